import PyProof.Rows.All
import Wide.All
import OpenK.AllK
import Wide.FinOn
import PySem.Challenge.RW_nt0292_01
set_option linter.all false
set_option Elab.async false
set_option genSizeOf false
set_option genSizeOfSpec false
set_option genInjectivity false
set_option genCtorIdx false
set_option bootstrap.genMatcherCode false
set_option tactic.hygienic false
namespace LW.Internal
open Array renaming length_toList->xI,mk->Ee,getElem?_eq_getElem->Jj,toArray_toList->JW,ext'->ME
open Bool renaming and_eq_true_iff->f7,noConfusion->kf,false_ne_true->kU,or_eq_true_iff->ug,and_true->Cq,or_true->Cz,rec->Ef,beq_eq_decide_eq->JF,or_eq_false_iff->JX,and_false->Lg,false_or->Ls
open Classical renaming em->kY,byContradiction->o8,propDecidable->q7
open Decidable renaming byContradiction->Jl
open False renaming elim->pP
open ForInStep renaming yield->nK
open Iff renaming rfl->sr
open Int renaming ofNat_lt->dN,natCast_nonneg->eK,ofNat_le->gy,ofNat->gB,toNat_natCast->hM,natCast_add->hV,ofNat_sub->jh,not_lt->jL,le_trans->kj,ofNat_inj->kX,add_assoc->my,le_refl->mB,toNat_of_nonneg->nE,add_comm->nL,dvd_of_emod_eq_zero->o9,eq_ofNat_of_zero_le->pd,add_zero->pI,mul_one->pL,sub_nonneg_of_le->rg,one_mul->rL,zero_mul->uy,negSucc->uz,add_sub_cancel->xM,lt_of_lt_of_le->xN,le_of_eq->yc,le_of_lt->yd,mul_zero->ye,dvd_sub->yf,emod_lt_of_pos->BK,mul_emod_left->BU,emod_nonneg->Ca,lt_trans->CA,sub_self->CB,add_mul->CK,neg_mul->CL,rec->Fh,add_mul_emod_self_left->Je,eq_of_sub_eq_zero->JI,sub_nonpos_of_le->J0,lt_of_le_of_lt->Kl,dvd_mul_right->Kw,ofNat_ne_zero->Kx,le_antisymm->K2,add_nonneg->Lh,add_nonpos->Li,mul_nonneg->Lj,ediv_one->LO,ne_of_gt->LQ,zero_add->LS
open List renaming replicate->aR,length_map->aY,length_append->bB,getElem?_eq_getElem->bL,mem_cons->cp,mem_singleton->cJ,getElem?_map->cO,length_replicate->dq,map_append->dw,size_toArray->dT,all_eq_true->dU,append_assoc->eT,length_take->eV,getD_eq_getElem?_getD->fc,lookup_cons->fy,contains_iff_mem->fG,getElem?_eq_none->fH,mem_cons_self->fI,mem_append->gw,map_cons->gx,append_nil->gO,length_drop->hU,map_map->ig,mem_map->ik,getElem?_eq_some_iff->iQ,getElem_mem->iR,lookup->iS,drop_eq_getElem_cons->jI,range->jM,mem_cons_of_mem->ka,drop_take->kh,drop_length->kW,getElem?_append_right->mu,length_pos_iff->mw,length_reverse->mx,length_eq_zero_iff->nD,length_cons->nG,take_length->nH,map->nR,getElem?_replicate->pg,idxOf_lt_length_of_mem->q6,append_eq_nil_iff->q8,mem_append_right->q9,mem_append_left->rh,mem_of_mem_take->rj,getElem_idxOf->rB,getLastD_cons->rC,reverse_cons->rD,any_toArray->rE,find?_cons->rF,mem_filter->rG,drop_drop->rJ,length->rM,getElem?_append_left->t5,pairwise_singleton->ua,getElem?_toArray->ub,length_range->ui,cons_ne_nil->uk,nil_append->uo,mem_range->ur,drop_nil->uv,range'->uA,drop_eq_nil_of_le->xB,pairwise_append->xG,filterMap_cons->xJ,map_eq_nil_iff->xK,contains_cons->xO,filter_append->xP,pairwise_cons->xQ,zip_cons_cons->xR,ext_getElem?->xS,take_add_one->xT,foldl_cons->x5,nodup_cons->x6,drop_zero->x7,map_drop->x8,take_nil->x9,idxOf->yo,cons->yB,getLast?_eq_getElem?->Br,filter_cons_of_pos->Bt,filter_eq_nil_iff->Bu,length_eq_one_iff->Bv,dropLast_eq_take->By,take_append_drop->Bz,getLast?_concat->BC,mem_of_getElem?->BD,mem_of_mem_drop->BE,append_toArray->BH,flatten_append->BJ,length_range'->BL,foldl_append->BV,getLast?_map->BX,idxOf_append->BY,map_reverse->B5,drop_left'->Cb,length_set->Cc,of_mem_zip->Cd,drop_left->Cm,nodup_nil->Cn,map_take->Cs,rec->Eg,take_succ_eq_append_getElem->Ja,getElem?_eq_none_iff->Jm,getLastD_eq_getLast?->Jn,dropWhile_sublist->JA,range_succ_eq_map->JB,concat_eq_append->JJ,count_cons_of_ne->JK,eq_nil_or_concat->JL,filter_replicate->JM,length_filter_le->JN,count_cons_self->J2,length_take_le'->J3,getElem?_range->Kd,find?_eq_none->Km,getElem?_drop->Kn,getLast?_cons->Ko,map_replicate->Kq,ne_nil_of_mem->Kr,any_eq_false->Ky,find?_append->Kz,getElem?_set->KA,nodup_append->KC,pairwise_map->KD,push_toArray->KG,any_eq_true->KL,getElem_map->KN,not_mem_nil->KO,forIn_cons->K3,map_const'->K4,take_left'->K5,zip_append->K6,take_take->Lk,all_cons->Lu,any_cons->Lv,contains->Lw,all_map->LU,map_nil->LV,map_set->LW
open List.Pairwise renaming filter->J1,of_cons->X6,sublist->X7,nil->Yl
open List.cons renaming inj->mz
open Nat renaming le_trans->ai,le_refl->aC,le_add_right->aL,lt_of_lt_of_le->aQ,zero_add->aU,not_lt->bc,lt_succ_self->bu,lt_of_le_of_lt->bC,zero_le->bJ,exists_eq_add_of_le->bS,add_comm->cb,add_assoc->cq,le_of_lt->cu,add_sub_cancel_left->cC,succ_add_eq_add_succ->cH,succ_le_succ->cK,le_of_succ_le->cL,le_antisymm->cX,le_add_left->df,le_of_eq->dA,add_right_comm->dK,not_lt_zero->dM,le_of_ble_eq_true->dR,sub_le->ew,add_lt_add_left->eE,lt_succ_of_lt->eL,le_succ->eM,le_of_lt_succ->eU,lt_of_succ_lt_succ->fe,add_le_add->ff,succ_pos->fh,add_sub_cancel'->fu,le_succ_of_le->fv,lt_trans->fK,lt_irrefl->gP,ne_of_lt->gQ,not_le->gR,lt_add_of_pos_right->hE,lt_of_le_of_ne->hF,ne_of_gt->ip,lt_or_eq_of_le->jf,min_eq_left->jg,zero_lt_of_lt->jJ,add_zero->jK,lt_succ_iff_lt_or_eq->j9,sub_lt_sub_left->kc,succ_ne_self->kg,add_le_add_right->kR,add_le_add_left->kT,succ_add->mA,one_pos->mC,lt_of_succ_lt->nF,succ_lt_succ->nJ,lt_or_ge->nM,sub_lt->nO,le_of_succ_le_succ->pj,add_sub_add_left->pq,pos_of_ne_zero->pv,lt_succ_of_le->px,lt_of_not_le->pz,min_le_right->pA,sub_le_sub_right->rn,mul_le_mul_left->rA,min_le_left->rH,lt_of_add_lt_add_left->t6,add_lt_add_right->uf,add_left_cancel->uh,add_sub_of_le->uj,exists_eq_add_of_le'->xy,exists_eq_add_of_lt->xA,lt_add_of_pos_left->xC,sub_le_iff_le_add'->xD,not_succ_le_zero->xH,add_sub_assoc->xU,sub_pos_of_lt->xV,le_of_not_le->xY,le_of_not_lt->xZ,le_zero->yg,two_pos->yh,exists_eq_succ_of_ne_zero->Bo,le_mul_of_pos_left->Bw,sub_eq_zero_of_le->BA,add_sub_cancel->BN,eq_zero_or_pos->BO,sub_add_cancel->BP,lt_trichotomy->BZ,sub_sub_self->B6,succ_ne_zero->B7,min_self->CD,sub_self->CE,one_mul->CN,two_mul->CO,max_le->CZ,add_lt_add_of_le_of_lt->Jf,add_lt_add_of_lt_of_le->Jh,mul_lt_mul_of_pos_left->Ji,le_of_add_le_add_left->Jo,eq_zero_of_not_pos->JC,add_sub_add_right->JO,add_add_add_comm->J4,div_le_div_right->J5,not_succ_le_self->J6,add_eq_zero_iff->Ke,sub_le_sub_left->Kf,add_pos_left->KU,max_eq_right->KV,max_eq_left->K7,mul_comm->LX,lt_min->MF
open Nat.succ renaming inj->iH
open Ne renaming symm->nX
open Option renaming map->rP,isSome_iff_exists->t7,isNone_iff_eq_none->Bs,bind_some->B8,map_eq_some_iff->JD
open Option.some renaming inj->dy,injEq->Ym
open Or renaming inl->GL
open Prod renaming fst->OK
open Prod.mk renaming inj->nN
open PyProof renaming noPylong_small->JE
open PyProof.Rows renaming tail_any->sq,Subscript_->C0,boot_bytes->C3,boot_str->Eo,meta_bytes->Jw,meta_str->JP,isTrue_and_nil->Lm,isTrue_or_nil->Lz,getItem_tuple->XU,floordiv_int->XW,len_tuple->X1,len_list->X8,mod_int'->X9,add_int->Yc,mul_int->Yd,sub_int->Ye
open PySem renaming Value->ag,Addr->aq,Shared->aB,wpAny_bind->aG,wpAny_pure->a9,Around->bD,Stmt->cf,Str->cM,wpAny_of_eq->f9,wpAny_holding->ic,World->iz,wpAny_mono->ji,NameKind->k7,call_meets->nQ,isSubtype_type->pC,wpAny_standAt->pH,preSum->pK,wpAny_rule->pR,builtinLookup_eq_fast->rf,typeLookup_type->rI,wpAny_mkInt->rO,call_gives->rQ,entryFor_of_tree->um,wpAny_seqItems->uu,signature?_of->ux,wpAny_assign_Name->xW,wpAny_pyIter_list->xX,eval_Constant->ya,wpAny_call->yA,wpAny_truthy_bool->B2,call_isinstance->Ce,wpAny_execs_nil->Cj,argBest->Cu,strKind->Cv,wpAny_UnaryOp->Cy,sizeLine_eq->CX,wpAny_Name->Dl,isinstance_nested_false_bytes->Jc,wpAny_list_append_plain->Jy,wpAny_loadName_local->Kb,arm_eval_Call_Name'->Kg,wpAny_loadName_cell->Kh,wpAny_loadName_free->Ki,wpAny_setSeqItemAt->Kt,wpAny_tupleItemsOf->Ku,slot_list_setitem->KH,wpAny_pyIter_enum->KI,wpAny_call_entry->KY,wpAny_forIn_list->KZ,wpAny_pyIter_zip->K0,wpAny_ite_split->Lf,wpAny_loadPart->Lq,wpAny_newTuple->Lr,wpAny_newList->LL,wpAny_release->LM
open PySem.AutoIntOps renaming iadd_0->Yj,isub_0->Yk
open PySem.Builtin.Bytes renaming find?->rt,window->ue,joined->xF,isAlpha->Bx,allOf->BG,takeBufferQuiet?->Jb,takeBuffer?->Jk,joinItems->Jv,isSpace->JG,bound?->JY,stripM->JZ,fullReadOnly->XS,searchArgs->XX,bytesLike->XY,joinLetGo->XZ,isLower->X2,isUpper->X3,searchM->X4,joinM->Yg
open PySem.Builtin.Bytes.Kind renaming bytes->Jt
open PySem.Builtin.Bytes.joinM renaming match_1->XO
open PySem.Builtin.Dict renaming keyAndDefault->XT
open PySem.Builtin.Int renaming intBits->Yh
open PySem.Builtin.List renaming listTooLong->xw,listFitsIndex->Bq,listSubscript?->XQ,listItems->X0
open PySem.Builtin.Range renaming rangeSize->mr,rangeSize->t9,small->Kc,rangeFitsLong->XR
open PySem.Builtin.Tuple renaming tupleCompareSizes->Bn
open PySem.Challenge renaming pw_nt0292_01->fq,rw_nt0292_01->Bp
open PySem.Code renaming builtin->LN
open PySem.Expr renaming noConfusion->B3,Name->Dm
open PySem.F renaming slot_bool_eq->BF,slot_dict_setdefault->Jd,slot_dict_getitem->Jp,slot_list_getitem->Jq,slot_list_reverse->Js,slot_list_extend->Ju,sub_bytes_bytes->Jx,args_int_eq_2->JQ,slot_dict_get->JR,slot_int_rmul->JS,slot_list_pop->JT,slot_tuple_lt->JU,sub_bytes_str->JV,entry_int_eq->J8
open PySem.Flow renaming next->Ni
open PySem.Heap renaming SameBut->fJ,get?_push_size->kb,lt_size->ki,get?_push_of_some->ph,get?_update_self->xE,size_push->Ck
open PySem.Heap.DictOf renaming new->K1
open PySem.Heap.DictOfH renaming new->Yn
open PySem.Heap.IsSliceOf renaming new->Kk
open PySem.Heap.IsTuple renaming typeIs->Yi
open PySem.Heap.PlainList renaming isList->X5
open PySem.Heap.SameBut renaming update->kS
open PySem.IsRange renaming new->CM
open PySem.NameKind renaming free->hZ,cell->uw
open PySem.Obj renaming putName->CP,data_mapDictKeys->J7
open PySem.P renaming neg_int->K8
open PySem.PyData renaming keyHash->pB
open PySem.SeqAt renaming rc_eq_decline_or->KX
open PySem.Value renaming bytes->CQ,notImplemented->J9,int->Nj
open PySem.W renaming boot_heap->iI,dictOf->mE,typeIs_bytes->rq,boot_drawn->uB,boot_toks->uE,plainGet_of->CS
open PySem.W.FB renaming owner_bytes->uq,slot_bytes_eq->B4,slot_bytes_getitem->JH,args_bytes_eq_2->Kj,entry_bytes_eq->Kv
open PySem.W.KBy renaming buffer_eq->Cr
open PySem.W.WShape renaming hasItems->K9
open PySem.Walks renaming list->C1
open Std.Legacy.Range renaming forIn_eq_forIn_range'->XN,size->Yb
open Sum renaming inr->zo,inl->Fi
open Sum.inr renaming inj->Mg
open UInt8 renaming ofNat->yj
section
@[elab_as_elim] theorem li{α:Type}{p:List α->Prop}(n:p [])(c:∀a l,p l->p (a::l))(l:List α):p l:=Eg n c l
@[elab_as_elim] theorem ni{p:Nat->Prop}(z:p 0)(s:∀n,p n->p (n+1))(n:Nat):p n:=Nat.rec z s n
@[elab_as_elim] theorem nz{p:Nat->Prop}(z:p 0)(s:∀n,p (n+1))(n:Nat):p n:=Nat.rec z (λn _=>s n) n
@[elab_as_elim] theorem l3{p:Nat->Prop}{n:Nat}(h:n<3)(a:p 0)(b:p 1)(c:p 2):p n:=nz (p:=λn=>n<3->p n) (λ_=>a) (nz (p:=λn=>n+1<3->p (n+1)) (λ_=>b) (nz (p:=λn=>n+2<3->p (n+2)) (λ_=>c) λn h=>absurd h (bc.2 (df 3 n)))) n h
@[elab_as_elim] theorem l4{p:Nat->Prop}{n:Nat}(h:n<4)(a:p 0)(b:p 1)(c:p 2)(d:p 3):p n:=nz (p:=λn=>n<4->p n) (λ_=>a) (nz (p:=λn=>n+1<4->p (n+1)) (λ_=>b) (nz (p:=λn=>n+2<4->p (n+2)) (λ_=>c) (nz (p:=λn=>n+3<4->p (n+3)) (λ_=>d) λn h=>absurd h (bc.2 (df 4 n))))) n h
@[elab_as_elim] theorem qY{α β:Type}{p:α×β->Prop}(h:∀a b,p (a,b))(s:α×β):p s:=h s.1 s.2
@[elab_as_elim] theorem oW{α β γ:Type}{p:α×β×γ->Prop}(h:∀a b c,p (a,b,c))(s:α×β×γ):p s:=h s.1 s.2.1 s.2.2
@[elab_as_elim] theorem XA{α β γ δ ε:Type}{p:α×β×γ×δ×ε->Prop}(h:∀a b c d e,p (a,b,c,d,e))(s:α×β×γ×δ×ε):p s:=h s.1 s.2.1 s.2.2.1 s.2.2.2.1 s.2.2.2.2
@[elab_as_elim] theorem lz{α:Type}{p:List α->Prop}(n:p [])(c:∀a l,p (a::l))(l:List α):p l:=Eg n (λa l _=>c a l) l
theorem nn{α:Type}{a:α}{p:Prop}(h:none=some a):p:=Option.noConfusion rfl (heq_of_eq h)
theorem nb{p:Prop}(h:true=false):p:=kf h
theorem bn{p:Prop}(h:false=true):p:=kf h
theorem nm{α:Type}{a:α}{p:Prop}(h:a∈([]:List α)):p:=absurd h KO
theorem nc{α:Type}{a:α}{l:List α}{p:Prop}(h:a::l=[]):p:=absurd h (uk a l)
theorem sn{α:Type}{a:α}{p:Prop}(h:some a=none):p:=nn h.symm
theorem aT{P0 P1:Prop}{G:Prop}(h:P0/\P1)(k:P0->P1->G):G:=k h.1 h.2
theorem g8{P0 P1 P2:Prop}{G:Prop}(h:P0/\P1/\P2)(k:P0->P1->P2->G):G:=k h.1 h.2.1 h.2.2
theorem nC{P0 P1 P2 P3:Prop}{G:Prop}(h:P0/\P1/\P2/\P3)(k:P0->P1->P2->P3->G):G:=k h.1 h.2.1 h.2.2.1 h.2.2.2
theorem I5{P0 P1 P2 P3 P4:Prop}{G:Prop}(h:P0/\P1/\P2/\P3/\P4)(k:P0->P1->P2->P3->P4->G):G:=k h.1 h.2.1 h.2.2.1 h.2.2.2.1 h.2.2.2.2
theorem XF{P0 P1 P2 P3 P4 P5:Prop}{G:Prop}(h:P0/\P1/\P2/\P3/\P4/\P5)(k:P0->P1->P2->P3->P4->P5->G):G:=k h.1 h.2.1 h.2.2.1 h.2.2.2.1 h.2.2.2.2.1 h.2.2.2.2.2
theorem bA{α:Type}{P0:α->Prop}{G:Prop}(h:∃a,P0 a)(k:∀a,P0 a->G):G:=h.elim λa z=>k a z
theorem ar{α:Type}{P0 P1:α->Prop}{G:Prop}(h:∃a,P0 a/\P1 a)(k:∀a,P0 a->P1 a->G):G:=h.elim λa z=>k a z.1 z.2
theorem cm{α:Type}{P0 P1 P2:α->Prop}{G:Prop}(h:∃a,P0 a/\P1 a/\P2 a)(k:∀a,P0 a->P1 a->P2 a->G):G:=h.elim λa z=>k a z.1 z.2.1 z.2.2
theorem oZ{α:Type}{P0 P1 P2 P3:α->Prop}{G:Prop}(h:∃a,P0 a/\P1 a/\P2 a/\P3 a)(k:∀a,P0 a->P1 a->P2 a->P3 a->G):G:=h.elim λa z=>k a z.1 z.2.1 z.2.2.1 z.2.2.2
theorem XG{α:Type}{P0 P1 P2 P3 P4:α->Prop}{G:Prop}(h:∃a,P0 a/\P1 a/\P2 a/\P3 a/\P4 a)(k:∀a,P0 a->P1 a->P2 a->P3 a->P4 a->G):G:=h.elim λa z=>k a z.1 z.2.1 z.2.2.1 z.2.2.2.1 z.2.2.2.2
theorem XH{α β:Type}{P0:α->β->Prop}{G:Prop}(h:∃a b,P0 a b)(k:∀a b,P0 a b->G):G:=h.elim λa z=>z.elim λb z=>k a b z
theorem g9{α β:Type}{P0 P1:α->β->Prop}{G:Prop}(h:∃a b,P0 a b/\P1 a b)(k:∀a b,P0 a b->P1 a b->G):G:=h.elim λa z=>z.elim λb z=>k a b z.1 z.2
theorem cG{α β:Type}{P0 P1 P2:α->β->Prop}{G:Prop}(h:∃a b,P0 a b/\P1 a b/\P2 a b)(k:∀a b,P0 a b->P1 a b->P2 a b->G):G:=h.elim λa z=>z.elim λb z=>k a b z.1 z.2.1 z.2.2
theorem xq{α β:Type}{P0 P1 P2 P3:α->β->Prop}{G:Prop}(h:∃a b,P0 a b/\P1 a b/\P2 a b/\P3 a b)(k:∀a b,P0 a b->P1 a b->P2 a b->P3 a b->G):G:=h.elim λa z=>z.elim λb z=>k a b z.1 z.2.1 z.2.2.1 z.2.2.2
theorem o7{α β:Type}{P0 P1 P2 P3 P4:α->β->Prop}{G:Prop}(h:∃a b,P0 a b/\P1 a b/\P2 a b/\P3 a b/\P4 a b)(k:∀a b,P0 a b->P1 a b->P2 a b->P3 a b->P4 a b->G):G:=h.elim λa z=>z.elim λb z=>k a b z.1 z.2.1 z.2.2.1 z.2.2.2.1 z.2.2.2.2
theorem qZ{α β γ:Type}{P0 P1:α->β->γ->Prop}{G:Prop}(h:∃a b c,P0 a b c/\P1 a b c)(k:∀a b c,P0 a b c->P1 a b c->G):G:=h.elim λa z=>z.elim λb z=>z.elim λc z=>k a b c z.1 z.2
theorem kQ{α β γ:Type}{P0 P1 P2:α->β->γ->Prop}{G:Prop}(h:∃a b c,P0 a b c/\P1 a b c/\P2 a b c)(k:∀a b c,P0 a b c->P1 a b c->P2 a b c->G):G:=h.elim λa z=>z.elim λb z=>z.elim λc z=>k a b c z.1 z.2.1 z.2.2
theorem XI{α β γ:Type}{P0 P1 P2 P3:α->β->γ->Prop}{G:Prop}(h:∃a b c,P0 a b c/\P1 a b c/\P2 a b c/\P3 a b c)(k:∀a b c,P0 a b c->P1 a b c->P2 a b c->P3 a b c->G):G:=h.elim λa z=>z.elim λb z=>z.elim λc z=>k a b c z.1 z.2.1 z.2.2.1 z.2.2.2
theorem I6{α β γ:Type}{P0 P1 P2 P3 P4:α->β->γ->Prop}{G:Prop}(h:∃a b c,P0 a b c/\P1 a b c/\P2 a b c/\P3 a b c/\P4 a b c)(k:∀a b c,P0 a b c->P1 a b c->P2 a b c->P3 a b c->P4 a b c->G):G:=h.elim λa z=>z.elim λb z=>z.elim λc z=>k a b c z.1 z.2.1 z.2.2.1 z.2.2.2.1 z.2.2.2.2
theorem xr{α β γ:Type}{P0 P1 P2 P3 P4 P5:α->β->γ->Prop}{G:Prop}(h:∃a b c,P0 a b c/\P1 a b c/\P2 a b c/\P3 a b c/\P4 a b c/\P5 a b c)(k:∀a b c,P0 a b c->P1 a b c->P2 a b c->P3 a b c->P4 a b c->P5 a b c->G):G:=h.elim λa z=>z.elim λb z=>z.elim λc z=>k a b c z.1 z.2.1 z.2.2.1 z.2.2.2.1 z.2.2.2.2.1 z.2.2.2.2.2
theorem I7{α β γ δ:Type}{P0:α->β->γ->δ->Prop}{G:Prop}(h:∃a b c d,P0 a b c d)(k:∀a b c d,P0 a b c d->G):G:=h.elim λa z=>z.elim λb z=>z.elim λc z=>z.elim λd z=>k a b c d z
theorem I8{α β γ δ:Type}{P0 P1:α->β->γ->δ->Prop}{G:Prop}(h:∃a b c d,P0 a b c d/\P1 a b c d)(k:∀a b c d,P0 a b c d->P1 a b c d->G):G:=h.elim λa z=>z.elim λb z=>z.elim λc z=>z.elim λd z=>k a b c d z.1 z.2
theorem XJ{α β γ δ:Type}{P0 P1 P2:α->β->γ->δ->Prop}{G:Prop}(h:∃a b c d,P0 a b c d/\P1 a b c d/\P2 a b c d)(k:∀a b c d,P0 a b c d->P1 a b c d->P2 a b c d->G):G:=h.elim λa z=>z.elim λb z=>z.elim λc z=>z.elim λd z=>k a b c d z.1 z.2.1 z.2.2
theorem xt{α β γ δ:Type}{P0 P1 P2 P3:α->β->γ->δ->Prop}{G:Prop}(h:∃a b c d,P0 a b c d/\P1 a b c d/\P2 a b c d/\P3 a b c d)(k:∀a b c d,P0 a b c d->P1 a b c d->P2 a b c d->P3 a b c d->G):G:=h.elim λa z=>z.elim λb z=>z.elim λc z=>z.elim λd z=>k a b c d z.1 z.2.1 z.2.2.1 z.2.2.2
theorem I9{α β γ δ:Type}{P0 P1 P2 P3 P4:α->β->γ->δ->Prop}{G:Prop}(h:∃a b c d,P0 a b c d/\P1 a b c d/\P2 a b c d/\P3 a b c d/\P4 a b c d)(k:∀a b c d,P0 a b c d->P1 a b c d->P2 a b c d->P3 a b c d->P4 a b c d->G):G:=h.elim λa z=>z.elim λb z=>z.elim λc z=>z.elim λd z=>k a b c d z.1 z.2.1 z.2.2.1 z.2.2.2.1 z.2.2.2.2
theorem Bm{α β γ δ ε:Type}{P0 P1:α->β->γ->δ->ε->Prop}{G:Prop}(h:∃a b c d e,P0 a b c d e/\P1 a b c d e)(k:∀a b c d e,P0 a b c d e->P1 a b c d e->G):G:=h.elim λa z=>z.elim λb z=>z.elim λc z=>z.elim λd z=>z.elim λe z=>k a b c d e z.1 z.2
theorem tZ{α β γ δ ε:Type}{P0 P1 P2:α->β->γ->δ->ε->Prop}{G:Prop}(h:∃a b c d e,P0 a b c d e/\P1 a b c d e/\P2 a b c d e)(k:∀a b c d e,P0 a b c d e->P1 a b c d e->P2 a b c d e->G):G:=h.elim λa z=>z.elim λb z=>z.elim λc z=>z.elim λd z=>z.elim λe z=>k a b c d e z.1 z.2.1 z.2.2
theorem xu{α β γ δ ε:Type}{P0 P1 P2 P3:α->β->γ->δ->ε->Prop}{G:Prop}(h:∃a b c d e,P0 a b c d e/\P1 a b c d e/\P2 a b c d e/\P3 a b c d e)(k:∀a b c d e,P0 a b c d e->P1 a b c d e->P2 a b c d e->P3 a b c d e->G):G:=h.elim λa z=>z.elim λb z=>z.elim λc z=>z.elim λd z=>z.elim λe z=>k a b c d e z.1 z.2.1 z.2.2.1 z.2.2.2
theorem XM{α β γ δ ε:Type}{P0 P1 P2 P3 P4:α->β->γ->δ->ε->Prop}{G:Prop}(h:∃a b c d e,P0 a b c d e/\P1 a b c d e/\P2 a b c d e/\P3 a b c d e/\P4 a b c d e)(k:∀a b c d e,P0 a b c d e->P1 a b c d e->P2 a b c d e->P3 a b c d e->P4 a b c d e->G):G:=h.elim λa z=>z.elim λb z=>z.elim λc z=>z.elim λd z=>z.elim λe z=>k a b c d e z.1 z.2.1 z.2.2.1 z.2.2.2.1 z.2.2.2.2
theorem XK{α β γ δ:Type}{P0 P1 P2 P3 P4 P5 P6:α->β->γ->δ->Prop}{G:Prop}(h:∃a b c d,P0 a b c d/\P1 a b c d/\P2 a b c d/\P3 a b c d/\P4 a b c d/\P5 a b c d/\P6 a b c d)(k:∀a b c d,P0 a b c d->P1 a b c d->P2 a b c d->P3 a b c d->P4 a b c d->P5 a b c d->P6 a b c d->G):G:=h.elim λa z=>z.elim λb z=>z.elim λc z=>z.elim λd z=>k a b c d z.1 z.2.1 z.2.2.1 z.2.2.2.1 z.2.2.2.2.1 z.2.2.2.2.2.1 z.2.2.2.2.2.2
inductive NE where
 |v (i:Nat)
 |k (n:Nat)
 |a (x y:NE)
 |m (n:Nat) (x:NE)
 |r (x:NE) (n:Nat)
inductive IE where
 |v (i:Nat)
 |k (n:Nat)
 |c (x:NE)
 |a (x y:IE)
 |s (x y:IE)
 |o (x:IE)
 |m (n:Nat) (x:IE)
 |r (x:IE) (n:Nat)
noncomputable abbrev NE.v0:=NE.v 0
noncomputable abbrev NE.v1:=NE.v 1
noncomputable abbrev NE.v2:=NE.v 2
noncomputable abbrev NE.v3:=NE.v 3
noncomputable abbrev NE.v4:=NE.v 4
noncomputable abbrev NE.v5:=NE.v 5
noncomputable abbrev NE.v6:=NE.v 6
noncomputable abbrev NE.v7:=NE.v 7
noncomputable abbrev NE.v8:=NE.v 8
noncomputable abbrev NE.v9:=NE.v 9
noncomputable abbrev IE.v0:=IE.v 0
noncomputable abbrev IE.c0:=IE.c (.v 0)
noncomputable abbrev IE.v1:=IE.v 1
noncomputable abbrev IE.c1:=IE.c (.v 1)
noncomputable abbrev IE.v2:=IE.v 2
noncomputable abbrev IE.c2:=IE.c (.v 2)
noncomputable abbrev IE.v3:=IE.v 3
noncomputable abbrev IE.c3:=IE.c (.v 3)
noncomputable abbrev IE.v4:=IE.v 4
noncomputable abbrev IE.c4:=IE.c (.v 4)
noncomputable abbrev IE.v5:=IE.v 5
noncomputable abbrev IE.c5:=IE.c (.v 5)
noncomputable abbrev IE.v6:=IE.v 6
noncomputable abbrev IE.c6:=IE.c (.v 6)
noncomputable abbrev IE.v7:=IE.v 7
noncomputable abbrev IE.c7:=IE.c (.v 7)
noncomputable abbrev IE.v8:=IE.v 8
noncomputable abbrev IE.v9:=IE.v 9
noncomputable abbrev NE.k0:=NE.k 0
noncomputable abbrev IE.k0:=IE.k 0
noncomputable abbrev NE.k1:=NE.k 1
noncomputable abbrev IE.k1:=IE.k 1
noncomputable def wW:List Nat->Nat->Nat
 |[],_=>0
 |x::r,i=>match i with
  |0=>x
  |i+1=>wW r i
noncomputable def wV:List Int->Nat->Int
 |[],_=>0
 |x::r,i=>match i with
  |0=>x
  |i+1=>wV r i
noncomputable def NE.d(c:List Nat):NE->Nat
 |.v i=>wW c i
 |.k n=>n
 |.a x y=>x.d c+y.d c
 |.m n x=>n*x.d c
 |.r x n=>x.d c*n
noncomputable def IE.d(c:List Nat)(e:List Int):IE->Int
 |.v i=>wV e i
 |.k n=>gB n
 |.c x=>((x.d c:Nat):Int)
 |.a x y=>x.d c e+y.d c e
 |.s x y=>x.d c e-y.d c e
 |.o x=>-x.d c e
 |.m n x=>gB n*x.d c e
 |.r x n=>x.d c e*gB n
noncomputable def fD:List Int->List Int->List Int
 |[],q=>q
 |a::p,q=>match q with
  |[]=>a::p
  |b::q=>(a+b)::fD p q
noncomputable def eQ(k:Int)(p:List Int):List Int:=p.map (k*·)
noncomputable def tI:Nat->List Int
 |0=>[1]
 |j+1=>0::tI j
noncomputable def j5:Nat->Nat
 |0=>0
 |n+1=>j5 n+2
noncomputable def NE.p:NE->List Int
 |.v i=>tI (j5 i+1)
 |.k n=>[gB n]
 |.a x y=>fD x.p y.p
 |.m n x=>eQ (gB n) x.p
 |.r x n=>eQ (gB n) x.p
noncomputable def IE.p:IE->List Int
 |.v i=>tI (j5 i+2)
 |.k n=>[gB n]
 |.c x=>x.p
 |.a x y=>fD x.p y.p
 |.s x y=>fD x.p (eQ (-1) y.p)
 |.o x=>eQ (-1) x.p
 |.m n x=>eQ (gB n) x.p
 |.r x n=>eQ (gB n) x.p
noncomputable def pE(f:Nat->Int):Nat->List Int->Int
 |_,[]=>0
 |j,a::p=>a*f j+pE f (j+1) p
theorem oq(f:Nat->Int):∀(p q:List Int)(j:Nat),pE f j (fD p q)=pE f j p+pE f j q
 :=λrr=>li (λq j=>(LS _).symm) (λa p ih q j=>lz (pI _).symm (λb q=>by
  show(a+b)*f j+pE f (j+1) (fD p q)=(a*f j+pE f (j+1) p)+(b*f j+pE f (j+1) q);rw[ih q,CK,my,my,Int.add_left_comm (b*f j)]) q) rr
theorem jv(f:Nat->Int)(k:Int):∀(p:List Int)(j:Nat),pE f j (eQ k p)=k*pE f j p:=λrr=>li (λj=>(ye k).symm)
 (λa p ih j=>by
  show k*a*f j+pE f (j+1) (eQ k p)=k*(a*f j+pE f (j+1) p);rw[ih,Int.mul_add,Int.mul_assoc]) rr
theorem Hz(f:Nat->Int):∀(i j:Nat),pE f j (tI i)=f (j+i):=λrr=>ni (λj=>(pI _).trans (rL _))
 (λi ih j=>((congrArg (·+pE f (j+1) (tI i)) (uy (f j))).trans (LS _)).trans ((ih (j+1)).trans (congrArg f (cH j i)))) rr
noncomputable def da(c:List Nat)(e:List Int):Nat->Int
 |0=>1
 |1=>wW c 0
 |2=>wV e 0
 |n+3=>da c.tail e.tail (n+1)
theorem wg:∀(i:Nat)(c:List Nat)(e:List Int),da c e (j5 i+1)=wW c i
 |0,_,_=>rfl
 |i+1,[],e=>(wg i [] e.tail).trans rfl
 |i+1,_::c,e=>wg i c e.tail
theorem Ar:∀(i:Nat)(c:List Nat)(e:List Int),da c e (j5 i+2)=wV e i
 |0,_,_=>rfl
 |i+1,c,[]=>(Ar i c.tail []).trans rfl
 |i+1,c,_::e=>Ar i c.tail e
section
variable(c:List Nat)(e:List Int)
theorem wZ(n:Int):pE (da c e) 0 [n]=n:=(pI _).trans (pL n)
theorem i9(x:NE):pE (da c e) 0 x.p=(x.d c:Nat):=NE.rec (motive:=λx=>pE (da c e) 0 x.p=(x.d c:Nat))
 (λi=>(Hz _ (j5 i+1) 0).trans (by rw[aU];exact wg i c e))
 (λn=>wZ c e _)
 (λx y h k=>by show pE _ 0 (fD x.p y.p) = _;rw[oq,h,k];rfl)
 (λn x h=>by show pE _ 0 (eQ _ x.p) = _;rw[jv,h];rfl)
 (λx n h=>by show pE _ 0 (eQ _ x.p)=((x.d c*n:Nat):Int);rw[jv,h,LX];rfl) x
theorem jy(x:IE):pE (da c e) 0 x.p=x.d c e:=IE.rec (motive:=λx=>pE (da c e) 0 x.p=x.d c e)
 (λi=>(Hz _ (j5 i+2) 0).trans (by rw[aU];exact Ar i c e))
 (λn=>wZ c e _)
 (λx=>i9 c e x)
 (λx y h k=>by show pE _ 0 (fD x.p y.p) = _;rw[oq,h,k];rfl)
 (λx y h k=>by show pE _ 0 (fD x.p (eQ (-1) y.p))=x.d c e-y.d c e;rw[oq,jv,h,k,CL,rL];rfl)
 (λx h=>by show pE _ 0 (eQ (-1) x.p) = -x.d c e;rw[jv,h,CL,rL])
 (λn x h=>by show pE _ 0 (eQ _ x.p) = _;rw[jv,h];rfl)
 (λx n h=>by show pE _ 0 (eQ _ x.p)=x.d c e*gB n;rw[jv,h,Int.mul_comm]) x
end
inductive LC where
 |ln (x y:NE)
 |tn (x y:NE)
 |en (x y:NE)
 |li (x y:IE)
 |ti (x y:IE)
 |ei (x y:IE)
def LC.d(c:List Nat)(e:List Int):LC->Prop
 |.ln x y=>x.d c<=y.d c
 |.tn x y=>x.d c<y.d c
 |.en x y=>x.d c=y.d c
 |.li x y=>x.d c e<=y.d c e
 |.ti x y=>x.d c e<y.d c e
 |.ei x y=>x.d c e=y.d c e
noncomputable def dJ(p q:List Int):List Int:=fD q (eQ (-1) p)
noncomputable def LC.q:LC->List Int
 |.ln x y=>dJ x.p y.p
 |.tn x y=>fD [-1] (dJ x.p y.p)
 |.en x y=>dJ x.p y.p
 |.li x y=>dJ x.p y.p
 |.ti x y=>fD [-1] (dJ x.p y.p)
 |.ei x y=>dJ x.p y.p
noncomputable def LC.g:LC->List Int
 |.ln x y=>fD [-1] (dJ y.p x.p)
 |.tn x y=>dJ y.p x.p
 |.en _ _=>[1]
 |.li x y=>fD [-1] (dJ y.p x.p)
 |.ti x y=>dJ y.p x.p
 |.ei _ _=>[1]
noncomputable def LC.t(k:Int)(l:LC):List Int:=match k with
 |.ofNat n=>eQ (.ofNat n) l.q
 |.negSucc n=>match l with
  |.en x y=>eQ (.negSucc n) (dJ x.p y.p)
  |.ei x y=>eQ (.negSucc n) (dJ x.p y.p)
  |_=>[1]
noncomputable def Ax:Int->Bool
 |.ofNat _=>false
 |.negSucc _=>true
noncomputable def xm:Int->Bool
 |.ofNat n=>match n with
  |0=>true
  |_+1=>false
 |.negSucc _=>false
noncomputable def xo:Bool->List Int->Bool
 |_,[]=>true
 |b,a::p=>((!b&&Ax a)||xm a)&&xo (!b) p
noncomputable def xp:List Int->Bool
 |[]=>false
 |a::p=>Ax a&&xo false p
noncomputable def oQ:List (Int×LC)->List Int->List Int
 |[],p=>p
 |h::hs,p=>oQ hs (fD p (h.2.t h.1))
def oK(c:List Nat)(e:List Int)(G:Prop):List (Int×LC)->Prop
 |[]=>G
 |h::hs=>h.2.d c e->oK c e G hs
theorem Hp:∀{a:Int},xm a=true->a=0
 |.ofNat 0,_=>rfl
theorem EI:∀{a:Int},Ax a=true->a<0
 |.negSucc n,_=>Int.negSucc_lt_zero n
theorem Uo{f:Nat->Int}(H:∀i,0<=f (j5 i+1)):∀(p:List Int)(i:Nat),(xo false p=true->pE f (j5 i+1) p<=0)/\(xo true p=true->pE f (j5 i+2) p<=0):=λrr=>li (λ_=>⟨λ_=>mB 0,λ_=>mB 0⟩)
 (λa p ih i=>by
  have z:xm a=true->∀j,a*f j=0:=λh j=>by rw[Hp h];exact uy _
  refine⟨λh=>?_,λh=>?_⟩
  ·have h:=f7.1 h;refine Li ((ug.1 h.1).elim (λk=>?_) λk=>yc (z k _)) ((ih i).2 h.2);exact Int.mul_nonpos_of_nonpos_of_nonneg (yd (EI k)) (H i)
  ·have h:=f7.1 h;exact Li ((ug.1 h.1).elim (λk=>nomatch k) λk=>yc (z k _)) ((ih (i+1)).1 h.2)) rr
section
variable{c:List Nat}{e:List Int}
theorem QZ(i:Nat):0<=da c e (j5 i+1):=by rw[wg];exact eK _
theorem Up:∀{p:List Int},xp p=true->pE (da c e) 0 p<0
 |a::p,h=>by
  have h:=f7.1 h;exact Int.add_neg_of_neg_of_nonpos ((pL a).symm▸EI h.1) ((Uo QZ p 0).1 h.2)
theorem lI(p q:List Int):pE (da c e) 0 (dJ p q)=pE (da c e) 0 q-pE (da c e) 0 p:=by
 unfold dJ;rw[oq,jv,CL,rL];rfl
theorem vK(p q:List Int):pE (da c e) 0 (fD [-1] (dJ p q))=pE (da c e) 0 q-pE (da c e) 0 p-1:=by
 rw[oq,lI,wZ,nL];rfl
theorem i1{a b:Int}(h:a<b):0<=b-a-1:=rg (Int.le_sub_right_of_add_le (by rw[nL];exact h))
theorem wI{x y:NE}(h:x.d c=y.d c):pE (da c e) 0 (dJ x.p y.p)=0:=by rw[lI,i9,i9,h,CB]
theorem wH{x y:IE}(h:x.d c e=y.d c e):pE (da c e) 0 (dJ x.p y.p)=0:=by rw[lI,jy,jy,h,CB]
theorem Wr{l:LC}:l.d c e->0<=pE (da c e) 0 l.q:=LC.rec (motive:=λl=>l.d c e->0<=pE (da c e) 0 l.q)
 (λx y h=>by show 0<=pE _ 0 (dJ x.p y.p);rw[lI,i9,i9];exact rg (gy.2 h))
 (λx y h=>by show 0<=pE _ 0 (fD [-1] (dJ x.p y.p));rw[vK,i9,i9];exact i1 (dN.2 h))
 (λx y h=>yc (wI h).symm)
 (λx y h=>by show 0<=pE _ 0 (dJ x.p y.p);rw[lI,jy,jy];exact rg h)
 (λx y h=>by show 0<=pE _ 0 (fD [-1] (dJ x.p y.p));rw[vK,jy,jy];exact i1 h)
 (λx y h=>yc (wH h).symm) l
theorem qB:0<=pE (da c e) 0 [1]:=by rw[wZ];decide
theorem Wu{k:Int}{l:LC}:l.d c e->0<=pE (da c e) 0 (l.t k):=Fh (motive:=λk=>l.d c e->0<=pE (da c e) 0 (l.t k))
 (λn h=>by show 0<=pE _ 0 (eQ _ l.q);rw[jv];exact Lj (eK n) (Wr h))
 (λn=>LC.rec (motive:=λl=>l.d c e->0<=pE (da c e) 0 (l.t (.negSucc n))) (λ_ _ _=>qB) (λ_ _ _=>qB)
  (λx y h=>by show 0<=pE _ 0 (eQ _ (dJ x.p y.p));rw[jv,wI h,ye];exact mB 0)
  (λ_ _ _=>qB) (λ_ _ _=>qB)
  (λx y h=>by show 0<=pE _ 0 (eQ _ (dJ x.p y.p));rw[jv,wH h,ye];exact mB 0) l) k
theorem Hm{G:Prop}:∀{hs:List (Int×LC)}{p:List Int},xp (oQ hs p)=true->(¬G->0<=pE (da c e) 0 p)->oK c e G hs:=λ{rr}=>@(li (λ{p}h k=>o8 λn=>absurd (Up (c:=c) (e:=e) h) (jL.2 (k n)))
 (λl hs ih{p}h k=>λhl=>ih h λn=>by rw[oq];exact Lh (k n) (Wu hl)) rr)
theorem Wf{l:LC}:¬l.d c e->0<=pE (da c e) 0 l.g:=LC.rec (motive:=λl=>¬l.d c e->0<=pE (da c e) 0 l.g)
 (λx y h=>by show 0<=pE _ 0 (fD [-1] (dJ y.p x.p));rw[vK,i9,i9];exact i1 (dN.2 (gR.1 h)))
 (λx y h=>by show 0<=pE _ 0 (dJ y.p x.p);rw[lI,i9,i9];exact rg (gy.2 (bc.1 h)))
 (λ_ _ _=>qB)
 (λx y h=>by show 0<=pE _ 0 (fD [-1] (dJ y.p x.p));rw[vK,jy,jy];exact i1 (Int.not_le.1 h))
 (λx y h=>by show 0<=pE _ 0 (dJ y.p x.p);rw[lI,jy,jy];exact rg (jL.1 h))
 (λ_ _ _=>qB) l
theorem au(c:List Nat)(e:List Int)(g:LC)(k:Nat)(hs:List (Int×LC))(h:xp (oQ hs (eQ (gB k) g.g))=true):oK c e (g.d c e) hs:=Hm h λn=>by rw[jv];exact Lj (eK k) (Wf n)
theorem fQ(c:List Nat)(e:List Int)(hs:List (Int×LC))(h:xp (oQ hs [])=true):oK c e False hs:=Hm h λ_=>mB 0
noncomputable def LC.isE:LC->Bool
 |.en _ _=>true
 |.ei _ _=>true
 |_=>false
noncomputable def wB:List (Int×LC)->Bool
 |[]=>true
 |h::hs=>h.2.isE&&wB hs
noncomputable def tC:List Int->Bool
 |[]=>true
 |a::p=>xm a&&tC p
theorem QW{f:Nat->Int}:∀{p:List Int}{j:Nat},tC p=true->pE f j p=0:=λ{rr}=>@(li (λ{_}_=>rfl)
 (λa p ih{j}h=>by
  have h:=f7.1 h;show a*f j+pE f (j+1) p=0;rw[Hp h.1,ih h.2,uy];rfl) rr)
theorem wU{f:Nat->Int}{n:Int}{p:List Int}(h:pE f 0 p=0):pE f 0 (eQ n p)=0:=by rw[jv,h,ye]
theorem Wb{k:Int}{l:LC}:l.isE=true->l.d c e->pE (da c e) 0 (l.t k)=0:=LC.rec (motive:=λl=>l.isE=true->l.d c e->pE (da c e) 0 (l.t k)=0)
 (λ_ _ h=>bn h) (λ_ _ h=>bn h) (λx y _ h=>Fh (motive:=λk=>pE (da c e) 0 ((LC.en x y).t k)=0) (λ_=>wU (wI h)) (λ_=>wU (wI h)) k)
 (λ_ _ h=>bn h) (λ_ _ h=>bn h) (λx y _ h=>Fh (motive:=λk=>pE (da c e) 0 ((LC.ei x y).t k)=0) (λ_=>wU (wH h)) (λ_=>wU (wH h)) k) l
theorem FX{G:Prop}:∀{hs:List (Int×LC)}{p:List Int},(tC (oQ hs p)&&wB hs)=true->(pE (da c e) 0 p=0->G)->oK c e G hs:=λ{rr}=>@(li (λ{p}h k=>k (QW (f7.1 h).1))
 (λl hs ih{p}h k=>λhl=>by
  have h:=f7.1 h;have g:=f7.1 h.2;exact ih (f7.2 ⟨h.1,g.2⟩) λz=>k (by rw[oq,Wb g.1 hl,pI]at z;exact z)) rr)
theorem bE(c:List Nat)(e:List Int)(x y:NE)(hs:List (Int×LC))(h:(tC (oQ hs (dJ x.p y.p))&&wB hs)=true):oK c e (x.d c=y.d c) hs:=FX h λz=>by
 rw[lI,i9,i9]at z;exact(kX.1 (JI z)).symm
theorem bR(c:List Nat)(e:List Int)(x y:IE)(hs:List (Int×LC))(h:(tC (oQ hs (dJ x.p y.p))&&wB hs)=true):oK c e (x.d c e=y.d c e) hs:=FX h λz=>by
 rw[lI,jy,jy]at z;exact(JI z).symm
theorem n1{n:Nat}:(-1+((n+1:Nat):Int)).toNat=n:=by
 rw[show(-1:Int)+((n+1:Nat):Int)=n from bR [_] [] (.a (.o .k1) (.c (.a .v0 .k1))) .c0 [] rfl];rfl
theorem cW{a b:Nat}:a<=a-b+b:=Nat.le_add_of_sub_le (aC _)
theorem XB{a b:Nat}:a-b<=a:=ew a b
theorem aZ{a b:Nat}(h:b<=a):a-b+b=a:=BP h
end
end
section
open PySem (Str)
abbrev bG:=Nat
inductive V where
 |none
 |bool (b:Bool)
 |int (i:Int)
 |str (s:Str)
 |bytes (b:List UInt8)
 |tup (l:List V)
 |list (l:List V)
 |inst (c:Nat) (d:Nat)
 |obj (c:Nat) (fs:List V)
 |ref (a:Nat)
inductive M where
 |list (l:List V)
 |attrs (c:Nat) (fs:List (bG×V))
 |dI (n:Nat) (f:Int->Option V)
 |dB (n:Nat) (f:List UInt8->Option V)
 |dS (n:Nat) (f:Str->Option V)
abbrev ae:=Nat->Option M
noncomputable def ak(Z:ae)(a:Nat)(m:M):ae:=λb=>if b=a then some m else Z b
noncomputable def fW(Z:ae)(a:Nat):ae:=λb=>if b=a then none else Z b
def Sub(Z Z':ae):Prop:=∀a m,Z a=some m->Z' a=some m
abbrev aj:=List (Option V)
abbrev QV:=V->ae->Prop
noncomputable def rd:aj->Nat->Option V
 |[],_=>none
 |x::r,n=>match n with
  |0=>x
  |n+1=>rd r n
noncomputable def wr:aj->Nat->V->aj
 |[],_,_=>[]
 |x::r,n,v=>match n with
  |0=>some v::r
  |n+1=>x::wr r n v
noncomputable def fZ:aj->List Nat->List V->aj
 |J,[],_=>J
 |J,i::is,vs=>match vs with
  |[]=>J
  |v::vs=>fZ (wr J i v) is vs
set_option genCtorIdx true in
inductive Op|add|sub|mul|fdiv|mod
set_option genCtorIdx true in
inductive mY|eq|ne|lt|le|gt|ge|is|isnot|isin|notin
set_option genCtorIdx true in
inductive BI|len|isB|isS|isBS|int|max|min|max1|min1|sum|bytes
set_option genCtorIdx true in
inductive BM|append|pop|extend|reverse|get|setdefault|find|isalpha|rstrip|strip|join
inductive T|v(i:Nat)|tup (l:List Nat)
mutual
inductive E where
 |c (v:V)
 |x (i:Nat)
 |g (g:Nat)
 |a (e:E) (a:bG)
 |i (e i:E)
 |l (e lo hi:E)
 |rev (e:E)
 |neg (e:E)
 |b (op:Op) (a b:E)
 |rep (m:Bool) (es:List E) (n:E)
 |m (op:mY) (a b:E)
 |o (isAnd:Bool) (es:List E)
 |not (e:E)
 |ite (c a b:E)
 |tup (es:List E)
 |lst (m:Bool) (es:List E)
 |dct (b:Bool) (ks:List V) (vs:List E)
 |call (f:Nat) (es:List E)
 |new (frz:Bool) (c:Nat) (es:List E)
 |h (e:E) (m:Nat) (es:List E)
 |bi (b:BI) (es:List E)
 |bm (e:E) (b:BM) (es:List E)
 |comp (caps:List Nat) (own:List Str) (t:T) (it:It) (ifs:List E) (elt:E)
inductive It where
 |seq (e:E)
 |range (es:List E)
 |enum (e:E)
 |zip (a b:E)
end
inductive Tg where
 |v (i:Nat)
 |vs (l:List Nat)
 |a (e:E) (a:bG)
 |i (e i:E)
inductive S where
 |s (t:Tg) (e:E)
 |aug (t:Tg) (op:Op) (e:E)
 |ex (e:E)
 |ite (c:E) (a b:List S)
 |whl (c:E) (b:List S)
 |for (t:T) (it:It) (b:List S)
 |ret (e:E)
 |stop
noncomputable def aJ:Nat:=1048576
def aK{α:Type}(o:Option α)(k:α->Prop):Prop:=match o with
 |some a=>k a
 |none=>False
theorem bj{α:Type}{o:Option α}{k:α->Prop}(h:aK o k):∃a,o=some a/\k a:=match o,h with
 |some a,h=>⟨a,rfl,h⟩
theorem ao{α:Type}{o:Option α}{k:α->Prop}{a:α}(e:o=some a)(h:k a):aK o k:=by rw[e];exact h
noncomputable def eJ(v:V):Option Int:=match v with
 |.int i=>some i
 |_=>none
noncomputable def AO(v:V):Option Bool:=match v with
 |.bool i=>some i
 |_=>none
noncomputable def qU(v:V):Option Str:=match v with
 |.str i=>some i
 |_=>none
noncomputable def fV(v:V):Option (List UInt8):=match v with
 |.bytes i=>some i
 |_=>none
noncomputable def jZ(v:V):Option (List V):=match v with
 |.list i=>some i
 |_=>none
noncomputable def mf(v:V):Option (List V):=match v with
 |.tup i=>some i
 |_=>none
noncomputable def j4(v:V):Option Nat:=match v with
 |.ref i=>some i
 |_=>none
noncomputable def mc(v:V):Option Unit:=match v with
 |.none=>some ()
 |_=>none
noncomputable def one(l:List V):Option V:=match l with
 |[]=>none
 |v::r=>match r with
  |[]=>some v
  |_::_=>none
noncomputable def aF(l:List V):Option (V×V):=match l with
 |[]=>none
 |v::r=>(one r).map λu=>(v,u)
noncomputable def cc(Z:ae)(a:Nat):Option (List V):=(Z a).bind λm=>match m with
 |.list l=>some l
 |_=>none
noncomputable def gI(Z:ae)(a:Nat):Option (Nat×List (bG×V)):=(Z a).bind λm=>match m with
 |.attrs c fs=>some (c,fs)
 |_=>none
noncomputable def A6(v:V):Option (List UInt8):=(mf v).bind λl=>(aF l).bind λp=>(AO p.1).bind λb=>match b with
 |true=>none
 |false=>fV p.2
noncomputable def lR(Z:ae)(v:V):Option (List V):=match v with
 |.list l=>some l
 |.tup l=>some l
 |.ref a=>cc Z a
 |_=>none
noncomputable def qz(Z:ae)(v:V):Option (List V):=match v with
 |.list l=>some l
 |.ref a=>cc Z a
 |_=>none
noncomputable def iL(Z:ae)(v:V):V:=match v with
 |.ref a=>match cc Z a with
  |some l=>.list l
  |none=>.ref a
 |v=>v
noncomputable def fE(l:List V)(i:Int):Option V:=
 if 0<=i then l[i.toNat]? else if 0<=i+l.length then l[(i+l.length).toNat]? else none
noncomputable def aH{α:Type}(l:List α)(lo hi:Nat):List α:=(l.take hi).drop lo
noncomputable def e8(dflt:Nat)(v:V):Option Nat:=match v with
 |.none=>some dflt
 |.int i=>if 0<=i then some i.toNat else none
 |_=>none
noncomputable def ja(f:V->V->Option Bool):List V->List V->Option Bool
 |[],m=>match m with
  |[]=>some true
  |_::_=>none
 |a::r,m=>match m with
  |[]=>none
  |b::s=>(f a b).bind λx=>(ja f r s).map λy=>x&&y
noncomputable def qS(x y:V):Option Bool:=match x with
 |.none=>(mc y).map λ_=>true
 |.bool a=>(AO y).map λb=>a==b
 |.int a=>(eJ y).map λb=>a==b
 |.str a=>(qU y).map λb=>a==b
 |.bytes a=>(fV y).map λb=>a==b
 |_=>none
noncomputable def gN:Nat->V->V->Option Bool
 |0,x,y=>qS x y
 |n+1,x,y=>match x with
  |.list a=>(jZ y).bind λb=>if a.length=b.length then ja (gN n) a b else some false
  |.tup a=>(mf y).bind λb=>ja (gN n) a b
  |x=>qS x y
noncomputable def oN(x y:V):Option Bool:=match x with
 |.int a=>(eJ y).map λb=>a==b
 |.bytes a=>(fV y).map λb=>a==b
 |_=>none
noncomputable def ny(x:V):List V->Option Bool
 |[]=>some false
 |y::r=>(oN y x).bind λa=>(ny x r).map λb=>a||b
noncomputable def eN:List V->Option (List Int)
 |[]=>some []
 |v::r=>(eJ v).bind λi=>(eN r).map λl=>i::l
noncomputable def lC:List Int->List Int->Bool
 |[],m=>match m with
  |[]=>false
  |_::_=>true
 |a::r,m=>match m with
  |[]=>false
  |b::s=>if a=b then lC r s else decide (a<b)
noncomputable def I1(x y:V):Option Bool:=match x with
 |.int a=>(eJ y).map λb=>decide (a<b)
 |.tup a=>(mf y).bind λb=>(eN a).bind λm=>(eN b).bind λn=>if m.length=n.length then some (lC m n) else none
 |_=>none
noncomputable def kG(v:V):Option Bool:=match v with
 |.bool b=>some b
 |.list l=>some (!l.isEmpty)
 |_=>none
noncomputable def Iq(x y:V):Option V:=match x with
 |.int a=>(eJ y).map λb=>.int (a+b)
 |.list a=>(jZ y).bind λb=>if a.length+b.length<=aJ then some (.list (a++b)) else none
 |.bytes a=>(fV y).bind λb=>if a.length+b.length<=aJ then some (.bytes (a++b)) else none
 |_=>none
noncomputable def qL(x y:V)(f:Int->Int->Option Int):Option V:=(eJ x).bind λa=>(eJ y).bind λb=>(f a b).map .int
noncomputable def tD(op:Op)(x y:V):Option V:=match op with
 |.add=>Iq x y
 |.sub=>qL x y λa b=>some (a-b)
 |.mul=>qL x y λa b=>if 0<=a/\a<1000 then some (a*b) else none
 |.fdiv=>qL x y λa b=>if 0<b/\b<1000 then some (a/b) else none
 |.mod=>qL x y λa b=>if 0<b/\b<1000 then some (a%b) else none
noncomputable def dD(Z:ae)(d:Nat)(k:V):Option (Option V):=(Z d).bind λm=>match m with
 |.dI _ f=>(eJ k).map f
 |.dS _ f=>(qU k).map f
 |.dB _ f=>(A6 k).map f
 |_=>none
noncomputable def isNone(v:V):Option Bool:=match v with
 |.none=>some true
 |.tup _=>some false
 |.int _=>some false
 |_=>none
noncomputable def Bd(Z:ae)(x y:V):Option Bool:=match y with
 |.ref d=>(dD Z d x).map λo=>o.isSome
 |.tup l=>ny x l
 |.list l=>ny x l
 |_=>none
noncomputable def xn(x y:V)(f:Int->Int->Bool):Option Bool:=(eJ x).bind λa=>(eJ y).map λb=>f a b
noncomputable def wF(Z:ae)(op:mY)(x y:V):Option Bool:=match op with
 |.eq=>gN 4 (iL Z x) (iL Z y)
 |.ne=>(gN 4 (iL Z x) (iL Z y)).map λb=>!b
 |.lt=>I1 x y
 |.le=>xn x y λa b=>decide (a<=b)
 |.gt=>xn x y λa b=>decide (b<a)
 |.ge=>xn x y λa b=>decide (b<=a)
 |.is=>(mc y).bind λ_=>isNone x
 |.isnot=>(mc y).bind λ_=>(isNone x).map λb=>!b
 |.isin=>Bd Z x y
 |.notin=>(Bd Z x y).map λb=>!b
noncomputable def getD(Z:ae)(v k:V):Option V:=(j4 v).bind λd=>(dD Z d k).bind λo=>o
noncomputable def eP(Z:ae)(v k:V):Option V:=match lR Z v with
 |some l=>(eJ k).bind λi=>fE l i
 |none=>getD Z v k
noncomputable def oO(Z:ae)(v lo hi:V):Option V:=match v with
 |.bytes b=>(e8 0 lo).bind λi=>(e8 b.length hi).map λj=>.bytes (aH b i j)
 |v=>(qz Z v).bind λl=>(e8 0 lo).bind λi=>(e8 l.length hi).map λj=>.list (aH l i j)
noncomputable def tc:List (bG×V)->bG->Option V
 |[],_=>none
 |(b,v)::r,a=>if b=a then some v else tc r a
noncomputable def setA:List (bG×V)->bG->V->List (bG×V)
 |[],a,v=>[(a,v)]
 |(b,w)::r,a,v=>if b=a then(b,v)::r else(b,w)::setA r a v
noncomputable def cj(l:List Int):Int:=pK (λi=>l.getD i 0) l.length
noncomputable def lL(better:Int->Int->Bool)(l:List Int):Int:=l.getD (Cu (λi j=>better (l.getD i 0) (l.getD j 0)) (l.length-1)) 0
noncomputable def z7(i:Int):Option UInt8:=if 0<=i/\i<256 then some (yj i.toNat) else none
noncomputable def vf:List Int->Option (List UInt8)
 |[]=>some []
 |i::r=>(z7 i).bind λb=>(vf r).map λl=>b::l
noncomputable def wQ(Z:ae)(v:V):Option V:=match v with
 |.bytes b=>some (.int b.length)
 |v=>(lR Z v).map λl=>.int l.length
noncomputable def AV(v:V):Option V:=match v with
 |.int i=>some (.int i)
 |.bool b=>some (.int (if b then 1 else 0))
 |_=>none
noncomputable def qH(better:Int->Int->Bool)(v:V):Option V:=(jZ v).bind λl=>(eN l).bind λxs=>match xs with
 |[]=>none
 |_::_=>some (.int (lL better xs))
noncomputable def wJ(f:Int->Int->Int)(vs:List V):Option V:=(aF vs).bind λp=>qL p.1 p.2 λa b=>some (f a b)
noncomputable def oU(Z:ae)(b:BI)(vs:List V):Option V:=match b with
 |.len=>(one vs).bind (wQ Z)
 |.isB=>(one vs).bind λv=>(fV v).map λ_=>.bool true
 |.isS=>(one vs).bind λv=>(fV v).map λ_=>.bool false
 |.isBS=>(one vs).bind λv=>(fV v).map λ_=>.bool true
 |.int=>(one vs).bind AV
 |.max=>wJ (λa b=>if a<b then b else a) vs
 |.min=>wJ (λa b=>if b<a then b else a) vs
 |.max1=>(one vs).bind (qH λa b=>decide (a > b))
 |.min1=>(one vs).bind (qH λa b=>decide (a<b))
 |.sum=>(one vs).bind λv=>(qz Z v).bind λl=>(eN l).map λxs=>.int (cj xs)
 |.bytes=>(one vs).bind λv=>(jZ v).bind λl=>(eN l).bind λxs=>(vf xs).map .bytes
noncomputable def lN(c:UInt8):List UInt8->Option Nat
 |[]=>none
 |b::r=>if b=c then some 0 else(lN c r).map (·+1)
noncomputable def jR(b:UInt8):Bool:=(65<=b&&b<=90)||(97<=b&&b<=122)
noncomputable def ot(b:UInt8):Bool:=b==32||(9<=b&&b<=13)
noncomputable def HO(p:UInt8->Bool)(b:List UInt8):List UInt8:=b.dropWhile p
noncomputable def lD(p:UInt8->Bool)(b:List UInt8):List UInt8:=(b.reverse.dropWhile p).reverse
noncomputable def pT:List V->Option (List (List UInt8))
 |[]=>some []
 |v::r=>(fV v).bind λb=>(pT r).map λl=>b::l
noncomputable def A5(v:V):Option UInt8:=(fV v).bind λl=>match l with
 |[]=>none
 |c::r=>match r with
  |[]=>some c
  |_::_=>none
noncomputable def vv(i:Int)(o:Option Nat):Int:=match o with
 |some k=>i+k
 |none=>-1
noncomputable def Vv(v c i:V):Option V:=(fV v).bind λb=>(A5 c).bind λc=>(eJ i).bind λi=>if 0<=i/\i.toNat<=b.length then some (.int (vv i (lN c (b.drop i.toNat)))) else none
noncomputable def VB(v l:V):Option V:=(fV v).bind λb=>(jZ l).bind λl=>(pT l).bind λbs=>match b with
 |[]=>if bs.flatten.length<=aJ then some (.bytes bs.flatten) else none
 |_::_=>none
noncomputable def wi(Z:ae)(v k d:V):Option V:=match k with
 |.tup _=>none
 |k=>(j4 v).bind λa=>(dD Z a k).map λr=>r.getD d
noncomputable def qO(l:List V):Option Unit:=match l with
 |[]=>some ()
 |_::_=>none
noncomputable def m6(Z:ae)(v:V)(b:BM)(vs:List V):Option V:=match b with
 |.find=>(aF vs).bind λp=>Vv v p.1 p.2
 |.isalpha=>(qO vs).bind λ_=>(A5 v).map λc=>.bool (jR c)
 |.rstrip=>(qO vs).bind λ_=>(fV v).map λb=>.bytes (lD ot b)
 |.strip=>(one vs).bind λc=>(fV c).bind λcs=>(fV v).map λb=>.bytes (lD cs.contains (HO cs.contains b))
 |.join=>(one vs).bind λl=>VB v l
 |.get=>(aF vs).bind λp=>wi Z v p.1 p.2
 |_=>none
noncomputable def jF(Z:ae)(v:V):Option (Nat×List V):=(j4 v).bind λa=>(cc Z a).map λl=>(a,l)
noncomputable def AX(Z:ae)(v:V):Option (Nat×Nat×(Int->Option V)):=(j4 v).bind λa=>(Z a).bind λm=>match m with
 |.dI n f=>some (a,n,f)
 |_=>none
noncomputable def mM(Z:ae)(a:Nat):Bool:=match Z a with
 |some m=>match m with
  |.dI _ _=>true
  |.dB _ _=>true
  |.dS _ _=>true
  |_=>false
 |none=>false
noncomputable def tj(Z:ae)(v:V)(b:BM):Bool:=match b with
 |.append|.pop|.extend|.reverse=>(jF Z v).isSome
 |.get|.setdefault=>match j4 v with
  |some a=>mM Z a
  |none=>false
 |_=>(fV v).isSome
def qV(Z:ae)(v:V)(b:BM)(vs:List V)(Q:QV):Prop:=match b with
 |.append=>aK (jF Z v) λp=>aK (one vs) λx=>p.2.length<aJ/\Q .none (ak Z p.1 (.list (p.2++[x])))
 |.pop=>aK (jF Z v) λp=>aK (qO vs) λ_=>aK p.2.getLast? λx=>Q x (ak Z p.1 (.list p.2.dropLast))
 |.extend=>aK (jF Z v) λp=>aK (one vs) λx=>aK (jZ x) λl=>p.2.length+l.length<=aJ/\Q .none (ak Z p.1 (.list (p.2++l)))
 |.reverse=>aK (jF Z v) λp=>aK (qO vs) λ_=>Q .none (ak Z p.1 (.list p.2.reverse))
 |.setdefault=>aK (AX Z v) λp=>aK (aF vs) λq=>aK (eJ q.1) λk=>p.2.1<aJ/\match p.2.2 k with
  |some x=>Q x Z
  |none=>Q q.2 (ak Z p.1 (.dI (p.2.1+1) λj=>if j=k then some q.2 else p.2.2 j))
 |b=>aK (m6 Z v b vs) λr=>Q r Z
def IL(Z:ae)(a:Nat)(l:List V)(i:Int)(x:V)(Q:ae->Prop):Prop:=
 (0<=i/\i<l.length/\Q (ak Z a (.list (l.set i.toNat x))))\/(i = -1/\l≠[]/\Q (ak Z a (.list (l.set (l.length-1) x))))
def jw(Z:ae)(v k x:V)(Q:ae->Prop):Prop:=aK (j4 v) λa=>aK (Z a) λm=>match m with
 |.list l=>aK (eJ k) λi=>IL Z a l i x Q
 |.dI n f=>aK (eJ k) λi=>n<aJ/\Q (ak Z a (.dI (n+1) λj=>if j=i then some x else f j))
 |.dB n f=>aK (A6 k) λb=>n<aJ/\Q (ak Z a (.dB (n+1) λj=>if j=b then some x else f j))
 |_=>False
noncomputable def Bf{α:Type}:List α->Nat->Option α
 |[],_=>none
 |x::r,n=>match n with
  |0=>some x
  |n+1=>Bf r n
noncomputable def cS{α:Type}(l:List α)(n:Nat)(d:α):α:=match Bf l n with
 |some x=>x
 |none=>d
noncomputable def wo:List (Nat×Nat)->Nat->Option Nat
 |[],_=>none
 |p::r,n=>if p.1=n then some p.2 else wo r n
noncomputable def Vj:List Str:=[("a_from":Str),("a_to":Str),("b_from":Str),("b_to":Str),("known":Str),("strange":Str),("count":Str),("a":Str),("b":Str),("gone":Str),("come":Str),("numbers":Str),("lines":Str),("sizes":Str),("old_from":Str),("old_many":Str),("new_from":Str),("new_many":Str),("rows":Str),("heading":Str),("many_out":Str),("many_in":Str),("places":Str),("number_of":Str),("numbers_of":Str),("whole":Str),("trimmed":Str),("mark":Str),("changes":Str),("halved":Str),("mark_fewest":Str),("lone_pairs":Str),("mark_patience":Str),("rare_stretch":Str),("is_led_up_to":Str),("mark_histogram":Str),("start":Str),("can_go_up":Str),("can_go_down":Str),("put":Str),("ends_blank":Str),("marks":Str),("settled":Str),("settle":Str)]
noncomputable def wK:List Str:=[("lines_of":Str),("line_further":Str),("line_rising":Str),("myers":Str),("patience":Str),("histogram":Str),("by":Str),("distance":Str),("slid":Str),("heading_of":Str),("hunk_around":Str),("hunks_of":Str),("_law_lines":Str),("_law_once":Str),("_law_other":Str),("_law_fewest":Str),("_law_leads":Str),("_law_counts":Str),("_law_places":Str),("_law_ways_right":Str),("_law_front":Str),("_law_runs":Str),("_law_hunk_right":Str),("_law_hunks_right":Str),("_law_moved_right":Str),("law":Str)]
noncomputable def tF:List Str:=[("Change":Str),("LineNumbers":Str),("LineSheet":Str),("LineGaps":Str),("Hunk":Str)]
noncomputable def qK:List Str:=[("BLANKS":Str),("KEPT":Str),("OUT":Str),("IN":Str)]
noncomputable def We:List Nat:=[61,241,248,255,262,270,277,282,366,421,426,432,437,442,449,454,461,466,471,478,483,490,495,500,505,510,75,82,89,96,117,124,129,150,157,164,171,178,185,192,199,206,213,220,227,296,303,310,317,324,331,338,345,352,381]
noncomputable def V9:List Nat:=[99,132,230,355,410]
noncomputable def Wc:List (List Nat):=[[0,1,2,3],[4,5,6],[7,8,9,10],[11,12,13],[14,15,16,17,18,19]]
noncomputable def td:List (List (Nat×Nat)):=[[(20,27),(21,28),(22,29)],[(23,31),(24,32)],[(25,34),(26,35),(27,36),(28,37),(29,38),(30,39),(31,40),(32,41),(33,42),(34,43),(35,44)],[(36,46),(37,47),(38,48),(39,49),(40,50),(41,51),(42,52),(43,53)],[]]
noncomputable def VA:List Nat:=[26,30,33,45,54]
noncomputable def Vx:List (List UInt8):=[[32,9,10,13,11,12],[32],[45],[43]]
noncomputable def an(a:bG):Str:=cS Vj a ""
noncomputable def fa(f:Nat):Nat:=cS We f 0
noncomputable def ca(c:Nat):Nat:=cS V9 c 0
noncomputable def dH(c:Nat):List bG:=cS Wc c []
noncomputable def lQ(c m:Nat):Option Nat:=wo (cS td c []) m
noncomputable def initF(c:Nat):Nat:=cS VA c 0
noncomputable def qy(g:Nat):Option V:=(Bf Vx g).map .bytes
noncomputable def kK:List bG->List V->bG->Option V
 |[],_,_=>none
 |b::ks,l,a=>match l with
  |[]=>none
  |v::vs=>if b=a then some v else kK ks vs a
noncomputable def jE(Z:ae)(v:V)(a:bG):Option V:=match v with
 |.inst c d=>(gI Z d).bind λp=>if p.1=c/\(dH c).contains a=true then tc p.2 a else none
 |.obj c fs=>kK (dH c) fs a
 |_=>none
noncomputable def oj(Z:ae)(v:V)(m:Nat):Option Nat:=match v with
 |.inst c d=>(gI Z d).bind λp=>if p.1=c then lQ c m else none
 |.obj c _=>lQ c m
 |_=>none
noncomputable def IU(v:V):Option (Nat×Nat):=match v with
 |.inst c d=>some (c,d)
 |_=>none
def qC(Z:ae)(v:V)(a:bG)(x:V)(Q:ae->Prop):Prop:=aK (IU v) λo=>aK (gI Z o.2) λp=>
 p.1=o.1/\(dH o.1).contains a=true/\p.2.length<=100/\Q (ak Z o.2 (.attrs o.1 (setA p.2 a x)))
noncomputable def gK(Z:ae):List V->List V×ae
 |[]=>([],Z)
 |v::r=>match jF Z v with
  |some p=>((.list p.2::(gK (fW Z p.1) r).1),(gK (fW Z p.1) r).2)
  |none=>((v::(gK Z r).1),(gK Z r).2)
noncomputable def gY(b:Bool)(ks vs:List V):Option M:=match ks with
 |[]=>(qO vs).map λ_=>match b with
  |true=>.dB 0 λ_=>none
  |false=>.dI 0 λ_=>none
 |k::ks=>match ks with
  |[]=>(eJ k).bind λk=>(one vs).map λv=>.dI 1 λj=>if j=k then some v else none
  |k2::ks=>(qU k).bind λa=>(qU k2).bind λb=>(one ks).bind λk3=>(qU k3).bind λc=>match vs with
   |[]=>none
   |x::vs=>(aF vs).bind λp=>if a≠b/\a≠c/\b≠c then some (.dS 3 λj=>if j=a then some x else if j=b then some p.1 else if j=c then some p.2 else none) else none
inductive IS where
 |vals (l:List V)
 |live (a:Nat)
 |enum (s:IS)
noncomputable def fo(Z:ae):IS->Nat->Option (Option V)
 |.vals l,i=>some l[i]?
 |.live a,i=>(cc Z a).map λl=>l[i]?
 |.enum s,i=>(fo Z s i).map λr=>r.map λv=>.tup [.int i,v]
noncomputable def wO(Z:ae)(v:V):Option IS:=match v with
 |.list l=>some (.vals l)
 |.tup l=>some (.vals l)
 |.ref a=>(cc Z a).map λ_=>.live a
 |_=>none
noncomputable def Ay(Z:ae)(v:V):Option IS:=match v with
 |.list l=>some (.vals l)
 |.ref a=>(cc Z a).map λ_=>.live a
 |_=>none
noncomputable def cA(lo step:Int):Nat->List V
 |0=>[]
 |n+1=>.int lo::cA (lo+step) step n
noncomputable def eD(i:Int):Bool:=@decide (-1048576<=i) (q7 _)&&@decide (i<=1048576) (q7 _)
noncomputable def mV(a b s:Int):List V:=cA a s (mr a b s).toNat
noncomputable def jT(vs:List Int):Option (List V):=match vs with
 |[]=>none
 |a::r=>match r with
  |[]=>if eD a=true then some (mV 0 a 1) else none
  |b::r=>match r with
   |[]=>if eD a=true/\eD b=true then some (mV a b 1) else none
   |s::r=>match r with
    |[]=>if (eD a=true/\eD b=true)/\(s=2\/s = -1) then some (mV a b s) else none
    |_::_=>none
noncomputable def oR:List V->List V->List V
 |[],_=>[]
 |a::r,m=>match m with
  |[]=>[]
  |b::s=>.tup [a,b]::oR r s
noncomputable def d8(t:T)(v:V)(J:aj):Option aj:=match t with
 |.v i=>some (wr J i v)
 |.tup is=>(mf v).bind λvs=>if is.length=vs.length then some (fZ J is vs) else none
inductive O where
 |next
 |ret (v:V)
def bZ(is:IS)(t:T)(body:aj->ae->(O->aj->ae->Prop)->Prop)(Q:O->aj->ae->Prop):Nat->Nat->aj->ae->Prop
 |0,_,_,_=>False
 |n+1,i,J,Z=>aK (fo Z is i) λr=>match r with
  |none=>Q .next J Z
  |some v=>aK (d8 t v J) λJ'=>body J' Z λo J'' Z''=>match o with
    |.next=>∃Z3,Sub Z3 Z''/\bZ is t body Q n (i+1) J'' Z3
    |.ret v=>Q (.ret v) J'' Z''
def ou(test:aj->ae->QV->Prop)(body:aj->ae->(O->aj->ae->Prop)->Prop)(Q:O->aj->ae->Prop):Nat->aj->ae->Prop
 |0,_,_=>False
 |n+1,J,Z=>test J Z λv Z'=>aK (kG v) λb=>match b with
  |false=>Q .next J Z'
  |true=>body J Z' λo J'' Z''=>match o with
   |.next=>∃Z3,Sub Z3 Z''/\ou test body Q n J'' Z3
   |.ret v=>Q (.ret v) J'' Z''
def g0(is:IS)(t:T)(test:aj->ae->QV->Prop)(elt:aj->ae->QV->Prop)(J:aj)(Q:QV):Nat->Nat->List V->ae->Prop
 |0,_,_,_=>False
 |n+1,i,acc,Z=>aK (fo Z is i) λr=>match r with
  |none=>Q (.list acc) Z
  |some v=>aK (d8 t v J) λJ'=>test J' Z λb Z'=>aK (kG b) λb=>match b with
    |false=>g0 is t test elt J Q n (i+1) acc Z'
    |true=>acc.length<aJ/\elt J' Z' λx Z''=>g0 is t test elt J Q n (i+1) (acc++[x]) Z''
def qN(m:Bool)(l:List V)(Z:ae)(Q:QV):Prop:=match m with
 |false=>Q (.list l) Z
 |true=>∀a,Z a=none->Q (.ref a) (ak Z a (.list l))
def lP(frz:Bool)(c d:Nat)(r:V)(Z:ae)(Q:QV):Prop:=aK (mc r) λ_=>match frz with
 |false=>Q (.inst c d) Z
 |true=>aK (gI Z d) λp=>p.1=c/\p.2.map (·.1)=dH c/\Q (.obj c (gK (fW Z d) (p.2.map (·.2))).1) (gK (fW Z d) (p.2.map (·.2))).2
abbrev ax:=Nat->List V->ae->QV->Prop
section
variable(C:ax)
mutual
def WE:E->aj->ae->QV->Prop
 |.c v,_,Z,Q=>Q v Z
 |.x i,J,Z,Q=>aK (rd J i) λv=>Q v Z
 |.g g,_,Z,Q=>aK (qy g) λv=>Q v Z
 |.a e a,J,Z,Q=>WE e J Z λv Z=>aK (jE Z v a) λx=>Q x Z
 |.i e i,J,Z,Q=>WE e J Z λv Z=>WE i J Z λk Z=>aK (eP Z v k) λx=>Q x Z
 |.l e lo hi,J,Z,Q=>WE e J Z λv Z=>WE lo J Z λa Z=>WE hi J Z λb Z=>aK (oO Z v a b) λx=>Q x Z
 |.rev e,J,Z,Q=>WE e J Z λv Z=>aK (jZ v) λl=>Q (.list l.reverse) Z
 |.neg e,J,Z,Q=>WE e J Z λv Z=>aK (eJ v) λi=>Q (.int (-i)) Z
 |.b op a b,J,Z,Q=>WE a J Z λx Z=>WE b J Z λy Z=>aK (tD op x y) λr=>Q r Z
 |.rep m es n,J,Z,Q=>eh es J Z λvs Z=>WE n J Z λk Z=>aK (eJ k) λi=>
  vs.length*i.toNat<=aJ/\i<=aJ/\-(2 ^ 63:Int)<=i/\qN m (aR i.toNat vs).flatten Z Q
 |.m op a b,J,Z,Q=>WE a J Z λx Z=>WE b J Z λy Z=>aK (wF Z op x y) λr=>Q (.bool r) Z
 |.o isAnd es,J,Z,Q=>WB isAnd es J Z Q
 |.not e,J,Z,Q=>WE e J Z λv Z=>aK (kG v) λb=>Q (.bool (!b)) Z
 |.ite c a b,J,Z,Q=>WE c J Z λv Z=>aK (kG v) λt=>match t with
  |true=>WE a J Z Q
  |false=>WE b J Z Q
 |.tup es,J,Z,Q=>eh es J Z λvs Z=>Q (.tup vs) Z
 |.lst m es,J,Z,Q=>eh es J Z λvs Z=>qN m vs Z Q
 |.dct b ks vs,J,Z,Q=>eh vs J Z λvs Z=>aK (gY b ks vs) λm=>∀a,Z a=none->Q (.ref a) (ak Z a m)
 |.call f es,J,Z,Q=>eh es J Z λvs Z=>C f vs Z Q
 |.new frz c es,J,Z,Q=>eh es J Z λvs Z=>∀d,Z d=none->C (initF c) (.inst c d::vs) (ak Z d (.attrs c [])) λr Z=>lP frz c d r Z Q
 |.h e m es,J,Z,Q=>WE e J Z λv Z=>aK (oj Z v m) λf=>eh es J Z λvs Z=>C f (v::vs) Z Q
 |.bi b es,J,Z,Q=>eh es J Z λvs Z=>aK (oU Z b vs) λr=>Q r Z
 |.bm e b es,J,Z,Q=>WE e J Z λv Z=>tj Z v b=true/\eh es J Z λvs Z=>qV Z v b vs Q
 |.comp caps own t it ifs elt,J,Z,Q=>WI it J Z λis Z=>∃k,g0 is t (λJ Z Q=>WB true ifs J Z Q) (λJ Z Q=>WE elt J Z Q) (caps.map (rd J)++aR own.length none) Q k 0 [] Z
def eh:List E->aj->ae->(List V->ae->Prop)->Prop
 |[],_,Z,Q=>Q [] Z
 |e::r,J,Z,Q=>WE e J Z λv Z=>eh r J Z λvs Z=>Q (v::vs) Z
def WB(isAnd:Bool):List E->aj->ae->QV->Prop
 |[],_,Z,Q=>Q (.bool isAnd) Z
 |e::r,J,Z,Q=>WE e J Z λv Z=>match r with
  |[]=>Q v Z
  |_::_=>aK (kG v) λb=>if b=isAnd then WB isAnd r J Z Q else Q v Z
def WI:It->aj->ae->(IS->ae->Prop)->Prop
 |.seq e,J,Z,Q=>WE e J Z λv Z=>aK (wO Z v) λis=>Q is Z
 |.range es,J,Z,Q=>eh es J Z λvs Z=>aK (eN vs) λns=>aK (jT ns) λl=>Q (.vals l) Z
 |.enum e,J,Z,Q=>WE e J Z λv Z=>aK (Ay Z v) λis=>Q (.enum is) Z
 |.zip a b,J,Z,Q=>WE a J Z λx Z=>WE b J Z λy Z=>aK (jZ x) λl=>aK (jZ y) λm=>Q (.vals (oR l m)) Z
end
def jC(t:Tg)(x:V)(J:aj)(Z:ae)(Q:aj->ae->Prop):Prop:=match t with
 |.v i=>Q (wr J i x) Z
 |.vs is=>aK (mf x) λvs=>is.length=vs.length/\Q (fZ J is vs) Z
 |.a e a=>WE C e J Z λv Z=>qC Z v a x λZ=>Q J Z
 |.i e i=>WE C e J Z λv Z=>WE C i J Z λk Z=>jw Z v k x λZ=>Q J Z
abbrev QO:=O->aj->ae->Prop
noncomputable def wC(op:Op)(old y:V):Option Int:=(eJ old).bind λa=>(eJ y).bind λb=>match op with
 |.add=>some (a+b)
 |.sub=>some (a-b)
 |_=>none
def AP(t:Tg)(op:Op)(e:E)(J:aj)(Z:ae)(Q:aj->ae->Prop):Prop:=match t with
 |.v i=>aK (rd J i) λold=>WE C e J Z λy Z=>aK (wC op old y) λr=>Q (wr J i (.int r)) Z
 |.vs _=>False
 |.a o a=>WE C o J Z λv Z=>aK (jE Z v a) λold=>WE C e J Z λy Z=>aK (wC op old y) λr=>qC Z v a (.int r) λZ=>Q J Z
 |.i o i=>WE C o J Z λv Z=>WE C i J Z λk Z=>aK (eP Z v k) λold=>WE C e J Z λy Z=>aK (wC op old y) λr=>jw Z v k (.int r) λZ=>Q J Z
mutual
def WS:S->aj->ae->QO->Prop
 |.s t e,J,Z,Q=>WE C e J Z λx Z=>jC C t x J Z (Q .next)
 |.aug t op e,J,Z,Q=>AP C t op e J Z (Q .next)
 |.ex e,J,Z,Q=>WE C e J Z λv Z=>aK (mc v) λ_=>Q .next J Z
 |.ite c a b,J,Z,Q=>WE C c J Z λv Z=>aK (kG v) λt=>match t with
  |true=>az a J Z Q
  |false=>az b J Z Q
 |.whl c b,J,Z,Q=>∃n,ou (λJ Z Q=>WE C c J Z Q) (λJ Z Q=>az b J Z Q) Q n J Z
 |.for t it b,J,Z,Q=>WI C it J Z λis Z=>∃n,bZ is t (λJ Z Q=>az b J Z Q) Q n 0 J Z
 |.ret e,J,Z,Q=>WE C e J Z λv Z=>Q (.ret v) J Z
 |.stop,_,_,_=>False
def az:List S->aj->ae->QO->Prop
 |[],J,Z,Q=>Q .next J Z
 |s::r,J,Z,Q=>WS s J Z λo J Z=>match o with
  |.next=>az r J Z Q
  |.ret v=>Q (.ret v) J Z
end
end
def Wk(v:V)(Z:ae)(v':V)(Z':ae):Prop:=
 (v'=v/\Sub Z' Z)\/∃a l,v=.ref a/\Z a=some (.list l)/\v'=.list l/\Z' a=none/\Sub Z' Z
structure Fn where
 par:Nat
 loc:Nat
 dfl:List V
 body:List S
noncomputable def jb(o:O):V:=match o with
 |.ret v=>v
 |.next=>.none
noncomputable def HP(f:Fn)(vs:List V):Option aj:=
 if vs.length<=f.par/\f.par<=vs.length+f.dfl.length then
  some (vs.map some++(f.dfl.drop (f.dfl.length+vs.length-f.par)).map some++aR f.loc none)
 else none
noncomputable def Ph(P:Nat->Fn):Nat->ax
 |0,_,_,_,_=>False
 |d+1,f,vs,Z,Q=>aK (HP (P f) vs) λJ=>
  az (Ph P d) (P f).body J Z λo _ Z'=>∃v' Z'',Wk (jb o) Z' v' Z''/\Q v' Z''
end
section
open PySem
theorem av{a b:Bool}(h:(a&&b)=true):a=true/\b=true:=f7.mp h
noncomputable def Wj(x:Expr):List Expr:=match x with
 |.Attribute v _ _=>[v]
 |.Subscript v s _=>[v,s]
 |.Slice l u s _=>[l.getD x,u.getD x,s.getD x]
 |.UnaryOp _ v _=>[v]
 |.BinOp l _ r _=>[l,r]
 |.Compare l _ r _=>l::r
 |.BoolOp _ vs _=>vs
 |.IfExp t a b _=>[t,a,b]
 |.Tuple es _ _=>es
 |.List es _=>es
 |.Dict ks vs _=>ks.map (·.getD x)++vs
 |.Call f es _ _=>f::es
 |.ListComp e gs _ _=>e::gs.flatMap λg=>g.target::g.iter::g.ifs
 |_=>[]
noncomputable def ay(x:Expr)(n:Nat):Expr:=cS (Wj x) n x
noncomputable def ml(x:Expr):Nat:=match x with
 |.Constant _ k _=>k
 |.Tuple _ k _=>k
 |_=>0
noncomputable def jc(x:Expr):Scope:=match x with
 |.ListComp _ _ sc _=>sc
 |_=>default
noncomputable def zq(v:V):Const:=match v with
 |.bool a=>.bool a
 |.int i=>.int i
 |.str a=>.str a
 |.bytes a=>.bytes a
 |_=>.none
noncomputable def xl(v:V):Bool:=match v with
 |.none=>true
 |.bool _=>true
 |.int _=>true
 |.str _=>true
 |.bytes a=>decide (a.length<=aJ)
 |_=>false
noncomputable def wY(op:Op):Operator:=match op with
 |.add=>.Add
 |.sub=>.Sub
 |.mul=>.Mult
 |.fdiv=>.FloorDiv
 |.mod=>.Mod
noncomputable def Aw(op:mY):CmpOp:=match op with
 |.eq=>.Eq
 |.ne=>.NotEq
 |.lt=>.Lt
 |.le=>.LtE
 |.gt=>.Gt
 |.ge=>.GtE
 |.is=>.Is
 |.isnot=>.IsNot
 |.isin=>.In
 |.notin=>.NotIn
noncomputable def sN(isAnd:Bool):BoolOp:=match isAnd with
 |true=>.And
 |false=>.Or
noncomputable def qp(b:BI):Str:=match b with
 |.len=>"len"
 |.isB=>"isinstance"
 |.isS=>"isinstance"
 |.isBS=>"isinstance"
 |.int=>"int"
 |.max=>"max"
 |.max1=>"max"
 |.min=>"min"
 |.min1=>"min"
 |.sum=>"sum"
 |.bytes=>"bytes"
noncomputable def GV(b:BM):Str:=match b with
 |.append=>"append"
 |.pop=>"pop"
 |.extend=>"extend"
 |.reverse=>"reverse"
 |.get=>"get"
 |.setdefault=>"setdefault"
 |.find=>"find"
 |.isalpha=>"isalpha"
 |.rstrip=>"rstrip"
 |.strip=>"strip"
 |.join=>"join"
noncomputable def wm(b:BI):Bool:=match b with
 |.isB=>true
 |.isS=>true
 |.isBS=>true
 |_=>false
noncomputable def bq(vn:List Str)(i:Nat):Str:=cS vn i ""
noncomputable def j7(b:BI)(x:Expr):List Expr:=match b with
 |.isB=>[.Name "bytes" (ay x 2).pos]
 |.isS=>[.Name "str" (ay x 2).pos]
 |.isBS=>[.Tuple [.Name "bytes" (ay (ay x 2) 0).pos,.Name "str" (ay (ay x 2) 1).pos] (ml (ay x 2)) (ay x 2).pos]
 |_=>[]
noncomputable def gk(vn:List Str)(x:Expr):List Nat->Nat->List Expr
 |[],_=>[]
 |i::r,n=>.Name (bq vn i) (ay x n).pos::gk vn x r (n+1)
noncomputable def nq(vn:List Str)(t:T)(x:Expr):Expr:=match t with
 |.v i=>.Name (bq vn i) x.pos
 |.tup is=>.Tuple (gk vn x is 0) (ml x) x.pos
noncomputable def oC(x:Expr):List V->Nat->List (Option Expr)
 |[],_=>[]
 |v::r,n=>some (.Constant (zq v) (ml (ay x n)) (ay x n).pos)::oC x r (n+1)
noncomputable def d9(vn:List Str)(caps:List Nat)(own:List Str):List Str:=caps.map (bq vn)++own
noncomputable def wM(e:E):Bool:=match e with
 |.c v=>(mc v).isSome
 |_=>false
mutual
noncomputable def aW(vn:List Str):E->Expr->Expr
 |.c v,x=>.Constant (zq v) (ml x) x.pos
 |.x i,x=>.Name (bq vn i) x.pos
 |.g g,x=>.Name (cS qK g "") x.pos
 |.a e a,x=>.Attribute (aW vn e (ay x 0)) (an a) x.pos
 |.i e i,x=>.Subscript (aW vn e (ay x 0)) (aW vn i (ay x 1)) x.pos
 |.l e lo hi,x=>.Subscript (aW vn e (ay x 0)) (.Slice (match wM lo with
   |true=>none
   |false=>some (aW vn lo (ay (ay x 1) 0))) (match wM hi with
   |true=>none
   |false=>some (aW vn hi (ay (ay x 1) 1))) none (ay x 1).pos) x.pos
 |.rev e,x=>.Subscript (aW vn e (ay x 0)) (.Slice none none (some (.UnaryOp .USub (.Constant (.int 1) (ml (ay (ay (ay x 1) 2) 0)) (ay (ay (ay x 1) 2) 0).pos) (ay (ay x 1) 2).pos)) (ay x 1).pos) x.pos
 |.neg e,x=>.UnaryOp .USub (aW vn e (ay x 0)) x.pos
 |.b op a b,x=>.BinOp (aW vn a (ay x 0)) (wY op) (aW vn b (ay x 1)) x.pos
 |.rep _ es n,x=>.BinOp (.List (cz vn (ay x 0) es 0) (ay x 0).pos) .Mult (aW vn n (ay x 1)) x.pos
 |.m op a b,x=>.Compare (aW vn a (ay x 0)) [Aw op] [aW vn b (ay x 1)] x.pos
 |.o isAnd es,x=>.BoolOp (sN isAnd) (cz vn x es 0) x.pos
 |.not e,x=>.UnaryOp .Not (aW vn e (ay x 0)) x.pos
 |.ite c a b,x=>.IfExp (aW vn c (ay x 0)) (aW vn a (ay x 1)) (aW vn b (ay x 2)) x.pos
 |.tup es,x=>.Tuple (cz vn x es 0) (ml x) x.pos
 |.lst _ es,x=>.List (cz vn x es 0) x.pos
 |.dct _ ks vs,x=>.Dict (oC x ks 0) (cz vn x vs ks.length) x.pos
 |.call f es,x=>.Call (.Name (cS wK f "") (ay x 0).pos) (cz vn x es 1) [] x.pos
 |.new _ c es,x=>.Call (.Name (cS tF c "") (ay x 0).pos) (cz vn x es 1) [] x.pos
 |.h e m es,x=>.Call (.Attribute (aW vn e (ay (ay x 0) 0)) (an m) (ay x 0).pos) (cz vn x es 1) [] x.pos
 |.bi b es,x=>.Call (.Name (qp b) (ay x 0).pos) (cz vn x es 1++j7 b x) [] x.pos
 |.bm e b es,x=>.Call (.Attribute (aW vn e (ay (ay x 0) 0)) (GV b) (ay x 0).pos) (cz vn x es 1) [] x.pos
 |.comp caps own t it ifs elt,x=>.ListComp (aW (d9 vn caps own) elt (ay x 0)) [⟨nq (d9 vn caps own) t (ay x 1),oY vn it (ay x 2),cz (d9 vn caps own) x ifs 3,0⟩] (jc x) x.pos
noncomputable def cz(vn:List Str)(x:Expr):List E->Nat->List Expr
 |[],_=>[]
 |e::r,n=>aW vn e (ay x n)::cz vn x r (n+1)
noncomputable def oY(vn:List Str):It->Expr->Expr
 |.seq e,x=>aW vn e x
 |.range es,x=>.Call (.Name "range" (ay x 0).pos) (cz vn x es 1) [] x.pos
 |.enum e,x=>.Call (.Name "enumerate" (ay x 0).pos) [aW vn e (ay x 1)] [] x.pos
 |.zip a b,x=>.Call (.Name "zip" (ay x 0).pos) [aW vn a (ay x 1),aW vn b (ay x 2)] [] x.pos
end
noncomputable def gu(gl vn:List Str)(x:Str):Bool:=gl.contains x&&!vn.contains x
noncomputable def ID(gl vn:List Str)(b:BI):Bool:=match b with
 |.isB=>gu gl vn "bytes"
 |.isS=>gu gl vn "str"
 |.isBS=>gu gl vn "bytes"&&gu gl vn "str"
 |_=>true
noncomputable def vU(t:T):Bool:=match t with
 |.v _=>false
 |.tup _=>true
noncomputable def A2(it:It)(t:T):Bool:=match it with
 |.enum _=>vU t
 |.zip _ _=>vU t
 |_=>true
noncomputable def gW:List Str->Bool
 |[]=>true
 |x::r=>!r.contains x&&gW r
noncomputable def Ai:List Nat->Bool
 |[]=>true
 |x::r=>!r.contains x&&Ai r
noncomputable def wX(n:Nat)(is:List Nat):Bool:=is.all (λi=>decide (i<n))&&Ai is
noncomputable def tU(n:Nat)(t:T):Bool:=match t with
 |.v i=>decide (i<n)
 |.tup is=>wX n is
noncomputable def Vc(n:Nat)(t:T):Bool:=match t with
 |.v i=>i==n
 |.tup is=>is.all λi=>decide (n<=i)
noncomputable def kF(sc:Scope):List Str:=(sc.names.filter λp=>p.2==.globalImplicit).map (·.1)
noncomputable def Ds(sc:Scope)(caps own:List Str):Bool:=
 sc.kind==.function&&caps.all (λx=>sc.names.lookup x==some .free)&&own.all (λx=>sc.names.lookup x==some .local)&&sc.names.all (λp=>p.2 != .cell) &&
 sc.names.all (λp=>p.2 != .free||caps.contains p.1)&&(kF sc).all (λx=>sc.names.lookup x==some .globalImplicit)&&sc.names.all (λp=>p.1==(".0":Str)||p.2 != .local||own.contains p.1) &&
 sc.names.all (λp=>p.2 != .local||sc.names.lookup p.1==some .local)&&own.all (λx=>x != ("__debug__":Str)&&x != ("__classdict__":Str))&&(kF sc).all (λx=>x != ("__debug__":Str)&&x != ("__name__":Str)&&x != ("super":Str))&&!sc.isGenerator&&!sc.isCoroutine
noncomputable def gL{α:Type}(xs:List α):Bool:=decide (xs.length<25)
noncomputable def AW(x:Expr):Bool:=(ay x 0).pos.endLine==x.pos.line
mutual
noncomputable def bQ(gl vn:List Str):E->Expr->Bool
 |.c v,_=>xl v
 |.x i,_=>decide (i<vn.length)
 |.g g,_=>decide (g<4)&&gu gl vn (cS qK g "")
 |.a e a,x=>bQ gl vn e (ay x 0)
 |.i e i,x=>bQ gl vn e (ay x 0)&&bQ gl vn i (ay x 1)
 |.l e lo hi,x=>bQ gl vn e (ay x 0)&&bQ gl vn lo (ay (ay x 1) 0)&&bQ gl vn hi (ay (ay x 1) 1)
 |.rev e,x=>bQ gl vn e (ay x 0)
 |.neg e,x=>bQ gl vn e (ay x 0)
 |.b op a b,x=>bQ gl vn a (ay x 0)&&bQ gl vn b (ay x 1)
 |.rep _ es n,x=>gL es&&fC gl vn (ay x 0) es 0&&bQ gl vn n (ay x 1)
 |.m op a b,x=>bQ gl vn a (ay x 0)&&bQ gl vn b (ay x 1)
 |.o isAnd es,x=>!es.isEmpty&&fC gl vn x es 0
 |.not e,x=>bQ gl vn e (ay x 0)
 |.ite c a b,x=>bQ gl vn c (ay x 0)&&bQ gl vn a (ay x 1)&&bQ gl vn b (ay x 2)
 |.tup es,x=>gL es&&fC gl vn x es 0
 |.lst _ es,x=>gL es&&fC gl vn x es 0
 |.dct _ ks vs,x=>ks.all xl&&ks.length==vs.length&&decide (ks.length<=3)&&fC gl vn x vs ks.length
 |.call f es,x=>decide (f<26)&&gu gl vn (cS wK f "")&&gL es&&fC gl vn x es 1
 |.new _ c es,x=>decide (c<5)&&gu gl vn (cS tF c "")&&gL es&&fC gl vn x es 1
 |.h e m es,x=>AW x&&gL es&&bQ gl vn e (ay (ay x 0) 0)&&fC gl vn x es 1
 |.bi b es,x=>gu gl vn (qp b)&&(match wm b with
  |true=>ID gl vn b&&es.length==1
  |false=>gL es)&&fC gl vn x es 1
 |.bm e b es,x=>AW x&&gL es&&bQ gl vn e (ay (ay x 0) 0)&&fC gl vn x es 1
 |.comp caps own t it ifs elt,x=>caps.all (λi=>decide (i<vn.length))&&(caps.map (bq vn)).all (λy=>gl.contains y)&&Ds (jc x) (caps.map (bq vn)) own&&gW (d9 vn caps own)&&tU (d9 vn caps own).length t &&
   Vc caps.length t&&A2 it t&&decide (ifs.length<=1)&&Bg gl vn it (ay x 2)&&fC (kF (jc x)) (d9 vn caps own) x ifs 3&&bQ (kF (jc x)) (d9 vn caps own) elt (ay x 0)
noncomputable def fC(gl vn:List Str)(x:Expr):List E->Nat->Bool
 |[],_=>true
 |e::r,n=>bQ gl vn e (ay x n)&&fC gl vn x r (n+1)
noncomputable def Bg(gl vn:List Str):It->Expr->Bool
 |.seq e,x=>bQ gl vn e x
 |.range es,x=>gu gl vn "range"&&gL es&&fC gl vn x es 1
 |.enum e,x=>gu gl vn "enumerate"&&bQ gl vn e (ay x 1)
 |.zip a b,x=>gu gl vn "zip"&&bQ gl vn a (ay x 1)&&bQ gl vn b (ay x 2)
end
noncomputable def Ws(x:cf):List Expr:=match x with
 |.Return v _=>v.toList
 |.Assign t v _=>v::t
 |.AugAssign t _ v _=>[v,t]
 |.For t i _ _ _=>[t,i]
 |.While t _ _ _=>[t]
 |.If t _ _ _=>[t]
 |.Expr v _=>[v]
 |_=>[]
noncomputable def sk(x:cf)(n:Nat):Expr:=cS (Ws x) n (.Name "" x.pos)
noncomputable def lT(x:cf):List cf:=match x with
 |.For _ _ b _ _=>b
 |.While _ b _ _=>b
 |.If _ b _ _=>b
 |_=>[]
noncomputable def AG(x:cf):List cf:=match x with
 |.If _ _ b _=>b
 |_=>[]
noncomputable def iE(vn:List Str)(t:Tg)(x:Expr):Expr:=match t with
 |.v i=>.Name (bq vn i) x.pos
 |.vs is=>.Tuple (gk vn x is 0) (ml x) x.pos
 |.a e a=>.Attribute (aW vn e (ay x 0)) (an a) x.pos
 |.i e i=>.Subscript (aW vn e (ay x 0)) (aW vn i (ay x 1)) x.pos
noncomputable def Bb(x:cf)(l:List cf):cf:=match l with
 |[]=>x
 |y::_=>y
noncomputable def Bj(l:List cf):List cf:=match l with
 |[]=>[]
 |_::r=>r
mutual
noncomputable def toS(vn:List Str):S->cf->cf
 |.s t e,x=>.Assign [iE vn t (sk x 1)] (aW vn e (sk x 0)) x.pos
 |.aug t op e,x=>.AugAssign (iE vn t (sk x 1)) (wY op) (aW vn e (sk x 0)) x.pos
 |.ex e,x=>.Expr (aW vn e (sk x 0)) x.pos
 |.ite c a b,x=>.If (aW vn c (sk x 0)) (mX vn x a (lT x)) (mX vn x b (AG x)) x.pos
 |.whl c b,x=>.While (aW vn c (sk x 0)) (mX vn x b (lT x)) [] x.pos
 |.for t it b,x=>.For (nq vn t (sk x 0)) (oY vn it (sk x 1)) (mX vn x b (lT x)) [] x.pos
 |.ret e,x=>.Return (some (aW vn e (sk x 0))) x.pos
 |.stop,x=>x
noncomputable def mX(vn:List Str)(x:cf):List S->List cf->List cf
 |[],_=>[]
 |c::r,l=>toS vn c (Bb x l)::mX vn x r (Bj l)
end
noncomputable def qP(gl vn:List Str)(t:Tg)(x:Expr):Bool:=match t with
 |.v i=>decide (i<vn.length)
 |.vs is=>wX vn.length is
 |.a e a=>bQ gl vn e (ay x 0)
 |.i e i=>bQ gl vn e (ay x 0)&&bQ gl vn i (ay x 1)
noncomputable def GC(x:Expr):Bool:=match x with
 |.Tuple vs _ _=>!(vs.all (constantsAlone 8))||vs.all (foldedForSure 8)
 |_=>true
noncomputable def HH(t:Tg)(x:Expr):Bool:=match t with
 |.vs _=>GC x
 |_=>true
noncomputable def IC(op:Op):Bool:=match op with
 |.add=>true
 |.sub=>true
 |_=>false
noncomputable def zS(e:E):Bool:=match e with
 |.comp _ _ _ _ _ _=>false
 |_=>true
mutual
noncomputable def IX(gl vn:List Str):S->cf->Bool
 |.s t e,x=>HH t (aW vn e (sk x 0))&&qP gl vn t (sk x 1)&&bQ gl vn e (sk x 0)
 |.aug t op e,x=>IC op&&qP gl vn t (sk x 1)&&bQ gl vn e (sk x 0)
 |.ex e,x=>zS e&&bQ gl vn e (sk x 0)
 |.ite c a b,x=>bQ gl vn c (sk x 0)&&mU gl vn x a (lT x)&&mU gl vn x b (AG x)
 |.whl c b,x=>bQ gl vn c (sk x 0)&&mU gl vn x b (lT x)
 |.for t it b,x=>A2 it t&&tU vn.length t&&Bg gl vn it (sk x 1)&&mU gl vn x b (lT x)
 |.ret e,x=>bQ gl vn e (sk x 0)
 |.stop,_=>true
noncomputable def mU(gl vn:List Str)(x:cf):List S->List cf->Bool
 |[],_=>true
 |c::r,l=>IX gl vn c (Bb x l)&&mU gl vn x r (Bj l)
end
end
section
set_option maxRecDepth 10000
open PySem (Str)
noncomputable def Wv:List (List Str):=[[("octets":Str),("found":Str),("begun":Str),("ended":Str)],
 [("reach":Str),("lane":Str)],
 [("pairs":Str),("piles":Str),("ahead":Str),("number":Str),("pair":Str),("low":Str),("high":Str),("middle":Str),("found":Str)],
 [("a":Str),("b":Str),("sheet":Str)],
 [("a":Str),("b":Str),("sheet":Str)],
 [("a":Str),("b":Str),("most":Str),("sheet":Str)],
 [("how":Str),("a":Str),("b":Str)],
 [("a":Str),("b":Str)],
 [("changes":Str),("a":Str),("b":Str),("sheet":Str),("change":Str),("near":Str),("far":Str)],
 [("lines":Str),("start":Str),("place":Str),("first":Str)],
 [("a":Str),("b":Str),("group":Str),("context":Str),("start":Str),("end":Str),("rows":Str),("at":Str),("more":Str),("change":Str),("there":Str),("old_many":Str),("new_many":Str)],
 [("old":Str),("new":Str),("context":Str),("between":Str),("how":Str),("a":Str),("b":Str),("groups":Str),("change":Str)],
 [("some":Str)],
 [("some":Str)],
 [("old":Str),("steps":Str),("found":Str),("line":Str),("step":Str),("ways":Str)],
 [("one":Str),("two":Str),("table":Str),("k":Str),("line":Str),("j":Str),("other":Str)],
 [("some":Str),("one":Str),("two":Str),("at":Str),("to":Str),("k":Str),("it":Str),("gap":Str)],
 [("some":Str)],
 [("some":Str)],
 [("one":Str),("two":Str),("word":Str),("least":Str),("there":Str),("home":Str),("ways":Str),("some":Str),("moved":Str)],
 [("signs":Str)],
 [("signs":Str),("found":Str),("many":Str),("sign":Str)],
 [("it":Str),("low":Str),("there":Str),("one":Str),("two":Str),("context":Str),("between":Str),("signs":Str),("olds":Str),("news":Str),("ahead":Str),("behind":Str)],
 [("one":Str),("two":Str),("context":Str),("between":Str),("how":Str),("some":Str),("at":Str),("to":Str),("last":Str),("shown":Str),("it":Str),("low":Str),("there":Str),("signs":Str),("ahead":Str),("behind":Str)],
 [("one":Str),("group":Str),("at":Str),("two":Str),("many":Str),("starts":Str),("empty":Str),("due":Str),("told":Str),("back":Str)],
 [("script":Str),("cells":Str),("first":Str),("rest":Str),("half":Str),("way":Str),("one":Str),("two":Str),("bare":Str),("how":Str)],
 [("self":Str),("a_from":Str),("a_to":Str),("b_from":Str),("b_to":Str)],
 [("self":Str)],
 [("self":Str)],
 [("self":Str)],
 [("self":Str)],
 [("self":Str),("line":Str),("key":Str)],
 [("self":Str),("lines":Str)],
 [("self":Str),("a":Str),("b":Str),("numbers":Str)],
 [("self":Str)],
 [("self":Str),("part":Str),("a_low":Str),("a_high":Str),("b_low":Str),("b_high":Str)],
 [("self":Str),("part":Str),("a_low":Str),("a_high":Str),("b_low":Str),("b_high":Str),("place":Str)],
 [("self":Str),("found":Str),("at":Str),("far":Str),("a_from":Str),("b_from":Str)],
 [("self":Str),("part":Str),("a_low":Str),("a_high":Str),("b_low":Str),("b_high":Str),("wide":Str),("tall":Str),("slant":Str),("ahead":Str),("behind":Str),("many":Str),("lane":Str),("at":Str)],
 [("self":Str),("part":Str),("waiting":Str),("a_low":Str),("a_high":Str),("b_low":Str),("b_high":Str),("at":Str),("far":Str)],
 [("self":Str),("part":Str),("a_low":Str),("a_high":Str),("b_low":Str),("b_high":Str),("a_places":Str),("b_places":Str),("place":Str),("found":Str)],
 [("self":Str),("part":Str),("waiting":Str),("a_low":Str),("a_high":Str),("b_low":Str),("b_high":Str),("held":Str),("at":Str),("far":Str)],
 [("self":Str),("part":Str),("most":Str),("a_low":Str),("a_high":Str),("b_low":Str),("b_high":Str),("places":Str),("place":Str),("row":Str),("best":Str),("is_alike":Str),("far":Str),("at":Str),("size":Str),("rarest":Str),("key":Str)],
 [("self":Str),("at":Str),("far":Str),("a_low":Str),("b_low":Str),("places":Str),("most":Str)],
 [("self":Str),("part":Str),("most":Str),("waiting":Str),("a_low":Str),("a_high":Str),("b_low":Str),("b_high":Str),("stretch":Str),("is_alike":Str),("at":Str),("far":Str),("size":Str)],
 [("self":Str),("numbers":Str),("marks":Str),("lines":Str),("mark":Str)],
 [("self":Str),("gap":Str)],
 [("self":Str),("gap":Str),("start":Str)],
 [("self":Str),("gap":Str),("start":Str)],
 [("self":Str),("gap":Str),("other":Str)],
 [("self":Str),("gap":Str),("line":Str)],
 [("self":Str),("found":Str),("gap":Str),("size":Str)],
 [("self":Str),("gap":Str),("others":Str),("size":Str),("top":Str),("beside":Str),("low":Str)],
 [("self":Str),("others":Str),("gap":Str)],
 [("self":Str),("old_from":Str),("old_many":Str),("new_from":Str),("new_many":Str),("rows":Str),("heading":Str)]]
noncomputable def b0:List S:=
 [.s (.v 1) (.lst true []),
  .s (.v 2) (.c (.int 0)),
  .whl (.m .lt (.x 2) (.bi .len [.x 0]))
  [.s (.v 3) (.bm (.x 0) .find [.c (.bytes [10]),.x 2]),
   .s (.v 3) (.ite (.m .lt (.x 3) (.c (.int 0))) (.bi .len [.x 0]) (.b .add (.x 3) (.c (.int 1)))),
   .ex (.bm (.x 1) .append [.l (.x 0) (.x 2) (.x 3)]),
   .s (.v 2) (.x 3)],
  .ret (.x 1)]
noncomputable def b1:List S:=
 [.ite (.m .notin (.b .sub (.x 1) (.c (.int 1))) (.x 0))
  [.ret (.i (.x 0) (.b .add (.x 1) (.c (.int 1))))]
  [],
  .ite (.m .notin (.b .add (.x 1) (.c (.int 1))) (.x 0))
  [.ret (.b .add (.i (.x 0) (.b .sub (.x 1) (.c (.int 1)))) (.c (.int 1)))]
  [],
  .ret (.bi .max [.b .add (.i (.x 0) (.b .sub (.x 1) (.c (.int 1)))) (.c (.int 1)),.i (.x 0) (.b .add (.x 1) (.c (.int 1)))])]
noncomputable def b2:List S:=
 [.s (.vs [1,2]) (.tup [.lst true [],.lst true []]),
  .for (.tup [3,4]) (.enum (.x 0))
  [.s (.vs [5,6]) (.tup [.c (.int 0),.bi .len [.x 1]]),
   .whl (.m .lt (.x 5) (.x 6))
   [.s (.v 7) (.b .fdiv (.b .add (.x 5) (.x 6)) (.c (.int 2))),
    .ite (.m .lt (.i (.i (.x 0) (.i (.x 1) (.x 7))) (.c (.int 1))) (.i (.x 4) (.c (.int 1))))
    [.s (.v 5) (.b .add (.x 7) (.c (.int 1)))]
    [.s (.v 6) (.x 7)]],
   .ex (.bm (.x 2) .append [.ite (.m .gt (.x 5) (.c (.int 0))) (.i (.x 1) (.b .sub (.x 5) (.c (.int 1)))) (.neg (.c (.int 1)))]),
   .ite (.m .eq (.x 5) (.bi .len [.x 1]))
   [.ex (.bm (.x 1) .append [.x 3])]
   [.s (.i (.x 1) (.x 5)) (.x 3)]],
  .s (.v 8) (.lst true []),
  .s (.v 3) (.ite (.m .ne (.x 1) (.lst false [])) (.i (.x 1) (.neg (.c (.int 1)))) (.neg (.c (.int 1)))),
  .whl (.m .ge (.x 3) (.c (.int 0)))
  [.ex (.bm (.x 8) .append [.i (.x 0) (.x 3)]),
   .s (.v 3) (.i (.x 2) (.x 3))],
  .ex (.bm (.x 8) .reverse []),
  .ret (.x 8)]
noncomputable def b3:List S:=
 [.s (.v 2) (.new false 2 [.x 0,.x 1]),
  .ex (.h (.x 2) 30 [.h (.x 2) 25 []]),
  .ret (.h (.x 2) 28 [])]
noncomputable def b4:List S:=
 [.s (.v 2) (.new false 2 [.x 0,.x 1]),
  .ex (.h (.x 2) 32 [.h (.x 2) 25 []]),
  .ret (.h (.x 2) 28 [])]
noncomputable def b5:List S:=
 [.s (.v 3) (.new false 2 [.x 0,.x 1]),
  .ex (.h (.x 3) 35 [.h (.x 3) 25 [],.x 2]),
  .ret (.h (.x 3) 28 [])]
noncomputable def b6:List S:=
 [.ite (.m .eq (.x 0) (.c (.str "myers")))
  [.ret (.call 3 [.x 1,.x 2])]
  [],
  .ite (.m .eq (.x 0) (.c (.str "patience")))
  [.ret (.call 4 [.x 1,.x 2])]
  [],
  .ite (.m .eq (.x 0) (.c (.str "histogram")))
  [.ret (.call 5 [.x 1,.x 2])]
  [],
  .stop]
noncomputable def b7:List S:=
 [.ret (.bi .sum [.comp [] [("change":Str)] (.v 0) (.seq (.call 3 [.x 0,.x 1])) [] (.b .add (.h (.x 0) 20 []) (.h (.x 0) 21 []))])]
noncomputable def b8:List S:=
 [.s (.v 3) (.new false 2 [.x 1,.x 2]),
  .for (.v 4) (.seq (.x 0))
  [.ex (.h (.x 3) 27 [.h (.x 4) 22 []])],
  .s (.v 5) (.new false 3 [.a (.x 3) 7,.a (.x 3) 9,.x 1]),
  .s (.v 6) (.new false 3 [.a (.x 3) 8,.a (.x 3) 10,.x 2]),
  .ex (.h (.x 5) 43 [.x 6]),
  .ex (.h (.x 6) 43 [.x 5]),
  .s (.a (.x 3) 9) (.h (.x 5) 41 []),
  .s (.a (.x 3) 10) (.h (.x 6) 41 []),
  .ret (.h (.x 3) 28 [])]
noncomputable def b9:List S:=
 [.for (.v 2) (.range [.b .sub (.x 1) (.c (.int 1)),.neg (.c (.int 1)),.neg (.c (.int 1))])
  [.s (.v 3) (.l (.i (.x 0) (.x 2)) (.c .none) (.c (.int 1))),
   .ite (.o false [.bm (.x 3) .isalpha [],.m .isin (.x 3) (.tup [.c (.bytes [95]),.c (.bytes [36])])])
   [.ret (.bm (.l (.i (.x 0) (.x 2)) (.c .none) (.c (.int 80))) .rstrip [])]
   []],
  .ret (.c (.bytes []))]
noncomputable def Wy:List S:=
 [.s (.v 4) (.bi .max [.c (.int 0),.b .sub (.a (.i (.x 2) (.c (.int 0))) 0) (.x 3)]),
  .s (.v 5) (.bi .min [.bi .len [.x 0],.b .add (.a (.i (.x 2) (.neg (.c (.int 1)))) 1) (.x 3)]),
  .s (.vs [6,7,8]) (.tup [.lst true [],.x 4,.c (.int 0)]),
  .for (.v 9) (.seq (.x 2))
  [.ex (.bm (.x 6) .extend [.comp [] [("line":Str)] (.v 0) (.seq (.l (.x 0) (.x 7) (.a (.x 9) 0))) [] (.tup [.g 1,.x 0])]),
   .ex (.bm (.x 6) .extend [.comp [] [("line":Str)] (.v 0) (.seq (.l (.x 0) (.a (.x 9) 0) (.a (.x 9) 1))) [] (.tup [.g 2,.x 0])]),
   .ex (.bm (.x 6) .extend [.comp [] [("line":Str)] (.v 0) (.seq (.l (.x 1) (.a (.x 9) 2) (.a (.x 9) 3))) [] (.tup [.g 3,.x 0])]),
   .aug (.v 8) .add (.b .add (.b .sub (.b .sub (.a (.x 9) 3) (.a (.x 9) 2)) (.a (.x 9) 1)) (.a (.x 9) 0)),
   .s (.v 7) (.a (.x 9) 1)],
  .ex (.bm (.x 6) .extend [.comp [] [("line":Str)] (.v 0) (.seq (.l (.x 0) (.x 7) (.x 5))) [] (.tup [.g 1,.x 0])]),
  .s (.v 10) (.b .sub (.a (.i (.x 2) (.c (.int 0))) 2) (.b .sub (.a (.i (.x 2) (.c (.int 0))) 0) (.x 4))),
  .s (.vs [11,12]) (.tup [.b .sub (.x 5) (.x 4),.b .add (.b .sub (.x 5) (.x 4)) (.x 8)]),
  .ret (.new true 4 [.b .add (.x 4) (.bi .int [.m .gt (.x 11) (.c (.int 0))]),.x 11,.b .add (.x 10) (.bi .int [.m .gt (.x 12) (.c (.int 0))]),.x 12,.x 6,.call 9 [.x 0,.x 4]])]
noncomputable def Wz:List S:=
 [.s (.vs [5,6]) (.tup [.call 0 [.x 0],.call 0 [.x 1]]),
  .s (.v 7) (.lst true []),
  .for (.v 8) (.seq (.call 8 [.call 6 [.x 4,.x 5,.x 6],.x 5,.x 6]))
  [.ite (.o true [.m .ne (.x 7) (.lst false []),.m .le (.b .sub (.a (.x 8) 0) (.a (.i (.i (.x 7) (.neg (.c (.int 1)))) (.neg (.c (.int 1)))) 1)) (.b .add (.b .mul (.c (.int 2)) (.x 2)) (.x 3))])
   [.ex (.bm (.i (.x 7) (.neg (.c (.int 1)))) .append [.x 8])]
   [.ex (.bm (.x 7) .append [.lst true [.x 8]])]],
  .ret (.comp [5,6,2] [("group":Str)] (.v 3) (.seq (.x 7)) [] (.call 10 [.x 0,.x 1,.x 3,.x 2]))]
noncomputable def WA:List S:=
 [.ret (.comp [] [("k":Str)] (.v 0) (.seq (.x 0)) [] (.b .add (.bi .bytes [.lst false [.b .add (.c (.int 97)) (.x 0)]]) (.c (.bytes [10]))))]
noncomputable def WG:List S:=
 [.ret (.comp [0] [("at":Str),("k":Str)] (.tup [1,2]) (.enum (.x 0)) [.m .notin (.x 2) (.l (.x 0) (.c .none) (.x 1))] (.x 2))]
noncomputable def WH:List S:=
 [.s (.v 2) (.lst true []),
  .for (.tup [3,4]) (.zip (.x 0) (.x 1))
  [.s (.v 5) (.lst false [.lst false [],.lst false [.b .mod (.b .add (.x 3) (.c (.int 1))) (.c (.int 3))],.lst false [.x 3,.b .mod (.b .add (.x 3) (.c (.int 2))) (.c (.int 3))],.lst false [.x 3,.x 3],.lst false [.b .mod (.b .add (.x 3) (.c (.int 1))) (.c (.int 3)),.x 3]]),
   .ex (.bm (.x 2) .extend [.ite (.m .lt (.x 4) (.c (.int 3))) (.lst false [.x 3]) (.i (.x 5) (.b .sub (.x 4) (.c (.int 3))))])],
  .ret (.x 2)]
noncomputable def WJ:List S:=
 [.s (.v 2) (.comp [1] [("k":Str)] (.v 1) (.range [.b .add (.bi .len [.x 0]) (.c (.int 1))]) [] (.rep true [.c (.int 0)] (.b .add (.bi .len [.x 0]) (.c (.int 1))))),
  .for (.tup [3,4]) (.enum (.x 0))
  [.for (.tup [5,6]) (.enum (.x 1))
   [.s (.i (.i (.x 2) (.b .add (.x 3) (.c (.int 1)))) (.b .add (.x 5) (.c (.int 1)))) (.ite (.m .eq (.x 4) (.x 6)) (.b .add (.i (.i (.x 2) (.x 3)) (.x 5)) (.c (.int 1))) (.bi .max [.i (.i (.x 2) (.x 3)) (.b .add (.x 5) (.c (.int 1))),.i (.i (.x 2) (.b .add (.x 3) (.c (.int 1)))) (.x 5)]))]],
  .ret (.b .sub (.b .add (.bi .len [.x 0]) (.bi .len [.x 1])) (.b .mul (.c (.int 2)) (.i (.i (.x 2) (.bi .len [.x 0])) (.bi .len [.x 1]))))]
noncomputable def WK:List S:=
 [.s (.vs [3,4]) (.tup [.c (.int 0),.c (.int 0)]),
  .for (.tup [5,6]) (.enum (.x 0))
  [.s (.v 7) (.b .sub (.a (.x 6) 0) (.x 3)),
   .ite (.o false [.m .lt (.x 7) (.bi .int [.m .gt (.x 5) (.c (.int 0))]),.m .ne (.b .sub (.a (.x 6) 2) (.x 4)) (.x 7),.m .lt (.a (.x 6) 1) (.a (.x 6) 0),.m .lt (.a (.x 6) 3) (.a (.x 6) 2)])
   [.ret (.c (.bool false))]
   [],
   .ite (.o false [.m .gt (.a (.x 6) 1) (.bi .len [.x 1]),.m .gt (.a (.x 6) 3) (.bi .len [.x 2]),.m .eq (.b .sub (.b .add (.b .sub (.a (.x 6) 1) (.a (.x 6) 0)) (.a (.x 6) 3)) (.a (.x 6) 2)) (.c (.int 0))])
   [.ret (.c (.bool false))]
   [],
   .ite (.m .ne (.l (.x 1) (.x 3) (.a (.x 6) 0)) (.l (.x 2) (.x 4) (.a (.x 6) 2)))
   [.ret (.c (.bool false))]
   [],
   .s (.vs [3,4]) (.tup [.a (.x 6) 1,.a (.x 6) 3])],
  .ret (.m .eq (.l (.x 1) (.x 3) (.c .none)) (.l (.x 2) (.x 4) (.c .none)))]
noncomputable def WL:List S:=
 [.ret (.lst false [.bi .sum [.comp [] [("it":Str)] (.v 0) (.seq (.x 0)) [] (.b .sub (.a (.x 0) 1) (.a (.x 0) 0))],.bi .sum [.comp [] [("it":Str)] (.v 0) (.seq (.x 0)) [] (.b .sub (.a (.x 0) 3) (.a (.x 0) 2))]])]
noncomputable def WM:List S:=
 [.ret (.comp [] [("it":Str)] (.v 0) (.seq (.x 0)) [] (.tup [.a (.x 0) 0,.a (.x 0) 1,.a (.x 0) 2,.a (.x 0) 3]))]
noncomputable def WN:List S:=
 [.s (.vs [3,4,5]) (.tup [.call 15 [.x 0,.x 1],.call 3 [.x 0,.x 1],.call 3 [.x 1,.x 0]]),
  .ite (.not (.call 16 [.x 5,.x 1,.x 0]))
  [.ret (.c (.bool false))]
  [],
  .ite (.m .ne (.lst false [.bi .sum [.call 17 [.x 4]],.bi .sum [.call 17 [.x 5]],.call 7 [.x 0,.x 1]]) (.rep false [.x 3] (.c (.int 3))))
  [.ret (.c (.bool false))]
  [],
  .s (.v 6) (.dct false [.str "myers",.str "patience",.str "histogram"] [.x 4,.call 4 [.x 0,.x 1],.call 5 [.x 0,.x 1]]),
  .for (.v 7) (.seq (.lst false [.i (.x 6) (.c (.str "patience")),.i (.x 6) (.c (.str "histogram")),.x 4,.call 5 [.x 0,.x 1,.b .mod (.x 3) (.c (.int 2))]]))
  [.ite (.o false [.not (.call 16 [.x 7,.x 0,.x 1]),.m .lt (.bi .sum [.call 17 [.x 7]]) (.x 3)])
   [.ret (.c (.bool false))]
   []],
  .s (.v 8) (.call 8 [.i (.x 6) (.x 2),.x 0,.x 1]),
  .ite (.o false [.not (.call 16 [.x 8,.x 0,.x 1]),.m .ne (.call 17 [.x 8]) (.call 17 [.i (.x 6) (.x 2)])])
  [.ret (.c (.bool false))]
  [],
  .ite (.o true [.m .eq (.call 13 [.x 0]) (.x 0),.m .eq (.call 13 [.x 1]) (.x 1),.m .ne (.bi .sum [.call 17 [.i (.x 6) (.c (.str "patience"))]]) (.x 3)])
  [.ret (.c (.bool false))]
  [],
  .ret (.m .eq (.call 18 [.call 6 [.x 2,.x 0,.x 1]]) (.call 18 [.i (.x 6) (.x 2)]))]
noncomputable def WO:List S:=
 [.ret (.bi .min1 [.comp [] [("k":Str),("sign":Str)] (.tup [0,1]) (.enum (.x 0)) [.m .ne (.x 1) (.c (.bytes [32]))] (.x 0)])]
noncomputable def WQ:List S:=
 [.s (.vs [1,2]) (.tup [.lst false [.c (.int 0)],.c (.int 0)]),
  .for (.v 3) (.seq (.l (.x 0) (.call 20 [.x 0]) (.c .none)))
  [.s (.vs [1,2]) (.tup [.b .add (.x 1) (.ite (.m .ne (.x 3) (.c (.bytes [32]))) (.lst false [.x 2]) (.lst false [])),.ite (.m .eq (.x 3) (.c (.bytes [32]))) (.b .add (.x 2) (.c (.int 1))) (.c (.int 0))])],
  .ret (.x 1)]
noncomputable def WR:List S:=
 [.s (.v 7) (.comp [] [("sign":Str),("line":Str)] (.tup [0,1]) (.seq (.a (.x 0) 18)) [] (.x 0)),
  .ite (.m .ne (.comp [] [("sign":Str)] (.v 0) (.seq (.x 7)) [.m .notin (.x 0) (.tup [.c (.bytes [32]),.c (.bytes [45]),.c (.bytes [43])])] (.x 0)) (.lst false []))
  [.ret (.c (.bool false))]
  [],
  .ite (.m .eq (.comp [] [("sign":Str)] (.v 0) (.seq (.x 7)) [.m .ne (.x 0) (.c (.bytes [32]))] (.x 0)) (.lst false []))
  [.ret (.c (.bool false))]
  [],
  .s (.vs [8,9]) (.tup [.comp [] [("sign":Str),("line":Str)] (.tup [0,1]) (.seq (.a (.x 0) 18)) [.m .ne (.x 0) (.c (.bytes [43]))] (.x 1),.comp [] [("sign":Str),("line":Str)] (.tup [0,1]) (.seq (.a (.x 0) 18)) [.m .ne (.x 0) (.c (.bytes [45]))] (.x 1)]),
  .ite (.o false [.m .ne (.x 8) (.l (.x 3) (.x 1) (.b .add (.x 1) (.a (.x 0) 15))),.m .ne (.x 9) (.l (.x 4) (.x 2) (.b .add (.x 2) (.a (.x 0) 17)))])
  [.ret (.c (.bool false))]
  [],
  .ite (.o false [.m .ne (.lst false [.bi .len [.x 8],.bi .len [.x 9]]) (.lst false [.a (.x 0) 15,.a (.x 0) 17]),.m .gt (.bi .max1 [.call 21 [.x 7]]) (.b .add (.b .mul (.c (.int 2)) (.x 5)) (.x 6))])
  [.ret (.c (.bool false))]
  [],
  .ite (.m .ne (.comp [7] [("k":Str)] (.v 1) (.range [.c (.int 1),.bi .len [.x 7]]) [.o true [.m .eq (.i (.x 0) (.b .sub (.x 1) (.c (.int 1)))) (.c (.bytes [43])),.m .eq (.i (.x 0) (.x 1)) (.c (.bytes [45]))]] (.x 1)) (.lst false []))
  [.ret (.c (.bool false))]
  [],
  .s (.vs [10,11]) (.tup [.call 20 [.x 7],.call 20 [.rev (.x 7)]]),
  .ite (.m .ne (.x 10) (.bi .min [.x 5,.b .add (.x 1) (.x 10)]))
  [.ret (.c (.bool false))]
  [],
  .ret (.m .eq (.x 11) (.bi .min [.x 5,.b .sub (.bi .len [.x 3]) (.b .sub (.b .add (.x 1) (.a (.x 0) 15)) (.x 11))]))]
noncomputable def WT:List S:=
 [.s (.vs [5,6,7,8,9]) (.tup [.call 11 [.bm (.c (.bytes [])) .join [.x 0],.bm (.c (.bytes [])) .join [.x 1],.x 2,.x 3,.x 4],.c (.int 0),.c (.int 0),.c .none,.c (.int 0)]),
  .for (.v 10) (.seq (.x 5))
  [.s (.v 11) (.ite (.m .gt (.a (.x 10) 15) (.c (.int 0))) (.b .sub (.a (.x 10) 14) (.c (.int 1))) (.a (.x 10) 14)),
   .s (.v 12) (.ite (.m .gt (.a (.x 10) 17) (.c (.int 0))) (.b .sub (.a (.x 10) 16) (.c (.int 1))) (.a (.x 10) 16)),
   .ite (.o false [.m .lt (.x 11) (.x 6),.m .ne (.b .sub (.x 12) (.x 7)) (.b .sub (.x 11) (.x 6)),.m .ne (.l (.x 0) (.x 6) (.x 11)) (.l (.x 1) (.x 7) (.x 12))])
   [.ret (.c (.bool false))]
   [],
   .ite (.not (.call 22 [.x 10,.x 11,.x 12,.x 0,.x 1,.x 2,.x 3]))
   [.ret (.c (.bool false))]
   [],
   .s (.v 13) (.comp [] [("sign":Str),("line":Str)] (.tup [0,1]) (.seq (.a (.x 10) 18)) [] (.x 0)),
   .s (.vs [14,15]) (.tup [.call 20 [.x 13],.call 20 [.rev (.x 13)]]),
   .ite (.o true [.m .isnot (.x 8) (.c .none),.m .le (.b .sub (.b .add (.x 11) (.x 14)) (.x 8)) (.b .add (.b .mul (.c (.int 2)) (.x 2)) (.x 3))])
   [.ret (.c (.bool false))]
   [],
   .s (.vs [6,7,8]) (.tup [.b .add (.x 11) (.a (.x 10) 15),.b .add (.x 12) (.a (.x 10) 17),.b .sub (.b .add (.x 11) (.a (.x 10) 15)) (.x 15)]),
   .s (.v 9) (.b .add (.x 9) (.bi .len [.comp [] [("sign":Str)] (.v 0) (.seq (.x 13)) [.m .ne (.x 0) (.c (.bytes [32]))] (.x 0)]))],
  .ite (.m .ne (.l (.x 0) (.x 6) (.c .none)) (.l (.x 1) (.x 7) (.c .none)))
  [.ret (.c (.bool false))]
  [],
  .ret (.ite (.m .eq (.x 4) (.c (.str "myers"))) (.m .eq (.x 9) (.call 15 [.x 0,.x 1])) (.m .ge (.x 9) (.call 15 [.x 0,.x 1])))]
noncomputable def WU:List S:=
 [.s (.vs [3,4]) (.tup [.b .add (.b .add (.l (.x 0) (.c .none) (.x 2)) (.x 1)) (.l (.x 0) (.x 2) (.c .none)),.bi .len [.x 1]]),
  .s (.v 5) (.comp [0,3,4] [("k":Str)] (.v 3) (.range [.b .add (.bi .len [.x 0]) (.c (.int 1))]) [.m .eq (.b .add (.l (.x 1) (.c .none) (.x 3)) (.l (.x 1) (.b .add (.x 3) (.x 2)) (.c .none))) (.x 0)] (.x 3)),
  .s (.v 6) (.comp [3,4] [("k":Str)] (.v 2) (.seq (.x 5)) [.m .eq (.i (.x 0) (.b .sub (.b .add (.x 2) (.x 1)) (.c (.int 1)))) (.c (.bytes [10]))] (.x 2)),
  .s (.v 7) (.ite (.m .ne (.x 6) (.lst false [])) (.i (.x 6) (.neg (.c (.int 1)))) (.i (.x 5) (.neg (.c (.int 1))))),
  .s (.v 8) (.comp [0,3,4] [("k":Str)] (.v 3) (.seq (.tup [.i (.x 5) (.c (.int 0)),.i (.x 5) (.neg (.c (.int 1)))])) [] (.call 18 [.call 8 [.lst false [.new true 0 [.x 3,.x 3,.x 3,.b .add (.x 3) (.x 2)]],.x 0,.x 1]])),
  .s (.v 9) (.call 18 [.call 8 [.lst false [.new true 0 [.x 2,.b .add (.x 2) (.x 4),.x 2,.x 2]],.x 3,.x 0]]),
  .ret (.o true [.m .eq (.x 8) (.rep false [.lst false [.tup [.x 7,.x 7,.x 7,.b .add (.x 7) (.x 4)]]] (.c (.int 2))),.m .eq (.x 9) (.lst false [.tup [.x 7,.b .add (.x 7) (.x 4),.x 7,.x 7]])])]
noncomputable def WV:List S:=
 [.s (.v 1) (.comp [] [("v":Str)] (.v 0) (.seq (.l (.x 0) (.c .none) (.c (.int 9)))) [] (.bi .int [.x 0])),
  .s (.vs [2,3]) (.tup [.ite (.m .ne (.x 1) (.lst false [])) (.i (.x 1) (.c (.int 0))) (.c (.int 0)),.l (.x 1) (.c (.int 1)) (.c .none)]),
  .s (.vs [4,5]) (.tup [.b .fdiv (.bi .len [.x 3]) (.c (.int 2)),.b .mod (.b .fdiv (.x 2) (.c (.int 12))) (.c (.int 3))]),
  .ite (.m .eq (.x 5) (.c (.int 0)))
  [.s (.vs [6,7]) (.tup [.comp [] [("v":Str)] (.v 0) (.seq (.l (.x 3) (.c .none) (.x 4))) [] (.b .mod (.x 0) (.c (.int 3))),.comp [] [("v":Str)] (.v 0) (.seq (.l (.x 3) (.x 4) (.c .none))) [] (.b .mod (.x 0) (.c (.int 3)))])]
  [.ite (.m .eq (.x 5) (.c (.int 1)))
   [.s (.v 6) (.comp [] [("v":Str)] (.v 0) (.seq (.l (.x 3) (.c .none) (.c (.int 4)))) [] (.b .mod (.x 0) (.c (.int 3)))),
    .s (.v 7) (.call 14 [.x 6,.comp [] [("v":Str)] (.v 0) (.seq (.l (.x 3) (.c .none) (.c (.int 4)))) [] (.b .mod (.b .fdiv (.x 0) (.c (.int 3))) (.c (.int 8)))])]
   [.s (.vs [6,7]) (.tup [.call 13 [.comp [] [("v":Str)] (.v 0) (.seq (.l (.x 3) (.c .none) (.x 4))) [] (.b .mod (.x 0) (.c (.int 11)))],.call 13 [.comp [] [("v":Str)] (.v 0) (.seq (.l (.x 3) (.x 4) (.c .none))) [] (.b .mod (.x 0) (.c (.int 11)))]])]],
  .s (.vs [6,7]) (.tup [.call 12 [.x 6],.call 12 [.l (.x 7) (.c .none) (.c (.int 6))]]),
  .s (.v 8) (.comp [] [("v":Str)] (.v 0) (.seq (.x 3)) [] (.i (.tup [.c (.bytes [97,10]),.c (.bytes [10]),.c (.bytes [98,10])]) (.b .mod (.x 0) (.c (.int 3))))),
  .ite (.not (.call 24 [.l (.x 8) (.c .none) (.c (.int 4)),.o false [.b .add (.l (.x 8) (.c (.int 4)) (.c (.int 6))) (.l (.lst false [.c (.bytes [10]),.c (.bytes [97,10])]) (.b .mod (.b .fdiv (.x 2) (.c (.int 288))) (.c (.int 2))) (.b .add (.b .mod (.b .fdiv (.x 2) (.c (.int 576))) (.c (.int 2))) (.c (.int 1)))),.lst false [.c (.bytes [97,10])]],.b .mod (.b .fdiv (.x 2) (.c (.int 144))) (.b .add (.bi .len [.l (.x 8) (.c .none) (.c (.int 4))]) (.c (.int 1)))]))
  [.ret (.c (.bool false))]
  [],
  .s (.v 9) (.i (.tup [.c (.str "myers"),.c (.str "myers"),.c (.str "patience"),.c (.str "histogram")]) (.b .mod (.b .fdiv (.x 2) (.c (.int 36))) (.c (.int 4)))),
  .ite (.not (.call 19 [.x 6,.x 7,.x 9]))
  [.ret (.c (.bool false))]
  [],
  .ret (.call 23 [.x 6,.x 7,.b .mod (.x 2) (.c (.int 4)),.b .mod (.b .fdiv (.x 2) (.c (.int 4))) (.c (.int 3)),.x 9])]
noncomputable def WW:List S:=
 [.s (.a (.x 0) 0) (.x 1),
  .s (.a (.x 0) 1) (.x 2),
  .s (.a (.x 0) 2) (.x 3),
  .s (.a (.x 0) 3) (.x 4)]
noncomputable def WX:List S:=
 [.ret (.b .sub (.a (.x 0) 1) (.a (.x 0) 0))]
noncomputable def WY:List S:=
 [.ret (.b .sub (.a (.x 0) 3) (.a (.x 0) 2))]
noncomputable def WZ:List S:=
 [.ret (.tup [.a (.x 0) 0,.a (.x 0) 1,.a (.x 0) 2,.a (.x 0) 3])]
noncomputable def W0:List S:=
 [.s (.a (.x 0) 4) (.dct true [] []),
  .s (.a (.x 0) 5) (.lst false []),
  .s (.a (.x 0) 6) (.c (.int 0))]
noncomputable def W3:List S:=
 [.ite (.bi .isBS [.x 1])
  [.s (.v 2) (.tup [.bi .isS [.x 1],.x 1]),
   .ite (.m .notin (.x 2) (.a (.x 0) 4))
   [.s (.i (.a (.x 0) 4) (.x 2)) (.a (.x 0) 6),
    .aug (.a (.x 0) 6) .add (.c (.int 1))]
   [],
   .ret (.i (.a (.x 0) 4) (.x 2))]
  [],
  .stop,.stop,.stop,.stop]
noncomputable def W4:List S:=
 [.ret (.comp [0] [("line":Str)] (.v 1) (.seq (.x 1)) [] (.h (.x 0) 23 [.x 1]))]
noncomputable def W5:List S:=
 [.s (.v 3) (.new false 1 []),
  .s (.a (.x 0) 7) (.h (.x 3) 24 [.x 1]),
  .s (.a (.x 0) 8) (.h (.x 3) 24 [.x 2]),
  .s (.a (.x 0) 9) (.rep true [.c (.bool false)] (.bi .len [.x 1])),
  .s (.a (.x 0) 10) (.rep true [.c (.bool false)] (.bi .len [.x 2]))]
noncomputable def W6:List S:=
 [.ret (.tup [.c (.int 0),.bi .len [.a (.x 0) 7],.c (.int 0),.bi .len [.a (.x 0) 8]])]
noncomputable def W7:List S:=
 [.s (.vs [2,3,4,5]) (.x 1),
  .whl (.o true [.m .lt (.x 2) (.x 3),.m .lt (.x 4) (.x 5),.m .eq (.i (.a (.x 0) 7) (.x 2)) (.i (.a (.x 0) 8) (.x 4))])
  [.aug (.v 2) .add (.c (.int 1)),
   .aug (.v 4) .add (.c (.int 1))],
  .whl (.o true [.m .lt (.x 2) (.x 3),.m .lt (.x 4) (.x 5),.m .eq (.i (.a (.x 0) 7) (.b .sub (.x 3) (.c (.int 1)))) (.i (.a (.x 0) 8) (.b .sub (.x 5) (.c (.int 1))))])
  [.aug (.v 3) .sub (.c (.int 1)),
   .aug (.v 5) .sub (.c (.int 1))],
  .ret (.tup [.x 2,.x 3,.x 4,.x 5])]
noncomputable def W8:List S:=
 [.s (.vs [2,3,4,5]) (.x 1),
  .for (.v 6) (.range [.x 2,.x 3])
  [.s (.i (.a (.x 0) 9) (.x 6)) (.c (.bool true))],
  .for (.v 6) (.range [.x 4,.x 5])
  [.s (.i (.a (.x 0) 10) (.x 6)) (.c (.bool true))]]
noncomputable def W9:List S:=
 [.s (.v 1) (.lst true []),
  .s (.vs [2,3]) (.tup [.c (.int 0),.c (.int 0)]),
  .whl (.o false [.m .lt (.x 2) (.bi .len [.a (.x 0) 7]),.m .lt (.x 3) (.bi .len [.a (.x 0) 8])])
  [.s (.vs [4,5]) (.tup [.x 2,.x 3]),
   .whl (.o true [.m .lt (.x 2) (.bi .len [.a (.x 0) 7]),.i (.a (.x 0) 9) (.x 2)])
   [.aug (.v 2) .add (.c (.int 1))],
   .whl (.o true [.m .lt (.x 3) (.bi .len [.a (.x 0) 8]),.i (.a (.x 0) 10) (.x 3)])
   [.aug (.v 3) .add (.c (.int 1))],
   .ite (.o false [.m .gt (.x 2) (.x 4),.m .gt (.x 3) (.x 5)])
   [.ex (.bm (.x 1) .append [.new true 0 [.x 4,.x 2,.x 5,.x 3]])]
   [.aug (.v 2) .add (.c (.int 1)),
    .aug (.v 3) .add (.c (.int 1))]],
  .ret (.x 1)]
noncomputable def Xa:List S:=
 [.s (.vs [2,3,4,5]) (.x 1),
  .s (.vs [6,7]) (.tup [.b .sub (.x 3) (.x 2),.b .sub (.x 5) (.x 4)]),
  .s (.v 8) (.b .sub (.x 6) (.x 7)),
  .s (.vs [9,10]) (.tup [.dct false [.int 0] [.c (.int 0)],.dct false [.int 0] [.c (.int 0)]]),
  .for (.v 11) (.range [.c (.int 1),.b .add (.b .fdiv (.b .add (.b .add (.x 6) (.x 7)) (.c (.int 1))) (.c (.int 2))) (.c (.int 1))])
  [.for (.v 12) (.range [.neg (.x 11),.b .add (.x 11) (.c (.int 1)),.c (.int 2)])
   [.s (.v 13) (.call 1 [.x 9,.x 12]),
    .whl (.o true [.m .lt (.x 13) (.x 6),.m .lt (.b .sub (.x 13) (.x 12)) (.x 7),.m .eq (.i (.a (.x 0) 7) (.b .add (.x 2) (.x 13))) (.i (.a (.x 0) 8) (.b .sub (.b .add (.x 4) (.x 13)) (.x 12)))])
    [.aug (.v 13) .add (.c (.int 1))],
    .s (.i (.x 9) (.x 12)) (.x 13),
    .ite (.o true [.m .eq (.b .mod (.x 8) (.c (.int 2))) (.c (.int 1)),.m .isin (.b .sub (.x 8) (.x 12)) (.x 10),.m .ge (.b .add (.x 13) (.i (.x 10) (.b .sub (.x 8) (.x 12)))) (.x 6)])
    [.ret (.tup [.b .add (.x 2) (.x 13),.b .sub (.b .add (.x 4) (.x 13)) (.x 12)])]
    []],
   .for (.v 12) (.range [.neg (.x 11),.b .add (.x 11) (.c (.int 1)),.c (.int 2)])
   [.s (.v 13) (.call 1 [.x 10,.x 12]),
    .whl (.o true [.m .lt (.x 13) (.x 6),.m .lt (.b .sub (.x 13) (.x 12)) (.x 7),.m .eq (.i (.a (.x 0) 7) (.b .sub (.b .sub (.x 3) (.c (.int 1))) (.x 13))) (.i (.a (.x 0) 8) (.b .add (.b .sub (.b .sub (.x 5) (.c (.int 1))) (.x 13)) (.x 12)))])
    [.aug (.v 13) .add (.c (.int 1))],
    .s (.i (.x 10) (.x 12)) (.x 13),
    .ite (.o true [.m .eq (.b .mod (.x 8) (.c (.int 2))) (.c (.int 0)),.m .isin (.b .sub (.x 8) (.x 12)) (.x 9),.m .ge (.b .add (.x 13) (.i (.x 9) (.b .sub (.x 8) (.x 12)))) (.x 6)])
    [.ret (.tup [.b .sub (.x 3) (.x 13),.b .add (.b .sub (.x 5) (.x 13)) (.x 12)])]
    []]],
  .stop]
noncomputable def Xb:List S:=
 [.s (.v 2) (.lst true [.x 1]),
  .whl (.m .ne (.x 2) (.lst false []))
  [.s (.vs [3,4,5,6]) (.h (.x 0) 26 [.bm (.x 2) .pop []]),
   .ite (.o false [.m .eq (.x 3) (.x 4),.m .eq (.x 5) (.x 6)])
   [.ex (.h (.x 0) 27 [.tup [.x 3,.x 4,.x 5,.x 6]])]
   [.s (.vs [7,8]) (.h (.x 0) 29 [.tup [.x 3,.x 4,.x 5,.x 6]]),
    .ex (.bm (.x 2) .append [.tup [.x 3,.x 7,.x 5,.x 8]]),
    .ex (.bm (.x 2) .append [.tup [.x 7,.x 4,.x 8,.x 6]])]]]
noncomputable def Xc:List S:=
 [.s (.vs [2,3,4,5]) (.x 1),
  .s (.vs [6,7]) (.tup [.dct false [] [],.dct false [] []]),
  .for (.v 8) (.range [.x 2,.x 3])
  [.s (.i (.x 6) (.i (.a (.x 0) 7) (.x 8))) (.ite (.m .notin (.i (.a (.x 0) 7) (.x 8)) (.x 6)) (.x 8) (.neg (.c (.int 1))))],
  .for (.v 8) (.range [.x 4,.x 5])
  [.s (.i (.x 7) (.i (.a (.x 0) 8) (.x 8))) (.ite (.m .notin (.i (.a (.x 0) 8) (.x 8)) (.x 7)) (.x 8) (.neg (.c (.int 1))))],
  .s (.v 9) (.lst true []),
  .for (.v 8) (.range [.x 2,.x 3])
  [.ite (.o true [.m .eq (.i (.x 6) (.i (.a (.x 0) 7) (.x 8))) (.x 8),.m .ge (.bm (.x 7) .get [.i (.a (.x 0) 7) (.x 8),.neg (.c (.int 1))]) (.c (.int 0))])
   [.ex (.bm (.x 9) .append [.tup [.x 8,.i (.x 7) (.i (.a (.x 0) 7) (.x 8))]])]
   []],
  .ret (.x 9)]
noncomputable def Xd:List S:=
 [.s (.v 2) (.lst true [.x 1]),
  .whl (.m .ne (.x 2) (.lst false []))
  [.s (.vs [3,4,5,6]) (.h (.x 0) 26 [.bm (.x 2) .pop []]),
   .ite (.o false [.m .eq (.x 3) (.x 4),.m .eq (.x 5) (.x 6)])
   [.ex (.h (.x 0) 27 [.tup [.x 3,.x 4,.x 5,.x 6]])]
   [.s (.v 7) (.call 2 [.h (.x 0) 31 [.tup [.x 3,.x 4,.x 5,.x 6]]]),
    .ite (.m .eq (.x 7) (.lst false []))
    [.ex (.h (.x 0) 30 [.tup [.x 3,.x 4,.x 5,.x 6]])]
    [.for (.tup [8,9]) (.seq (.x 7))
     [.ex (.bm (.x 2) .append [.tup [.x 3,.x 8,.x 5,.x 9]]),
      .s (.vs [3,5]) (.tup [.b .add (.x 8) (.c (.int 1)),.b .add (.x 9) (.c (.int 1))])],
     .ex (.bm (.x 2) .append [.tup [.x 3,.x 4,.x 5,.x 6]])]]]]
noncomputable def Xe:List S:=
 [.s (.vs [3,4,5,6]) (.x 1),
  .s (.v 7) (.dct false [] []),
  .for (.v 8) (.range [.x 3,.x 4])
  [.s (.v 9) (.bm (.x 7) .setdefault [.i (.a (.x 0) 7) (.x 8),.lst true []]),
   .ex (.bm (.x 9) .append [.x 8])],
  .s (.vs [10,11]) (.tup [.c .none,.c (.bool false)]),
  .for (.v 12) (.range [.x 5,.x 6])
  [.s (.v 9) (.bm (.x 7) .get [.i (.a (.x 0) 8) (.x 12),.lst false []]),
   .s (.v 11) (.o false [.x 11,.m .ne (.x 9) (.lst false [])]),
   .ite (.m .gt (.bi .len [.x 9]) (.x 2))
   [.s (.v 9) (.lst false [])]
   [],
   .for (.v 13) (.seq (.x 9))
   [.ite (.not (.h (.x 0) 34 [.x 13,.x 12,.x 3,.x 5,.x 7,.x 2]))
    [.s (.vs [14,15]) (.tup [.c (.int 0),.bi .len [.x 9]]),
     .whl (.o true [.m .lt (.b .add (.x 13) (.x 14)) (.x 4),.m .lt (.b .add (.x 12) (.x 14)) (.x 6),.m .eq (.i (.a (.x 0) 7) (.b .add (.x 13) (.x 14))) (.i (.a (.x 0) 8) (.b .add (.x 12) (.x 14)))])
     [.s (.v 15) (.bi .min [.x 15,.bi .len [.i (.x 7) (.i (.a (.x 0) 7) (.b .add (.x 13) (.x 14)))]]),
      .aug (.v 14) .add (.c (.int 1))],
     .s (.v 16) (.tup [.x 15,.neg (.x 14),.x 13,.x 12]),
     .ite (.o false [.m .is (.x 10) (.c .none),.m .lt (.x 16) (.x 10)])
     [.s (.v 10) (.x 16)]
     []]
    []]],
  .ret (.ite (.m .is (.x 10) (.c .none)) (.tup [.c .none,.x 11]) (.tup [.tup [.i (.x 10) (.c (.int 2)),.i (.x 10) (.c (.int 3)),.neg (.i (.x 10) (.c (.int 1)))],.x 11]))]
noncomputable def Xf:List S:=
 [.ite (.o false [.m .eq (.x 1) (.x 3),.m .eq (.x 2) (.x 4),.m .ne (.i (.a (.x 0) 7) (.b .sub (.x 1) (.c (.int 1)))) (.i (.a (.x 0) 8) (.b .sub (.x 2) (.c (.int 1))))])
  [.ret (.c (.bool false))]
  [],
  .ret (.m .le (.bi .len [.i (.x 5) (.i (.a (.x 0) 7) (.b .sub (.x 1) (.c (.int 1))))]) (.x 6))]
noncomputable def Xg:List S:=
 [.s (.v 3) (.lst true [.x 1]),
  .whl (.m .ne (.x 3) (.lst false []))
  [.s (.vs [4,5,6,7]) (.h (.x 0) 26 [.bm (.x 3) .pop []]),
   .ite (.o false [.m .eq (.x 4) (.x 5),.m .eq (.x 6) (.x 7)])
   [.ex (.h (.x 0) 27 [.tup [.x 4,.x 5,.x 6,.x 7]])]
   [.s (.vs [8,9]) (.h (.x 0) 33 [.tup [.x 4,.x 5,.x 6,.x 7],.x 2]),
    .ite (.m .isnot (.x 8) (.c .none))
    [.s (.vs [10,11,12]) (.x 8),
     .whl (.o true [.m .gt (.x 10) (.x 4),.m .gt (.x 11) (.x 6),.m .eq (.i (.a (.x 0) 7) (.b .sub (.x 10) (.c (.int 1)))) (.i (.a (.x 0) 8) (.b .sub (.x 11) (.c (.int 1))))])
     [.s (.vs [10,11,12]) (.tup [.b .sub (.x 10) (.c (.int 1)),.b .sub (.x 11) (.c (.int 1)),.b .add (.x 12) (.c (.int 1))])],
     .ex (.bm (.x 3) .append [.tup [.x 4,.x 10,.x 6,.x 11]]),
     .ex (.bm (.x 3) .append [.tup [.b .add (.x 10) (.x 12),.x 5,.b .add (.x 11) (.x 12),.x 7]])]
    [.ite (.x 9)
     [.ex (.h (.x 0) 30 [.tup [.x 4,.x 5,.x 6,.x 7]])]
     [.ex (.h (.x 0) 27 [.tup [.x 4,.x 5,.x 6,.x 7]])]]]]]
noncomputable def Xh:List S:=
 [.s (.a (.x 0) 11) (.x 1),
  .s (.a (.x 0) 12) (.x 3),
  .s (.a (.x 0) 13) (.lst true [.c (.int 0)]),
  .for (.v 4) (.seq (.x 2))
  [.ite (.x 4)
   [.aug (.i (.a (.x 0) 13) (.neg (.c (.int 1)))) .add (.c (.int 1))]
   [.ex (.bm (.a (.x 0) 13) .append [.c (.int 0)])]]]
noncomputable def Xi:List S:=
 [.ret (.b .add (.x 1) (.bi .sum [.l (.a (.x 0) 13) (.c .none) (.x 1)]))]
noncomputable def Xj:List S:=
 [.s (.v 2) (.h (.x 0) 36 [.x 1]),
  .ret (.o true [.m .gt (.x 1) (.c (.int 0)),.m .eq (.i (.a (.x 0) 11) (.b .sub (.x 2) (.c (.int 1)))) (.i (.a (.x 0) 11) (.b .sub (.b .add (.x 2) (.i (.a (.x 0) 13) (.x 1))) (.c (.int 1))))])]
noncomputable def Xk:List S:=
 [.s (.v 2) (.h (.x 0) 36 [.x 1]),
  .ret (.o true [.m .lt (.b .add (.x 1) (.c (.int 1))) (.bi .len [.a (.x 0) 13]),.m .eq (.i (.a (.x 0) 11) (.x 2)) (.i (.a (.x 0) 11) (.b .add (.x 2) (.i (.a (.x 0) 13) (.x 1))))])]
noncomputable def Xl:List S:=
 [.aug (.i (.a (.x 0) 13) (.x 2)) .add (.i (.a (.x 0) 13) (.x 1)),
  .s (.i (.a (.x 0) 13) (.x 1)) (.c (.int 0)),
  .ret (.x 2)]
noncomputable def Xm:List S:=
 [.s (.v 2) (.i (.a (.x 0) 12) (.b .sub (.b .add (.h (.x 0) 36 [.x 1]) (.i (.a (.x 0) 13) (.x 1))) (.c (.int 1)))),
  .ret (.o true [.bi .isB [.x 2],.m .eq (.bm (.x 2) .strip [.g 0]) (.c (.bytes []))])]
noncomputable def Xn:List S:=
 [.s (.v 1) (.lst false []),
  .for (.tup [2,3]) (.enum (.a (.x 0) 13))
  [.s (.v 1) (.b .add (.b .add (.x 1) (.rep false [.c (.bool true)] (.x 3))) (.rep false [.c (.bool false)] (.bi .int [.m .lt (.b .add (.x 2) (.c (.int 1))) (.bi .len [.a (.x 0) 13])])))],
  .ret (.x 1)]
noncomputable def Xo:List S:=
 [.s (.vs [3,4,5]) (.tup [.c (.int 0),.x 1,.neg (.c (.int 1))]),
  .whl (.m .ne (.x 3) (.i (.a (.x 0) 13) (.x 1)))
  [.s (.v 3) (.i (.a (.x 0) 13) (.x 1)),
   .whl (.h (.x 0) 37 [.x 1])
   [.s (.v 1) (.h (.x 0) 39 [.x 1,.b .sub (.x 1) (.c (.int 1))])],
   .s (.v 4) (.x 1),
   .s (.v 5) (.ite (.m .gt (.i (.a (.x 2) 13) (.x 1)) (.c (.int 0))) (.x 1) (.neg (.c (.int 1)))),
   .whl (.h (.x 0) 38 [.x 1])
   [.s (.v 1) (.h (.x 0) 39 [.x 1,.b .add (.x 1) (.c (.int 1))]),
    .ite (.m .gt (.i (.a (.x 2) 13) (.x 1)) (.c (.int 0)))
    [.s (.v 5) (.x 1)]
    []]],
  .ite (.m .ge (.x 5) (.c (.int 0)))
  [.whl (.m .gt (.x 1) (.x 5))
   [.s (.v 1) (.h (.x 0) 39 [.x 1,.b .sub (.x 1) (.c (.int 1))])],
   .ret (.x 1)]
  [],
  .s (.v 6) (.x 1),
  .whl (.o true [.m .gt (.x 1) (.x 4),.not (.h (.x 0) 40 [.x 1])])
  [.s (.v 1) (.h (.x 0) 39 [.x 1,.b .sub (.x 1) (.c (.int 1))])],
  .ite (.not (.h (.x 0) 40 [.x 1]))
  [.whl (.m .lt (.x 1) (.x 6))
   [.s (.v 1) (.h (.x 0) 39 [.x 1,.b .add (.x 1) (.c (.int 1))])]]
  [],
  .ret (.x 1)]
noncomputable def Xp:List S:=
 [.s (.v 2) (.c (.int 0)),
  .whl (.m .lt (.x 2) (.bi .len [.a (.x 0) 13]))
  [.ite (.m .gt (.i (.a (.x 0) 13) (.x 2)) (.c (.int 0)))
   [.s (.v 2) (.h (.x 0) 42 [.x 2,.x 1])]
   [],
   .aug (.v 2) .add (.c (.int 1))]]
noncomputable def Xq:List S:=
 [.s (.a (.x 0) 14) (.x 1),
  .s (.a (.x 0) 15) (.x 2),
  .s (.a (.x 0) 16) (.x 3),
  .s (.a (.x 0) 17) (.x 4),
  .s (.a (.x 0) 18) (.x 5),
  .s (.a (.x 0) 19) (.x 6)]
noncomputable def Xs:List Fn:=[⟨1,3,[],b0⟩,
 ⟨2,0,[],b1⟩,
 ⟨1,8,[],b2⟩,
 ⟨2,1,[],b3⟩,
 ⟨2,1,[],b4⟩,
 ⟨3,1,[.int 64],b5⟩,
 ⟨3,0,[],b6⟩,
 ⟨2,0,[],b7⟩,
 ⟨3,4,[],b8⟩,
 ⟨2,2,[],b9⟩,
 ⟨4,9,[],Wy⟩,
 ⟨5,4,[],Wz⟩,
 ⟨1,0,[],WA⟩,
 ⟨1,0,[],WG⟩,
 ⟨2,4,[],WH⟩,
 ⟨2,5,[],WJ⟩,
 ⟨3,5,[],WK⟩,
 ⟨1,0,[],WL⟩,
 ⟨1,0,[],WM⟩,
 ⟨3,6,[],WN⟩,
 ⟨1,0,[],WO⟩,
 ⟨1,3,[],WQ⟩,
 ⟨7,5,[],WR⟩,
 ⟨5,11,[],WT⟩,
 ⟨3,7,[],WU⟩,
 ⟨1,9,[],WV⟩,
 ⟨5,0,[],WW⟩,
 ⟨1,0,[],WX⟩,
 ⟨1,0,[],WY⟩,
 ⟨1,0,[],WZ⟩,
 ⟨1,0,[],W0⟩,
 ⟨2,1,[],W3⟩,
 ⟨2,0,[],W4⟩,
 ⟨3,1,[],W5⟩,
 ⟨1,0,[],W6⟩,
 ⟨2,4,[],W7⟩,
 ⟨2,5,[],W8⟩,
 ⟨1,5,[],W9⟩,
 ⟨2,12,[],Xa⟩,
 ⟨2,7,[],Xb⟩,
 ⟨2,8,[],Xc⟩,
 ⟨2,8,[],Xd⟩,
 ⟨3,14,[],Xe⟩,
 ⟨7,0,[],Xf⟩,
 ⟨3,10,[],Xg⟩,
 ⟨4,1,[],Xh⟩,
 ⟨2,0,[],Xi⟩,
 ⟨2,1,[],Xj⟩,
 ⟨2,1,[],Xk⟩,
 ⟨3,0,[],Xl⟩,
 ⟨2,1,[],Xm⟩,
 ⟨1,3,[],Xn⟩,
 ⟨3,4,[],Xo⟩,
 ⟨2,1,[],Xp⟩,
 ⟨7,0,[],Xq⟩]
noncomputable def pF(f:Nat):Fn:=cS Xs f ⟨0,0,[],[.stop]⟩
noncomputable def pV(f:Nat):List Str:=cS Wv f []
end
section
open PySem PySem.W PyProof.Rows
def Ks:List bG->List DictEntry->Prop
 |[],es=>es=[]
 |k::r,es=>∃e es' t,es=e::es'/\e.key=.str (an k) t/\Ks r es'
mutual
def VR(fz:aq->Prop)(h:Heap):V->ag->Prop
 |.none,x=>x=.none
 |.bool b,x=>x=.bool b
 |.int i,x=>∃t,x=.int i t
 |.str b,x=>∃t,x=.str b t
 |.bytes b,x=>∃t,x=.bytes b.toArray t/\b.length<=aJ
 |.tup l,x=>∃a vs,x=.ref a/\fz a/\IsTup h a vs.toArray/\l.length<=aJ/\aN fz h l vs
 |.list l,x=>∃a vs,x=.ref a/\fz a/\h.PlainList a vs.toArray/\l.length<=aJ/\aN fz h l vs
 |.inst c d,x=>∃a,x=.ref a/\fz a/\h.get? a=some (instObj (ca c) d)
 |.obj c fs,x=>∃a d es n,x=.ref a/\fz a/\fz d/\h.get? a=some (instObj (ca c) d)/\h.get? d=some (mE es n)/\Ks (dH c) es/\aN fz h fs (es.map (·.val))
 |.ref a,x=>x=.ref a
def aN(fz:aq->Prop)(h:Heap):List V->List ag->Prop
 |[],xs=>xs=[]
 |v::l,xs=>∃y ys,xs=y::ys/\VR fz h v y/\aN fz h l ys
end
abbrev Kp(fz:aq->Prop)(h:Heap)(fz':aq->Prop)(h':Heap):Prop:=∀a o,fz a->h.get? a=some o->fz' a/\h'.get? a=some o
section
variable{fz fz':aq->Prop}{h h':Heap}
theorem mQ(k:Kp fz h fz' h'){a:aq}{vs:Array ag}(f:fz a)(t:IsTup h a vs):fz' a/\IsTup h' a vs:=
 let ⟨o,ho,r⟩:=t;⟨(k a o f ho).1,o,(k a o f ho).2,r⟩
theorem iK(k:Kp fz h fz' h'){a:aq}{vs:Array ag}(f:fz a)(t:h.PlainList a vs):fz' a/\h'.PlainList a vs:=
 let ⟨n,ho⟩:=t;⟨(k a _ f ho).1,n,(k a _ f ho).2⟩
theorem VR.mono2(k:Kp fz h fz' h'):(∀v x,VR fz h v x->VR fz' h' v x)/\∀l xs,aN fz h l xs->aN fz' h' l xs:=
 let nil:∀xs,aN fz h [] xs->aN fz' h' [] xs:=λ_ e=>e
 let cons:∀(v:V)(l:List V),(∀x,VR fz h v x->VR fz' h' v x)->(∀xs,aN fz h l xs->aN fz' h' l xs)->∀xs,aN fz h (v::l) xs->aN fz' h' (v::l) xs:=
  λ_ _ i j _ z_=>cG z_ λy ys e r rs=>⟨y,ys,e,i _ r,j _ rs⟩
 have key:∀v:V,∀x,VR fz h v x->VR fz' h' v x:=λv=>
  V.rec (motive_1:=λv=>∀x,VR fz h v x->VR fz' h' v x) (motive_2:=λl=>∀xs,aN fz h l xs->aN fz' h' l xs)
   (λ_ e=>e) (λ_ _ e=>e) (λ_ _ e=>e) (λ_ _ e=>e) (λ_ _ e=>e)
   (λ_ i _ z_=>o7 z_ λa vs e f t z r=>⟨a,vs,e,(mQ k f t).1,(mQ k f t).2,z,i _ r⟩)
   (λ_ i _ z_=>o7 z_ λa vs e f t z r=>⟨a,vs,e,(iK k f t).1,(iK k f t).2,z,i _ r⟩)
   (λ_ _ _ z_=>cm z_ λa e f t=>⟨a,e,(k _ _ f t).1,(k _ _ f t).2⟩)
   (λ_ _ i _ z_=>XK z_ λa d es n e f g t u ks r=>⟨a,d,es,n,e,(k _ _ f t).1,(k _ _ g u).1,(k _ _ f t).2,(k _ _ g u).2,ks,i _ r⟩)
   (λ_ _ e=>e) nil cons v
 ⟨key,λl=>Eg (motive:=λl=>∀xs,aN fz h l xs->aN fz' h' l xs) nil (λv l i=>cons v l (key v) i) l⟩
theorem VR.mono(k:Kp fz h fz' h'){v:V}{x:ag}(r:VR fz h v x):VR fz' h' v x:=(VR.mono2 k).1 v x r
theorem aN.mono(k:Kp fz h fz' h'){v:List V}{x:List ag}(r:aN fz h v x):aN fz' h' v x:=(VR.mono2 k).2 v x r
theorem aN.length:∀{l:List V}{xs:List ag},aN fz h l xs->xs.length=l.length
 :=λ{l}=>@(li (λ{_}e=>congrArg rM e) (λ_ _ ih{_}r=>cG r λ_ _ e _ r=>(congrArg rM e).trans (congrArg (·+1) (ih r))) l)
theorem aN.append:∀{l l':List V}{xs xs':List ag},aN fz h l xs->aN fz h l' xs'->aN fz h (l++l') (xs++xs')
 :=λ{l}=>@(li (λ{_ _ _}e r'=>e▸r') (λ_ _ ih{_ _ xs'}r r'=>cG r λy ys e a r=>⟨y,ys++xs',e▸rfl,a,ih r r'⟩) l)
theorem aN.one{v:V}{x:ag}(r:VR fz h v x):aN fz h [v] [x]:=⟨x,[],rfl,r,rfl⟩
theorem aN.get{v:V}:∀{l:List V}{xs:List ag}{i:Nat},aN fz h l xs->l[i]?=some v->∃x,xs[i]?=some x/\VR fz h v x
 :=λ{l}=>@(li (λ{_ _}_ e=>nn e) (λ_ _ ih{_ i}r=>cG r λy ys e a r=>nz (λq=>⟨y,e▸rfl,dy q▸a⟩) (λi q=>ar (ih (i:=i) r q) λx p a=>⟨x,e▸p,a⟩) i) l)
theorem aN.take:∀{l:List V}{xs:List ag}(n:Nat),aN fz h l xs->aN fz h (l.take n) (xs.take n)
 :=λ{l}=>@(li (λ{_}n e=>(by rw[x9,show _ = [] from e,x9];rfl)) (λ_ _ ih{_}n r=>nz rfl (λn=>cG r λy ys e a r=>⟨y,ys.take n,e▸rfl,a,ih n r⟩) n) l)
theorem aN.drop:∀{l:List V}{xs:List ag}(n:Nat),aN fz h l xs->aN fz h (l.drop n) (xs.drop n)
 :=λ{l}=>@(li (λ{_}n e=>(by rw[uv,show _ = [] from e,uv];rfl)) (λ_ _ ih{_}n r=>nz r (λn=>cG r λy ys e a r=>e▸ih n r) n) l)
theorem aN.part{l:List V}{xs:List ag}(i j:Nat)(r:aN fz h l xs):aN fz h (Internal.aH l i j) (Internal.aH xs i j):=(r.take j).drop i
theorem aN.reverse:∀{l:List V}{xs:List ag},aN fz h l xs->aN fz h l.reverse xs.reverse
 :=λ{l}=>@(li (λ{_}e=>e▸rfl) (λv l ih{_}r=>cG r λy ys e a r=>by rw[e,rD,rD];exact(ih r).append (.one a)) l)
theorem aN.set{v:V}{x:ag}(q:VR fz h v x):∀{l:List V}{xs:List ag}(i:Nat),aN fz h l xs->aN fz h (l.set i v) (xs.set i x)
 :=λ{l}=>@(li (λ{_}_ e=>e▸rfl) (λ_ _ ih{_}i r=>cG r λy ys e a r=>nz ⟨x,ys,e▸rfl,q,r⟩ (λi=>⟨y,ys.set i x,e▸rfl,a,ih i r⟩) i) l)
theorem aN.replicate{l:List V}{xs:List ag}(r:aN fz h l xs):∀n:Nat,aN fz h (aR n l).flatten (aR n xs).flatten
 |0=>rfl
 |n+1=>aN.append r (r.replicate n)
end
structure Cx where
 w:iz
 h:Heap
 mg:Str->Option ag
 mb:Str->Option ag
 K:Frag
end
section
open PySem PySem.W PyProof.Rows
noncomputable abbrev cy:Program:=fq
abbrev aw:ag->aB->Prop:=λ_ _=>False
def tN(c:Cx):Prop:=∀(s:aB)(l:aq)(ns:List Int)(vs:List ag),s.heap=c.h->ns.length<=63->c.h.PlainList l vs.toArray->IntsAre vs ns ->
 codeAny (model cy c.w) callerA (.call (.ref (fa 25)) ⟨[.ref l],[]⟩) (wants (λv s'=>v=.bool true/\(∀a o,c.h.get? a=some o->s'.heap.get? a=some o)/\s'.gens=s.gens/\s'.os=s.os) aw) s
noncomputable def m9(sc:Scope):List Str:=(sc.names.filter λp=>p.2==.globalImplicit||p.2==.cell).map (·.1)
noncomputable def Bi(sc:Scope)(vn:List Str):Bool:=
 sc.kind==.function&&!sc.isGenerator&&!sc.isCoroutine&&vn.all (λx=>(sc.names.lookup x==some .local||sc.names.lookup x==some .cell)&&x != ("__debug__":Str)&&x != ("__classdict__":Str))&&gW vn &&
 (m9 sc).all (λx=>match vn.contains x with
  |true=>sc.names.lookup x==some .cell
  |false=>sc.names.lookup x==some .globalImplicit&&x != ("__debug__":Str)&&x != ("__name__":Str)&&x != ("super":Str))
noncomputable def sx:cf:=.Pass default
structure Il(K:Frag)(f:Nat)(o:Obj)(fd:FuncData)(l:List cf)(D:List ag):Prop where
 get:K.lookup (fa f)=some o
 data:o.data=.func fd
 body:fd.body=.stmts l
 tree:mX (pV f) sx (pF f).body l=l
 ok:mU (m9 fd.scope) (pV f) sx (pF f).body l=true
 sc:Bi fd.scope (pV f)=true
 glob:fd.globals=mainGlobals
 blt:fd.builtins=builtinsNs
 clo:fd.closure=[]
 code:codeIn K fd.code fd.qualname=true
 p1:fd.params.posonlyargs=[]
 p2:fd.params.kwonlyargs=[]
 p3:fd.params.vararg=none
 p4:fd.params.kwarg=none
 p5:fd.params.args.map (·.arg)=(pV f).take (pF f).par
 len:(pV f).length=(pF f).par+(pF f).loc
 dfl:(fd.defaults=.none/\D=[])\/∃T oT n,fd.defaults=.ref T/\K.lookup T=some oT/\oT.data=.seq D.toArray n
 dn:D.length<=(pF f).par
 dv:(D.length<=1/\∀fz h,aN fz h (pF f).dfl D)\/(pF f).dfl=[]
def Im(K:Frag)(f:Nat):Prop:=∃o fd l D,Il K f o fd l D
structure Ap(K:Frag)(c:Nat):Prop where
 get:plainGet K (ca c) ""=true
 has:hasDictIn K (ca c)=true
 over:plainOver K (ca c)=true
 setA:findIn K (.ref (ca c)) "__setattr__"=some (some (.builtin "object.__setattr__"))
 fld:∀a,(dH c).contains a=true->findIn K (.ref (ca c)) (an a)=some none
 inj:∀a b,(dH c).contains a=true->(dH c).contains b=true->an a=an b->a=b
 mth:∀m f,lQ c m=some f->findIn K (.ref (ca c)) (an m)=some (some (.ref (fa f)))/\isFn K (.ref (fa f))=true/\∀a,(dH c).contains a=true->an a≠an m
 made:makesIn K (ca c)=true
 init:findIn K (.ref (ca c)) "__init__"=some (some (.ref (fa (initF c))))
 initF:isFn K (.ref (fa (initF c)))=true
 keep:keepIn K (.ref (ca c))=true
 small:(dH c).length<=100
structure bF(c:Cx):Prop where
 X:c.K.In c.h
 big:c.h.get? sysModules≠none
 fn:∀f<26,nsIn c.K mainGlobals (cS wK f "")=some (some (.ref (fa f)))/\keepIn c.K (.ref (fa f))=true
 mth:∀k m f,lQ k m=some f->keepIn c.K (.ref (fa f))=true
 cn:∀k<5,nsIn c.K mainGlobals (cS tF k "")=some (some (.ref (ca k)))/\Ap c.K k
 cno:∀k,¬k<5->dH k=[]/\∀m,lQ k m=none
 gn:∀g<4,∃b t,qy g=some (.bytes b)/\b.length<=aJ/\nsIn c.K mainGlobals (cS qK g "")=some (some (.bytes b.toArray t))
 bn:∀x∈(["len","isinstance","int","max","min","sum","bytes","str","range","enumerate","zip"]:List Str),nsIn c.K mainGlobals x=some none/\x≠"__name__"
 g:c.h.Ns mainGlobals c.mg
 b:c.h.Ns builtinsNs c.mb
 nolimit:c.h.NoLimit
 boot:∀x:Str,x≠"__name__"->c.mb x=bootBuiltins x
 fns:∀f,Im c.K f\/(pF f).body=[.stop]
set_option tactic.hygienic true in
theorem HN:Nonempty Cx:=⟨⟨aWorld 0,{},λ_=>none,λ_=>none,[]⟩⟩
noncomputable def cx:Cx:=@Classical.epsilon Cx HN λc=>bF c/\¬tN c
theorem TF(h:bF cx->tN cx)(c:Cx)(p:bF c):tN c:=
 o8 λn=>have q:=@Classical.epsilon_spec_aux Cx HN (λc=>bF c/\¬tN c) ⟨c,p,n⟩;q.2 (h q.1)
noncomputable abbrev w:iz:=cx.w
noncomputable abbrev h₀:Heap:=cx.h
noncomputable abbrev K₀:Frag:=cx.K
noncomputable abbrev Md:Model:=model cy w
abbrev BB:=Bool ⊕ List UInt8
end
section
open PySem PySem.W PyProof.Rows PySem.SeqAt
theorem yp{A:bD}{s:aB}(b c:List UInt8)(t u:Tok):EqAt A s (.bytes b.toArray t) (.bytes c.toArray u) (b==c):=λcy w E Q hq=>eqBool_bytes (by
 rw[show decide (b.toArray.toList=c.toArray.toList)=(b==c) from by by_cases h:b=c<;>simp[h]];exact hq)
theorem CG(a:Bool)(b:Array UInt8)(u:Tok):Gives (Builtin.«int.__eq__» ⟨[.bool a,.bytes b u],[]⟩) (.val (J9)):=
 .of_wp λM A E s Q h=>by obtain⟨hp,g,d,tk,os⟩:=s;wp_walk;exact⟨_,rfl,h⟩
theorem Co:isSubtype (.type "bool") (.type "bytes")=pure false:=by rw[pC];kernel_rfl
theorem Cw(b:Array UInt8)(u:Tok)(a:Bool):Gives (Builtin.«bytes.__eq__» ⟨[.bytes b u,.bool a],[]⟩) (.val (J9)):=
 .of_wp λM A E s Q h=>by
  have f:=Co;obtain⟨hp,g,d,tk,os⟩:=s;wp_walk;exact⟨_,rfl,h⟩
theorem BQ:Slot "bytes" (cmpInfo .Eq).2.2 "bytes.__eq__":=B4
theorem B0:Slot "bool" (cmpInfo .Eq).2.2 "int.__eq__":=BF
theorem Lp:isSubtype (.type "bytes") (.type "bool")=pure false:=by rw[pC];kernel_rfl
section
variable{s:aB}{A:bD}
theorem LD(a:Bool)(b:Array UInt8)(u:Tok):RcAt A s (.bool a) (.bytes b u) false:=λcy w E Q h=>
 KX (k:=false) rfl (rq s b u) (by decide) Lp BF BQ
  (λ_ hq=>rQ BF rfl J8 (JQ _ _) (CG a b u) hq)
  (λ_ hq=>rQ BQ (rq s b u) Kv (Kj _ _) (Cw b u a) hq)
  (λ_ hq=>f9 (rfl:isSame (.bool a) (.bytes b u)=pure false) hq) (.inl rfl) h
theorem Lb(a:Bool)(b:Array UInt8)(u:Tok):EqAt A s (.bool a) (.bytes b u) false:=λcy w E Q h=>by
 unfold eqBool;refine ic ?_;refine Lf (λhab=>absurd (eq_of_beq hab) nofun) (λ_=>?_);exact aG (LD a b u cy w E _ (B2 h))
theorem LF(a:Bool)(b:Array UInt8)(u:Tok):RcAt A s (.bytes b u) (.bool a) false:=λcy w E Q h=>
 KX (k:=false) (rq s b u) rfl (by decide) Co B4 B0
  (λ_ hq=>rQ B4 (rq s b u) Kv (Kj _ _) (Cw b u a) hq)
  (λ_ hq=>rQ B0 rfl J8 (JQ _ _) (CG a b u) hq)
  (λ_ hq=>f9 (rfl:isSame (.bytes b u) (.bool a)=pure false) hq) (.inl rfl) h
theorem Ld(a:Bool)(b:Array UInt8)(u:Tok):EqAt A s (.bytes b u) (.bool a) false:=λcy w E Q h=>by
 unfold eqBool;refine ic ?_;refine Lf (λhab=>absurd (eq_of_beq hab) nofun) (λ_=>?_);exact aG (LF a b u cy w E _ (B2 h))
end
noncomputable def wD(k:BB)(v:ag):Bool:=match k with
 |.inl b=>match v with
  |.bool c=>b==c
  |_=>false
 |.inr l=>match v with
  |.bytes c _=>c.toList==l
  |_=>false
theorem nP{k:BB}{v:ag}(h:wD k v=true):(∃b,k=.inl b/\v=.bool b)\/∃l t,k=.inr l/\v=.bytes l.toArray t:=by
 cases k with
 |inl b=>cases v<;>first|exact bn h|exact .inl ⟨_,congrArg Fi (eq_of_beq h),rfl⟩
 |inr l=>cases v<;>first|exact bn h|exact .inr ⟨_,_,congrArg zo (eq_of_beq h).symm,rfl⟩
noncomputable def ky:KeyKind cy w BB where
 is:=wD
 hash
  |.inl b=>if b then 1 else 0
  |.inr l=>hashW w.params (.bytes l)
 inj v a b ha hb:=by
  rcases nP ha with⟨x,rfl,rfl⟩|⟨l,t,rfl,rfl⟩<;>rcases nP hb with⟨y,rfl,e⟩|⟨m,u,rfl,e⟩
  ·injection e with e;exact congrArg Fi e
  ·cases e
  ·cases e
  ·injection e with e;exact congrArg (λa=>zo a.toList) e
 byValue k v h:=by rcases nP h with⟨x,rfl,rfl⟩|⟨l,t,rfl,rfl⟩<;>rfl
 pyHash:=λ{A E s k v Q}hv h=>by
  rcases nP hv with⟨b,rfl,rfl⟩|⟨l,t,rfl,rfl⟩
  ·refine pyHash_slot (T:="bool") rfl PySem.F.slot_bool_hash entry_int_hash (args_int_hash _) (beq_builtin_none _) (.inl rfl) ?_
   cases b
   ·exact(show wpAny _ _ (do ret (<-mkInt 0)) _ _ s from aG (rO (a9 ⟨_,_,rfl,h⟩)))
   ·exact(show wpAny _ _ (do ret (<-mkInt 1)) _ _ s from aG (rO (a9 ⟨_,_,rfl,h⟩)))
  ·exact(bytesKind cy w).pyHash (k:=l) (by simp[bytesKind,isBytes]) h
 eqBool:=λ{A E s a b u v Q}hu hv h=>by
  rcases nP hu with⟨x,rfl,rfl⟩|⟨l,t,rfl,rfl⟩<;>rcases nP hv with⟨y,rfl,rfl⟩|⟨m,t',rfl,rfl⟩
  ·exact EqAt.bool_bool x y cy w _ _ (by rw[show(x==y)=decide ((Fi x:BB)=.inl y) from by cases x<;>cases y<;>rfl];exact h)
  ·exact Lb x _ _ cy w _ _ (by simpa using h)
  ·exact Ld y _ _ cy w _ _ (by simpa using h)
  ·have z:(l==m)=decide ((zo l:BB)=.inr m):=by
    by_cases e:l=m
    ·rw[e,decide_eq_true (p:=(zo m:BB)=.inr m) rfl];exact beq_self_eq_true m
    ·rw[decide_eq_false (λz=>e (Mg z))];exact beq_false_of_ne e
   exact yp l m _ _ cy w _ _ (by rw[z];exact h)
 «strs» k x t v h:=by rcases nP h with⟨b,rfl,e⟩|⟨l,t',rfl,e⟩<;>cases e
theorem Q2(b:Bool):ky.is (.inl b) (.bool b)=true:=by simp[ky,wD]
theorem OQ(l:List UInt8)(t:Tok):ky.is (.inr l) (.bytes l.toArray t)=true:=by simp[ky,wD]
end
section
open PySem PySem.W PyProof.Rows
def Fz(Z:ae)(B:aq->Prop)(a:aq):Prop:=Z a=none/\¬B a
def OR(fz:aq->Prop)(h:Heap)(o:Option V)(x:Option ag):Prop:=match o with
 |some v=>∃y,x=some y/\VR fz h v y
 |none=>x=none
def MR(fz:aq->Prop)(h:Heap)(a:aq)(m:M):Prop:=match m with
 |.list l=>∃vs,h.PlainList a vs.toArray/\l.length<=aJ/\aN fz h l vs
 |.attrs c fs=>∃es n,h.get? a=some (mE es n)/\Ks (fs.map (·.1)) es/\aN fz h (fs.map (·.2)) (es.map (·.val))/\∀p∈fs,(dH c).contains p.1=true
 |.dI n f=>∃kvs,h.DictOf (intKind cy w) a kvs/\kvs.length<=n/\∀k,OR fz h (f k) (valueAt kvs k)
 |.dS n f=>∃kvs,h.DictOf (strKind cy w) a kvs/\kvs.length<=n/\∀k,OR fz h (f k) (valueAt kvs k)
 |.dB n f=>∃xs,h.DictOfH (tupleKind ky) a xs/\xs.length<=n/\(∀x∈xs,fz x.2.1)/\∀k,OR fz h (f k) ((atKey xs [.inl false,.inr k]).map (·.2))
abbrev bI(h h':Heap):Prop:=∀a o,h.get? a=some o->h'.get? a=some o
section
variable{fz fz':aq->Prop}{h h' h'':Heap}{B own:aq->Prop}{Z Z' Z'':ae}{s s' s'':aB}
theorem OR.mono(k:Kp fz h fz' h'){v:Option V}{x:Option ag}(r:OR fz h v x):OR fz' h' v x:=by
 cases v with
 |none=>exact r
 |some v=>obtain⟨y,e,r⟩:=r;exact⟨y,e,r.mono k⟩
theorem Ew(k:Kp fz h fz' h'){a:aq}{xs:List (List BB×aq×ag)}(ha:∀o,h.get? a=some o->h'.get? a=some o)(hz:∀x∈xs,fz x.2.1)(r:h.DictOfH (tupleKind ky) a xs):h'.DictOfH (tupleKind ky) a xs/\∀x∈xs,fz' x.2.1:=by
 refine xr r λo es ep ho q1 q2 q3 q4 q5=>?_;refine⟨⟨o,es,ep,ha _ ho,q1,q2,q3,λx hx=>?_,q5⟩,λx hx=>?_⟩
 ·refine qZ (q4 x hx) λo' items n ho' rest=>?_;exact⟨o',items,n,(k _ _ (hz x hx) ho').2,rest⟩
 ·refine qZ (q4 x hx) λo' items n ho' rest=>?_;exact(k _ _ (hz x hx) ho').1
theorem FE{K:Type}[DecidableEq K]{knd:KeyKind cy w K}{a:aq}{kvs:List (K×ag)}(ha:∀o,h.get? a=some o->h'.get? a=some o)(r:h.DictOf knd a kvs):h'.DictOf knd a kvs:=by
 refine qZ r λo es ep ho q=>?_;exact⟨o,es,ep,ha _ ho,q⟩
theorem MR.mono(k:Kp fz h fz' h'){a:aq}(ha:∀o,h.get? a=some o->h'.get? a=some o){m:M}(r:MR fz h a m):MR fz' h' a m:=by
 cases m with
 |list l=>obtain⟨vs,⟨n,ho⟩,z,r⟩:=r;exact⟨vs,⟨n,ha _ ho⟩,z,r.mono k⟩
 |attrs c fs=>obtain⟨es,n,ho,z,r,q⟩:=r;exact⟨es,n,ha _ ho,z,r.mono k,q⟩
 |dI n f=>obtain⟨kvs,d,z,r⟩:=r;exact⟨kvs,FE ha d,z,λj=>(r j).mono k⟩
 |dS n f=>obtain⟨kvs,d,z,r⟩:=r;exact⟨kvs,FE ha d,z,λj=>(r j).mono k⟩
 |dB n f=>obtain⟨xs,d,z,hz,r⟩:=r;exact⟨xs,(Ew k ha hz d).1,z,(Ew k ha hz d).2,λj=>(r j).mono k⟩
theorem MR.there{a:aq}{m:M}(r:MR fz h a m):∃o,h.get? a=some o:=by
 cases m with
 |list l=>obtain⟨vs,⟨n,ho⟩,r⟩:=r;exact⟨_,ho⟩
 |attrs c fs=>obtain⟨es,n,ho,r⟩:=r;exact⟨_,ho⟩
 |dI n f=>obtain⟨kvs,⟨o,p,q,ho,r⟩,r2⟩:=r;exact⟨o,ho⟩
 |dS n f=>obtain⟨kvs,⟨o,p,q,ho,r⟩,r2⟩:=r;exact⟨o,ho⟩
 |dB n f=>obtain⟨kvs,⟨o,p,q,ho,r⟩,r2⟩:=r;exact⟨o,ho⟩
structure aE(B:aq->Prop)(Z:ae)(h:Heap):Prop where
 base:bI h₀ h
 cells:∀a m,Z a=some m->h₀.get? a=none/\¬B a/\MR (Fz Z B) h a m
 blocked:∀a,B a->h₀.get? a=none/\∃o,h.get? a=some o
structure bK(own:aq->Prop)(Z:ae)(s:aB)(Z':ae)(s':aB):Prop where
 keep:∀a o,s.heap.get? a=some o->Z a=none->¬own a->s'.heap.get? a=some o/\Z' a=none
 there:∀a,own a->(∃o,s.heap.get? a=some o)->(∃o,s'.heap.get? a=some o)/\Z' a=none
 gens:s'.gens=s.gens
 os:s'.os=s.os
abbrev gJ:aq->Prop:=λ_=>False
theorem iT{Z:ae}:∀a,gJ a->Z a=none:=λ_ q=>q.elim
theorem bI.refl(h:Heap):bI h h:=λ_ _ e=>e
theorem bI.push(h:Heap)(o:Obj):bI h (h.push o):=λ_ _ e=>ph _ e
theorem Mz{a:aq}(hl:h.objs.size<=a):h.get? a=none:=by
 cases q:h.get? a with
 |none=>rfl
 |some o=>exact absurd (ki q) (Nat.not_lt_of_le hl)
theorem jS{a b:aq}{o:Obj}(hl:h.objs.size<=a)(e:h.get? b=some o):b≠a:=λq=>by rw[q,Mz hl]at e;exact nn e
theorem bK.trans(x:bK own Z s Z' s')(y:bK own Z' s' Z'' s''):bK own Z s Z'' s'':=
 ⟨λa o e z n=>y.keep a o (x.keep a o e z n).1 (x.keep a o e z n).2 n,λa n e=>y.there a n (x.there a n e).1,y.gens.trans x.gens,y.os.trans x.os⟩
theorem bK.of_keeps(hn:∀a,own a->Z a=none)(k:bI s.heap s'.heap)(hg:s'.gens=s.gens)(ho:s'.os=s.os):bK own Z s Z s':=
 ⟨λa o e z _=>⟨k a o e,z⟩,λa ha z_=>bA z_ λo e=>⟨⟨o,k a o e⟩,hn a ha⟩,hg,ho⟩
theorem bK.refl(hn:∀a,own a->Z a=none):bK own Z s Z s:=.of_keeps hn (bI.refl _) rfl rfl
theorem bK.kp(x:bK own Z s Z' s')(hB:∀a,own a->B a):Kp (Fz Z B) s.heap (Fz Z' B) s'.heap:=
 λa o f e=>have q:=x.keep a o e f.1 λq=>f.2 (hB a q);⟨⟨q.2,f.2⟩,q.1⟩
theorem bK.kp0(x:bK gJ Z s Z' s'):Kp (Fz Z B) s.heap (Fz Z' B) s'.heap:=x.kp λ_ q=>q.elim
theorem bI.kp{fz:aq->Prop}(k:bI h h'):Kp fz h fz h':=λa o f e=>⟨f,k a o e⟩
theorem bK.own_mono{own':aq->Prop}(x:bK own Z s Z' s')(i:∀a,own a->own' a)(hn:∀a,own' a->Z a=none):bK own' Z s Z' s':=
 ⟨λa o e z n=>x.keep a o e z λq=>n (i a q),λa ha z_=>bA z_ λo e=>(kY (own a)).elim (λq=>x.there a q ⟨o,e⟩) λq=>have z:=x.keep a o e (hn a ha) q;⟨⟨o,z.1⟩,z.2⟩,x.gens,x.os⟩
theorem aE.none_of_blocked(G:aE B Z h){a:aq}(hb:B a):Z a=none:=by
 cases q:Z a with
 |none=>rfl
 |some m=>exact absurd hb (G.cells a m q).2.1
theorem aE.in_heap(G:aE B Z h){a:aq}{m:M}(e:Z a=some m):∃o,h.get? a=some o:=(G.cells a m e).2.2.there
theorem aE.none_big(G:aE B Z h){a:aq}(ha:h.objs.size<=a):Z a=none:=by
 cases q:Z a with
 |none=>rfl
 |some m=>exact(G.in_heap q).elim λo e=>absurd rfl (jS ha e)
theorem aE.free_big(G:aE B Z h){a:aq}(ha:h.objs.size<=a):¬B a:=λhb=>(G.blocked _ hb).2.elim λo e=>absurd rfl (jS ha e)
theorem aE.new_fz(G:aE B Z h):Fz Z B h.objs.size:=⟨G.none_big (aC _),G.free_big (aC _)⟩
theorem aE.new0(G:aE B Z h){a:aq}(ha:h.objs.size<=a):h₀.get? a=none:=by
 cases q:h₀.get? a with
 |none=>rfl
 |some o=>exact absurd rfl (jS ha (G.base a o q))
theorem Aj{a b:aq}{o:Obj}(hl:h₀.get? a=none)(e:h₀.get? b=some o):b≠a:=λq=>by rw[q,hl]at e;exact nn e
theorem aE.next{B':aq->Prop}(G:aE B Z h)(k:Kp (Fz Z B) h (Fz Z' B') h')(hb:∀a,B' a->h₀.get? a=none/\∃o,h'.get? a=some o)(base:bI h₀ h')
  (hc:∀a m,Z' a=some m->(Z a=some m/\¬B' a/\∀o,h.get? a=some o->h'.get? a=some o)\/(h₀.get? a=none/\¬B' a/\MR (Fz Z' B') h' a m)):aE B' Z' h':=
 ⟨base,λa m e=>(hc a m e).elim (λz_=>g8 z_ λe n q=>have z:=G.cells a m e;⟨z.1,n,z.2.2.mono k q⟩) id,hb⟩
set_option tactic.hygienic true in
theorem aE.keeps(G:aE B Z h)(k:bI h h'):aE B Z h':=
 G.next k.kp (λa hb=>let ⟨p,o,ho⟩:=G.blocked a hb;⟨p,o,k a o ho⟩) (λa o e=>k a o (G.base a o e)) λa m e=>.inl ⟨e,(G.cells a m e).2.1,λo e=>k a o e⟩
theorem i7{a b:aq}{m:M}(n:b≠a):ak Z a m b=Z b:=if_neg n
theorem vc{a:aq}{m:M}:ak Z a m a=some m:=if_pos rfl
theorem vg{a b:aq}{m:M}(e:Z a=some m)(z:Z b=none):b≠a:=λq=>by rw[q,e]at z;cases z
theorem mO{a:aq}{m m':M}(e:Z a=some m)(hs:fJ a h h'):Kp (Fz Z B) h (Fz (ak Z a m') B) h':=
 λb o f q=>have n:=vg e f.1;⟨⟨(i7 n).trans f.1,f.2⟩,(hs.2 b n).trans q⟩
theorem aE.mut(G:aE B Z h){a:aq}{m m':M}(e:Z a=some m)(hs:fJ a h h')(r:MR (Fz (ak Z a m') B) h' a m'):aE B (ak Z a m') h':=
 have c:=G.cells a m e
 G.next (mO e hs) (λb hb=>let ⟨p,o,ho⟩:=G.blocked b hb;⟨p,o,(hs.2 b λq=>c.2.1 (q▸hb)).trans ho⟩)
  (λb o q=>(hs.2 b (Aj c.1 q)).trans (G.base b o q)) λb mb q=>(kY (b=a)).elim
   (λz=>.inr (by subst z;rw[vc]at q;(injection q with q;subst q);exact⟨c.1,c.2.1,r⟩)) λz=>.inl (by rw[i7 z]at q;exact⟨q,(G.cells b mb q).2.1,λo e=>(hs.2 b z).trans e⟩)
theorem bK.mut{a:aq}{m m':M}(e:Z a=some m)(hn:∀b,own b->Z b=none)(hs:fJ a s.heap s'.heap)(hg:s'.gens=s.gens)(ho:s'.os=s.os):bK own Z s (ak Z a m') s':=
 ⟨λb o q z _=>have n:=vg e z;⟨(hs.2 b n).trans q,(i7 n).trans z⟩,λb hb z_=>bA z_ λo q=>have n:=vg e (hn b hb);⟨⟨o,(hs.2 b n).trans q⟩,(i7 n).trans (hn b hb)⟩,hg,ho⟩
theorem Ek{a:aq}{m:M}(k:bI h h')(hge:h.objs.size<=a):Kp (Fz Z B) h (Fz (ak Z a m) B) h':=
 λb o f q=>⟨⟨(i7 (jS hge q)).trans f.1,f.2⟩,k b o q⟩
theorem aE.alloc(G:aE B Z h){a:aq}{m:M}(k:bI h h')(hge:h.objs.size<=a)(r:MR (Fz (ak Z a m) B) h' a m):aE B (ak Z a m) h':=
 G.next (Ek k hge) (λb hb=>let ⟨p,o,ho⟩:=G.blocked b hb;⟨p,o,k b o ho⟩) (λb o q=>k b o (G.base b o q)) λb mb q=>(kY (b=a)).elim
   (λz=>.inr (by subst z;rw[vc]at q;(injection q with q;subst q);exact⟨G.new0 hge,G.free_big hge,r⟩)) λz=>.inl (by rw[i7 z]at q;exact⟨q,(G.cells b mb q).2.1,λo e=>k b o e⟩)
theorem bK.alloc{a:aq}{m:M}(hge:s.heap.objs.size<=a)(hn:∀b,own b->Z b=none)(k:bI s.heap s'.heap)(hg:s'.gens=s.gens)(ho:s'.os=s.os):bK own Z s (ak Z a m) s':=
 ⟨λb o q z _=>⟨k b o q,(i7 (jS hge q)).trans z⟩,λb hb z_=>bA z_ λo q=>⟨⟨o,k b o q⟩,(i7 (jS hge q)).trans (hn b hb)⟩,hg,ho⟩
theorem Sub.none(hsub:Sub Z' Z){a:aq}(z:Z a=none):Z' a=none:=by
 cases q:Z' a with
 |none=>rfl
 |some m=>rw[hsub a m q]at z;exact sn z
theorem lF(hsub:Sub Z' Z):Kp (Fz Z B) h (Fz Z' B) h:=λa o f e=>⟨⟨hsub.none f.1,f.2⟩,e⟩
theorem aE.sub(G:aE B Z h)(hsub:Sub Z' Z):aE B Z' h:=
 G.next (lF hsub) G.blocked G.base λa m e=>.inl ⟨hsub a m e,(G.cells a m (hsub a m e)).2.1,λ_ e=>e⟩
theorem bK.sub(hsub:Sub Z' Z)(hn:∀a,own a->Z a=none):bK own Z s Z' s:=
 ⟨λa o e z _=>⟨e,hsub.none z⟩,λa ha e=>⟨e,hsub.none (hn a ha)⟩,rfl,rfl⟩
theorem Sub.refl(Z:ae):Sub Z Z:=λ_ _ e=>e
theorem Sub.trans{a b c:ae}(x:Sub a b)(y:Sub b c):Sub a c:=λi m e=>y i m (x i m e)
end
end
section
open PySem PySem.W PyProof.Rows
structure eG(env:Env)(gl vn:List Str)(B:aq->Prop):Prop where
 kind:env.scope.kind=.function
 glob:env.globals=mainGlobals
 blt:env.builtins=builtinsNs
 gls:∀x,gu gl vn x=true->env.kindOf x=some .globalImplicit
 caps:∀x,gl.contains x=true->vn.contains x=true->env.kindOf x=some .cell\/env.kindOf x=some .free
 locB:B env.locals
 nodup:gW vn=true
 cellB:∀x c,env.cells.lookup x=some c->B c/\c≠env.locals
 cellI:∀x y c,env.cells.lookup x=some c->env.cells.lookup y=some c->x=y
 names:∀x,vn.contains x=true->(x==("__debug__":Str))=false/\(x==("__classdict__":Str))=false
 gnames:∀x,gu gl vn x=true->(x==("__debug__":Str))=false/\x≠"__name__"/\(x==("super":Str))=false
def jx(fz:aq->Prop)(h:Heap)(o:Option V)(z:Option ag):Prop:=∀v,o=some v->∃y,z=some y/\VR fz h v y
def V5(fz:aq->Prop)(h:Heap)(env:Env)(m:Str->Option ag)(x:Str)(o:Option V):Prop:=
 (env.kindOf x=some .local/\jx fz h o (m x))\/((env.kindOf x=some .cell\/env.kindOf x=some .free)/\∃c z,env.cells.lookup x=some c/\h.IsCell c z/\jx fz h o z)
structure cQ(fz:aq->Prop)(env:Env)(vn:List Str)(J:aj)(h:Heap):Prop where
 len:J.length=vn.length
 loc:∃m,h.Ns env.locals m/\∀i,i<vn.length->V5 fz h env m (bq vn i) (rd J i)
structure eC(A:bD)(d:Nat):Prop where
 hd:A.handled=none
 depth:A.depth+4*d+10<=900
 units:A.units+40*d+100<=9000
theorem eC.le{A:bD}{d d':Nat}(r:eC A d)(h:d'<=d):eC A d':=⟨r.hd,by have:=r.depth;exact au [_,_,_] [] (.ln (.a (.a .v0 (.m 4 .v1)) (.k 10)) (.k 900)) 1 [(4,.ln .v1 .v2),(1,.ln (.a (.a .v0 (.m 4 .v2)) (.k 10)) (.k 900))] rfl h this,by have:=r.units;exact au [_,_,_] [] (.ln (.a (.a .v0 (.m 40 .v1)) (.k 100)) (.k 9000)) 1 [(40,.ln .v1 .v2),(1,.ln (.a (.a .v0 (.m 40 .v2)) (.k 100)) (.k 9000))] rfl h this⟩
theorem eC.unit{A:bD}{d:Nat}(r:eC A d):A.units<cLine:=bC (ai (aL _ (40*d+100)) (by rw[<-cq];exact r.units)) (by decide)
theorem eC.in1_unit{A:bD}{d:Nat}(r:eC A d):A.in1.units<cLine:=bC (ai (kT (df 1 (40*d+99)) _) (by rw[cq (40*d),<-cq];exact r.units)) (by decide)
theorem eC.lim{A:bD}{d:Nat}(r:eC A d):A.depth<recursionLimit:=bC (ai (aL _ (4*d+10)) (by rw[<-cq];exact r.depth)) (by decide)
section
variable{fz fz':aq->Prop}{h h':Heap}{B W own:aq->Prop}{Z Z' Z'':ae}{s s' s'':aB}{A:bD}{env:Env}{gl vn:List Str}{J J':aj}
theorem jx.mono(k:Kp fz h fz' h'){o:Option V}{z:Option ag}(r:jx fz h o z):jx fz' h' o z:=λv e=>(r v e).elim λy q=>⟨y,q.1,q.2.mono k⟩
theorem cQ.mono(hl:∀o,h.get? env.locals=some o->h'.get? env.locals=some o)(hc:∀x c,env.cells.lookup x=some c->∀o,h.get? c=some o->h'.get? c=some o)(k:Kp fz h fz' h')(R:cQ fz env vn J h):cQ fz' env vn J h':=by
 refine ar R.loc λm hm hv=>?_;refine⟨R.len,m,hm.at λo e=>hl o e,λi e=>?_⟩;rcases hv i e with q|⟨q,c,z,hcc,⟨o,ho,hd⟩,p⟩
 ·exact .inl ⟨q.1,q.2.mono k⟩
 ·exact .inr ⟨q,c,z,hcc,⟨o,hc _ _ hcc _ ho,hd⟩,p.mono k⟩
theorem cQ.keep(K:eG env gl vn B)(hb:∀a o,B a->h.get? a=some o->h'.get? a=some o)(k:Kp fz h fz' h')(R:cQ fz env vn J h):cQ fz' env vn J h':=
 R.mono (λo e=>hb _ o K.locB e) (λx c hc o e=>hb c o (K.cellB x c hc).1 e) k
theorem bK.blk(x:bK gJ Z s Z' s')(G:aE B Z s.heap):∀a o,B a->s.heap.get? a=some o->s'.heap.get? a=some o:=λa o hb e=>(x.keep a o e (G.none_of_blocked hb) λq=>q).1
theorem cQ.weak(R:cQ fz env vn J h)(hl:J'.length=J.length)(k:∀i v,rd J' i=some v->rd J i=some v):cQ fz env vn J' h:=by
 refine ar R.loc λm hm hv=>?_;refine⟨hl.trans R.len,m,hm,λi e=>?_⟩;rcases hv i e with q|⟨q,c,z,hcc,hz,p⟩
 ·exact .inl ⟨q.1,λv e=>q.2 v (k i v e)⟩
 ·exact .inr ⟨q,c,z,hcc,hz,λv e=>p v (k i v e)⟩
abbrev BW(B W:aq->Prop):aq->Prop:=λx=>B x\/W x
theorem r9(k:bI h h')(hw:∀a,W a->h.objs.size<=a):Kp (Fz Z B) h (Fz Z (BW B W)) h':=λb o f e=>
 ⟨⟨f.1,λq=>q.elim f.2 λq=>absurd rfl (jS (hw _ q) e)⟩,k b o e⟩
theorem aE.block(G:aE B Z h)(k:bI h h')(hw:∀a,W a->h.objs.size<=a)(ho:∀a,W a->∃o,h'.get? a=some o):aE (BW B W) Z h':=
 G.next (r9 k hw) (λb hb=>hb.elim (λhb=>(G.blocked b hb).imp id λq=>q.imp λo e=>k b o e) λhb=>⟨G.new0 (hw _ hb),ho _ hb⟩) (λb o e=>k b o (G.base b o e))
  λa m e=>.inl ⟨e,λq=>q.elim (G.cells a m e).2.1 λq=>(G.in_heap e).elim λo e=>absurd rfl (jS (hw _ q) e),λo e=>k a o e⟩
theorem rY{B':aq->Prop}(hs:∀a,B a->B' a)(hW:∀a,W a->B' a)(k:∀b o,¬W b->h.get? b=some o->h'.get? b=some o):Kp (Fz Z B') h (Fz Z B) h':=
 λa o f q=>⟨⟨f.1,λz=>f.2 (hs a z)⟩,k a o (λz=>f.2 (hW a z)) q⟩
theorem aE.shrink{B':aq->Prop}(G:aE B' Z h)(hs:∀a,B a->B' a)(hW:∀a,W a->B' a)(hd:∀a,B a->W a->∃o,h'.get? a=some o)(k:∀b o,¬W b->h.get? b=some o->h'.get? b=some o):aE B Z h':=
 G.next (rY hs hW k) (λb hb=>have z:=G.blocked b (hs b hb);⟨z.1,(kY (W b)).elim (hd b hb) λq=>z.2.imp λo e=>k b o q e⟩)
  (λb o e=>k b o (λq=>absurd rfl (Aj (G.blocked b (hW b q)).1 e)) (G.base b o e)) λa m e=>have z:=G.cells a m e;.inl ⟨e,λq=>z.2.1 (hs a q),λo=>k a o λq=>z.2.1 (hW a q)⟩
theorem aE.unblock(G:aE (BW B W) Z h):aE B Z h:=G.shrink (W:=gJ) (λ_=>.inl) (λ_ q=>q.elim) (λ_ _ q=>q.elim) λ_ _ _ e=>e
theorem yx:Kp (Fz Z (BW B W)) h (Fz Z B) h:=λa o f e=>⟨⟨f.1,λq=>f.2 (.inl q)⟩,e⟩
theorem nW(hW:∀a,W a->B a)(k:∀b o,¬W b->h.get? b=some o->h'.get? b=some o):Kp (Fz Z B) h (Fz Z B) h':=λa o f q=>⟨f,k a o (λz=>f.2 (hW a z)) q⟩
theorem aE.touch(G:aE B Z h)(hW:∀a,W a->B a)(k:∀b o,¬W b->h.get? b=some o->h'.get? b=some o)(t:∀b,W b->∃o,h'.get? b=some o):aE B Z h':=
 G.shrink (λ_ q=>q) hW (λa _ q=>t a q) k
theorem FO{a:aq}{m:M}(hs:fJ a h h'):Kp (Fz Z (BW B λx=>x=a)) h (Fz (ak Z a m) B) h':=λb o f e=>
 have n:b≠a:=λq=>f.2 (.inr q);⟨⟨(i7 n).trans f.1,λq=>f.2 (.inl q)⟩,(hs.2 b n).trans e⟩
theorem aE.fill{a:aq}{m:M}(hn:¬B a)(G:aE (BW B λx=>x=a) Z h)(hs:fJ a h h')(r:MR (Fz (ak Z a m) B) h' a m):aE B (ak Z a m) h':=
 have hge:h₀.get? a=none:=(G.blocked a (.inr rfl)).1
 G.next (FO hs) (λb hb=>have z:=G.blocked b (.inl hb);⟨z.1,z.2.imp λo e=>(hs.2 b λq=>hn (q▸hb)).trans e⟩) (λb o e=>(hs.2 b (Aj hge e)).trans (G.base b o e))
  λb mb e=>(kY (b=a)).elim (λz=>.inr (by subst z;rw[vc]at e;(injection e with e;subst e);exact⟨hge,hn,r⟩)) λz=>.inl (by rw[i7 z]at e;exact⟨e,λq=>(G.cells b mb e).2.1 (.inl q),λo q=>(hs.2 b z).trans q⟩)
theorem eG.block(K:eG env gl vn B)(W:aq->Prop):eG env gl vn (BW B W):=
 ⟨K.kind,K.glob,K.blt,K.gls,K.caps,.inl K.locB,K.nodup,λx c q=>⟨.inl (K.cellB x c q).1,(K.cellB x c q).2⟩,K.cellI,K.names,K.gnames⟩
theorem cQ.block(K:eG env gl vn B)(k:bI h h')(hw:∀a,W a->h.objs.size<=a)(R:cQ (Fz Z B) env vn J h):cQ (Fz Z (BW B W)) env vn J h':=
 R.keep K (λa o _ e=>k a o e) (r9 k hw)
theorem bK.new_but{a:aq}(ha:s.heap.objs.size<=a){h₁:Heap}(x:bK gJ Z { s with heap:=h₁ } Z' s')(k:bI s.heap h₁){m:M}{h₂:Heap}{tk:Nat}(hs:fJ a s'.heap h₂) :
  bK gJ Z s (ak Z' a m) { s' with heap:=h₂,toks:=tk }:=
 ⟨λb o e z _=>have n:=jS ha e;have q:=x.keep b o (k b o e) z λq=>q;⟨(hs.2 b n).trans q.1,(i7 n).trans q.2⟩,λ_ q=>q.elim,x.gens,x.os⟩
structure Af(B:aq->Prop)(Z:ae)(s:aB)(Z':ae)(s':aB):Prop where
 g:aE B Z' s'.heap
 x:bK gJ Z s Z' s'
theorem Af.trans(a:Af B Z s Z' s')(b:Af B Z' s' Z'' s''):Af B Z s Z'' s'':=⟨b.g,a.x.trans b.x⟩
theorem Af.vr(a:Af B Z s Z' s'){v:V}{y:ag}(r:VR (Fz Z B) s.heap v y):VR (Fz Z' B) s'.heap v y:=r.mono a.x.kp0
theorem Af.vrs(a:Af B Z s Z' s'){v:List V}{y:List ag}(r:aN (Fz Z B) s.heap v y):aN (Fz Z' B) s'.heap v y:=r.mono a.x.kp0
theorem Af.keeps(G:aE B Z s.heap)(k:bI s.heap s'.heap)(hg:s'.gens=s.gens)(ho:s'.os=s.os):Af B Z s Z s':=⟨G.keeps k,.of_keeps iT k hg ho⟩
theorem Af.heap(G:aE B Z s.heap)(k:bI s.heap h')(tk:Nat):Af B Z s Z { s with heap:=h',toks:=tk }:=⟨G.keeps k,.of_keeps iT k rfl rfl⟩
theorem Af.tok(G:aE B Z s.heap)(tk:Nat):Af B Z s Z { s with toks:=tk }:=⟨G,.of_keeps iT (bI.refl _) rfl rfl⟩
theorem Af.refl(G:aE B Z s.heap):Af B Z s Z s:=⟨G,.of_keeps iT (bI.refl _) rfl rfl⟩
def PE(B:aq->Prop)(Z:ae)(s:aB)(Q:QV):ag->aB->Prop:=
 λy s'=>∃v Z',Af B Z s Z' s'/\VR (Fz Z' B) s'.heap v y/\Q v Z'
def IQ(B:aq->Prop)(Z:ae)(s:aB)(Q:List V->ae->Prop):List ag->aB->Prop:=
 λy s'=>∃v Z',Af B Z s Z' s'/\aN (Fz Z' B) s'.heap v y/\Q v Z'
def PU(B:aq->Prop)(Z:ae)(s:aB)(Q:ae->Prop):aB->Prop:=λs'=>∃Z',Af B Z s Z' s'/\Q Z'
def PT(B:aq->Prop)(Z:ae)(s:aB)(Q:Bool->ae->Prop):Bool->aB->Prop:=λc=>PU B Z s (Q c)
section
variable{Q:QV}{Qs:List V->ae->Prop}{Qt:Bool->ae->Prop}{v:V}{y:ag}
theorem PE.lift(a:Af B Z s Z' s')(p:PE B Z' s' Q y s''):PE B Z s Q y s'':=p.elim λv q=>q.elim λZ2 z=>⟨v,Z2,a.trans z.1,z.2⟩
theorem PU.lift{Q:ae->Prop}(a:Af B Z s Z' s')(p:PU B Z' s' Q s''):PU B Z s Q s'':=p.elim λZ2 z=>⟨Z2,a.trans z.1,z.2⟩
theorem PE.tok{tk:Nat}(G:aE B Z s.heap)(r:VR (Fz Z B) s.heap v y)(q:Q v Z):PE B Z s Q y { s with toks:=tk }:=⟨v,Z,.tok G tk,r,q⟩
theorem PE.same(G:aE B Z s.heap)(r:VR (Fz Z B) s.heap v y)(q:Q v Z):PE B Z s Q y s:=⟨v,Z,.refl G,r,q⟩
theorem bT{α:Type}{t:Sem α}{P P':α->aB->Prop}(h:wpAny Md A t P aw s)(k:∀a s,P a s->P' a s):wpAny Md A t P' aw s:=ji h k λ_ _ h=>h
theorem seq{t:Sem ag}{P:ag->aB->Prop}(h:wpAny Md A t (PE B Z s Q) aw s')(k:∀v Z' y s',Af B Z s Z' s'->VR (Fz Z' B) s'.heap v y->Q v Z'->P y s'):wpAny Md A t P aw s':=
 bT h λy s' p=>p.elim λv q=>q.elim λZ' z=>k v Z' y s' z.1 z.2.1 z.2.2
theorem kI{t:Sem (List ag)}{P:List ag->aB->Prop}(h:wpAny Md A t (IQ B Z s Qs) aw s')(k:∀v Z' y s',Af B Z s Z' s'->aN (Fz Z' B) s'.heap v y->Qs v Z'->P y s'):wpAny Md A t P aw s':=
 bT h λy s' p=>p.elim λv q=>q.elim λZ' z=>k v Z' y s' z.1 z.2.1 z.2.2
theorem lU{t:Sem Bool}{P:Bool->aB->Prop}(h:wpAny Md A t (PT B Z s Qt) aw s')(k:∀c Z' s',Af B Z s Z' s'->Qt c Z'->P c s'):wpAny Md A t P aw s':=
 bT h λy s' p=>p.elim λZ' z=>k y Z' s' z.1 z.2
theorem gZ{t:Sem ag}(a:Af B Z s Z' s')(h:wpAny Md A t (PE B Z' s' Q) aw s''):wpAny Md A t (PE B Z s Q) aw s'':=bT h λ_ _ p=>p.lift a
set_option tactic.hygienic true in
theorem sG{t:Sem Bool}(a:Af B Z s Z' s')(h:wpAny Md A t (PT B Z' s' Qt) aw s''):wpAny Md A t (PT B Z s Qt) aw s'':=bT h λ_ _ p=>p.lift a
end
theorem rT{Q:QV}{l:List V}{vs:List ag}(G:aE B Z s.heap)(r:aN (Fz Z B) s.heap l vs)(hl:l.length<=aJ)(m:Bool){n tk:Nat}(q:qN m l Z Q) :
  PE B Z s Q (.ref s.heap.objs.size) { s with heap:=s.heap.push { cls:=.type "list",data:=.seq vs.toArray n },toks:=tk }:=by
 have k:bI s.heap (s.heap.push { cls:=.type "list",data:=.seq vs.toArray n }):=bI.push _ _;have hp:(s.heap.push { cls:=.type "list",data:=.seq vs.toArray n }).PlainList s.heap.objs.size vs.toArray:=⟨n,kb _ rfl⟩
 cases m with
 |false=>exact⟨.list l,Z,.heap G k tk,⟨_,_,rfl,G.new_fz,hp,hl,r.mono k.kp⟩,q⟩
 |true=>exact⟨.ref s.heap.objs.size,ak Z s.heap.objs.size (.list l),⟨G.alloc k (aC _) ⟨vs,hp,hl,r.mono (Ek k (aC _))⟩,.alloc (aC _) iT k rfl rfl⟩,rfl,q _ G.new_fz.1⟩
theorem Mn{Q:QV}{l:List V}{vs:List ag}(G:aE B Z s.heap)(r:aN (Fz Z B) s.heap l vs)(hl:l.length<=aJ)(q:Q (.tup l) Z){tk:Nat} :
  PE B Z s Q (.ref s.heap.objs.size) { s with heap:=s.heap.push { cls:=.type "tuple",data:=.seq vs.toArray },toks:=tk }:=
 have k:bI s.heap (s.heap.push { cls:=.type "tuple",data:=.seq vs.toArray }):=bI.push _ _
 ⟨.tup l,Z,.heap G k tk,⟨_,_,rfl,G.new_fz,⟨_,kb _ rfl,rfl,_,rfl⟩,hl,r.mono k.kp⟩,q⟩
end
end
section
open PySem PySem.W PyProof.Rows PySem.SeqAt
theorem a8{α β:Type}{o:Option α}{f:α->Option β}{b:β}(h:o.bind f=some b):∃a,o=some a/\f a=some b:=by
 cases o with
 |none=>exact nn h
 |some a=>exact⟨a,rfl,h⟩
theorem cN{α β:Type}{o:Option α}{f:α->β}{b:β}(h:o.map f=some b):∃a,o=some a/\f a=b:=by
 cases o with
 |none=>exact nn h
 |some a=>exact⟨a,rfl,dy h⟩
theorem iy{α:Type}{c:Prop}[Decidable c]{a b:α}(h:(if c then some a else none)=some b):c/\a=b:=by
 by_cases hc:c
 ·rw[if_pos hc]at h;exact⟨hc,dy h⟩
 ·rw[if_neg hc]at h;exact nn h
theorem eX{v:V}{i:Int}(h:eJ v=some i):v=.int i:=by cases v<;>first|((injection h with h;subst h);rfl)|exact nn h
theorem gV{v:V}{i:List UInt8}(h:fV v=some i):v=.bytes i:=by cases v<;>first|((injection h with h;subst h);rfl)|exact nn h
theorem qf{v:V}{i:Str}(h:qU v=some i):v=.str i:=by cases v<;>first|((injection h with h;subst h);rfl)|exact nn h
theorem El{v:V}{i:Bool}(h:AO v=some i):v=.bool i:=by cases v<;>first|((injection h with h;subst h);rfl)|exact nn h
theorem lj{v:V}{i:List V}(h:jZ v=some i):v=.list i:=by cases v<;>first|((injection h with h;subst h);rfl)|exact nn h
theorem nZ{v:V}{i:List V}(h:mf v=some i):v=.tup i:=by cases v<;>first|((injection h with h;subst h);rfl)|exact nn h
theorem nY{v:V}{i:Nat}(h:j4 v=some i):v=.ref i:=by cases v<;>first|((injection h with h;subst h);rfl)|exact nn h
theorem su{v:V}{i:Unit}(h:mc v=some i):v=.none:=by cases v<;>first|rfl|exact nn h
theorem vG{l:List V}{v:V}(h:one l=some v):l=[v]:=by
 cases l with
 |nil=>exact nn h
 |cons x r=>cases r with
  |nil=>(injection h with h;subst h);rfl
  |cons=>exact nn h
theorem GD{l:List V}{p:V×V}(h:aF l=some p):l=[p.1,p.2]:=by
 cases l with
 |nil=>exact nn h
 |cons x r=>
  refine ar (cN h) λy e q=>?_;cases vG e
  subst q;rfl
theorem rU{Z:ae}{a:Nat}{l:List V}(h:cc Z a=some l):Z a=some (.list l):=by
 refine ar (a8 h) λm e h=>?_;cases m<;>first|((injection h with h;subst h);exact e)|exact nn h
theorem yk{Z:ae}{a:Nat}{p:Nat×List (bG×V)}(h:gI Z a=some p):Z a=some (.attrs p.1 p.2):=by
 refine ar (a8 h) λm e h=>?_;cases m<;>first|((injection h with h;subst h);exact e)|exact nn h
theorem MV{v:V}{r:List V}{ns:List Int}(h:eN (v::r)=some ns):∃i l,v=.int i/\eN r=some l/\ns=i::l:=by
 refine ar (a8 h) λi e h=>?_;refine ar (cN h) λl e2 h=>?_;exact⟨i,l,eX e,e2,h.symm⟩
theorem Ae:aJ=1048576:=rfl
theorem gb{n:Nat}(h:n<=aJ):n<=sizeLine:=ai h (by decide)
section
variable{fz:aq->Prop}{B:aq->Prop}{Z Z' Z'':ae}{h:Heap}{s s' s'':aB}{A:bD}
theorem p8:∀{l:List V}{xs:List ag}{ns:List Int},aN fz h l xs->eN l=some ns->IntsAre xs ns/\ns.length=l.length:=by
 intro l;induction l with
 |nil=>intro xs ns r e;(injection e with e;subst e);subst r;exact⟨.nil,rfl⟩
 |cons v l ih=>
  intro xs ns r e;obtain⟨i,l',rfl,e2,rfl⟩:=MV e;obtain⟨y,ys,rfl,⟨t,rfl⟩,r⟩:=r;have q:=ih r e2;exact⟨.cons _ _ q.1,congrArg (·+1) q.2⟩
theorem PE.int{Q:QV}{i:Int}{t:Tok}{tk:Nat}(G:aE B Z s.heap)(q:Q (.int i) Z):PE B Z s Q (.int i t) { s with toks:=tk }:=.tok (v:=.int i) G ⟨t,rfl⟩ q
theorem PE.bool{Q:QV}{b:Bool}(G:aE B Z s.heap)(q:Q (.bool b) Z):PE B Z s Q (.bool b) s:=.same (v:=.bool b) G rfl q
theorem PE.bytes{Q:QV}{b:List UInt8}{t:Tok}{tk:Nat}(G:aE B Z s.heap)(hz:b.length<=aJ)(q:Q (.bytes b) Z):PE B Z s Q (.bytes b.toArray t) { s with toks:=tk }:=.tok (v:=.bytes b) G ⟨t,rfl,hz⟩ q
theorem Nf{a:Int}(h0:0<=a)(h1:a<1000):Yh a<=64:=intBits_le_64 (xN (by decide) h0) (CA h1 (by decide))
theorem EH{x y r:V}{f:Int->Int->Option Int}(h:qL x y f=some r):∃a b c,x=.int a/\y=.int b/\f a b=some c/\r=.int c:=by
 refine ar (a8 h) λa e h=>?_;refine ar (a8 h) λb e2 h=>?_;refine ar (cN h) λc e3 h=>?_;exact⟨a,b,c,eX e,eX e2,e3,h.symm⟩
theorem La{l b:aq}{vs ws:List ag}{Q:ag->aB->Prop}(hl:s.heap.PlainList l vs.toArray)(hb:s.heap.PlainList b ws.toArray)
  (h:Q (.ref s.heap.objs.size) { s with heap:=s.heap.push { cls:=.type "list",data:=.seq (vs++ws).toArray } }) (hsz:vs.length+ws.length<=sizeLine) :
  wpAny Md A (binaryOp .Add (.ref l) (.ref b)) Q aw s:=by
 refine bA hl λn ho=>?_;refine bA hb λn2 ho2=>?_;refine concat_meets ⟨_,ho,rfl⟩ ⟨_,ho2,rfl⟩ noFill_list_add seq_list_add PySem.F.slot_list_add PySem.F.entry_list_add (PySem.F.args_list_add_2 _ _) (list_addW l b vs.toArray ws.toArray n n2 none none #[] #[] hsz) ⟨ho,ho2,?_⟩;rw[BH];exact h
theorem Tq{a b r:V}{x y:ag}{Q:QV}(G:aE B Z s.heap)(ra:VR (Fz Z B) s.heap a x)(rb:VR (Fz Z B) s.heap b y)(e:Iq a b=some r)(q:Q r Z) :
  wpAny Md A (binaryOp .Add x y) (PE B Z s Q) aw s:=by
 cases a<;>try (exact nn e;done)
 ·obtain⟨j,e2,rfl⟩:=cN e;obtain rfl:=eX e2;obtain⟨t,rfl⟩:=ra;obtain⟨u,rfl⟩:=rb;exact Yc (PE.int G q)
 ·refine ar (a8 e) λj e2 e=>?_;obtain rfl:=gV e2;obtain⟨hz,rfl⟩:=iy e;obtain⟨t,rfl,h1⟩:=ra;obtain⟨u,rfl,h2⟩:=rb;refine KBy.add_bytes (gb hz) λt' k=>?_;rw[BH];exact PE.bytes G (bB▸hz) q
 ·refine ar (a8 e) λj e2 e=>?_;obtain rfl:=lj e2;obtain⟨hz,rfl⟩:=iy e;obtain⟨p,vs,rfl,f1,l1,z1,r1⟩:=ra;obtain⟨p',ws,rfl,f2,l2,z2,r2⟩:=rb;refine La l1 l2 ?_ (by rw[r1.length,r2.length];exact gb hz);exact rT (n:=0) (tk:=s.toks) G (r1.append r2) (bB▸hz) false q
theorem Tz{op:Op}{a b r:V}{x y:ag}{Q:QV}(G:aE B Z s.heap)(ra:VR (Fz Z B) s.heap a x)(rb:VR (Fz Z B) s.heap b y)(e0:tD op a b=some r)(q:Q r Z) :
  wpAny Md A (binaryOp (wY op) x y) (PE B Z s Q) aw s:=by
 cases op
 ·exact Tq G ra rb e0 q
 all_goals
  obtain⟨i,j,k,rfl,rfl,e,rfl⟩:=EH e0;clear e0;obtain⟨t,rfl⟩:=ra;obtain⟨u,rfl⟩:=rb
 ·injection e with e;subst e
  exact Ye (PE.int G q)
 all_goals
  obtain⟨hz,rfl⟩:=iy e
 ·exact Yd (PE.int G q) (.of_left (Nf hz.1 hz.2))
 ·refine XW (LQ hz.1) ?_ (.inl (JE (dN.1 (by rw[Int.natAbs_of_nonneg (yd hz.1)];exact CA hz.2 (by decide)))));rw[Int.fdiv_eq_ediv_of_nonneg _ (yd hz.1)];exact PE.int G q
 ·refine X9 (LQ hz.1) ?_;rw[Int.fmod_eq_emod_of_nonneg _ (yd hz.1)];exact PE.int G q
end
end
section
open PySem PySem.W PyProof.Rows PySem.SeqAt
theorem Dn{f:V->V->Option Bool}{a:V}{l m:List V}{r:Bool}(h:ja f (a::l) m=some r):∃b m' x y,m=b::m'/\f a b=some x/\ja f l m'=some y/\r=(x&&y):=by
 cases m with
 |nil=>exact nn h
 |cons b m=>
  obtain⟨x,e,h⟩:=a8 h;obtain⟨y,e2,h⟩:=cN h;exact⟨b,m,x,y,rfl,e,e2,h.symm⟩
theorem Ei{f:V->V->Option Bool}{m:List V}{r:Bool}(h:ja f [] m=some r):m=[]/\r=true:=by
 cases m with
 |nil=>(injection h with h;subst h);exact⟨rfl,rfl⟩
 |cons=>exact nn h
theorem Fd{x y:V}{r:Bool}(h:qS x y=some r):(x=.none/\y=.none/\r=true)\/(∃a b,x=.bool a/\y=.bool b/\r=(a==b))\/(∃a b,x=.int a/\y=.int b/\r=(a==b))\/(∃a b,x=.str a/\y=.str b/\r=(a==b))\/∃a b,x=.bytes a/\y=.bytes b/\r=(a==b):=by
 cases x<;>try (exact nn h;done)
 all_goals obtain⟨b,e,h⟩:=cN h
 ·exact .inl ⟨rfl,su e,h.symm⟩
 ·exact .inr (.inl ⟨_,b,rfl,El e,h.symm⟩)
 ·exact .inr (.inr (.inl ⟨_,b,rfl,eX e,h.symm⟩))
 ·exact .inr (.inr (.inr (.inl ⟨_,b,rfl,qf e,h.symm⟩)))
 ·exact .inr (.inr (.inr (.inr ⟨_,b,rfl,gV e,h.symm⟩)))
theorem GG{n:Nat}{x y:V}{r:Bool}(h:gN (n+1) x y=some r):qS x y=some r\/(∃l m,x=.list l/\y=.list m/\(if l.length=m.length then ja (gN n) l m else some false)=some r)\/∃l m,x=.tup l/\y=.tup m/\ja (gN n) l m=some r:=by
 cases x<;>first
  |exact .inl h
  |(obtain⟨b,e,h⟩:=a8 h;first
    |exact .inr (.inl ⟨_,b,rfl,lj e,h⟩)
    |exact .inr (.inr ⟨_,b,rfl,nZ e,h⟩))
section
variable{fz:aq->Prop}{B:aq->Prop}{Z:ae}{h:Heap}{s:aB}{A:bD}
theorem N7{a:aq}{xs ys:List ag}(x:h.PlainList a xs.toArray)(y:h.PlainList a ys.toArray):xs=ys:=by
 obtain⟨n,e⟩:=x;obtain⟨m,e'⟩:=y;rw[e]at e';cases e';rfl
theorem QK{a:aq}{xs ys:List ag}(x:IsTup h a xs.toArray)(y:IsTup h a ys.toArray):xs=ys:=by
 obtain⟨o,e,q,n,d⟩:=x;obtain⟨o',e',q',n',d'⟩:=y;rw[e]at e';injection e' with e';subst e'
 rw[d]at d';cases d';rfl
theorem Ex{a b:V}{r:Bool}{x:ag}(ra:VR fz h a x)(rb:VR fz h b x)(e0:qS a b=some r):r=true:=by
 rcases Fd e0 with⟨rfl,rfl,e⟩|⟨i,j,rfl,rfl,e⟩|⟨i,j,rfl,rfl,e⟩|⟨i,j,rfl,rfl,e⟩|⟨i,j,rfl,rfl,e⟩
 ·exact e
 ·subst ra;(injection rb with rb;subst rb);exact e.trans (beq_self_eq_true _)
 ·obtain⟨t,rfl⟩:=ra;obtain⟨u,q⟩:=rb;(injection q with q;subst q);exact e.trans (beq_self_eq_true _)
 ·obtain⟨t,rfl⟩:=ra;obtain⟨u,q⟩:=rb;(injection q with q;subst q);exact e.trans (beq_self_eq_true _)
 ·obtain⟨t,rfl,_⟩:=ra;obtain⟨u,q,_⟩:=rb;(injection q with q;injection q with q;subst q);exact e.trans (beq_self_eq_true _)
theorem Ej{f:V->V->Option Bool}(ih:∀{a b:V} {r:Bool} {x:ag},VR fz h a x->VR fz h b x->f a b=some r->r=true):∀{l m:List V}{xs:List ag}{r:Bool},aN fz h l xs->aN fz h m xs->ja f l m=some r->r=true:=by
 intro l;induction l with
 |nil=>intro m xs r _ _ e;exact(Ei e).2
 |cons a l j=>
  intro m xs r rl rm e;obtain⟨b,m',x,y,rfl,e1,e2,rfl⟩:=Dn e;obtain⟨u,us,rfl,r1,rs⟩:=rl;obtain⟨v,vs,q,r2,rs2⟩:=rm;cases q
  rw[ih r1 r2 e1,j rs rs2 e2];rfl
theorem QN:∀(n:Nat){a b:V}{r:Bool}{x:ag},VR fz h a x->VR fz h b x->gN n a b=some r->r=true:=by
 intro n;induction n with
 |zero=>exact Ex
 |succ n ih=>
  intro a b r x ra rb e0;rcases GG e0 with e|⟨l,m,rfl,rfl,e⟩|⟨l,m,rfl,rfl,e⟩
  ·exact Ex ra rb e
  ·obtain⟨p,vs,rfl,_,i,_,r1⟩:=ra;obtain⟨q,ws,e',_,j,_,r2⟩:=rb;injection e' with e';subst e'
   cases N7 i j
   rw[if_pos (r1.length.symm.trans r2.length)]at e;exact Ej ih r1 r2 e
  ·obtain⟨p,vs,rfl,_,i,_,r1⟩:=ra;obtain⟨q,ws,e',_,j,_,r2⟩:=rb;injection e' with e';subst e'
   cases QK i j
   exact Ej ih r1 r2 e
structure R3(A:bD)(s:aB)(x y:ag)(r:Bool):Prop where
 rc:RcAt A s x y r
 eq:EqAt A s x y r
 ne:RcNeAt A s x y (!r)
theorem G7{A:bD}{a b:V}{r:Bool}{x y:ag}(ra:VR fz s.heap a x)(rb:VR fz s.heap b y)(e0:qS a b=some r):R3 A s x y r:=by
 rcases Fd e0 with⟨rfl,rfl,rfl⟩|⟨i,j,rfl,rfl,rfl⟩|⟨i,j,rfl,rfl,rfl⟩|⟨i,j,rfl,rfl,rfl⟩|⟨i,j,rfl,rfl,rfl⟩
 ·subst ra;subst rb;exact⟨.none_none,.same _,.none_none⟩
 ·subst ra;subst rb;exact⟨.bool_bool _ _,.bool_bool _ _,.bool_bool _ _⟩
 ·obtain⟨t,rfl⟩:=ra;obtain⟨u,rfl⟩:=rb;exact⟨.int_int _ _ _ _,.int_int _ _ _ _,.int_int _ _ _ _⟩
 ·obtain⟨t,rfl⟩:=ra;obtain⟨u,rfl⟩:=rb;exact⟨.str_str _ _ _ _,.str_str _ _ _ _,.str_str _ _ _ _⟩
 ·obtain⟨t,rfl,_⟩:=ra;obtain⟨u,rfl,_⟩:=rb;exact⟨λcy w E Q hq=>eq_bytes (Q:=Q) (E:=E) (by simpa using hq),yp _ _ _ _,λcy w E Q hq=>ne_bytes (Q:=Q) (E:=E) (by simpa[bne]using hq)⟩
theorem EJ{f:V->V->Option Bool}(ih:∀{a b:V} {r:Bool} {x y:ag},VR fz s.heap a x->VR fz s.heap b y->f a b=some r->EqAt A s x y r):∀{l m:List V}{xs ys:List ag}{r:Bool},aN fz s.heap l xs->aN fz s.heap m ys->ja f l m=some r ->
  xs.length=ys.length/\∃e:Nat->Bool,(∀j(h1:j<xs.length)(h2:j<ys.length),EqAt A s xs[j] ys[j] (e j))/\r=(jM xs.length).all e:=by
 intro l;induction l with
 |nil=>
  intro m xs ys r rl rm e;obtain⟨rfl,rfl⟩:=Ei e;subst rl;subst rm;exact⟨rfl,λ_=>true,λj h1=>absurd h1 (dM _),rfl⟩
 |cons a l j=>
  intro m xs ys r rl rm e;obtain⟨b,m',x,y,rfl,e1,e2,rfl⟩:=Dn e;obtain⟨u,us,rfl,r1,rs⟩:=rl;obtain⟨v,vs,rfl,r2,rs2⟩:=rm;obtain⟨hl,g,hg,rfl⟩:=j rs rs2 e2;refine⟨congrArg (·+1) hl,λk=>match k with|0=>x|k+1=>g k,λk h1 h2=>?_,?_⟩
  ·cases k with
   |zero=>exact ih r1 r2 e1
   |succ k=>exact hg k (fe h1) (fe h2)
  ·rw[nG,JB,Lu,LU];rfl
theorem HQ:∀(n:Nat){A:bD}{a b:V}{r:Bool}{x y:ag},A.units+n<cLine->VR fz s.heap a x->VR fz s.heap b y->gN n a b=some r->R3 A s x y r:=by
 intro n;induction n with
 |zero=>intro A a b r x y _;exact G7
 |succ n ih=>
  intro A a b r x y hu ra rb e0;have hu1:A.in1.units+n<cLine:=by rw[show A.in1.units=A.units+1 from rfl,cq,cb 1];exact hu
  have hu2:A.units<cLine:=bC (aL _ _) hu;have same:∀{p q:aq},x=.ref p->y=.ref q->RcAt A s x y r->EqAt A s x y r:=by
   rintro p q rfl rfl rc
   by_cases hpq:p=q
   ·subst hpq;rw[QN (n+1) ra rb e0];exact .same _
   ·exact .of_refs hpq rc
  rcases GG e0 with e|⟨l,m,rfl,rfl,e⟩|⟨l,m,rfl,rfl,e⟩
  ·exact G7 ra rb e
  ·obtain⟨p,vs,rfl,_,i,_,r1⟩:=ra;obtain⟨q,ws,rfl,_,j,_,r2⟩:=rb;have both:RcAt A s (.ref p) (.ref q) r/\RcNeAt A s (.ref p) (.ref q) (!r):=by
    by_cases hl:l.length=m.length
    ·rw[if_pos hl]at e;obtain⟨hl,f,hf,rfl⟩:=EJ (λr1 r2 e=>(ih hu1 r1 r2 e).eq) r1 r2 e;exact⟨RcAt.lists (e:=f) i.isList j.isList hl hu2 hf,RcNeAt.lists (e:=f) i.isList j.isList hl hu2 hf⟩
    ·rw[if_neg hl]at e;injection e with e;subst e
     have hne:(vs.toArray.size != ws.toArray.size)=true:=bne_iff_ne.mpr λq=>hl (r1.length.symm.trans (q.trans r2.length));exact⟨RcAt.lists_lengths i.isList j.isList hne hu2,RcNeAt.lists_lengths i.isList j.isList hne hu2⟩
   exact⟨both.1,same rfl rfl both.1,both.2⟩
  ·obtain⟨p,vs,rfl,_,i,_,r1⟩:=ra;obtain⟨q,ws,rfl,_,j,_,r2⟩:=rb;obtain⟨hl,f,hf,rfl⟩:=EJ (λr1 r2 e=>(ih hu1 r1 r2 e).eq) r1 r2 e;have hm:min vs.toArray.size ws.toArray.size=vs.length:=(congrArg (min vs.length) hl.symm).trans (CD _);have hb:(vs.toArray.size==ws.toArray.size)=true:=beq_iff_eq.mpr hl;have rc:=RcAt.tuples (e:=f) i j hu2 hf;have ne:=RcNeAt.tuples (e:=f) i j hu2 hf;rw[hm,hb,Cq]at rc ne;exact⟨rc,same rfl rfl rc,ne⟩
end
end
section
open PySem PySem.W PyProof.Rows PySem.SeqAt
section
variable{fz:aq->Prop}{B:aq->Prop}{Z:ae}{h:Heap}{s:aB}{A:bD}{E:ag->aB->Prop}
theorem LK{a b:aq}{xs ys:List ag}{ns ms:List Int}{P:Fin->aB->Prop}(ha:IsTup s.heap a xs.toArray)(hb:IsTup s.heap b ys.toArray)(ia:IntsAre xs ns)(ib:IntsAre ys ms)(hl:ns.length=ms.length)
  (h:P (.done (.ret (.bool (lC ns ms)))) s):wpAny Md A (Builtin.«tuple.__lt__» ⟨[.ref a,.ref b],[]⟩) P E s:=by
 have hTb:=hb.typeIs;refine cm ha λoa hoa _ rr03_=>?_;refine bA rr03_ λna hda=>?_;refine cm hb λob hob _ rr13_=>?_;refine bA rr13_ λnb hdb=>?_;show wpAny _ _ (isInstance (.ref b) (.type "tuple") >>= _) _ _ s;refine aG (wpAny_isInstance hTb isSubtype_tuple_tuple ?_);refine aG (Ku hoa hda ?_);refine aG (Ku hob hdb ?_);refine aG ?_;refine KZ _
  (λrest r s'=>r.1=none/\s'=s/\∃x' y' xs' ys',rest=List.zip xs' ys'/\IntsAre xs' x'/\IntsAre ys' y'/\x'.length=y'.length/\lC x' y'=lC ns ms)
  _ ?_ ?_ _ _ ⟨rfl,rfl,ns,ms,xs,ys,rfl,ia,ib,hl,rfl⟩
 ·rintro ⟨u,v⟩ rest r s' ⟨hr,rfl,x',y',xs',ys',hz,hx',hy',hlen,hlt⟩
  cases hx' with
  |nil=>exact nc hz
  |cons i t hx''=>
   cases hy' with
   |nil=>exact nc hz
   |cons j t' hy''=>
    cases hz
    refine aG (EqAt.int_int i t j t' _ _ _ _ ?_);by_cases hij:i=j
    ·subst hij;rw[beq_self_eq_true];exact a9 ⟨rfl,rfl,_,_,_,_,rfl,hx'',hy'',iH hlen,(if_pos rfl).symm.trans hlt⟩
    ·rw[show(i==j)=false from beq_eq_false_iff_ne.mpr hij];refine aG (pR (aG (wpAny_lt_int ?_)));rw[show decide (i<j)=lC ns ms from(if_neg hij).symm.trans hlt];exact aG (a9 (a9 (a9 h)))
 ·rintro ⟨r1,r2⟩ s' ⟨hr,rfl,x',y',xs',ys',hz,hx',hy',hlen,hlt⟩
  subst hr;have fin:lC ns ms=false:=by
   cases hx' with
   |nil=>cases y' with
    |nil=>exact hlt.symm
    |cons=>cases hlen
   |cons i t hx''=>cases hy' with
    |nil=>cases hlen
    |cons j t' hy''=>cases hz
  refine a9 ?_;have hsz:(Bn .Lt xs.toArray.size ys.toArray.size)=.bool false:=by
   have:xs.length=ys.length:=by rw[ia.length,ib.length,hl]
   simp[Bn,this]
  show P (.done (.ret (Bn .Lt xs.toArray.size ys.toArray.size))) _;rw[hsz];rw[fin]at h;exact h
theorem Oa{a b:aq}{xs ys:List ag}{ns ms:List Int}{Q:ag->aB->Prop}(ha:IsTup s.heap a xs.toArray)(hb:IsTup s.heap b ys.toArray)(ia:IntsAre xs ns)(ib:IntsAre ys ms)(hl:ns.length=ms.length)(hu:A.units<cLine)
  (h:Q (.bool (lC ns ms)) s):wpAny Md A (compareOp .Lt (.ref a) (.ref b)) Q E s:=
 wpAny_richCompare_same_room (op:=.Lt) (T:="tuple") (ha.typeIs (s:=s)) (hb.typeIs (s:=s)) JU
  (KY JU (ha.typeIs (s:=s)) PySem.F.entry_tuple_lt (LK ha hb ia ib hl ⟨_,rfl,by simp,h⟩) (PySem.F.args_tuple_lt_2 _ _)) hu
def mW(x:V)(z:ag):Bool:=match x with
 |.int j=>match z with
  |.int k _=>k==j
  |_=>false
 |.bytes b=>match z with
  |.bytes c _=>c.toList==b
  |_=>false
 |_=>false
theorem VL{v x:V}{p:Bool}{z y:ag}(rv:VR fz s.heap v z)(rx:VR fz s.heap x y)(hp:oN v x=some p):(∀A,EqAt A s z y (mW x z))/\p=mW x z:=by
 cases v<;>try (exact nn hp;done)
 all_goals obtain⟨b,e,rfl⟩:=cN hp
 ·obtain rfl:=eX e;obtain⟨t,rfl⟩:=rv;obtain⟨u,rfl⟩:=rx;exact⟨λA=>.int_int _ _ _ _,rfl⟩
 ·obtain rfl:=gV e;obtain⟨t,rfl,_⟩:=rv;obtain⟨u,rfl,_⟩:=rx;exact⟨λA=>yp _ _ _ _,rfl⟩
theorem DE{x:V}{y:ag}(rx:VR fz s.heap x y):∀{l:List V}{xs:List ag}{r:Bool},aN fz s.heap l xs->ny x l=some r ->
  (∀z,z∈xs->∀A,EqAt A s z y (mW x z))/\r=xs.any (mW x):=by
 intro l;induction l with
 |nil=>intro xs r e h;subst e;(injection h with h;subst h);exact⟨λz hz=>(nm hz),rfl⟩
 |cons v l ih=>
  intro xs r e h;obtain⟨z₀,zs,rfl,rv,rl⟩:=e;obtain⟨p,hp,h⟩:=a8 h;obtain⟨q,hq,rfl⟩:=cN h;obtain⟨hf,rfl⟩:=ih rl hq;obtain⟨k1,rfl⟩:=VL rv rx hp;exact⟨λz hz=>(cp.mp hz).elim (λe=>e▸k1) (hf z),rfl⟩
theorem aE.deref(G:aE B Z s.heap){a:V}{x:ag}(r:VR (Fz Z B) s.heap a x):VR (λ_=>True) s.heap (Internal.iL Z a) x:=by
 have k:Kp (Fz Z B) s.heap (λ_=>True) s.heap:=λ_ _ _ e=>⟨trivial,e⟩
 cases a with
 |ref p=>
  unfold Internal.iL
  dsimp only
  cases hl:cc Z p with
  |none=>exact r.mono k
  |some l=>
   obtain⟨_,_,vs,hi,hz,rs⟩:=G.cells p _ (rU hl);exact⟨p,vs,r,trivial,hi,hz,rs.mono k⟩
 |_=>exact r.mono k
theorem zN{x y:V}{f:Int->Int->Bool}{r:Bool}(h:xn x y f=some r):∃a b,x=.int a/\y=.int b/\r=f a b:=by
 refine ar (a8 h) λa e h=>?_;refine ar (cN h) λb e2 h=>?_;exact⟨a,b,eX e,eX e2,h.symm⟩
theorem Gg{a:V}{x:ag}{r:Bool}(ra:VR fz s.heap a x)(e:isNone a=some r):(r=true/\x=.none)\/(r=false/\PySem.plainIs x .none=true/\x≠.none):=by
 cases a<;>try (exact nn e;done)
 ·(injection e with e;subst e);exact .inl ⟨rfl,ra⟩
 ·(injection e with e;subst e);obtain⟨t,rfl⟩:=ra;exact .inr ⟨rfl,rfl,nofun⟩
 ·(injection e with e;subst e);obtain⟨p,vs,rfl,_⟩:=ra;exact .inr ⟨rfl,rfl,nofun⟩
theorem VD{a b:V}{r:Bool}{x y:ag}{Q:ag->aB->Prop}(hu:A.units<cLine)(ra:VR fz s.heap a x)(rb:VR fz s.heap b y)(e:I1 a b=some r)(q:Q (.bool r) s):wpAny Md A (compareOp .Lt x y) Q E s:=by
 cases a<;>try (exact nn e;done)
 ·obtain⟨j,e2,rfl⟩:=cN e;obtain rfl:=eX e2;obtain⟨t,rfl⟩:=ra;obtain⟨u,rfl⟩:=rb;exact wpAny_lt_int q
 ·refine ar (a8 e) λm e2 e=>?_;obtain rfl:=nZ e2;refine ar (a8 e) λns hn e=>?_;refine ar (a8 e) λms hm e=>?_;obtain⟨hl,rfl⟩:=iy e;obtain⟨p,vs,rfl,_,i,_,r1⟩:=ra;obtain⟨p',ws,rfl,_,j,_,r2⟩:=rb;exact Oa i j (p8 r1 hn).1 (p8 r2 hm).1 hl hu q
theorem Hn{x:V}{l:List V}{y:V}{z:ag}{u:ag}{r:Bool}(hy:y=.list l\/y=.tup l)(rx:VR fz s.heap x u)(ry:VR fz s.heap y z)(e:ny x l=some r) :
  (∀Q:ag->aB->Prop,Q (.bool r) s->wpAny Md A (compareOp .In u z) Q E s)/\∀Q:ag->aB->Prop,Q (.bool (!r)) s->wpAny Md A (compareOp .NotIn u z) Q E s:=by
 rcases hy with rfl|rfl
 ·obtain⟨p,vs,rfl,_,i,_,r1⟩:=ry;obtain⟨hf,rfl⟩:=DE rx r1 e;exact⟨λQ q=>in_listAt (mW x) i.isList (λz hz=>hf z (by simpa using hz) _) (by rw[rE];exact q),λQ q=>notIn_listAt (mW x) i.isList (λz hz=>hf z (by simpa using hz) _) (by rw[rE];exact q)⟩
 ·obtain⟨p,vs,rfl,_,i,_,r1⟩:=ry;obtain⟨hf,rfl⟩:=DE rx r1 e;exact⟨λQ q=>in_tupleAt (mW x) i (λz hz=>hf z (by simpa using hz) _) (by rw[rE];exact q),λQ q=>notIn_tupleAt (mW x) i (λz hz=>hf z (by simpa using hz) _) (by rw[rE];exact q)⟩
end
end
section
open PySem PySem.W PyProof.Rows PySem.SeqAt
section
variable{K:Type}[DecidableEq K]
set_option tactic.hygienic true in
theorem Cp(kvs:List (K×ag))(k:K)(v:ag)(j:K):valueAt (stored kvs k v) j=if j=k then some v else valueAt kvs j:=by
 have hmap:∀kvs:List (K×ag),valueAt (kvs.map λkv=>if kv.1=k then(kv.1,v) else kv) j=if j=k/\kvs.any (λkv=>kv.1=k) then some v else valueAt kvs j:=by
  intro kvs;induction kvs with
  |nil=>simp[valueAt]
  |cons x r ih=>
   obtain⟨a,b⟩:=x;simp only[gx,valueAt,rF]at ih ⊢;by_cases hak:a=k
   ·subst hak;by_cases hj:j=a
    ·subst hj;simp
    ·have:¬a=j:=λe=>hj e.symm;simp only[if_true,this,decide_false,hj,false_and,if_false]at ih ⊢;exact ih
   ·simp only[hak,if_false,Lv,decide_false,Ls];by_cases haj:a=j
    ·subst haj;simp[hak]
    ·simp only[haj,decide_false];exact ih
 unfold stored;split
 ·rename_i h
  rw[hmap];simp[h]
 ·rename_i h
  by_cases hj:j=k
  ·subst hj;have:kvs.find? (λkv=>decide (kv.1=j))=none:=by
    rw[Km];intro x hx e;exact h (KL.mpr ⟨x,hx,e⟩)
   simp[valueAt,Kz,this]
  ·have:¬k=j:=λe=>hj e.symm;simp[valueAt,Kz,hj,this]
theorem DG(xs:List (K×aq×ag))(k:K):(atKey xs k).map (·.2)=valueAt (xs.map λx=>(x.1,x.2.2)) k:=by
 induction xs with
 |nil=>rfl
 |cons x r ih=>
  simp only[atKey,valueAt,rF,gx]at ih ⊢;by_cases h:x.1=k
  ·simp[h]
  ·simp only[h,decide_false];exact ih
theorem MC(xs:List (K×aq×ag))(k:K)(a:aq)(v:ag):(storedH xs k a v).length<=xs.length+1:=by
 unfold storedH;split<;>simp
theorem Ly(xs:List (K×aq×ag))(k:K)(a:aq)(v:ag)(j:K):(atKey (storedH xs k a v) j).map (·.2)=if j=k then some v else(atKey xs j).map (·.2):=by
 have:=kvsOf_storedH xs k a v;unfold kvsOf at this;rw[DG,DG,this,Cp]
theorem Mf{xs:List (K×aq×ag)}{k:K}{a:aq}{v:ag}{P:aq->Prop}(h:∀x∈xs,P x.2.1)(ha:P a):∀x∈storedH xs k a v,P x.2.1:=by
 intro x hx;unfold storedH at hx;split at hx
 ·obtain⟨y,hy,rfl⟩:=ik.mp hx;have:=h y hy;unfold putAt;split<;>exact this
 ·rcases gw.mp hx with hx|hx
  ·exact h x hx
  ·rw[cJ]at hx;subst hx;exact ha
end
section
variable{K:Type}[DecidableEq K]{knd:KeyKind cy w K}{A:bD}{E:ag->aB->Prop}{s:aB}
theorem Ka{d:aq}{kvs:List (K×ag)}{k:K}{key dflt:ag}{Q:ag->aB->Prop}(hkey:knd.is k key=true)(hm:s.heap.DictOf knd d kvs)
  (hthere:∀v,valueAt kvs k=some v->Q v { s with toks:=s.toks+1 })
  (hnew:valueAt kvs k=none->∀h',h'.DictOf knd d (stored kvs k dflt)->fJ d s.heap h'->Q dflt { s with heap:=h',toks:=s.toks+1 })
  (hsz:kvs.length<=sizeLine):wpAny Md A (dictSetDefault d key dflt) Q E s:=by
 have hmap:=hm.mapOf;cases hv:valueAt kvs k with
 |some v=>
  refine wpAny_dictSetDefault_of hkey hmap (λv e=>hthere v e) (λe=>by rw[hv]at e;cases e) ?_;refine xr hm λo es ep ho hc hd hk hp hn=>?_;intro o' es' ep' ho' hd';rw[ho]at ho';injection ho' with ho';subst ho'
  rw[hd]at hd';injection hd' with hd';subst hd'
  have e1:=hp.length;have e2:es.toList.length=es.size:=by simp
  exact au [_,_,_,_] [] (.ln .v0 .v1) 1 [(1,.ln .v2 .v1),(1,.en .v3 .v2),(-1,.en .v3 .v0)] rfl hsz e1 e2
 |none=>
  have hm0:=hm;refine xr hm λo es ep ho hc hd hk hp hn=>?_;have hes:es.size<=sizeLine:=by
   have e1:=hp.length;have e2:es.toList.length=es.size:=by simp
   exact au [_,_,_,_] [] (.ln .v0 .v1) 1 [(1,.ln .v2 .v1),(1,.en .v3 .v2),(-1,.en .v3 .v0)] rfl hsz e1 e2
  have hfind:(es.findIdx? λe=>knd.is k e.key)=none:=by
   cases hi:es.findIdx? λe=>knd.is k e.key with
   |none=>rfl
   |some i=>
    exfalso;refine I6 hmap λo₂ es2 ep2 ho₂ hc₂ hd₂ hk₂ hf₂=>?_;rw[ho]at ho₂;injection ho₂ with ho₂;subst ho₂
    rw[hd]at hd₂;injection hd₂ with hd₂;subst hd₂
    have:=hf₂ k;rw[findBy_of_findIdx?,hi,hv]at this;have hlt:=(Array.findIdx?_eq_some_iff_findIdx_eq.mp hi).1;simp[Jj hlt]at this
  have hidx:(kvs.findIdx? λkv=>decide (kv.1=k))=none:=by
   rw[<-hp.findIdx k];obtain⟨l⟩:=es
   simpa using hfind
  have hnot:k ∉ kvs.map (·.1):=not_mem_of_findIdx_none hidx;have hany:¬(kvs.any λkv=>decide (kv.1=k))=true:=by
   rw[KL];rintro ⟨kv,hkv,he⟩;exact hnot (ik.mpr ⟨kv,hkv,of_decide_eq_true he⟩)
  unfold dictSetDefault
  try with_reducible refine ic ?_
  refine aG (knd.pyHash hkey ?_);refine aG (wpAny_dictFind_of (s:={ s with toks:=s.toks+1 }) hkey ho hd hk ?_);rw[hfind];refine aG (pR (aG (wpAny_updateDictKeys (hz:=hes) (s:={ s with toks:=s.toks+1 }) ho hd (a9 (hnew hv _ ⟨_,_,ep+1,xE _ ho (Obj.isFreed_of_dict (J7 hd _)),
   hc.mapDictKeys _,J7 hd _,hk.push hkey _,?_,?_⟩ (kS ..))))))
  ·rw[stored,if_neg hany];have:=hp.append hkey (knd.hash k) dflt;obtain⟨l⟩:=es
   simpa using this
  ·rw[stored,if_neg hany,dw,KC];refine⟨hn,by simp,?_⟩;intro a ha b hb;simp only[gx,LV,cJ]at hb;subst hb;exact λe=>hnot (e▸ha)
theorem KW{d:aq}{k:K}{key:ag}(hkey:knd.is k key=true)(hd:(d==sysModules)=false)(dflt:ag) :
  MeetsIn cy w (Builtin.«dict.setdefault» ⟨[.ref d,key,dflt],[]⟩) (λ_ R s=>∃kvs,s.heap.DictOf knd d kvs/\kvs.length<=sizeLine /\
   (∀v,valueAt kvs k=some v->R (.ok (.ret v)) { s with toks:=s.toks+1 }) /\
   (valueAt kvs k=none->∀h',h'.DictOf knd d (stored kvs k dflt)->fJ d s.heap h'->R (.ok (.ret dflt)) { s with heap:=h',toks:=s.toks+1 })):=
 .of_wp λA R s zz=>oZ zz λf hm hz h1 h2=>by
  unfold Builtin.«dict.setdefault»;refine aG ?_;unfold XT;refine aG (wpAny_notOrdered_dict hm.typeIs ?_);show wpAny _ _ (pure (d,key,some dflt)) _ _ s;refine a9 ?_;show wpAny _ _ (if (d==sysModules)=true then _ else(dictSetDefault d key dflt >>= _)) _ _ s;rw[if_neg (by rw[hd];exact kU)];exact aG (Ka hkey hm (λv hv=>a9 ⟨v,rfl,h1 v hv⟩) (λhn h' hm' hs'=>a9 ⟨dflt,rfl,h2 hn h' hm' hs'⟩) hz)
end
theorem Dg{l:List V}{i:Int}{v:V}(e:fE l i=some v):∃j,j<l.length/\l[j]?=some v/\((i=j)\/(i<0/\i+l.length=j)):=by
 unfold fE at e;by_cases h0:0<=i
 ·rw[if_pos h0]at e;exact⟨i.toNat,(iQ.mp e).1,e,.inl (nE h0).symm⟩
 ·rw[if_neg h0]at e;by_cases h1:0<=i+l.length
  ·rw[if_pos h1]at e;exact⟨_,(iQ.mp e).1,e,.inr ⟨Int.lt_of_not_ge h0,(nE h1).symm⟩⟩
  ·rw[if_neg h1]at e;exact nn e
section
variable{fz:aq->Prop}{B:aq->Prop}{Z:ae}{h:Heap}{s:aB}{A:bD}
theorem CR(H:bF cx){d:aq}(hd:h₀.get? d=none):(d==sysModules)=false:=
 beq_eq_false_iff_ne.mpr λe=>H.big (e▸hd)
theorem IH{j n:Nat}(h:j<n)(k:n<=aJ):(j:Int)<2 ^ 63:=xN (dN.2 (aQ h k)) (show((1048576:Nat):Int)<=2 ^ 63 by decide)
theorem Iy{i:Int}{j n:Nat}(h:i+n=j)(k:n<=aJ):-(2 ^ 63)<=i:=kj (show -(2 ^ 63)<=(-1048576:Int) by decide) (@au [n,j] [i] (.li (.o (.k 1048576)) .v0) 1 [(-1,.ei (.a .v0 .c0) .c1),(1,.ln .v0 (.k 1048576))] rfl h k)
theorem NT{l:List V}{a:aq}{vs:List ag}{i:Int}{t:Tok}{v:V}{Q:ag->aB->Prop}(hi:s.heap.IsList a vs.toArray)(hz:l.length<=aJ)(r:aN fz s.heap l vs)(e:fE l i=some v)
  (h:∀y,VR fz s.heap v y->Q y s):wpAny Md A (getItem (.ref a) (.int i t)) Q aw s:=by
 have hlid:=Ae;refine cm (Dg e) λj hj e hij=>?_;refine ar (r.get e) λy hy ry=>?_;rw[<-r.length]at hij hj hz;rcases hij with rfl|⟨h0,hij⟩
 ·exact wpAny_getItem_list hi (eK _) (IH hj hz) (by simpa using hy) (h y ry)
 ·exact wpAny_getItem_list_neg hi h0 (by simp;exact au [_,_] [_] (.li (.o .c0) .v0) 1 [(-1,.ei (.a .v0 .c0) .c1)] rfl hij) (Iy hij hz) (by simp[hij,hy]) (h y ry)
theorem Pu{l:List V}{a:aq}{vs:List ag}{i:Int}{t:Tok}{v:V}{Q:ag->aB->Prop}(hi:IsTup s.heap a vs.toArray)(hz:l.length<=aJ)(r:aN fz s.heap l vs)(e:fE l i=some v)
  (h:∀y,VR fz s.heap v y->Q y s):wpAny Md A (getItem (.ref a) (.int i t)) Q aw s:=by
 have hlid:=Ae;refine cm (Dg e) λj hj e hij=>?_;refine ar (r.get e) λy hy ry=>?_;rw[<-r.length]at hij hj hz;refine XU (j:=j) hi (hij.elim (λe=>e▸kj (by decide) (eK j)) λh=>Iy h.2 hz) (hij.elim (λe=>e▸IH hj hz) λh=>CA h.1 (by decide)) ?_ (by simpa using hy) (h y ry);rw[dT];unfold seqIndex?;rcases hij with rfl|⟨h0,hij⟩
 ·have h1:¬((j:Int)<0):=by exact λzz=>fQ [_] [] [(1,.ti .c0 .k0)] rfl zz
  simp only[h1,if_false];rw[if_pos (by simp;exact au [_,_] [] (.tn .v0 .v1) 1 [(1,.tn .v0 .v1)] rfl hj)];rfl
 ·simp only[h0,if_true,hij];rw[if_pos (by simp;exact au [_,_] [] (.tn .v0 .v1) 1 [(1,.tn .v0 .v1)] rfl hj)];rfl
inductive Aq(fz:aq->Prop)(h:Heap)(d:aq)(y:ag)(r:Option V):Prop where
 |flat (K:Type) [DecidableEq K] (knd:KeyKind cy w K) (key:K) (kvs:List (K×ag)):knd.is key y=true->h.DictOf knd d kvs->OR fz h r (valueAt kvs key)->Aq fz h d y r
 |heap (a:aq) (key:List BB) (xs:List (List BB×aq×ag)):y=.ref a->(tupleKind ky).is h key a->h.DictOfH (tupleKind ky) d xs->OR fz h r ((atKey xs key).map (·.2))->Aq fz h d y r
theorem GQ{k:V}{b:List UInt8}{y:ag}(e:A6 k=some b)(r:VR fz h k y):∃a,y=.ref a/\fz a/\(tupleKind ky).is h [.inl false,.inr b] a:=by
 refine ar (a8 e) λl e1 e=>?_;refine ar (a8 e) λp e2 e=>?_;refine ar (a8 e) λc e3 e=>?_;obtain rfl:=nZ e1;cases GD e2
 cases c with
 |true=>exact nn e
 |false=>
  obtain⟨a,vs,rfl,f,⟨o,ho,hc,m,hd⟩,_,y1,_,rfl,r1,y2,_,rfl,r2,rfl⟩:=r;rw[El e3]at r1;rw[gV e]at r2;subst r1;obtain⟨t,rfl,_⟩:=r2;exact⟨a,rfl,f,o,_,m,ho,hc,hd,.cons (Q2 false) (.cons (OQ b t) .nil)⟩
theorem vz(i:Int)(t:Tok):(intKind cy w).is i (.int i t)=true:=by simp[intKind,Value.isInt]
theorem rS(H:bF cx)(G:aE B Z s.heap){d:aq}{k:V}{y:ag}{r:Option V}(ry:VR (Fz Z B) s.heap k y)(e:dD Z d k=some r):Aq (Fz Z B) s.heap d y r/\(d==sysModules)=false:=by
 refine ar (a8 e) λm hd e=>?_;refine g8 (G.cells d _ hd) λhge _ c=>?_;refine⟨?_,CR H hge⟩;cases m<;>try (exact nn e;done)
 all_goals obtain⟨i,ei,rfl⟩:=cN e
 ·obtain⟨kvs,hD,_,ho⟩:=c;rw[eX ei]at ry;obtain⟨t,rfl⟩:=ry;exact .flat Int (intKind cy w) i kvs (vz i t) hD (ho i)
 ·obtain⟨xs,hD,_,_,ho⟩:=c;obtain⟨a,rfl,_,hk⟩:=GQ ei ry;exact .heap a _ xs rfl hk hD (ho i)
 ·obtain⟨kvs,hD,_,ho⟩:=c;rw[qf ei]at ry;obtain⟨t,rfl⟩:=ry;exact .flat Str (strKind cy w) i kvs (strKind_is cy w i t) hD (ho i)
theorem OR.is{r:Option V}{o:Option ag}(e:OR fz h r o):o.isSome=r.isSome:=by
 cases r with
 |none=>subst e;rfl
 |some v=>obtain⟨y,rfl,_⟩:=e;rfl
theorem RN(H:bF cx)(R:eC A 0)(G:aE B Z s.heap){v k r:V}{x y:ag}{Q:QV}(rx:VR (Fz Z B) s.heap v x)(ry:VR (Fz Z B) s.heap k y)(e0:getD Z v k=some r)(q:Q r Z) :
  wpAny Md A (getItem x y) (PE B Z s Q) aw s:=by
 refine ar (a8 e0) λd e1 e=>?_;refine ar (a8 e) λo e2 e=>?_;obtain rfl:=nY e1;subst rx;have e:o=some r:=e;subst e;rcases(rS H G ry e2).1 with⟨K,knd,key,kvs,hk,hD,z,hv,ho⟩|⟨a,key,xs,rfl,hk,hD,z,hv,ho⟩
 ·exact wpAny_getItem_of hk hD.mapOf hv (PE.tok G ho q)
 ·obtain⟨p,hp,rfl⟩:=cN hv;exact wpAny_getItem_heap R.in1_unit hk hD hp (PE.tok G ho q)
end
end
section
open PySem PySem.W PyProof.Rows PySem.SeqAt
section
variable{fz fz':aq->Prop}{B:aq->Prop}{Z:ae}{h h':Heap}{s:aB}{A:bD}
theorem sd(G:aE B Z s.heap){v:V}{l:List V}{x:ag}(r:VR (Fz Z B) s.heap v x)(e:qz Z v=some l):∃a vs,x=.ref a/\s.heap.PlainList a vs.toArray/\l.length<=aJ/\aN (Fz Z B) s.heap l vs:=by
 cases v<;>try (exact nn e;done)
 ·injection e with e;subst e
  refine o7 r λa vs rfl _ i hz rs=>?_;exact⟨a,vs,rfl,i,hz,rs⟩
 ·obtain⟨_,_,vs,i,hz,rs⟩:=G.cells _ _ (rU e);exact⟨_,vs,r,i,hz,rs⟩
theorem yn{v:V}{l:List V}(e:lR Z v=some l):v=.tup l\/qz Z v=some l:=by
 cases v<;>first|(exact nn e;done)|exact .inr e|((injection e with e;subst e);exact .inl rfl)
theorem SW(G:aE B Z s.heap){v k r:V}{l:List V}{x y:ag}{Q:QV}(rx:VR (Fz Z B) s.heap v x)(ry:VR (Fz Z B) s.heap k y)(e:lR Z v=some l)(e2:((eJ k).bind λi=>fE l i)=some r)(q:Q r Z) :
  wpAny Md A (getItem x y) (PE B Z s Q) aw s:=by
 refine ar (a8 e2) λi ei e2=>?_;obtain rfl:=eX ei;obtain⟨t,rfl⟩:=ry;rcases yn e with rfl|e
 ·obtain⟨a,vs,rfl,_,hi,hz,rs⟩:=rx;exact Pu hi hz rs e2 λy ry=>PE.same G ry q
 ·obtain⟨a,vs,rfl,hi,hz,rs⟩:=sd G rx e;exact NT hi.isList hz rs e2 λy ry=>PE.same G ry q
theorem Hg(H:bF cx)(R:eC A 0)(G:aE B Z s.heap){v k r:V}{x y:ag}{Q:QV}(rx:VR (Fz Z B) s.heap v x)(ry:VR (Fz Z B) s.heap k y)(e:eP Z v k=some r)(q:Q r Z) :
  wpAny Md A (getItem x y) (PE B Z s Q) aw s:=by
 unfold eP at e;cases hs:lR Z v with
 |some l=>rw[hs]at e;exact SW G rx ry hs e q
 |none=>rw[hs]at e;exact RN H R G rx ry e q
theorem HY(H:bF cx)(R:eC A 0)(G:aE B Z s.heap){a b:V}{r:Bool}{x y:ag}(ra:VR (Fz Z B) s.heap a x)(rb:VR (Fz Z B) s.heap b y)(e0:Bd Z a b=some r) :
  (∀Q:ag->aB->Prop,(∀tk,Q (.bool r) { s with toks:=tk })->wpAny Md A (compareOp .In x y) Q aw s)/\∀Q:ag->aB->Prop,(∀tk,Q (.bool (!r)) { s with toks:=tk })->wpAny Md A (compareOp .NotIn x y) Q aw s:=by
 cases b<;>try (exact nn e0;done)
 ·have z:=Hn (A:=A) (E:=aw) (.inr rfl) ra rb e0;exact⟨λQ q=>z.1 Q (q _),λQ q=>z.2 Q (q _)⟩
 ·have z:=Hn (A:=A) (E:=aw) (.inl rfl) ra rb e0;exact⟨λQ q=>z.1 Q (q _),λQ q=>z.2 Q (q _)⟩
 ·obtain⟨o,e,rfl⟩:=cN e0;subst rb;obtain⟨c,hm⟩:=rS H G ra e;rcases c with⟨K,knd,key,kvs,hk,hD,ho⟩|⟨a,key,xs,rfl,hk,hD,ho⟩
  ·exact⟨λQ q=>wpAny_in_of hk hm hD.mapOf (by rw[ho.is];exact q _),λQ q=>wpAny_notIn_of hk hm hD.mapOf (by rw[ho.is];exact q _)⟩
  ·have ho:=ho.is;rw[Option.isSome_map]at ho;exact⟨λQ q=>wpAny_in_heap R.in1_unit hk hm hD (by rw[ho];exact q _),λQ q=>wpAny_notIn_heap R.in1_unit hk hm hD (by rw[ho];exact q _)⟩
theorem VH{A:bD}(R:eC A 0):A.units+4<cLine:=by have:=R.units;show _<9900;exact au [_] [] (.tn (.a .v0 (.k 4)) (.k 9900)) 1 [(1,.ln (.a (.a .v0 (.m 40 .k0)) (.k 100)) (.k 9000))] rfl this
theorem GZ(H:bF cx)(R:eC A 0)(G:aE B Z s.heap){op:mY}{a b:V}{r:Bool}{x y:ag}{Q:QV}(ra:VR (Fz Z B) s.heap a x)(rb:VR (Fz Z B) s.heap b y)(e0:wF Z op a b=some r)(q:Q (.bool r) Z) :
  wpAny Md A (compareOp (Aw op) x y) (PE B Z s Q) aw s:=by
 have hu:=VH R;have fin:PE B Z s Q (.bool r) s:=PE.bool G q;have fint:∀tk,PE B Z s Q (.bool r) { s with toks:=tk }:=λtk=>PE.tok (v:=.bool r) G rfl q;cases op
 ·exact(HQ 4 hu (G.deref ra) (G.deref rb) e0).rc cy w _ _ fin
 ·obtain⟨t,e,rfl⟩:=cN e0;exact(HQ 4 hu (G.deref ra) (G.deref rb) e).ne cy w _ _ fin
 ·exact VD R.unit ra rb e0 fin
 ·obtain⟨i,j,rfl,rfl,rfl⟩:=zN e0;obtain⟨t,rfl⟩:=ra;obtain⟨u,rfl⟩:=rb;exact PySem.P.le_int fin
 ·obtain⟨i,j,rfl,rfl,rfl⟩:=zN e0;obtain⟨t,rfl⟩:=ra;obtain⟨u,rfl⟩:=rb;exact PySem.P.gt_int fin
 ·obtain⟨i,j,rfl,rfl,rfl⟩:=zN e0;obtain⟨t,rfl⟩:=ra;obtain⟨u,rfl⟩:=rb;exact PySem.P.ge_int fin
 ·refine ar (a8 e0) λu e1 e=>?_;obtain rfl:=su e1;subst rb;rcases Gg ra e with⟨rfl,rfl⟩|⟨rfl,hp,hx⟩
  ·exact wpAny_is_self rfl fin
  ·exact wpAny_is_other hp hx fin
 ·refine ar (a8 e0) λu e1 e=>?_;obtain⟨t,e2,rfl⟩:=cN e;obtain rfl:=su e1;subst rb;rcases Gg ra e2 with⟨rfl,rfl⟩|⟨rfl,hp,hx⟩
  ·exact wpAny_isNot_self rfl fin
  ·exact wpAny_isNot_other hp hx fin
 ·exact(HY H R G ra rb e0).1 _ fint
 ·obtain⟨t,e,rfl⟩:=cN e0;exact(HY H R G ra rb e).2 _ fint
theorem PE.mut{Q:QV}(G:aE B Z s.heap){a:aq}{m m':M}(e:Z a=some m){tk:Nat}(hs:fJ a s.heap h')(r:MR (Fz (ak Z a m') B) h' a m'){v:V}{y:ag}(rv:VR (Fz Z B) s.heap v y)(q:Q v (ak Z a m')) :
  PE B Z s Q y { s with heap:=h',toks:=tk }:=⟨v,_,⟨G.mut e hs r,.mut e iT hs rfl rfl⟩,rv.mono (mO e hs),q⟩
theorem PU.mut{Q:ae->Prop}(G:aE B Z s.heap){a:aq}{m m':M}(e:Z a=some m){tk:Nat}(hs:fJ a s.heap h')(r:MR (Fz (ak Z a m') B) h' a m')(q:Q (ak Z a m')) :
  PU B Z s Q { s with heap:=h',toks:=tk }:=⟨_,⟨G.mut e hs r,.mut e iT hs rfl rfl⟩,q⟩
theorem tH{a:aq}{m:M}(e:Z a=some m){l':List V}{vs':List ag}(hp:h'.PlainList a vs'.toArray)(hs:fJ a h h')(hz:l'.length<=aJ)(r:aN (Fz Z B) h l' vs'):MR (Fz (ak Z a (.list l')) B) h' a (.list l'):=
 ⟨vs',hp,hz,r.mono (mO e hs)⟩
theorem rK{l:aq}{items ws:Array ag}{n:Nat}(ho:h.get? l=some { cls:=.type "list",data:=.seq items n })(f:Array ag->Array ag)(hf:f items=ws):(h.update l (Obj.mapSeq f)).PlainList l ws:=by
 subst hf;refine⟨if (f items).size==items.size then n else n+1,?_⟩;rw[xE _ ho (by rfl)];rfl
theorem Nl{a:Nat}{l:List V}{v:V}{x:ag}{Q:QV}(G:aE B Z s.heap)(e:Z a=some (.list l))(r:VR (Fz Z B) s.heap v x)(hz:l.length<aJ)(q:Q .none (ak Z a (.list (l++[v])))) :
  wpAny Md A (call (.builtin "list.append") [.ref a,x]) (PE B Z s Q) aw s:=by
 obtain⟨_,_,vs,hp,_,rs⟩:=G.cells a _ e;refine Jy hp (λh' hp' hs=>?_) (by rw[dT,rs.length];exact gb (cu hz));rw[KG]at hp';exact PE.mut (v:=.none) (tk:=s.toks) G e hs (tH e hp' hs (by rw[bB];exact hz) (rs.append (.one r))) rfl q
theorem Qa{vs:List ag}:vs.toArray.eraseIdxIfInBounds (vs.toArray.size-1)=vs.dropLast.toArray:=by
 rw[By];apply ME
 by_cases h0:vs=[]
 ·subst h0;rfl
 ·have hpos:0<vs.length:=mw.mpr h0;simp only[Array.eraseIdxIfInBounds,dT];rw[dif_pos (by exact au [_,_] [] (.tn .v0 .v1) 1 [(1,.en (.a .v0 .k1) .v1)] rfl (aZ (au [_] [] (.ln .k1 .v0) 1 [(1,.tn .k0 .v0)] rfl hpos)))];simp[List.eraseIdx_eq_take_drop_succ,List.drop_of_length_le (show vs.length<=vs.length-1+1 by exact au [_,_] [] (.ln .v0 (.a .v1 .k1)) 1 [(1,.ln .v0 (.a .v1 .k1))] rfl cW)]
end
end
section
open PySem PySem.W PyProof.Rows PySem.SeqAt
section
variable{fz fz':aq->Prop}{B:aq->Prop}{Z:ae}{h h':Heap}{s:aB}{A:bD}
theorem Uu{a:Nat}{l:List V}{v:V}{Q:QV}(G:aE B Z s.heap)(e:Z a=some (.list l))(hv:l.getLast?=some v)(q:Q v (ak Z a (.list l.dropLast))) :
  wpAny Md A (call (.builtin "list.pop") [.ref a]) (PE B Z s Q) aw s:=by
 obtain⟨_,_,vs,⟨n,hp⟩,hz,rs⟩:=G.cells a _ e;rw[Br]at hv;obtain⟨y,hy,ry⟩:=rs.get hv;refine nQ JT ⟨_,hp,rfl⟩ PySem.F.entry_list_pop (PySem.F.args_list_pop_1 _) (MeetsSeq.list_pop_last a vs.toArray n y (by rw[dT,rs.length,ub];exact hy) (by rw[dT,rs.length];exact gb hz)) ⟨hp,?_⟩;refine PE.mut (tk:=s.toks) G e (kS ..) (tH (vs':=vs.dropLast) e (rK hp _ Qa) (kS ..) (ai (by rw[List.length_dropLast];exact ew _ _) hz) ?_) ry q;rw[By,By,rs.length];exact rs.take _
theorem NG{a:Nat}{l l':List V}{x:ag}{Q:QV}(G:aE B Z s.heap)(e:Z a=some (.list l))(r:VR (Fz Z B) s.heap (.list l') x)(hz:l.length+l'.length<=aJ)(q:Q .none (ak Z a (.list (l++l')))) :
  wpAny Md A (call (.builtin "list.extend") [.ref a,x]) (PE B Z s Q) aw s:=by
 obtain⟨_,_,vs,⟨n,hp⟩,_,rs⟩:=G.cells a _ e;obtain⟨b,ws,rfl,_,⟨n2,hp2⟩,_,rs2⟩:=r;have hz':vs.length+ws.length<=1048576:=by rw[rs.length,rs2.length];exact hz
 have hb:¬(!vs.toArray.isEmpty&&xw (vs.toArray.size+ws.toArray.size))=true:=by
  have:xw (vs.toArray.size+ws.toArray.size)=false:=by
   simp only[xw,CX,dT];simp;exact au [_,_] [] (.ln (.a .v0 .v1) (.k 16777216)) 1 [(1,.ln (.a .v0 .v1) (.k 1048576))] rfl hz'
  rw[this,Lg];exact kU
 refine nQ Ju ⟨_,hp,rfl⟩ PySem.F.entry_list_extend (PySem.F.args_list_extend_2 _ _)
  (AutoSeq1.list_extend_list_list_0 a vs.toArray n b ws.toArray n2 hb (ai (ai (aL _ _) hz') (by decide)) (ai hz' (by decide))) ⟨hp,hp2,?_⟩
 exact PE.mut (v:=.none) (tk:=s.toks) G e (kS ..) (tH (vs':=vs++ws) e (rK hp (λxs=>xs++ws.toArray) (BH _ _)) (kS ..) (by rw[bB];exact hz) (rs.append rs2)) rfl q
theorem Na{a:Nat}{l:List V}{Q:QV}(G:aE B Z s.heap)(e:Z a=some (.list l))(q:Q .none (ak Z a (.list l.reverse))) :
  wpAny Md A (call (.builtin "list.reverse") [.ref a]) (PE B Z s Q) aw s:=by
 obtain⟨_,_,vs,⟨n,hp⟩,hz,rs⟩:=G.cells a _ e;refine nQ Js ⟨_,hp,rfl⟩ PySem.F.entry_list_reverse (PySem.F.args_list_reverse_1 _) (AutoSeq1.list_reverse_list_0 a vs.toArray n (by rw[dT,rs.length];exact gb hz)) ⟨hp,?_⟩;exact PE.mut (v:=.none) (tk:=s.toks) G e (kS ..) (tH (vs':=vs.reverse) e (rK hp (λxs=>xs.reverse) List.reverse_toArray) (kS ..) (by rw[mx];exact hz) rs.reverse) rfl q
theorem Rm(H:bF cx)(G:aE B Z s.heap){v k d r:V}{o x y:ag}{Q:QV}(rv:VR (Fz Z B) s.heap v o)(rk:VR (Fz Z B) s.heap k x)(rd:VR (Fz Z B) s.heap d y)(e0:wi Z v k d=some r)(q:Q r Z) :
  wpAny Md A (call (.builtin "dict.get") [o,x,y]) (PE B Z s Q) aw s:=by
 have main:(j4 v).bind (λa=>(dD Z a k).map λr=>r.getD d)=some r->(∀l,k≠.tup l)->wpAny Md A (call (.builtin "dict.get") [o,x,y]) (PE B Z s Q) aw s:=λe nt=>by
  refine ar (a8 e) λa e1 e=>?_;obtain⟨z,e2,rfl⟩:=cN e;obtain rfl:=nY e1;subst rv;rcases(rS H G rk e2).1 with⟨K,knd,key,kvs,hk,hD,ho⟩|⟨b,key,xs,rfl,hk,hD,ho⟩
  ·refine call_meetsIn JR hD.typeIs PySem.F.entry_dict_get (PySem.F.args_dict_get_3 _ _ _) (meets_dict_get_default knd _ hk (rS H G rk e2).2 y) ⟨_,hD.mapOf,?_⟩;cases z with
   |none=>rw[show valueAt kvs key=none from ho];exact PE.tok G rd q
   |some v=>obtain⟨u,hu,ru⟩:=ho;rw[hu];exact PE.tok G ru q
  ·exfalso;refine ar (a8 e2) λm hd e2=>?_;cases m<;>try (exact nn e2;done)
   all_goals refine ar (cN e2) λi ei _=>?_
   ·obtain rfl:=eX ei;obtain⟨t,rk⟩:=rk;cases rk
   ·obtain⟨l,el,_⟩:=a8 ei;exact nt l (nZ el)
   ·obtain rfl:=qf ei;obtain⟨t,rk⟩:=rk;cases rk
 cases k<;>first|exact nn e0|exact main e0 λl e=>nn (show none=some l from congrArg mf e)
theorem HF{d n:Nat}{f:Int->Option V}{kvs:List (Int×ag)}{i:Int}{v:V}{y:ag}(e:Z d=some (.dI n f))(hlen:kvs.length<=n)(ho:∀k,OR (Fz Z B) h (f k) (valueAt kvs k))(r:VR (Fz Z B) h v y)(hD':h'.DictOf (intKind cy w) d (stored kvs i y))(hs:fJ d h h') :
  MR (Fz (ak Z d (.dI (n+1) λj=>if j=i then some v else f j)) B) h' d (.dI (n+1) λj=>if j=i then some v else f j):=by
 refine⟨_,hD',ai (stored_length_le ..) (cK hlen),λj=>?_⟩;rw[Cp];by_cases hj:j=i
 ·rw[if_pos hj];show OR _ _ (if j=i then some v else f j) _;rw[if_pos hj];exact⟨y,rfl,r.mono (mO e hs)⟩
 ·rw[if_neg hj];show OR _ _ (if j=i then some v else f j) _;rw[if_neg hj];exact(ho j).mono (mO e hs)
theorem LG(H:bF cx){d n:Nat}{f:Int->Option V}{i:Int}{dv:V}{x y:ag}{Q:QV}(G:aE B Z s.heap)(rk:VR (Fz Z B) s.heap (.int i) x)(rd:VR (Fz Z B) s.heap dv y)
  (e:Z d=some (.dI n f)) (hn:n<aJ) (q:match f i with|some v=>Q v Z|none=>Q dv (ak Z d (.dI (n+1) λj=>if j=i then some dv else f j))):wpAny Md A (call (.builtin "dict.setdefault") [.ref d,x,y]) (PE B Z s Q) aw s:=by
 obtain⟨hge,_,kvs,hD,hlen,ho⟩:=G.cells d _ e;obtain⟨t,rfl⟩:=rk;have hoi:=ho i;refine call_meetsIn Jd hD.typeIs PySem.F.entry_dict_setdefault (PySem.F.args_dict_setdefault_3 _ _ _) (KW (vz i t) (CR H hge) y)
  ⟨kvs,hD,gb (ai hlen (cu hn)),λz hz=>?_,λhz h' hD' hs=>?_⟩
 ·cases hf:f i with
  |none=>rw[hf,hz]at hoi;exact sn hoi
  |some v=>rw[hf]at hoi q;obtain⟨u,hu,ru⟩:=hoi;rw[hz]at hu;(injection hu with hu;subst hu);exact PE.tok G ru q
 ·cases hf:f i with
  |none=>rw[hf]at q;exact PE.mut G e hs (HF e hlen ho rd hD' hs) rd q
  |some v=>rw[hf,hz]at hoi;obtain⟨u,hu,_⟩:=hoi;exact nn hu
end
end
section
open PySem PySem.W PyProof.Rows PySem.SeqAt
section
variable{fz fz':aq->Prop}{B:aq->Prop}{Z:ae}{h h':Heap}{s:aB}{A:bD}
theorem Nc{l:aq}{items:Array ag}{k:Int}{j:Nat}{t:Tok}{v:ag}{Q:Unit->aB->Prop}(hl:s.heap.PlainList l items)(hk:k=gB j\/(k=uz 0/\j+1=items.size))(hfit:Bq k=true)(hlt:j<items.size)
  (hQ:∀h',h'.PlainList l (items.setIfInBounds j v)->fJ l s.heap h'->Q () { s with heap:=h' }) :
  wpAny Md A (setItem (.ref l) (.int k t) v) Q aw s:=by
 refine bA (id hl) λn ho=>?_;have hd:({ cls:=.type "list",data:=.seq items n }:Obj).data=.seq items n:=rfl;unfold setItem
 try with_reducible refine ic ?_
 first|refine aG (a9 ?_)|skip
 refine aG (wpAny_sequenceKey hl.isList.typeIs (by decide) ?_);refine aG (wpAny_callSpecial?_slot (name:=Str.ofString "__setitem__") hl.isList.typeIs KH
  (KY KH hl.isList.typeIs entry_list_setitem ?_ (args_list_setitem _ _ _)))
 show wpAny _ _ (XQ (.int k t) >>= _) _ _ s;refine aG (wpAny_listSubscript_int hfit ?_);clear hfit;have hx':items[j]?=some items[j]:=Jj hlt;rcases hk with rfl|⟨rfl,hj⟩
 ·show wpAny _ _ ((seqItemAt l j >>= λr=>pure (r.map (j,·))) >>= _) _ _ s;refine aG (aG (wpAny_seqItemAt ho hd (a9 ?_)));rw[hx'];show wpAny _ _ (setSeqItemAt l j v >>= _) _ _ s;refine aG (Kt ho hd ?_);exact a9 ⟨.none,rfl,a9 (hQ _ (rK ho (·.setIfInBounds j v) rfl) (kS ..))⟩
 ·have hidx:seqIndex? (uz 0) items.size=some j:=by
   rw[<-hj,seqIndex_neg (by decide) (show -((j+1:Nat):Int)<=uz 0 from Int.neg_le_neg (gy.2 (df 1 j)))];exact congrArg some n1
  show wpAny _ _ ((X0 (.ref l) >>= λxs=>pure ((seqIndex? (uz 0) xs.size).bind λi=>xs[i]?.map (i,·))) >>= _) _ _ s;refine aG (aG ?_);show wpAny _ _ (seqItems? (.ref l) >>= _) _ _ s;refine aG (uu ho hd (a9 (a9 ?_)));rw[hidx,B8,hx'];show wpAny _ _ (setSeqItemAt l j v >>= _) _ _ s;refine aG (Kt ho hd ?_);exact a9 ⟨.none,rfl,a9 (hQ _ (rK ho (·.setIfInBounds j v) rfl) (kS ..))⟩
theorem SY(G:aE B Z s.heap){a:Nat}{l:List V}{i:Int}{x:V}{t:Tok}{c:ag}{Q:ae->Prop}(e:Z a=some (.list l))(rc:VR (Fz Z B) s.heap x c)(q:IL Z a l i x Q):wpAny Md A (setItem (.ref a) (.int i t) c) (λ_=>PU B Z s Q) aw s:=by
 obtain⟨_,_,vs,hp,hz,rs⟩:=G.cells a _ e;have hlid:=Ae;have hl:=rs.length;have main:∀j,j<l.length->(i=gB j\/(i=uz 0/\j+1=vs.toArray.size))->Bq i=true->Q (ak Z a (.list (l.set j x)))->wpAny Md A (setItem (.ref a) (.int i t) c) (λ_=>PU B Z s Q) aw s:=λj hj hk hf q=>
  Nc hp hk hf (by rw[dT,hl];exact hj) λh' hp' hs=>PU.mut (tk:=s.toks) G e hs (tH (vs':=vs.set j c) e (by rw[List.setIfInBounds_toArray]at hp';exact hp') hs (by rw[Cc];exact hz) (rs.set rc j)) q
 rcases q with⟨h0,h1,q⟩|⟨rfl,h0,q⟩
 ·exact main i.toNat ((Int.toNat_lt h0).2 h1) (.inl (nE h0).symm) (fitsIndex_of h0 (xN h1 (kj (gy.2 hz) (show((1048576:Nat):Int)<=2 ^ 63 by decide)))) q
 ·have hpos:0<l.length:=mw.mpr h0;exact main _ (nO hpos mC) (.inr ⟨rfl,by rw[dT,hl];exact BP hpos⟩) (fitsIndex_neg (by decide) (by decide)) q
theorem D5(H:bF cx)(R:eC A 0)(G:aE B Z s.heap){v k x:V}{a b c:ag}{Q:ae->Prop}(ra:VR (Fz Z B) s.heap v a)(rb:VR (Fz Z B) s.heap k b)(rc:VR (Fz Z B) s.heap x c)
  (e:jw Z v k x Q):wpAny Md A (setItem a b c) (λ_=>PU B Z s Q) aw s:=by
 refine ar (bj e) λd e1 e=>?_;refine ar (bj e) λm hd e=>?_;obtain rfl:=nY e1;subst ra;cases m<;>try exact e.elim
 ·refine ar (bj e) λi ei e=>?_;obtain rfl:=eX ei;obtain⟨t,rfl⟩:=rb;exact SY G hd rc e
 ·refine cm (bj e) λi ei hn q=>?_;obtain rfl:=eX ei;obtain⟨t,rfl⟩:=rb;obtain⟨_,_,kvs,hD,hlen,ho⟩:=G.cells d _ hd;exact wpAny_setItem_pairs (vz i t) hD (λh' hD' hs=>PU.mut G hd hs (HF hd hlen ho rc hD' hs) q) (gb (ai hlen (cu hn)))
 ·refine cm (bj e) λbs ei hn q=>?_;obtain⟨_,_,xs,hD,hlen,hfz,ho⟩:=G.cells d _ hd;obtain⟨p,rfl,hfp,hk⟩:=GQ ei rb;refine wpAny_setItem_heap R.in1_unit hk hD (λh' hD' hs=>?_) (gb (ai hlen (cu hn)));have fz':∀m y,Fz Z B y->Fz (ak Z d m) B y:=λm y f=>⟨(i7 (vg hd f.1)).trans f.1,f.2⟩
  refine PU.mut G hd hs ?_ q;refine⟨_,hD',ai (MC ..) (cK hlen),Mf (λy hy=>fz' _ _ (hfz y hy)) (fz' _ _ hfp),λj=>?_⟩;rw[Ly];show OR _ _ (if j=bs then some x else _) _;by_cases hj:j=bs
  ·subst hj;rw[if_pos rfl,if_pos rfl];exact⟨c,rfl,rc.mono (mO hd hs)⟩
  ·rw[if_neg hj,if_neg λz=>hj (Mg (mz (mz z).2).1)];exact(ho j).mono (mO hd hs)
end
end
section
open PySem PySem.W PyProof.Rows PySem.SeqAt
theorem zA{α:Type}{c:Prop}[Decidable c]{a:Option α}{b:α}(h:(if c then a else none)=some b):c/\a=some b:=by
 by_cases hc:c
 ·rw[if_pos hc]at h;exact⟨hc,h⟩
 ·rw[if_neg hc]at h;exact nn h
section
variable{fz fz':aq->Prop}{B:aq->Prop}{Z:ae}{h h':Heap}{s:aB}{A:bD}
theorem NM{v:V}{x:ag}(r:VR fz h v x):handedIn x=true:=by
 cases v
 ·subst r;rfl
 ·subst r;rfl
 ·obtain⟨t,rfl⟩:=r;rfl
 ·obtain⟨t,rfl⟩:=r;rfl
 ·obtain⟨t,rfl,r⟩:=r;rfl
 ·obtain⟨a,vs,rfl,r⟩:=r;rfl
 ·obtain⟨a,vs,rfl,r⟩:=r;rfl
 ·obtain⟨a,rfl,r⟩:=r;rfl
 ·obtain⟨a,d,es,n,rfl,r⟩:=r;rfl
 ·subst r;rfl
theorem vA{x y:Str}{t:Tok}:(Value.str x t).isStr y=(x==y):=rfl
theorem jl{x y:Str}(h:x≠y):(x==y)=false:=beq_eq_false_iff_ne.mpr h
theorem Ks.find{a:bG}{v:V}:∀{ks:List bG}{l:List V}{es:List DictEntry},Ks ks es->aN fz h l (es.map (·.val))->(∀b∈ks,an b=an a->b=a)->kK ks l a=some v->∃y,es.find? (λe=>e.key.isStr (an a))=some y/\VR fz h v y.val:=by
 intro ks;induction ks with
 |nil=>intro l es _ _ _ e;exact nn e
 |cons b ks ih=>
  intro l es k r inj e;obtain⟨x,es,t,rfl,hk,k⟩:=k;cases l with
  |nil=>exact nn e
  |cons u l=>
   obtain⟨y,ys,q,ru,r⟩:=r;obtain⟨rfl,rfl⟩:=mz q;replace e:(if b=a then some u else kK ks l a)=some v:=e;by_cases hb:b=a
   ·rw[if_pos hb]at e;injection e with e;subst e
    exact⟨x,by rw[rF,hk,vA,hb,beq_self_eq_true],ru⟩
   ·rw[if_neg hb]at e;refine ar (ih k r (λc hc=>inj c (.tail _ hc)) e) λy hy ry=>?_;exact⟨y,by rw[rF,hk,vA,jl λq=>hb (inj b (.head _) q)];exact hy,ry⟩
theorem Ks.noRef:∀{ks:List bG}{es:List DictEntry},Ks ks es->es.any (·.refKey)=false
 :=λ{ks}=>@(li (λ{_}e=>e▸rfl) (λ_ _ ih{_}h=>kQ h λx es t e hk k=>by rw[e,Lv,ih k,DictEntry.refKey,hk];rfl) ks)
theorem Ks.miss{n:Str}:∀{ks:List bG}{es:List DictEntry},Ks ks es->(∀b∈ks,an b≠n)->getL n es=some none:=by
 intro ks es k hm;have:es.find? (·.key.isStr n)=none:=by
  rw[Km];intro x hx q;induction ks generalizing es with
  |nil=>subst k;exact nm hx
  |cons b ks ih=>
   obtain⟨y,es,t,rfl,hk,k⟩:=k;rcases cp.mp hx with rfl|hx
   ·rw[hk,vA,jl (hm b (.head _))]at q;exact bn q
   ·exact ih k (λc hc=>hm c (.tail _ hc)) hx
 rw[getL,this,k.noRef];rfl
theorem DN:∀(fs:List (bG×V))(a:bG),tc fs a=kK (fs.map (·.1)) (fs.map (·.2)) a
 |[],_=>rfl
 |(b,v)::r,a=>congrArg (ite (b=a) (some v)) (DN r a)
def we(Z:ae)(B:aq->Prop)(h:Heap)(c:Nat)(ks:List bG)(l:List V)(x:ag):Prop:=
 ∃p d es n,x=.ref p/\InstAt h p (instObj (ca c) d) (ca c) (some (mE es n))/\Ks ks es/\aN (Fz Z B) h l (es.map (·.val))/\∀b∈ks,(dH c).contains b=true
theorem Ho(G:aE B Z h){c d:Nat}{p:Nat×List (bG×V)}{x:ag}(r:VR (Fz Z B) h (.inst c d) x)(e:gI Z d=some p)(hc:p.1=c):we Z B h c (p.2.map (·.1)) (p.2.map (·.2)) x:=by
 obtain⟨a,rfl,_,hp⟩:=r;obtain⟨_,_,es,n,hd,k,rs,hf⟩:=G.cells d _ (yk e);refine⟨a,d,es,n,rfl,⟨hp,rfl,rfl,hd⟩,k,rs,λb hb=>?_⟩;obtain⟨q,hq,rfl⟩:=ik.mp hb;rw[<-hc];exact hf q hq
theorem Ic{c:Nat}{fs:List V}{x:ag}(r:VR (Fz Z B) h (.obj c fs) x):we Z B h c (dH c) fs x:=by
 obtain⟨a,d,es,n,rfl,_,_,hp,hd,k,rs⟩:=r;exact⟨a,d,es,n,rfl,⟨hp,rfl,rfl,hd⟩,k,rs,λb hb=>fG.mpr hb⟩
theorem z8(H:bF cx){c:Nat}(h:dH c≠[]\/∃m,lQ c m≠none):Ap K₀ c:=(kY (c<5)).elim (λq=>(H.cn c q).2) λq=>
 h.elim (λz=>absurd (H.cno c q).1 z) λz=>z.elim λm z=>absurd ((H.cno c q).2 m) z
theorem Fo(H:bF cx)(G:aE B Z s.heap){c:Nat}{ks:List bG}{l:List V}{x:ag}{a:bG}{r:V}{expr:Bool}{Q:QV}(I:we Z B s.heap c ks l x)(ha:(dH c).contains a=true)(e:kK ks l a=some r)(q:Q r Z) :
  wpAny Md A (getAttr x (an a) expr) (PE B Z s Q) aw s:=by
 obtain⟨p,d,es,n,rfl,I,k,rs,hf⟩:=I;have O:=z8 H (c:=c) (.inl λz=>by rw[z]at ha;exact bn ha);obtain⟨y,hy,ry⟩:=k.find rs (λb hb z=>O.inj b a (hf b hb) ha z) e;exact get_value (H.X.keeps G.base) I (CS (name:="") O.get).1 (findObj_own O.has (O.fld a ha) rfl (by rw[lookIn_dict,getL,hy])) (NM ry) (PE.tok G ry q)
theorem Fm:∀{ks:List bG}{l:List V}{a:bG}{v:V},kK ks l a=some v->a∈ks
 |[],_,_,_,e=>nn e
 |_::_,[],_,_,e=>nn e
 |b::ks,u::l,a,v,e=>(kY (b=a)).elim (λq=>q▸.head _) λq=>.tail _ (Fm ((if_neg q).symm.trans e))
theorem Fp(H:bF cx)(G:aE B Z s.heap){v r:V}{a:bG}{x:ag}{expr:Bool}{Q:QV}(rv:VR (Fz Z B) s.heap v x)(e0:jE Z v a=some r)(q:Q r Z) :
  wpAny Md A (getAttr x (an a) expr) (PE B Z s Q) aw s:=by
 cases v<;>try (exact nn e0;done)
 ·refine ar (a8 e0) λp e1 e=>?_;refine aT (zA e) λhc e=>?_;rw[DN]at e;exact Fo H G (Ho G rv e1 hc.1) hc.2 e q
 ·exact Fo H G (Ic rv) (fG.mpr (Fm e0)) e0 q
theorem Gb(H:bF cx)(G:aE B Z s.heap){c:Nat}{ks:List bG}{l:List V}{x:ag}{m f:Nat}{pl:Sem Bool}{Q:ag×List ag->aB->Prop}(I:we Z B s.heap c ks l x)(e:lQ c m=some f)(q:Q (.ref (fa f),[x]) s) :
  wpAny Md A (getMethod x (an m) pl) Q aw s:=by
 obtain⟨p,d,es,n,rfl,I,k,rs,hf⟩:=I;have O:=z8 H (c:=c) (.inr ⟨m,λz=>by rw[z]at e;cases e⟩);obtain⟨m1,m2,m3⟩:=O.mth m f e;exact method_fn (H.X.keeps G.base) I (CS (name:="") O.get).1 (CS (name:="") O.get).2 m1 (beq_iff_eq.mp m2)
  (by show(lookIn (an m) (mE es n)).map _ = _;rw[lookIn_dict,k.miss λb hb=>m3 b (hf b hb)];rfl) q
theorem Sf(H:bF cx)(G:aE B Z s.heap){v:V}{m f:Nat}{x:ag}{pl:Sem Bool}{Q:ag×List ag->aB->Prop}(rv:VR (Fz Z B) s.heap v x)(e0:oj Z v m=some f)(q:Q (.ref (fa f),[x]) s) :
  wpAny Md A (getMethod x (an m) pl) Q aw s:=by
 cases v<;>try (exact nn e0;done)
 ·refine ar (a8 e0) λp e1 e=>?_;refine aT (zA e) λhc e=>?_;exact Gb H G (Ho G rv e1 hc) e q
 ·exact Gb H G (Ic rv) e0 q
theorem Qc(n:Str)(hsh:Int)(key v:ag):∀es:List DictEntry,(putL n hsh key v es).length<=es.length+1:=λrr=>li (aC _)
 (λe r ih=>by
  unfold putL;split
  ·exact eM _
  ·exact cK (ih)) rr
theorem Ox{R:Result->aB->Prop}{p d Caa:aq}{name:Str}{tk:Tok}{v:ag}{es:List DictEntry}{n:Nat}(X:K₀.In s.heap)(I:InstAt s.heap p (instObj Caa d) Caa (some (mE es n)))(hd:s.heap.get? d=some (mE es n))(ho:plainOver K₀ Caa=true)
  (hf:findIn K₀ (.ref Caa) name=some none) (hh:hasDictIn K₀ Caa=true) (hnr:es.any (·.refKey)=false) (hz:es.length<=1000)
  (h:R (.ok (.ret .none)) { s with heap:=s.heap.update d (CP name (pB w.params name) (.str name s.toks) v),toks:=s.toks+1 }) :
  codeAny Md A (.call (.builtin "object.__setattr__") ⟨[.ref p,.str name tk,v],[]⟩) R s:=by
 refine osa_open X I ho (r:=none) (by unfold takerIn;rw[hf];rfl) λb=>?_;refine ar (any_some hh) λcd hc hd'=>?_;have hput:=putName_dict name (pB w.params name) (.str name s.toks) v es n;have D':(s.heap.update d (CP name (pB w.params name) (.str name s.toks) v)).get? d=some (mE (putL name (pB w.params name) (.str name s.toks) v es) (putN name es n)):=by
  rw[<-hput];exact xE _ hd (by rw[hput];rfl)
 refine aG (a9 (aG (aG (Lq I.1 (aG ((looks_clsIn X hc).here ?_))))));rw[hd'];refine a9 (a:=some d) (aG (a9 (aG ?_)));unfold nsSet;refine aG (aG (wpAny_askSetting (a9 (aG (wpAny_mkText (aG (Lq hd ?_)))))))
 dsimp only
 rw[aRefKeyMayBeTheName_at,show(!(es.toArray).any (·.key.isStr name)&&(es.toArray).any (·.refKey))=false by rw[rE,rE,hnr,Lg]];refine wpAny_updatePart hd ?_;refine aG (wpAny_lookBehind D' (pastItsLine_dict (by rw[dT,CX];exact ai (Qc ..) (ai (cK hz) (by decide)))) ?_);exact a9 h
theorem Ks.len:∀{ks:List bG}{es:List DictEntry},Ks ks es->es.length=ks.length
 |[],_,e=>e▸rfl
 |_::_,_,⟨_,_,_,e,_,k⟩=>e▸congrArg (·+1) k.len
theorem Ks.put{a:bG}{v:V}{x:ag}{hsh:Int}{tk:Tok}(rv:VR fz h v x):∀{fs:List (bG×V)}{es:List DictEntry},(∀p∈fs,an p.1=an a->p.1=a)->Ks (fs.map (·.1)) es->aN fz h (fs.map (·.2)) (es.map (·.val)) ->
  Ks ((setA fs a v).map (·.1)) (putL (an a) hsh (.str (an a) tk) x es)/\aN fz h ((setA fs a v).map (·.2)) ((putL (an a) hsh (.str (an a) tk) x es).map (·.val)):=by
 intro fs;induction fs with
 |nil=>intro es _ k r;subst k;exact⟨⟨_,_,tk,rfl,rfl,rfl⟩,_,_,rfl,rv,rfl⟩
 |cons p fs ih=>
  intro es inj k r;obtain⟨b,u⟩:=p;obtain⟨e,es,t,rfl,hk,k⟩:=k;obtain⟨y,ys,q,ru,r⟩:=r;obtain⟨rfl,rfl⟩:=mz q;rw[setA,putL,hk,vA];by_cases hb:b=a
  ·rw[if_pos hb,if_pos (by rw[hb,beq_self_eq_true])];exact⟨⟨_,_,t,rfl,rfl,k⟩,_,_,rfl,rv,r⟩
  ·rw[if_neg hb,if_neg (by rw[jl λq=>hb (inj (b,u) (.head _) q)];exact kU)];have z:=ih (λp hp=>inj p (.tail _ hp)) k r;exact⟨⟨_,_,t,rfl,hk,z.1⟩,_,_,rfl,ru,z.2⟩
theorem Qu{a:bG}{v:V}{P:bG->Prop}(ha:P a):∀{fs:List (bG×V)},(∀p∈fs,P p.1)->∀p∈setA fs a v,P p.1:=by
 intro fs;induction fs with
 |nil=>intro _ p hp;rw[cJ.mp hp];exact ha
 |cons q fs ih=>
  intro hf p hp;rw[setA]at hp;by_cases hb:q.1=a
  ·rw[if_pos hb]at hp;rcases cp.mp hp with rfl|hp
   ·exact hf q (.head _)
   ·exact hf p (.tail _ hp)
  ·rw[if_neg hb]at hp;rcases cp.mp hp with rfl|hp
   ·exact hf q (.head _)
   ·exact ih (λp hp=>hf p (.tail _ hp)) p hp
theorem QX{v:V}{i:Nat×Nat}(h:IU v=some i):v=.inst i.1 i.2:=by cases v<;>first|((injection h with h;subst h);rfl)|exact nn h
theorem E4(H:bF cx)(G:aE B Z s.heap){v x:V}{a:bG}{y z:ag}{Q:ae->Prop}(rv:VR (Fz Z B) s.heap v y)(rx:VR (Fz Z B) s.heap x z)(e:qC Z v a x Q) :
  wpAny Md A (setAttr y (an a) z) (λ_=>PU B Z s Q) aw s:=by
 refine ar (bj e) λpp290_ e1 e=>?_;obtain⟨c,d⟩:=pp290_;obtain⟨⟨c',fs⟩,e2,rfl,ha,hz,q⟩:=bj e;obtain rfl:=QX e1;have hd:=yk e2;obtain⟨p,rfl,_,hp⟩:=rv;obtain⟨_,_,es,n,hdd,k,rs,hf⟩:=G.cells d _ hd;have X:=H.X.keeps G.base;have O:=z8 H (c:=c') (.inl λz=>by rw[z]at ha;exact bn ha);have I:InstAt s.heap p (instObj (ca c') d) (ca c') (some (mE es n)):=⟨hp,rfl,rfl,hdd⟩
 refine set_plain X I O.setA (Ox (s:={ s with toks:=s.toks+1 }) X I hdd O.over (O.fld a ha) O.has k.noRef (by rw[k.len,aY];exact ai hz (by decide)) ?_);have hs:fJ d s.heap (s.heap.update d (CP (an a) (pB w.params (an a)) (.str (an a) (s.toks+1)) z)):=kS ..;refine PU.mut G hd hs ?_ q;have hput:=putName_dict (an a) (pB w.params (an a)) (.str (an a) (s.toks+1)) z es n;have hk:=Ks.put (hsh:=pB w.params (an a)) (tk:=s.toks+1) rx (λp hp z=>O.inj p.1 a (hf p hp) ha z) k rs;exact⟨_,_,by rw[xE _ hdd (by rw[hput];rfl),hput],hk.1,hk.2.mono (mO hd hs),Qu (P:=λb=>(dH c').contains b=true) ha hf⟩
end
end
section
open PySem PySem.W PyProof.Rows PySem.SeqAt
noncomputable def s6(b:BI):ag:=match b with
 |.len=>.builtin "len"
 |.isB=>.builtin "isinstance"
 |.isS=>.builtin "isinstance"
 |.isBS=>.builtin "isinstance"
 |.int=>.type "int"
 |.max=>.builtin "max"
 |.min=>.builtin "min"
 |.max1=>.builtin "max"
 |.min1=>.builtin "min"
 |.sum=>.builtin "sum"
 |.bytes=>.type "bytes"
theorem Mk:∀{l:List Int}{bs:List UInt8},vf l=some bs->bs=l.map (λn=>n.toNat.toUInt8)/\∀n∈l,0<=n/\n<256:=by
 intro l;induction l with
 |nil=>intro bs e;(injection e with e;subst e);exact⟨rfl,λ_ h=>nm h⟩
 |cons i l ih=>
  intro bs e;refine ar (a8 e) λb eb e=>?_;obtain⟨m,em,rfl⟩:=cN e;obtain⟨hr,rfl⟩:=iy eb;obtain⟨rfl,h2⟩:=ih em;exact⟨rfl,λn hn=>(cp.mp hn).elim (λq=>q▸hr) (h2 n)⟩
section
variable{fz fz':aq->Prop}{B:aq->Prop}{Z:ae}{h h':Heap}{s:aB}{A:bD}
theorem sU{vs:List V}{v:V}{xs:List ag}(e:one vs=some v)(r:aN fz h vs xs):∃x,xs=[x]/\VR fz h v x:=by
 cases vG e
 obtain⟨x,ys,rfl,q,rfl⟩:=r;exact⟨x,rfl,q⟩
theorem wc{vs:List V}{p:V×V}{xs:List ag}(e:aF vs=some p)(r:aN fz h vs xs):∃x y,xs=[x,y]/\VR fz h p.1 x/\VR fz h p.2 y:=by
 cases GD e
 obtain⟨x,ys,rfl,q,y,zs,rfl,q2,rfl⟩:=r;exact⟨x,y,rfl,q,q2⟩
theorem sM{vs:List ag}{ns:List Int}(hi:IntsAre vs ns):∀i v,vs.toArray[i]?=some v->∃t,v=Nj ((λi=>ns.getD i 0) i) t:=by
 intro i v h;rw[ub]at h;have hlt:=(iQ.mp h).1;have hn:ns[i]?=some (ns[i]'(by rw[<-hi.length];exact hlt)):=bL _;refine bA (hi.get i _ hn) λt ht=>?_;rw[h]at ht;injection ht with ht;subst ht
 exact⟨t,by show _ = Nj (ns.getD i 0) t;rw[fc,hn];rfl⟩
abbrev vC(l:aq):Obj:={ cls:=.type "list_iterator",data:=.fields #[.ref l,.int 0 0] }
theorem zF{l:aq}{vs:Array ag}(hl:h.IsList l vs):l≠h.objs.size:=hl.elim λo q=>gQ (ki q.1)
theorem zE{l:aq}{vs:Array ag}(hl:s.heap.IsList l vs):∀b∈[s.heap.objs.size,l],b<(s.heap.push (vC l)).objs.size:=by
 intro b hb;rw[Ck];rcases cp.mp hb with rfl|hb
 ·exact bu _
 ·rw[cJ.mp hb];exact hl.elim λo q=>eL (ki q.1)
theorem zG{l:aq}{vs:Array ag}(hl:s.heap.IsList l vs):(s.heap.push (vC l)).IsListIter s.heap.objs.size l 0/\(s.heap.push (vC l)).IsList l vs:=
 ⟨⟨_,kb _ rfl,rfl,rfl⟩,hl.elim λo q=>⟨o,ph _ q.1,q.2⟩⟩
theorem yq{l:aq}{h':Heap}(hk:∀b o,b ∉ [s.heap.objs.size]->(s.heap.push (vC l)).get? b=some o->h'.get? b=some o):bI s.heap h':=
 λb o e=>hk b o (λq=>gQ (ki e) (cJ.mp q)) (ph _ e)
theorem Oz{l:aq}{vs:List ag}{ns:List Int}{Q:ag->aB->Prop}(hh:A.handled=none)(hl:s.heap.IsList l vs.toArray)(hi:IntsAre vs ns)
  (h:∀s' t,bI s.heap s'.heap->s'.gens=s.gens->s'.os=s.os->Q (.int (cj ns) t) s'):wpAny Md A (call (.builtin "sum") [.ref l]) Q aw s:=by
 refine call_sum_walkAnyS (xX hl ?_);refine⟨s.heap.objs.size,_,_,_,_,_,_,λi=>ns.getD i 0,rfl,(C1 (A:=A.in1) hh s.heap.objs.size l (zF hl) vs.toArray).toS,zG hl,zE hl,sM hi,λs' t' hm=>?_⟩;rw[show vs.toArray.size=ns.length from dT.trans hi.length];exact h s' t' (yq hm.heap) hm.gens hm.os
theorem Dy{l:aq}{vs:List ag}{ns:List Int}(hh:A.handled=none)(hl:s.heap.IsList l vs.toArray)(hi:IntsAre vs ns)(hne:ns≠[]) :
  (∀Q:ag->aB->Prop,(∀h' tk t,bI s.heap h'->Q (.int (lL (λa b=>decide (a > b)) ns) t) { s with heap:=h',toks:=tk })->wpAny Md A (call (.builtin "max") [.ref l]) Q aw s) /\
  ∀Q:ag->aB->Prop,(∀h' tk t,bI s.heap h'->Q (.int (lL (λa b=>decide (a<b)) ns) t) { s with heap:=h',toks:=tk })->wpAny Md A (call (.builtin "min") [.ref l]) Q aw s:=by
 have hsz:vs.toArray.size=ns.length:=dT.trans hi.length;have hpos:0<vs.toArray.size:=hsz▸mw.mpr hne;refine⟨λQ h=>call_max_walk (xX hl ?_),λQ h=>call_min_walk (xX hl ?_)⟩
 ·refine⟨s.heap.objs.size,_,_,_,_,_,_,rfl,C1 (A:=A.in1) hh s.heap.objs.size l (zF hl) vs.toArray,zG hl,zE hl,hpos,CmpOf.ints_gt (λi=>ns.getD i 0) (sM hi),λv h' tk hv hk=>?_⟩;refine bA (sM hi _ v hv) λt ht=>?_;rw[ht,hsz];exact h h' tk t (yq hk)
 ·refine⟨s.heap.objs.size,_,_,_,_,_,_,rfl,C1 (A:=A.in1) hh s.heap.objs.size l (zF hl) vs.toArray,zG hl,zE hl,hpos,CmpOf.ints_lt (λi=>ns.getD i 0) (sM hi),λv h' tk hv hk=>?_⟩;refine bA (sM hi _ v hv) λt ht=>?_;rw[ht,hsz];exact h h' tk t (yq hk)
theorem Pn{b:Array UInt8}{t:Tok}{Q:ag->aB->Prop}(h:Q (.bool true) s):wpAny Md A (call (.builtin "isinstance") [.bytes b t,.type "bytes"]) Q aw s:=
 Ce (isinstance_true Jw Jx) ⟨rq s b t,h⟩
theorem Po{b:Array UInt8}{t:Tok}{Q:ag->aB->Prop}(h:Q (.bool false) { s with toks:=s.toks+1 }):wpAny Md A (call (.builtin "isinstance") [.bytes b t,.type "str"]) Q aw s:=
 Ce (S:=λ_ R s=>R (.ok (.ret (.bool false))) { s with toks:=s.toks+1 }) (λ_ _ _ _ s hs=>by
  obtain⟨h,g,d,t,os⟩:=s;exact isinstance_outer (Jc (by decide) JP JV hs)) h
theorem NR{b:Array UInt8}{t:Tok}{tp:aq}{Q:ag->aB->Prop}(ht:s.heap.get? tp=some { cls:=.type "tuple",data:=.seq [.type "bytes",.type "str"].toArray })(h:∀tk,Q (.bool true) { s with toks:=tk }):wpAny Md A (call (.builtin "isinstance") [.bytes b t,.ref tp]) Q aw s:=
 Ce (isinstance_tuple (Tx:="bytes") (cs:=[.type "bytes",.type "str"]) (vs:=[true,false])
  ⟨Answers.of_true Jw Jx,λ_ _ _ _ _ _ s hs=>by
   obtain⟨h,g,d,t,os⟩:=s;exact Jc (by decide) JP JV (hs.2 (t+1)),trivial⟩) ⟨rq s b t,ht,h⟩
theorem PE.keep{Q:QV}{s':aB}{v:V}{y:ag}(G:aE B Z s.heap)(k:bI s.heap s'.heap)(hg:s'.gens=s.gens)(ho:s'.os=s.os)(r:VR (Fz Z B) s'.heap v y)(q:Q v Z):PE B Z s Q y s':=⟨v,Z,.keeps G k hg ho,r,q⟩
theorem PE.intK{Q:QV}{i:Int}{t:Tok}{tk:Nat}(G:aE B Z s.heap)(k:bI s.heap h')(q:Q (.int i) Z):PE B Z s Q (.int i t) { s with heap:=h',toks:=tk }:=PE.keep (v:=.int i) G k rfl rfl ⟨t,rfl⟩ q
theorem Uh(G:aE B Z s.heap){v r:V}{x:ag}{Q:QV}(rv:VR (Fz Z B) s.heap v x)(e:wQ Z v=some r)(q:Q r Z):wpAny Md A (call (.builtin "len") [x]) (PE B Z s Q) aw s:=by
 have hlt:∀n:Nat,n<=aJ->((n:Nat):Int)<2 ^ 63:=λn h=>dN.mpr (bC h (by decide));have main:((lR Z v).map λl=>V.int l.length)=some r->wpAny Md A (call (.builtin "len") [x]) (PE B Z s Q) aw s:=λe=>by
  obtain⟨l,e1,rfl⟩:=cN e;rcases yn e1 with rfl|e
  ·obtain⟨a,vs,rfl,_,hi,hz,rs⟩:=rv;refine X1 hi (by rw[dT,rs.length];exact hlt _ hz) ?_;rw[dT,rs.length];exact PE.int G q
  ·obtain⟨a,vs,rfl,hi,hz,rs⟩:=sd G rv e;refine X8 hi.isList (by rw[dT,rs.length];exact hlt _ hz) ?_;rw[dT,rs.length];exact PE.int G q
 cases v<;>first|exact main e|skip
 injection e with e;subst e
 obtain⟨t,rfl,hz⟩:=rv;refine PySem.W.len_bytes (by rw[dT];exact ai hz (by decide)) ?_;rw[dT];exact PE.int G q
theorem O7{f:Int->Int->Bool}{v r:V}(e:qH f v=some r):∃l ns,v=.list l/\eN l=some ns/\ns≠[]/\r=.int (lL f ns):=by
 refine ar (a8 e) λl el e=>?_;refine ar (a8 e) λns en e=>?_;cases ns with
 |nil=>exact nn e
 |cons n ns=>exact⟨l,_,lj el,en,(λz=>nc z),(dy e).symm⟩
theorem Su{vs:List V}{xs:List ag}{r:V}{f:V->Option V}(rs:aN fz h vs xs)(e:(one vs).bind f=some r):∃v x,f v=some r/\xs=[x]/\VR fz h v x:=by
 refine ar (a8 e) λv e1 e=>?_;refine ar (sU e1 rs) λx e2 rv=>?_;exact⟨v,x,e,e2,rv⟩
theorem Tb{vs:List V}{xs:List ag}{r:V}{f:Int->Int->Int}(rs:aN fz h vs xs)(e:wJ f vs=some r):∃i j t u,r=.int (f i j)/\xs=[.int i t,.int j u]:=by
 refine ar (a8 e) λp e1 e=>?_;refine cG (wc e1 rs) λx y ex ra rb=>?_;refine XI (EH e) λi j k e2 e3 ek e4=>?_;rw[e2]at ra;rw[e3]at rb;refine bA ra λt ht=>?_;refine bA rb λu hu=>?_;exact⟨i,j,t,u,by rw[e4,<-dy ek],by rw[ex,ht,hu]⟩
theorem Pl{v r:V}(e:AV v=some r):(∃b,v=.bool b/\r=.int (if b then 1 else 0))\/∃i,v=.int i/\r=.int i:=by
 cases v<;>first
  |exact nn e
  |exact .inl ⟨_,rfl,(dy e).symm⟩
  |exact .inr ⟨_,rfl,(dy e).symm⟩
section
variable{v r:V}{x:ag}{Q:QV}{vs:List V}{xs:List ag}
theorem Tu(G:aE B Z s.heap)(rv:VR (Fz Z B) s.heap v x)(e:AV v=some r)(q:Q r Z):wpAny Md A (call (.type "int") [x]) (PE B Z s Q) aw s:=by
 rcases Pl e with⟨b,e1,e2⟩|⟨i,e1,e2⟩
 ·rw[e1]at rv;rw[e2]at q;subst rv;exact call_int_bool (PE.int G q)
 ·rw[e1]at rv;rw[e2]at q;refine bA rv λt ht=>?_;rw[ht];exact call_int_int (PE.same (v:=.int _) G ⟨t,rfl⟩ q)
theorem GR(G:aE B Z s.heap)(hh:A.handled=none){f:Int->Int->Bool}{w:ag}(hw:∀{l:aq} {ws:List ag} {ns:List Int},s.heap.IsList l ws.toArray->IntsAre ws ns->ns≠[]->∀Q:ag->aB->Prop,(∀h' tk t,bI s.heap h'->Q (.int (lL f ns) t) { s with heap:=h',toks:=tk })->wpAny Md A (call w [.ref l]) Q aw s)
  (rv:VR (Fz Z B) s.heap v x) (e:qH f v=some r) (q:Q r Z):wpAny Md A (call w [x]) (PE B Z s Q) aw s:=by
 refine xq (O7 e) λl ns ev en hne er=>?_;rw[ev]at rv;rw[er]at q;refine o7 rv λa ws ex _ hl hz rl=>?_;rw[ex];exact hw hl.isList (p8 rl en).1 hne _ λh' tk t hk=>PE.intK G hk q
theorem Tv(G:aE B Z s.heap)(hh:A.handled=none)(rv:VR (Fz Z B) s.heap v x)(e:((qz Z v).bind λl=>(eN l).map λxs=>V.int (cj xs))=some r)(q:Q r Z):wpAny Md A (call (.builtin "sum") [x]) (PE B Z s Q) aw s:=by
 refine ar (a8 e) λl el e=>?_;refine ar (cN e) λns en er=>?_;rw[<-er]at q;refine xq (sd G rv el) λa ws ex hl hz rl=>?_;rw[ex];exact Oz hh hl.isList (p8 rl en).1 λs' t hk hg ho=>PE.keep (v:=.int _) G hk hg ho ⟨t,rfl⟩ q
theorem Tt(G:aE B Z s.heap)(hh:A.handled=none)(rv:VR (Fz Z B) s.heap v x)(e:((jZ v).bind λl=>(eN l).bind λxs=>(vf xs).map V.bytes)=some r)(q:Q r Z):wpAny Md A (call (.type "bytes") [x]) (PE B Z s Q) aw s:=by
 refine ar (a8 e) λl el e=>?_;refine ar (a8 e) λns en e=>?_;refine ar (cN e) λbs hbs er=>?_;rw[lj el]at rv;rw[<-er]at q;refine o7 rv λa ws ex _ hl hz rl=>?_;rw[ex];have hb:=Mk hbs;rw[hb.1]at q;have hi:=p8 rl en;exact call_bytes_ints hl.isList hi.1 hb.2 (by rw[rl.length];exact gb hz) hh λh' t k hk=>PE.keep (v:=.bytes _) G hk rfl rfl ⟨t,rfl,by rw[aY,hi.2];exact hz⟩ q
theorem GU(G:aE B Z s.heap){c:Int->Int->Bool}{w:ag}(hw:∀{i j:Int} {t u:Tok} {Q:ag->aB->Prop},(∀h' tk,bI s.heap h'->Q (if c i j then .int j u else .int i t) { s with heap:=h',toks:=tk })->wpAny Md A (call w [.int i t,.int j u]) Q aw s)
  (rs:aN (Fz Z B) s.heap vs xs) (e:wJ (λa b=>if c a b then b else a) vs=some r) (q:Q r Z):wpAny Md A (call w xs) (PE B Z s Q) aw s:=by
 refine I8 (Tb rs e) λi j t u er ex=>?_;rw[er]at q;rw[ex];refine hw λh' tk hk=>?_;by_cases hc:c i j=true
 ·rw[if_pos hc]at q ⊢;exact PE.intK G hk q
 ·rw[if_neg hc]at q ⊢;exact PE.intK G hk q
end
theorem FZ{p:Prop}[Decidable p]{x y:Int}:(if decide p=true then x else y)=if p then x else y:=by
 by_cases h:p
 ·rw[if_pos h,if_pos (decide_eq_true h)]
 ·rw[if_neg h,decide_eq_false h];rfl
theorem Vk{b:BI}{vs:List V}{xs:List ag}{r:V}{Q:QV}(R:eC A 0)(G:aE B Z s.heap)(rs:aN (Fz Z B) s.heap vs xs)(hb:wm b=false)(e0:oU Z b vs=some r)(q:Q r Z) :
  wpAny Md A (call (s6 b) xs) (PE B Z s Q) aw s:=by
 have hh:=R.hd;have one':∀{f:V->Option V}{w:ag},(one vs).bind f=some r->(∀v x,f v=some r->VR (Fz Z B) s.heap v x->wpAny Md A (call w [x]) (PE B Z s Q) aw s)->wpAny Md A (call w xs) (PE B Z s Q) aw s:=λe k=>by
  refine cG (Su rs e) λv x e ex rv=>?_;rw[ex];exact k v x e rv
 cases b with
 |len=>exact one' e0 λv x e rv=>Uh G rv e q
 |isB=>exact nb hb
 |isS=>exact nb hb
 |isBS=>exact nb hb
 |int=>exact one' e0 λv x e rv=>Tu G rv e q
 |max=>exact GU G (c:=λa b=>decide (a<b)) (λk=>max_two_ints hh λh' tk hk=>by have:=k h' tk hk;simpa using this) rs (by rw[show(λa b:Int=>if decide (a<b)=true then b else a)=λa b=>if a<b then b else a from funext λ_=>funext λ_=>FZ];exact e0) q
 |min=>exact GU G (c:=λa b=>decide (b<a)) (λk=>min_two_ints hh λh' tk hk=>by have:=k h' tk hk;simpa using this) rs (by rw[show(λa b:Int=>if decide (b<a)=true then b else a)=λa b=>if b<a then b else a from funext λ_=>funext λ_=>FZ];exact e0) q
 |max1=>exact one' e0 λv x e rv=>GR G hh (λhl hi hn=>(Dy hh hl hi hn).1) rv e q
 |min1=>exact one' e0 λv x e rv=>GR G hh (λhl hi hn=>(Dy hh hl hi hn).2) rv e q
 |sum=>exact one' e0 λv x e rv=>Tv G hh rv e q
 |bytes=>exact one' e0 λv x e rv=>Tt G hh rv e q
end
end
section
set_option maxRecDepth 10000
open PySem PySem.W PyProof.Rows PySem.SeqAt
theorem Nw(i:Int)(t:Tok):JY (some (.int i t))=pure (some i):=by
 unfold JY;show(specialOf (.int i t) "__index__" >>= _) = _;rw[show specialOf (.int i t) "__index__"=pure (some (.builtin "int.__index__")) from by show typeLookup (.type "int") "__index__" = _;rw[rI,rf];kernel_rfl];rfl
noncomputable def tM(n:Nat)(i:Int)(k:Nat):Option (Nat×Nat):=if (ue n (some i) none).2-(ue n (some i) none).1<k then none else some ((ue n (some i) none).1.toNat,(ue n (some i) none).2.toNat)
theorem MS(b c:Array UInt8)(t u:Tok)(i:Int)(v:Tok) :
  Gives (Builtin.«bytes.find» ⟨[.bytes b t,.bytes c u,.int i v],[]⟩)
   (.int (match (tM b.size i c.size).bind λp=>rt b c p.1 p.2 with|some i=>(i:Int)|none=>-1)):=by
 unfold Builtin.«bytes.find» X4;refine .of_wp λM A E s Q h=>?_;refine aG ?_;unfold XX;refine aG (f9 (a:=(.bytes b t,[.bytes c u,.int i v])) rfl ?_);refine aG (f9 (a:=some i) (Nw i v) ?_);refine aG (f9 (a:=none) rfl ?_);refine aG (f9 (a:=some c) Cr ?_);refine aG (a9 ?_);refine aG (f9 (a:=b) rfl ?_);refine a9 ?_
 dsimp only [Bool.false_eq_true,if_false]
 show wpAny M A (match (tM b.size i c.size).bind λp=>rt b c p.1 p.2 with
   |some i=>retInt i
   |none=>_) _ E s
 cases hf:(tM b.size i c.size).bind λp=>rt b c p.1 p.2 with
 |some k=>rw[hf]at h;exact aG (rO (a9 ⟨_,rfl,h⟩))
 |none=>rw[hf]at h;exact aG (pR (aG (rO (a9 ⟨_,rfl,h⟩))))
noncomputable def oz(left:Bool)(p:UInt8->Bool)(b:List UInt8):List UInt8:=((match left with
 |true=>b.dropWhile p
 |false=>b).reverse.dropWhile p).reverse
theorem uI(left:Bool)(p:UInt8->Bool)(b:List UInt8):(oz left p b).Sublist b:=by
 have h1:∀l:List UInt8,((l.reverse.dropWhile p).reverse).Sublist l:=λl=>by
  have:=(JA p (l:=l.reverse)).reverse;rw[List.reverse_reverse]at this;exact this
 cases left with
 |true=>exact(h1 _).trans (JA p)
 |false=>exact h1 b
section
variable{M:Model}{A:bD}{E:ag->aB->Prop}{s:aB}
theorem DS{Q:ag->aB->Prop}{l:Array UInt8}(hz:l.size<=sizeLine)(h:∀u,Q (.bytes l u) { s with toks:=s.toks+1 }):wpAny M A (Jt.new l) Q E s:=by
 show wpAny M A (mkBytes l) _ E s;unfold mkBytes;rw[if_neg (bc.mpr hz)];exact aG (wpAny_fresh (a9 (h _)))
theorem Ea{Q:ag->aB->Prop}{left:Bool}{p:UInt8->Bool}{b:Array UInt8}{t:Tok}{t1:Sem Fin}(hz:b.size<=sizeLine)(h1:Q (.bytes b t) s->wpAny M A t1 (λfin s'=>∃v,fin=.done (.ret v)/\Q v s') E s)
  (h:∀u tk,Q (.bytes (oz left p b.toList).toArray u) { s with toks:=tk }) :
  wpAny M A (if ((oz left p b.toList).length==b.size)=true then t1 else Jt.new (oz left p b.toList).toArray >>= λv=>ret v) (λfin s'=>∃v,fin=.done (.ret v)/\Q v s') E s:=by
 by_cases hl:((oz left p b.toList).length==b.size)=true
 ·rw[if_pos hl];refine h1 ?_;have:=h t s.toks;rw[(uI left p b.toList).eq_of_length ((eq_of_beq hl).trans xI.symm),JW]at this;exact this
 ·rw[if_neg hl];exact aG (DS (by rw[dT];exact ai (uI left p b.toList).length_le (by rw[xI];exact hz)) λu=>a9 ⟨_,rfl,h _ _⟩)
theorem Le{Q:Option (Array UInt8×Option ag)->aB->Prop}{id:String}{b:Array UInt8}{t:Tok}(h:Q (some (b,none)) s):wpAny M A (Jb id (.bytes b t) 0) Q E s:=by
 have e1:Jk id (.bytes b t) 0=pure (some (b,none)):=by
  unfold Jk;rw[KBy.special_eq KBy.look_buffer,KBy.own_buffer,show((0:Int)==XS)=false from by decide,Cr];kernel_rfl
 unfold Jb;exact aG (wpAny_attempt (f9 e1 (a9 h)))
theorem RZ{keep:List ag}{Q:Unit->aB->Prop}:∀{ws:List (ag×Option ag)},(∀x∈ws,x.1.onHeap=false/\x.2=none)->Q () s->wpAny M A (XZ ws keep) Q E s:=by
 intro ws;induction ws with
 |nil=>exact λ_ h=>a9 h
 |cons x r ih=>
  intro hw h;obtain⟨y,u⟩:=x;cases (hw (y,u) (.head _)).2
  show wpAny M A (letGo [y] _ >>= _) Q E s;exact aG (wpAny_letGo (ih (λx hx=>hw x (.tail _ hx)) h))
theorem NW{vs:List ag}{bs:List (List UInt8)}{Q:Fin->aB->Prop}(hlen:vs.length=bs.length)(hb:∀(i:Nat) (b:List UInt8),bs[i]?=some b->∃t,vs[i]?=some (CQ b.toArray t))
  {f:Nat->(Array (Array UInt8)×List (ag×Option ag))->Sem (ForInStep (Array (Array UInt8)×List (ag×Option ag)))} {k:Array (Array UInt8)×List (ag×Option ag)->Sem Fin}
  (turn:∀i(b:List UInt8)(t:Tok)p,vs[i]?=some (.bytes b.toArray t)->(∀x∈p.2,x.1.onHeap=false/\x.2=none)->∀P:ForInStep (Array (Array UInt8)×List (ag×Option ag))->aB->Prop,P (.yield (p.1.push b.toArray,p.2++[(.bytes b.toArray t,none)])) s->wpAny M A (f i p) P E s)
  (h:∀p,p.1.toList=bs.map (·.toArray)->(∀x∈p.2,x.1.onHeap=false/\x.2=none)->wpAny M A (k p) Q E s) :
  wpAny M A (forIn [:vs.toArray.size] (#[],[]) f >>= k) Q E s:=by
 refine aG ?_;rw[XN];refine KZ _ (λrest p s'=>s'=s/\∃i,i+rest.length=bs.length/\rest=uA i rest.length/\p.1.toList=(bs.take i).map (·.toArray)/\∀x∈p.2,x.1.onHeap=false/\x.2=none) _ ?_ ?_ _ _ ⟨rfl,0,?_,?_,rfl,λx hx=>nm hx⟩
 ·rintro i rest p s' ⟨rfl,j,hj,hr,hp,ha⟩
  rw[nG,List.range'_succ]at hr;obtain⟨rfl,e2⟩:=mz hr;have hlt:i<bs.length:=hj▸hE (fh _);have hbi:bs[i]?=some bs[i]:=bL hlt;refine bA (hb i _ hbi) λt ht=>?_;refine turn i bs[i] t p ht ha _ ⟨rfl,i+1,(cH _ _).trans hj,e2,?_,λx hx=>(gw.mp hx).elim (ha x) λhx=>?_⟩
  ·rw[Array.toList_push,hp,xT,hbi,dw];rfl
  ·rw[cJ.mp hx];exact⟨rfl,rfl⟩
 ·rintro p s' ⟨rfl,j,hj,hr,hp,ha⟩
  exact h p (by rw[hp,show j=bs.length from hj,nH]) ha
 ·rw[BL,aU,<-hlen];simp[Yb]
 ·rw[BL]
end
theorem CJ(parts:List (Array UInt8)):(xF #[] parts).toList=(parts.map (·.toList)).flatten:=by
 have key:∀(l:List (Array UInt8×Nat))(acc:Array UInt8),(l.foldl (λout(x:Array UInt8×Nat)=>(if x.2 > 0 then out++#[] else out)++x.1) acc).toList=acc.toList++((l.map (·.1)).map (·.toList)).flatten:=by
  intro l;induction l with
  |nil=>intro acc;exact(gO _).symm
  |cons x r ih=>intro acc;rw[x5,ih,Array.append_empty,ite_self,Array.toList_append,eT];rfl
 exact(key parts.zipIdx #[]).trans (by rw[List.zipIdx_map_fst];rfl)
theorem OA:∀(l:List (Array UInt8))(z:Nat),l.foldl (λ(x:Nat)(y:Array UInt8)=>x+y.size) z=z+((l.map (·.toList)).flatten).length:=λrr=>li (λz=>rfl)
 (λx r ih z=>by rw[x5,ih,gx,List.flatten_cons,bB,cq];rfl) rr
theorem M1(t:Tok)(l:aq)(vs:List ag)(bs:List (List UInt8))(hlen:vs.length=bs.length)(hb:∀(i:Nat) (b:List UInt8),bs[i]?=some b->∃t,vs[i]?=some (CQ b.toArray t))(hz:bs.flatten.length<=sizeLine) :
  Meets (Builtin.«bytes.join» ⟨[.bytes #[] t,.ref l],[]⟩) (λ_ R s=>s.heap.IsList l vs.toArray/\∀u tk,R (.ok (.ret (.bytes bs.flatten.toArray u))) { s with toks:=tk }):=
 .of_wp λcy w A R s h=>by
  obtain⟨hl,h⟩:=h;have hT:=hl.typeIs;obtain⟨o,ho,hc,n,hd⟩:=hl;unfold Builtin.«bytes.join» Yg;refine aG (f9 (a:=(.bytes #[] t,.ref l)) rfl ?_);refine aG ?_;show wpAny _ _ (Jv (.ref l)) _ _ s;unfold Jv;refine aG (wpAny_typeOf hT (a9 ?_));refine aG (uu ho hd ?_)
  dsimp only
  rw[if_pos (by decide)];by_cases h1:vs.toArray.size=1
  ·obtain⟨x,rfl⟩:∃x,vs=[x]:=Bv.mp h1;show wpAny _ _ (typeOf _ >>= _) _ _ s;obtain⟨b,rfl⟩:∃b,bs=[b]:=Bv.mp hlen.symm;obtain⟨t',ht⟩:=hb 0 b rfl;injection ht with ht;subst ht
   refine aG (f9 (a:=.type "bytes") rfl ?_);rw[if_pos (by decide)];have:=h t' s.toks;rw[List.flatten_singleton]at this;exact aG (pR (a9 ⟨_,rfl,this⟩))
  ·unfold XO;rw[dif_neg h1];show wpAny _ _ (forIn [:_] _ _ >>= _) _ _ s;refine NW hlen hb (λi b t' p hv ha P hP=>?_) λp hp ha=>?_
   ·refine aG (uu ho hd ?_);have hget:vs.toArray.getD i .none=.bytes b.toArray t':=by rw[Array.getD_eq_getD_getElem?,ub,hv];rfl
    dsimp only
    rw[Ky.mpr λx hx=>by rw[(ha x hx).1];exact kU,hget,if_neg (by decide)];refine aG (ic (Le (aG (uu ho hd ?_))))
    dsimp only
    rw[if_neg (by rw[bne_self_eq_false];exact kU)];exact a9 hP
   ·refine aG (f9 (a:=#[]) rfl ?_);have htot:(xF #[] p.1.toList).toList=bs.flatten:=by rw[CJ,hp,ig];exact congrArg List.flatten (List.map_id bs)
    have hjz:(xF #[] p.1.toList).size<=sizeLine:=by rw[<-xI,htot];exact hz
    rw[if_neg (by rw[<-Array.foldl_toList,OA,<-CJ,xI,show(#[]:Array UInt8).size*(p.1.size-1)=0 from Nat.zero_mul _,aU,KBy.tooLong_not (by rw[CX]at hjz;exact hjz)];exact kU)];refine aG (DS hjz λu=>?_);refine aG (ic (wpAny_point (aG (RZ ha (a9 ⟨_,rfl,?_⟩)))));rw[show xF #[] p.1.toList=bs.flatten.toArray from ME htot];exact h _ _
theorem L9(b:Array UInt8)(t:Tok)(hz:b.size<=sizeLine):Meets (Builtin.«bytes.rstrip» ⟨[.bytes b t],[]⟩) (λ_ R s=>∀u tk,R (.ok (.ret (.bytes (oz false JG b.toList).toArray u))) { s with toks:=tk }):=
 .of_wp λcy w A R s h=>by
  unfold Builtin.«bytes.rstrip» JZ;refine aG (f9 (a:=(.bytes b t,[])) rfl ?_);refine aG (a9 ?_);refine aG (f9 (a:=b) rfl ?_);exact Ea (left:=false) (p:=JG) (Q:=λv s'=>R (.ok (.ret v)) s') hz (λe=>aG (pR (aG (f9 (a:=.bytes b t) rfl (a9 ⟨_,rfl,e⟩))))) h
theorem Mw(b c:Array UInt8)(t v:Tok)(hz:b.size<=sizeLine):Meets (Builtin.«bytes.strip» ⟨[.bytes b t,.bytes c v],[]⟩) (λ_ R s=>∀u tk,R (.ok (.ret (.bytes (oz true c.contains b.toList).toArray u))) { s with toks:=tk }):=
 .of_wp λcy w A R s h=>by
  unfold Builtin.«bytes.strip» JZ;refine aG (f9 (a:=(.bytes b t,[.bytes c v])) rfl ?_);refine aG ?_;unfold XY;refine aG (f9 (a:=some c) Cr ?_);refine a9 (aG (a9 ?_));refine aG (f9 (a:=b) rfl ?_);exact Ea (left:=true) (p:=c.contains) (Q:=λv s'=>R (.ok (.ret v)) s') hz (λe=>aG (pR (aG (f9 (a:=.bytes b t) rfl (a9 ⟨_,rfl,e⟩))))) h
end
section
set_option maxRecDepth 100000
open PySem PySem.W PyProof.Rows PySem.SeqAt
theorem Cf:Slot "bytes" "find" "bytes.find":=
 .of (owner:="bytes") (n:="find") (by rw[rI,rf];kernel_rfl) (by decide +kernel) (by decide +kernel) (by decide +kernel)
  (by first|exact .inl (by decide +kernel)|exact .inr (by decide +kernel)) (by rw[pC];kernel_rfl)
theorem BS:Slot "bytes" "isalpha" "bytes.isalpha":=
 .of (owner:="bytes") (n:="isalpha") (by rw[rI,rf];kernel_rfl) (by decide +kernel) (by decide +kernel) (by decide +kernel)
  (by first|exact .inl (by decide +kernel)|exact .inr (by decide +kernel)) (by rw[pC];kernel_rfl)
theorem B1:Slot "bytes" "rstrip" "bytes.rstrip":=
 .of (owner:="bytes") (n:="rstrip") (by rw[rI,rf];kernel_rfl) (by decide +kernel) (by decide +kernel) (by decide +kernel)
  (by first|exact .inl (by decide +kernel)|exact .inr (by decide +kernel)) (by rw[pC];kernel_rfl)
theorem B9:Slot "bytes" "strip" "bytes.strip":=
 .of (owner:="bytes") (n:="strip") (by rw[rI,rf];kernel_rfl) (by decide +kernel) (by decide +kernel) (by decide +kernel)
  (by first|exact .inl (by decide +kernel)|exact .inr (by decide +kernel)) (by rw[pC];kernel_rfl)
theorem Ci:Slot "bytes" "join" "bytes.join":=
 .of (owner:="bytes") (n:="join") (by rw[rI,rf];kernel_rfl) (by decide +kernel) (by decide +kernel) (by decide +kernel)
  (by first|exact .inl (by decide +kernel)|exact .inr (by decide +kernel)) (by rw[pC];kernel_rfl)
theorem Pc(x:UInt8):∀(l pre:List UInt8),(((jM l.length).map (·+pre.length)).find? λj=>(pre++l).toArray.extract j (j+1)==#[x])=(lN x l).map (·+pre.length):=by
 intro l;induction l with
 |nil=>intro pre;rfl
 |cons b r ih=>
  intro pre;have ih:=ih (pre++[b]);have e0:(pre++b::r).toArray.extract (0+pre.length) (0+pre.length+1)=#[b]:=by
   rw[<-Array.toList_inj,aU,Array.toList_extract,List.extract_eq_take_drop,cC];show((pre++b::r).drop pre.length).take 1=[b]
   rw[Cm];rfl
  rw[nG,JB,gx,rF,lN,e0];by_cases hb:b=x
  ·rw[hb,beq_self_eq_true,if_pos rfl];rfl
  ·rw[if_neg hb,show((#[b]:Array UInt8)==#[x])=false from beq_eq_false_iff_ne.mpr λq=>hb (List.head_eq_of_cons_eq (congrArg Array.toList q))];rw[eT,List.singleton_append,bB,List.length_singleton]at ih;rw[ig,show((λx=>x+pre.length)∘Nat.succ:Nat->Nat)=(λx=>x+(pre.length+1)) from funext λz=>cH z _];show List.find? _ _ = _;rw[ih,Option.map_map];exact congrFun (congrArg rP (funext λz=>(cH z _).symm)) _
theorem RH(b:List UInt8)(x:UInt8)(i:Int)(h0:0<=i)(h1:i.toNat<=b.length) :
  ((tM b.toArray.size i ([x]:List UInt8).toArray.size).bind λp=>rt b.toArray ([x]:List UInt8).toArray p.1 p.2)=(lN x (b.drop i.toNat)).map (·+i.toNat):=by
 have hw:ue b.toArray.size (some i) none=(i,(b.length:Int)):=by
  show((if i<0 then max 0 (i+b.length) else i:Int),min (b.length:Int) (if (b.length:Int)<0 then max 0 ((b.length:Int)+b.length) else(b.length:Int))) = _;rw[if_neg (jL.mpr h0),if_neg (jL.mpr (eK _)),Int.min_self]
 unfold tM;rw[hw];by_cases hlt:i.toNat=b.length
 ·rw[if_pos (by show(b.length:Int)-i<1;exact au [_,_] [_] (.ti (.s .c1 .v0) .k1) 1 [(1,.ei .c0 .v0),(-1,.en .v0 .v1)] rfl (nE h0) hlt),hlt,kW];rfl
 ·rw[if_neg (by show ¬((b.length:Int)-i<1);exact jL.2 (au [_,_] [_] (.li .k1 (.s .c1 .v0)) 1 [(-1,.ei .c0 .v0),(1,.tn .v0 .v1)] rfl (nE h0) (hF h1 hlt)))];have hk:=Pc x (b.drop i.toNat) (b.take i.toNat);rw[Bz,eV,jg h1,hU]at hk;rw[<-hk];show rt b.toArray #[x] i.toNat b.length = _;unfold rt;rw[show b.length+1-(i.toNat+(#[x]:Array UInt8).size)=b.length-i.toNat from JO _ 1 _];rfl
noncomputable def A7(b:BM):String:=match b with
 |.append=>"list"
 |.pop=>"list"
 |.extend=>"list"
 |.reverse=>"list"
 |.get=>"dict"
 |.setdefault=>"dict"
 |_=>"bytes"
noncomputable def tE(b:BM):String:=match b with
 |.append=>"list.append"
 |.pop=>"list.pop"
 |.extend=>"list.extend"
 |.reverse=>"list.reverse"
 |.get=>"dict.get"
 |.setdefault=>"dict.setdefault"
 |.find=>"bytes.find"
 |.isalpha=>"bytes.isalpha"
 |.rstrip=>"bytes.rstrip"
 |.strip=>"bytes.strip"
 |.join=>"bytes.join"
theorem OU(b:BM):PlainAttrs (A7 b):=by
 cases b<;>first|exact PySem.F.plainAttrs_list|exact PySem.F.plainAttrs_dict|exact FB.plainAttrs_bytes
theorem Q8(b:BM):Slot (A7 b) (GV b) (tE b):=by
 cases b
 ·exact PySem.F.slot_list_append
 ·exact JT
 ·exact Ju
 ·exact Js
 ·exact JR
 ·exact Jd
 ·exact Cf
 ·exact BS
 ·exact B1
 ·exact B9
 ·exact Ci
theorem Q9(b:BM):typeOf (.builtin (tE b))=pure (.type "method_descriptor"):=by
 cases b<;>(show builtinType _ = _;rw[builtinType_eq_fast];kernel_rfl)
section
variable{fz fz':aq->Prop}{B:aq->Prop}{Z:ae}{h h':Heap}{s:aB}{A:bD}
theorem qc{v:V}{p:Nat×List V}(e:jF Z v=some p):v=.ref p.1/\Z p.1=some (.list p.2):=by
 refine ar (a8 e) λa e1 e=>?_;obtain⟨l,e2,rfl⟩:=cN e;exact⟨nY e1,rU e2⟩
theorem Qf{v:V}{p:Nat×Nat×(Int->Option V)}(e:AX Z v=some p):v=.ref p.1/\Z p.1=some (.dI p.2.1 p.2.2):=by
 refine ar (a8 e) λa e1 e=>?_;refine ar (a8 e) λm e2 e=>?_;cases m<;>first|((injection e with e;subst e);exact⟨nY e1,e2⟩)|exact nn e
theorem Fj{v:V}{c:UInt8}(e:A5 v=some c):v=.bytes [c]:=by
 refine ar (a8 e) λl e1 e=>?_;rw[gV e1];cases l with
 |nil=>exact nn e
 |cons b r=>cases r with
  |nil=>(injection e with e;subst e);rfl
  |cons=>exact nn e
theorem uW{l:List V}{u:Unit}(e:qO l=some u):l=[]:=by
 cases l with
 |nil=>rfl
 |cons=>exact nn e
def tA(s:aB)(x:ag)(T:String):Prop:=s.TypeIs x T/\∀a,x=.ref a->∃ob,s.heap.get? a=some ob/\ob.dict=none
theorem Oh(G:aE B Z s.heap){v:V}{x:ag}(r:VR (Fz Z B) s.heap v x)(e:(jF Z v).isSome=true):tA s x "list":=by
 refine bA (t7.mp e) λp e=>?_;obtain⟨rfl,ec⟩:=qc e;subst r;obtain⟨_,_,vs,⟨n,ho⟩,_⟩:=G.cells _ _ ec;exact⟨(X5 ⟨n,ho⟩).typeIs,λc q=>by(injection q with q;subst q);exact⟨_,ho,rfl⟩⟩
theorem M9{v:V}{x:ag}(r:VR fz s.heap v x)(e:(fV v).isSome=true):tA s x "bytes":=by
 refine bA (t7.mp e) λb e=>?_;obtain rfl:=gV e;obtain⟨t,rfl,hz⟩:=r;exact⟨rfl,λc q=>by cases q⟩
theorem Og(G:aE B Z s.heap){v:V}{x:ag}(r:VR (Fz Z B) s.heap v x){a:Nat}(ea:j4 v=some a)(e:mM Z a=true):tA s x "dict":=by
 obtain rfl:=nY ea;subst r;unfold mM at e;cases hm:Z a with
 |none=>rw[hm]at e;exact bn e
 |some m=>
  rw[hm]at e;refine g8 (G.cells _ _ hm) λ_ _ c=>?_;cases m<;>try (exact bn e;done)
  ·obtain⟨kvs,hD,_⟩:=c;exact⟨hD.typeIs,hD.mapOf.noDict⟩
  ·refine ar c λkvs hD _=>?_;refine⟨hD.typeIs,λc q=>?_⟩;injection q with q;subst q
   refine kQ hD λo es ep ho he _=>?_;exact⟨o,ho,he.2.1⟩
  ·obtain⟨kvs,hD,_⟩:=c;exact⟨hD.typeIs,hD.mapOf.noDict⟩
theorem Q7{v:V}{x:ag}{b:BM}(G:aE B Z s.heap)(r:VR (Fz Z B) s.heap v x)(e:tj Z v b=true):tA s x (A7 b):=by
 have dct:(match j4 v with|some a=>mM Z a|none=>false)=true->tA s x "dict":=λe=>by
  cases ea:j4 v with
  |none=>rw[ea]at e;exact bn e
  |some a=>rw[ea]at e;exact Og G r ea e
 cases b<;>first|exact Oh G r e|exact M9 r e|exact dct e
theorem Nx:∀{l:List V}{vs:List ag}{bs:List (List UInt8)},aN fz h l vs->pT l=some bs->vs.length=bs.length/\∀(i:Nat)(b:List UInt8),bs[i]?=some b->∃t,vs[i]?=some (CQ b.toArray t):=by
 intro l;induction l with
 |nil=>intro vs bs r e;(injection e with e;subst e);subst r;exact⟨rfl,λi b q=>nn q⟩
 |cons v l ih=>
  intro vs bs r e;refine ar (a8 e) λb eb e=>?_;obtain⟨m,em,rfl⟩:=cN e;obtain rfl:=gV eb;obtain⟨y,ys,rfl,⟨t,rfl,hz⟩,r⟩:=r;have q:=ih r em;refine⟨congrArg (·+1) q.1,λi c hc=>?_⟩;cases i with
  |zero=>(injection hc with hc;subst hc);exact⟨t,rfl⟩
  |succ i=>exact q.2 i c hc
theorem NI{b:List UInt8}{c:UInt8}{i:Int}{t u v:Tok}{Q:QV}(G:aE B Z s.heap)(h0:0<=i)(h1:i.toNat<=b.length)(q:Q (.int (vv i (lN c (b.drop i.toNat)))) Z) :
  wpAny Md A (call (.builtin "bytes.find") [.bytes b.toArray t,.bytes [c].toArray u,.int i v]) (PE B Z s Q) aw s:=by
 refine rQ Cf rfl (um (by kernel_rfl)) (by show argsOk "bytes.find" _;unfold argsOk;rw[ux (id:="bytes.find") (n:=['d','n','i','f']) (o:=['s','e','t','y','b']) (by kernel_rfl) uq];kernel_rfl) (MS _ _ _ _ _ _) ?_;rw[RH b c i h0 h1];cases hf:lN c (b.drop i.toNat) with
 |none=>rw[hf]at q;exact PE.int G q
 |some k=>
  rw[hf]at q;refine PE.int G (i:=((k+i.toNat:Nat):Int)) ?_;rw[hV,nE h0,nL];exact q
theorem Mh(b:Array UInt8)(t:Tok):Gives (Builtin.«bytes.isalpha» ⟨[.bytes b t],[]⟩) (.val (.bool (BG Bx b.toList))):=.of_eq rfl
theorem TA(H:bF cx){b:BM}{v r:V}{x:ag}{vs:List V}{xs:List ag}{Q:QV}(G:aE B Z s.heap)(rv:VR (Fz Z B) s.heap v x)(rs:aN (Fz Z B) s.heap vs xs)(e0:m6 Z v b vs=some r)(q:Q r Z) :
  wpAny Md A (call (.builtin (tE b)) (x::xs)) (PE B Z s Q) aw s:=by
 cases b<;>try (exact nn e0;done)
 ·refine ar (a8 e0) λp e1 e=>?_;obtain⟨y,z,rfl,ry,rz⟩:=wc e1 rs;exact Rm H G rv ry rz e q
 ·refine ar (a8 e0) λp e1 e=>?_;obtain⟨y,z,rfl,ry,rz⟩:=wc e1 rs;obtain⟨b,e2,e⟩:=a8 e;obtain⟨c,e3,e⟩:=a8 e;obtain⟨i,e4,e⟩:=a8 e;obtain⟨hi,rfl⟩:=iy e;obtain rfl:=gV e2;rw[Fj e3]at ry;rw[eX e4]at rz;obtain⟨t,rfl,_⟩:=rv;obtain⟨u,rfl,_⟩:=ry;obtain⟨v,rfl⟩:=rz;exact NI G hi.1 hi.2 q
 ·refine ar (a8 e0) λ_ e1 e=>?_;obtain⟨c,e2,rfl⟩:=cN e;cases uW e1
  obtain rfl:=Fj e2;subst rs;obtain⟨t,rfl,_⟩:=rv;refine rQ BS rfl (um (by kernel_rfl)) (by show argsOk "bytes.isalpha" _;unfold argsOk;rw[ux (id:="bytes.isalpha") (n:=['a','h','p','l','a','s','i']) (o:=['s','e','t','y','b']) (by kernel_rfl) uq];kernel_rfl) (Mh _ _) ?_;rw[show BG Bx [c]=jR c by simp[BG,Bx,jR,X3,X2]];exact PE.bool G q
 ·refine ar (a8 e0) λ_ e1 e=>?_;obtain⟨b,e2,rfl⟩:=cN e;cases uW e1
  obtain rfl:=gV e2;subst rs;obtain⟨t,rfl,hz⟩:=rv;refine nQ B1 rfl (um (by kernel_rfl)) (by show argsOk "bytes.rstrip" _;unfold argsOk;rw[ux (id:="bytes.rstrip") (n:=['p','i','r','t','s','r']) (o:=['s','e','t','y','b']) (by kernel_rfl) uq];kernel_rfl) (L9 b.toArray t (by rw[dT];exact gb hz)) λu tk=>?_;exact PE.bytes G (ai (uI false _ b).length_le hz) q
 ·refine ar (a8 e0) λc e1 e=>?_;obtain⟨y,rfl,ry⟩:=sU e1 rs;obtain⟨cs,e2,e⟩:=a8 e;obtain⟨b,e3,rfl⟩:=cN e;obtain rfl:=gV e2;obtain rfl:=gV e3;obtain⟨t,rfl,hz⟩:=rv;obtain⟨u,rfl,_⟩:=ry;refine nQ B9 rfl (um (by kernel_rfl)) (by show argsOk "bytes.strip" _;unfold argsOk;rw[ux (id:="bytes.strip") (n:=['p','i','r','t','s']) (o:=['s','e','t','y','b']) (by kernel_rfl) uq];kernel_rfl) (Mw b.toArray cs.toArray t _ (by rw[dT];exact gb hz)) λu tk=>?_;rw[show(cs.toArray.contains:UInt8->Bool)=cs.contains from funext λz=>List.contains_toArray];exact PE.bytes G (ai (uI true _ b).length_le hz) q
 ·refine ar (a8 e0) λl e1 e=>?_;obtain⟨y,rfl,ry⟩:=sU e1 rs;obtain⟨b,e2,e⟩:=a8 e;obtain⟨l,e3,e⟩:=a8 e;obtain⟨bs,e4,e5⟩:=a8 e;obtain rfl:=gV e2;cases b with
  |cons=>exact nn e5
  |nil=>
   obtain⟨hz,rfl⟩:=iy e5;rw[lj e3]at ry;obtain⟨t,rfl,_⟩:=rv;obtain⟨a,ws,rfl,_,hp,_,rs'⟩:=ry;have k:=Nx rs' e4;exact nQ Ci rfl (um (by kernel_rfl)) (by show argsOk "bytes.join" _;unfold argsOk;rw[ux (id:="bytes.join") (n:=['n','i','o','j']) (o:=['s','e','t','y','b']) (by kernel_rfl) uq];kernel_rfl) (M1 t a ws bs k.1 k.2 (gb hz)) ⟨hp.isList,λu tk=>PE.bytes G hz q⟩
theorem Vm(H:bF cx){b:BM}{v:V}{x:ag}{vs:List V}{xs:List ag}{Q:QV}(G:aE B Z s.heap)(rv:VR (Fz Z B) s.heap v x)(rs:aN (Fz Z B) s.heap vs xs)(e0:qV Z v b vs Q) :
  wpAny Md A (call (.builtin (tE b)) (x::xs)) (PE B Z s Q) aw s:=by
 have gen:(aK (m6 Z v b vs) λr=>Q r Z)->wpAny Md A (call (.builtin (tE b)) (x::xs)) (PE B Z s Q) aw s:=λe=>(bj e).elim λr e=>TA H G rv rs e.1 e.2;cases b<;>try exact gen e0
 ·refine ar (bj e0) λp e1 e=>?_;refine cm (bj e) λy e2 hz q=>?_;obtain⟨rfl,ec⟩:=qc e1;subst rv;obtain⟨y,rfl,ry⟩:=sU e2 rs;exact Nl G ec ry hz q
 ·refine ar (bj e0) λp e1 e=>?_;refine ar (bj e) λ_ e2 e=>?_;refine ar (bj e) λy e3 q=>?_;obtain⟨rfl,ec⟩:=qc e1;cases uW e2
  subst rv;subst rs;exact Uu G ec e3 q
 ·refine ar (bj e0) λp e1 e=>?_;refine ar (bj e) λy e2 e=>?_;refine cm (bj e) λl e3 hz q=>?_;obtain⟨rfl,ec⟩:=qc e1;subst rv;obtain⟨y,rfl,ry⟩:=sU e2 rs;rw[lj e3]at ry;exact NG G ec ry hz q
 ·refine ar (bj e0) λp e1 e=>?_;refine ar (bj e) λ_ e2 q=>?_;obtain⟨rfl,ec⟩:=qc e1;cases uW e2
  subst rv;subst rs;exact Na G ec q
 ·refine ar (bj e0) λp e1 e=>?_;refine ar (bj e) λy e2 e=>?_;refine cm (bj e) λk e3 hn q=>?_;obtain⟨rfl,ec⟩:=Qf e1;subst rv;obtain⟨y,z,rfl,ry,rz⟩:=wc e2 rs;rw[eX e3]at ry;exact LG H G ry rz ec hn q
end
end
section
open PySem PySem.W PyProof.Rows PySem.SeqAt PySem.Calls
theorem Of{α:Type}(l:List α)(i j:Nat):(l.drop (min i l.length)).take (min j l.length-min i l.length)=aH l i j:=by
 rw[<-kh,show l.take (min j l.length)=l.take j from List.take_eq_take_iff.mpr (by rw[Nat.min_assoc,CD])];rcases Nat.le_total i l.length with h|h
 ·rw[jg h];rfl
 ·have n:(l.take j).length<=l.length:=J3 ..;rw[Nat.min_eq_right h,xB n,aH,xB (ai n h)]
theorem zU{α:Type}(l:List α)(i j:Nat):(aH l i j).length<=l.length:=by
 unfold aH;rw[hU,eV];exact ai (ew _ _) (pA _ _)
section
variable{fz fz':aq->Prop}{B:aq->Prop}{Z:ae}{h h':Heap}{s s':aB}{A:bD}
theorem En{n d:Nat}{v:V}{x:ag}{m:Nat}(r:VR fz h v x)(e:e8 m v=some d)(hm:m=0\/m=n):∃lo,IsPart x lo/\lo.elim (min m n) (clipAt n)=min d n:=by
 cases v<;>try (exact nn e;done)
 ·(injection e with e;subst e);subst r;exact⟨none,.none,rfl⟩
 ·obtain⟨h0,rfl⟩:=iy e;obtain⟨t,rfl⟩:=r;refine⟨some _,.int _ _,?_⟩;rw[<-nE h0];exact clipAt_nat _ _
theorem Gk{α:Type}{l:List α}{va vb:V}{x y:ag}{i j:Nat}(ra:VR fz h va x)(rb:VR fz h vb y)(ea:e8 0 va=some i)(eb:e8 l.length vb=some j) :
  ∃lo hi,IsPart x lo/\IsPart y hi/\(l.drop (lo.elim 0 (clipAt l.length))).take (hi.elim l.length (clipAt l.length)-lo.elim 0 (clipAt l.length))=aH l i j:=by
 obtain⟨lo,p1,q1⟩:=En (n:=l.length) ra ea (.inl rfl);obtain⟨hi,p2,q2⟩:=En (n:=l.length) rb eb (.inr rfl);rw[Nat.zero_min]at q1;rw[CD]at q2;exact⟨lo,hi,p1,p2,by rw[q1,q2];exact Of l i j⟩
theorem PE.keeps{Q:QV}{y:ag}(G:aE B Z s.heap)(k:bI s.heap h')(p:PE B Z { s with heap:=h' } Q y s'):PE B Z s Q y s':=p.lift (s':={ s with heap:=h' }) (.keeps G k rfl rfl)
abbrev oG(x y z:ag):Obj:={ cls:=.type "slice",data:=.fields #[x,y,z] }
theorem Dj{l:aq}{vs ws:List ag}{x y z:ag}{lo hi st:Option Int}{ls:List V}{Q:QV}{value sl:Expr}{ops:List ag}(G:aE B Z s.heap)(hl:s.heap.IsList l vs.toArray)(pl:IsPart x lo)(pu:IsPart y hi)(ps:IsPart z st)(h0:st≠some 0)
  (hz:vs.length<=aJ) (hp:slicePick vs.toArray lo hi st=ws.toArray) (r:aN (Fz Z B) s.heap ls ws) (hz2:ls.length<=aJ) (q:Q (.list ls) Z) (hs:subscripted sl false (.ref l) (.ref s.heap.objs.size)=operate ops (getItem (.ref l) (.ref s.heap.objs.size))) :
  wpAny Md A (subscriptTail value sl (.ref l) (.ref s.heap.objs.size)) (PE B Z s Q) aw { s with heap:=s.heap.push (oG x y z) }:=by
 have k:bI s.heap (s.heap.push (oG x y z)):=bI.push _ _;have hl':(s.heap.push (oG x y z)).IsList l vs.toArray:=hl.elim λo q=>⟨o,k _ _ q.1,q.2⟩
 refine sq hl'.typeIs Jq.lookup (bT ?_ λ_ _ p=>PE.keeps G k p) hs;refine wpAny_getItem_list_slice hl' (Kk _ _ _ _) pl pu ps h0 ?_ (by rw[dT];exact gb hz);rw[hp];exact rT (n:=0) (tk:=s.toks) (G.keeps k) (r.mono k.kp) hz2 false q
set_option tactic.hygienic true in
theorem UX{v a b r:V}{o x y:ag}{Q:QV}{value:Expr}{lo up:Option Expr}{p:Pos}(G:aE B Z s.heap)(rv:VR (Fz Z B) s.heap v o)(ra:VR (Fz Z B) s.heap a x)(rb:VR (Fz Z B) s.heap b y)(e:oO Z v a b=some r)(q:Q r Z) :
  wpAny Md A (subscriptTail value (.Slice lo up none p) o (.ref s.heap.objs.size)) (PE B Z s Q) aw { s with heap:=s.heap.push (oG x y .none) }:=by
 have main:((qz Z v).bind λl=>(e8 0 a).bind λi=>(e8 l.length b).map λj=>V.list (aH l i j))=some r->wpAny Md A (subscriptTail value (.Slice lo up none p) o (.ref s.heap.objs.size)) (PE B Z s Q) aw { s with heap:=s.heap.push (oG x y .none) }:=λe=>by
  refine ar (a8 e) λl el e=>?_;refine ar (a8 e) λi ea e=>?_;obtain⟨j,eb,rfl⟩:=cN e;obtain⟨c,vs,rfl,hl,hz,rs⟩:=sd G rv el;have hlen:=rs.length;obtain⟨lo',hi',pl,pu,hp⟩:=Gk (l:=vs) ra rb ea (by rw[hlen];exact eb);refine Dj (ws:=aH vs i j) G hl.isList pl pu .none (λz=>nn z) (hlen▸hz) ?_ (rs.part i j) (ai (zU ..) hz) q rfl;rw[<-hp];exact slicePick_plain _ _ _
 cases v<;>first|exact main e|skip
 rename_i bs
 refine ar (a8 e) λi ea e=>?_;obtain⟨j,eb,rfl⟩:=cN e;obtain⟨t,rfl,hz⟩:=rv;obtain⟨lo',hi',pl,pu,hp⟩:=Gk (l:=bs) ra rb ea eb;have hpick:KBy.picked bs.toArray lo' hi'=(aH bs i j).toArray:=by rw[KBc.picked_eq,<-hp];rfl
 have k:bI s.heap (s.heap.push (oG x y .none)):=bI.push _ _;refine sq (T:="bytes") rfl JH.lookup (bT ?_ λ_ _ p=>PE.keeps G k p) rfl;refine getItem_meets (T:="bytes") rfl (by decide) JH FB.entry_bytes_getitem (FB.args_bytes_getitem_2 _ _) (KBc.meets_slice2 _ t _ pl pu) ⟨Kk _ _ _ _,?_,λu tk=>?_⟩
 ·rw[hpick,dT];exact gb (ai (zU ..) hz)
 ·rw[hpick];exact PE.bytes (G.keeps k) (ai (zU ..) hz) q
theorem Ux{l:List V}{o:ag}{tk1:Tok}{Q:QV}{value pe:Expr}{p:Pos}(G:aE B Z s.heap)(rv:VR (Fz Z B) s.heap (.list l) o)(q:Q (.list l.reverse) Z) :
  wpAny Md A (subscriptTail value (.Slice none none (some pe) p) o (.ref s.heap.objs.size)) (PE B Z s Q) aw { s with heap:=s.heap.push (oG .none .none (.int (-1) tk1)) }:=by
 obtain⟨c,vs,rfl,hf,hp,hz,rs⟩:=rv;exact Dj (ws:=vs.reverse) G hp.isList .none .none (.int _ _) (by decide) (rs.length▸hz) (krv_pick _) rs.reverse (by rw[mx];exact hz) q rfl
theorem T8(H:bF cx)(R:eC A 0)(G:aE B Z s.heap){v k r:V}{o y:ag}{Q:QV}{value sl:Expr}(rv:VR (Fz Z B) s.heap v o)(rk:VR (Fz Z B) s.heap k y)(hs:∀o i,subscripted sl false o i=operate [o,i] (getItem o i))(e:eP Z v k=some r)(q:Q r Z) :
  wpAny Md A (subscriptTail value sl o y) (PE B Z s Q) aw s:=by
 have hg:wpAny Md A (getItem o y) (PE B Z s Q) aw s:=Hg H R G rv rk e q;unfold eP at e;cases hq:lR Z v with
 |some l=>
  rcases yn hq with rfl|hq
  ·obtain⟨a,vs,rfl,_,ht,_⟩:=rv;exact sq (Yi ht) PySem.F.slot_tuple_getitem.lookup hg (hs _ _)
  ·obtain⟨a,vs,rfl,hl,_⟩:=sd G rv hq;exact sq hl.isList.typeIs Jq.lookup hg (hs _ _)
 |none=>
  rw[hq]at e;refine ar (a8 e) λd e1 e=>?_;refine ar (a8 e) λz e2 e=>?_;obtain rfl:=nY e1;subst rv;rcases(rS H G rk e2).1 with⟨K,knd,key,kvs,hk,hD,ho⟩|⟨a,key,xs,rfl,hk,hD,ho⟩
  ·exact sq hD.typeIs Jp.lookup hg (hs _ _)
  ·exact sq hD.typeIs Jp.lookup hg (hs _ _)
end
end
section
open PySem PySem.W PyProof.Rows PySem.SeqAt PySem.Calls
theorem R9{n:Nat}(h:n<=aJ):((n:Nat):Int)<2 ^ 63:=dN.mpr (bC h (by decide))
def gD(C:ax)(d:Nat):Prop:=
 ∀(f:Nat)(vs:List V)(xs:List ag)(Q:QV)(B:aq->Prop)(Z:ae)(s:aB)(A:bD),eC A d->aE B Z s.heap->aN (Fz Z B) s.heap vs xs->C f vs Z Q ->
  codeAny Md A (.call (.ref (fa f)) ⟨xs,[]⟩) (wants (PE B Z s Q) aw) s
structure Ct(d:Nat)(A:bD)(env:Env)(gl vn:List Str)(B:aq->Prop)(J:aj)(Z:ae)(s:aB):Prop where
 R:eC A (d+1)
 K:eG env gl vn B
 G:aE B Z s.heap
 L:cQ (Fz Z B) env vn J s.heap
section
variable{C:ax}{d:Nat}{fz fz':aq->Prop}{B:aq->Prop}{Z Z':ae}{h h':Heap}{s s':aB}{A:bD}{env:Env}{gl vn:List Str}{J:aj}
theorem Ct.af(c:Ct d A env gl vn B J Z s)(a:Af B Z s Z' s'):Ct d A env gl vn B J Z' s':=⟨c.R,c.K,a.g,c.L.keep c.K (a.x.blk c.G) a.x.kp0⟩
theorem Ct.r0(c:Ct d A env gl vn B J Z s):eC A 0:=c.R.le (bJ _)
set_option tactic.hygienic true in
theorem u7{v:V}{y:ag}{b:Bool}{Q:Bool->ae->Prop}(G:aE B Z s.heap)(r:VR (Fz Z B) s.heap v y)(e:kG v=some b)(q:Q b Z):wpAny Md A (truthy y) (PT B Z s Q) aw s:=by
 cases v<;>try (exact nn e;done)
 ·injection e with e;subst e
  subst r;exact B2 ⟨Z,.refl G,q⟩
 ·rename_i l
  injection e with e;subst e
  obtain⟨a,vs,rfl,_,hp,hz,rs⟩:=r;have hl:=rs.length;refine wpAny_truthy_list hp.isList (by rw[dT,hl];exact R9 hz) ⟨Z,.tok G _,?_⟩;rw[List.isEmpty_toArray,show vs.isEmpty=l.isEmpty from by
   cases l with
   |nil=>rw[nD.mp hl];rfl
   |cons v l=>obtain⟨y,ys,rfl,_⟩:=rs;rfl]
  exact q
theorem yH(H:bF cx)(c:Ct d A env gl vn B J Z s){x:Str}{p:Pos}{y:ag}{Q:ag->aB->Prop}(hx:gu gl vn x=true)(e:nsIn K₀ mainGlobals x=some (some y))(q:Q y s):wpAny Md A (eval (.Name x p) env) Q aw s:=by
 refine Name_function_global c.K.kind (c.K.gls x hx) (loadGlobal_global ?_ (mg_of H.X H.g e) q) (c.K.gnames x hx).1;rw[c.K.glob];exact H.g.keeps c.G.base
theorem k8(H:bF cx)(c:Ct d A env gl vn B J Z s){x:Str}{p:Pos}{y:ag}{Q:ag->aB->Prop}(hx:gu gl vn x=true)
  (hm:x∈(["len","isinstance","int","max","min","sum","bytes","str","range","enumerate","zip"]:List Str)) (e:bootBuiltins x=some y) (q:Q y s):wpAny Md A (eval (.Name x p) env) Q aw s:=by
 refine aT (H.bn x hm) λh1 h2=>?_;refine Name_function_global c.K.kind (c.K.gls x hx) (loadGlobal_builtin (mb:=cx.mb) ?_ (mg_none_of H.X H.g h1) ?_ (by rw[H.boot x h2];exact e) q) (c.K.gnames x hx).1
 ·rw[c.K.glob];exact H.g.keeps c.G.base
 ·rw[c.K.blt];exact H.b.keeps c.G.base
theorem mI:∀{vn:List Str}{i:Nat},i<vn.length->vn.contains (bq vn i)=true:=λh=>fG.mpr (go h) where
 go:∀{vn:List Str}{i:Nat},i<vn.length->bq vn i∈vn
  |[],_,h=>absurd h (dM _)
  |_::_,0,_=>.head _
  |_::_,_+1,h=>.tail _ (go (fe h))
theorem Qe(c:Ct d A env gl vn B J Z s){i:Nat}{pos:Pos}{Q:ag->aB->Prop}(hi:i<vn.length){v:V}(hv:rd J i=some v)(h:∀y,VR (Fz Z B) s.heap v y->Q y s):wpAny Md A (eval (.Name (bq vn i) pos) env) Q aw s:=by
 refine ar c.L.loc λm hn hm=>?_;refine aT (c.K.names _ (mI hi)) λn1 n2=>?_;rcases hm i hi with⟨k,q⟩|⟨k,a,z,hcl,hz,q⟩
 ·refine ar (q v hv) λy e r=>?_;exact Dl (Kb c.K.kind k hn e (h y r)) n1
 ·obtain⟨y,rfl,r⟩:=q v hv;rcases k with k|k
  ·exact Dl (Kh c.K.kind k hcl hz (h y r)) n1
  ·exact Dl (Ki c.K.kind k hcl hz (h y r) n2) n1
theorem S4(e:E)(x:Expr)(o i:ag):subscripted (aW vn e x) false o i=operate [o,i] (getItem o i):=by cases e<;>rfl
theorem E7(e:E)(x:Expr)(r:List Expr):starEach (aW vn e x::r) env=(false,eval (aW vn e x) env)::starEach r env:=by cases e<;>rfl
theorem Gq(e:E)(x:Expr)(op:mY):behindInMarks (Aw op) (aW vn e x)=false:=by cases e<;>rfl
theorem Dk(K:eG env gl vn B){n m:Str}{p p2:Pos}{xs:List Expr}(h:gu gl vn m=true):attributeBase (.Call (.Name m p) xs [] p2) n env (eval (.Call (.Name m p) xs [] p2) env)=eval (.Call (.Name m p) xs [] p2) env:=by
 cases xs with
 |cons=>rfl
 |nil=>
  unfold attributeBase
  dsimp only
  rw[if_pos (by rw[bne,(K.gnames m h).2.2];rfl)]
theorem Eb(K:eG env gl vn B){e:E}{x:Expr}{n:Str}(h:bQ gl vn e x=true):attributeBase (aW vn e x) n env (eval (aW vn e x) env)=eval (aW vn e x) env:=by
 cases e<;>first
  |rfl
  |exact Dk K (av (av (av h).1).1).2
  |exact Dk K (av (av h).1).1
noncomputable def gj(xs:List Expr)(env:Env):List (Bool×Sem ag):=xs.map λx=>(false,eval x env)
theorem rN{x:Expr}{pos:Pos}:∀{es:List E}{n:Nat},backTo pos (starEach (cz vn x es n) env)=gj (cz vn x es n) env:=λ{rr}=>@(li (λ{_}=>rfl)
 (λe es ih{n}=>by
  show backTo pos (starEach (aW vn e (ay x n)::cz vn x es (n+1)) env) = _;rw[E7];exact congrArg (yB _) ih) rr)
theorem Fb{x:Expr}:∀(es:List E)(n:Nat),(cz vn x es n).length=es.length:=λrr=>li (λ_=>rfl)
 (λ_ es ih n=>congrArg (·+1) (ih (n+1))) rr
variable(C d)
def SE(e:E):Prop:=∀{A:bD}{env:Env}{gl vn:List Str}{B:aq->Prop}{J:aj}{Z:ae}{s:aB}(x:Expr){Q:QV},Ct d A env gl vn B J Z s->bQ gl vn e x=true->WE C e J Z Q->wpAny Md A (eval (aW vn e x) env) (PE B Z s Q) aw s
def ST(e:E):Prop:=∀{A:bD}{env:Env}{gl vn:List Str}{B:aq->Prop}{J:aj}{Z:ae}{s:aB}(x:Expr){Q:Bool->ae->Prop}{Q0:QV},Ct d A env gl vn B J Z s->bQ gl vn e x=true->WE C e J Z Q0->(∀v Z,Q0 v Z->aK (kG v) λb=>Q b Z)->wpAny Md A (isTrue (aW vn e x) env (eval (aW vn e x) env)) (PT B Z s Q) aw s
def jd(es:List E):Prop:=∀{A:bD}{env:Env}{gl vn:List Str}{B:aq->Prop}{J:aj}{Z:ae}{s:aB}(x:Expr)(n:Nat){Q:List V->ae->Prop},Ct d A env gl vn B J Z s->fC gl vn x es n=true->eh C es J Z Q ->
 wpAny Md A (spliced (gj (cz vn x es n) env)) (IQ B Z s λvs Z=>vs.length=es.length/\Q vs Z) aw s
def SB(es:List E):Prop:=∀{A:bD}{env:Env}{gl vn:List Str}{B:aq->Prop}{J:aj}{Z:ae}{s:aB}(x:Expr)(n:Nat){Q:QV}{b:Bool}{p:Pos},Ct d A env gl vn B J Z s->fC gl vn x es n=true->es.isEmpty=false->WB C b es J Z Q ->
 wpAny Md A (eval (.BoolOp (sN b) (cz vn x es n) p) env) (PE B Z s Q) aw s
def tP(es:List E):Prop:=∀{A:bD}{env:Env}{gl vn:List Str}{B:aq->Prop}{J:aj}{Z:ae}{s:aB}(x:Expr)(n:Nat){Q:Bool->ae->Prop}{Q0:QV}{b:Bool}{p:Pos}{wh:Sem ag},Ct d A env gl vn B J Z s->fC gl vn x es n=true->WB C b es J Z Q0->(∀v Z,Q0 v Z->aK (kG v) λb=>Q b Z) ->
 wpAny Md A (isTrue (.BoolOp (sN b) (cz vn x es n) p) env wh) (PT B Z s Q) aw s
variable{C d}
theorem qQ{e i:E}(ih:SE C d e)(ih2:SE C d i){x y:Expr}{Q:V->QV}{P:ag->ag->aB->Prop}(c:Ct d A env gl vn B J Z s)(h1:bQ gl vn e x=true)(h2:bQ gl vn i y=true)(h:WE C e J Z λv Z=>WE C i J Z λk Z=>Q v k Z)
  (k:∀v k Z' a b s',Af B Z s Z' s'->VR (Fz Z' B) s'.heap v a->VR (Fz Z' B) s'.heap k b->Q v k Z'->P a b s'):wpAny Md A (eval (aW vn e x) env) (λa s₁=>wpAny Md A (eval (aW vn i y) env) (P a) aw s₁) aw s:=
 seq (ih x c h1 h) λv Z' a s' f r q=>seq (ih2 y (c.af f) h2 q) λk' Z2 b s₂ f2 r2 q2=>k v k' Z2 a b s₂ (f.trans f2) (f2.vr r) r2 q2
theorem Ih(v:V):SE C d (.c v):=by
 intro A env gl vn B J Z s x Q c hc h;show wpAny Md A (eval (.Constant (zq v) (ml x) x.pos) env) _ _ _;cases v<;>try (exact bn hc;done)
 ·exact wpAny_Constant_none (PE.same (v:=.none) c.G rfl h)
 ·exact wpAny_Constant_bool (PE.bool c.G h)
 ·rw[ya];exact rO (PE.int c.G h)
 ·rw[ya];exact wpAny_mkText (PE.tok (v:=.str _) c.G ⟨_,rfl⟩ h)
 ·rw[ya];exact wpAny_mkTextBytes (PE.bytes c.G (of_decide_eq_true hc) h)
theorem UR(i:Nat):SE C d (.x i):=by
 intro A env gl vn B J Z s x Q c hc h;refine ar (bj h) λv hv q=>?_;exact Qe c (of_decide_eq_true hc) hv λy r=>PE.same c.G r q
theorem SU(H:bF cx)(g:Nat):SE C d (.g g):=by
 intro A env gl vn B J Z s x Q c hc h;refine ar (bj h) λv hv q=>?_;refine cG (H.gn g (of_decide_eq_true (av hc).1)) λb t e1 hz e2=>?_;rw[e1]at hv;injection hv with hv;subst hv
 exact yH H c (av hc).2 e2 (PE.bytes (tk:=s.toks) c.G hz q)
theorem SO(H:bF cx){e:E}(a:bG)(ih:SE C d e):SE C d (.a e a):=by
 intro A env gl vn B J Z s x Q c hc h;refine Attribute_any_ (seq (ih (ay x 0) c hc h) λv Z' y s' f r q=>?_) (by rw[arm_eval_Attribute,Eb (e:=e) (x:=ay x 0) c.K hc]);refine ar (bj q) λz hz q=>?_;exact gZ f (Fp H f.g r hz q)
theorem UH(H:bF cx){e i:E}(ih:SE C d e)(ih2:SE C d i):SE C d (.i e i):=by
 intro A env gl vn B J Z s x Q c hc h;refine C0 (qQ ih ih2 c (av hc).1 (av hc).2 h λv k Z' a b s' f r r2 q=>?_);refine ar (bj q) λz hz q=>?_;exact gZ f (T8 H c.r0 f.g r r2 (S4 _ _) hz q)
theorem DV{e:E}{x:Expr}{Q:QV}(c:Ct d A env gl vn B J Z s)(hc:bQ gl vn e x=true)(h:WE C e J Z Q)(ih:SE C d e) :
  wpAny Md A (evalPart (match wM e with|true=>none|false=>some (aW vn e x)) env) (PE B Z s Q) aw s:=by
 cases hn:wM e with
 |false=>exact ih x c hc h
 |true=>
  cases e<;>try (exact bn hn;done)
  refine bA (t7.mp hn) λu hu=>?_;obtain rfl:=su hu;exact a9 (PE.same (v:=.none) c.G rfl h)
theorem UP{e lo hi:E}(ih:SE C d e)(ih2:SE C d lo)(ih3:SE C d hi):SE C d (.l e lo hi):=by
 intro A env gl vn B J Z s x Q c hc h;have h12:=av (av hc).1;refine C0 (seq (ih (ay x 0) c h12.1 h) λv Z' y s' f r q=>wpAny_Slice ?_);refine seq (DV (c.af f) h12.2 q ih2) λa Z2 y2 s₂ f2 r2 q2=>?_;refine seq (DV ((c.af f).af f2) (av hc).2 q2 ih3) λb Z3 y3 s₃ f3 r3 q3=>a9 ?_;refine ar (bj q3) λt ht q3=>?_;exact gZ ((f.trans f2).trans f3) (UX f3.g (f3.vr (f2.vr r)) (f3.vr r2) r3 ht q3)
theorem UO{e:E}(ih:SE C d e):SE C d (.rev e):=by
 intro A env gl vn B J Z s x Q c hc h;refine C0 (seq (ih (ay x 0) c hc h) λv Z' y s' f r q=>wpAny_Slice (a9 (a9 (Cy ?_))));rw[ya];refine rO (K8 ?_);refine ar (bj q) λl hl q=>?_;obtain rfl:=lj hl;have f2:=f.trans (.tok f.g (s'.toks+1+1));exact gZ f2 (Ux f2.g r q)
theorem UK{e:E}(ih:SE C d e):SE C d (.neg e):=by
 intro A env gl vn B J Z s x Q c hc h;refine Cy (seq (ih (ay x 0) c hc h) λv Z' y s' f r q=>?_);refine ar (bj q) λl hl q=>?_;obtain rfl:=eX hl;obtain⟨t,rfl⟩:=r;exact K8 (PE.lift f (PE.int f.g q))
theorem UC{op:Op}{a b:E}(ih:SE C d a)(ih2:SE C d b):SE C d (.b op a b):=by
 intro A env gl vn B J Z s x Q c hc h;refine wpAny_BinOp (qQ ih ih2 c (av hc).1 (av hc).2 h λv k Z' a b s' f r r2 q=>?_);refine ar (bj q) λz hz q=>?_;exact gZ f (Tz f.g r r2 hz q)
theorem UE(H:bF cx){op:mY}{a b:E}(ih:SE C d a)(ih2:SE C d b):SE C d (.m op a b):=by
 intro A env gl vn B J Z s x Q c hc h;refine wpAny_Compare1 (qQ ih ih2 c (av hc).1 (av hc).2 h λv k Z' a b s' f r r2 q=>?_) (Gq _ _ _);refine ar (bj q) λz hz q=>?_;exact gZ f (GZ H c.r0 f.g r r2 hz q)
theorem U7(H:bF cx){op:mY}{a b:E}(ih:SE C d a)(ih2:SE C d b):ST C d (.m op a b):=by
 intro A env gl vn B J Z s x Q Q0 c hc h hq;refine wpAny_isTrue_Compare1 (qQ ih ih2 c (av hc).1 (av hc).2 h λv k Z' a b s' f r r2 q=>?_) (Gq _ _ _);refine ar (bj q) λz hz q=>?_;refine seq (GZ H c.r0 f.g r r2 hz q) λu Z3 z3 s₃ f3 r3 q3=>?_;refine ar (bj (hq _ _ q3)) λb hb q3=>?_;exact sG (f.trans f3) (u7 f3.g r3 hb q3)
theorem QC{e:E}(ih:SE C d e)(he:∀{vn:List Str} {x:Expr} {env:Env} {wh:Sem ag},isTrue (aW vn e x) env wh=(do let v <-wh;standAt (aW vn e x).pos;holding [v] (truthy v))):ST C d e:=by
 intro A env gl vn B J Z s x Q Q0 c hc h hq;refine isTrue_plain (seq (ih x c hc h) λv Z' y s' f r q=>?_) he;refine ar (bj (hq _ _ q)) λb hb q=>?_;exact sG f (u7 f.g r hb q)
theorem a0{α:Type}{o:Option α}{k k':α->Prop}(h:aK o k)(m:∀a,k a->k' a):aK o k':=by
 cases o with
 |none=>exact h
 |some a=>exact m a h
theorem U9{e:E}(ih:ST C d e):ST C d (.not e):=by
 intro A env gl vn B J Z s x Q Q0 c hc h hq;exact isTrue_not (lU (ih (ay x 0) (Q:=λb Z'=>Q (!b) Z') c hc h λv Z q=>a0 q λb q=>hq _ _ q) λb Z' s' f q=>⟨Z',f,q⟩)
theorem UM{e:E}(ih:SE C d e):SE C d (.not e):=by
 intro A env gl vn B J Z s x Q c hc h;refine Cy (seq (ih (ay x 0) c hc h) λv Z' y s' f r q=>?_);refine ar (bj q) λb hb q=>?_;exact not_of (lU (u7 (Q:=λc Z=>Q (.bool (!c)) Z) f.g r hb q) λc Z2 s₂ f2 q2=>PE.lift (f.trans f2) (PE.bool f2.g q2))
theorem UI{t a b:E}(iht:ST C d t)(ih:SE C d a)(ih2:SE C d b):SE C d (.ite t a b):=by
 intro A env gl vn B J Z s x Q c hc h;have h12:=av (av hc).1;refine IfExp_ (lU (iht (ay x 0) (Q:=λt Z=>match t with|true=>WE C a J Z Q|false=>WE C b J Z Q) c h12.1 h λ_ _ q=>q) λt Z' s' f q=>?_);cases t
 ·exact gZ f (ih2 (ay x 2) (c.af f) (av hc).2 q)
 ·exact gZ f (ih (ay x 1) (c.af f) h12.2 q)
theorem U8{t a b:E}(iht:ST C d t)(ih:ST C d a)(ih2:ST C d b):ST C d (.ite t a b):=by
 intro A env gl vn B J Z s x Q Q0 c hc h hq;have h12:=av (av hc).1;refine isTrue_IfExp (lU (iht (ay x 0) (Q:=λt Z=>match t with|true=>WE C a J Z Q0|false=>WE C b J Z Q0) c h12.1 h λ_ _ q=>q) λt Z' s' f q=>?_);cases t
 ·exact sG f (ih2 (ay x 2) (c.af f) (av hc).2 q hq)
 ·exact sG f (ih (ay x 1) (c.af f) h12.2 q hq)
end
end
section
open PySem PySem.W PyProof.Rows PySem.SeqAt PySem.Calls
section
variable{C:ax}{d:Nat}{B:aq->Prop}{Z Z':ae}{h h':Heap}{s s':aB}{A:bD}{env:Env}{gl vn:List Str}{J:aj}
theorem SK{e:E}{r:List E}(ih:SE C d e)(ihr:SB C d r):SB C d (e::r):=by
 intro A env gl vn B J Z s x n Q b p c hc _ h;refine aT (av hc) λh1 h2=>?_;cases r with
 |nil=>exact BoolOp_one (ih (ay x n) c h1 h)
 |cons e2 r=>
  have key:wpAny Md A (eval (aW vn e (ay x n)) env) (λy s₁=>wpAny Md A (truthy y) (λt s₂=>(t=b->wpAny Md A (eval (.BoolOp (sN b) (cz vn x (e2::r) (n+1)) p) env) (PE B Z s Q) aw s₂)/\(t≠b->PE B Z s Q y s₂)) aw s₁) aw s:=by
   refine seq (ih (ay x n) c h1 h) λv Z' y s' f r q=>?_;refine ar (bj q) λt ht q=>?_;refine lU (u7 (Q:=λc Z2=>c=t/\Z2=Z') f.g r ht ⟨rfl,rfl⟩) λt Z2 s₂ f2 q2=>?_;obtain⟨rfl,rfl⟩:=q2;refine⟨λz=>?_,λz=>?_⟩
   ·rw[if_pos z]at q;exact gZ (f.trans f2) (ihr x (n+1) ((c.af f).af f2) h2 rfl q)
   ·rw[if_neg z]at q;exact PE.lift (f.trans f2) (PE.same f2.g (f2.vr r) q)
  cases b with
  |true=>
   refine BoolOp_and (bT key λy s₁ k=>bT k λt s₂ z=>?_);cases t with
   |true=>exact z.1 rfl
   |false=>exact z.2 (λz=>bn z)
  |false=>
   refine BoolOp_or (bT key λy s₁ k=>bT k λt s₂ z=>?_);cases t with
   |true=>exact z.2 (λz=>nb z)
   |false=>exact z.1 rfl
theorem UD{b:Bool}{es:List E}(ih:SB C d es):SE C d (.o b es):=by
 intro A env gl vn B J Z s x Q c hc h;refine aT (av hc) λh1 h2=>?_;exact ih x 0 c h2 (Bool.not_eq_true' _▸h1) h
theorem SM:tP C d []:=by
 intro A env gl vn B J Z s x n Q Q0 b p wh c hc h hq;have q:=hq _ _ h;cases b with
 |true=>exact Lm ⟨Z,.refl c.G,q⟩
 |false=>exact Lz ⟨Z,.refl c.G,q⟩
theorem Qo{e:E}{r:List E}(ih:ST C d e)(ihr:tP C d r):tP C d (e::r):=by
 intro A env gl vn B J Z s x n Q Q0 b p wh c hc h hq;refine aT (av hc) λh1 h2=>?_;have key:wpAny Md A (isTrue (aW vn e (ay x n)) env (eval (aW vn e (ay x n)) env)) (λt s₂=>(t=b->wpAny Md A (isTrue (.BoolOp (sN b) (cz vn x r (n+1)) p) env wh) (PT B Z s Q) aw s₂)/\(t≠b->PT B Z s Q t s₂)) aw s:=by
  cases r with
  |nil=>
   refine lU (ih (ay x n) c h1 h hq) λt Z' s' f q=>⟨λz=>?_,λz=>⟨Z',f,q⟩⟩
   subst z;cases t with
   |true=>exact Lm ⟨Z',f,q⟩
   |false=>exact Lz ⟨Z',f,q⟩
  |cons e2 r=>
   refine lU (ih (ay x n) (Q:=λt Z=>(t=b->WB C b (e2::r) J Z Q0)/\(t≠b->Q t Z)) c h1 h λv Z' q=>?_) λt Z' s' f q=>⟨λz=>sG f (ihr x (n+1) (c.af f) h2 (q.1 z) hq),λz=>⟨Z',f,q.2 z⟩⟩
   refine ar (bj q) λt ht q=>?_;refine ao ht ⟨λz=>?_,λz=>?_⟩
   ·rw[if_pos z]at q;exact q
   ·rw[if_neg z]at q;have q:=hq _ _ q;rw[ht]at q;exact q
 cases b with
 |true=>
  refine isTrue_and (bT key λt s₂ z=>?_);cases t with
  |true=>exact z.1 rfl
  |false=>exact z.2 (λz=>bn z)
 |false=>
  refine isTrue_or (bT key λt s₂ z=>?_);cases t with
  |true=>exact z.2 (λz=>nb z)
  |false=>exact z.1 rfl
theorem U6{b:Bool}{es:List E}(ih:tP C d es):ST C d (.o b es):=by
 intro A env gl vn B J Z s x Q Q0 c hc h hq;exact ih x 0 c (av hc).2 h hq
theorem SX:jd C d []:=by
 intro A env gl vn B J Z s x n Q c hc h;exact spliced_nil ⟨[],Z,.refl c.G,rfl,rfl,h⟩
theorem Qr{e:E}{r:List E}(ih:SE C d e)(ihr:jd C d r):jd C d (e::r):=by
 intro A env gl vn B J Z s x n Q c hc h;refine aT (av hc) λh1 h2=>?_;refine spliced_cons (seq (ih (ay x n) c h1 h) λv Z' y s' f r q=>?_);refine kI (ihr x (n+1) (c.af f) h2 q) λvs Z2 ys s₂ f2 r2 q2=>?_;exact⟨v::vs,Z2,f.trans f2,⟨y,ys,rfl,f2.vr r,r2⟩,congrArg (·+1) q2.1,q2.2⟩
theorem zx{es:List E}(h:gL es=true){l:List V}(e:l.length=es.length):l.length<=aJ:=e▸ai (cu (of_decide_eq_true h)) (by decide)
theorem UQ{es:List E}(ih:jd C d es):SE C d (.tup es):=by
 intro A env gl vn B J Z s x Q c hc h;refine aT (av hc) λh1 h2=>?_;refine Tuple_ ?_;rw[rN];refine kI (ih x 0 c h2 h) λvs Z' ys s' f r q=>?_;have hz:=zx h1 q.1;exact Lr (PE.lift f (Mn (tk:=s'.toks) f.g r hz q.2)) (by rw[r.length];exact gb hz)
theorem UJ{m:Bool}{es:List E}(ih:jd C d es):SE C d (.lst m es):=by
 intro A env gl vn B J Z s x Q c hc h;refine aT (av hc) λh1 h2=>?_;refine List_ ?_;rw[rN];refine kI (ih x 0 c h2 h) λvs Z' ys s' f r q=>?_;have hz:=zx h1 q.1;exact LL (PE.lift f (rT (n:=0) (tk:=s'.toks) f.g r hz m q.2)) (by rw[r.length];exact gb hz)
theorem OL{xs:List Expr}:(gj xs env).any (·.1)=false:=by rw[gj,List.any_map];exact Ky.mpr λ_ _=>kU
theorem Ml{f:ag}{xs:List Expr}{Q:Args->aB->Prop}(h:wpAny Md A (spliced (gj xs env)) (λvs s'=>Q ⟨vs,[]⟩ s') aw s):wpAny Md A (evalArgs f true (gj xs env) []) Q aw s:=by
 cases xs with
 |nil=>
  unfold evalArgs;show wpAny Md A (spliced (gj [] env) >>= _) Q aw s;exact aG (bT h λvs s' h'=>aG (a9 (ic (aG (a9 (aG (a9 (a9 (by simpa using h')))))))))
 |cons x r=>exact evalArgs_plain h
def sY(P:Heap->Prop)(f:ag):Prop:=∀h,P h->∃k,(k=Keeper.frame\/k=Keeper.machine\/k=Keeper.boundFrame)/\Looks Md h (keeperOf f) k
theorem kZ{P:Heap->Prop}{pos:Pos}{f:ag}{first:List ag}{xs:List Expr}{Q:ag->aB->Prop}(hk:sY P f)
  (h:wpAny Md A (spliced (gj xs env)) (λvs s'=>P s'.heap/\wpAny Md A (call f (first++vs)) Q aw s') aw s):wpAny Md A (callWith pos f first (gj xs env) []) Q aw s:=
 callWith_of (by rw[OL];rfl) hk (Ml h)
theorem ES{e:E}{es:List E}{x:Expr}{n:Str}{Q:ag->aB->Prop}(c:Ct d A env gl vn B J Z s)(hl:gL es=true)(hc:bQ gl vn e (ay (ay x 0) 0)=true)(hline:AW x=true)
  (h:wpAny Md A (eval (aW vn e (ay (ay x 0) 0)) env) (λov s₁=>wpAny Md A (getMethod ov n (do return (<-importBound (aW vn e (ay (ay x 0) 0)) env).getD true)) (λfx s₂=>wpAny Md A (callWith x.pos fx.1 fx.2 (gj (cz vn x es 1) env) []) Q aw s₂) aw s₁) aw s) :
  wpAny Md A (eval (.Call (.Attribute (aW vn e (ay (ay x 0) 0)) n (ay x 0).pos) (cz vn x es 1) [] x.pos) env) Q aw s:=by
 rw[arm_eval_Call,Eb c.K hc,rN];refine aG (bT h λov s₁ h₁=>aG (pH ?_));show wpAny Md A (methodCall _ n (ay x 0).pos x.pos env ov ((cz vn x es 1).length+([]:List Keyword).length) (gj (cz vn x es 1) env) []) Q aw s₁;have hform:methodCallForm ((cz vn x es 1).length+([]:List Keyword).length) (gj (cz vn x es 1) env) []=true:=by
  unfold methodCallForm;rw[show(gj (cz vn x es 1) env).all (λx=>!x.fst)=true from by rw[gj,LU];exact dU.mpr λ_ _=>rfl,Fb];exact decide_eq_true (fK (of_decide_eq_true hl) (by decide))
 unfold methodCall;rw[hform];refine aG (ic (bT h₁ λfx s₂ h₂=>aG (f9 (a:=x.pos) ?_ h₂)));unfold methodCallPos;rw[show((ay x 0).pos.endLine==x.pos.line)=true from hline];rfl
theorem qa{n:Str}{x:Expr}{es:List E}{p pos:Pos}{Q:ag->aB->Prop}(h:wpAny Md A (eval (.Name n p) env) (λf s₁=>wpAny Md A (callWith pos f [] (gj (cz vn x es 1) env) []) Q aw s₁) aw s):wpAny Md A (eval (.Call (.Name n p) (cz vn x es 1) [] pos) env) Q aw s:=by
 rw[Kg,rN];exact aG h
theorem Ad{f:ag}(h:keepIn K₀ f=true):sY (λh=>K₀.In h) f:=λhp X=>keeps_K h hp X
theorem SP(H:bF cx)(Caa:gD C d){f:Nat}{es:List E}(ih:jd C d es):SE C d (.call f es):=by
 intro A env gl vn B J Z s x Q c hc h;have h123:=av (av hc).1;have h12:=av h123.1;refine aT (H.fn f (of_decide_eq_true h12.1)) λe1 e2=>?_;refine qa (yH H c h12.2 e1 (kZ (Ad e2) ?_));refine kI (ih x 1 c (av hc).2 h) λvs Z' ys s' f r q=>⟨H.X.keeps f.g.base,?_⟩
 exact gZ f (yA (Caa _ _ _ _ _ _ _ _ (c.R.le (eM d)) f.g r q.2))
theorem Se(H:bF cx){v:V}{m f:Nat}(e0:oj Z v m=some f):keepIn K₀ (.ref (fa f))=true:=by
 cases v<;>try (exact nn e0;done)
 ·refine ar (a8 e0) λp e1 e=>?_;refine aT (zA e) λhc e=>?_;exact H.mth _ _ _ e
 ·exact H.mth _ _ _ e0
theorem SV(H:bF cx)(Caa:gD C d){e:E}{m:Nat}{es:List E}(ihe:SE C d e)(ih:jd C d es):SE C d (.h e m es):=by
 intro A env gl vn B J Z s x Q c hc h;have h123:=av (av hc).1;have h12:=av h123.1;refine ES c h12.2 h123.2 h12.1 (seq (ihe _ c h123.2 h) λv Z' y s' f r q=>?_);refine ar (bj q) λg hg q=>?_;refine Sf H f.g r hg (kZ (Ad (Se H hg)) ?_);refine kI (ih x 1 (c.af f) (av hc).2 q) λvs Z2 ys s₂ f2 r2 q2=>⟨H.X.keeps f2.g.base,?_⟩
 exact gZ (f.trans f2) (yA (Caa _ _ _ _ _ _ _ _ (c.R.le (eM d)) f2.g (show aN _ _ (_::_) (_::_) from⟨y,ys,rfl,f2.vr r,r2⟩) q2.2))
theorem L7(id:String):sY (λ_=>True) (.builtin id):=λ_ _=>⟨.machine,.inr (.inl rfl),.of_pure rfl⟩
theorem VN(H:bF cx){e:E}{b:BM}{es:List E}(ihe:SE C d e)(ih:jd C d es):SE C d (.bm e b es):=by
 intro A env gl vn B J Z s x Q c hc h;have h123:=av (av hc).1;have h12:=av h123.1;refine ES c h12.2 h123.2 h12.1 (seq (ihe _ c h123.2 h) λv Z' y s' f r q=>?_);refine aT (Q7 f.g r q.1) λt1 t2=>?_;refine getMethod_builtin t1 (OU b) (Q8 b) (Q9 b) t2 (kZ (L7 _) ?_);refine kI (ih x 1 (c.af f) (av hc).2 q.2) λvs Z2 ys s₂ f2 r2 q2=>⟨trivial,?_⟩
 exact gZ (f.trans f2) (Vm H f2.g (f2.vr r) r2 q2.2)
theorem Ft(b:BI):bootBuiltins (qp b)=some (s6 b):=by cases b<;>kernel_rfl
theorem GS(b:BI):qp b∈(["len","isinstance","int","max","min","sum","bytes","str","range","enumerate","zip"]:List Str):=by cases b<;>decide
theorem Fu(b:BI):sY (λ_=>True) (s6 b):=λ_ _=>⟨.machine,.inr (.inl rfl),by cases b<;>exact .of_pure rfl⟩
theorem Pp(H:bF cx)(c:Ct d A env gl vn B J Z s){b:BI}{v r:V}{y:ag}{Q:QV}(x:Expr)(hisi:wm b=true)(hc:ID gl vn b=true)(rv:VR (Fz Z B) s.heap v y)(e0:oU Z b [v]=some r)(q:Q r Z) :
  ∃t,(∀{env:Env}{p:Pos},backTo p (starEach (j7 b x) env)=gj [t] env)/\j7 b x=[t]/\wpAny Md A (eval t env) (λtv s'=>wpAny Md A (call (s6 b) [y,tv]) (PE B Z s Q) aw s') aw s:=by
 have C3:bootBuiltins "bytes"=some (.type "bytes"):=by kernel_rfl
 have Eo:bootBuiltins "str"=some (.type "str"):=by kernel_rfl
 cases b<;>try (cases hisi;done)
 ·refine⟨_,rfl,rfl,k8 H c hc (by decide) C3 ?_⟩;obtain⟨b,eb,rfl⟩:=cN e0;obtain rfl:=gV eb;obtain⟨t,rfl,_⟩:=rv;exact Pn (PE.bool c.G q)
 ·refine⟨_,rfl,rfl,k8 H c hc (by decide) Eo ?_⟩;obtain⟨b,eb,rfl⟩:=cN e0;obtain rfl:=gV eb;obtain⟨t,rfl,_⟩:=rv;exact Po (PE.tok (v:=.bool _) c.G rfl q)
 ·refine⟨_,rfl,rfl,Tuple_ ?_⟩;obtain⟨b,eb,rfl⟩:=cN e0;obtain rfl:=gV eb;obtain⟨t,rfl,_⟩:=rv;refine spliced_cons (k8 H c (av hc).1 (by decide) C3 (spliced_cons (k8 H c (av hc).2 (by decide) Eo (spliced_nil (Lr ?_ (by decide))))));exact NR (kb _ rfl) λtk=>PE.keep (v:=.bool _) c.G (bI.push _ _) rfl rfl rfl q
theorem VM(H:bF cx){b:BI}{es:List E}(ih1:∀e,es=[e]->SE C d e)(ih:jd C d es):SE C d (.bi b es):=by
 intro A env gl vn B J Z s x Q c hc h;have h12:=av (av hc).1;cases hisi:wm b with
 |true=>
  rw[hisi]at h12;refine aT (av h12.2) λh3 h4=>?_;obtain⟨e,rfl⟩:=Bv.mp (eq_of_beq h4);have ihe:SE C d e:=ih1 e rfl;show wpAny Md A (eval (.Call (.Name (qp b) (ay x 0).pos) (aW vn e (ay x 1)::j7 b x) [] x.pos) env) _ aw s;rw[Kg,E7];refine aG (k8 H c h12.1 (GS b) (Ft b) ?_);have key:wpAny Md A (eval (aW vn e (ay x 1)) env) (λz s₁=>∃t,(∀{env:Env}{p:Pos},backTo p (starEach (j7 b x) env)=gj [t] env)/\j7 b x=[t]/\wpAny Md A (eval t env) (λtv s'=>wpAny Md A (call (s6 b) [z,tv]) (PE B Z s Q) aw s') aw s₁) aw s:=by
   refine seq (ihe (ay x 1) c (av (av hc).2).1 h) λv Z' z s' f r q=>?_;refine ar (bj q) λu hu q=>?_;refine cm (Pp H (c.af f) x hisi h3 r hu q) λt h1 h2 h3=>?_;exact⟨t,h1,h2,bT h3 λtv s₂ k=>gZ f k⟩
  obtain⟨t,ht1,ht2⟩:∃t,(∀{env:Env}{p:Pos},backTo p (starEach (j7 b x) env)=gj [t] env)/\j7 b x=[t]:=by
   cases b<;>first|(cases hisi;done)|exact⟨_,rfl,rfl⟩
  show wpAny Md A (callWith _ _ [] ((false,eval (aW vn e (ay x 1)) env)::backTo x.pos (starEach (j7 b x) env)) []) _ aw s;rw[ht1];refine kZ (xs:=[aW vn e (ay x 1),t]) (Fu b) (spliced_cons (bT key λz s₁ k=>?_));refine cm k λt' _ k1 k2=>?_;rw[ht2]at k1;injection k1 with k1;subst k1
  exact spliced_cons (bT k2 λtv s₂ k=>spliced_nil ⟨trivial,k⟩)
 |false=>
  have hty:j7 b x=[]:=by cases b<;>first|(cases hisi;done)|rfl
  show wpAny Md A (eval (.Call (.Name (qp b) (ay x 0).pos) (cz vn x es 1++j7 b x) [] x.pos) env) _ aw s;rw[hty,gO];refine qa (k8 H c h12.1 (GS b) (Ft b) (kZ (Fu b) ?_));refine kI (ih x 1 c (av hc).2 h) λvs Z' ys s' f r q=>⟨trivial,?_⟩
  refine aT q λ_ q=>?_;refine ar (bj q) λu hu q=>?_;exact gZ f (Vk c.r0 f.g r hisi hu q)
end
end
section
open PySem PySem.W PyProof.Rows PySem.SeqAt PySem.Calls
section
variable{C:ax}{d:Nat}{B:aq->Prop}{Z Z':ae}{h h':Heap}{s s':aB}{A:bD}{env:Env}{gl vn:List Str}{J:aj}{fz fz':aq->Prop}
theorem Ul{l:List V}{y:ag}{i:Int}{t:Tok}{Q:QV}(G:aE B Z s.heap)(r:VR (Fz Z B) s.heap (.list l) y)(hz:l.length*i.toNat<=aJ)(hi:i<=aJ)(hlo:-(2 ^ 63:Int)<=i)(m:Bool)(q:qN m (aR i.toNat l).flatten Z Q) :
  wpAny Md A (binaryOp .Mult y (.int i t)) (PE B Z s Q) aw s:=by
 obtain⟨a,vs,rfl,hf,⟨n,ho⟩,_,rs⟩:=r;have hsz:vs.length*i.toNat<=aJ:=by rw[rs.length];exact hz
 have hi2:i<2 ^ 63:=Kl hi (by decide);refine wpAny_binaryOp_repeat_ref (T:="list") (U:="int") (by decide) ⟨_,ho,rfl⟩ (λs'=>typeIs_int s' i t) noFill_list_mul PySem.F.fills_int_mul JS repeat_list PySem.F.slot_int_index.lookup
  (nQ JS (typeIs_int s i t) PySem.F.entry_int_rmul (PySem.F.args_int_rmul_2 _ _) (int___rmul___int_list i t a vs.toArray n)
   ⟨ho,rfl,⟨_,ho,rfl⟩,nQ PySem.F.slot_list_mul ⟨_,ho,rfl⟩ PySem.F.entry_list_mul (PySem.F.args_list_mul_2 _ _)
    (AutoListH.list___mul___list_int_3 a vs.toArray n i t (by simp[Bq];exact⟨hlo,hi2⟩) (bc.mpr (ai hsz (by decide))) (by rw[xw,decide_eq_true_eq];exact bc.mpr (ai hsz (by decide))))
    ⟨ho,?_⟩⟩)
 rw[listMul_foldl_if];exact rT (n:=0) (tk:=s.toks) G (rs.replicate i.toNat) (by rw[List.length_flatten,Kq,List.sum_replicate_nat,LX];exact hz) m q
theorem UN{m:Bool}{es:List E}{n:E}(ih:jd C d es)(ih2:SE C d n):SE C d (.rep m es n):=by
 intro A env gl vn B J Z s x Q c hc h;have h12:=av (av hc).1;refine wpAny_BinOp (List_ ?_);rw[rN];refine kI (ih (ay x 0) 0 c h12.2 h) λvs Z' ys s' f r q=>?_;have hz:=zx h12.1 q.1;obtain⟨v,Z2,f2,r2,rfl,rfl⟩:=rT (n:=0) (tk:=s'.toks) (Q:=λv Z=>v=.list vs/\Z=Z') f.g r hz false ⟨rfl,rfl⟩;refine LL (seq (ih2 (ay x 1) ((c.af f).af f2) (av hc).2 q.2) λk Z3 z s₃ f3 r3 q3=>?_) (by rw[r.length];exact gb hz);refine XG (bj q3) λi hi c1 c2 c3 q4=>?_;obtain rfl:=eX hi;obtain⟨t,rfl⟩:=r3;exact gZ ((f.trans f2).trans f3) (Ul f3.g (f3.vr r2) c1 c2 c3 m q4)
theorem FD(Z:ae)(a:Nat):Sub (fW Z a) Z:=λb m e=>(kY (b=a)).elim (λz=>by rw[fW,if_pos z]at e;exact nn e) λz=>by rw[fW,if_neg z]at e;exact e
theorem TV:∀{l:List V}{Z:ae}{xs:List ag},aE B Z h->aN (Fz Z B) h l xs->Sub (gK Z l).2 Z/\aN (Fz (gK Z l).2 B) h (gK Z l).1 xs:=by
 intro l;induction l with
 |nil=>intro Z xs _ r;exact⟨Sub.refl _,r⟩
 |cons v l ih=>
  intro Z xs G r;obtain⟨y,ys,rfl,rv,r⟩:=r;unfold gK;cases hp:jF Z v with
  |none=>
   obtain⟨hs,q⟩:=ih G r;exact⟨hs,y,ys,rfl,rv.mono (lF hs),q⟩
  |some p=>
   obtain⟨rfl,hc⟩:=qc hp;subst rv;have hd:=FD Z p.1;obtain⟨hs,q⟩:=ih (G.sub hd) (r.mono (lF hd));obtain⟨_,hb,vs,hl,hz,rs⟩:=G.cells _ _ hc;exact⟨hs.trans hd,.ref p.1,ys,rfl,⟨p.1,vs,rfl,⟨hs.none (if_pos rfl),hb⟩,hl,hz,rs.mono (lF (hs.trans hd))⟩,q⟩
theorem OC(a:aq)(xs:List ag):(LN "type.__call__" ⟨.ref a::xs,[]⟩).weight=1:=by kernel_rfl
theorem QH(xs:List ag):(LN "type.__call__" ⟨xs,[]⟩).cUnits=1:=by kernel_rfl
theorem Ng{a:aq}{xs:List ag}(R:eC A (d+1)):eC (A.under (.builtin "type.__call__" ⟨.ref a::xs,[]⟩)) d:=by
 obtain⟨r1,r2,r3⟩:=R;refine⟨r1,?_,?_⟩
 ·show A.depth+_+4*d+10<=900;rw[OC];exact au [_,_] [] (.ln (.a (.a (.a .v0 .k1) (.m 4 .v1)) (.k 10)) (.k 900)) 1 [(1,.ln (.a (.a .v0 (.m 4 (.a .v1 .k1))) (.k 10)) (.k 900))] rfl r2
 ·show A.units+_+40*d+100<=9000;rw[QH];exact au [_,_] [] (.ln (.a (.a (.a .v0 .k1) (.m 40 .v1)) (.k 100)) (.k 9000)) 1 [(1,.ln (.a (.a .v0 (.m 40 (.a .v1 .k1))) (.k 100)) (.k 9000))] rfl r3
theorem Sb{frz:Bool}{c d:Nat}{r:V}{y:ag}{p:aq}{Q:QV}(G:aE B Z s.heap)(rv:VR (Fz Z B) s.heap (.inst c d) (.ref p))(rr:VR (Fz Z B) s.heap r y)(q0:lP frz c d r Z Q):y=.none/\PE B Z s Q (.ref p) s:=by
 refine ar (bj q0) λu hu q=>?_;obtain rfl:=su hu;refine⟨rr,?_⟩;cases frz with
 |false=>exact PE.same G rv q
 |true=>
  obtain⟨⟨c',fs⟩,hp,rfl,hk,q⟩:=bj q;obtain⟨a,ha,hz,ho⟩:=rv;obtain⟨_,hb,es,n,hd,k,rs,hf⟩:=G.cells _ _ (yk hp);have hs:=FD Z d;obtain⟨hs2,rs2⟩:=TV (G.sub hs) (rs.mono (lF hs));have hs3:=hs2.trans hs;rw[hk]at k;refine⟨_,_,⟨G.sub hs3,.sub hs3 iT⟩,?_,q⟩;exact⟨a,d,es,n,ha,⟨hs3.none hz.1,hz.2⟩,⟨hs2.none (if_pos rfl),hb⟩,ho,hd,k,rs2⟩
theorem UL(H:bF cx)(Caa:gD C d){frz:Bool}{c:Nat}{es:List E}(ih:jd C d es):SE C d (.new frz c es):=by
 intro A env gl vn B J Z s x Q c0 hc h;have h123:=av (av hc).1;have h12:=av h123.1;refine aT (H.cn c (of_decide_eq_true h12.1)) λe1 O=>?_;refine qa (yH H c0 h12.2 e1 (kZ (Ad O.keep) ?_));refine kI (ih x 1 c0 (av hc).2 h) λvs Z' ys s' f r q=>⟨H.X.keeps f.g.base,?_⟩
 refine gZ f (yA ?_);have X':=H.X.keeps f.g.base;refine aT q λ_ q=>?_;obtain⟨hh,gg,dd,tt,oo⟩:=s';have k:bI hh ((hh.push emptyDict).push (instObj (ca c) hh.objs.size)):=λa o e=>bI.push _ _ a o (bI.push _ _ a o e);have hd:((hh.push emptyDict).push (instObj (ca c) hh.objs.size)).get? hh.objs.size=some (mE [] 0):=ph _ (kb _ rfl);have hx:((hh.push emptyDict).push (instObj (ca c) hh.objs.size)).get? (hh.objs.size+1)=some (instObj (ca c) hh.objs.size):=by
  rw[<-show(hh.push emptyDict).objs.size=hh.objs.size+1 from Ck _ _];exact kb _ rfl
 have f2:Af B Z' ⟨hh,gg,dd,tt,oo⟩ (ak Z' hh.objs.size (.attrs c [])) ⟨(hh.push emptyDict).push (instObj (ca c) hh.objs.size),gg,dd,tt,oo⟩:=
  ⟨f.g.alloc k (aC _) ⟨[],0,hd,rfl,rfl,λp hp=>nm hp⟩,.alloc (aC _) iT k rfl rfl⟩
 have rx:VR (Fz (ak Z' hh.objs.size (.attrs c [])) B) ((hh.push emptyDict).push (instObj (ca c) hh.objs.size)) (.inst c hh.objs.size) (.ref (hh.objs.size+1)):=
  ⟨_,rfl,⟨(i7 (kg _)).trans (f.g.none_big (eM _)),f.g.free_big (eM _)⟩,hx⟩
 have call:=Caa _ _ _ _ _ _ _ _ (Ng (a:=ca c) (xs:=ys) c0.R) f2.g (show aN _ _ (_::_) (_::_) from⟨_,ys,rfl,rx,f2.vrs r⟩) (q _ (f.g.none_big (aC _)));refine make_core (makes_of X' O.made) (looks_findIn X' O.init) (λself=>bind_fn X' self (beq_iff_eq.mp O.initF)) (.inl rfl) (codeAny_mono call λr' s₂ hr=>?_);rcases r' with e|(_|_|_|v)
 ·exact hr.elim
 ·exact hr.elim
 ·exact hr.elim
 ·exact hr.elim
 ·refine cG hr λrv Z2 f3 r3 q3=>?_;refine aT (Sb f3.g (f3.vr rx) r3 q3) λrfl m=>?_;exact⟨rfl,m.lift (f2.trans f3)⟩
end
end
section
open PySem PySem.W PyProof.Rows PySem.SeqAt PySem.Calls
def xf(fz:aq->Prop)(h:Heap):List V->List V->List (ag×ag)->Prop
 |[],vs,ps=>vs=[]/\ps=[]
 |k::ks,vs,ps=>∃v vs' a b ps',vs=v::vs'/\ps=(a,b)::ps'/\VR fz h k a/\VR fz h v b/\xf fz h ks vs' ps'
section
variable(C:ax)(d:Nat)
def SD(es:List E):Prop:=∀{A:bD}{env:Env}{gl vn:List Str}{B:aq->Prop}{J:aj}{Z:ae}{s:aB}(x:Expr){ks:List V}(n m:Nat){p:Pos}{Q:List V->ae->Prop},Ct d A env gl vn B J Z s->ks.all xl=true->ks.length=es.length->fC gl vn x es m=true->eh C es J Z Q ->
 wpAny Md A (evalPairs (pairTrees (oC x ks n) (cz vn x es m) env p)) (λps s'=>∃vs Z',Af B Z s Z' s'/\xf (Fz Z' B) s'.heap ks vs ps/\Q vs Z') aw s
end
section
variable{C:ax}{d:Nat}{B:aq->Prop}{Z Z':ae}{h h':Heap}{s s':aB}{A:bD}{env:Env}{gl vn:List Str}{J:aj}{fz fz':aq->Prop}
theorem UB:SD C d []:=by
 intro A env gl vn B J Z s x ks n m p Q c hk hl hc h;cases nD.mp hl
 exact a9 ⟨[],Z,.refl c.G,⟨rfl,rfl⟩,h⟩
theorem SN{e:E}{r:List E}(ih:SE C d e)(ihr:SD C d r):SD C d (e::r):=by
 intro A env gl vn B J Z s x ks n m p Q c hk hl hc h;refine aT (av hc) λh1 h2=>?_;cases ks with
 |nil=>cases hl
 |cons v ks=>
  rw[Lu]at hk;refine aT (av hk) λhk1 hk2=>?_;show wpAny _ _ (evalPairs ((eval (aW vn (.c v) (ay x n)) env,do let x <-eval (aW vn e (ay x m)) env;standAt p;pure x)::pairTrees (oC x ks (n+1)) (cz vn x r (m+1)) env p)) _ _ s;refine aG (seq (Ih (C:=C) (d:=d) v (ay x n) (Q:=λv' Z'=>v'=v/\Z'=Z) c hk1 ⟨rfl,rfl⟩) λv' Z' kv s' f r q=>?_);obtain⟨rfl,rfl⟩:=q;refine aG (ic (aG (seq (ih (ay x m) (c.af f) h1 h) λu Z2 z s₂ f2 r2 q2=>?_)));refine aG (pH (a9 (aG (ic (bT (ihr x (n+1) (m+1) ((c.af f).af f2) hk2 (iH hl) h2 q2) λps s₃ h₃=>?_)))));refine cG h₃ λvs Z3 f3 rp q3=>?_;exact a9 ⟨u::vs,Z3,(f.trans f2).trans f3,⟨u,vs,kv,z,ps,rfl,rfl,f3.vr (f2.vr r),f3.vr r2,rp⟩,q3⟩
theorem yM{x:Expr}:∀(ks:List V)(n:Nat),(oC x ks n).length=ks.length:=λrr=>li (λ_=>rfl)
 (λ_ ks ih n=>congrArg (·+1) (ih (n+1))) rr
theorem MW{x:Expr}:∀(ks:List V)(n:Nat),(oC x ks n).all (·.isSome)=true:=λrr=>li (λ_=>rfl)
 (λ_ ks ih n=>ih (n+1)) rr
theorem OR.cons{K:Type}[DecidableEq K]{kvs:List (K×ag)}{a j:K}{v:V}{y:ag}{o:Option V}(r:VR fz h v y)(q:OR fz h o (valueAt kvs j)):OR fz h (if j=a then some v else o) (valueAt ((a,y)::kvs) j):=by
 unfold valueAt;rw[rF];by_cases hj:j=a
 ·rw[if_pos hj,show decide (a=j)=true from decide_eq_true hj.symm];exact⟨y,rfl,r⟩
 ·rw[if_neg hj,show decide (a=j)=false from decide_eq_false λz=>hj z.symm];exact q
theorem zY(i:Str)(t:Tok):(Cv cy w).is i (.str i t)=true:=by simp[Cv,Value.isStrOf]
abbrev mS:Obj:={ cls:=.type "dict",data:=.dict #[] }
theorem FF{K:Type}[DecidableEq K]{knd:KeyKind cy w K}{vs:List E}{x:Expr}{ks:List V}{Q:QV}(c:Ct d A env gl vn B J Z s)(ih:SD C d vs)(hne:ks≠[])(hk:ks.all xl=true)(hl:ks.length=vs.length)(hc:fC gl vn x vs ks.length=true)(h:eh C vs J Z λvs Z=>aK (gY b ks vs) λm=>∀a,Z a=none->Q (.ref a) (ak Z a m))(hsz:ks.length<=3)
  (key:∀{us:List V}{m:M}{fz:aq->Prop}{h:Heap}{ps:List (ag×ag)},gY b ks us=some m->xf fz h ks us ps->∃kvs,Carries knd ps kvs/\(kvs.map (·.1)).Nodup/\∀{fz':aq->Prop}{h':Heap}{a:aq},Kp fz h fz' h'->h'.DictOf knd a kvs->MR fz' h' a m) :
  wpAny Md A (eval (.Dict (oC x ks 0) (cz vn x vs ks.length) x.pos) env) (PE B Z s Q) aw s:=by
 have k:bI s.heap (s.heap.push mS):=bI.push _ _;have hn:(s.heap.push mS).get? s.heap.objs.size=some mS:=kb _ rfl;have c1:Ct d A env gl vn (BW B λa=>a=s.heap.objs.size) J Z { s with heap:=s.heap.push mS }:=
  ⟨c.R,c.K.block _,c.G.block k (λa e=>dA e.symm) λa e=>⟨_,e▸hn⟩,c.L.block c.K k λa e=>dA e.symm⟩
 refine wpAny_Dict_walk (knd:=knd) (MW _ _) (by rw[yM,Fb,hl]) (λz=>hne (nD.mp (by rw[<-yM (x:=x) ks 0,z];rfl))) (by rw[yM];exact ai hsz (by decide))
  (bT (ih x 0 ks.length c1 hk hl hc h) λps s' hp=>?_)
 refine cG hp λus Z' f rp q=>?_;refine ar (bj q) λm hm q=>?_;refine cm (key hm rp) λkvs h1 h2 h3=>?_;have hd:s'.heap.get? s.heap.objs.size=some mS:=(f.x.keep _ _ hn (c.G.none_big (aC _)) λq=>q).1;refine⟨kvs,h1,(K1 (knd:=knd) s.heap).at λo ho=>(dy (hn.symm.trans ho))▸hd,λh' hD hs=>?_⟩;rw[merged_nil_of_nodup _ h2]at hD;have r:=h3 (FO (m:=m) hs) hD;exact⟨.ref s.heap.objs.size,ak Z' s.heap.objs.size m,⟨f.g.fill (c.G.free_big (aC _)) hs r,f.x.new_but (aC _) k hs⟩,rfl,q _ (f.g.none_of_blocked (.inr rfl))⟩
theorem Un{a b c:Str}(n1:a≠b)(n2:a≠c)(n3:b≠c):[a,b,c].Nodup:=
 have m1:∀{x y:Str},x≠y->x ∉ [y]:=λn z=>n (cJ.mp z)
 x6.mpr ⟨λz=>(cp.mp z).elim n1 (m1 n2),x6.mpr ⟨m1 n3,x6.mpr ⟨λz=>(nm z),Cn⟩⟩⟩
theorem Wa{a b c:Str}{us:List V}{ps:List (ag×ag)}(rp:xf fz h [.str a,.str b,.str c] us ps):∃x y z u1 u2 u3 t1 t2 t3,us=[x,y,z]/\ps=[(.str a t1,u1),(.str b t2,u2),(.str c t3,u3)]/\VR fz h x u1/\VR fz h y u2/\VR fz h z u3:=by
 obtain⟨x,us,_,u1,ps,rfl,rfl,⟨t1,rfl⟩,r1,rp⟩:=rp;obtain⟨y,us,_,u2,ps,rfl,rfl,⟨t2,rfl⟩,r2,rp⟩:=rp;obtain⟨z,us,_,u3,ps,rfl,rfl,⟨t3,rfl⟩,r3,rfl,rfl⟩:=rp;exact⟨x,y,z,u1,u2,u3,t1,t2,t3,rfl,rfl,r1,r2,r3⟩
theorem Rk{b:Bool}{k1 k2:V}{ks us:List V}{m:M}(hm:gY b (k1::k2::ks) us=some m):∃a b c,[k1,k2]++ks=[.str a,.str b,.str c]/\a≠b/\a≠c/\b≠c/\∀x y z,us=[x,y,z]->m=.dS 3 λj=>if j=a then some x else if j=b then some y else if j=c then some z else none:=by
 refine ar (a8 hm) λa ha hm=>?_;refine ar (a8 hm) λb hb hm=>?_;refine ar (a8 hm) λk3 h3 hm=>?_;refine ar (a8 hm) λc hc hm=>?_;cases us with
 |nil=>exact nn hm
 |cons u us=>
  refine ar (a8 hm) λp hp hm=>?_;obtain⟨hn,rfl⟩:=iy hm;refine⟨a,b,c,by rw[qf ha,qf hb,vG h3,qf hc];rfl,hn.1,hn.2.1,hn.2.2,λx y z e=>?_⟩;cases e
  cases hp
  rfl
theorem UG{b:Bool}{ks:List V}{vs:List E}(ih:SD C d vs):SE C d (.dct b ks vs):=by
 intro A env gl vn B J Z s x Q c hc h;have h123:=av (av hc).1;have h12:=av h123.1;have hl:=eq_of_beq h12.2;cases ks with
 |nil=>
  cases nD.mp hl.symm
  have h:aK (gY b [] []) λm=>∀a,Z a=none->Q (.ref a) (ak Z a m):=h;refine ar (bj h) λm hm q=>?_;have k:bI s.heap (s.heap.push mS):=bI.push _ _;have fin:MR (Fz (ak Z s.heap.objs.size m) B) (s.heap.push mS) s.heap.objs.size m->PE B Z s Q (.ref s.heap.objs.size) { s with heap:=s.heap.push mS }:=λr=>
   ⟨.ref s.heap.objs.size,_,⟨c.G.alloc k (aC _) r,.alloc (aC _) iT k rfl rfl⟩,rfl,q _ (c.G.none_big (aC _))⟩
  refine wpAny_Dict_empty (fin ?_);cases b with
  |true=>(injection hm with hm;subst hm);exact⟨[],Yn s.heap,aC _,λx hx=>(nm hx),λj=>rfl⟩
  |false=>(injection hm with hm;subst hm);exact⟨[],K1 s.heap,aC _,λj=>rfl⟩
 |cons k1 ks=>
  cases ks with
  |nil=>
   refine FF (knd:=intKind cy w) c ih (λz=>nc z) h12.1 hl (av hc).2 h (of_decide_eq_true h123.2) λhm rp=>?_;refine ar (a8 hm) λi hi hm=>?_;obtain⟨v,hv,rfl⟩:=cN hm;obtain rfl:=eX hi;cases vG hv
   obtain⟨_,_,a,u,ps,e1,rfl,⟨t,rfl⟩,rv,rfl,rfl⟩:=rp;injection e1 with e1;subst e1
   exact⟨[(i,u)],⟨vz i t,rfl,trivial⟩,x6.mpr ⟨λz=>(nm z),Cn⟩,λk hD=>⟨_,hD,aC _,λj=>OR.cons (rv.mono k) rfl⟩⟩
  |cons k2 ks=>
   refine FF (knd:=Cv cy w) c ih (λz=>nc z) h12.1 hl (av hc).2 h (of_decide_eq_true h123.2) λhm rp=>?_;refine I6 (Rk hm) λa b c e n1 n2 n3 hm=>?_;rw[show k1::k2::ks = _ from e]at rp;obtain⟨x,y,z,u1,u2,u3,t1,t2,t3,e2,rfl,r1,r2,r3⟩:=Wa rp;rw[hm x y z e2];exact⟨[(a,u1),(b,u2),(c,u3)],⟨zY a t1,rfl,zY b t2,rfl,zY c t3,rfl,trivial⟩,Un n1 n2 n3,λk hD=>⟨_,hD,aC _,λj=>OR.cons (r1.mono k) (OR.cons (r2.mono k) (OR.cons (r3.mono k) rfl))⟩⟩
end
end
section
open PySem PySem.W PyProof.Rows PySem.SeqAt PySem.Calls
section
variable{B W L:aq->Prop}{Z Z' Z1 Z2:ae}{h h':Heap}{s s' s'' s₁ s₂:aB}{A:bD}{fz fz':aq->Prop}
structure jB(W:aq->Prop)(s s':aB):Prop where
 keep:∀b o,¬W b->s.heap.get? b=some o->s'.heap.get? b=some o
 gens:s'.gens=s.gens
 os:s'.os=s.os
theorem yQ{it:aq}(hw:W it)(hs:fJ it h h'):∀b o,¬W b->h.get? b=some o->h'.get? b=some o:=λb o n e=>(hs.2 b λq=>n (q▸hw)).trans e
theorem jB.same{it:aq}{tk:Nat}(hw:W it)(hs:fJ it s.heap h'):jB W s { s with heap:=h',toks:=tk }:=⟨yQ hw hs,rfl,rfl⟩
theorem jB.but{it:aq}{tk:Nat}(hw:W it)(hs:Heap.ExtBut it s.heap h'):jB W s { s with heap:=h',toks:=tk }:=⟨λb o n e=>hs b o (λq=>n (q▸hw)) e,rfl,rfl⟩
theorem yv{it:aq}(tW:∀b,W b->∃o,s.heap.get? b=some o)(hs:fJ it s.heap h')(hi:∃o,h'.get? it=some o):∀b,W b->∃o,h'.get? b=some o:=λb hb=>
 (kY (b=it)).elim (λq=>q▸hi) λq=>(tW b hb).imp λo ho=>(hs.2 b q).trans ho
def Io(A:bD)(B W:aq->Prop)(Z:ae)(s:aB)(target:Expr)(it:aq)(I:(aq->Prop)->Heap->Nat->Prop)(i:Nat)(r:Option V)(r':Option ag):aB->Prop:=λs₁=>match r' with
 |none=>r=none/\jB W s s₁
 |some y=>wpAny Md A (letOwnedTupleGo target (.ref it) y) (λ_ s₂=>∃v,r=some v/\jB W s s₂/\(∀b,W b->∃o,s₂.heap.get? b=some o)/\VR (Fz Z B) s₂.heap v y/\I (Fz Z B) s₂.heap (i+1)) aw s₁
structure iO(W:aq->Prop)(tt:Bool)(it:aq)(is:IS)(I:(aq->Prop)->Heap->Nat->Prop):Prop where
 mono:∀{fz fz':aq->Prop}{h h':Heap}{i:Nat},Kp fz h fz' h'->(∀a o,W a->h.get? a=some o->h'.get? a=some o)->I fz h i->I fz' h' i
 self:∀{A:bD}{Q:ag->aB->Prop}{s:aB}{fz:aq->Prop}{i:Nat},I fz s.heap i->Q (.ref it) s->wpAny Md A (pyIter (.ref it)) Q aw s
 step:∀{A:bD}{B:aq->Prop}{Z:ae}{s:aB}{i:Nat}{r:Option V}{target:Expr},A.handled=none->aE B Z s.heap->(∀a,W a->B a)->(tt=true->∃elts x1 pos,target=.Tuple elts x1 pos)->(∀b,W b->∃o,s.heap.get? b=some o) ->
  I (Fz Z B) s.heap i->fo Z is i=some r->wpAny Md A (pyNext (.ref it)) (Io A B W Z s target it I i r) aw s
def m5(la:aq)(src:IS)(fz:aq->Prop)(h:Heap):Prop:=match src with
 |.vals l=>fz la/\∃vs,h.PlainList la vs.toArray/\aN fz h l vs
 |.live a=>la=a
 |.enum _=>False
theorem m5.mono{la:aq}{src:IS}(k:Kp fz h fz' h')(S:m5 la src fz h):m5 la src fz' h':=by
 cases src with
 |vals l=>obtain⟨f,vs,p,r⟩:=S;exact⟨(iK k f p).1,vs,(iK k f p).2,r.mono k⟩
 |live a=>exact S
 |enum s=>exact S
theorem m5.at{la:aq}{src:IS}{i:Nat}{r:Option V}(G:aE B Z h)(S:m5 la src (Fz Z B) h)(e:fo Z src i=some r):∃l vs,l[i]?=r/\h.PlainList la vs.toArray/\aN (Fz Z B) h l vs:=by
 cases src with
 |vals l=>obtain⟨_,vs,p,q⟩:=S;exact⟨l,vs,dy e,p,q⟩
 |live a=>
  refine ar (cN e) λl hl e1=>?_;subst S;obtain⟨_,_,vs,p,_,q⟩:=G.cells _ _ (rU hl);exact⟨l,vs,e1,p,q⟩
 |enum s=>exact S.elim
theorem sa{l:List V}{vs:List ag}{i:Nat}(r:aN fz h l vs)(e:l[i]?=none):vs.toArray[i]?=none:=by
 rw[ub,Jm,r.length];exact Jm.mp e
theorem sb{l:List V}{vs:List ag}{i:Nat}{v:V}(r:aN fz h l vs)(e:l[i]?=some v):∃y,vs.toArray[i]?=some y/\VR fz h v y:=by
 refine ar (r.get e) λy hy ry=>?_;exact⟨y,by rw[ub];exact hy,ry⟩
theorem Pw{it la:aq}{src:IS}{tt:Bool}(hw:W it):iO W tt it src λfz h i=>m5 la src fz h/\h.IsListIter it la i where
 mono k kw I:=⟨I.1.mono k,I.2.at λo e=>kw _ o hw e⟩
 self I q:=wpAny_pyIter_listiter I.2 q
 step:=@λA B Z s i r target hh G hW ht tW I e=>by
  refine cG (I.1.at G e) λl vs el p rs=>?_;cases r with
  |none=>exact wpAny_pyNext_list_end hh I.2 p.isList (sa rs el) λh' hs=>⟨rfl,.but (tk:=s.toks) hw hs⟩
  |some v=>
   refine ar (sb rs el) λy hy ry=>?_;refine wpAny_pyNext_list_item I.2 p.isList hy λh' t' hs=>letGo_listiter t' ?_;have k:=nW (Z:=Z) hW (yQ hw hs);exact⟨v,rfl,.same (tk:=s.toks) hw hs,yv tW hs (t'.elim λo q=>⟨o,q.1⟩),ry.mono k,I.1.mono k,t'⟩
theorem Py{it la:aq}{l:List V}{vs:List ag}{tt:Bool}(hw:W it):iO W tt it (.vals l) λfz h i=>fz la/\IsTup h la vs.toArray/\aN fz h l vs/\h.IsTupleIter it la i where
 mono k kw I:=⟨(mQ k I.1 I.2.1).1,(mQ k I.1 I.2.1).2,I.2.2.1.mono k,I.2.2.2.at λo e=>kw _ o hw e⟩
 self I q:=wpAny_pyIter_tupleiter I.2.2.2 q
 step:=@λA B Z s i r target hh G hW ht tW I e=>by
  refine nC I λf p rs t=>?_;have el:l[i]?=r:=dy e;cases r with
  |none=>exact wpAny_pyNext_tuple_end hh t p (sa rs el) λh' hs=>⟨rfl,.but (tk:=s.toks) hw hs⟩
  |some v=>
   refine ar (sb rs el) λy hy ry=>?_;refine wpAny_pyNext_tuple_item t p hy λh' t' hs=>letGo_tupleiter t' ?_;have k:=nW (Z:=Z) hW (yQ hw hs);exact⟨v,rfl,.same (tk:=s.toks) hw hs,yv tW hs (t'.elim λo q=>⟨o,q.1⟩),ry.mono k,(mQ k f p).1,(mQ k f p).2,rs.mono k,t'⟩
theorem Mt{target:Expr}{I:aq}{x left step:Int}{v:ag}{Q:Unit->aB->Prop}(hit:IsRangeIter s.heap I x left step)(h:Q () s):wpAny Md A (letOwnedTupleGo target (.ref I) v) Q aw s:=by
 unfold letOwnedTupleGo;cases target<;>first
  |exact a9 h
  |(cases v<;>first
    |exact a9 h
    |exact aG (wpAny_load hit (a9 h)))
theorem zV{step:Int}:∀{n:Nat}{lo:Int}{j:Nat},(cA lo step n)[j]?=if j<n then some (.int (lo+j*step)) else none:=by
 intro n;induction n with
 |zero=>intro lo j;rfl
 |succ n ih=>
  intro lo j;cases j with
  |zero=>rw[if_pos (fh n)];show some (V.int lo) = _;rw[show((0:Nat):Int)*step=0 from uy _,pI]
  |succ j=>
   show(cA (lo+step) step n)[j]? = _;rw[ih];by_cases q:j<n
   ·rw[if_pos q,if_pos (nJ q),hV,CK,show((1:Nat):Int)*step=step from rL _,nL (j*step) step,my]
   ·rw[if_neg q,if_neg λz=>q (fe z)]
theorem Px{it:aq}{a step:Int}{n:Nat}{tt:Bool}(hw:W it):iO W tt it (.vals (cA a step n)) λfz h i=>i<=n/\IsRangeIter h it (a+i*step) ((n:Int)-i) step where
 mono k kw I:=⟨I.1,kw _ _ hw I.2⟩
 self I q:=wpAny_pyIter_rangeiter I.2 q
 step:=@λA B Z s i r target hh G hW ht tW I e=>by
  have el:(cA a step n)[i]?=r:=dy e;rw[zV]at el;by_cases hp:i<n
  ·rw[if_pos hp]at el;refine wpAny_pyNext_range_item I.2 (Int.sub_pos.mpr (dN.mpr hp)) λh' t' hs=>Mt t' ?_;refine⟨_,el.symm,.same hw hs,yv tW hs ⟨_,t'⟩,⟨_,rfl⟩,hp,?_⟩;rw[hV,CK,show((1:Nat):Int)*step=step from rL _,<-my,<-Int.sub_sub];exact t'
  ·rw[if_neg hp]at el;exact wpAny_pyNext_range_end hh I.2 (J0 (gy.mpr (bc.mp hp))) λh' hs=>⟨el.symm,.but (tk:=s.toks) hw hs⟩
theorem Gi{a b:V}{x y:ag}{p:aq}(f:fz p)(t:IsTup h p #[x,y])(ra:VR fz h a x)(rb:VR fz h b y):VR fz h (.tup [a,b]) (.ref p):=
 ⟨p,[x,y],rfl,f,t,(by decide:2<=aJ),x,[y],rfl,ra,y,[],rfl,rb,rfl⟩
theorem NV{en it la:aq}{src:IS}(hw:W en)(hw2:W it)(ne:en≠it):iO W true en (.enum src) λfz h i=>m5 la src fz h/\(∃old,IsEnum h en it i old)/\h.IsListIter it la i where
 mono k kw I:=⟨I.1.mono k,I.2.1.imp λo q=>kw _ _ hw q,I.2.2.at λo e=>kw _ o hw2 e⟩
 self I q:=I.2.1.elim λo t=>KI t q
 step:=@λA B Z s i r target hh G hW ht tW I e=>by
  obtain⟨elts,x1,pos,rfl⟩:=ht rfl;obtain⟨S,⟨old,t⟩,u⟩:=I;obtain⟨r0,e0,e⟩:=cN e;obtain⟨l,vs,el,p,rs⟩:=S.at G e0;cases r0 with
  |none=>subst e;exact wpAny_pyNext_enum_end hh t u p.isList (sa rs el) λh' hs=>⟨rfl,.but (tk:=s.toks) hw2 hs⟩
  |some v=>
   subst e;obtain⟨y,hy,ry⟩:=sb rs el;refine wpAny_pyNext_enum_item t u p.isList hy ne λh' t' u' hn hz hk=>wpAny_letOwnedTupleGo_enum t' λh2 t2 hs=>?_;have hk2:∀b o,¬W b->s.heap.get? b=some o->h2.get? b=some o:=λb o n e=>(hs.2 b λq=>n (q▸hw)).trans (hk b o (λq=>n (q▸hw)) (λq=>n (q▸hw2)) e);have hn2:=(hs.2 _ (nX (gQ (ki t)))).trans hn;have k:=nW (Z:=Z) hW hk2;have hu2:=u'.at λo e=>(hs.2 _ (nX ne)).trans e;refine⟨_,rfl,⟨hk2,rfl,rfl⟩,λb hb=>?_,Gi G.new_fz ⟨_,hn2,rfl,_,rfl⟩ ⟨_,rfl⟩ (ry.mono k),S.mono k,⟨_,by rw[hV];exact t2⟩,hu2⟩;by_cases q1:b=en
   ·exact⟨_,q1▸t2⟩
   ·by_cases q2:b=it
    ·exact q2▸hu2.elim λo q=>⟨o,q.1⟩
    ·exact(tW b hb).imp λo ho=>(hs.2 b q1).trans (hk b o q1 q2 ho)
theorem QU:∀{l l':List V}{i:Nat},(oR l l')[i]?=l[i]?.bind λa=>l'[i]?.map λb=>.tup [a,b]:=by
 intro l;induction l with
 |nil=>intro l' i;rfl
 |cons a l ih=>
  intro l' i;cases l' with
  |nil=>cases (a::l)[i]?<;>rfl
  |cons b l'=>cases i with
   |zero=>rfl
   |succ i=>exact ih
theorem Pz{z TI TO i1 i2 l1 l2:aq}{l l':List V}{xs ys:List ag}(D:ZipApart z TI TO i1 i2 l1 l2)(w1:W z)(w2:W TI)(w3:W TO)(w4:W i1)(w5:W i2):iO W true z (.vals (oR l l')) λfz h i=>
  (fz l1/\fz l2/\h.PlainList l1 xs.toArray/\h.PlainList l2 ys.toArray/\aN fz h l xs/\aN fz h l' ys)/\IsZip h z TI TO .none/\IsPair h TI (.ref i1) (.ref i2)/\(∃a b,IsPair h TO a b)/\h.IsListIter i1 l1 i/\h.IsListIter i2 l2 i where
 mono k kw I:=⟨⟨(iK k I.1.1 I.1.2.2.1).1,(iK k I.1.2.1 I.1.2.2.2.1).1,(iK k I.1.1 I.1.2.2.1).2,(iK k I.1.2.1 I.1.2.2.2.1).2,I.1.2.2.2.2.1.mono k,I.1.2.2.2.2.2.mono k⟩,
  kw _ _ w1 I.2.1,kw _ _ w2 I.2.2.1,I.2.2.2.1.imp λa q=>q.imp λb q=>kw _ _ w3 q,I.2.2.2.2.1.at λo e=>kw _ o w4 e,I.2.2.2.2.2.at λo e=>kw _ o w5 e⟩
 self I q:=K0 I.2.1 q
 step:=@λA B Z s i r target hh G hW ht tW I e=>by
  obtain⟨elts,x1,pos,rfl⟩:=ht rfl;obtain⟨Jaa,z0,p1,⟨a,b,p2⟩,t1,t2⟩:=I;obtain⟨f1,f2,q1,q2,r1,r2⟩:=id Jaa;have el:(oR l l')[i]?=r:=dy e;rw[QU]at el;have endc:∀I:(aq->Prop)->Heap->Nat->Prop,(l[i]?=none\/l'[i]?=none)->r=none->wpAny Md A (pyNext (.ref z)) (Io A B W Z s (.Tuple elts x1 pos) z I i r) aw s:=λI hc hr=>
   wpAny_pyNext_zip_end hh D z0 p1 p2 t1 t2 q1.isList q2.isList (hc.imp (sa r1) (sa r2)) λh' hk=>⟨hr,⟨λc o n e=>hk c o (λq=>n (q▸w1)) (λq=>n (q▸w3)) (λq=>n (q▸w4)) (λq=>n (q▸w5)) e,rfl,rfl⟩⟩
  cases ha:l[i]? with
  |none=>rw[ha]at el;exact endc _ (.inl ha) el.symm
  |some va=>
   cases hb:l'[i]? with
   |none=>rw[ha,hb]at el;exact endc _ (.inr hb) el.symm
   |some vb=>
    rw[ha,hb]at el;obtain⟨y1,hy1,ry1⟩:=sb r1 ha;obtain⟨y2,hy2,ry2⟩:=sb r2 hb;refine wpAny_pyNext_zip_item D z0 p1 p2 t1 t2 q1.isList q2.isList hy1 hy2 λh' z' p2' t1' t2' hn hz hk=>wpAny_letOwnedTupleGo_zip z' λh2 z2 hs=>?_;have hk2:∀c o,¬W c->s.heap.get? c=some o->h2.get? c=some o:=λc o n e=>(hs.2 c λq=>n (q▸w1)).trans (hk c o (λq=>n (q▸w1)) (λq=>n (q▸w3)) (λq=>n (q▸w4)) (λq=>n (q▸w5)) e);have hn2:=(hs.2 _ (nX (gQ (ki z0)))).trans hn;have k:=nW (Z:=Z) hW hk2;have hTO:IsPair h2 TO y1 y2:=(hs.2 TO D.TOz).trans p2';have ht1:=t1'.at λo e=>(hs.2 _ D.i1z).trans e;have ht2:=t2'.at λo e=>(hs.2 _ D.i2z).trans e;refine⟨_,el.symm,⟨hk2,rfl,rfl⟩,λc hc=>?_,Gi G.new_fz ⟨_,hn2,rfl,_,rfl⟩ (ry1.mono k) (ry2.mono k),
     ⟨f1,f2,(iK k f1 q1).2,(iK k f2 q2).2,r1.mono k,r2.mono k⟩,z2,(hs.2 TI D.TIz).trans (hk TI _ D.TIz D.TITO D.TIi1 D.TIi2 p1),⟨_,_,hTO⟩,ht1,ht2⟩
    by_cases c1:c=z
    ·exact⟨_,c1▸z2⟩
    ·by_cases c2:c=TO
     ·exact⟨_,c2▸hTO⟩
     ·by_cases c3:c=i1
      ·exact c3▸ht1.elim λo q=>⟨o,q.1⟩
      ·by_cases c4:c=i2
       ·exact c4▸ht2.elim λo q=>⟨o,q.1⟩
       ·exact(tW c hc).imp λo ho=>(hs.2 c c1).trans (hk c o c1 c2 c3 c4 ho)
end
end
section
open PySem PySem.W PyProof.Rows PySem.SeqAt PySem.Calls
section
variable{C:ax}{d:Nat}{B W L:aq->Prop}{Z Z' Z1 Z2:ae}{h h':Heap}{s s' s'' s₁ s₂:aB}{A:bD}{env:Env}{gl vn:List Str}{J:aj}{tt:Bool}
def eZ(W B:aq->Prop)(Z:ae)(s:aB):Prop:=∀a,W a->¬B a/\∀o,s.heap.get? a=some o->Z a=none->False
theorem eZ.size(G:aE B Z s.heap)(hw:∀a,W a->s.heap.objs.size<=a):eZ W B Z s:=λa ha=>⟨G.free_big (hw a ha),λo ho _=>absurd rfl (jS (hw a ha) ho)⟩
theorem eZ.lift(x:bK gJ Z s Z' s')(f:eZ W B Z' s'):eZ W B Z s:=λa ha=>⟨(f a ha).1,λo ho z=>have q:=x.keep a o ho z λq=>q;(f a ha).2 o q.1 q.2⟩
theorem eZ.sub{W2:aq->Prop}(f:eZ W B Z s)(i:∀a,W2 a->W a):eZ W2 B Z s:=λa ha=>f a (i a ha)
theorem eZ.or{W2:aq->Prop}(f:eZ W B Z s)(g:eZ W2 B Z s):eZ (λa=>W a\/W2 a) B Z s:=λa ha=>ha.elim (f a) (g a)
theorem bK.fresh(x:bK gJ Z s Z1 s₁)(f:eZ L B Z s)(y:bK L Z1 s₁ Z2 s₂):bK gJ Z s Z2 s₂:=
 ⟨λa o e z n=>have q:=x.keep a o e z n;y.keep a o q.1 q.2 λz'=>(f a z').2 o e z,λ_ q=>q.elim,y.gens.trans x.gens,y.os.trans x.os⟩
theorem bK.step(x:bK gJ Z s Z' s')(f:eZ W B Z s)(st:jB W s' s''):bK gJ Z s Z' s'':=
 ⟨λa o e z n=>have q:=x.keep a o e z n;⟨st.keep a o (λq=>(f a q).2 o e z) q.1,q.2⟩,λ_ q=>q.elim,st.gens.trans x.gens,st.os.trans x.os⟩
def PI(B:aq->Prop)(Z:ae)(s:aB)(tt:Bool)(Q:IS->ae->Prop):ag->aB->Prop:=
 λitv s₂=>∃(it:aq)(W:aq->Prop)(is:IS)(I:(aq->Prop)->Heap->Nat->Prop)(Z':ae),itv=.ref it/\aE (BW B W) Z' s₂.heap/\eZ W B Z s/\bK gJ Z s Z' s₂/\iO W tt it is I/\I (Fz Z' (BW B W)) s₂.heap 0/\Q is Z'
theorem PI.lift{Q:IS->ae->Prop}{y:ag}(x:bK gJ Z s Z' s')(p:PI B Z' s' tt Q y s''):PI B Z s tt Q y s'':=by
 refine XM p λit W is I Z2 e g hw x2 k=>?_;exact⟨it,W,is,I,Z2,e,g,hw.lift x,x.trans x2,k⟩
theorem zK{t:Sem ag}{Q:IS->ae->Prop}(x:bK gJ Z s Z' s')(h:wpAny Md A t (PI B Z' s' tt Q) aw s''):wpAny Md A t (PI B Z s tt Q) aw s'':=bT h λ_ _ p=>p.lift x
theorem PI.new{Q:IS->ae->Prop}{it:aq}{is:IS}{I:(aq->Prop)->Heap->Nat->Prop}{tk:Nat}(W:aq->Prop)(G:aE B Z s.heap)(k:bI s.heap h')(hw:∀a,W a->s.heap.objs.size<=a)(ho:∀a,W a->∃o,h'.get? a=some o)(it_ok:iO W tt it is I)
  (st:Kp (Fz Z B) s.heap (Fz Z (BW B W)) h'->I (Fz Z (BW B W)) h' 0) (q:Q is Z):PI B Z s tt Q (.ref it) { s with heap:=h',toks:=tk }:=
 ⟨it,W,is,I,Z,rfl,G.block k hw ho,.size G hw,.of_keeps iT k rfl rfl,it_ok,st (r9 k hw),q⟩
theorem PI.push{Q:IS->ae->Prop}{o:Obj}{is:IS}{I:(aq->Prop)->Heap->Nat->Prop}(G:aE B Z s.heap)(it_ok:iO (λa=>a=s.heap.objs.size) tt s.heap.objs.size is I)(st:(s.heap.push o).get? s.heap.objs.size=some o->Kp (Fz Z B) s.heap (Fz Z (BW B λa=>a=s.heap.objs.size)) (s.heap.push o)->I (Fz Z (BW B λa=>a=s.heap.objs.size)) (s.heap.push o) 0)(hx:o.dict=none\/True)(q:Q is Z)(hn:(s.heap.push o).get? s.heap.objs.size=some o) :
  PI B Z s tt Q (.ref s.heap.objs.size) { s with heap:=s.heap.push o }:=
 PI.new (tk:=s.toks) (λa=>a=s.heap.objs.size) G (bI.push _ _) (λa e=>dA e.symm) (λa e=>⟨o,e▸hn⟩) it_ok (st hn) q
theorem HE(G:aE B Z s.heap){v:V}{y:ag}{is:IS}(r:VR (Fz Z B) s.heap v y)(e:Ay Z v=some is):∃la vs,y=.ref la/\s.heap.IsList la vs/\m5 la is (Fz Z B) s.heap:=by
 cases v<;>try (exact nn e;done)
 ·injection e with e;subst e
  refine o7 r λa vs rfl f p hz rs=>?_;exact⟨a,_,rfl,p.isList,f,vs,p,rs⟩
 ·obtain⟨l,hl,rfl⟩:=cN e;obtain⟨_,_,vs,p,_⟩:=G.cells _ _ (rU hl);exact⟨_,_,r,p.isList,rfl⟩
theorem FY{is:IS}{v:V}{y:ag}{Q:IS->ae->Prop}(G:aE B Z s.heap)(r:VR (Fz Z B) s.heap v y)(e:Ay Z v=some is)(q:Q is Z):wpAny Md A (pyIter y) (PI B Z s tt Q) aw s:=by
 obtain⟨la,vs,rfl,hl,S⟩:=HE G r e;exact xX hl (PI.push G (Pw rfl) (λhn k=>⟨S.mono k,_,hn,rfl,rfl⟩) (.inr trivial) q (kb _ rfl))
theorem Ua{l:List V}{y:ag}{Q:IS->ae->Prop}(G:aE B Z s.heap)(r:VR (Fz Z B) s.heap (.tup l) y)(q:Q (.vals l) Z):wpAny Md A (pyIter y) (PI B Z s tt Q) aw s:=by
 obtain⟨c,vs,rfl,f,p,hz,rs⟩:=r;exact wpAny_pyIter_tuple p (PI.push G (Py (la:=c) (vs:=vs) rfl) (λhn k=>⟨(mQ k f p).1,(mQ k f p).2,rs.mono k,_,hn,rfl,rfl⟩) (.inr trivial) q (kb _ rfl))
theorem n8{i:Int}(h1:-10000000<=i)(h2:i<=10000000):XR i=true:=
 f7.mpr ⟨decide_eq_true (kj (by decide) h1),decide_eq_true (Kl h2 (by decide))⟩
theorem vF{a:Int}(h:eD a=true):-1048576<=a/\a<=1048576:=⟨@of_decide_eq_true _ (q7 _) (av h).1,@of_decide_eq_true _ (q7 _) (av h).2⟩
theorem qu{a:Int}(h1:-1048576<=a)(h2:a<=1048576):eD a=true:=f7.mpr ⟨@decide_eq_true _ (q7 _) h1,@decide_eq_true _ (q7 _) h2⟩
theorem AJ{p:Prop}[Decidable p]{x c:Int}(h:p->0<=x)(hc:0<=c):0<=(if p then x/c+1 else 0):=by
 by_cases q:p
 ·rw[if_pos q];exact Lh (Int.ediv_nonneg (h q) hc) (by decide)
 ·rw[if_neg q];exact mB 0
theorem AI{p:Prop}[Decidable p]{x c:Int}(h:p->0<=x)(l:x<=9999999):(if p then x/c+1 else 0)<=10000000:=by
 by_cases q:p
 ·rw[if_pos q];exact Int.add_le_add_right (kj (Int.ediv_le_self c (h q)) l) 1
 ·rw[if_neg q];decide
theorem Gx{a b c:Int}(hc:c=1\/c=2\/c = -1):0<=t9 a b c:=by
 unfold t9;rcases hc with rfl|rfl|rfl
 ·rw[if_pos (by decide)];exact AJ i1 (by decide)
 ·rw[if_pos (by decide)];exact AJ i1 (by decide)
 ·rw[if_neg (by decide)];exact AJ i1 (by decide)
theorem S1{a b c:Int}(ha:eD a=true)(hb:eD b=true)(hc:c=1\/c=2\/c = -1):t9 a b c<=10000000:=by
 have ha:=vF ha;have hb:=vF hb;unfold t9;have l:=@au [] [a,b] (.li (.s (.s .v1 .v0) .k1) (.k 9999999)) 1 [(1,.li .v1 (.k 1048576)),(1,.li (.o (.k 1048576)) .v0)] rfl hb.2 ha.1;rcases hc with rfl|rfl|rfl
 ·rw[if_pos (by decide)];exact AI i1 l
 ·rw[if_pos (by decide)];exact AI i1 l
 ·rw[if_neg (by decide)];exact AI i1 (au [] [_,_] (.li (.s (.s .v1 .v0) .k1) (.k 9999999)) 1 [(1,.li .v1 (.k 1048576)),(1,.li (.o (.k 1048576)) .v0)] rfl ha.2 hb.1)
theorem QB{a b c:Int}(ha:eD a=true)(hb:eD b=true)(hc:c=1\/c=2\/c = -1):Kc a b c=true:=by
 have hs:=S1 ha hb hc;have ha:=vF ha;have hb:=vF hb;unfold Kc;rw[n8 (by exact au [] [_] (.li (.o (.k 10000000)) .v0) 1 [(1,.li (.o (.k 1048576)) .v0)] rfl ha.1) (by exact au [] [_] (.li .v0 (.k 10000000)) 1 [(1,.li .v0 (.k 1048576))] rfl ha.2),n8 (i:=b) (by exact au [] [_] (.li (.o (.k 10000000)) .v0) 1 [(1,.li (.o (.k 1048576)) .v0)] rfl hb.1) (by exact au [] [_] (.li .v0 (.k 10000000)) 1 [(1,.li .v0 (.k 1048576))] rfl hb.2),n8 (i:=c) (by rcases hc with rfl|rfl|rfl<;>decide) (by rcases hc with rfl|rfl|rfl<;>decide),n8 (kj (by decide) (Gx hc)) hs];rcases hc with rfl|rfl|rfl
 ·rw[if_pos (by decide),n8 (by exact au [] [_] (.li (.o (.k 10000000)) (.a .v0 (.s .k1 .k1))) 1 [(1,.li (.o (.k 1048576)) .v0)] rfl hb.1) (by exact au [] [_] (.li (.a .v0 (.s .k1 .k1)) (.k 10000000)) 1 [(1,.li .v0 (.k 1048576))] rfl hb.2),Cz];rfl
 ·rw[if_pos (by decide),n8 (by exact au [] [_] (.li (.o (.k 10000000)) (.a .v0 (.s (.k 2) .k1))) 1 [(1,.li (.o (.k 1048576)) .v0)] rfl hb.1) (by exact au [] [_] (.li (.a .v0 (.s (.k 2) .k1)) (.k 10000000)) 1 [(1,.li .v0 (.k 1048576))] rfl hb.2),Cz];rfl
 ·rw[if_neg (by decide),n8 (by exact au [] [_] (.li (.o (.k 10000000)) (.a .v0 (.a (.o .k1) .k1))) 1 [(1,.li (.o (.k 1048576)) .v0)] rfl hb.1) (by exact au [] [_] (.li (.a .v0 (.a (.o .k1) .k1)) (.k 10000000)) 1 [(1,.li .v0 (.k 1048576))] rfl hb.2),Cz];rfl
theorem Pq{r:aq}{a b c:Int}{t u v:Tok}{Q:IS->ae->Prop}(G:aE B Z s.heap)(hr:IsRange s.heap r a b c t u v)(ha:eD a=true)(hb:eD b=true)(hc:c=1\/c=2\/c = -1)(q:Q (.vals (mV a b c)) Z):wpAny Md A (pyIter (.ref r)) (PI B Z s tt Q) aw s:=by
 have z:=Gx (a:=a) (b:=b) hc;refine wpAny_pyIter_range hr (QB ha hb hc) (PI.push G (Px (a:=a) (step:=c) (n:=(t9 a b c).toNat) rfl) (λhn k=>⟨bJ _,?_⟩) (.inr trivial) q (kb _ rfl));rw[nE z,show((0:Nat):Int)=0 from rfl,uy,pI,Int.sub_zero];exact hn
variable(C d)
def SI(it:It):Prop:=∀{A:bD}{env:Env}{gl vn:List Str}{B:aq->Prop}{J:aj}{Z:ae}{s:aB}(x:Expr){t:T}{Q:IS->ae->Prop},Ct d A env gl vn B J Z s->Bg gl vn it x=true->A2 it t=true->WI C it J Z Q ->
 wpAny Md A (eval (oY vn it x) env) (λxv s₁=>wpAny Md A (pyIter xv) (PI B Z s (vU t) Q) aw s₁) aw s
variable{C d}
theorem HC{e:E}(ih:SE C d e):SI C d (.seq e):=by
 intro A env gl vn B J Z s x t Q c hc ht h;refine seq (ih x c hc h) λv Z' y s' f r q=>zK f.x ?_;refine ar (bj q) λis hi q2=>?_;cases v<;>try (exact nn hi;done)
 ·(injection hi with hi;subst hi);exact Ua f.g r q2
 ·exact FY (v:=.list _) f.g r hi q2
 ·exact FY (v:=.ref _) f.g r hi q2
theorem yL(id:String):sY (λ_=>True) (.type id):=λ_ _=>⟨.machine,.inr (.inl rfl),.of_pure rfl⟩
set_option tactic.hygienic true in
theorem M7{vs:List V}{ys:List ag}{ns:List Int}{l:List V}(r:aN (Fz Z B) s.heap vs ys)(en:eN vs=some ns)(el:jT ns=some l)(G:aE B Z s.heap){Q:IS->ae->Prop}(q:Q (.vals l) Z) :
  wpAny Md A (call (.type "range") ys) (λxv s₁=>wpAny Md A (pyIter xv) (PI B Z s tt Q) aw s₁) aw s:=by
 refine aT (p8 r en) λhi hl=>?_;have go:∀{o:Obj}{tk:Nat}{a b c:Int}{t u v:Tok},IsRange (s.heap.push o) s.heap.objs.size a b c t u v->eD a=true->eD b=true->(c=1\/c=2\/c = -1)->mV a b c=l->wpAny Md A (pyIter (.ref s.heap.objs.size)) (PI B Z s tt Q) aw { s with heap:=s.heap.push o,toks:=tk }:=@λo tk a b c t u v hr ha hb hc e=>by
  have f:Af B Z s Z { s with heap:=s.heap.push o,toks:=tk }:=.heap G (bI.push s.heap _) _;exact zK f.x (Pq f.g hr ha hb hc (e▸q))
 cases ns with
 |nil=>exact nn el
 |cons a ns=>
  cases hi
  rename_i t1 _ hi
  cases ns with
  |nil=>
   cases hi
   refine aT (iy el) λho e=>?_;exact call_range_1 (go (CM ..) (qu (by decide) (by decide)) ho (.inl rfl) e)
  |cons b ns=>
   cases hi
   rename_i t2 _ hi
   cases ns with
   |nil=>
    cases hi
    refine aT (iy el) λho e=>?_;exact call_range_2 (go (CM ..) ho.1 ho.2 (.inl rfl) e)
   |cons c ns=>
    cases hi
    rename_i t3 _ hi
    cases ns with
    |cons=>exact nn el
    |nil=>
     cases hi
     refine aT (iy el) λho e=>?_;exact call_range_3 (by rcases ho.2 with rfl|rfl<;>decide) (go (CM ..) ho.1.1 ho.1.2 (.inr ho.2) e) (.inl (by rcases ho.2 with rfl|rfl<;>exact JE (by decide)))
theorem E5(H:bF cx){es:List E}(ih:jd C d es):SI C d (.range es):=by
 intro A env gl vn B J Z s x t Q c hc ht h;have h12:=av (av hc).1;refine qa (k8 H c h12.1 (by decide) (show bootBuiltins "range"=some (.type "range") by kernel_rfl) (kZ (yL _) ?_));refine kI (ih x 1 c (av hc).2 h) λvs Z' ys s' f r q=>⟨trivial,?_⟩
 refine aT q λ_ q=>?_;refine ar (bj q) λns en q=>?_;refine ar (bj q) λl el q=>?_;exact bT (M7 r en el f.g q) λxv s₁ k=>zK f.x k
theorem Gv(H:bF cx){e:E}(ih:SE C d e):SI C d (.enum e):=by
 intro A env gl vn B J Z s x t Q c hc ht h;cases t with
 |v i=>exact bn ht
 |tup ts=>
 refine qa (es:=[e]) (k8 H c (av hc).1 (by decide) (show bootBuiltins "enumerate"=some (.type "enumerate") by kernel_rfl) (kZ (yL _) ?_));show wpAny _ _ (spliced [(false,eval _ env)]) _ _ s;refine spliced_cons (seq (ih (ay x 1) c (av hc).2 h) λv Z' y s' f r q=>spliced_nil ⟨trivial,?_⟩);show wpAny _ _ (call (.type "enumerate") [y]) _ _ _;refine ar (bj q) λis hi q=>?_;obtain⟨la,vs,rfl,hl,S⟩:=HE f.g r hi;refine call_enumerate_list hl λh' t1 t2 hsz k=>KI t1 (PI.lift f.x ?_);refine PI.new (tk:=s'.toks) (λa=>a=s'.heap.objs.size\/a=s'.heap.objs.size+1) f.g k (λa e=>e.elim (λe=>dA e.symm) λe=>e▸eM _) (λa e=>e.elim (λe=>e▸t2.elim λo q=>⟨o,q.1⟩) λe=>e▸⟨_,t1⟩)
  (NV (.inr rfl) (.inl rfl) (kg _)) (λk=>⟨S.mono k,⟨_,t1⟩,t2⟩) q
theorem Ah{n i j:Nat}(h:i≠j):n+i≠n+j:=λe=>h (uh e)
theorem wq{n l k:Nat}(h:l<n):l≠n+k:=gQ (aQ h (aL n k))
theorem HD(H:bF cx){e e2:E}(ih:SE C d e)(ih2:SE C d e2):SI C d (.zip e e2):=by
 intro A env gl vn B J Z s x t Q c hc ht h;cases t with
 |v i=>exact bn ht
 |tup ts=>
 have h12:=av (av hc).1;refine qa (es:=[e,e2]) (k8 H c h12.1 (by decide) (show bootBuiltins "zip"=some (.type "zip") by kernel_rfl) (kZ (yL _) ?_));show wpAny _ _ (spliced [(false,eval _ env),(false,eval _ env)]) _ _ s;refine spliced_cons (seq (ih (ay x 1) c h12.2 h) λv Z' y s' f r q=>?_);refine spliced_cons (seq (ih2 (ay x 2) (c.af f) (av hc).2 q) λv2 Z2 y2 s₂ f2 r2 q2=>spliced_nil ⟨trivial,?_⟩);show wpAny _ _ (call (.type "zip") [y,y2]) _ _ _;refine ar (bj q2) λl e1 q2=>?_;refine ar (bj q2) λl' e3 q2=>?_;have r:=f2.vr r;rw[lj e1]at r;rw[lj e3]at r2;obtain⟨c1,xs,rfl,hf,hp,hz,rs⟩:=r;obtain⟨c2,ys,rfl,hf2,hp2,hz2,rs2⟩:=r2;refine call_zip_2 hp.isList hp2.isList λh' z p1 p2 t1 t2 hsz k=>K0 z (PI.lift (f.trans f2).x ?_);have l1:c1<s₂.heap.objs.size:=hp.elim λn ho=>ki ho;have l2:c2<s₂.heap.objs.size:=hp2.elim λn ho=>ki ho;have D:ZipApart (s₂.heap.objs.size+4) (s₂.heap.objs.size+2) (s₂.heap.objs.size+3) s₂.heap.objs.size (s₂.heap.objs.size+1) c1 c2:=by
  constructor<;>first|exact Ah (by decide)|exact Ah (i:=0) (by decide)|exact Ah (j:=0) (by decide)|exact wq l1|exact wq l2|exact wq (k:=0) l1|exact wq (k:=0) l2
 refine PI.new (tk:=s₂.toks) (λa=>a=s₂.heap.objs.size\/a=s₂.heap.objs.size+1\/a=s₂.heap.objs.size+2\/a=s₂.heap.objs.size+3\/a=s₂.heap.objs.size+4) f2.g k (λa e=>by rcases e with rfl|rfl|rfl|rfl|rfl<;>first|exact aC _|exact aL _ _) (λa e=>?_)
  (Pz (xs:=xs) (ys:=ys) D (.inr (.inr (.inr (.inr rfl)))) (.inr (.inr (.inl rfl))) (.inr (.inr (.inr (.inl rfl)))) (.inl rfl) (.inr (.inl rfl))) (λk=>⟨⟨(iK k hf hp).1,(iK k hf2 hp2).1,(iK k hf hp).2,(iK k hf2 hp2).2,rs.mono k,rs2.mono k⟩,z,p1,⟨_,_,p2⟩,t1,t2⟩) q2
 rcases e with rfl|rfl|rfl|rfl|rfl
 ·exact t1.elim λo q=>⟨o,q.1⟩
 ·exact t2.elim λo q=>⟨o,q.1⟩
 ·exact⟨_,p1⟩
 ·exact⟨_,p2⟩
 ·exact⟨_,z⟩
end
end
section
open PySem PySem.W PyProof.Rows PySem.SeqAt PySem.Calls
theorem HK{y:Str}{r:List Str}{j:Nat}{p:Prop}(n:gW (y::r)=true)(h:j+1<(y::r).length)(e:bq r j=y):p:=by
 have m:=mI (fe h);rw[e]at m;rw[gW,m]at n;exact bn n
theorem Ti:∀{vn:List Str}{i j:Nat},gW vn=true->i<vn.length->j<vn.length->bq vn i=bq vn j->i=j:=λ{vn}=>@(li (λ{_ _}_ h=>absurd h (dM _))
 (λy r ih{i j}n=>nz (nz (λ_ _ _=>rfl) (λj _ h e=>HK n h e.symm) j) (λi=>nz (λh _ e=>HK n h e) (λj h h2 e=>congrArg (·+1) (ih (av n).2 (fe h) (fe h2) e)) j) i) vn)
theorem Gl:∀{J:aj}{i:Nat}{v:V},i<J.length->rd (wr J i v) i=some v
 |[],_,_,h=>absurd h (dM _)
 |_::_,0,_,_=>rfl
 |_::r,i+1,_,h=>Gl (J:=r) (fe h)
theorem wu:∀{J:aj}{i j:Nat}{v:V},j≠i->rd (wr J i v) j=rd J j
 |[],_,_,_,_=>rfl
 |_::_,0,0,_,h=>absurd rfl h
 |_::_,0,_+1,_,_=>rfl
 |_::_,_+1,0,_,_=>rfl
 |_::r,i+1,j+1,_,h=>wu (J:=r) λe=>h (congrArg (·+1) e)
theorem rZ:∀{J:aj}{i:Nat}{v:V},(wr J i v).length=J.length
 |[],_,_=>rfl
 |_::_,0,_=>rfl
 |_::r,i+1,v=>congrArg (·+1) (rZ (J:=r))
section
variable{d:Nat}{B W L:aq->Prop}{Z Z':ae}{h h':Heap}{s s' s'':aB}{A:bD}{env:Env}{gl vn:List Str}{J:aj}
def ef(env:Env)(a:aq):Prop:=a=env.locals\/∃x,env.cells.lookup x=some a
theorem eG.ownB(K:eG env gl vn B):∀a,ef env a->B a:=λa ha=>ha.elim (λe=>e▸K.locB) λq=>q.elim λx hx=>(K.cellB x a hx).1
structure PS(B:aq->Prop)(env:Env)(vn:List Str)(Z:ae)(s:aB)(L:aq->Prop)(J:aj)(s':aB):Prop where
 g:aE B Z s'.heap
 x:bK L Z s Z s'
 l:cQ (Fz Z B) env vn J s'.heap
def qo(env:Env)(L:aq->Prop)(x:Str):Prop:=(env.kindOf x=some .local/\L env.locals)\/(env.kindOf x=some .cell/\∀a,ef env a->L a)
theorem y9{a:aq}{tk:Nat}(G:aE B Z s.heap)(hL:∀a,L a->B a)(ha:L a)(hs:fJ a s.heap h')(hi:∃o,h'.get? a=some o) :
  aE B Z h'/\bK L Z s Z { s with heap:=h',toks:=tk }/\Kp (Fz Z B) s.heap (Fz Z B) h':=
 have w:∀b,b=a->B b:=λb e=>e▸hL a ha;have k:∀b o,¬b=a->s.heap.get? b=some o->h'.get? b=some o:=λb o n e=>(hs.2 b n).trans e
 ⟨G.touch w k λb e=>e▸hi,⟨λb o e z n=>⟨k b o (λq=>n (q▸ha)) e,z⟩,λb hb q=>⟨(kY (b=a)).elim (λe=>e▸hi) λn=>q.imp λo e=>k b o n e,G.none_of_blocked (hL b hb)⟩,rfl,rfl⟩,nW w k⟩
theorem vy{fz:aq->Prop}{i j:Nat}{v:V}{z:Option ag}(n:j≠i)(q:jx fz h (rd J j) z):jx fz h (rd (wr J i v) j) z:=by rw[wu n];exact q
theorem EG{fz:aq->Prop}{i:Nat}{v:V}{y:ag}(hi:i<J.length)(r:VR fz h v y):jx fz h (rd (wr J i v) i) (some y):=by rw[Gl hi];exact λu e=>⟨y,rfl,dy e▸r⟩
theorem so{i:Nat}{v:V}{y:ag}{Q:Unit->aB->Prop}(K:eG env gl vn B)(G:aE B Z s.heap)(R:cQ (Fz Z B) env vn J s.heap)(hL:∀a,L a->B a)(hi:i<vn.length)(hk:qo env L (bq vn i))
  (r:VR (Fz Z B) s.heap v y) (h:∀s',PS B env vn Z s L (wr J i v) s'->Q () s'):wpAny Md A (storeName env (bq vn i) y) Q aw s:=by
 refine ar R.loc λm hn hv=>?_;have hl:=R.len;have hr:i<J.length:=hl▸hi;have ne:∀j,j<vn.length->j≠i->bq vn j≠bq vn i:=λj hj n e=>n (Ti K.nodup hj hi e);rcases hk with⟨hk,hl0⟩|⟨hk,hl0⟩
 ·refine wpAny_storeName_local hk hn (λh' hn' hs=>h _ ?_) (by rw[K.kind];rfl);refine g8 (y9 (tk:=s.toks+1) G hL hl0 hs (hn'.elim λo q=>q.elim λ_ q=>q.elim λ_ q=>⟨o,q.1⟩)) λg x k=>?_;refine⟨g,x,rZ.trans hl,_,hn',λj hj=>?_⟩;by_cases q:j=i
  ·subst q;exact .inl ⟨hk,by show jx (Fz Z B) h' _ (if _ then _ else _);rw[if_pos rfl];exact EG hr (r.mono k)⟩
  ·rcases hv j hj with z|⟨z,c,u,hc,⟨o,ho,hd⟩,p⟩
   ·exact .inl ⟨z.1,by show jx (Fz Z B) h' _ (if _ then _ else _);rw[if_neg (ne j hj q)];exact vy q (z.2.mono k)⟩
   ·exact .inr ⟨z,c,u,hc,⟨o,(hs.2 c (K.cellB _ _ hc).2).trans ho,hd⟩,vy q (p.mono k)⟩
 ·rcases hv i hi with z|⟨_,c,u,hc,hcell,_⟩
  ·rw[hk]at z;cases z.1
  ·refine wpAny_storeName_cell K.kind hk hc hcell λh' hc' hs=>h _ ?_;refine g8 (y9 (tk:=s.toks) G hL (hl0 c (.inr ⟨_,hc⟩)) hs (hc'.elim λo q=>⟨o,q.1⟩)) λg x k=>?_;refine⟨g,x,rZ.trans hl,m,hn.sameBut hs (K.cellB _ _ hc).2.symm,λj hj=>?_⟩;by_cases q:j=i
   ·subst q;exact .inr ⟨.inl hk,c,some y,hc,hc',EG hr (r.mono k)⟩
   ·rcases hv j hj with z|⟨z,c2,u2,hc2,hcell2,p⟩
    ·exact .inl ⟨z.1,vy q (z.2.mono k)⟩
    ·exact .inr ⟨z,c2,u2,hc2,hcell2.sameBut hs λe=>ne j hj q (K.cellI _ _ _ hc2 (e▸hc)),vy q (p.mono k)⟩
def xc(A:bD)(env:Env)(vn:List Str):List Nat->List (ag->Sem Unit)->Prop
 |[],fs=>fs=[]
 |i::is,fs=>∃f fs',fs=f::fs'/\(∀(y:ag)(P:Unit->aB->Prop)(s:aB),wpAny Md A (storeName env (bq vn i) y) P aw s->wpAny Md A (f y) P aw s)/\xc A env vn is fs'
theorem Ow{x:Expr}:∀(is:List Nat)(n:Nat),xc A env vn is ((assignEach (gk vn x is n) env).map (·.2)):=λrr=>li (λ_=>rfl)
 (λ_ is ih n=>⟨_,_,rfl,λ_ _ _ h=>xW h,ih (n+1)⟩) rr
theorem QE:∀(is:List Nat),xc A env vn is ((is.map (bq vn)).map λn=>bindName env n):=λrr=>li (rfl)
 (λ_ is ih=>⟨_,_,rfl,λ_ _ _ h=>wpAny_bindName h,ih⟩) rr
theorem D9(K:eG env gl vn B)(hL:∀a,L a->B a):∀{is:List Nat}{fs:List (ag->Sem Unit)}{vs:List V}{ys:List ag}{J:aj}{s:aB}{Q:Unit->aB->Prop},xc A env vn is fs->(∀i∈is,i<vn.length/\qo env L (bq vn i))->is.length=vs.length->aE B Z s.heap->cQ (Fz Z B) env vn J s.heap ->
   aN (Fz Z B) s.heap vs ys->(∀s',PS B env vn Z s L (fZ J is vs) s'->Q () s')->wpAny Md A (assignInOrder fs ys) Q aw s:=by
 intro is;induction is with
 |nil=>
  intro fs vs ys J s Q hf _ hl G R r h;subst hf;cases nD.mp hl.symm
  subst r;exact a9 (h s ⟨G,.refl λa ha=>G.none_of_blocked (hL a ha),R⟩)
 |cons i is ih=>
  intro fs vs ys J s Q hf hi hl G R r h;cases vs with
  |nil=>cases hl
  |cons v vs=>
   obtain⟨y,ys,rfl,rv,r⟩:=r;obtain⟨f,fs,rfl,hf1,hf⟩:=hf;refine aG (ic (hf1 _ _ _ (so K G R hL (hi i (.head _)).1 (hi i (.head _)).2 rv λs₁ p=>?_)));exact ih hf (λj hj=>hi j (.tail _ hj)) (iH hl) p.g p.l (r.mono (p.x.kp hL)) λs' p'=>h s' ⟨p'.g,p.x.trans p'.x,p'.l⟩
theorem MP{x:Expr}:∀(is:List Nat)(n:Nat),(assignEach (gk vn x is n) env).findIdx? (·.1)=none/\(assignEach (gk vn x is n) env).length=is.length:=λrr=>li (λ_=>⟨rfl,rfl⟩)
 (λi is ih₁ n=>by
  have ih:=ih₁ (n+1);refine⟨?_,congrArg (·+1) ih.2⟩;show List.findIdx? _ ((false,assign (.Name (bq vn i) _) env)::assignEach (gk vn x is (n+1)) env)=none;rw[List.findIdx?_cons,ih.1];rfl) rr
theorem nU{n:Nat}{is:List Nat}(h:wX n is=true):∀i∈is,i<n:=λi hi=>of_decide_eq_true (dU.mp (av h).1 i hi)
theorem Fc{x:Expr}{is:List Nat}{vs:List V}{y:ag}{k:Nat}{p:Pos}{Q:Unit->aB->Prop}(hh:A.handled=none)(K:eG env gl vn B)(hL:∀a,L a->B a)(G:aE B Z s.heap)(R:cQ (Fz Z B) env vn J s.heap)
  (hi:∀i∈is,i<vn.length/\qo env L (bq vn i)) (hl:is.length=vs.length) (r:VR (Fz Z B) s.heap (.tup vs) y) (h:∀s',PS B env vn Z s L (fZ J is vs) s'->Q () s'):wpAny Md A (assign (.Tuple (gk vn x is 0) k p) env y) Q aw s:=by
 obtain⟨a,ys,rfl,hf,ht,hz,rs⟩:=r;obtain⟨q1,q2⟩:=MP (env:=env) (vn:=vn) (x:=x) is 0;refine assign_Tuple_tuple hh ht (by rw[q2,hl,dT,rs.length]) q1 λh' he=>?_;have k:bI s.heap h':=λb o e=>he b o (gQ (ki e)) e;have x0:bK L Z s Z { s with heap:=h' }:=.of_keeps (λa ha=>G.none_of_blocked (hL a ha)) k rfl rfl;exact D9 (s:={ s with heap:=h' }) K hL (Ow is 0) hi hl (G.keeps k) (R.keep K (λa o _ e=>k a o e) k.kp) (rs.mono k.kp) λs' p=>h s' ⟨p.g,x0.trans p.x,p.l⟩
noncomputable def xj(t:T):List Nat:=match t with
 |.v i=>[i]
 |.tup is=>is
theorem Ec{x:Expr}{t:T}{v:V}{y:ag}{J':aj}{Q:Unit->aB->Prop}(hh:A.handled=none)(K:eG env gl vn B)(hL:∀a,L a->B a)(G:aE B Z s.heap)(R:cQ (Fz Z B) env vn J s.heap)
  (hc:tU vn.length t=true) (hk:∀i∈xj t,qo env L (bq vn i)) (r:VR (Fz Z B) s.heap v y) (e:d8 t v J=some J') (h:∀s',PS B env vn Z s L J' s'->Q () s'):wpAny Md A (assign (nq vn t x) env y) Q aw s:=by
 cases t with
 |v i=>
  injection e with e;subst e
  exact xW (so K G R hL (of_decide_eq_true hc) (hk i (.head _)) r h)
 |tup is=>
  refine ar (a8 e) λvs e1 e=>?_;obtain⟨hl,rfl⟩:=iy e;obtain rfl:=nZ e1;exact Fc hh K hL G R (λi hi=>⟨nU hc i hi,hk i hi⟩) hl r h
end
end
section
open PySem PySem.W PyProof.Rows PySem.SeqAt PySem.Calls
noncomputable def iB(env:Env):List (Str×k7)->List (Str×aq)->List (Str×aq)
 |[],acc=>acc
 |p::r,acc=>if p.2==.free then iB env r ((p.1,(env.cells.lookup p.1).getD 0)::acc) else iB env r acc
theorem L3(env:Env):∀(names:List (Str×k7))(acc:List (Str×aq)),(∀n,(n,hZ)∈names->∃c,env.cells.lookup n=some c) ->
  (forIn names acc λx cs=>(if (x.2==hZ)=true then do let c <-cellOf env x.1;pure (nK ((x.1,c)::cs)) else pure (nK cs):Sem (ForInStep (List (Str×aq)))))=(pure (iB env names acc):Sem (List (Str×aq))):=by
 intro names;induction names with
 |nil=>intro acc _;rfl
 |cons p r ih=>
  intro acc h;rw[K3,iB];by_cases hk:(p.2==hZ)=true
  ·refine bA (h p.1 (eq_of_beq hk▸.head _)) λc hc=>?_;rw[if_pos hk,if_pos hk,show cellOf env p.1=pure c from by unfold cellOf;rw[hc]];simp only[pure_bind];rw[ih _ λm hm=>h m (.tail _ hm),hc];rfl
  ·rw[if_neg hk,if_neg hk];simp only[pure_bind];exact ih _ λm hm=>h m (.tail _ hm)
theorem MN{env:Env}{sc:Scope}(h:∀n,(n,hZ)∈sc.names->∃c,env.cells.lookup n=some c):closureFor sc env=pure (iB env sc.names []):=by
 unfold closureFor;have:=L3 env sc.names [] h;show(forIn sc.names [] _ >>= λcs=>pure cs) = _;rw[this];rfl
theorem Rh(env:Env){x:Str}:∀(names:List (Str×k7))(acc:List (Str×aq)),((x,hZ)∈names\/acc.lookup x=some ((env.cells.lookup x).getD 0))->(iB env names acc).lookup x=some ((env.cells.lookup x).getD 0):=by
 intro names;induction names with
 |nil=>intro acc h;exact h.elim (λz=>nm z) id
 |cons p r ih=>
  intro acc h;rw[iB];by_cases hk:(p.2==hZ)=true
  ·rw[if_pos hk];refine ih _ ?_;by_cases hx:x=p.1
   ·right;rw[fy,hx,beq_self_eq_true]
   ·refine h.imp (λz=>(cp.mp z).elim (λe=>absurd (congrArg OK e) hx) id) λz=>?_;rw[fy,jl hx];exact z
  ·rw[if_neg hk];refine ih _ (h.imp (λz=>(cp.mp z).elim (λe=>absurd (by rw[<-e];rfl) hk) id) id)
theorem MM(env:Env){x:Str}{c:aq}:∀(names:List (Str×k7))(acc:List (Str×aq)),(iB env names acc).lookup x=some c->acc.lookup x=some c\/((x,hZ)∈names/\c=(env.cells.lookup x).getD 0):=by
 intro names;induction names with
 |nil=>intro acc h;exact .inl h
 |cons p r ih=>
  intro acc h;rw[iB]at h;by_cases hk:(p.2==hZ)=true
  ·rw[if_pos hk]at h;rcases ih _ h with z|z
   ·by_cases hx:x=p.1
    ·rw[fy,hx,beq_self_eq_true]at z;exact .inr ⟨by rw[hx,<-eq_of_beq hk];exact .head _,by rw[hx];exact(dy z).symm⟩
    ·rw[fy,jl hx]at z;exact .inl z
   ·exact .inr ⟨.tail _ z.1,z.2⟩
  ·rw[if_neg hk]at h;exact(ih _ h).imp id λz=>⟨.tail _ z.1,z.2⟩
theorem pG{α:Type}{x:Str}{c:α}:∀{l:List (Str×α)},l.lookup x=some c->(x,c)∈l:=by
 intro l;induction l with
 |nil=>intro h;exact nn h
 |cons p l ih=>
  intro h;by_cases hx:x=p.1
  ·rw[fy,hx,beq_self_eq_true]at h;(injection h with h;subst h);rw[hx];exact .head _
  ·rw[fy,jl hx]at h;exact .tail _ (ih h)
theorem CV{env:Env}{k:k7}{x:Str}:∀{names:List (Str×k7)},names.lookup x=some k ->
  (names.map λ(n,k)=>if (k==hZ&&env.scope.kind==.function&&env.kindOf n==some .cell) then(n,uw) else(n,k)).lookup x=some (if (k==hZ&&env.scope.kind==.function&&env.kindOf x==some .cell)=true then .cell else k):=by
 intro names;induction names with
 |nil=>intro h;exact nn h
 |cons p r ih=>
  intro h;obtain⟨n,k'⟩:=p;rw[gx];by_cases hx:x=n
  ·rw[fy,hx,beq_self_eq_true]at h;cases h
   subst hx;show iS x ((if (k==hZ&&env.scope.kind==.function&&env.kindOf x==some .cell)=true then(x,uw) else(x,k))::_) = _;by_cases hc:(k==hZ&&env.scope.kind==.function&&env.kindOf x==some .cell)=true
   ·rw[if_pos hc,if_pos hc,fy,beq_self_eq_true]
   ·rw[if_neg hc,if_neg hc,fy,beq_self_eq_true]
  ·rw[fy,jl hx]at h;show iS x ((if (k'==hZ&&env.scope.kind==.function&&env.kindOf n==some .cell)=true then(n,uw) else(n,k'))::_) = _;rw[<-ih h];by_cases hc:(k'==hZ&&env.scope.kind==.function&&env.kindOf n==some .cell)=true
   ·rw[if_pos hc,fy,jl hx]
   ·rw[if_neg hc,fy,jl hx]
theorem yb{env:Env}{k:k7}{x:Str}{sc:Scope}(hk:(k==hZ)=false)(h:sc.names.lookup x=some k):(relabel sc env).names.lookup x=some k:=by
 refine(CV (env:=env) h).trans ?_;rw[hk];rfl
theorem Me{env:Env}{x:Str}{sc:Scope}(h:sc.names.lookup x=some .free):(relabel sc env).names.lookup x=some .cell\/(relabel sc env).names.lookup x=some .free:=by
 rw[show(relabel sc env).names.lookup x = _ from CV (env:=env) h];split
 ·exact .inl rfl
 ·exact .inr rfl
theorem CF{vn:List Str}{it:It}{x:Expr}{env:Env}(v:ag):foldedSetIterable (oY vn it x) env v=pure v:=by
 cases it with
 |seq e=>cases e<;>rfl
 |range es=>rfl
 |enum e=>rfl
 |zip a b=>rfl
section
variable{A:bD}{R:Result->aB->Prop}{s:aB}
theorem L4{elt target iter:Expr}{ifs:List Expr}{scope:Scope}{pos:Pos}{it acc:ag}{env:Env}(I:Nat->aB->Prop)
  (turn:∀n s,I n s->wpAny Md A (pyNext it) (λr s₁=>match r with
   |none=>R (.ok .next) s₁
   |some v=>wpAny Md A (letOwnedTupleGo target it v) (λ_ s1'=>wpAny Md A (assign target env v) (λ_ s₂=>
     wpAny Md A (forIn ifs true λc r=>if r=true then do let ok <-isTrue c env (eval c env);pure (nK ok) else pure (nK r)) (λok s₃=>
      if ok=true then wpAny Md A (eval elt env) (λx s₄=>
       wpAny Md A (call (.builtin "list.append") [acc,x]) (λ_ s₅=>∃m,m<n/\I m s₅) aw s₄) aw s₃
      else ∃m,m<n/\I m s₃) aw s₂) aw s1') aw s₁) aw s)
  (n:Nat) (h:I n s):codeAny Md A (.compLoop (.ListComp elt [⟨target,iter,ifs,0⟩] scope pos) 0 it acc env) R s:=by
 refine codeAny_loop rfl I (λn s hI=>?_) n h;show wpAny _ A ((compTurn (.ListComp elt [⟨target,iter,ifs,0⟩] scope pos) 0 it acc env).onRaise (λx=>do noteFrame x env;theTreesLotGoes x)) _ _ s;refine wpAny_noted ?_;rw[compTurn_list];have no:∀(e:ag)(s':aB),aw e s'->notedBy Md A env (λe s'=>R (.error e) s') e s':=λ_ _ h=>h.elim;refine aG (pH (aG (ji (turn n s hI) (λr s₁ h₁=>?_) no)));cases r with
 |none=>exact a9 h₁
 |some v=>
  refine aG (ji h₁ (λ_ s1' h1'=>aG (ji h1' (λ_ s₂ h₂=>aG (ji h₂ (λok s₃ h₃=>?_) no)) no)) no);cases ok with
  |false=>exact a9 ⟨rfl,h₃⟩
  |true=>exact aG (aG (ji h₃ (λx s₄ h₄=>aG (ji h₄ (λ_ s₅ h₅=>a9 (a9 ⟨rfl,h₅⟩)) no)) no))
end
section
variable{h h':Heap}{B B':aq->Prop}{fz fz':aq->Prop}{env:Env}{gl vn own:List Str}{caps:List Nat}{J:aj}{sc:Scope}{Caa:aq}
structure tB(sc:Scope)(cs own:List Str):Prop where
 kind:sc.kind=.function
 free:∀x∈cs,sc.names.lookup x=some .free
 loc:∀x∈own,sc.names.lookup x=some .local
 nocell:∀p∈sc.names,p.2≠.cell
 frees:∀p∈sc.names,p.2=.free->cs.contains p.1=true
 glob:∀x∈kF sc,sc.names.lookup x=some .globalImplicit
 locs:∀p∈sc.names,p.2=.local->sc.names.lookup p.1=some .local
 own:∀x∈own,(x==("__debug__":Str))=false/\(x==("__classdict__":Str))=false
 gn:∀x∈kF sc,(x==("__debug__":Str))=false/\x≠"__name__"/\(x==("super":Str))=false
theorem Al{a b:Bool}(h:(!a||b)=true)(e:a=true):b=true:=by rw[e]at h;exact h
theorem gX{a:Bool}(h:(!a)=true):a=false:=by cases a<;>first|rfl|exact bn h
theorem L5{cs:List Str}(h:Ds sc cs own=true):tB sc cs own:=by
 refine aT (av h) λh _=>?_;refine aT (av h) λh _=>?_;refine aT (av h) λh h10=>?_;refine aT (av h) λh h9=>?_;refine aT (av h) λh h8=>?_;refine aT (av h) λh _=>?_;refine aT (av h) λh h6=>?_;refine aT (av h) λh h5=>?_;refine aT (av h) λh h4=>?_;refine aT (av h) λh h3=>?_;refine aT (av h) λh1 h2=>?_;exact⟨eq_of_beq h1,λx hx=>eq_of_beq (dU.mp h2 x hx),λx hx=>eq_of_beq (dU.mp h3 x hx),λp hp e=>absurd (dU.mp h4 p hp) (by rw[e];decide),
  λp hp e=>Al (dU.mp h5 p hp) (by rw[e];rfl),λx hx=>eq_of_beq (dU.mp h6 x hx),λp hp e=>eq_of_beq (Al (dU.mp h8 p hp) (by rw[e];rfl)),
  λx hx=>have z:=av (dU.mp h9 x hx);⟨gX z.1,gX z.2⟩,λx hx=>have z:=av (dU.mp h10 x hx);have y:=av z.1;⟨gX y.1,bne_iff_ne.mp y.2,gX z.2⟩⟩
theorem TB{r:aj}(hr:r.length=own.length):∀{caps:List Nat}{i:Nat},i<(d9 vn caps own).length->(∃j∈caps,bq (d9 vn caps own) i=bq vn j/\rd (caps.map (rd J)++r) i=rd J j)\/(caps.length<=i/\∃k,k<own.length/\bq (d9 vn caps own) i=bq own k/\rd (caps.map (rd J)++r) i=rd r k):=by
 intro caps;induction caps with
 |nil=>intro i h;exact .inr ⟨bJ _,i,h,rfl,rfl⟩
 |cons j caps ih=>
  intro i h;cases i with
  |zero=>exact .inl ⟨j,.head _,rfl,rfl⟩
  |succ i=>
   rcases ih (fe h) with⟨j',m,e1,e2⟩|⟨z,k,hk,e1,e2⟩
   ·exact .inl ⟨j',.tail _ m,e1,e2⟩
   ·exact .inr ⟨cK z,k,hk,e1,e2⟩
theorem vZ:∀{n k:Nat},rd (aR n none) k=none
 |0,_=>rfl
 |_+1,0=>rfl
 |n+1,k+1=>vZ (n:=n)
theorem Uq:∀{caps:List Nat}{i:Nat},caps.length<=i->rd (caps.map (rd J)++aR own.length none) i=none/\(i<(d9 vn caps own).length->bq (d9 vn caps own) i∈own)
 :=λ{caps}=>@(li (λ{i}_=>⟨vZ,λh=>fG.mp (mI h)⟩) (λ_ caps ih{i}=>nz (λh=>absurd h (xH _)) (λi h=>⟨(ih (pj h)).1,λq=>(ih (pj h)).2 (fe q)⟩) i) caps)
structure qw(gl vn:List Str)(caps:List Nat):Prop where
 lt:∀j∈caps,j<vn.length
 gl:∀j∈caps,gl.contains (bq vn j)=true
theorem Ep(K:eG env gl vn B)(L:cQ fz env vn J h)(O:qw gl vn caps){j:Nat}(hj:j∈caps):∃c z,env.cells.lookup (bq vn j)=some c/\h.IsCell c z/\jx fz h (rd J j) z:=by
 refine ar L.loc λm _ hv=>?_;rcases hv j (O.lt j hj) with q|⟨_,q⟩
 ·exact(K.caps _ (O.gl j hj) (mI (O.lt j hj))).elim (λe=>nomatch q.1.symm.trans e) λe=>nomatch q.1.symm.trans e
 ·exact q
theorem C7(K:eG env gl vn B)(L:cQ fz env vn J h)(O:qw gl vn caps)(S:tB sc (caps.map (bq vn)) own):∀n,(n,hZ)∈sc.names->∃c,env.cells.lookup n=some c:=λn hm=>by
 obtain⟨j,hj,rfl⟩:=ik.mp (fG.mp (S.frees _ hm rfl));obtain⟨c,_,hc,_⟩:=Ep K L O hj;exact⟨c,hc⟩
theorem vh(K:eG env gl vn B)(L:cQ fz env vn J h)(O:qw gl vn caps)(S:tB sc (caps.map (bq vn)) own){x:Str}{c:aq}(e:(iB env sc.names []).lookup x=some c):env.cells.lookup x=some c:=by
 rcases MM env _ _ e with z|⟨h1,h2⟩
 ·exact nn z
 ·refine bA (C7 K L O S x h1) λc' hc=>?_;rw[hc]at h2 ⊢;rw[h2];rfl
theorem OY(K:eG env gl vn B)(L:cQ fz env vn J h)(O:qw gl vn caps)(S:tB sc (caps.map (bq vn)) own)(hnd:gW (d9 vn caps own)=true)
  (hC:B' Caa) (hB:∀a,B a->B' a) (hCc:∀x c,env.cells.lookup x=some c->c≠Caa):eG (compEnvC sc (iB env sc.names []) Caa env) (kF sc) (d9 vn caps own) B':=by
 have mg:∀{x},gu (kF sc) (d9 vn caps own) x=true->x∈kF sc:=λhx=>fG.mp (av hx).1;refine⟨S.kind,K.glob,K.blt,λx hx=>yb rfl (S.glob x (mg hx)),λx hx hv=>?_,hC,hnd,λx c hc=>?_,λx y c h1 h2=>K.cellI x y c (vh K L O S h1) (vh K L O S h2),λx hx=>?_,λx hx=>S.gn x (mg hx)⟩
 ·have h1:=S.glob x (fG.mp hx);exact(gw.mp (fG.mp hv)).elim (λz=>nomatch (S.free x z).symm.trans h1) λz=>nomatch (S.loc x z).symm.trans h1
 ·have z:=vh K L O S hc;exact⟨hB _ (K.cellB x c z).1,hCc x c z⟩
 ·refine(gw.mp (fG.mp hx)).elim (λz=>?_) (S.own x);obtain⟨j,hj,rfl⟩:=ik.mp z;exact K.names _ (mI (O.lt j hj))
theorem OZ(K:eG env gl vn B)(L:cQ fz env vn J h)(O:qw gl vn caps)(S:tB sc (caps.map (bq vn)) own){m:Str->Option ag}(hns:h'.Ns Caa m)(hc:∀x c,env.cells.lookup x=some c->∀o,h.get? c=some o->h'.get? c=some o)(k:Kp fz h fz' h') :
  cQ fz' (compEnvC sc (iB env sc.names []) Caa env) (d9 vn caps own) (caps.map (rd J)++aR own.length none) h':=by
 refine⟨by rw[d9,bB,bB,aY,aY,dq],m,hns,λi hi=>?_⟩;rcases TB (J:=J) (r:=aR own.length none) dq hi with⟨j,hj,e1,e2⟩|⟨_,q,hq,e1,e2⟩
 ·refine cG (Ep K L O hj) λc z c1 pp183_ c3=>?_;obtain⟨o,ho,hd⟩:=pp183_;have hfree:=S.free _ (ik.mpr ⟨j,hj,rfl⟩);rw[e1,e2];refine .inr ⟨Me hfree,c,z,?_,⟨o,hc _ _ c1 _ ho,hd⟩,c3.mono k⟩;show(iB env sc.names []).lookup _ = _;rw[Rh env _ _ (.inl (pG hfree)),c1];rfl
 ·rw[e1,e2,vZ];exact .inl ⟨yb rfl (S.loc _ (fG.mp (mI hq))),λv hv=>nn hv⟩
end
theorem Ff{i:Nat}:∀{is:List Nat}{vs:List V}{J:aj},(fZ J is vs).length=J.length/\(i ∉ is->rd (fZ J is vs) i=rd J i):=by
 intro is;induction is with
 |nil=>intro vs J;exact⟨rfl,λ_=>rfl⟩
 |cons j is ih=>
  intro vs J;cases vs with
  |nil=>exact⟨rfl,λ_=>rfl⟩
  |cons v vs=>
   have z:=ih (vs:=vs) (J:=wr J j v);exact⟨z.1.trans rZ,λn=>(z.2 λm=>n (.tail _ m)).trans (wu λe=>n (e▸.head _))⟩
theorem Nu{t:T}{v:V}{J J':aj}(e:d8 t v J=some J'):J'.length=J.length/\∀i,i ∉ xj t->rd J' i=rd J i:=by
 cases t with
 |v j=>(injection e with e;subst e);exact⟨rZ,λi n=>wu λe=>n (e▸.head _)⟩
 |tup js=>
  refine ar (a8 e) λvs e1 e=>?_;obtain⟨_,rfl⟩:=iy e;exact⟨(Ff (i:=0)).1,λi n=>Ff.2 n⟩
end
section
open PySem PySem.W PyProof.Rows PySem.SeqAt PySem.Calls
section
variable{C:ax}{d:Nat}{B B' W:aq->Prop}{Z Z2 Z3:ae}{h h':Heap}{s s' s₂ s₃:aB}{A:bD}{env cenv:Env}{gl vn:List Str}{J:aj}{Caa D:aq}{tt:Bool}{itA:aq}{is:IS}{I:(aq->Prop)->Heap->Nat->Prop}
theorem QI{ifs:List E}(hl:ifs.length<=1)(ih:∀c,ifs=[c]->ST C d c){x:Expr}{n:Nat}{Q:Bool->ae->Prop}{Q0:QV}(c:Ct d A env gl vn B J Z s)(hc:fC gl vn x ifs n=true)(h:WB C true ifs J Z Q0)(hq:∀v Z,Q0 v Z->aK (kG v) λb=>Q b Z) :
  wpAny Md A (forIn (cz vn x ifs n) true λc r=>if r=true then do let ok <-isTrue c env (eval c env);pure (nK ok) else pure (nK r)) (PT B Z s Q) aw s:=by
 cases ifs with
 |nil=>exact wpAny_tests_nil ⟨Z,.refl c.G,hq _ _ h⟩
 |cons e r=>cases r with
  |nil=>
   have ihe:ST C d e:=ih e rfl;exact wpAny_tests_one (ihe (ay x n) c (av hc).1 h hq)
  |cons=>exact absurd (pj hl) (xH _)
structure CH(d:Nat)(A:bD)(cenv:Env)(gl vn:List Str)(B B' W:aq->Prop)(D Caa:aq)(Z:ae)(s:aB):Prop where
 R:eC A (d+1)
 K:eG cenv gl vn B'
 loc:cenv.locals=Caa
 cB:∀y c,cenv.cells.lookup y=some c->¬W c/\c≠D
 BB:∀a,B a->B' a
 WB:∀a,W a->B' a
 CC:B' Caa
 DD:B' D
 DC:D≠Caa
 WD:¬W D
 WC:¬W Caa
 fr:eZ (λa=>W a\/(a=D\/a=Caa)) B Z s
structure CI(I:(aq->Prop)->Heap->Nat->Prop)(cenv:Env)(vn:List Str)(B':aq->Prop)(D:aq)(Z:ae)(s:aB)(i:Nat)(acc:List V)(J:aj)(Z2:ae)(s':aB):Prop where
 g:aE B' Z2 s'.heap
 x:bK gJ Z s Z2 s'
 k:I (Fz Z2 B') s'.heap i
 p:∃ys,s'.heap.PlainList D ys.toArray/\aN (Fz Z2 B') s'.heap acc ys
 z:acc.length<=aJ
 l:cQ (Fz Z2 B') cenv vn J s'.heap
theorem CI.af{i:Nat}{acc:List V}(H:CH d A cenv gl vn B B' W D Caa Z s)(it:iO W tt itA is I)(c:CI I cenv vn B' D Z s i acc J Z2 s₂)(a:Af B' Z2 s₂ Z3 s₃):CI I cenv vn B' D Z s i acc J Z3 s₃:=by
 have blk:=a.x.blk c.g;refine ar c.p λys pp01_ rs=>?_;obtain⟨n,hp⟩:=pp01_;exact⟨a.g,c.x.trans a.x,it.mono a.x.kp0 (λb o w e=>blk b o (H.WB b w) e) c.k,⟨ys,⟨n,blk D _ H.DD hp⟩,rs.mono a.x.kp0⟩,c.z,c.l.keep H.K blk a.x.kp0⟩
theorem CI.ct{i:Nat}{acc:List V}(H:CH d A cenv gl vn B B' W D Caa Z s)(c:CI I cenv vn B' D Z s i acc J Z2 s₂):Ct d A cenv gl vn B' J Z2 s₂:=⟨H.R,H.K,c.g,c.l⟩
theorem CI.stepped{i j:Nat}{acc:List V}(H:CH d A cenv gl vn B B' W D Caa Z s)(c:CI I cenv vn B' D Z s i acc J Z2 s₂)(st:jB W s₂ s₃)(tW:∀b,W b->∃o,s₃.heap.get? b=some o)(k:I (Fz Z2 B') s₃.heap j):CI I cenv vn B' D Z s j acc J Z2 s₃:=by
 have kp:=nW (Z:=Z2) H.WB st.keep;refine ar c.p λys pp11_ rs=>?_;obtain⟨n,hp⟩:=pp11_;exact⟨c.g.touch H.WB st.keep tW,c.x.step (H.fr.sub λa w=>.inl w) st,k,⟨ys,⟨n,st.keep D _ H.WD hp⟩,rs.mono kp⟩,c.z,c.l.mono (λo e=>st.keep _ o (H.loc▸H.WC) e) (λy b hb o e=>st.keep b o (H.cB y b hb).1 e) kp⟩
theorem CI.bound{i:Nat}{acc:List V}{J':aj}(H:CH d A cenv gl vn B B' W D Caa Z s)(it:iO W tt itA is I)(c:CI I cenv vn B' D Z s i acc J Z2 s₂)(p:PS B' cenv vn Z2 s₂ (λa=>a=Caa) J' s₃):CI I cenv vn B' D Z s i acc J' Z2 s₃:=by
 have kp:Kp (Fz Z2 B') s₂.heap (Fz Z2 B') s₃.heap:=p.x.kp λa e=>e▸H.CC;have blk:∀b o,b≠Caa->B' b->s₂.heap.get? b=some o->s₃.heap.get? b=some o:=λb o n hb e=>(p.x.keep b o e (c.g.none_of_blocked hb) n).1;refine ar c.p λys pp21_ rs=>?_;obtain⟨n,hp⟩:=pp21_;exact⟨p.g,c.x.fresh (H.fr.sub λa e=>.inr (.inr e)) p.x,it.mono kp (λb o w e=>blk b o (λq=>H.WC (q▸w)) (H.WB b w) e) c.k,⟨ys,⟨n,blk D _ H.DC H.DD hp⟩,rs.mono kp⟩,c.z,p.l⟩
theorem CI.push{i:Nat}{acc:List V}{v:V}{y:ag}{ys:List ag}(H:CH d A cenv gl vn B B' W D Caa Z s)(it:iO W tt itA is I)(c:CI I cenv vn B' D Z s i acc J Z2 s₂)(rs:aN (Fz Z2 B') s₂.heap acc ys)(r:VR (Fz Z2 B') s₂.heap v y)(hz:acc.length<aJ)
  (hp:h'.PlainList D (ys++[y]).toArray) (hs:fJ D s₂.heap h'):CI I cenv vn B' D Z s i (acc++[v]) J Z2 { s₂ with heap:=h' }:=by
 refine g8 (y9 (L:=λa=>a=D) (tk:=s₂.toks) c.g (λa e=>e▸H.DD) rfl hs (hp.elim λn e=>⟨_,e⟩)) λg x kp=>?_;exact⟨g,c.x.fresh (H.fr.sub λa e=>.inr (.inl e)) x,it.mono kp (λb o w e=>(hs.2 b λq=>H.WD (q▸w)).trans e) c.k,⟨_,hp,(rs.append (.one r)).mono kp⟩,by rw[bB];exact hz,
  c.l.mono (λo e=>(hs.2 _ λq=>H.DC (q.symm.trans H.loc)).trans e) (λy b hb o e=>(hs.2 b (H.cB y b hb).2).trans e) kp⟩
structure PC(B:aq->Prop)(Z:ae)(s:aB)(Caa:aq)(Q:QV)(y:ag)(v:V)(Z':ae)(s':aB):Prop where
 g:aE (BW B λa=>a=Caa) Z' s'.heap
 x:bK gJ Z s Z' s'
 r:VR (Fz Z' (BW B λa=>a=Caa)) s'.heap v y
 q:Q v Z'
 ns:∃m,s'.heap.Ns Caa m
 fr:eZ (λa=>a=Caa) B Z s
theorem CI.done{i:Nat}{acc:List V}{Q:QV}(H:CH d A cenv gl vn B B' W D Caa Z s)(c:CI I cenv vn B' D Z s i acc J Z2 s₂)(st:jB W s₂ s₃)(q:Q (.list acc) Z2):PC B Z s Caa Q (.ref D) (.list acc) Z2 s₃:=by
 refine ar c.l.loc λm hns _=>?_;rw[H.loc]at hns;refine ar c.p λys pp51_ rs=>?_;obtain⟨n,hp⟩:=pp51_;have hs:∀a,(B a\/a=Caa)->B' a:=λa z=>z.elim (H.BB a) λe=>e▸H.CC;exact⟨c.g.shrink hs H.WB (λa hb hw=>hb.elim (λhb=>absurd hb (H.fr a (.inl hw)).1) λe=>absurd (e▸hw) H.WC) st.keep,c.x.step (H.fr.sub λ_=>.inl) st,
  ⟨D,ys,rfl,⟨c.g.none_of_blocked H.DD,λz=>z.elim (H.fr D (.inr (.inl rfl))).1 H.DC⟩,⟨n,st.keep D _ H.WD hp⟩,c.z,rs.mono (rY hs H.WB st.keep)⟩,q,⟨m,hns.at λo e=>st.keep Caa o H.WC e⟩,H.fr.sub λa e=>.inr (.inr e)⟩
theorem PC.done{Q:QV}{y:ag}{v:V}(p:PC B Z s Caa Q y v Z2 s₂):∃m,s₂.heap.Ns Caa m/\∀h',fJ Caa s₂.heap h'->PE B Z s Q y { s₂ with heap:=h' }:=
 p.ns.imp λm hns=>⟨hns,λh' hs=>
  have k:∀b o,¬b=Caa->s₂.heap.get? b=some o->h'.get? b=some o:=λb o n e=>(hs.2 b n).trans e
  ⟨v,Z2,⟨p.g.shrink (λa=>.inl) (λa=>.inr) (λa hb e=>absurd hb (p.fr a e).1) k,p.x.step p.fr ⟨k,rfl,rfl⟩⟩,p.r.mono (rY (λa=>.inl) (λa=>.inr) k),p.q⟩⟩
theorem Ny{t:T}{ifs:List E}{elt:E}(ihT:∀c,ifs=[c]->ST C d c)(ihE:SE C d elt)(H:CH d A cenv gl vn B B' W D Caa Z s)(it:iO W tt itA is I)(x:Expr){iter:Expr}{sc:Scope}{p:Pos}{Q:QV}{RR:Result->aB->Prop}{k₀:Nat}
  (hifs:ifs.length<=1) (hT:tU vn.length t=true) (htn:∀i∈xj t,qo cenv (λa=>a=Caa) (bq vn i)/\rd J i=none) (hIf:fC gl vn x ifs 3=true) (hElt:bQ gl vn elt (ay x 0)=true) (htt:tt=true->∃elts x1 pos,nq vn t (ay x 1)=.Tuple elts x1 pos)
  (c₀:CI I cenv vn B' D Z s 0 [] J Z2 s₂) (q₀:g0 is t (λJ Z Q=>WB C true ifs J Z Q) (λJ Z Q=>WE C elt J Z Q) J Q k₀ 0 [] Z2)
  (fin:∀v Z' s',PC B Z s Caa Q (.ref D) v Z' s'->RR (.ok .next) s') :
  codeAny Md A (.compLoop (.ListComp (aW vn elt (ay x 0)) [⟨nq vn t (ay x 1),iter,cz vn x ifs 3,0⟩] sc p) 0 (.ref itA) (.ref D) cenv) RR s₂:=by
 refine L4 (λm s'=>∃(i:Nat)(acc:List V)(Z3:ae),CI I cenv vn B' D Z s i acc J Z3 s'/\g0 is t (λJ Z Q=>WB C true ifs J Z Q) (λJ Z Q=>WE C elt J Z Q) J Q m i acc Z3) ?_ k₀ ⟨0,[],Z2,c₀,q₀⟩
 rintro m s' ⟨i,acc,Z3,c,q⟩
 cases m with
 |zero=>exact q.elim
 |succ m=>
 refine ar (bj q) λr e q=>?_;refine bT (it.step H.R.hd c.g H.WB htt (λb hb=>(c.g.blocked b (H.WB b hb)).2) c.k e) λr' s₁ h₁=>?_;cases r' with
 |none=>
  obtain⟨rfl,st⟩:=h₁;exact fin _ _ s₁ (c.done H st q)
 |some y=>
 refine bT h₁ λ_ s₂ h₂=>?_;obtain⟨v,rfl,st,tW,rv,k2⟩:=h₂;obtain⟨J',hb,q⟩:=bj q;have c2:=c.stepped H st tW k2;have bw:=Nu hb;refine Ec (L:=λa=>a=Caa) H.R.hd H.K (λa e=>e▸H.CC) c2.g c2.l hT (λi hi=>(htn i hi).1) rv hb λs₃ p3=>?_;have c3:=c2.bound H it p3;have back:∀{Z3 s'' acc i},CI I cenv vn B' D Z s i acc J' Z3 s''->CI I cenv vn B' D Z s i acc J Z3 s'':=λc=>⟨c.g,c.x,c.k,c.p,c.z,c.l.weak bw.1.symm λi u hu=>(bw.2 i λhi=>nomatch hu.symm.trans (htn i hi).2).trans hu⟩
 refine bT (QI (Q:=λb Z'=>match b with
    |false=>g0 is t (λJ Z Q=>WB C true ifs J Z Q) (λJ Z Q=>WE C elt J Z Q) J Q m (i+1) acc Z'
    |true=>acc.length<aJ/\WE C elt J' Z' λx Z''=>g0 is t (λJ Z Q=>WB C true ifs J Z Q) (λJ Z Q=>WE C elt J Z Q) J Q m (i+1) (acc++[x]) Z'') hifs ihT (c3.ct H) hIf q λv Z' hq=>hq) λok s₄ h₄=>?_
 refine ar h₄ λZ4 f4 q4=>?_;have c4:=c3.af H it f4;cases ok with
 |false=>exact⟨m,bu m,i+1,acc,Z4,back c4,q4⟩
 |true=>
 show wpAny _ _ (eval _ cenv) _ _ _;refine seq (ihE (ay x 0) (c4.ct H) hElt q4.2) λu Z5 z s₅ f5 r5 q5=>?_;have c5:=c4.af H it f5;refine ar c5.p λys hp rs=>?_;refine Jy hp (λh' hp' hs=>?_) (by rw[dT,rs.length];exact gb c5.z);rw[KG]at hp';exact⟨m,bu m,i+1,acc++[u],Z5,back (c5.push H it rs r5 q4.1 hp' hs),q5⟩
theorem Dt{caps:List Nat}{own:List Str}{t:T}{it:It}{ifs:List E}{elt:E}{use:Option (ag->Sem Unit)}{pp:Pos}{Q:QV}{Q':ag->aB->Prop}(ihI:SI C d it)(ihT:∀c,ifs=[c]->ST C d c)(ihE:SE C d elt)(x:Expr)(c:Ct d A env gl vn B J Z s)(hc:bQ gl vn (.comp caps own t it ifs elt) x=true)(h:WE C (.comp caps own t it ifs elt) J Z Q)
  (fin:∀y Caa v Z' s',PC B Z s Caa Q y v Z' s'->compPost Md A aw use Q' y Caa (.ok .next) s') :
  wpAny Md A (comprehension (aW vn (.comp caps own t it ifs elt) x) (jc x) env pp (newList []) false (eval (oY vn it (ay x 2)) env) use) Q' aw s:=by
 refine aT (av hc) λhc hElt=>?_;refine aT (av hc) λhc hIf=>?_;refine aT (av hc) λhc hIt=>?_;refine aT (av hc) λhc hifs=>?_;refine aT (av hc) λhc htt=>?_;refine aT (av hc) λhc htg=>?_;refine aT (av hc) λhc hT=>?_;refine aT (av hc) λhc hnd=>?_;refine aT (av hc) λhc hsc=>?_;refine aT (av hc) λhc hcg=>?_;have S:=L5 hsc;have O:qw gl vn caps:=⟨λj hj=>of_decide_eq_true (dU.mp hc j hj),λj hj=>dU.mp hcg _ (ik.mpr ⟨j,hj,rfl⟩)⟩
 refine wpAny_comprehension_free (use:=use) rfl CF (MN (C7 c.K c.L O S)) S.kind S.locs ?_;refine bT (ihI (ay x 2) c hIt htt h) λxv s₁ h₁=>bT h₁ λitv s₂ h₂=>?_;obtain⟨itA,W,is,I,Z',rfl,g,fr,x0,it_ok,k0,q⟩:=h₂;obtain⟨kk,q⟩:=q;refine wpAny_newObj_type (wpAny_newFunctionEnv S.nocell (λy hy=>nm hy) (λh₁ hns1 hsb1=>?_) S.kind)
 dsimp only at hns1 hsb1 ⊢
 generalize hH2:s₂.heap.push { cls:=.type "list",dict:=none,data:=.seq ([]:List ag).toArray }=H2 at hns1 hsb1 ⊢
 have hCz:H2.objs.size=s₂.heap.objs.size+1:=by rw[<-hH2,Ck]
 have hDC:s₂.heap.objs.size≠H2.objs.size:=by rw[hCz];exact gQ (bu _)
 have old:bI s₂.heap h₁:=λb o e=>hsb1.extBut b o (by rw[hCz];exact gQ (eL (ki e))) (ph _ (hH2▸ph _ e));have hacc:h₁.PlainList s₂.heap.objs.size (([]:List ag).toArray):=⟨_,hsb1.extBut _ _ hDC (ph _ (hH2▸kb _ rfl))⟩
 have hnew:∀a,(a=s₂.heap.objs.size\/a=H2.objs.size)->s₂.heap.objs.size<=a:=λa ha=>ha.elim (λe=>dA e.symm) λe=>by rw[e,hCz];exact eM _
 have hex:∀a,(a=s₂.heap.objs.size\/a=H2.objs.size)->∃o,h₁.get? a=some o:=λa ha=>ha.elim (λe=>e▸hacc.elim λn ho=>⟨_,ho⟩) λe=>e▸hns1.elim λo q=>q.elim λ_ q=>q.elim λ_ q=>⟨o,q.1⟩
 have frN:eZ (λa=>a=s₂.heap.objs.size\/a=H2.objs.size) B Z s:=(eZ.size g.unblock hnew).lift x0;have f1:Af (BW B W) Z' s₂ Z' { s₂ with heap:=h₁,toks:=s₂.toks+([]:List (Str×ag)).length }:=.heap g old _;have x1:=x0.trans f1.x;have frA:=fr.or frN;have key:Kp (Fz Z B) s.heap (Fz Z' (BW (BW B W) λa=>a=s₂.heap.objs.size\/a=H2.objs.size)) h₁:=λa o f e=>by
  obtain⟨e',z⟩:=x1.keep a o e f.1 λq=>q;exact⟨⟨z,λq=>q.elim (λq=>q.elim f.2 λq=>(fr a q).2 o e f.1) λq=>(frN a q).2 o e f.1⟩,e'⟩
 have cB:∀y b,env.cells.lookup y=some b->¬W b/\b≠s₂.heap.objs.size/\b≠H2.objs.size:=λy b hb=>have z:=(c.K.cellB y b hb).1;⟨λw=>(fr b w).1 z,λe=>(frN _ (.inl rfl)).1 (e▸z),λe=>(frN _ (.inr rfl)).1 (e▸z)⟩;have K':=OY (B':=BW (BW B W) λa=>a=s₂.heap.objs.size\/a=H2.objs.size) (Caa:=H2.objs.size) c.K c.L O S hnd (.inr (.inr rfl)) (λa ha=>.inl (.inl ha)) λy b hb=>(cB y b hb).2.2;have L':=OZ (Caa:=H2.objs.size) (h':=h₁) c.K c.L O S hns1 (λy b hb o e=>(x1.keep b o e (c.G.none_of_blocked (c.K.cellB y b hb).1) λq=>q).1) key;have g1:=g.block (W:=λa=>a=s₂.heap.objs.size\/a=H2.objs.size) old hnew hex;have k1:=it_ok.mono (r9 (W:=λa=>a=s₂.heap.objs.size\/a=H2.objs.size) old hnew) (λa o _ e=>old a o e) k0;have hWN:∀a,W a->¬(a=s₂.heap.objs.size\/a=H2.objs.size):=λa ha hq=>(g.blocked a (.inr ha)).2.elim λo ho=>absurd rfl (jS (hnew a hq) ho);have H:CH d A (compEnvC (jc x) (iB env (jc x).names []) H2.objs.size env) (kF (jc x)) (d9 vn caps own) B (BW (BW B W) λa=>a=s₂.heap.objs.size\/a=H2.objs.size) W s₂.heap.objs.size H2.objs.size Z s:=
  ⟨c.R,K',rfl,λy b hb=>have z:=cB y b (vh c.K c.L O S hb);⟨z.1,z.2.1⟩,λa ha=>.inl (.inl ha),λa ha=>.inl (.inr ha),.inr (.inr rfl),.inr (.inl rfl),hDC,λw=>hWN _ w (.inl rfl),λw=>hWN _ w (.inr rfl),frA⟩
 have loop:∀s₃:aB,s₃={ s₂ with heap:=h₁,toks:=s₂.toks+([]:List (Str×ag)).length }->codeAny Md A (.compLoop (.ListComp (aW (d9 vn caps own) elt (ay x 0)) [⟨nq (d9 vn caps own) t (ay x 1),oY vn it (ay x 2),cz (d9 vn caps own) x ifs 3,0⟩] (jc x) x.pos) 0 (.ref itA) (.ref s₂.heap.objs.size) (compEnvC (jc x) (iB env (jc x).names []) H2.objs.size env))
    (compPost Md A aw use Q' (.ref s₂.heap.objs.size) H2.objs.size) s₃:=by
  rintro s₃ rfl
  refine Ny ihT ihE H it_ok x (of_decide_eq_true hifs) hT (λi hi=>?_) hIf hElt (λht=>?_) ⟨g1,x1,k1,⟨[],hacc,rfl⟩,bJ _,L'⟩ q λv Z' s' hp=>fin _ _ v Z' s' hp
  ·have hle:caps.length<=i:=by
    cases t with
    |v j=>rw[cJ.mp hi];exact dA (eq_of_beq htg).symm
    |tup js=>exact of_decide_eq_true (dU.mp htg i hi)
   have hlt:i<(d9 vn caps own).length:=by
    cases t with
    |v j=>rw[cJ.mp hi];exact of_decide_eq_true hT
    |tup js=>exact nU hT i hi
   have z:=Uq (J:=J) (vn:=vn) (own:=own) hle;exact⟨.inl ⟨yb rfl (S.loc _ (z.2 hlt)),rfl⟩,z.1⟩
  ·cases t with
   |v j=>exact bn ht
   |tup js=>exact⟨_,_,_,rfl⟩
 exact codeAny_compStart_list (loop _ rfl) (ji (it_ok.self (Q:=λit' s'=>it'=.ref itA/\s'={ s₂ with heap:=h₁,toks:=s₂.toks+([]:List (Str×ag)).length }) (s:={ s₂ with heap:=h₁,toks:=s₂.toks+([]:List (Str×ag)).length }) k1 ⟨rfl,rfl⟩) (λit' s' e=>e.1▸loop s' e.2) λ_ _ e=>e.elim)
theorem SQ{caps:List Nat}{own:List Str}{t:T}{it:It}{ifs:List E}{elt:E}(ihI:SI C d it)(ihT:∀c,ifs=[c]->ST C d c)(ihE:SE C d elt):SE C d (.comp caps own t it ifs elt):=by
 intro A env gl vn B J Z s x Q c hc h;show wpAny Md A (eval (.ListComp (aW (d9 vn caps own) elt (ay x 0)) [⟨nq (d9 vn caps own) t (ay x 1),oY vn it (ay x 2),cz (d9 vn caps own) x ifs 3,0⟩] (jc x) x.pos) env) _ aw s;rw[eval_ListComp];exact Dt (use:=none) (Q:=Q) ihI ihT ihE x c hc h λy Caa v Z' s' p=>p.done
end
end
section
open PySem PySem.W PyProof.Rows PySem.SeqAt PySem.Calls
noncomputable def Ut(e:E):Bool:=match e with
 |.m _ _ _=>false
 |.o _ _=>false
 |.not _=>false
 |.ite _ _ _=>false
 |_=>true
section
variable{C:ax}{d:Nat}
theorem fM{e:E}(he:Ut e=true)(h:SE C d e):SE C d e/\ST C d e:=⟨h,QC h λ{vn x env wh}=>by cases e<;>first|rfl|cases he⟩
def sX(C:ax)(d:Nat)(es:List E):Prop:=jd C d es/\SB C d es/\tP C d es/\SD C d es/\∀e,es=[e]->SE C d e/\ST C d e
theorem UA:SB C d []:=by
 intro A env gl vn B J Z s x n Q b p c hc he h;cases he
theorem Dp:sX C d []:=⟨SX,UA,SM,UB,λ_ h=>by cases h⟩
theorem C2{e:E}{r:List E}(h:SE C d e/\ST C d e)(hr:sX C d r):sX C d (e::r):=⟨Qr h.1 hr.1,SK h.1 hr.2.1,Qo h.2 hr.2.2.1,SN h.1 hr.2.2.2.1,λe' q=>by(injection q with q;subst q);exact h⟩
theorem fO(H:bF cx)(Caa:gD C d)(e:E):SE C d e/\ST C d e:=
 E.rec (motive_1:=λe=>SE C d e/\ST C d e) (motive_2:=SI C d) (motive_3:=sX C d)
  (λv=>fM rfl (Ih v)) (λi=>fM rfl (UR i)) (λg=>fM rfl (SU H g)) (λe a i=>fM rfl (SO H a i.1)) (λe k i j=>fM rfl (UH H i.1 j.1)) (λe a b i j k=>fM rfl (UP i.1 j.1 k.1))
  (λe i=>fM rfl (UO i.1)) (λe i=>fM rfl (UK i.1)) (λop a b i j=>fM rfl (UC i.1 j.1)) (λm es n i j=>fM rfl (UN i.1 j.1)) (λop a b i j=>⟨UE H i.1 j.1,U7 H i.1 j.1⟩)
  (λb es i=>⟨UD i.2.1,U6 i.2.2.1⟩) (λe i=>⟨UM i.1,U9 i.2⟩) (λc a b i j k=>⟨UI i.2 j.1 k.1,U8 i.2 j.2 k.2⟩) (λes i=>fM rfl (UQ i.1)) (λm es i=>fM rfl (UJ i.1))
  (λb ks vs i=>fM rfl (UG i.2.2.2.1)) (λf es i=>fM rfl (SP H Caa i.1)) (λfrz c es i=>fM rfl (UL H Caa i.1)) (λe m es i j=>fM rfl (SV H Caa i.1 j.1))
  (λb es i=>fM rfl (VM H (λe q=>(i.2.2.2.2 e q).1) i.1)) (λe b es i j=>fM rfl (VN H i.1 j.1)) (λcaps own t it ifs elt i j k=>fM rfl (SQ i (λc q=>(j.2.2.2.2 c q).2) k.1))
  (λe i=>HC i.1) (λes i=>E5 H i.1) (λe i=>Gv H i.1) (λa b i j=>HD H i.1 j.1) Dp (λe r i j=>C2 i j) e
theorem GN(H:bF cx)(Caa:gD C d):∀es:List E,sX C d es:=λrr=>li (Dp)
 (λe r ih=>C2 (fO H Caa e) (ih)) rr
theorem GO(H:bF cx)(Caa:gD C d):∀it:It,SI C d it
 |.seq e=>HC (fO H Caa e).1
 |.range es=>E5 H (GN H Caa es).1
 |.enum e=>Gv H (fO H Caa e).1
 |.zip a b=>HD H (fO H Caa a).1 (fO H Caa b).1
end
def FR(fz:aq->Prop)(h:Heap)(o:O)(f:Flow):Prop:=match o with
 |.next=>f=.next
 |.ret v=>∃y,f=.ret y/\VR fz h v y
def lK(env:Env)(vn:List Str):Prop:=∀i,i<vn.length->qo env (ef env) (bq vn i)
structure IT(B:aq->Prop)(env:Env)(vn:List Str)(Z:ae)(s:aB)(J':aj)(Z':ae)(s':aB):Prop where
 g:aE B Z' s'.heap
 x:bK (ef env) Z s Z' s'
 l:cQ (Fz Z' B) env vn J' s'.heap
def PO(B:aq->Prop)(env:Env)(vn:List Str)(Z:ae)(s:aB)(Q:QO):Flow->aB->Prop:=
 λf s'=>∃o J' Z',IT B env vn Z s J' Z' s'/\FR (Fz Z' B) s'.heap o f/\Q o J' Z'
section
variable{C:ax}{d:Nat}{B W:aq->Prop}{Z Z' Z2:ae}{s s' s'' s₂:aB}{A:bD}{env:Env}{gl vn:List Str}{J J':aj}{Q:QO}
theorem PO.lift{f:Flow}(x:bK (ef env) Z s Z' s')(p:PO B env vn Z' s' Q f s''):PO B env vn Z s Q f s'':=by
 refine qZ p λo J' Z2 p r=>?_;exact⟨o,J',Z2,⟨p.g,x.trans p.x,p.l⟩,r⟩
theorem zL{t:Sem Flow}(x:bK (ef env) Z s Z' s')(h:wpAny Md A t (PO B env vn Z' s' Q) aw s''):wpAny Md A t (PO B env vn Z s Q) aw s'':=bT h λ_ _ p=>p.lift x
theorem eG.none(K:eG env gl vn B)(G:aE B Z s.heap):∀a,ef env a->Z a=none:=λa ha=>G.none_of_blocked (K.ownB a ha)
theorem Ct.own(c:Ct d A env gl vn B J Z s)(a:Af B Z s Z' s'):bK (ef env) Z s Z' s':=a.x.own_mono (λ_ q=>q.elim) (c.K.none c.G)
set_option tactic.hygienic true in
theorem Ct.next(c:Ct d A env gl vn B J Z s)(a:Af B Z s Z' s')(q:Q .next J Z'):PO B env vn Z s Q .next s':=⟨.next,J,Z',⟨a.g,c.own a,(c.af a).L⟩,rfl,q⟩
set_option tactic.hygienic true in
theorem Ct.stored(p:PS B env vn Z s (ef env) J' s')(q:Q .next J' Z):PO B env vn Z s Q .next s':=⟨.next,J',Z,⟨p.g,p.x,p.l⟩,rfl,q⟩
variable(C d)
def SS(c:S):Prop:=∀{A:bD}{env:Env}{gl vn:List Str}{B:aq->Prop}{J:aj}{Z:ae}{s:aB}(x:cf){Q:QO},Ct d A env gl vn B J Z s->lK env vn->IX gl vn c x=true->WS C c J Z Q->wpAny Md A (exec (toS vn c x) env) (PO B env vn Z s Q) aw s
def l0(cs:List S):Prop:=∀{A:bD}{env:Env}{gl vn:List Str}{B:aq->Prop}{J:aj}{Z:ae}{s:aB}(x:cf)(l:List cf){Q:QO},Ct d A env gl vn B J Z s->lK env vn->mU gl vn x cs l=true->az C cs J Z Q->wpAny Md A (execs (mX vn x cs l) env) (PO B env vn Z s Q) aw s
variable{C d}
theorem Mr(h:env.scope.kind=.function):interactive env=false:=by unfold interactive;rw[h];rfl
theorem CY{e:E}(h:zS e=true)(x:Expr)(t:Option Expr)(n:Nat):swapsWith (aW vn e x) t n env=pure false:=by
 cases e<;>first|rfl|exact bn h
theorem U4{e:E}(ih:SE C d e):SS C d (.ret e):=by
 intro A env gl vn B J Z s x Q c F hc h;exact wpAny_Return_some (seq (ih (sk x 0) c hc h) λv Z' y s' f r q=>⟨.ret v,J,Z',⟨f.g,c.own f,(c.af f).L⟩,⟨y,rfl,r⟩,q⟩)
set_option tactic.hygienic true in
theorem VS{e:E}(ih:SE C d e):SS C d (.ex e):=by
 intro A env gl vn B J Z s x Q c F hc h;refine wpAny_Expr_any (seq (ih (sk x 0) c (av hc).2 h) λv Z' y s' f r q=>?_) (Mr c.K.kind) (CY (av hc).1 _ _ _);refine ar (bj q) λu hu q=>?_;exact c.next f q
theorem GA:l0 C d []:=by
 intro A env gl vn B J Z s x l Q c F hc h;exact Cj (c.next (.refl c.G) h)
theorem E6{a:S}{r:List S}(ih:SS C d a)(ihr:l0 C d r):l0 C d (a::r):=by
 intro A env gl vn B J Z s x l Q c F hc h;refine wpAny_execs_cons (bT (ih (Bb x l) c F (av hc).1 h) λf s₁ p=>?_);obtain⟨o,J',Z',p,e,q⟩:=p;cases o with
 |next=>subst e;exact zL p.x (ihr x (Bj l) ⟨c.R,c.K,p.g,p.l⟩ F (av hc).2 q)
 |ret v=>
  obtain⟨y,rfl,r⟩:=e;exact⟨.ret v,J',Z',p,⟨y,rfl,r⟩,q⟩
theorem U3{t:E}{a b:List S}(iht:ST C d t)(ih:l0 C d a)(ih2:l0 C d b):SS C d (.ite t a b):=by
 intro A env gl vn B J Z s x Q c F hc h;have h12:=av (av hc).1;refine wpAny_If (lU (iht (sk x 0) (Q:=λt Z=>match t with|true=>az C a J Z Q|false=>az C b J Z Q) c h12.1 h λ_ _ q=>q) λt Z' s' f q=>?_);cases t with
 |true=>exact zL (c.own f) (ih x (lT x) (c.af f) F h12.2 q)
 |false=>exact zL (c.own f) (ih2 x (AG x) (c.af f) F (av hc).2 q)
theorem qA{α:Type}{t:Sem α}{Q:α->aB->Prop}{E:ag->aB->Prop}(h:wpAny Md A t Q aw s):wpAny Md A t Q E s:=ji h (λ_ _ h=>h) λ_ _ h=>h.elim
theorem cQ.sub(hs:Sub Z' Z)(L:cQ (Fz Z B) env vn J s.heap):cQ (Fz Z' B) env vn J s.heap:=L.mono (λ_ e=>e) (λ_ _ _ _ e=>e) (lF hs)
theorem U5{t:E}{b:List S}(iht:ST C d t)(ih:l0 C d b):SS C d (.whl t b):=by
 intro A env gl vn B J Z s x Q c F hc h;refine bA h λn₀ h=>?_;refine wpAny_While (codeAny_whileLoop (λn s'=>∃J' Z',IT B env vn Z s J' Z' s'/\ou (λJ Z Q=>WE C t J Z Q) (λJ Z Q=>az C b J Z Q) Q n J' Z') ?_ n₀ ⟨J,Z,⟨c.G,.refl (c.K.none c.G),c.L⟩,h⟩)
 rintro n s₁ ⟨J₁,Z1,p,q⟩
 cases n with
 |zero=>exact q.elim
 |succ n=>
 have c1:Ct d A env gl vn B J₁ Z1 s₁:=⟨c.R,c.K,p.g,p.l⟩
 refine qA (lU (iht (sk x 0) (Q:=λb' Z'=>match b' with
  |false=>Q .next J₁ Z'
  |true=>az C b J₁ Z' λo J'' Z''=>match o with
   |.next=>∃Z3,Sub Z3 Z''/\ou (λJ Z Q=>WE C t J Z Q) (λJ Z Q=>az C b J Z Q) Q n J'' Z3
   |.ret v=>Q (.ret v) J'' Z'') c1 (av hc).1 q λ_ _ q=>q) λt Z2 s₂ f q2=>?_)
 have x2:=p.x.trans (c1.own f);cases t with
 |false=>exact Cj ⟨.next,J₁,Z2,⟨f.g,x2,(c1.af f).L⟩,rfl,q2⟩
 |true=>
  refine ji (ih x (lT x) (c1.af f) F (av hc).2 q2) (λfl s₃ p3=>?_) λ_ _ h=>h.elim;obtain⟨o,J₃,Z3,p3,e,q3⟩:=p3;cases o with
  |next=>
   subst e;obtain⟨Z4,hs,q3⟩:=q3;exact⟨n,bu n,J₃,Z4,⟨p3.g.sub hs,(x2.trans p3.x).trans (.sub hs (c.K.none p3.g)),p3.l.sub hs⟩,q3⟩
  |ret v=>
   obtain⟨y,rfl,r⟩:=e;exact⟨.ret v,J₃,Z3,⟨p3.g,x2.trans p3.x,p3.l⟩,⟨y,rfl,r⟩,q3⟩
end
end
section
open PySem PySem.W PyProof.Rows PySem.SeqAt PySem.Calls
section
variable{C:ax}{d:Nat}{B W L:aq->Prop}{Z Z' Z2:ae}{s s' s'' s₂:aB}{A:bD}{env:Env}{gl vn:List Str}{J J':aj}{Q:QO}{tt:Bool}{itA:aq}{is:IS}{I:(aq->Prop)->Heap->Nat->Prop}
theorem bK.stepL(x:bK L Z s Z' s')(f:eZ W B Z s)(hd:∀a,L a->¬W a)(st:jB W s' s''):bK L Z s Z' s'':=
 ⟨λa o e z n=>have q:=x.keep a o e z n;⟨st.keep a o (λw=>(f a w).2 o e z) q.1,q.2⟩,λa ha e=>have q:=x.there a ha e;⟨q.1.imp λo e=>st.keep a o (hd a ha) e,q.2⟩,st.gens.trans x.gens,st.os.trans x.os⟩
theorem cQ.step{fz fz':aq->Prop}(hd:∀a,ef env a->¬W a)(st:jB W s s')(k:Kp fz s.heap fz' s'.heap)(R:cQ fz env vn J s.heap):cQ fz' env vn J s'.heap:=
 R.mono (λo e=>st.keep _ o (hd _ (.inl rfl)) e) (λy c hc o e=>st.keep c o (hd c (.inr ⟨y,hc⟩)) e) k
theorem iO.ext{i:Nat}(it:iO W tt itA is I)(G:aE B Z s.heap)(hW:∀a,W a->B a)(hL:∀a,L a->B a)(hd:∀a,L a->¬W a)(x:bK L Z s Z' s')(k:I (Fz Z B) s.heap i):I (Fz Z' B) s'.heap i:=
 it.mono (x.kp hL) (λa o w e=>(x.keep a o e (G.none_of_blocked (hW a w)) λq=>hd a q w).1) k
theorem T9{n:Nat}{t:T}(h:tU n t=true):∀i∈xj t,i<n:=by
 cases t with
 |v j=>intro i hi;rw[cJ.mp hi];exact of_decide_eq_true h
 |tup is=>exact nU h
theorem U2{t:T}{it:It}{b:List S}(ih:SI C d it)(ihb:l0 C d b):SS C d (.for t it b):=by
 intro A env gl vn B J Z s x Q c F hc h;refine aT (av hc) λhc hb=>?_;refine aT (av hc) λhc hIt=>?_;refine aT (av hc) λhtt hT=>?_;have hnone:=c.K.none c.G;refine wpAny_For (bT (ih (sk x 1) c hIt htt h) λxv s₁ h₁=>bT h₁ λitv s₂ h₂=>?_) CF;obtain⟨itA,W,is,I,Z0,rfl,g₀,fr,x₀,it_ok,k₀,n₀,q₀⟩:=h₂;have hO:∀a,ef env a->BW B W a:=λa ha=>.inl (c.K.ownB a ha);have hd:∀a,ef env a->¬W a:=λa ha hw=>(fr a hw).1 (c.K.ownB a ha);have hWB:∀a,W a->BW B W a:=λa ha=>.inr ha;have tgtt:vU t=true->∃elts x1 pos,nq vn t (sk x 0)=.Tuple elts x1 pos:=λht=>by
  cases t with
  |v j=>exact bn ht
  |tup js=>exact⟨_,_,_,rfl⟩
 have key:Kp (Fz Z B) s.heap (Fz Z0 (BW B W)) s₂.heap:=λa o f e=>have q:=x₀.keep a o e f.1 λq=>q;⟨⟨q.2,λz=>z.elim f.2 λz=>(fr a z).2 o e f.1⟩,q.1⟩;have L0:cQ (Fz Z0 (BW B W)) env vn J s₂.heap:=c.L.mono (λo e=>(x₀.keep _ o e (hnone _ (.inl rfl)) λq=>q).1) (λy a hc o e=>(x₀.keep a o e (hnone a (.inr ⟨y,hc⟩)) λq=>q).1) key;refine codeAny_forLoop_any (λn s'=>∃i J' Z',aE (BW B W) Z' s'.heap/\bK (ef env) Z s Z' s'/\I (Fz Z' (BW B W)) s'.heap i/\cQ (Fz Z' (BW B W)) env vn J' s'.heap/\bZ is t (λJ Z Q=>az C b J Z Q) Q n i J' Z') ?_ n₀
  ⟨0,J,Z0,g₀,x₀.own_mono (λ_ q=>q.elim) hnone,k₀,L0,q₀⟩
 rintro n s₁ ⟨i,J₁,Z1,g,x1,k,l,q⟩
 cases n with
 |zero=>exact q.elim
 |succ n=>
 obtain⟨r,e,q⟩:=bj q;refine qA (bT (it_ok.step c.R.hd g hWB tgtt (λb hb=>(g.blocked b (.inr hb)).2) k e) λr' s₂ h₁=>?_);cases r' with
 |none=>
  obtain⟨rfl,st⟩:=h₁;have g2:=g.shrink (B:=B) (W:=W) (λ_=>.inl) hWB (λa hb hw=>absurd hb (fr a hw).1) st.keep;exact Cj ⟨.next,J₁,Z1,⟨g2,x1.stepL fr hd st,l.step hd st (rY (λ_=>.inl) hWB st.keep)⟩,rfl,q⟩
 |some y=>
 refine qA (bT h₁ λ_ s₃ h₂=>?_);obtain⟨v,rfl,st,tW,rv,k2⟩:=h₂;obtain⟨J₂,hbd,q⟩:=bj q;have g2:=g.touch hWB st.keep tW;refine qA (Ec (L:=ef env) c.R.hd (c.K.block W) hO g2 (l.step hd st (nW hWB st.keep)) hT (λi hi=>F i (T9 hT i hi)) rv hbd λs₄ p=>?_);have x3:=(x1.stepL fr hd st).trans p.x;have k3:=it_ok.ext g2 hWB hO hd p.x k2;refine ji (ihb x (lT x) ⟨c.R,c.K.block W,p.g,p.l⟩ F hb q) (λf s₅ p5=>?_) λ_ _ h=>h.elim;obtain⟨o,J₃,Z3,p5,e5,q4⟩:=p5;cases o with
 |next=>
  subst e5;obtain⟨Z4,hs,q4⟩:=q4;have k4:=it_ok.ext p.g hWB hO hd p5.x k3;exact⟨n,bu n,i+1,J₃,Z4,p5.g.sub hs,(x3.trans p5.x).trans (.sub hs λa ha=>p5.g.none_of_blocked (hO a ha)),it_ok.mono (lF hs) (λ_ _ _ e=>e) k4,p5.l.sub hs,q4⟩
 |ret v=>
  obtain⟨y,rfl,r⟩:=e5;exact⟨.ret v,J₃,Z3,⟨p5.g.unblock,x3.trans p5.x,p5.l.mono (λ_ e=>e) (λ_ _ _ _ e=>e) yx⟩,⟨y,rfl,r.mono yx⟩,q4⟩
theorem Mj{o:Expr}{n:Str}{p:Pos}{v:ag}{Q:Unit->aB->Prop}(h:wpAny Md A (eval o env) (λov s₁=>wpAny Md A (setAttr ov n v) Q aw s₁) aw s):wpAny Md A (assign (.Attribute o n p) env v) Q aw s:=by
 show wpAny Md A (do let ov <-holding [v] (eval o env);standAt p.atName;holding [v,ov] (setAttr ov n v);release [v,ov] []) Q aw s;exact aG (ic (bT h λov s₁ h₁=>aG (pH (aG (ic (bT h₁ λ_ _ h₂=>LM h₂))))))
theorem Lx(o i:Expr)(p:Pos)(v:ag):assign (.Subscript o i p) env v=(do
  let ov <-holding [v] (eval o env)
  let iv <-holding [v,ov] (eval i env)
  standAt p
  holding [v,ov,iv] (setItem ov iv v)
  release (match i with|.Slice _ _ none _=>[iv,v,ov]|_=>[v,ov,iv]) []):=rfl
theorem MH{o i:Expr}{p:Pos}{v:ag}{Q:Unit->aB->Prop}(h:wpAny Md A (eval o env) (λov s₁=>wpAny Md A (eval i env) (λiv s₂=>wpAny Md A (setItem ov iv v) Q aw s₂) aw s₁) aw s):wpAny Md A (assign (.Subscript o i p) env v) Q aw s:=by
 rw[Lx];exact aG (ic (bT h λov s₁ h₁=>aG (ic (bT h₁ λiv s₂ h₂=>aG (pH (aG (ic (bT h₂ λ_ _ h₃=>LM h₃))))))))
theorem VT(H:bF cx)(Caa:gD C d){t:Tg}{x:Expr}{v:V}{y:ag}(c:Ct d A env gl vn B J Z s)(F:lK env vn)(hc:qP gl vn t x=true)(r:VR (Fz Z B) s.heap v y)(h:jC C t v J Z (Q .next)) :
  wpAny Md A (assign (iE vn t x) env y) (λ_=>PO B env vn Z s Q .next) aw s:=by
 cases t with
 |v i=>exact xW (so c.K c.G c.L c.K.ownB (of_decide_eq_true hc) (F i (of_decide_eq_true hc)) r λs' p=>Ct.stored p h)
 |vs is=>
  refine cm (bj h) λvs e1 hl q=>?_;obtain rfl:=nZ e1;exact Fc c.R.hd c.K c.K.ownB c.G c.L (λi hi=>⟨nU hc i hi,F i (nU hc i hi)⟩) hl r λs' p=>Ct.stored p q
 |a e a=>
  refine Mj (seq ((fO H Caa e).1 (ay x 0) c hc h) λv Z' z s' f r' q=>?_);exact bT (E4 H f.g r' (f.vr r) q) λ_ s₂ p=>p.elim λZ2 p=>c.next (f.trans p.1) p.2
 |i e i=>
  refine MH (qQ (fO H Caa e).1 (fO H Caa i).1 c (av hc).1 (av hc).2 h λv k Z' a b s' f r1 r2 q=>?_);exact bT (D5 H c.r0 f.g r1 r2 (f.vr r) q) λ_ s₂ p=>p.elim λZ2 p=>c.next (f.trans p.1) p.2
theorem zC{op:Op}{a b:V}{k:Int}{x y:ag}{P:ag->aB->Prop}(ho:IC op=true)(ra:VR (Fz Z B) s.heap a x)(rb:VR (Fz Z B) s.heap b y)(e:wC op a b=some k)(h:∀t tk,P (.int k t) { s with toks:=tk }) :
  wpAny Md A (inplaceOp (wY op) x y) P aw s:=by
 refine ar (a8 e) λi e1 e=>?_;refine ar (a8 e) λj e2 e3=>?_;obtain rfl:=eX e1;obtain rfl:=eX e2;obtain⟨t,rfl⟩:=ra;obtain⟨u,rfl⟩:=rb;cases op<;>try (exact bn ho;done)
 ·(injection e3 with e3;subst e3);exact Yj (h _ _)
 ·(injection e3 with e3;subst e3);exact Yk (h _ _)
theorem PL(c:Ct d A env gl vn B J Z s){i:Nat}{P:ag->aB->Prop}(hi:i<vn.length){v:V}(hv:rd J i=some v)(h:∀y,VR (Fz Z B) s.heap v y->P y s):wpAny Md A (loadName env (bq vn i)) P aw s:=by
 refine ar c.L.loc λm hn hm=>?_;refine aT (c.K.names _ (mI hi)) λn1 n2=>?_;rcases hm i hi with⟨k,q⟩|⟨k,a,z,hcl,hz,q⟩
 ·refine ar (q v hv) λy e r=>?_;exact Kb c.K.kind k hn e (h y r)
 ·obtain⟨y,rfl,r⟩:=q v hv;rcases k with k|k
  ·exact Kh c.K.kind k hcl hz (h y r)
  ·exact Ki c.K.kind k hcl hz (h y r) n2
theorem LY(e:E)(x:Expr)(ov iv new:ag):augStore (aW vn e x) ov iv new=(do holding [new,ov,iv] (setItem ov iv new);release [new,ov,iv] [];pure .next):=by cases e<;>rfl
theorem U1(H:bF cx)(Caa:gD C d){t:Tg}{op:Op}{e:E}:SS C d (.aug t op e):=by
 intro A env gl vn B J Z s x Q c F hc h;refine aT (av hc) λhc he=>?_;refine aT (av hc) λho ht=>?_;have ihe:SE C d e:=(fO H Caa e).1;cases t with
 |v i=>
  refine ar (bj h) λold hold h=>?_;refine wpAny_AugAssign_Name (PL c (of_decide_eq_true ht) hold λoy ro=>seq (ihe (sk x 0) c he h) λv Z' z s' f r q=>?_);refine ar (bj q) λk hk q=>?_;refine zC ho (f.vr ro) r hk λt tk=>?_;have f2:=f.trans (.tok f.g tk);have c2:=c.af f2;exact so c2.K c2.G c2.L c2.K.ownB (of_decide_eq_true ht) (F i (of_decide_eq_true ht)) (v:=.int k) ⟨t,rfl⟩ λs₂ p=>PO.lift (c.own f2) (Ct.stored p q)
 |vs is=>exact h.elim
 |a o a=>
  refine wpAny_AugAssign_AttributeAny (seq ((fO H Caa o).1 (ay (sk x 1) 0) c ht h) λv Z' z s' f r q=>?_);refine ar (bj q) λold hold q=>?_;refine seq (Fp (Q:=λv Z=>v=old/\Z=Z') H f.g r hold ⟨rfl,rfl⟩) λ_ _ oy s₁ f1 ro e1=>?_;obtain⟨rfl,rfl⟩:=e1;refine seq (ihe (sk x 0) (c.af (f.trans f1)) he q) λu Z2 z2 s₂ f2 r2 q2=>?_;refine ar (bj q2) λk hk q2=>?_;refine zC ho (f2.vr ro) r2 hk λt tk=>?_;have f3:Af B Z s Z2 { s₂ with toks:=tk }:=((f.trans f1).trans f2).trans (.tok f2.g tk);exact bT (E4 (s:={ s₂ with toks:=tk }) (x:=.int k) H f3.g (f2.vr (f1.vr r)) ⟨t,rfl⟩ q2) λ_ s₃ p=>p.elim λZ3 p=>c.next (f3.trans p.1) p.2
 |i o i=>
  refine wpAny_AugAssign_SubscriptAny (qQ (fO H Caa o).1 (fO H Caa i).1 c (av ht).1 (av ht).2 h λv k Z' a b s' f r r1 q=>?_) (LY _ _);refine ar (bj q) λold hold q=>?_;refine seq (Hg (Q:=λv Z=>v=old/\Z=Z') H c.r0 f.g r r1 hold ⟨rfl,rfl⟩) λ_ _ oy s₁ f1 ro e1=>?_;obtain⟨rfl,rfl⟩:=e1;refine seq (ihe (sk x 0) (c.af (f.trans f1)) he q) λu Z2 z2 s₂ f2 r2 q2=>?_;refine ar (bj q2) λn hk q2=>?_;refine zC ho (f2.vr ro) r2 hk λt tk=>?_;have f3:Af B Z s Z2 { s₂ with toks:=tk }:=((f.trans f1).trans f2).trans (.tok f2.g tk);exact bT (D5 (s:={ s₂ with toks:=tk }) (x:=.int n) H c.r0 f3.g (f2.vr (f1.vr r)) (f2.vr (f1.vr r1)) ⟨t,rfl⟩ q2) λ_ s₃ p=>p.elim λZ3 p=>c.next (f3.trans p.1) p.2
end
end
section
open PySem PySem.W PyProof.Rows PySem.SeqAt PySem.Calls
theorem GJ:∀{J:aj}{i j:Nat}{u v:V},i≠j->wr (wr J i u) j v=wr (wr J j v) i u
 |[],_,_,_,_,_=>rfl
 |_::_,0,0,_,_,h=>absurd rfl h
 |_::_,0,_+1,_,_,_=>rfl
 |_::_,_+1,0,_,_,_=>rfl
 |x::r,i+1,j+1,_,_,h=>congrArg (yB x) (GJ λe=>h (congrArg (·+1) e))
theorem Vh:∀{is:List Nat}{vs:List V}{J:aj}{i:Nat}{v:V},i ∉ is->fZ (wr J i v) is vs=wr (fZ J is vs) i v:=by
 intro is;induction is with
 |nil=>intro vs J i v _;rfl
 |cons j is ih=>
  intro vs J i v h;cases vs with
  |nil=>rfl
  |cons u vs=>
   show fZ (wr (wr J i v) j u) is vs=wr (fZ (wr J j u) is vs) i v;rw[GJ (show i≠j from λe=>h (e▸.head _)),ih λm=>h (.tail _ m)]
theorem QQ:∀{is:List Nat}{vs:List V}{J:aj}{i:Nat}{v:V},is.length=vs.length->fZ J (is++[i]) (vs++[v])=wr (fZ J is vs) i v:=by
 intro is;induction is with
 |nil=>intro vs J i v h;cases nD.mp h.symm;rfl
 |cons j is ih=>
  intro vs J i v h;cases vs with
  |nil=>cases h
  |cons u vs=>exact ih (iH h)
theorem To:∀{is:List Nat}{vs:List V}{J:aj},Ai is=true->is.length=vs.length->fZ J is.reverse vs.reverse=fZ J is vs:=by
 intro is;induction is with
 |nil=>intro vs J _ h;cases nD.mp h.symm;rfl
 |cons j is ih=>
  intro vs J hn h;cases vs with
  |nil=>cases h
  |cons u vs=>
   have h:=iH h;rw[rD,rD,QQ (by rw[mx,mx];exact h),ih (av hn).2 h,<-Vh]
   ·rfl
   ·intro m;have:=gX (av hn).1;rw[fG.mpr m]at this;exact nb this
section
variable{C:ax}{d:Nat}{B W L:aq->Prop}{Z Z' Z2:ae}{s s' s'' s₂:aB}{A:bD}{env:Env}{gl vn:List Str}{is:List Nat}{J J':aj}{Q:QO}
theorem M3{x:Expr}:∀(is:List Nat)(n:Nat),(gk vn x is n).length=is.length:=λrr=>li (λ_=>rfl)
 (λ_ is ih n=>congrArg (·+1) (ih (n+1))) rr
theorem Ma{x:Expr}{f:Expr->Option Str}(hf:∀x p,f (.Name x p)=some x\/f (.Name x p)=none):∀(is:List Nat)(n:Nat),((gk vn x is n).filterMap f).length<=is.length/\(((gk vn x is n).filterMap f).length=is.length->(gk vn x is n).filterMap f=is.map (bq vn)):=λrr=>li (λ_=>⟨aC _,λ_=>rfl⟩)
 (λi is ih₁ n=>by
  have ih:=ih₁ (n+1);show((Dm (bq vn i) (ay x n).pos::gk vn x is (n+1)).filterMap f).length<=_/\(((Dm (bq vn i) (ay x n).pos::gk vn x is (n+1)).filterMap f).length = _->(Dm (bq vn i) (ay x n).pos::gk vn x is (n+1)).filterMap f = _)
  rw[xJ];rcases hf (bq vn i) (ay x n).pos with e|e
  ·rw[e];exact⟨cK ih.1,λq=>congrArg (yB _) (ih.2 (iH q))⟩
  ·rw[e];exact⟨fv ih.1,λq=>absurd (dA q.symm) (J6 _∘λz=>ai z ih.1)⟩) rr
theorem vV{α:Type}{c:Prop}[Decidable c]{a b z:α}(h:¬c->b=a\/b=z):(if c then a else b)=a\/(if c then a else b)=z:=by
 by_cases k:c
 ·rw[if_pos k];exact .inl rfl
 ·rw[if_neg k];exact h k
theorem Pr{α:Type}{c:Prop}[Decidable c]{a:α}:(if c then some a else none)=some a\/(if c then some a else none)=none:=by
 by_cases k:c
 ·exact .inl (if_pos k)
 ·exact .inr (if_neg k)
theorem LJ{x:Expr}{is:List Nat}{vs:List Expr}{k k':Nat}{p p':Pos}(hc:GC (.Tuple vs k' p')=true) :
  swappedStores [.Tuple (gk vn x is 0) k p] (.Tuple vs k' p') env=pure none\/swappedStores [.Tuple (gk vn x is 0) k p] (.Tuple vs k' p') env=pure (some (is.map (bq vn))):=by
 refine vV λ_=>vV λ_=>vV λh3=>vV λh4=>?_;by_cases h5:vs.all (constantsAlone 8)=true
 ·exact absurd (Al (a:=vs.all (constantsAlone 8)) hc h5) h4
 ·rw[if_neg h5];refine .inr (congrArg (λz=>(pure (some z):Sem (Option (List Str)))) ((Ma (λ_ _=>Pr) is 0).2 ?_));rw[<-M3 (vn:=vn) (x:=x) is 0];exact o8 λz=>h3 (ug.2 (.inl (bne_iff_ne.2 z)))
theorem NA(t:Tg)(x:Expr):(assignEach [iE vn t x] env).map (·.2)=[assign (iE vn t x) env]:=by cases t<;>rfl
theorem Fl{tg value:Expr}{pos:Pos}{Q:Flow->aB->Prop}{o:Option (List Str)}(hs:swapsWithSole [tg] value pos.line env=pure false)(hw:swappedStores [tg] value env=pure o)
  (h:wpAny Md A (eval value env) (λv s₁=>wpAny Md A (assignStores env v o ((assignEach [tg] env).map (·.2))) Q aw s₁) aw s):wpAny Md A (exec (.Assign [tg] value pos) env) Q aw s:=by
 rw[exec_Assign];refine aG (pH ?_);rw[hs];refine aG (a9 ?_);rw[if_neg (by decide)];refine aG (bT h λv s₁ h₁=>?_);rw[hw];exact aG (a9 h₁)
theorem pS(H:bF cx)(Caa:gD C d){t:Tg}{e:E}{x:cf}(c:Ct d A env gl vn B J Z s)(F:lK env vn)(ht:qP gl vn t (sk x 1)=true)(he:bQ gl vn e (sk x 0)=true)(h:WS C (.s t e) J Z Q)
  (hs:swapsWithSole [iE vn t (sk x 1)] (aW vn e (sk x 0)) x.pos.line env=pure false) (hw:swappedStores [iE vn t (sk x 1)] (aW vn e (sk x 0)) env=pure none):wpAny Md A (exec (toS vn (.s t e) x) env) (PO B env vn Z s Q) aw s:=by
 refine Fl (o:=none) hs hw (seq ((fO H Caa e).1 (sk x 0) c he h) λv Z' z s' f r q=>?_);rw[NA];show wpAny Md A (do assignAll z [assign (iE vn t (sk x 1)) env];pure Ni) _ _ s';exact aG (bT (VT H Caa (c.af f) F ht r q) λ_ _ p=>a9 (p.lift (c.own f)))
theorem Mi(H:bF cx)(Caa:gD C d){is:List Nat}{e:E}{x:cf}(c:Ct d A env gl vn B J Z s)(F:lK env vn)(ht:wX vn.length is=true)(he:bQ gl vn e (sk x 0)=true)(h:WS C (.s (.vs is) e) J Z Q)
  (hs:swapsWithSole [iE vn (.vs is) (sk x 1)] (aW vn e (sk x 0)) x.pos.line env=pure false) (hw:swappedStores [iE vn (.vs is) (sk x 1)] (aW vn e (sk x 0)) env=pure (some (is.map (bq vn)))):wpAny Md A (exec (toS vn (.s (.vs is) e) x) env) (PO B env vn Z s Q) aw s:=by
 refine Fl hs hw (seq ((fO H Caa e).1 (sk x 0) c he h) λv Z' z s' f r q=>?_);refine cm (bj q) λvs e1 hl q=>?_;rw[nZ e1]at r;obtain⟨a,ys,rfl,hf,ha,hz,rs⟩:=r;show wpAny Md A (do rule "assign.swapped-stores";let items <-unpackItems (.ref a) (is.map (bq vn)).length none;assignInOrder ((is.map (bq vn)).reverse.map λn=>bindName env n) items.reverse;pure Ni) _ aw s';refine aG (pR (aG ?_));rw[aY,hl,<-rs.length,<-dT,<-B5];refine unpackItems_tuple c.R.hd ha λh' hx=>aG ?_;have k:bI s'.heap h':=λb o e=>hx b o (gQ (ki e)) e;have f2:Af B Z s Z' { s' with heap:=h' }:=f.trans (.keeps f.g k rfl rfl);have c2:=c.af f2;refine D9 (s:={ s' with heap:=h' }) c.K c.K.ownB (QE is.reverse) (λi hi=>have m:=List.mem_reverse.mp hi;⟨nU ht i m,F i (nU ht i m)⟩) (by rw[mx,mx];exact hl) c2.G c2.L (rs.mono k.kp).reverse λs₂ p=>a9 ?_;rw[To (av ht).2 hl]at p;exact PO.lift (c.own f2) (Ct.stored p q)
set_option tactic.hygienic true in
theorem OO(H:bF cx)(Caa:gD C d){i:Nat}{caps:List Nat}{own:List Str}{t:T}{it:It}{ifs:List E}{elt:E}{x:cf}(c:Ct d A env gl vn B J Z s)(F:lK env vn)(hi:i<vn.length)(he:bQ gl vn (.comp caps own t it ifs elt) (sk x 0)=true)
  (h:WS C (.s (.v i) (.comp caps own t it ifs elt)) J Z Q) (hb:swapsWith (aW vn (.comp caps own t it ifs elt) (sk x 0)) (some (iE vn (.v i) (sk x 1))) x.pos.line env=pure true):wpAny Md A (exec (toS vn (.s (.v i) (.comp caps own t it ifs elt)) x) env) (PO B env vn Z s Q) aw s:=by
 show wpAny Md A (exec (.Assign [.Name (bq vn i) (sk x 1).pos] (aW vn (.comp caps own t it ifs elt) (sk x 0)) x.pos) env) _ aw s;rw[exec_Assign_Name_used _ _ _ _ hb];show wpAny Md A (do standAt x.pos;evalThenUse (.ListComp (aW (d9 vn caps own) elt (ay (sk x 0) 0)) _ (jc (sk x 0)) (sk x 0).pos) env (assign (.Name (bq vn i) (sk x 1).pos) env);pure _) _ aw s;rw[arm_evalThenUse_ListComp];refine aG (pH (aG ?_));refine aG (bT (Dt (use:=some (assign (.Name (bq vn i) (sk x 1).pos) env)) (Q':=λ_ s'=>PO B env vn Z s Q .next s') (GO H Caa it) (λc hc=>((GN H Caa ifs).2.2.2.2 c hc).2) (fO H Caa elt).1 (sk x 0) c he h λy D v Z' s' p=>?_) λ_ _ p=>a9 (a9 p));refine bA p.ns λm hns=>?_;have hO:∀a,ef env a->¬a=D:=λa ha e=>(p.fr a e).1 (c.K.ownB a ha);have key:Kp (Fz Z B) s.heap (Fz Z' (BW B λa=>a=D)) s'.heap:=λa o f e=>have q:=p.x.keep a o e f.1 λq=>q;⟨⟨q.2,λz=>z.elim f.2 λz=>(p.fr a z).2 o e f.1⟩,q.1⟩;have L':cQ (Fz Z' (BW B λa=>a=D)) env vn J s'.heap:=c.L.mono (λo e=>(p.x.keep _ o e (c.K.none c.G _ (.inl rfl)) λq=>q).1) (λy a hc o e=>(p.x.keep a o e (c.K.none c.G a (.inr ⟨y,hc⟩)) λq=>q).1) key;refine xW (so (L:=ef env) (c.K.block _) p.g L' (λa ha=>.inl (c.K.ownB a ha)) hi (F i hi) p.r λs₂ p2=>?_);refine⟨m,hns.at λo e=>(p2.x.keep D o e (p.g.none_of_blocked (.inr rfl)) λho=>hO D ho rfl).1,λh' hs=>?_⟩;have k:∀b o,¬(b=D)->s₂.heap.get? b=some o->h'.get? b=some o:=λb o n e=>(hs.2 b n).trans e;have st:jB (λa=>a=D) s₂ { s₂ with heap:=h' }:=⟨k,rfl,rfl⟩
 exact⟨.next,wr J i v,Z',⟨p2.g.shrink (λa=>.inl) (λa=>.inr) (λa hb e=>absurd hb (p.fr a e).1) k,((p.x.own_mono (λ_ q=>q.elim) (c.K.none c.G)).trans p2.x).stepL p.fr hO st,p2.l.step hO st (rY (λa=>.inl) (λa=>.inr) k)⟩,rfl,p.q⟩
theorem AH{t:Expr}{n:Nat}(h:∀x p,t≠.Name x p)(v:Expr):swapsWithSole [t] v n env=pure false:=by
 show swapsWith v (some t) n env=pure false;cases v<;>first
  |rfl
  |(cases t<;>first
   |rfl
   |exact absurd rfl (h _ _))
theorem Ve(e:E)(x:Expr):(∃es,e=.tup es)\/∀(y:Expr)k p,swappedStores [.Tuple (gk vn y is 0) k p] (aW vn e x) env=pure none:=by cases e<;>first|exact .inl ⟨_,rfl⟩|exact .inr λ_ _ _=>rfl
theorem Ri(e:E):zS e=true\/∃caps own t it ifs elt,e=.comp caps own t it ifs elt:=by cases e<;>first|exact .inl rfl|exact .inr ⟨_,_,_,_,_,_,rfl⟩
theorem OM(H:bF cx)(Caa:gD C d){i:Nat}{caps:List Nat}{own:List Str}{t:T}{it:It}{ifs:List E}{elt:E}{x:cf}(c:Ct d A env gl vn B J Z s)(F:lK env vn)(ht:qP gl vn (.v i) (sk x 1)=true)(he:bQ gl vn (.comp caps own t it ifs elt) (sk x 0)=true)(h:WS C (.s (.v i) (.comp caps own t it ifs elt)) J Z Q) :
  ∀b,swapsWith (aW vn (.comp caps own t it ifs elt) (sk x 0)) (some (iE vn (.v i) (sk x 1))) x.pos.line env=pure b->wpAny Md A (exec (toS vn (.s (.v i) (.comp caps own t it ifs elt)) x) env) (PO B env vn Z s Q) aw s
 |false,hb=>pS H Caa c F ht he h hb rfl
 |true,hb=>OO H Caa c F (of_decide_eq_true ht) he h hb
theorem Tr(H:bF cx)(Caa:gD C d){is:List Nat}{es:List E}{x:cf}(c:Ct d A env gl vn B J Z s)(F:lK env vn)(hk:HH (.vs is) (aW vn (.tup es) (sk x 0))=true)(ht:qP gl vn (.vs is) (sk x 1)=true)(he:bQ gl vn (.tup es) (sk x 0)=true)(h:WS C (.s (.vs is) (.tup es)) J Z Q)(hs:swapsWithSole [iE vn (.vs is) (sk x 1)] (aW vn (.tup es) (sk x 0)) x.pos.line env=pure false) :
  wpAny Md A (exec (toS vn (.s (.vs is) (.tup es)) x) env) (PO B env vn Z s Q) aw s:=
 (LJ (vn:=vn) (x:=sk x 1) (is:=is) (k:=ml (sk x 1)) (p:=(sk x 1).pos) (env:=env) hk).elim (pS H Caa c F ht he h hs) (Mi H Caa c F ht he h hs)
theorem U0(H:bF cx)(Caa:gD C d){t:Tg}{e:E}:SS C d (.s t e):=by
 intro A env gl vn B J Z s x Q c F hc h;have hc:=av hc;have hk:=av hc.1;cases t with
 |v i=>
  rcases Ri e with hn|⟨caps,own,t,it,ifs,elt,q⟩
  ·exact pS H Caa c F hk.2 hc.2 h (show swapsWith (aW vn e (sk x 0)) (some (iE vn (.v i) (sk x 1))) x.pos.line env=pure false from CY hn _ _ _) rfl
  ·subst q;exact OM H Caa c F hk.2 hc.2 h _ rfl
 |vs is=>
  have hs:=AH (t:=iE vn (.vs is) (sk x 1)) (n:=x.pos.line) (env:=env) (λ_ _ z=>B3 z) (aW vn e (sk x 0));rcases Ve (vn:=vn) (is:=is) (env:=env) e (sk x 0) with⟨es,q⟩|q
  ·subst q;exact Tr H Caa c F hk.1 hk.2 hc.2 h hs
  ·exact pS H Caa c F hk.2 hc.2 h hs (q ..)
 |a o a=>exact pS H Caa c F hk.2 hc.2 h (AH (λ_ _ z=>B3 z) _) rfl
 |i o i=>exact pS H Caa c F hk.2 hc.2 h (AH (λ_ _ z=>B3 z) _) rfl
theorem Vi(H:bF cx)(Caa:gD C d)(a:S):SS C d a:=
 S.rec (motive_1:=SS C d) (motive_2:=l0 C d) (λt e=>U0 H Caa) (λt op e=>U1 H Caa) (λe=>VS (fO H Caa e).1) (λt a b i j=>U3 (fO H Caa t).2 i j) (λt b i=>U5 (fO H Caa t).2 i)
  (λt it b i=>U2 (GO H Caa it) i) (λe=>U4 (fO H Caa e).1) (λ{A env gl vn B J Z s}x{Q}c F hc h=>h.elim) GA (λa r i j=>E6 i j) a
theorem GP(H:bF cx)(Caa:gD C d):∀cs:List S,l0 C d cs
 |[]=>GA
 |a::r=>E6 (Vi H Caa a) (GP H Caa r)
end
end
section
open PySem PySem.W PyProof.Rows PySem.SeqAt PySem.Calls
theorem De{n:Str}:∀{k:Nat}{names:List Str}{xs:List ag},n∈names.take k->k<=xs.length->((names.zip xs).lookup n).isSome=true:=by
 intro k;induction k with
 |zero=>intro names xs h;rw[List.take_zero]at h;exact nm h
 |succ k ih=>
  intro names xs h hk;cases names with
  |nil=>exact nm h
  |cons m names=>
   cases xs with
   |nil=>exact absurd hk (xH _)
   |cons x xs=>
    rw[xR];by_cases q:n=m
    ·rw[fy,q,beq_self_eq_true];rfl
    ·rw[fy,jl q];exact ih ((cp.mp h).elim (λe=>absurd e q) id) (pj hk)
theorem MZ{n:Str}:∀{names:List Str}{xs:List ag},names.contains n=false->(names.zip xs).lookup n=none:=by
 intro names;induction names with
 |nil=>intro xs _;rfl
 |cons m names ih=>
  intro xs h;cases xs with
  |nil=>rfl
  |cons x xs=>
   rw[xO,JX]at h;rw[xR,fy,h.1];exact ih h.2
theorem Pd{α β:Type}{f g:α->Option β}:∀{l:List α},(∀n∈l,f n=g n)->l.filterMap f=l.filterMap g:=@λrr=>li (@λ_=>rfl)
 (@λa l ih h=>by rw[xJ,xJ,h a (.head _),ih λn m=>h n (.tail _ m)]) rr
theorem OS:∀{names:List Str}{ys:List ag},gW names=true->ys.length=names.length->(names.filterMap λn=>((names.zip ys).lookup n).map (n,·))=names.zip ys:=by
 intro names;induction names with
 |nil=>intro ys _ _;rfl
 |cons m names ih=>
  intro ys hn hl;cases ys with
  |nil=>cases hl
  |cons y ys=>
   rw[xR,xJ,fy,beq_self_eq_true];refine congrArg (yB _) ((Pd λn hm=>?_).trans (ih (av hn).2 (iH hl)));have q:n≠m:=λe=>by
    have z:=gX (av hn).1;rw[fG.mpr (e▸hm)]at z;cases z
   rw[fy,jl q]
theorem Nz:∀(l:List (Str×ag))(slots:List (Str×ag)),
  (forIn l slots λx __s=>if (iS x.1 __s).isNone=true then(pure (nK (__s++[(x.1,x.2)])):Sem (ForInStep (List (Str×ag)))) else pure (nK __s))=pure (l.foldl (λsl x=>if (sl.lookup x.1).isNone=true then sl++[x] else sl) slots):=by
 intro l;induction l with
 |nil=>intro slots;rfl
 |cons x l ih=>
  intro slots;rw[K3,x5];by_cases h:(iS x.1 slots).isNone=true
  ·rw[if_pos h,if_pos h];exact ih _
  ·rw[if_neg h,if_neg h];exact ih _
theorem Ll:∀{ns:List Str}{z:Str},gW (ns++[z])=true->ns.contains z=false:=by
 intro ns;induction ns with
 |nil=>intro z _;rfl
 |cons m ns ih=>
  intro z h;rw[xO,ih (av h).2,Bool.or_false];have q:=gX (av h).1;refine beq_eq_false_iff_ne.mpr λe=>?_;rw[show(ns.append [z]).contains m=true from fG.mpr (gw.mpr (.inr (cJ.mpr e.symm)))]at q;exact nb q
theorem NJ:∀(l sl:List (Str×ag)),(∀x∈l,(iS x.1 sl).isSome=true)->l.foldl (λsl x=>if (iS x.1 sl).isNone=true then sl++[x] else sl) sl=sl:=λrr=>li (λ_ _=>rfl)
 (λx l ih sl h=>by
  have hx:=h x (.head _);rw[x5,if_neg (by rw[Bs];intro q;rw[q]at hx;exact bn hx)];exact ih sl λy hy=>h y (.tail _ hy)) rr
theorem QA{names:List Str}{xs D:List ag}(hn:gW names=true)(hD:D.length<=1\/xs.length=names.length)(h1:xs.length<=names.length)(h2:names.length<=xs.length+D.length) :
  ((names.drop (names.length-D.length)).zip D).foldl (λsl x=>if (iS x.1 sl).isNone=true then sl++[x] else sl) (names.zip xs)=names.zip (xs++D.drop (D.length+xs.length-names.length)):=by
 by_cases e:xs.length=names.length
 ·rw[NJ _ _ λx hx=>De (k:=names.length) (by rw[nH];exact BE (Cd (show(x.1,x.2)∈_ from hx)).1) (dA e.symm),e,BN,kW,gO]
 ·cases D with
  |nil=>exact absurd (cX h1 h2) e
  |cons d D=>
   cases D with
   |cons=>exact absurd (hD.resolve_right e) (J6 _∘λz=>ai (cK (cK (bJ _))) z)
   |nil=>
    rcases JL names with rfl|⟨ns,z,e2⟩
    ·exact absurd (cX h1 (bJ _)) e
    ·have e2:names=ns++[z]:=by rw[e2,JJ]
     subst e2;have hl:(ns++[z]).length=ns.length+1:=bB;rw[hl]at h1 h2 e ⊢;have e:ns.length=xs.length:=cX (pj h2) (eU (hF h1 e));rw[show ns.length+1 - [d].length=ns.length from rfl,Cm];show(if (iS z ((ns++[z]).zip xs)).isNone=true then _ else _) = _;rw[show(ns++[z]).zip xs=ns.zip xs by rw[<-gO xs,K6 e,gO];exact gO _];rw[MZ (Ll hn),if_pos (show(none:Option ag).isNone=true from rfl),show [d].length+xs.length-(ns.length+1)=0 by rw[e];show 1+xs.length-(xs.length+1)=0;rw[cb,CE],x7,K6 e];rfl
theorem Oe{p:Arguments}(h:p.posonlyargs=[])(k:p.kwonlyargs=[])(v:p.vararg=none)(w:p.kwarg=none):p=⟨[],p.args,none,[],p.kw_defaults,none,p.defaults⟩:=by
 have z:∀{a b c d},p.posonlyargs=a->p.kwonlyargs=b->p.vararg=c->p.kwarg=d->p=⟨a,p.args,c,b,p.kw_defaults,d,p.defaults⟩:=λh k v w=>by subst h k v w;cases p;rfl
 exact z h k v w
theorem AL{M:Model}{A:bD}{α:Type}{c:Prop}[Decidable c]{x y:Sem α}{Q:α->aB->Prop}{E:ag->aB->Prop}{s:aB}(n:¬c)(h:wpAny M A y Q E s):wpAny M A (if c then x else y) Q E s:=by rw[if_neg n];exact h
theorem V3{M:Model}{A:bD}{α:Type}{x:Sem α}{v:α}{Q:α->aB->Prop}{E:ag->aB->Prop}{s:aB}(e:x=pure v)(h:Q v s):wpAny M A x Q E s:=by rw[e];exact a9 h
theorem Nt{fd:FuncData}{names:List Str}{xs D:List ag}{ds:Option (Array ag)}{M:Model}{A:bD}{E:ag->aB->Prop}{s:aB}{Q:List (Str×ag)->aB->Prop}
  (h1:fd.params.posonlyargs=[]) (h2:fd.params.kwonlyargs=[]) (h3:fd.params.vararg=none) (h4:fd.params.kwarg=none) (h5:fd.params.args.map (·.arg)=names)
  (hd:∀Q:Option (Array ag)->aB->Prop,Q ds s->wpAny M A (seqItems? fd.defaults) Q E s) (hD:(ds.getD #[]).toList=D) (hn:gW names=true) (hD1:D.length<=1\/xs.length=names.length) (hdn:D.length<=names.length) (hx:xs.length<=names.length) (hx2:names.length<=xs.length+D.length)
  (h:Q (names.zip (xs++D.drop (D.length+xs.length-names.length))) s):wpAny M A (bindArgs fd ⟨xs,[]⟩) Q E s:=by
 subst h5;have hdr:D.drop (D.length-(fd.params.args.map (·.arg)).length)=D:=by rw[BA hdn,x7]
 have hm:¬(!(List.filter (λn=>(iS n ((fd.params.args.map (·.arg)).zip xs)).isNone) ((fd.params.args.map (·.arg)).take ((fd.params.args.map (·.arg)).length-(D.drop (D.length-(fd.params.args.map (·.arg)).length)).length))).isEmpty)=true:=by
  rw[hdr,Bu.mpr λn hm=>by
   have:=De (xs:=xs) hm (Nat.sub_le_of_le_add hx2);rw[Bs];intro q;rw[q]at this;exact bn this]
  exact kU
 have len:(xs++D.drop (D.length+xs.length-(fd.params.args.map (·.arg)).length)).length=(fd.params.args.map (·.arg)).length:=by
  rw[bB,hU];exact bE [_,_,_,_,_] [] (.a .v0 .v1) .v2 [(1,.en (.a .v3 .v2) (.a .v4 .v0)),(-1,.en (.a .v1 .v3) .v4)] rfl (aZ (au [_,_,_] [] (.ln .v0 (.a .v1 .v2)) 1 [(1,.ln .v0 (.a .v2 .v1))] rfl hx2)) (aZ (au [_,_,_,_] [] (.ln .v0 .v1) 1 [(1,.ln .v2 .v3),(1,.en (.a .v0 .v3) (.a .v1 .v2))] rfl hx (aZ (au [_,_,_] [] (.ln .v0 (.a .v1 .v2)) 1 [(1,.ln .v0 (.a .v2 .v1))] rfl hx2))))
 have bz:=OS hn len;have sl:(((fd.params.args.map (·.arg)).drop ((fd.params.args.map (·.arg)).length-(D.drop (D.length-(fd.params.args.map (·.arg)).length)).length)).zip (D.drop (D.length-(fd.params.args.map (·.arg)).length))).foldl (λsl x=>if (iS x.1 sl).isNone=true then sl++[x] else sl) ((fd.params.args.map (·.arg)).zip xs)=(fd.params.args.map (·.arg)).zip (xs++D.drop (D.length+xs.length-(fd.params.args.map (·.arg)).length)):=by
  rw[hdr];exact QA hn hD1 hx hx2
 have nl:¬(decide (xs.length > (fd.params.args.map (·.arg)).length)&&true)=true:=by rw[decide_eq_false (bc.mpr hx)];exact kU
 refine(congrArg (λp=>wpAny M A (bindArgs { fd with params:=p } ⟨xs,[]⟩) Q E s) (Oe h1 h2 h3 h4)).mpr ?_;refine aG (a9 (aG (hd _ ?_)));subst hD;refine AL nl (AL hm ?_);exact aG (V3 (Nz ..) (aG (a9 (AL kU (a9 ((congrArg (λz=>Q z s) ((congrArg (λz=>(fd.params.args.map Arg.arg++[]).filterMap λn=>(iS n z).map (n,·)) sl).trans (by rw[gO];exact bz))).mpr h))))))
end
section
open PySem PySem.W PyProof.Rows PySem.SeqAt PySem.Calls
theorem Dr{x:Str}:∀{names:List (Str×k7)}{n:Nat}{acc:List (Str×aq)},((x,uw)∈names\/(acc.lookup x).isSome=true)->((cellsFrom n names acc).lookup x).isSome=true:=by
 intro names;induction names with
 |nil=>intro n acc h;exact h.elim (λz=>nm z) id
 |cons p r ih=>
  intro n acc h;obtain⟨m,k⟩:=p;rw[cellsFrom];by_cases hk:(k==uw)=true
  ·rw[if_pos hk];refine ih ?_;by_cases hx:x=m
   ·right;rw[fy,hx,beq_self_eq_true];rfl
   ·refine h.imp (λz=>(cp.mp z).elim (λe=>absurd (congrArg OK e) hx) id) λz=>?_;rw[fy,jl hx];exact z
  ·rw[if_neg hk];exact ih (h.imp (λz=>(cp.mp z).elim (λe=>absurd ((nN e).2▸rfl) hk) id) id)
theorem Dq{k:Str->Option k7}{x:Str}:∀{names:List Str}{ys:List ag}{m:Str->Option ag},names.contains x=false->bindL k (names.zip ys) m x=m x/\bindC k (names.zip ys) m x=m x:=by
 intro names;induction names with
 |nil=>intro ys m _;exact⟨rfl,rfl⟩
 |cons n names ih=>
  intro ys m h;cases ys with
  |nil=>exact⟨rfl,rfl⟩
  |cons y ys=>
   rw[xO,JX]at h;have hx:x≠n:=beq_eq_false_iff_ne.mp h.1;rw[xR,bindL,bindC,(ih h.2).1,(ih h.2).2];by_cases q:k n=some .local
   ·rw[if_pos q,if_pos q];exact⟨if_neg hx,rfl⟩
   ·rw[if_neg q,if_neg q];exact⟨rfl,if_neg hx⟩
theorem Q3{k:Str->Option k7}:∀{names:List Str}{ys:List ag}{m:Str->Option ag}{i:Nat}{y:ag},gW names=true->i<names.length->ys[i]?=some y ->
  (k (bq names i)=some .local->bindL k (names.zip ys) m (bq names i)=some y)/\(k (bq names i)≠some .local->bindC k (names.zip ys) m (bq names i)=some y):=by
 intro names;induction names with
 |nil=>intro ys m i y _ h;exact absurd h (dM _)
 |cons n names ih=>
  intro ys m i y hn hi hy;cases ys with
  |nil=>exact nn hy
  |cons z ys=>
   cases i with
   |zero=>
    injection hy with hy;subst hy
    have hk:=gX (av hn).1;refine⟨λq=>?_,λq=>?_⟩
    ·show bindL k (names.zip ys) (if k n=some .local then _ else _) n = _;rw[if_pos (show k n = _ from q),(Dq hk).1];exact if_pos rfl
    ·show bindC k (names.zip ys) (if k n=some .local then _ else _) n = _;rw[if_neg (show ¬k n = _ from q),(Dq hk).2];exact if_pos rfl
   |succ i=>exact⟨(ih (av hn).2 (fe hi) hy).1,(ih (av hn).2 (fe hi) hy).2⟩
theorem zm:∀{vn:List Str}{n i:Nat},i<n->bq (vn.take n) i=bq vn i
 |[],_,_,_=>by rw[x9]
 |_::_,0,_,h=>absurd h (dM _)
 |_::_,_+1,0,_=>rfl
 |_::vn,n+1,i+1,h=>zm (vn:=vn) (fe h)
theorem Vf:∀{vn:List Str}{x:Str},vn.contains x=true->∃i,i<vn.length/\bq vn i=x:=by
 intro vn;induction vn with
 |nil=>intro x h;exact bn h
 |cons y vn ih=>
  intro x h;rw[xO,Bool.or_eq_true]at h;rcases h with h|h
  ·exact⟨0,fh _,(eq_of_beq h).symm⟩
  ·refine ar (ih h) λi hi e=>?_;exact⟨i+1,nJ hi,e⟩
theorem yr:∀{vn:List Str}{n:Nat},gW vn=true->gW (vn.take n)=true
 |[],_,_=>by rw[x9];rfl
 |_::_,0,_=>rfl
 |x::vn,n+1,h=>by
  refine f7.mpr ⟨?_,yr (av h).2⟩;cases q:(vn.take n).contains x with
  |false=>rfl
  |true=>
   have z:=gX (av h).1;rw[fG.mpr (rj (fG.mp q))]at z;exact nb z
theorem Qd{vs:List V}{n:Nat}:∀{i:Nat}{v:V},rd (vs.map some++aR n none) i=some v->vs[i]?=some v:=by
 induction vs with
 |nil=>intro i v h;rw[LV,uo,vZ]at h;exact nn h
 |cons u vs ih=>
  intro i v h;cases i with
  |zero=>exact h
  |succ i=>exact ih h
section
variable{d:Nat}{B:aq->Prop}{Z Z':ae}{s s' s₁:aB}{A:bD}{f:Nat}{o:Obj}{fd:FuncData}{l:List cf}{D:List ag}
structure Wx(fd:FuncData)(vn:List Str):Prop where
 kind:fd.scope.kind=.function
 gen:fd.scope.isGenerator=false
 cor:fd.scope.isCoroutine=false
 vns:∀i,i<vn.length->(fd.scope.names.lookup (bq vn i)=some .local\/fd.scope.names.lookup (bq vn i)=some .cell)
 vno:∀x,vn.contains x=true->(x==("__debug__":Str))=false/\(x==("__classdict__":Str))=false
 nodup:gW vn=true
 gl:∀x,gu (m9 fd.scope) vn x=true->fd.scope.names.lookup x=some .globalImplicit/\(x==("__debug__":Str))=false/\x≠"__name__"/\(x==("super":Str))=false
 cell:∀x,(m9 fd.scope).contains x=true->vn.contains x=true->fd.scope.names.lookup x=some .cell
theorem HB{vn:List Str}(h:Bi fd.scope vn=true):Wx fd vn:=by
 refine aT (av h) λh h6=>?_;refine aT (av h) λh h5=>?_;refine aT (av h) λh h4=>?_;refine aT (av h) λh h3=>?_;refine aT (av h) λh1 h2=>?_;have v:=λx(hx:x∈vn)=>dU.mp h4 x hx;have g:=λx(hx:(m9 fd.scope).contains x=true)=>dU.mp h6 x (fG.mp hx);refine⟨eq_of_beq h1,gX h2,gX h3,λi hi=>?_,λx hx=>?_,h5,λx hx=>?_,λx hx hv=>?_⟩
 ·exact(ug.mp (av (av (v _ (fG.mp (mI hi)))).1).1).imp eq_of_beq eq_of_beq
 ·have z:=v x (fG.mp hx);exact⟨gX (av (av z).1).2,gX (av z).2⟩
 ·have z:=g x (av hx).1;rw[gX (av hx).2]at z;have y:=av (av z).1;exact⟨eq_of_beq (av y.1).1,gX (av y.1).2,bne_iff_ne.mp y.2,gX (av z).2⟩
 ·have z:=g x hx;rw[hv]at z;exact eq_of_beq z
theorem ML(G:aE B Z s.heap)(F:Il K₀ f o fd l D){a:aq}{env:Env}{vs:List V}{ys:List ag}{J:aj}(he:env=newEnv fd.scope s.heap.objs.size fd.globals (cellsFrom (s.heap.objs.size+1) fd.scope.names []) (fd.qualname++".<locals>.") (some a) fd.code none fd.builtins)
  (x:InCallC s env.locals (bindL env.kindOf (((pV f).take (pF f).par).zip ys) λ_=>none) env.cells (bindC env.kindOf (((pV f).take (pF f).par).zip ys) λ_=>none) s₁)
  (rs:aN (Fz Z B) s.heap vs ys) (hl:vs.length=(pF f).par) (hJ:J=vs.map some++aR (pF f).loc none) (R:eC A (2*d+2)) :
  Ct (2*d) (A.deeper env) env (m9 fd.scope) (pV f) (BW B (ef env)) J Z s₁/\lK env (pV f)/\Af B Z s Z s₁/\∀b,ef env b->s.heap.objs.size<=b:=by
 have S:=HB F.sc;have kd:∀y,env.kindOf y=fd.scope.names.lookup y:=λy=>by rw[he];rfl
 obtain⟨h₁,tk,rfl,hk⟩:=x.done;have f1:Af B Z s Z { s with heap:=h₁,toks:=tk }:=.heap G hk tk;have hloc:env.locals=s.heap.objs.size:=by rw[he];rfl
 have above:∀y c,env.cells.lookup y=some c->s.heap.objs.size<c:=λy c hc=>hloc▸x.above y c (pG hc);have big:∀b,ef env b->s.heap.objs.size<=b:=λb hb=>hb.elim (λe=>dA (e.trans hloc).symm) λq=>q.elim λy hc=>cu (above y b hc);have there:∀b,ef env b->∃o,h₁.get? b=some o:=λb hb=>hb.elim (λe=>e▸x.toInCall.ns.elim λo q=>q.elim λ_ q=>q.elim λ_ q=>⟨o,q.1⟩) λq=>q.elim λy hc=>(x.cell y b hc).elim λo q=>⟨o,q.1⟩
 have G1:aE (BW B (ef env)) Z h₁:=G.block hk big there;have kp:Kp (Fz Z B) s.heap (Fz Z (BW B (ef env))) h₁:=r9 hk big;have cellOf:∀i,i<(pV f).length->fd.scope.names.lookup (bq (pV f) i)=some .cell->∃c,env.cells.lookup (bq (pV f) i)=some c:=λi hi q=>by
  refine t7.mp ?_;rw[he];exact Dr (.inl (pG q))
 have K:eG env (m9 fd.scope) (pV f) (BW B (ef env)):=by
  refine⟨by rw[he];exact S.kind,by rw[he];exact F.glob,by rw[he];exact F.blt,λy hy=>(kd y).trans (S.gl y hy).1,λy h1 h2=>.inl ((kd y).trans (S.cell y h1 h2)),.inr (.inl rfl),S.nodup,λy c hc=>⟨.inr (.inr ⟨y,hc⟩),?_⟩,λy z c h1 h2=>?_,S.vno,λy hy=>(S.gl y hy).2⟩
  ·rw[hloc];exact ip (above y c hc)
  ·exact name_of_addr x.apart (pG h1) (pG h2)
 have hlen:vs.length<=(pV f).length:=by rw[hl,F.len];exact aL _ _
 refine⟨⟨⟨R.hd,?_,?_⟩,K,G1,⟨?_,_,x.toInCall.ns,λi hi=>?_⟩⟩,λi hi=>?_,f1,big⟩
 ·have:=R.depth;show A.depth+1+4*(2*d+1)+10<=900;exact au [_,_] [] (.ln (.a (.a (.a .v0 .k1) (.m 4 (.a (.m 2 .v1) .k1))) (.k 10)) (.k 900)) 1 [(1,.ln (.a (.a .v0 (.m 4 (.a (.m 2 .v1) (.k 2)))) (.k 10)) (.k 900))] rfl this
 ·have:=R.units;show A.units+3+40*(2*d+1)+100<=9000;exact au [_,_] [] (.ln (.a (.a (.a .v0 (.k 3)) (.m 40 (.a (.m 2 .v1) .k1))) (.k 100)) (.k 9000)) 1 [(1,.ln (.a (.a .v0 (.m 40 (.a (.m 2 .v1) (.k 2)))) (.k 100)) (.k 9000))] rfl this
 ·rw[hJ,bB,aY,dq,hl,F.len]
 ·have held:∀{z:Option ag},(∀y,ys[i]?=some y->i<(pF f).par->z=some y)->jx (Fz Z (BW B (ef env))) h₁ (rd J i) z:=λhz v hv=>by
   rw[hJ]at hv;have hv:=Qd hv;obtain⟨y,hy,ry⟩:=rs.get hv;exact⟨y,hz y hy (hl▸(iQ.mp hv).1),ry.mono kp⟩
  have e8:=λy hy(hp:i<(pF f).par)=>Q3 (k:=env.kindOf) (m:=λ_=>none) (yr (n:=(pF f).par) S.nodup) (i:=i) (by rw[eV];exact MF.mpr ⟨hp,hi⟩) (show ys[i]?=some y from hy);rcases S.vns i hi with q|q
  ·exact .inl ⟨(kd _).trans q,held λy hy hp=>by
    have z:=(e8 y hy hp).1;rw[zm hp]at z;exact z ((kd _).trans q)⟩
  ·obtain⟨c,hc⟩:=cellOf i hi q;refine .inr ⟨.inl ((kd _).trans q),c,_,hc,x.cell _ c hc,held λy hy hp=>?_⟩;have z:=(e8 y hy hp).2;rw[zm hp]at z;exact z (by rw[kd,q];nofun)
 ·rcases S.vns i hi with q|q
  ·exact .inl ⟨(kd _).trans q,.inl rfl⟩
  ·exact .inr ⟨(kd _).trans q,λa ha=>ha⟩
theorem V2{v v':V}{y:ag}{Z'':ae}{Q:QV}(G:aE B Z s.heap)(r:VR (Fz Z B) s.heap v y)(wk:Wk v Z v' Z'')(q:Q v' Z''):PE B Z s Q y s:=by
 rcases wk with⟨rfl,hs⟩|⟨a,l,rfl,hc,rfl,hn,hs⟩
 ·exact⟨v',Z'',⟨G.sub hs,.sub hs iT⟩,r.mono (lF hs),q⟩
 ·obtain⟨_,hb,vs,hp,hz,rs⟩:=G.cells _ _ hc;exact⟨.list l,Z'',⟨G.sub hs,.sub hs iT⟩,⟨a,vs,r,⟨hn,hb⟩,hp,hz,rs.mono (lF hs)⟩,q⟩
theorem OV(H:bF cx):∀n,gD (Ph pF n) (2*n):=by
 intro n;induction n with
 |zero=>intro f vs xs Q B Z s A R G r h;exact h.elim
 |succ n ih=>
  intro f vs xs Q B Z s A R G r h;refine ar (bj h) λJ e h=>?_;obtain⟨hle,rfl⟩:=iy e;rcases H.fns f with⟨o,fd,l,D,F⟩|hb
  ·have S:=HB F.sc;have X:=H.X.keeps G.base;have hxl:=r.length;have hpar:((pV f).take (pF f).par).length=(pF f).par:=by rw[eV,F.len];exact jg (aL _ _)
   have hlen:(vs++(pF f).dfl.drop ((pF f).dfl.length+vs.length-(pF f).par)).length=(pF f).par:=by
    rw[bB,hU];exact bE [_,_,_,_,_] [] (.a .v0 .v1) .v2 [(1,.en (.a .v3 .v2) (.a .v4 .v0)),(-1,.en (.a .v1 .v3) .v4)] rfl (aZ (au [_,_,_] [] (.ln .v0 (.a .v1 .v2)) 1 [(1,.ln .v0 (.a .v2 .v1))] rfl hle.2)) (aZ (au [_,_,_,_] [] (.ln .v0 .v1) 1 [(1,.ln .v2 .v3),(1,.en (.a .v0 .v3) (.a .v1 .v2))] rfl hle.1 (aZ (au [_,_,_] [] (.ln .v0 (.a .v1 .v2)) 1 [(1,.ln .v0 (.a .v2 .v1))] rfl hle.2))))
   have hdd:(D.length<=1\/xs.length=((pV f).take (pF f).par).length)/\((pV f).take (pF f).par).length<=xs.length+D.length/\aN (Fz Z B) s.heap (vs++(pF f).dfl.drop ((pF f).dfl.length+vs.length-(pF f).par)) (xs++D.drop (D.length+xs.length-((pV f).take (pF f).par).length)):=by
    rw[hpar,hxl];rcases F.dv with⟨h1,h2⟩|h2
    ·have hDl:D.length=(pF f).dfl.length:=(h2 (λ_=>True) s.heap).length;rw[hDl];exact⟨.inl (hDl▸h1),hle.2,r.append ((h2 _ _).drop _)⟩
    ·rw[h2]at hle ⊢;have e:vs.length=(pF f).par:=cX hle.1 hle.2;refine⟨.inr e,e▸aL _ _,?_⟩;rw[e,uv,gO,show D.length+(pF f).par-(pF f).par=D.length from BN ..,kW,gO];exact r
   have main:∀ds:Option (Array ag),(ds.getD #[]).toList=D->(∀Q:Option (Array ag)->aB->Prop,Q ds s->wpAny Md A.in1 (seqItems? fd.defaults) Q aw s)->codeAny Md A (.call (.ref (fa f)) ⟨xs,[]⟩) (wants (PE B Z s Q) aw) s:=λds hds hq=>by
    refine codeAny_call_function R.lim (X _ _ F.get) F.data S.cor S.gen F.body (codeRec_of X F.code) ?_;refine qA (Nt F.p1 F.p2 F.p3 F.p4 F.p5 hq hds (yr S.nodup) hdd.1 (by rw[hpar];exact F.dn) (by rw[hpar,hxl];exact hle.1) hdd.2.1 ?_);rw[F.clo];refine qA (wpAny_newFunctionEnv_cells S.kind (λp hp=>?_) λenv he s₁ x=>?_)
    ·have hm:=fG.mpr (rj (Cd (show(p.1,p.2)∈_ from hp)).1);have:∃i,i<(pV f).length/\bq (pV f) i=p.1:=Vf hm;refine ar this λi hi e=>?_;rw[<-e];exact(S.vns i hi).imp id λq=>⟨q,Dr (.inl (pG q))⟩
    ·obtain⟨c,Fe,f1,big⟩:=ML (d:=n) G F he x hdd.2.2 hlen rfl R;rw[dw]at c;have hf:eZ (ef env) B Z s:=eZ.size G big;refine⟨H.nolimit.keeps f1.g.base,codeAny_func ?_⟩;rw[<-F.tree];refine ji (GP H ih (pF f).body sx l c Fe F.ok h) (λfl s' p=>?_) λ_ _ z=>z.elim;obtain⟨o',J',Z',p,e,v',Z'',wk,q⟩:=p;have f2:Af B Z s Z' s':=⟨p.g.unblock,f1.x.fresh hf p.x⟩
     have fin:∀{y:ag},VR (Fz Z' (BW B (ef env))) s'.heap (jb o') y->PE B Z s Q y s':=λrv=>PE.lift f2 (V2 f2.g (rv.mono yx) wk q);cases o' with
     |next=>subst e;exact fin (y:=.none) rfl
     |ret v=>obtain⟨y,rfl,ry⟩:=e;exact fin ry
   rcases F.dfl with⟨e1,e2⟩|⟨T,oT,m,e1,e2,e3⟩
   ·exact main none (by rw[e2];rfl) λQ q=>by rw[e1];exact a9 q
   ·exact main (some D.toArray) rfl λQ q=>by rw[e1];exact uu (X _ _ e2) e3 q
  ·rw[hb]at h;exact h.elim
end
end
section
set_option maxRecDepth 100000
open PySem PySem.W PyProof.Rows
noncomputable def Xw(n:Str):Bool:=n==("_wall":Str)
noncomputable def uM:List cf->List (List cf)
 |[]=>[]
 |s::r=>match s with
  |.FunctionDef n _ b _ _ _ _ _ _ _=>(match Xw n with
   |true=>uM r
   |false=>b::uM r)
  |_=>uM r
noncomputable def uG:List cf->List (List cf)
 |[]=>[]
 |s::r=>match s with
  |.FunctionDef _ _ b _ _ _ _ _ _ _=>b::uG r
  |_=>uG r
noncomputable def rV:List cf->List (List cf)
 |[]=>[]
 |s::r=>match s with
  |.ClassDef n _ _ b _ _ _ _ _ _ _=>(match tF.contains n with
   |true=>(match n==("Hunk":Str) with
    |true=>(uG b).take 1++rV r
    |false=>uG b++rV r)
   |false=>rV r)
  |_=>rV r
noncomputable def g5:List (List cf):=uM cy.main.body++rV cy.main.body
noncomputable def iG:Nat->Nat->List Nat
 |0,_=>[]
 |n+1,i=>i::iG n (i+1)
noncomputable def tX(f:Nat):List cf:=mX (pV f) sx (pF f).body (cS g5 f [])
theorem Ou:(iG 55 0).map tX=g5:=by kernel_rfl
end
section
set_option maxRecDepth 100000
open PySem PySem.W PyProof.Rows
noncomputable def mT(h:Heap):Nat->Nat->Frag
 |0,_=>[]
 |n+1,a=>match h.get? a with
  |some o=>(a,o)::mT h n (a+1)
  |none=>mT h n (a+1)
noncomputable def Iv(o:Obj):Option FuncData:=match o.data with
 |.func fd=>some fd
 |_=>none
noncomputable def A9(K:Frag)(f:Nat):Option FuncData:=(K.lookup (fa f)).bind Iv
noncomputable def qD(b:FuncBody):List cf:=match b with
 |.stmts l=>l
 |_=>[]
noncomputable def HZ(b:FuncBody):Bool:=match b with
 |.stmts _=>true
 |_=>false
noncomputable def lM(K:Frag)(f:Nat):List cf:=match A9 K f with
 |some fd=>qD fd.body
 |none=>[]
noncomputable def AZ(K:Frag)(v:ag):Option (List ag):=match v with
 |.ref T=>(match K.lookup T with
  |some oT=>(match oT.data with
   |.seq a _=>some a.toList
   |_=>none)
  |none=>none)
 |_=>none
noncomputable def zD(v:ag):Bool:=match v with
 |.none=>true
 |_=>false
noncomputable def wG(K:Frag)(f:Nat)(v:ag):Bool:=match zD v with
 |true=>(pF f).dfl.isEmpty
 |false=>(match AZ K v with
  |none=>false
  |some D=>decide (D.length<=(pF f).par)&&(match (pF f).dfl with
   |[]=>true
   |d::r=>r.isEmpty&&(match eJ d with
    |none=>false
    |some i=>(match D with
     |[]=>false
     |x::D=>D.isEmpty&&x.isInt i))))
noncomputable def Ba(K:Frag)(f:Nat):Bool:=match A9 K f with
 |some fd=>HZ fd.body&&mU (m9 fd.scope) (pV f) sx (pF f).body (qD fd.body)&&Bi fd.scope (pV f)&&fd.globals==mainGlobals&&fd.builtins==builtinsNs&&fd.closure.isEmpty&&codeIn K fd.code fd.qualname &&
   fd.params.posonlyargs.isEmpty&&fd.params.kwonlyargs.isEmpty&&fd.params.vararg.isNone&&fd.params.kwarg.isNone&&fd.params.args.map (·.arg)==(pV f).take (pF f).par&&(pV f).length==(pF f).par+(pF f).loc&&wG K f fd.defaults
 |none=>false
noncomputable def Ir(K:Frag)(c:Nat):Bool:=
 plainGet K (ca c) ""&&hasDictIn K (ca c)&&plainOver K (ca c)&&findIn K (.ref (ca c)) "__setattr__"==some (some (.builtin "object.__setattr__"))&&(dH c).all (λa=>findIn K (.ref (ca c)) (an a)==some none) &&
 (dH c).all (λa=>(dH c).all λb=>a==b||an a != an b)&&(cS td c []).all (λp=>findIn K (.ref (ca c)) (an p.1)==some (some (.ref (fa p.2)))&&isFn K (.ref (fa p.2))&&(dH c).all λa=>an a != an p.1) &&
 makesIn K (ca c)&&findIn K (.ref (ca c)) "__init__"==some (some (.ref (fa (initF c))))&&isFn K (.ref (fa (initF c)))&&keepIn K (.ref (ca c))&&decide ((dH c).length<=100)
noncomputable def GX(o:Option (Option ag)):Option (List UInt8×Tok):=match o with
 |some o=>(match o with
  |some y=>(match y with
   |.bytes a t=>some (a.toList,t)
   |_=>none)
  |none=>none)
 |none=>none
noncomputable def Iz(K:Frag)(g:Nat):Bool:=match (qy g).bind fV with
 |some b=>(match GX (nsIn K mainGlobals (cS qK g "")) with
  |some p=>decide (b.length<=aJ)&&p.1==b
  |none=>false)
 |none=>false
noncomputable def V7:List Str:=["len","isinstance","int","max","min","sum","bytes","str","range","enumerate","zip"]
noncomputable def tK(K:Frag):Bool:=
 (K.lookup sysModules).isSome&&(iG 26 0).all (λf=>nsIn K mainGlobals (cS wK f "")==some (some (.ref (fa f)))&&keepIn K (.ref (fa f)))&&td.all (λl=>l.all λp=>keepIn K (.ref (fa p.2))) &&
 (iG 5 0).all (λc=>nsIn K mainGlobals (cS tF c "")==some (some (.ref (ca c)))&&Ir K c)&&(iG 4 0).all (Iz K)&&V7.all (λx=>nsIn K mainGlobals x==some none&&x != "__name__")&&(iG 55 0).all (Ba K)
theorem Pe(h:Heap):∀(n a:Nat),(mT h n a).In h:=by
 intro n;induction n with
 |zero=>intro a b o e;exact nn e
 |succ n ih=>
  intro a b o e;rw[mT]at e;cases q:h.get? a with
  |none=>rw[q]at e;exact ih _ b o e
  |some p=>
   rw[q]at e;by_cases hb:b=a
   ·subst hb;rw[show iS b ((b,p)::mT h n (b+1))=some p from by rw[fy,beq_self_eq_true]]at e
    (injection e with e;subst e);exact q
   ·rw[show iS b ((a,p)::mT h n (a+1))=iS b (mT h n (a+1)) from by rw[fy,beq_eq_false_iff_ne.mpr hb]]at e;exact ih _ b o e
theorem GF:∀{n i k:Nat},k<n->i+k∈iG n i
 |0,_,_,h=>absurd h (dM _)
 |n+1,i,0,_=>.head _
 |n+1,i,k+1,h=>by
  exact .tail _ (cH i k▸GF (i:=i+1) (fe h))
theorem vN{n k:Nat}{p:Nat->Bool}(h:(iG n 0).all p=true)(hk:k<n):p k=true:=dU.mp h k (aU k▸GF hk)
theorem EU{α:Type}{d:α}:∀{l:List α}{n:Nat},n<l.length->cS l n d∈l
 |[],_,h=>absurd h (dM _)
 |_::_,0,_=>.head _
 |_::_,n+1,h=>.tail _ (EU (n:=n) (fe h))
theorem DO{m f:Nat}:∀{l:List (Nat×Nat)},wo l m=some f->(m,f)∈l:=by
 intro l;induction l with
 |nil=>intro h;exact nn h
 |cons p l ih=>
  intro h;rw[wo]at h;by_cases q:p.1=m
  ·rw[if_pos q]at h;(injection h with h;subst h);rw[<-q];exact .head _
  ·rw[if_neg q]at h;exact .tail _ (ih h)
theorem pM{α:Type}{l:List α}(h:l.isEmpty=true):l=[]:=List.isEmpty_iff.mp h
theorem C8{α:Type}{o:Option α}(h:o.isNone=true):o=none:=Bs.mp h
theorem Ms{v:ag}(h:zD v=true):v=.none:=by cases v<;>first|rfl|cases h
theorem NS{v:ag}{i:Int}(h:v.isInt i=true):∃t,v=.int i t:=by
 cases v<;>try (cases h;done)
 exact⟨_,by rw[show _ = i from eq_of_beq h]⟩
set_option tactic.hygienic true in
theorem Qq{K:Frag}{v:ag}{D:List ag}(h:AZ K v=some D):∃T oT n,v=.ref T/\K.lookup T=some oT/\oT.data=.seq D.toArray n:=by
 cases v<;>try (exact nn h;done)
 rename_i T
 replace h:(match K.lookup T with|some oT=>(match oT.data with|.seq a _=>some a.toList|_=>none)|none=>none)=some D:=h;cases q:K.lookup T with
 |none=>rw[q]at h;exact nn h
 |some oT=>
  rw[q]at h;obtain⟨cls,dict,data,slots⟩:=oT;cases data<;>try (exact nn h;done)
  injection h with h;subst h
  exact⟨T,_,_,rfl,q,rfl⟩
theorem Vr{K:Frag}{f:Nat}{y:ag}(hdf:wG K f y=true):∃D,((y=.none/\D=[])\/∃T oT n,y=.ref T/\K.lookup T=some oT/\oT.data=.seq D.toArray n)/\D.length<=(pF f).par/\((D.length<=1/\∀fz h,aN fz h (pF f).dfl D)\/(pF f).dfl=[]):=by
  unfold wG at hdf;cases hn:zD y with
  |true=>rw[hn]at hdf;exact⟨[],.inl ⟨Ms hn,rfl⟩,bJ _,.inr (pM hdf)⟩
  |false=>
   rw[hn]at hdf;cases hq:AZ K y with
   |none=>rw[hq]at hdf;exact bn hdf
   |some D=>
    rw[hq]at hdf;refine aT (av hdf) λd1 d2=>?_;refine⟨D,.inr (Qq hq),of_decide_eq_true d1,?_⟩;cases hl:(pF f).dfl with
    |nil=>exact .inr rfl
    |cons d r=>
     rw[hl]at d2;refine aT (av d2) λd3 d4=>?_;cases pM d3
     cases hi:eJ d with
     |none=>rw[hi]at d4;exact bn d4
     |some i=>
      rw[hi]at d4;cases D with
      |nil=>exact bn d4
      |cons x D=>
       refine aT (av d4) λd5 d6=>?_;cases pM d5
       obtain⟨t,rfl⟩:=NS d6;obtain rfl:=eX hi;exact .inl ⟨aC _,λfz h=>⟨_,[],rfl,⟨t,rfl⟩,rfl⟩⟩
theorem Pa{o:Obj}{fd:FuncData}(hd:Iv o=some fd):o.data=.func fd:=by
 obtain⟨cls,dict,data,slots⟩:=o;cases data<;>first|exact nn hd|exact congrArg Data.func (dy hd)
theorem O9{b:FuncBody}(h:HZ b=true):b=.stmts (qD b):=by cases b<;>first|rfl|exact bn h
theorem Vw{K:Frag}{f:Nat}(h:Ba K f=true)(hb:tX f=cS g5 f [])(hs:lM K f=cS g5 f []):Im K f:=by
 unfold Ba at h;unfold lM at hs;cases q:A9 K f with
 |none=>rw[q]at h;exact bn h
 |some fd=>
  rw[q]at h hs;refine ar (a8 q) λo ho hd=>?_;replace h:(_&&wG K f fd.defaults)=true:=h;replace hs:qD fd.body=cS g5 f []:=hs;have c0:=av h;have c13:=av c0.1;have c12:=av c13.1;have c11:=av c12.1;have c10:=av c11.1;have c9:=av c10.1;have c8:=av c9.1;have c7:=av c8.1;have c6:=av c7.1;have c5:=av c6.1;have c4:=av c5.1;have c3:=av c4.1;have c2:=av c3.1;have hbody:fd.body=.stmts (qD fd.body):=O9 c2.1;refine cm (Vr c0.2) λD dd1 dd2 dd3=>?_;exact⟨o,fd,qD fd.body,D,ho,Pa hd,hbody,by rw[hs];exact hb,c2.2,c3.2,eq_of_beq c4.2,eq_of_beq c5.2,pM c6.2,c7.2,pM c8.2,pM c9.2,C8 c10.2,C8 c11.2,eq_of_beq c12.2,eq_of_beq c13.2,dd1,dd2,dd3⟩
theorem yP{a b:Str}(h:(a != b)=true):a≠b:=bne_iff_ne.mp h
theorem TC{K:Frag}{c:Nat}(h:Ir K c=true):Ap K c:=by
 have c12:=av h;have c11:=av c12.1;have c10:=av c11.1;have c9:=av c10.1;have c8:=av c9.1;have c7:=av c8.1;have c6:=av c7.1;have c5:=av c6.1;have c4:=av c5.1;have c3:=av c4.1;have c2:=av c3.1;have mem:∀{a},(dH c).contains a=true->a∈dH c:=fG.mp;refine⟨c2.1,c2.2,c3.2,eq_of_beq c4.2,λa ha=>eq_of_beq (dU.mp c5.2 a (mem ha)),λa b ha hb e=>?_,λm f hm=>?_,c8.2,eq_of_beq c9.2,c10.2,c11.2,of_decide_eq_true c12.2⟩
 ·rcases ug.mp (dU.mp (dU.mp c6.2 a (mem ha)) b (mem hb)) with q|q
  ·exact eq_of_beq q
  ·exact absurd e (yP q)
 ·refine aT (av (dU.mp c7.2 _ (DO hm))) λq q3=>?_;refine aT (av q) λq1 q2=>?_;exact⟨eq_of_beq q1,q2,λa ha=>yP (dU.mp q3 a (mem ha))⟩
theorem Wt(f:Nat)(hf:f<55):tX f=cS g5 f []:=by
 have key:∀(n i f:Nat)(l:List (List cf)),(iG n i).map tX=l->f<n->tX (i+f)=cS l f []:=by
  intro n;induction n with
  |zero=>intro i f l _ h;exact absurd h (dM _)
  |succ n ih=>
   intro i f l e h;cases l with
   |nil=>exact nc e
   |cons x l=>
    refine aT (mz e) λe1 e2=>?_;cases f with
    |zero=>exact e1
    |succ f=>rw[<-cH];exact ih (i+1) f l e2 (fe h)
 have:=key 55 0 f g5 Ou hf;rw[aU]at this;exact this
theorem Sn{K:Frag}:∀(n i f:Nat)(l:List (List cf)),(iG n i).map (lM K)=l->f<n->lM K (i+f)=cS l f []:=by
 intro n;induction n with
 |zero=>intro i f l _ h;exact absurd h (dM _)
 |succ n ih=>
  intro i f l e h;cases l with
  |nil=>exact nc e
  |cons x l=>
   refine aT (mz e) λe1 e2=>?_;cases f with
   |zero=>exact e1
   |succ f=>rw[<-cH];exact ih (i+1) f l e2 (fe h)
theorem Uw{w:iz}{h:Heap}{mg mb:Str->Option ag}{K:Frag}(X:K.In h)(hK:tK K=true)(hb:(iG 55 0).map (lM K)=g5)(hg:h.Ns mainGlobals mg)(hbl:h.Ns builtinsNs mb)(hlim:h.NoLimit)(hboot:∀x:Str,x≠"__name__"->mb x=bootBuiltins x):bF ⟨w,h,mg,mb,K⟩:=by
 refine aT (av hK) λhK h7=>?_;refine aT (av hK) λhK h6=>?_;refine aT (av hK) λhK h5=>?_;refine aT (av hK) λhK h4=>?_;refine aT (av hK) λhK h3=>?_;refine aT (av hK) λh1 h2=>?_;refine⟨X,λe=>?_,λf hf=>?_,λk m f hm=>?_,λk hk=>?_,λk hk=>?_,λg hg=>?_,λx hx=>?_,hg,hbl,hlim,hboot,λf=>?_⟩
 ·refine bA (t7.mp h1) λo ho=>?_;rw[X _ _ ho]at e;exact sn e
 ·have z:=av (vN h2 hf);exact⟨eq_of_beq z.1,z.2⟩
 ·refine dU.mp (dU.mp h3 (cS td k []) ?_) _ (DO hm);rcases nM k td.length with q|q
  ·exact EU q
  ·exfalso;obtain⟨j,rfl⟩:=xy q;exact nn hm
 ·have z:=av (vN h4 hk);exact⟨eq_of_beq z.1,TC z.2⟩
 ·obtain⟨j,rfl⟩:=xy (xZ hk);exact⟨rfl,λm=>rfl⟩
 ·have z:=vN h5 hg;unfold Iz at z;cases q1:(qy g).bind fV with
  |none=>rw[q1]at z;exact bn z
  |some b=>
   rw[q1]at z;cases q2:GX (nsIn K mainGlobals (cS qK g "")) with
   |none=>rw[q2]at z;exact bn z
   |some p=>
    rw[q2]at z;refine ar (a8 q1) λv q3 q4=>?_;refine aT (av z) λz1 z2=>?_;refine⟨b,p.2,by rw[q3,gV q4],of_decide_eq_true z1,?_⟩;generalize nsIn K mainGlobals (cS qK g "")=o at q2
    rcases o with _|_|y
    ·exact nn q2
    ·exact nn q2
    ·cases y<;>try (exact nn q2;done)
     injection q2 with q2;subst q2
     rw[<-show _ = b from eq_of_beq z2,JW]
 ·have z:=av (dU.mp h6 x hx);exact⟨eq_of_beq z.1,yP z.2⟩
 ·rcases nM f 55 with q|q
  ·have z:=Sn 55 0 f g5 hb q;rw[aU]at z;exact .inl (Vw (vN h7 q) (Wt f q) z)
  ·obtain⟨j,rfl⟩:=xy q;exact .inr rfl
end
section
set_option maxRecDepth 100000
set_option maxHeartbeats 8000000
noncomputable section
open PySem PySem.W PyProof.Rows
open PySem.W.Fast
def tQ:Option ag:=some (.ref 6)
def tL(p:Program)(w:iz):Nat->SharedT->Thread->Option SharedT
 |0,_,_=>none
 |n+1,s,t=>match through t with
  |true=>some s
  |false=>match tw6613529449190102663 11 tQ t with
   |false=>none
   |true=>match tw10156331382660048174 (tw11892475500146522536 tw14364793385576792824) p w s t with
    |some (s',t')=>tL p w n s' t'
    |none=>none
theorem Ql{p:Program}{w:iz}:∀{n:Nat}{s s':SharedT}{t:Thread},tL p w n s t=some s'->topRun treeTable p w 11 tQ n s.abs t=some s'.abs:=λ{n}=>@(ni (λ{_ _ _}h=>nn h) (λn ih{s s' t}h=>by
  unfold tL at h;unfold topRun;cases ht:through t with
  |true=>rw[ht]at h;exact congrArg (λx:Option SharedT=>x.map (·.abs)) h
  |false=>
   rw[ht]at h;rw[<-te6613529449190102663,<-te10156331382660048174,<-te11892475500146522536,<-te14364793385576792824]at h;cases hk:stepOk 11 tQ t with
   |false=>rw[hk]at h;exact nn h
   |true=>
    rw[hk]at h;cases hs:stepT (denote treeTable) p w s t with
    |none=>rw[hs]at h;exact nn h
    |some r=>
     obtain⟨s2,t2⟩:=r;rw[hs]at h;rw[stepT_spec hs];exact ih h) n)
def pw:Program:=fq
def mN:List Str:=[("_wall":Str),("GitError":Str),("BadState":Str),("lines_of":Str),("BLANKS":Str),("Change":Str),("LineNumbers":Str),("LineSheet":Str),("line_further":Str),("line_rising":Str),("myers":Str),("patience":Str),("histogram":Str),("by":Str),("distance":Str),("LineGaps":Str),("slid":Str),("KEPT":Str),("OUT":Str),("IN":Str),("Hunk":Str),("heading_of":Str),("hunk_around":Str),("hunks_of":Str),("_law_lines":Str),("_law_once":Str),("_law_other":Str),("_law_fewest":Str),("_law_leads":Str),("_law_counts":Str),("_law_places":Str),("_law_ways_right":Str),("_law_front":Str),("_law_runs":Str),("_law_hunk_right":Str),("_law_hunks_right":Str),("_law_moved_right":Str)]
def vw:Program:=view fq [41]
abbrev qM:List Str:=importedModules fq.main.body
def VU(P:Params):BT:=((iI P).objs.toList.foldl (λ(x:BT×Nat)o=>(x.1.ins x.2 o,x.2+1)) (BT.nil,0)).1
def s0(w:iz)(os:OsState):SharedT:=⟨VU w.params,11,(iI w.params).life,#[],uB,uE,os⟩
theorem Uz(w:iz)(os:OsState):(s0 w os).abs=⟨iI w.params,#[],uB,uE,os⟩:=by kernel_rfl
def Xt(s:aB):Bool:=xlAt vw [] s&&recOk (RowW.records Bp.row.toRowW) s
def AF(w:iz)(S:aB):Bool×Bool:=(staticsOk qM (iI w.params) S.heap&&namesBound fq S.heap&&gensDone S&&laidKept (iI w.params) S.heap,Xt S)
set_option profiler true
def KQ(S:aB):Frag:=mT S.heap S.heap.objs.size 0
theorem VK:∀w os,(tL fq w 7000 (s0 w os) (topStub fq)).map (λS=>(AF w S.abs,openSeen vw mN qM Xt true S.abs,tK (KQ S.abs),(iG 55 0).map (lM (KQ S.abs))))=some ((true,true),openGood vw mN,true,g5):=by
 intro w os;kernel_rfl
theorem ws:Bp.wellSaid=true:=by
 rw[te9446332074065402090];kernel_rfl
end
end
section
set_option maxRecDepth 100000
set_option maxHeartbeats 8000000
noncomputable section
open PySem PySem.W PyProof.Rows
theorem MK:∀P:Params,((iI P).isNs mainGlobals&&(Ee []:Array GenState).size==0)=true/\(iI P).objs.size=11/\(iI P).nsMap mainGlobals "__annotations__"=tQ:=λP=>⟨by kernel_rfl,by kernel_rfl,by kernel_rfl⟩
theorem Xy:opening fq=plainProg fq.main.scope.names:=by kernel_rfl
theorem Xz:∀s,fenceModules? fq s=some s:=by intro s;kernel_rfl
theorem bo(w:iz):∃oo,fencedOpening treeTable fq w 7000=some ⟨iI w.params,Ee [],uB,uE,oo⟩:=by
 obtain⟨s,hs,e⟩:=JD.mp (boot_open (p:=fq) (N:=7000) Xy (by decide) Xz w);obtain⟨hh,gg,dd,tt,oo⟩:=s;obtain⟨e1,e⟩:=nN e;obtain⟨e2,e⟩:=nN e;obtain⟨e3,e4⟩:=nN e
 dsimp only at e1 e2 e3 e4
 subst e1 e2 e3 e4;exact⟨oo,hs⟩
theorem Qm(w:iz)(oo:OsState):∃S,tL fq w 7000 (s0 w oo) (topStub fq)=some S/\(AF w S.abs,openSeen vw mN qM Xt true S.abs,tK (KQ S.abs),(iG 55 0).map (lM (KQ S.abs)))=((true,true),openGood vw mN,true,g5):=
 JD.mp (VK w oo)
theorem Qp{w:iz}{S:aB}{a b:Bool}(e:AF w S=(a,b)):(staticsOk qM (iI w.params) S.heap&&namesBound fq S.heap&&gensDone S&&laidKept (iI w.params) S.heap)=a:=(nN e).1
theorem QJ{w:iz}{oo:OsState}{S:SharedT}(hr:topRun treeTable fq w 11 tQ 7000 ⟨iI w.params,#[],uB,uE,oo⟩ (topStub fq)=some S.abs)
  (hq:(staticsOk qM (iI w.params) S.abs.heap&&namesBound fq S.abs.heap&&gensDone S.abs&&laidKept (iI w.params) S.abs.heap)=true):topFrom treeTable fq w 7000 ⟨iI w.params,Ee [],uB,uE,oo⟩=some S.abs:=by
 obtain⟨b1,b2,b3⟩:=MK w.params;unfold topFrom
 dsimp only
 rw[b1,b2,b3]
 dsimp only
 rw[hr,B8,hq]
def Yf(s:aB):Bool×List (List cf):=(tK (KQ s),(iG 55 0).map (lM (KQ s)))
theorem Ug(w:iz):(openEnds treeTable fq w 7000).map (λs=>(openSeen vw mN qM Xt true s,Yf s))=some (openGood vw mN,(true,g5)):=by
 obtain⟨oo,hs⟩:=bo w;obtain⟨S,hS,e⟩:=Qm w oo;have hr:=Ql hS;rw[Uz]at hr;obtain⟨q1,q2⟩:=nN e;unfold openEnds;rw[hs,B8,QJ hr (Qp q1),Option.map_some];exact congrArg some q2
theorem left:LeftO fq vw mN Xt Yf (λ_=>(true,g5)) 7000:=Ug
def YP(_:iz)(h:Heap):Prop:=∃K:Frag,K.In h/\tK K=true/\(iG 55 0).map (lM K)=g5
theorem V4(w:iz)(s:aB)(e:Yf s=(true,g5)):YP w s.heap:=⟨KQ s,Pe _ _ _,(nN e).1,(nN e).2⟩
theorem QR(w:iz)(h h':Heap)(y:YP w h)(k:∀b o,h.get? b=some o->h'.get? b=some o):YP w h':=y.elim λK q=>⟨K,q.1.keeps k,q.2⟩
end
end
section
set_option maxRecDepth 100000
open PySem PySem.W PyProof.Rows
def AM:Prop:=∀ns:List Int,ns.length<=63->Ph pF 12 25 [.list (ns.map .int)] (λ_=>none) λv _=>v=.bool true
theorem Pm{fz:aq->Prop}{h:Heap}:∀{vs:List ag}{ns:List Int},IntsAre vs ns->aN fz h (ns.map .int) vs:=by
 intro vs ns hi;induction hi with
 |nil=>rfl
 |cons n t _ ih=>exact⟨_,_,rfl,⟨t,rfl⟩,ih⟩
theorem TG(L:AM)(H:bF cx):tN cx:=by
 intro s l ns vs hh hz hp hi;have G:aE (λ_=>False) (λ_=>none) s.heap:=⟨λa o e=>hh▸e,λa m e=>(nn e),λa e=>e.elim⟩
 have R:eC callerA (2*12):=⟨rfl,by decide,by decide⟩
 have hv:aN (Fz (λ_=>none) λ_=>False) s.heap [.list (ns.map .int)] [.ref l]:=⟨_,[],rfl,⟨l,vs,rfl,⟨rfl,id⟩,hh▸hp,by rw[aY];exact ai hz (by decide),Pm hi⟩,rfl⟩
 refine codeAny_mono (OV H 12 25 _ _ _ _ _ s callerA R G hv (L ns hz)) λr s' hr=>?_
 ·rcases r with e|(_|_|_|v)
  ·exact hr.elim
  ·exact hr.elim
  ·exact hr.elim
  ·exact hr.elim
  ·obtain⟨u,Z',a,rv,rfl⟩:=hr;exact⟨rv,λb o e=>(a.x.keep b o (hh▸e) rfl λq=>q).1,a.x.gens,a.x.os⟩
theorem NU:∀{xs:List WData},K9 [] xs .int=true->∃ns:List Int,xs=ns.map .int:=by
 intro xs;induction xs with
 |nil=>intro _;exact⟨[],rfl⟩
 |cons x xs ih=>
  intro h;rw[K9]at h;refine aT (av h) λh1 h2=>?_;obtain⟨i,rfl⟩:=hasW_int h1;obtain⟨ns,rfl⟩:=ih h2;exact⟨i::ns,rfl⟩
theorem OJ{P:Params}{h:Heap}:∀{ns:List Int}{vs:List ag},WellAll P h vs (ns.map .int)->IntsAre vs ns:=by
 intro ns;induction ns with
 |nil=>intro vs w;cases w;exact .nil
 |cons n ns ih=>
  intro vs w;cases w with
  |cons a b=>cases a;exact .cons _ _ (ih b)
theorem Sz(args ds:List WData):(WShape.has [] (.bool true) .bool&&(WTm.eq .res (.lit (.bool true))).holds [] { args:=args,res:=some (.bool true),after:=ds })=true:=by
 kernel_rfl
theorem SA(ns:List Int)(hpr:(WTm.and (.not (.lt (.lit (.int 63)) (.len (.arg 0)))) (.lit (.bool true))).holds [] { args:=[.list (ns.map .int)] }=true):ns.length<=63:=by
 have key:∀b:Bool,(WTm.and (.not (WTm.var 0)) (.lit (.bool true))).holds [] { args:=[.list (ns.map .int)],vars:=[.bool b] }=true->b=false:=λb=>Ef (λ_=>rfl) (λh=>bn h) b;have z:=of_decide_eq_false (key (decide ((63:Int)<((ns.map WData.int).length:Nat))) hpr);rw[aY]at z;exact gy.1 (jL.1 z)
set_option tactic.hygienic true in
theorem Yo(L:AM):Bp.Holds:=by
 refine holds_law ws λsaid=>holds_open (q:=vw) (loose:=mN) (Xt:=Xt) (XP:=XL vw []) (Yf:=Yf) (Ya:=λ_=>(true,g5)) (YP:=YP) (N:=7000) left V4 QR (λs e=>xl_of s (f7.mp e).1) XL.keeps (by rfl) (by rfl) (by rfl) (λs e=>recFacts_of (f7.mp e).2) (by rfl) said (by decide +kernel) ⟨rfl,rfl,rfl,rfl,rfl,by decide +kernel⟩ ?hw ?call
 case hw=>w_witness2
 case call=>
  intro w s₀ s₁ mg mb G Y a o pm cd doc dV kV ho hd hcd hD hmg hg args vals as hpre hlay hrd hwl hlo;refine aT (pre_splitW hpre) λhsh hpr=>?_;obtain⟨d,rest,rfl,hd1,hd2⟩:=hasAllW_cons hsh;obtain rfl:=hasAllW_nil hd2;obtain⟨xs,rfl,hxs⟩:=hasW_list hd1;obtain⟨ns,rfl⟩:=NU hxs;obtain⟨K,X,hK,hb⟩:=Y;have T:=topRead_of G.T;have P:bF ⟨w,s₁.heap,mg,mb,K⟩:=Uw X hK hb T.g T.b T.nolimit T.builtins;have ha:a=fa 25:=by
   have h1:=mg_of X T.g (P.fn 25 (by decide)).1;have h2:mg ("law":Str)=some (.ref a):=hmg;have h3:mg ("law":Str)=some (.ref (fa 25)):=h1;rw[h2]at h3;cases h3;rfl
  have hlen:ns.length<=63:=SA ns hpr;cases hwl with
  |cons hw1 hw2=>
   cases hw2
   cases hw1 with
   |list hl hw=>
    rename_i l vs
    have c:=TF (TG L) _ P s₁ l ns vs rfl hlen ⟨_,hl⟩ (OJ hw);rw[ha];refine ji (yA c) (λv s' hv=>?_) λ_ _ e=>e.elim;obtain⟨rfl,hk,hg',hos⟩:=hv;exact⟨.inl ⟨.bool true,.bool true,[],rfl,λcls=>rfl,.bool true,Sz _ _,λ_=>⟨Cn,λa h=>nm h⟩⟩,.of_keep hk,hos,.of_eq (hg'.trans hg)⟩
end
section
noncomputable def mK(m:M):Nat:=match m with
 |.list _=>0
 |.attrs _ _=>1
 |.dI _ _=>2
 |.dB _ _=>3
 |.dS _ _=>4
theorem kN{Z:ae}{d g:Nat}{m m':M}(h:Z d=some m)(k:Z g=some m')(n:Nat.beq (mK m) (mK m')=false):d≠g:=λe=>bn (n.symm.trans (by rw[dy (h.symm.trans ((congrArg Z e).trans k))];exact Nat.beq_refl _))
section
variable{C:ax}
def jU(C:ax):Prop:=∀f vs Z(Q Q':QV),(∀v Z,Q v Z->Q' v Z)->C f vs Z Q->C f vs Z Q'
def Mo{α β:Type}(t:α->ae->(β->ae->Prop)->Prop):Prop:=∀a Z(Q Q':β->ae->Prop),(∀v Z,Q v Z->Q' v Z)->t a Z Q->t a Z Q'
theorem DQ{m:Bool}{l:List V}{Z:ae}{Q Q':QV}(k:∀v Z,Q v Z->Q' v Z)(h:qN m l Z Q):qN m l Z Q':=by
 cases m with
 |false=>exact k _ _ h
 |true=>exact λa e=>k _ _ (h a e)
theorem M0{frz:Bool}{c d:Nat}{r:V}{Z:ae}{Q Q':QV}(k:∀v Z,Q v Z->Q' v Z)(h:lP frz c d r Z Q):lP frz c d r Z Q':=a0 h λ_ h=>by
 cases frz with
 |false=>exact k _ _ h
 |true=>exact a0 h λ_ h=>⟨h.1,h.2.1,k _ _ h.2.2⟩
theorem OT{Z:ae}{v:V}{b:BM}{vs:List V}{Q Q':QV}(k:∀v Z,Q v Z->Q' v Z)(h:qV Z v b vs Q):qV Z v b vs Q':=by
 cases b<;>first
  |exact a0 h λ_ h=>a0 h λ_ h=>⟨h.1,k _ _ h.2⟩
  |exact a0 h λ_ h=>a0 h λ_ h=>a0 h λ_ h=>k _ _ h
  |exact a0 h λ_ h=>a0 h λ_ h=>a0 h λ_ h=>⟨h.1,k _ _ h.2⟩
  |exact a0 h λ_ h=>a0 h λ_ h=>k _ _ h
  |exact a0 h λ_ h=>k _ _ h
  |skip
 refine a0 h λp h=>a0 h λq h=>a0 h λi h=>⟨h.1,?_⟩
 cases e:p.2.2 i with
 |none=>rw[e]at h;exact k _ _ h.2
 |some x=>rw[e]at h;exact k _ _ h.2
theorem MO{is:IS}{t:T}{test elt:aj->ae->QV->Prop}(ht:Mo test)(he:Mo elt){J:aj}{Q Q':QV}(k:∀v Z,Q v Z->Q' v Z):∀{n i:Nat}{acc:List V}{Z:ae},g0 is t test elt J Q n i acc Z->g0 is t test elt J Q' n i acc Z:=by
 intro n;induction n with
 |zero=>intro i acc Z h;exact h
 |succ n ih=>
  intro i acc Z h;refine a0 h λr h=>?_;cases r with
  |none=>exact k _ _ h
  |some v=>exact a0 h λJ' h=>ht _ _ _ _ (λb Z' h=>a0 h λb h=>by
    cases b with
    |false=>exact ih h
    |true=>exact⟨h.1,he _ _ _ _ (λx Z h=>ih h) h.2⟩) h
def IP(C:ax)(it:It):Prop:=∀J Z(Q Q':IS->ae->Prop),(∀v Z,Q v Z->Q' v Z)->WI C it J Z Q->WI C it J Z Q'
def Ww(C:ax)(es:List E):Prop:=Mo (eh C es)/\∀b,Mo (WB C b es)
theorem eW(M:jU C)(e:E):Mo (WE C e):=
 E.rec (motive_1:=λe=>Mo (WE C e)) (motive_2:=IP C) (motive_3:=Ww C)
  (λv J Z Q Q' k h=>k _ _ h) (λi J Z Q Q' k h=>a0 h λ_ h=>k _ _ h) (λg J Z Q Q' k h=>a0 h λ_ h=>k _ _ h)
  (λe a i J Z Q Q' k h=>i _ _ _ _ (λ_ _ h=>a0 h λ_ h=>k _ _ h) h) (λe x i j J Z Q Q' k h=>i _ _ _ _ (λ_ _ h=>j _ _ _ _ (λ_ _ h=>a0 h λ_ h=>k _ _ h) h) h)
  (λe a b i j l J Z Q Q' k h=>i _ _ _ _ (λ_ _ h=>j _ _ _ _ (λ_ _ h=>l _ _ _ _ (λ_ _ h=>a0 h λ_ h=>k _ _ h) h) h) h)
  (λe i J Z Q Q' k h=>i _ _ _ _ (λ_ _ h=>a0 h λ_ h=>k _ _ h) h) (λe i J Z Q Q' k h=>i _ _ _ _ (λ_ _ h=>a0 h λ_ h=>k _ _ h) h)
  (λop a b i j J Z Q Q' k h=>i _ _ _ _ (λ_ _ h=>j _ _ _ _ (λ_ _ h=>a0 h λ_ h=>k _ _ h) h) h)
  (λm es n i j J Z Q Q' k h=>i.1 _ _ _ _ (λ_ _ h=>j _ _ _ _ (λ_ _ h=>a0 h λ_ h=>⟨h.1,h.2.1,h.2.2.1,DQ k h.2.2.2⟩) h) h)
  (λop a b i j J Z Q Q' k h=>i _ _ _ _ (λ_ _ h=>j _ _ _ _ (λ_ _ h=>a0 h λ_ h=>k _ _ h) h) h)
  (λb es i J Z Q Q' k h=>i.2 b _ _ _ _ k h) (λe i J Z Q Q' k h=>i _ _ _ _ (λ_ _ h=>a0 h λ_ h=>k _ _ h) h)
  (λc a b i j l J Z Q Q' k h=>i _ _ _ _ (λ_ _ h=>a0 h λt h=>by
   cases t with
   |true=>exact j _ _ _ _ k h
   |false=>exact l _ _ _ _ k h) h)
  (λes i J Z Q Q' k h=>i.1 _ _ _ _ (λ_ _ h=>k _ _ h) h) (λm es i J Z Q Q' k h=>i.1 _ _ _ _ (λ_ _ h=>DQ k h) h)
  (λb ks vs i J Z Q Q' k h=>i.1 _ _ _ _ (λ_ _ h=>a0 h λ_ h a e=>k _ _ (h a e)) h) (λf es i J Z Q Q' k h=>i.1 _ _ _ _ (λ_ _ h=>M _ _ _ _ _ k h) h)
  (λfrz c es i J Z Q Q' k h=>i.1 _ _ _ _ (λ_ _ h d e=>M _ _ _ _ _ (λ_ _ h=>M0 k h) (h d e)) h)
  (λe m es i j J Z Q Q' k h=>i _ _ _ _ (λ_ _ h=>a0 h λ_ h=>j.1 _ _ _ _ (λ_ _ h=>M _ _ _ _ _ k h) h) h)
  (λb es i J Z Q Q' k h=>i.1 _ _ _ _ (λ_ _ h=>a0 h λ_ h=>k _ _ h) h)
  (λe b es i j J Z Q Q' k h=>i _ _ _ _ (λ_ _ h=>⟨h.1,j.1 _ _ _ _ (λ_ _ h=>OT k h) h.2⟩) h)
  (λcaps own t it ifs elt i j l J Z Q Q' k h=>i _ _ _ _ (λ_ _ h=>h.imp λn h=>MO (test:=WB C true ifs) (elt:=WE C elt) (j.2 true) l k h) h)
  (λe i J Z Q Q' k h=>i _ _ _ _ (λ_ _ h=>a0 h λ_ h=>k _ _ h) h) (λes i J Z Q Q' k h=>i.1 _ _ _ _ (λ_ _ h=>a0 h λ_ h=>a0 h λ_ h=>k _ _ h) h)
  (λe i J Z Q Q' k h=>i _ _ _ _ (λ_ _ h=>a0 h λ_ h=>k _ _ h) h) (λa b i j J Z Q Q' k h=>i _ _ _ _ (λ_ _ h=>j _ _ _ _ (λ_ _ h=>a0 h λ_ h=>a0 h λ_ h=>k _ _ h) h) h)
  ⟨λJ Z Q Q' k h=>k _ _ h,λb J Z Q Q' k h=>k _ _ h⟩
  (λe r i j=>⟨λJ Z Q Q' k h=>i _ _ _ _ (λ_ _ h=>j.1 _ _ _ _ (λ_ _ h=>k _ _ h) h) h,λb J Z Q Q' k h=>i _ _ _ _ (λv Z h=>by
   cases r with
   |nil=>exact k _ _ h
   |cons e2 r=>
    refine a0 h λt h=>?_;by_cases q:t=b
    ·rw[if_pos q]at h ⊢;exact j.2 b _ _ _ _ k h
    ·rw[if_neg q]at h ⊢;exact k _ _ h) h⟩) e
def mZ(t:aj->ae->QO->Prop):Prop:=∀J Z(Q Q':QO),(∀o J Z,Q o J Z->Q' o J Z)->t J Z Q->t J Z Q'
theorem Di{Z:ae}{v x:V}{a:bG}{Q Q':ae->Prop}(k:∀Z,Q Z->Q' Z)(h:qC Z v a x Q):qC Z v a x Q':=a0 h λ_ h=>a0 h λ_ h=>⟨h.1,h.2.1,h.2.2.1,k _ h.2.2.2⟩
theorem CW{Z:ae}{v x y:V}{Q Q':ae->Prop}(k:∀Z,Q Z->Q' Z)(h:jw Z v x y Q):jw Z v x y Q':=a0 h λ_ h=>a0 h λm h=>by
 cases m with
 |list l=>exact a0 h λi h=>h.imp (λh=>⟨h.1,h.2.1,k _ h.2.2⟩) λh=>⟨h.1,h.2.1,k _ h.2.2⟩
 |attrs=>exact h
 |dI=>exact a0 h λi h=>⟨h.1,k _ h.2⟩
 |dB=>exact a0 h λi h=>⟨h.1,k _ h.2⟩
 |dS=>exact h
theorem Nn(M:jU C){t:Tg}{x:V}{J:aj}{Z:ae}{Q Q':aj->ae->Prop}(k:∀J Z,Q J Z->Q' J Z)(h:jC C t x J Z Q):jC C t x J Z Q':=by
 cases t with
 |v i=>exact k _ _ h
 |vs is=>exact a0 h λ_ h=>⟨h.1,k _ _ h.2⟩
 |a e a=>exact eW M e _ _ _ _ (λ_ _ h=>Di (λ_ h=>k _ _ h) h) h
 |i e i=>exact eW M e _ _ _ _ (λ_ _ h=>eW M i _ _ _ _ (λ_ _ h=>CW (λ_ h=>k _ _ h) h) h) h
theorem Np(M:jU C){t:Tg}{op:Op}{e:E}{J:aj}{Z:ae}{Q Q':aj->ae->Prop}(k:∀J Z,Q J Z->Q' J Z)(h:AP C t op e J Z Q):AP C t op e J Z Q':=by
 cases t with
 |v i=>exact a0 h λ_ h=>eW M e _ _ _ _ (λ_ _ h=>a0 h λ_ h=>k _ _ h) h
 |vs is=>exact h
 |a o a=>exact eW M o _ _ _ _ (λ_ _ h=>a0 h λ_ h=>eW M e _ _ _ _ (λ_ _ h=>a0 h λ_ h=>Di (λ_ h=>k _ _ h) h) h) h
 |i o i=>exact eW M o _ _ _ _ (λ_ _ h=>eW M i _ _ _ _ (λ_ _ h=>a0 h λ_ h=>eW M e _ _ _ _ (λ_ _ h=>a0 h λ_ h=>CW (λ_ h=>k _ _ h) h) h) h) h
theorem NK{is:IS}{t:T}{body:aj->ae->QO->Prop}(hb:mZ body){Q Q':QO}(k:∀o J Z,Q o J Z->Q' o J Z):∀{n i:Nat}{J:aj}{Z:ae},bZ is t body Q n i J Z->bZ is t body Q' n i J Z:=by
 intro n;induction n with
 |zero=>intro i J Z h;exact h
 |succ n ih=>
  intro i J Z h;refine a0 h λr h=>?_;cases r with
  |none=>exact k _ _ _ h
  |some v=>exact a0 h λJ' h=>hb _ _ _ _ (λo J Z h=>by
    cases o with
    |next=>exact h.imp λZ3 h=>⟨h.1,ih h.2⟩
    |ret v=>exact k _ _ _ h) h
theorem MD{test:aj->ae->QV->Prop}{body:aj->ae->QO->Prop}(ht:Mo test)(hb:mZ body){Q Q':QO}(k:∀o J Z,Q o J Z->Q' o J Z):∀{n:Nat}{J:aj}{Z:ae},ou test body Q n J Z->ou test body Q' n J Z:=by
 intro n;induction n with
 |zero=>intro J Z h;exact h
 |succ n ih=>
  intro J Z h;refine ht _ _ _ _ (λv Z h=>a0 h λb h=>?_) h;cases b with
  |false=>exact k _ _ _ h
  |true=>exact hb _ _ _ _ (λo J Z h=>by
    cases o with
    |next=>exact h.imp λZ3 h=>⟨h.1,ih h.2⟩
    |ret v=>exact k _ _ _ h) h
theorem vd(M:jU C)(s:S):mZ (WS C s):=
 S.rec (motive_1:=λs=>mZ (WS C s)) (motive_2:=λl=>mZ (az C l))
  (λt e J Z Q Q' k h=>eW M e _ _ _ _ (λ_ _ h=>Nn M (k _) h) h) (λt op e J Z Q Q' k h=>Np M (k _) h) (λe J Z Q Q' k h=>eW M e _ _ _ _ (λ_ _ h=>a0 h λ_ h=>k _ _ _ h) h)
  (λc a b i j J Z Q Q' k h=>eW M c _ _ _ _ (λ_ _ h=>a0 h λt h=>by
   cases t with
   |true=>exact i _ _ _ _ k h
   |false=>exact j _ _ _ _ k h) h)
  (λc b i J Z Q Q' k h=>h.imp λn h=>MD (test:=WE C c) (body:=az C b) (eW M c) i k h)
  (λt it b i J Z Q Q' k h=>by
   have mi:IP C it:=by
    cases it with
    |seq e=>exact λJ Z Q Q' k h=>eW M e _ _ _ _ (λ_ _ h=>a0 h λ_ h=>k _ _ h) h
    |range es=>exact λJ Z Q Q' k h=>eW M (.tup es) J Z (λv Z=>aK (mf v) λvs=>aK (eN vs) λns=>aK (jT ns) λl=>Q (.vals l) Z) (λv Z=>aK (mf v) λvs=>aK (eN vs) λns=>aK (jT ns) λl=>Q' (.vals l) Z) (λ_ _ h=>a0 h λ_ h=>a0 h λ_ h=>a0 h λ_ h=>k _ _ h) h
    |enum e=>exact λJ Z Q Q' k h=>eW M e _ _ _ _ (λ_ _ h=>a0 h λ_ h=>k _ _ h) h
    |zip a b=>exact λJ Z Q Q' k h=>eW M a _ _ _ _ (λ_ _ h=>eW M b _ _ _ _ (λ_ _ h=>a0 h λ_ h=>a0 h λ_ h=>k _ _ h) h) h
   exact mi _ _ _ _ (λ_ _ h=>h.imp λn h=>NK (body:=az C b) i k h) h)
  (λe J Z Q Q' k h=>eW M e _ _ _ _ (λ_ _ h=>k _ _ _ h) h) (λJ Z Q Q' k h=>h) (λJ Z Q Q' k h=>k _ _ _ h)
  (λs r i j J Z Q Q' k h=>i _ _ _ _ (λo J Z h=>by
   cases o with
   |next=>exact j _ _ _ _ k h
   |ret v=>exact k _ _ _ h) h) s
theorem mF(M:jU C):∀l:List S,mZ (az C l):=λrr=>li (λJ Z Q Q' k h=>k _ _ _ h)
 (λs r ih=>λJ Z Q Q' k h=>vd M s _ _ _ _ (λo J Z h=>by
   cases o with
   |next=>exact ih _ _ _ _ k h
   |ret v=>exact k _ _ _ h) h) rr
end
theorem cD(P:Nat->Fn):∀n,jU (Ph P n):=λrr=>ni (λ_ _ _ _ _ _ h=>h)
 (λn ih=>λf vs Z Q Q' k h=>a0 h λJ h=>mF (ih) _ _ _ _ _ (λo J Z h=>h.imp λv h=>h.imp λZ' h=>⟨h.1,k _ _ h.2⟩) h) rr
end
section
section
variable{C:ax}{is:IS}{t:T}{body:aj->ae->QO->Prop}{test elt:aj->ae->QV->Prop}{Q:QO}{J:aj}{Z:ae}{l:List V}
theorem qj(hb:mZ body)(I:Nat->aj->ae->Prop)(hI:I 0 J Z)(hn:∀i J Z,I i J Z->fo Z is i=some l[i]?)
  (step:∀i v J Z,l[i]?=some v->I i J Z->aK (d8 t v J) λJ'=>body J' Z λo J'' Z''=>match o with
   |.next=>∃Z3,Sub Z3 Z''/\I (i+1) J'' Z3
   |.ret u=>Q (.ret u) J'' Z'') (fin:∀J Z,I l.length J Z->Q .next J Z):∃n,bZ is t body Q n 0 J Z:=by
 have key:∀k i J Z,i+k=l.length->I i J Z->bZ is t body Q (k+1) i J Z:=by
  intro k;induction k with
  |zero=>
   intro i J Z e h;replace e:i=l.length:=e;exact ao (hn _ _ _ h) (by rw[fH (dA e.symm)];exact fin _ _ (e▸h))
  |succ k ih=>
   intro i J Z e h;have hi:i<l.length:=e▸hE (fh k);have hv:=bL hi;refine ao (hn _ _ _ h) ?_;rw[hv];refine a0 (step i _ J Z hv h) λJ' h=>hb _ _ _ _ (λo J Z h=>?_) h;cases o with
   |next=>exact h.imp λZ3 h=>⟨h.1,ih _ _ _ ((cH i k).trans e) h.2⟩
   |ret u=>exact h
 exact⟨_,key l.length 0 J Z (aU _) hI⟩
end
end
section
noncomputable abbrev Ch(w x y z:Int):V:=.obj 0 [.int w,.int x,.int y,.int z]
variable{n:Nat}{Z:ae}{Q:QV}{w x y z:Int}
theorem Sub.refl'(Z:ae):Sub Z Z:=λ_ _ h=>h
theorem bX{v:V}(h:Q v Z):∃v' Z'',Wk v Z v' Z''/\Q v' Z'':=⟨v,Z,.inl ⟨rfl,λ_ _ h=>h⟩,h⟩
theorem j8{v:V}{Z':ae}(s:Sub Z' Z)(h:Q v Z'):∃v' Z'',Wk v Z v' Z''/\Q v' Z'':=⟨v,Z',.inl ⟨rfl,s⟩,h⟩
theorem tY{a:Nat}{l:List V}{Z':ae}(e:Z a=some (.list l))(n:Z' a=none)(s:Sub Z' Z)(h:Q (.list l) Z'):∃v' Z'',Wk (.ref a) Z v' Z''/\Q v' Z'':=⟨_,Z',.inr ⟨a,l,rfl,e,rfl,n,s⟩,h⟩
theorem PN:Q (.int (x-w)) Z->Ph pF (n+1) 27 [Ch w x y z] Z Q:=λh=>bX h
theorem Sd:Q (.int (z-y)) Z->Ph pF (n+1) 28 [Ch w x y z] Z Q:=λh=>bX h
theorem Us:Q (.tup [.int w,.int x,.int y,.int z]) Z->Ph pF (n+1) 29 [Ch w x y z] Z Q:=λh=>bX h
theorem gT{c d:Nat}{fs:List (bG×V)}{a:bG}{v:V}{k:ae->Prop}(e:Z d=some (.attrs c fs))(h:(dH c).contains a=true)(l:fs.length<=100)(q:k (ak Z d (.attrs c (setA fs a v)))):qC Z (.inst c d) a v k:=
 ao (a:=(c,d)) rfl (ao (show gI Z d=some (c,fs) by unfold gI;rw[e];rfl) ⟨rfl,h,l,q⟩)
theorem aP(Z:ae)(a:Nat)(m:M):ak Z a m a=some m:=if_pos rfl
theorem GY{d:Nat}(e:Z d=none)(h:Q (Ch w x y z) Z):Ph pF (n+1) 26 [.inst 0 d,.int w,.int x,.int y,.int z] (ak Z d (.attrs 0 [])) λr Z=>lP true 0 d r Z Q:=by
 refine gT (aP ..) rfl (dR rfl) ?_;refine gT (aP ..) rfl (dR rfl) ?_;refine gT (aP ..) rfl (dR rfl) ?_;refine gT (aP ..) rfl (dR rfl) ?_;have zz:∀m₁ m₂ m₃ m₄ m₅:M,fW (ak (ak (ak (ak (ak Z d m₁) d m₂) d m₃) d m₄) d m₅) d=Z:=λ_ _ _ _ _=>funext λb=>by
  unfold fW ak;by_cases h:b=d
  ·rw[if_pos h,h,e]
  ·repeat rw[if_neg h]
 refine bX (ao rfl (ao (a:=(0,[(0,.int w),(1,.int x),(2,.int y),(3,.int z)])) (show gI _ d = _ by unfold gI;rw[aP];rfl) ⟨rfl,rfl,?_⟩));show Q (Ch w x y z) (fW _ d);rw[zz];exact h
end
section
section
variable{ι S:Type}{C:ι->ax}{c:E}{b:List Internal.S}{t:T}
theorem Vg(Caa:ι->S->aj->ae->Prop)(I:S->Prop)(μ:S->Nat)(fin:S->Prop)
  (step:∀s,I s->(fin s/\∀i J Z,Caa i s J Z->∀Q:QV,Q (.bool false) Z->WE (C i) c J Z Q) \/
   ∃s',I s'/\μ s' < μ s/\∀i J Z,Caa i s J Z->(∀Q:QV,Q (.bool true) Z->WE (C i) c J Z Q) /\
    ∀Q:QO,(∀J' Z' Z'',Sub Z' Z''->Caa i s' J' Z'->Q .next J' Z'')->az (C i) b J Z Q) :
  ∀s,I s->∃s',I s'/\fin s'/\∀i J Z,Caa i s J Z->∀Q:QO,(∀J' Z',Caa i s' J' Z'->Q .next J' Z')->WS (C i) (.whl c b) J Z Q:=by
 have key:∀m s,μ s<m->I s->∃s' n,I s'/\fin s'/\∀i J Z,Caa i s J Z->∀Q:QO,(∀J' Z',Caa i s' J' Z'->Q .next J' Z') ->
   ou (λJ Z Q=>WE (C i) c J Z Q) (λJ Z Q=>az (C i) b J Z Q) Q n J Z:=by
  intro m;induction m with
  |zero=>intro s h;exact absurd h (dM _)
  |succ m ih=>
   intro s hm h;rcases step s h with f|⟨s₁,h1,lt,f⟩
   ·exact⟨s,1,h,f.1,λi J Z e Q q=>f.2 i J Z e _ (q _ _ e)⟩
   ·refine cG (ih s₁ (aQ lt (eU hm)) h1) λs' n h2 f2 k=>?_;exact⟨s',n+1,h2,f2,λi J Z e Q q=>(f i J Z e).1 _ ((f i J Z e).2 _ λJ' Z' Z'' u e'=>⟨Z',u,k i J' Z' e' Q q⟩)⟩
 intro s h;refine cG (key _ s (bu _) h) λs' n h1 h2 k=>?_;exact⟨s',h1,h2,λi J Z e Q q=>⟨n,k i J Z e Q q⟩⟩
theorem Wd(l:List V)(is:ι->IS)(Caa:ι->Nat->S->aj->ae->Prop)(I:Nat->S->Prop)(B:ι->QV)(R:V->Prop)(hn:∀i k s J Z,Caa i k s J Z->fo Z (is i) k=some l[k]?)
  (step:∀k v s,l[k]?=some v->I k s ->
   (∃s',I (k+1) s'/\∀i J Z,Caa i k s J Z->aK (d8 t v J) λJ'=>
    ∀Q:QO,(∀J' Z' Z'',Sub Z' Z''->Caa i (k+1) s' J' Z'->Q .next J' Z'')->az (C i) b J' Z Q) \/
   ∃r,R r/\∀i J Z,Caa i k s J Z->aK (d8 t v J) λJ'=>
    ∀Q:QO,(∀J' Z',B i r Z'->Q (.ret r) J' Z')->az (C i) b J' Z Q) :
  ∀s,I 0 s->(∃s',I l.length s'/\∀i J Z,Caa i 0 s J Z->∀Q:QO,(∀J' Z',Caa i l.length s' J' Z'->Q .next J' Z') ->
    ∃n,bZ (is i) t (λJ Z Q=>az (C i) b J Z Q) Q n 0 J Z) \/
   ∃r,R r/\∀i J Z,Caa i 0 s J Z->∀Q:QO,(∀J' Z',B i r Z'->Q (.ret r) J' Z') ->
    ∃n,bZ (is i) t (λJ Z Q=>az (C i) b J Z Q) Q n 0 J Z:=by
 have key:∀m k s,k+m=l.length->I k s->(∃s',I l.length s'/\∀i J Z,Caa i k s J Z->∀Q:QO,(∀J' Z',Caa i l.length s' J' Z'->Q .next J' Z') ->
    bZ (is i) t (λJ Z Q=>az (C i) b J Z Q) Q (m+1) k J Z) \/
   ∃r,R r/\∀i J Z,Caa i k s J Z->∀Q:QO,(∀J' Z',B i r Z'->Q (.ret r) J' Z') ->
    bZ (is i) t (λJ Z Q=>az (C i) b J Z Q) Q (m+1) k J Z:=by
  intro m;induction m with
  |zero=>
   intro k s e h;have e:k=l.length:=e;subst e;refine .inl ⟨s,h,λi J Z c Q q=>ao (hn _ _ _ _ _ c) ?_⟩;rw[fH (aC _)];exact q _ _ c
  |succ m ih=>
   intro k s e h;have hk:k<l.length:=e▸hE (fh m);have hv:=bL hk;rcases step k _ s hv h with⟨s₁,h1,f⟩|⟨r,hr,f⟩
   ·rcases ih (k+1) s₁ ((cH k m).trans e) h1 with⟨s',h2,g⟩|⟨r,hr,g⟩
    ·refine .inl ⟨s',h2,λi J Z c Q q=>ao (hn _ _ _ _ _ c) ?_⟩;rw[hv];exact a0 (f i J Z c) λJ' w=>w _ λJ' Z' Z'' u c'=>⟨Z',u,g i J' Z' c' Q q⟩
    ·refine .inr ⟨r,hr,λi J Z c Q q=>ao (hn _ _ _ _ _ c) ?_⟩;rw[hv];exact a0 (f i J Z c) λJ' w=>w _ λJ' Z' Z'' u c'=>⟨Z',u,g i J' Z' c' Q q⟩
   ·refine .inr ⟨r,hr,λi J Z c Q q=>ao (hn _ _ _ _ _ c) ?_⟩;rw[hv];exact a0 (f i J Z c) λJ' w=>w _ λJ' Z'=>q J' Z'
 intro s h;rcases key l.length 0 s (aU _) h with⟨s',h1,g⟩|⟨r,hr,g⟩
 ·exact .inl ⟨s',h1,λi J Z c Q q=>⟨_,g i J Z c Q q⟩⟩
 ·exact .inr ⟨r,hr,λi J Z c Q q=>⟨_,g i J Z c Q q⟩⟩
end
theorem qI{α ι Jaa:Type}{C:ax}(M:jU C){t:T}{b:List S}{is:IS}{l:List α}{f:α->V}(R:ι->Jaa->aj)(T:ι->ae)(I:Nat->ι->Prop){Q:QO}
  (hn:∀s k i,I k s->fo (T s) is i=some (l.map f)[i]?)
  (step:∀i(hi:i<l.length)s j,I i s->aK (d8 t (f l[i]) (R s j)) λJ'=>∀Q:QO,(∀s' j',I (i+1) s'->Q .next (R s' j') (T s'))->az C b J' (T s) Q)
  (fin:∀s j,I l.length s->Q .next (R s j) (T s)) {s:ι} {j:Jaa} (h:I 0 s):∃n,bZ is t (λJ Z Q=>az C b J Z Q) Q n 0 (R s j) (T s):=
 qj (l:=l.map f) (mF M b) (λi J Z=>∃s j,J=R s j/\Z=T s/\I i s) ⟨s,j,rfl,rfl,h⟩ (λi J Z z_=>cG z_ λs j e e' h=>e'▸hn s i i h)
  (λi v J Z hv zz=>cG zz λs j e e' h=>by
   clear zz;subst e;subst e';obtain⟨hi,rfl⟩:=iQ.1 hv;rw[aY]at hi;rw[KN];exact a0 (step i hi s j h) λJ' w=>w _ λs' j' h'=>⟨_,Sub.refl' _,s',j',rfl,rfl,h'⟩)
  (λJ Z z_=>cG z_ λs j e e' h=>by subst e;subst e';rw[aY]at h;exact fin s j h)
end
section
noncomputable abbrev vI(l:List Int):List V:=l.map .int
noncomputable abbrev vB(l:List Bool):List V:=l.map .bool
noncomputable abbrev nI(x:Nat):V:=.int (x:Int)
noncomputable abbrev pt(x X y Y:Nat):V:=.tup [nI x,nI X,nI y,nI Y]
structure Sh where
 A:List Int
 B:List Int
 d:Nat
 g:Nat
 h:Nat
structure gF(s:Sh)(G H:List Bool)(Z:ae):Prop where
 at_d:Z s.d=some (.attrs 2 [(7,.list (vI s.A)),(8,.list (vI s.B)),(9,.ref s.g),(10,.ref s.h)])
 at_g:Z s.g=some (.list (vB G))
 at_h:Z s.h=some (.list (vB H))
 gh:s.g≠s.h
theorem dC{c d:Nat}{fs:List (bG×V)}{Z:ae}{a:bG}{v:V}(e:Z d=some (.attrs c fs))(h:(dH c).contains a=true)(l:tc fs a=some v):jE Z (.inst c d) a=some v:=by
 show(gI Z d).bind _ = _;rw[show gI Z d=some (c,fs) by unfold gI;rw[e];rfl];exact(if_pos ⟨rfl,h⟩).trans l
theorem p7{Z:ae}{l:List Int}{i:Nat}{x:Int}(e:l[i]?=some x):eP Z (.list (vI l)) (nI i)=some (.int x):=by
 show fE (vI l) (i:Int) = _;unfold fE;rw[if_pos (eK i),hM,cO,e];rfl
theorem si(x:Nat):((x+1:Nat):Int)-1=x:=xM x 1
def Ev(C:ax)(e:E)(J:aj)(Z:ae)(v:V):Prop:=∀Q:QV,Q v Z->WE C e J Z Q
section
variable{C:ax}{J:aj}{Z:ae}{a b c:E}{x y v:V}
theorem aa{i:Nat}(h:rd J i=some v):Ev C (.x i) J Z v:=λQ q=>ao h q
theorem di{op:mY}{r:Bool}(h:Ev C a J Z x)(k:Ev C b J Z y)(e:wF Z op x y=some r):Ev C (.m op a b) J Z (.bool r):=λQ q=>h _ (k _ (ao e q))
theorem fN{op:Op}(h:Ev C a J Z x)(k:Ev C b J Z y)(e:tD op x y=some v):Ev C (.b op a b) J Z v:=λQ q=>h _ (k _ (ao e q))
theorem br{n:bG}(h:Ev C a J Z x)(e:jE Z x n=some v):Ev C (.a a n) J Z v:=λQ q=>h _ (ao e q)
theorem bW(h:Ev C a J Z x)(k:Ev C b J Z y)(e:eP Z x y=some v):Ev C (.i a b) J Z v:=λQ q=>h _ (k _ (ao e q))
end
def aI(C:ax)(e:E)(J:aj)(Z:ae)(p:Prop):Prop:=∃b:Bool,(b=true↔p)/\Ev C e J Z (.bool b)
section
variable{C:ax}{J:aj}{Z:ae}{a b c d:E}{x y v:V}{p q r s:Prop}
theorem Ev.cn:Ev C (.c v) J Z v:=λQ q=>q
theorem ir(h:aI C a J Z p)(k:p↔q):aI C a J Z q:=h.imp λb h=>⟨h.1.trans k,h.2⟩
theorem sO{i j:Int}(h:Ev C a J Z (.int i))(k:Ev C b J Z (.int j)):aI C (.m .lt a b) J Z (i<j):=⟨_,decide_eq_true_iff,di h k rfl⟩
theorem Aa{i j:Int}(h:Ev C a J Z (.int i))(k:Ev C b J Z (.int j)):aI C (.m .gt a b) J Z (j<i):=⟨_,decide_eq_true_iff,di h k rfl⟩
theorem Hd{i j:Int}(h:Ev C a J Z (.int i))(k:Ev C b J Z (.int j)):aI C (.m .le a b) J Z (i<=j):=⟨_,decide_eq_true_iff,di h k rfl⟩
theorem qs{i j:Int}(h:Ev C a J Z (.int i))(k:Ev C b J Z (.int j)):aI C (.m .ge a b) J Z (j<=i):=⟨_,decide_eq_true_iff,di h k rfl⟩
theorem kB{i j:Int}(h:Ev C a J Z (.int i))(k:Ev C b J Z (.int j)):aI C (.m .eq a b) J Z (i=j):=⟨i==j,beq_iff_eq,di h k rfl⟩
theorem vE{b:Bool}(h:b=true↔p):(!b)=true↔¬p:=by cases b<;>simp_all
theorem qt{i j:Int}(h:Ev C a J Z (.int i))(k:Ev C b J Z (.int j)):aI C (.m .ne a b) J Z (i≠j):=⟨!(i==j),vE beq_iff_eq,di h k rfl⟩
theorem vq(h:aI C a J Z p):aI C (.not a) J Z (¬p):=h.elim λb h=>⟨!b,vE h.1,λQ q=>h.2 _ q⟩
theorem eY{i j:Nat}(h:Ev C a J Z (nI i))(k:Ev C b J Z (nI j)):aI C (.m .lt a b) J Z (i<j):=ir (sO h k) dN
theorem iV{i j:Nat}(h:Ev C a J Z (nI i))(k:Ev C b J Z (nI j)):aI C (.m .gt a b) J Z (j<i):=ir (Aa h k) dN
theorem lp{i j:Nat}(h:Ev C a J Z (nI i))(k:Ev C b J Z (nI j)):aI C (.m .eq a b) J Z (i=j):=ir (kB h k) kX
theorem sP{k:Bool}{es:List E}(h:aI C a J Z p)(hp:¬(p↔k=true)->(q↔p))(hk:(p↔k=true)->∃b:Bool,(b=true↔q)/\∀Q:QV,Q (.bool b) Z->WB C k (b'::es) J Z Q) :
  aI C (.o k (a::b'::es)) J Z q:=h.elim λx h=>by
 by_cases e:x=k
 ·refine ar (hk (h.1.symm.trans (iff_of_eq (congrArg (·=true) e)))) λy h1 h2=>?_;exact⟨y,h1,λQ w=>h.2 _ (ao rfl (by rw[if_pos e];exact h2 Q w))⟩
 ·have f:¬(p↔k=true):=λz=>e (by have:=h.1.trans z;cases x<;>cases k<;>simp_all);exact⟨x,h.1.trans (hp f).symm,λQ w=>h.2 _ (ao rfl (by rw[if_neg e];exact w))⟩
theorem iU(h:aI C a J Z p)(k:p->aI C b J Z q):aI C (.o true [a,b]) J Z (p/\q):=
 sP h (λn=>⟨And.left,λz=>absurd (iff_of_true z rfl) n⟩) λe=>(k (e.2 rfl)).imp λx k=>⟨k.1.trans (and_iff_right (e.2 rfl)).symm,k.2⟩
theorem nT(h:aI C a J Z p)(k:p->aI C b J Z q)(l:p->q->aI C c J Z r):aI C (.o true [a,b,c]) J Z (p/\q/\r):=
 sP h (λn=>⟨And.left,λz=>absurd (iff_of_true z rfl) n⟩) λe=>(iU (k (e.2 rfl)) (l (e.2 rfl))).imp λx k=>⟨k.1.trans (and_iff_right (e.2 rfl)).symm,k.2⟩
theorem iW(h:aI C a J Z p)(k:¬p->aI C b J Z q):aI C (.o false [a,b]) J Z (p\/q):=
 have f:(p↔false=true)->¬p:=λe z=>kf (e.1 z)
 sP h (λn=>⟨λ_=>o8 λz=>n (iff_of_false z (λh=>kf h)),GL⟩) λe=>(k (f e)).imp λx k=>⟨k.1.trans (or_iff_right (f e)).symm,k.2⟩
theorem vt(h:aI C a J Z p)(k:¬p->aI C b J Z q)(l:¬p->¬q->aI C c J Z r):aI C (.o false [a,b,c]) J Z (p\/q\/r):=
 have f:(p↔false=true)->¬p:=λe z=>kf (e.1 z)
 sP h (λn=>⟨λ_=>o8 λz=>n (iff_of_false z (λh=>kf h)),GL⟩) λe=>(iW (k (f e)) (l (f e))).imp λx k=>⟨k.1.trans (or_iff_right (f e)).symm,k.2⟩
theorem RE(h:aI C a J Z p)(k:¬p->aI C b J Z q)(l:¬p->¬q->aI C c J Z r)(m:¬p->¬q->¬r->aI C d J Z s):aI C (.o false [a,b,c,d]) J Z (p\/q\/r\/s):=
 have f:(p↔false=true)->¬p:=λe z=>kf (e.1 z)
 sP h (λn=>⟨λ_=>o8 λz=>n (iff_of_false z (λh=>kf h)),GL⟩) λe=>(vt (k (f e)) (l (f e)) (m (f e))).imp λx k=>⟨k.1.trans (or_iff_right (f e)).symm,k.2⟩
theorem dF{t f:List Internal.S}{Q:QO}(h:aI C a J Z p)(hp:p)(q:az C t J Z Q):WS C (.ite a t f) J Z Q:=h.elim λb h=>h.2 _ (ao rfl (by rw[h.1.2 hp];exact q))
theorem bH{t f:List Internal.S}{Q:QO}(h:aI C a J Z p)(hp:¬p)(q:az C f J Z Q):WS C (.ite a t f) J Z Q:=h.elim λb h=>h.2 _ (ao rfl (by
 cases b with
 |true=>exact absurd (h.1.1 rfl) hp
 |false=>exact q))
theorem iY{Q:QV}(h:aI C a J Z p)(hp:p)(q:WE C b J Z Q):WE C (.ite a b c) J Z Q:=h.elim λb h=>h.2 _ (ao rfl (by rw[h.1.2 hp];exact q))
theorem iu{Q:QV}(h:aI C a J Z p)(hp:¬p)(q:WE C c J Z Q):WE C (.ite a b c) J Z Q:=h.elim λb h=>h.2 _ (ao rfl (by
 cases b with
 |true=>exact absurd (h.1.1 rfl) hp
 |false=>exact q))
end
section
variable{ι S Jaa:Type}{C:ι->ax}{c:E}{b:List Internal.S}
theorem fi(R:ι->S->Jaa->aj)(T:ι->S->ae)(I:S->Prop)(μ:S->Nat)(t:S->Prop)
  (ev:∀s,I s->∀i j,aI (C i) c (R i s j) (T i s) (t s))
  (step:∀s,I s->t s->∃s',I s'/\μ s' < μ s/\∀i j(Q:QO),(∀j' Z,Sub (T i s') Z->Q .next (R i s' j') Z)->az (C i) b (R i s j) (T i s) Q) :
  ∀s,I s->∃s',I s'/\¬t s'/\∀i j(Q:QO),(∀j',Q .next (R i s' j') (T i s'))->WS (C i) (.whl c b) (R i s j) (T i s) Q:=λs h=>by
 obtain⟨s',h1,h2,h3⟩:=Vg (C:=C) (c:=c) (b:=b) (λi s J Z=>∃j,J=R i s j/\Z=T i s) I μ (λs=>¬t s) (λs h=>by
  by_cases e:t s
  ·refine cm (step s h e) λs' h1 h2 h3=>?_;exact .inr ⟨s',h1,h2,λi J Z z=>ar z λj k1 k2=>k1▸k2▸⟨λQ q=>(ev s h i j).elim λb w=>w.2 _ (w.1.2 e▸q),λQ q=>h3 i j Q λj' Z u=>q _ _ _ u ⟨j',rfl,rfl⟩⟩⟩
  ·exact .inl ⟨e,λi J Z z Q q=>ar z λj k1 k2=>(ev s h i j).elim λb w=>k1▸k2▸w.2 _ (by
    cases b with
    |true=>exact absurd (w.1.1 rfl) e
    |false=>exact k2▸q)⟩) s h
 exact⟨s',h1,h2,λi j Q q=>h3 i _ _ ⟨j,rfl,rfl⟩ Q λJ' Z' z=>ar z λj k1 k2=>k1▸k2▸q j⟩
end
theorem oc{l:List Int}{i:Nat}(h:i<l.length):l.getD i 0=l[i]:=by rw[fc,bL h];rfl
def jX(s:Sh)(Z:ae):Prop:=Z s.d=some (.attrs 2 [(7,.list (vI s.A)),(8,.list (vI s.B)),(9,.ref s.g),(10,.ref s.h)])
theorem oE{s:Sh}{Z:ae}(h:jX s Z):jE Z (.inst 2 s.d) 7=some (.list (vI s.A)):=dC h rfl rfl
theorem te{s:Sh}{Z:ae}(h:jX s Z):jE Z (.inst 2 s.d) 8=some (.list (vI s.B)):=dC h rfl rfl
section
variable{C:ax}{J:aj}{Z:ae}{a b u v:E}{x y:Nat}{A B:List Int}
theorem p6(ha:Ev C a J Z (.list (vI A)))(hb:Ev C b J Z (.list (vI B)))(hu:Ev C u J Z (nI x))(hv:Ev C v J Z (nI y))(hx:x<A.length)(hy:y<B.length) :
  aI C (.m .eq (.i a u) (.i b v)) J Z (A[x]?=B[y]?):=
 ir (kB (bW ha hu (p7 (bL hx))) (bW hb hv (p7 (bL hy)))) (by
  rw[bL hx,bL hy];exact⟨congrArg some,dy⟩)
theorem vm(hu:Ev C u J Z (nI (x+1))):Ev C (.b .sub u (.c (.int 1))) J Z (nI x):=fN hu Ev.cn (congrArg (λz=>some (V.int z)) (si x))
end
theorem ju{C:ax}{e:E}{J:aj}{Z:ae}{p:Prop}{t:Bool}(h:aI C e J Z p)(k:t=true↔p):Ev C e J Z (.bool t):=h.elim λb h=>by
 have e:b=t:=Bool.eq_iff_iff.2 (h.1.trans k.symm);exact e▸h.2
end
section
theorem Qb{x:Nat}(h:0<x):((x:Nat):Int)-1=((x-1:Nat):Int):=match x,h with
 |x+1,_=>si x
theorem jO{C:ax}{J:aj}{Z:ae}{u:E}{x:Nat}(h:0<x)(hu:Ev C u J Z (nI x)):Ev C (.b .sub u (.c (.int 1))) J Z (nI (x-1)):=fN hu Ev.cn (congrArg (λz=>some (V.int z)) (Qb h))
structure dQ(A B:List Int)where
 n:Nat
 Z:ae
 s:Sh
 hA:s.A=A
 hB:s.B=B
 on:jX s Z
noncomputable abbrev dQ.C{A B:List Int}(r:dQ A B):ax:=Ph pF r.n
theorem dQ.a{A B:List Int}(r:dQ A B){e:E}{J:aj}(h:Ev r.C e J r.Z (.inst 2 r.s.d)):Ev r.C (.a e 7) J r.Z (.list (vI A)):=br h ((oE r.on).trans (congrArg (λl=>some (V.list (vI l))) r.hA))
theorem dQ.b{A B:List Int}(r:dQ A B){e:E}{J:aj}(h:Ev r.C e J r.Z (.inst 2 r.s.d)):Ev r.C (.a e 8) J r.Z (.list (vI B)):=br h ((te r.on).trans (congrArg (λl=>some (V.list (vI l))) r.hB))
section
variable{A B:List Int}{x X y Y:Nat}
theorem VV(hx:x<=X)(hX:X<=A.length)(hy:y<=Y)(hY:Y<=B.length)(p:V) :
  ∃k,(x+k<=X/\y+k<=Y/\∀t,t<k->A[x+t]?=B[y+t]?)/\¬(x+k<X/\y+k<Y/\A[x+k]?=B[y+k]?) /\
   ∀(i:dQ A B)(j:Unit)(Q:QO),(∀j:Unit,Q .next [some (.inst 2 i.s.d),some p,some (nI (x+k)),some (nI X),some (nI (y+k)),some (nI Y)] i.Z) ->
   WS i.C (.whl (.o true [.m .lt (.x 2) (.x 3),.m .lt (.x 4) (.x 5),.m .eq (.i (.a (.x 0) 7) (.x 2)) (.i (.a (.x 0) 8) (.x 4))])
    [.aug (.v 2) .add (.c (.int 1)),.aug (.v 4) .add (.c (.int 1))]) [some (.inst 2 i.s.d),some p,some (nI (x+0)),some (nI X),some (nI (y+0)),some (nI Y)] i.Z Q:=
 fi (C:=dQ.C) (λ(i:dQ A B)(k:Nat)_=>[some (.inst 2 i.s.d),some p,some (nI (x+k)),some (nI X),some (nI (y+k)),some (nI Y)]) (λi _=>i.Z)
  (λk=>x+k<=X/\y+k<=Y/\∀t,t<k->A[x+t]?=B[y+t]?) (λk=>X-(x+k)) (λk=>x+k<X/\y+k<Y/\A[x+k]?=B[y+k]?)
  (λk hk i _=>nT (eY (aa rfl) (aa rfl)) (λ_=>eY (aa rfl) (aa rfl)) λh1 h2=>
    p6 (i.a (aa rfl)) (i.b (aa rfl)) (aa rfl) (aa rfl) (aQ h1 hX) (aQ h2 hY))
  (λk hk ht=>⟨k+1,⟨ht.1,ht.2.1,λt h=>(j9.1 h).elim (hk.2.2 t) λz=>z▸ht.2.2⟩,kc ht.1 (bu _),λi _ Q q=>by exact q () i.Z (Sub.refl' _)⟩) 0 ⟨hx,hy,λt h=>absurd h (dM t)⟩
theorem VW(hX:X<=A.length)(hY:Y<=B.length)(hx:x<=X)(hy:y<=Y)(p:V) :
  ∃u:Nat×Nat,(x<=u.1/\y<=u.2/\∃j,X=u.1+j/\Y=u.2+j/\∀t,t<j->A[u.1+t]?=B[u.2+t]?)/\¬(x<u.1/\y<u.2/\A[u.1-1]?=B[u.2-1]?) /\
   ∀(i:dQ A B)(j:Unit)(Q:QO),(∀j:Unit,Q .next [some (.inst 2 i.s.d),some p,some (nI x),some (nI u.1),some (nI y),some (nI u.2)] i.Z) ->
   WS i.C (.whl (.o true [.m .lt (.x 2) (.x 3),.m .lt (.x 4) (.x 5),.m .eq (.i (.a (.x 0) 7) (.b .sub (.x 3) (.c (.int 1)))) (.i (.a (.x 0) 8) (.b .sub (.x 5) (.c (.int 1))))])
    [.aug (.v 3) .sub (.c (.int 1)),.aug (.v 5) .sub (.c (.int 1))]) [some (.inst 2 i.s.d),some p,some (nI x),some (nI X),some (nI y),some (nI Y)] i.Z Q:=by
 refine fi (C:=dQ.C) (λ(i:dQ A B)(u:Nat×Nat)_=>[some (.inst 2 i.s.d),some p,some (nI x),some (nI u.1),some (nI y),some (nI u.2)]) (λi _=>i.Z)
  (λu=>x<=u.1/\y<=u.2/\∃j,X=u.1+j/\Y=u.2+j/\∀t,t<j->A[u.1+t]?=B[u.2+t]?) (λu=>u.1) (λu=>x<u.1/\y<u.2/\A[u.1-1]?=B[u.2-1]?)
  (λu hu i _=>?_) (λu hu ht=>?_) (X,Y) ⟨hx,hy,0,rfl,rfl,λt h=>absurd h (dM t)⟩
 ·have c{v w z:Nat}(h:v<w)(k:w<=z):w-1<z:=aQ (nO (jJ h) mC) k;exact hu.2.2.elim λj h=>nT (eY (aa rfl) (aa rfl)) (λ_=>eY (aa rfl) (aa rfl)) λb1 b2=>
    p6 (i.a (aa rfl)) (i.b (aa rfl)) (jO (jJ b1) (aa rfl)) (jO (jJ b2) (aa rfl)) (c b1 (ai (h.1▸aL ..) hX)) (c b2 (ai (h.2.1▸aL ..) hY))
 ·have key:∀u v:Nat,x<u+1->y<v+1->A[u]?=B[v]?->(∃j,X=u+1+j/\Y=v+1+j/\∀t,t<j->A[u+1+t]?=B[v+1+t]?)->x<=u/\y<=v/\∃j,X=u+j/\Y=v+j/\∀t,t<j->A[u+t]?=B[v+t]?:=
   λu v b1 b2 b3 z=>cm z λj h1 h2 h3=>⟨eU b1,eU b2,j+1,h1.trans (cH u j),h2.trans (cH v j),λt=>nz (λ_=>b3)
    (λt ht=>(cH u t)▸(cH v t)▸h3 t (fe ht)) t⟩
  obtain⟨u,v⟩:=u;revert hu ht;refine nz (λ_ ht=>absurd ht.1 (dM x)) (λu=>nz (λ_ ht=>absurd ht.2.1 (dM y)) (λv hu ht=>?_) v) u
  ·refine⟨(u,v),key u v ht.1 ht.2.1 ht.2.2 hu.2.2,bu u,λi _ Q q=>?_⟩;have q:=q () i.Z (Sub.refl' _);show Q .next [_,_,_,some (V.int (((u+1:Nat):Int)-1)),_,some (V.int (((v+1:Nat):Int)-1))] _;rw[si,si];exact q
structure qG(A B:List Int)(x X y Y x' X' y' Y':Nat):Prop where
 i:∃i,x'=x+i/\y'=y+i/\∀t,t<i->A[x+t]?=B[y+t]?
 j:∃j,X=X'+j/\Y=Y'+j/\∀t,t<j->A[X'+t]?=B[Y'+t]?
 x:x'<=X'
 y:y'<=Y'
 no:x'<X'->y'<Y'->A[x']?≠B[y']?/\A[X'-1]?≠B[Y'-1]?
theorem Ta(hx:x<=X)(hX:X<=A.length)(hy:y<=Y)(hY:Y<=B.length) :
  ∃x' X' y' Y',qG A B x X y Y x' X' y' Y'/\∀(r:dQ A B)Q,Q (pt x' X' y' Y') r.Z->Ph pF (r.n+1) 35 [.inst 2 r.s.d,pt x X y Y] r.Z Q:=by
 refine cm (VV hx hX hy hY (pt x X y Y)) λi pp11_ a4 a5=>?_;obtain⟨a1,a2,a3⟩:=pp11_;refine cm (VW hX hY a1 a2 (pt x X y Y)) λu pp21_ b4 b5=>?_;obtain⟨b1,b2,b3⟩:=pp21_;refine⟨x+i,u.1,y+i,u.2,⟨⟨i,rfl,rfl,a3⟩,b3,b1,b2,λh k=>⟨λe=>a4 ⟨?_,?_,e⟩,λe=>b4 ⟨h,k,e⟩⟩⟩,λr Q q=>?_⟩
 ·obtain⟨j,h1,_⟩:=b3;exact h1▸aQ h (aL ..)
 ·obtain⟨j,_,h2,_⟩:=b3;exact h2▸aQ k (aL ..)
 ·exact⟨rfl,a5 r () _ λ_=>b5 r () _ λ_=>bX q⟩
end
end
theorem Gy(x k:Nat):mr x ((x+k:Nat):Int) 1=k:=by
 unfold mr;rw[if_pos (by decide)];cases k with
 |zero=>exact if_neg (Int.lt_irrefl _)
 |succ k=>rw[if_pos (dN.2 (hE (fh k))),LO,Int.sub_add_cancel,hV,nL,xM]
theorem zT{x:Nat}(h:x<=1000):eD x=true:=qu (kj (by decide) (eK x)) (kj (gy.2 h) (by decide))
theorem sj{x k:Nat}(h:x+k<=1000):jT [(x:Int),((x+k:Nat):Int)]=some (cA x 1 k):=by
 show(if eD x=true/\eD ((x+k:Nat):Int)=true then some (cA x 1 (mr x ((x+k:Nat):Int) 1).toNat) else none) = _;rw[if_pos ⟨zT (ai (aL x k) h),zT h⟩,Gy];rfl
theorem Uy{x k j:Nat}:(cA x 1 k)[j]?=if j<k then some (nI (x+j)) else none:=by
 rw[zV,pL];rfl
noncomputable def cU:List Bool->Nat->Nat->List Bool
 |G,_,0=>G
 |G,x,k+1=>(cU G x k).set (x+k) true
theorem nV(G:List Bool)(x:Nat):∀k,(cU G x k).length=G.length:=λrr=>ni (rfl)
 (λk ih=>(Cc ..).trans (ih)) rr
theorem qd(G:List Bool)(x i:Nat):∀k,(cU G x k)[i]?=if x<=i/\i<x+k then(G[i]?).map λ_=>true else G[i]?:=λrr=>ni (by rw[if_neg λh=>absurd h.2 (bc.2 h.1)];rfl)
 (λk ih=>by
  show((cU G x k).set (x+k) true)[i]? = _;rw[KA,ih,nV];by_cases h:x+k=i
  ·rw[if_pos h,if_pos (c:=x<=i/\_) ⟨h▸aL x k,h▸bu _⟩];by_cases g:x+k<G.length
   ·rw[if_pos g,<-h,bL g];rfl
   ·rw[if_neg g,<-h,fH (bc.1 g)];rfl
  ·rw[if_neg h];by_cases g:x<=i/\i<x+k
   ·rw[if_pos g,if_pos ⟨g.1,eL g.2⟩]
   ·rw[if_neg g,if_neg λz=>g ⟨z.1,hF (eU z.2) λw=>h w.symm⟩]) rr
theorem oi(x:Int)(k:Nat):(cA x 1 k).length=k:=by
 induction k generalizing x with
 |zero=>rfl
 |succ k ih=>exact congrArg (·+1) (ih _)
theorem S0(l:List Bool)(i:Nat)(b:Bool):(vB l).set i (.bool b)=vB (l.set i b):=(LW ..).symm
theorem dX(Z:ae)(a:Nat)(m m':M):ak (ak Z a m) a m'=ak Z a m':=funext λb=>by unfold ak;by_cases h:b=a<;>simp only[if_pos,if_neg,h,not_false_eq_true]
theorem aA{Z:ae}{a b:Nat}{m:M}(n:b≠a):ak Z a m b=Z b:=if_neg n
theorem Qw{Z:ae}{g:Nat}{G:List Bool}{i:Nat}{b:Bool}{Q:ae->Prop}(e:Z g=some (.list (vB G)))(h:i<G.length)(q:Q (ak Z g (.list (vB (G.set i b))))):jw Z (.ref g) (nI i) (.bool b) Q:=
 ao (a:=g) rfl (ao e (ao (a:=(i:Int)) rfl (.inl ⟨eK i,by rw[aY];exact dN.2 h,by rw[hM,S0];exact q⟩)))
theorem DP{n:Nat}{Z:ae}{d g x k:Nat}{fs:List (bG×V)}{a:bG}{G:List Bool}{r2 r3 r4 r5:V}{r6:Option V}{p:V}{Q:QO}(ha:(dH 2).contains a=true)(hl:tc fs a=some (.ref g))
  (hd:Z d=some (.attrs 2 fs)) (hg:Z g=some (.list (vB G))) (dg:d≠g) (hk:x+k<=G.length)
  (q:∀r,Q .next [some (.inst 2 d),some p,some r2,some r3,some r4,some r5,r] (ak Z g (.list (vB (cU G x k))))) :
  ∃m,bZ (.vals (cA x 1 k)) (.v 6) (λJ Z Q=>az (Ph pF n) [.s (.i (.a (.x 0) a) (.x 6)) (.c (.bool true))] J Z Q) Q m 0 [some (.inst 2 d),some p,some r2,some r3,some r4,some r5,r6] Z:=by
 have e0:ak Z g (.list (vB G))=Z:=funext λb=>by
  by_cases h:b=g
  ·rw[h,aP,hg]
  ·exact aA h
 refine qj (mF (cD pF n) _) (λi J Z'=>(∃r,J=[some (.inst 2 d),some p,some r2,some r3,some r4,some r5,r])/\Z'=ak Z g (.list (vB (cU G x i)))) ⟨⟨r6,rfl⟩,e0.symm⟩ (λ_ _ _ _=>rfl) ?_ ?_
 ·intro i v J Z' hv zz;refine aT zz λz e'=>bA z λr e=>?_;clear zz z;subst e;subst e';rw[Uy]at hv;by_cases h:i<k
  ·rw[if_pos h]at hv;injection hv with hv;subst hv
   refine ao rfl (ao (dC ((aA dg).trans hd) ha hl) (Qw (aP ..) (by rw[nV];exact aQ (eE h x) hk) ⟨_,Sub.refl' _,⟨_,rfl⟩,?_⟩));rw[dX];rfl
  ·rw[if_neg h]at hv;exact nn hv
 ·intro J Z' zz;refine aT zz λz e'=>bA z λr e=>?_;clear zz z;subst e;subst e';rw[oi];exact q _
theorem mark{n:Nat}{s:Sh}{G H:List Bool}{Z:ae}(hs:gF s G H Z){x k y l:Nat}(hx:x+k<=G.length)(hy:y+l<=H.length)(hG:G.length<=1000)(hH:H.length<=1000){Q:QV}
  (q:Q .none (ak (ak Z s.g (.list (vB (cU G x k)))) s.h (.list (vB (cU H y l))))):Ph pF (n+1) 36 [.inst 2 s.d,pt x (x+k) y (y+l)] Z Q:=by
 have dg:s.d≠s.g:=kN hs.at_d hs.at_g rfl;have dh:s.d≠s.h:=kN hs.at_d hs.at_h rfl;refine ao rfl (ao rfl ⟨rfl,ao (sj (ai hx hG)) ?_⟩);refine DP rfl rfl hs.at_d hs.at_g dg hx λr=>?_;refine ao (sj (ai hy hH)) ?_;refine DP rfl rfl ((aA dg).trans hs.at_d) ((aA hs.gh.symm).trans hs.at_h) dh hy λr=>?_;exact bX q
theorem Ik{n:Nat}{s:Sh}{Z:ae}(h:jX s Z){Q:QV}(q:Q (pt 0 s.A.length 0 s.B.length) Z):Ph pF (n+1) 34 [.inst 2 s.d] Z Q:=by
 have q:Q (pt 0 (vI s.A).length 0 (vI s.B).length) Z:=by rw[aY,aY];exact q
 exact ao rfl (ao (dC h rfl rfl) (ao (dC h rfl rfl) (bX q)))
structure mR(d k:Nat)(K:List (List UInt8))(Z:ae):Prop where
 at_d:Z d=some (.attrs 1 [(4,.ref k),(5,.list []),(6,nI K.length)])
 at_k:∃f,Z k=some (.dB K.length f)/\∀b,f b=if b∈K then some (nI (K.idxOf b)) else none
noncomputable def iA(K:List (List UInt8))(b:List UInt8):List (List UInt8):=if b∈K then K else K++[b]
theorem FQ{Z:ae}{k m:Nat}{f:List UInt8->Option V}{b:List UInt8}{v:V}(h:Z k=some (.dB m f))(e:f b=some v):eP Z (.ref k) (.tup [.bool false,.bytes b])=some v:=by
 have a:cc Z k=none:=by unfold cc;rw[h];rfl
 have c:dD Z k (.tup [.bool false,.bytes b])=some (f b):=by unfold dD;rw[h];rfl
 show(match cc Z k with|some l=>_|none=>(dD Z k (.tup [.bool false,.bytes b])).bind λo=>o) = _;rw[a,c];exact e
theorem Oc{n d k:Nat}{K:List (List UInt8)}{Z:ae}(hs:mR d k K Z)(hK:K.length<1000){b:List UInt8}{Q:QV}
  (q:∀Z',mR d k (iA K b) Z'->(∀x,x≠d->x≠k->Z' x=Z x)->Q (nI ((iA K b).idxOf b)) Z'):Ph pF (n+1) 31 [.inst 1 d,.bytes b] Z Q:=by
 obtain⟨h1,f,h2,h3⟩:=hs;have dk:d≠k:=kN h1 h2 rfl;have e4:jE Z (.inst 1 d) 4=some (.ref k):=dC h1 rfl rfl;have ein:dD Z k (.tup [.bool false,.bytes b])=some (f b):=by unfold dD;rw[h2];rfl
 refine ao rfl (ao e4 (ao (a:=!(f b).isSome) (show rP _ (rP _ (dD Z k _)) = _ by rw[ein];rfl) ?_));by_cases hb:b∈K
 ·have fb:f b=some (nI (K.idxOf b)):=(h3 b).trans (if_pos hb);rw[fb];refine ao rfl (ao e4 (ao rfl (ao (FQ h2 fb) (bX ?_))));have w:=q Z (by rw[iA,if_pos hb];exact⟨h1,f,h2,h3⟩) λ_ _ _=>rfl;rw[iA,if_pos hb]at w;exact w
 ·have fb:f b=none:=(h3 b).trans (if_neg hb);rw[fb];have e6:jE Z (.inst 1 d) 6=some (nI K.length):=dC h1 rfl rfl;have hl:K.length<aJ:=fK hK (by decide);refine ao rfl (ao e6 (ao e4 (ao rfl (ao (a:=k) rfl (ao h2 (ao (a:=b) rfl ⟨hl,?_⟩))))));have g1:ak Z k (.dB (K.length+1) λj=>if j=b then some (nI K.length) else f j) d = _:=(aA dk).trans h1;refine ao (dC g1 rfl rfl) (gT g1 rfl (dR rfl) ?_);have kk:(iA K b)=K++[b]:=if_neg hb;have il:(K++[b]).idxOf b=K.length:=by rw[BY,if_neg hb,List.idxOf_cons_self];exact aU _
  have N:mR d k (K++[b]) (ak (ak Z k (.dB (K.length+1) λj=>if j=b then some (nI K.length) else f j)) d (.attrs 1 [(4,.ref k),(5,.list []),(6,nI (K.length+1))])):=by
   refine⟨by rw[bB];exact aP ..,_,by rw[bB,aA dk.symm];exact aP ..,λj=>?_⟩;by_cases e:j=b
   ·rw[if_pos e,if_pos (by rw[e];exact q9 _ (cJ.2 rfl)),e,il]
   ·rw[if_neg e,h3];by_cases m:j∈K
    ·rw[if_pos m,if_pos (rh _ m),BY,if_pos m]
    ·rw[if_neg m,if_neg λz=>(gw.1 z).elim m λy=>e (cJ.1 y)]
  have w:=q _ (kk▸N) λx a c=>(aA a).trans (aA c);rw[kk,il]at w;exact ao (dC (aP ..) rfl rfl) (ao rfl (ao (FQ ((aA dk.symm).trans (aP ..)) (if_pos rfl)) (bX w)))
theorem Fy{is:IS}{t:T}{elt:aj->ae->QV->Prop}{J:aj}{C:ax}{Z:ae}{l:List V}{Q:QV}(hz:l.length<=aJ)(I:Nat->List V->ae->Prop)
  (hn:∀i r Z,I i r Z->fo Z is i=some l[i]?) (h:∀i v r Z,l[i]?=some v->I i r Z->aK (d8 t v J) λJ'=>elt J' Z λx Z'=>I (i+1) (r++[x]) Z') (he:Mo elt)
  (h0:I 0 [] Z) (hq:∀r Z',I l.length r Z'->Q (.list r) Z'):∃n,g0 is t (λJ Z Q=>WB C true [] J Z Q) elt J Q n 0 [] Z:=by
 have key:∀k i acc Z,i+k=l.length->acc.length=i->I i acc Z->g0 is t (λJ Z Q=>WB C true [] J Z Q) elt J Q (k+1) i acc Z:=by
  intro k;induction k with
  |zero=>
   intro i acc Z e _ q;refine ao (hn _ _ _ q) ?_;replace e:i=l.length:=e;rw[fH (dA e.symm)];exact hq _ _ (e▸q)
  |succ k ih=>
   intro i acc Z e ha q;have hi:i<l.length:=e▸hE (fh k);refine ao (hn _ _ _ q) ?_;have w:=h i l[i] acc Z (bL hi) q;rw[bL hi];refine a0 w λJ' w=>(show acc.length<aJ/\_ from⟨aQ (ha▸hi) hz,he _ _ _ _ (λx Z' w=>?_) w⟩)
   exact ih (i+1) _ _ ((cH i k).trans e) (by rw[bB,ha];rfl) w
 exact⟨_,key l.length 0 [] Z (aU _) rfl h0⟩
noncomputable abbrev vY(l:List (List UInt8)):List V:=l.map .bytes
theorem NX{K:List (List UInt8)}{b u:List UInt8}(h:u∈K):(iA K b).idxOf u=K.idxOf u:=by
 unfold iA;by_cases e:b∈K
 ·rw[if_pos e]
 ·rw[if_neg e,BY,if_pos h]
theorem EK{K:List (List UInt8)}{b u:List UInt8}(h:u∈K):u∈iA K b:=by
 unfold iA;by_cases e:b∈K
 ·rw[if_pos e];exact h
 ·rw[if_neg e];exact rh _ h
theorem C9{K:List (List UInt8)}{b:List UInt8}:b∈iA K b:=by
 unfold iA;by_cases e:b∈K
 ·rw[if_pos e];exact e
 ·rw[if_neg e];exact q9 _ (cJ.2 rfl)
theorem NY{K:List (List UInt8)}{b:List UInt8}:(iA K b).length<=K.length+1:=by
 unfold iA;by_cases e:b∈K
 ·rw[if_pos e];exact eM _
 ·rw[if_neg e,bB];exact aC _
noncomputable def cw(K:List (List UInt8))(l:List (List UInt8)):List (List UInt8):=l.foldl iA K
theorem pQ{u:List UInt8}:∀(l:List (List UInt8)){K:List (List UInt8)},u∈K->u∈cw K l/\(cw K l).idxOf u=K.idxOf u:=λrr=>@(li (λ{_}h=>⟨h,rfl⟩)
 (λb l ih{_}h=>⟨(ih (EK h)).1,(ih (EK h)).2.trans (NX h)⟩) rr)
theorem mD{u:List UInt8}:∀(l:List (List UInt8)){K:List (List UInt8)},u∈l->u∈cw K l
 |b::l,K,h=>(cp.1 h).elim (λe=>(pQ l (e▸C9)).1) λh=>mD l h
theorem Dc:∀(l:List (List UInt8)){K:List (List UInt8)},(cw K l).length<=K.length+l.length:=λrr=>@(li (λ{_}=>aC _)
 (λb l ih{K}=>ai (ih) (ai (kR NY _) (dA (by rw[nG,cq,cb 1])))) rr)
theorem yl(K l:List (List UInt8))(b:List UInt8):cw K (l++[b])=iA (cw K l) b:=BV ..
theorem cY{c d m f:Nat}{fs:List (bG×V)}{Z:ae}(e:Z d=some (.attrs c fs))(h:lQ c m=some f):oj Z (.inst c d) m=some f:=by
 show(gI Z d).bind _ = _;rw[show gI Z d=some (c,fs) by unfold gI;rw[e];rfl];exact(if_pos rfl).trans h
theorem Df{n d k:Nat}{K l:List (List UInt8)}{Z:ae}(hs:mR d k K Z)(hK:K.length+l.length<1000){Q:QV}
  (q:∀Z',mR d k (cw K l) Z'->(∀x,x≠d->x≠k->Z' x=Z x)->Q (.list (l.map λu=>nI ((cw K l).idxOf u))) Z'):Ph pF (n+2) 32 [.inst 1 d,.list (vY l)] Z Q:=by
 have hl:(vY l).length=l.length:=aY ..;refine ao rfl (Fy (l:=vY l) (by rw[hl];exact ai (df ..) (ai (cu hK) (by decide)))
  (λi r Z'=>mR d k (cw K (l.take i)) Z'/\(∀x,x≠d->x≠k->Z' x=Z x)/\r=(l.take i).map λu=>nI ((cw K l).idxOf u)) (λ_ _ _ _=>rfl) ?_ (eW (cD pF _) _) ⟨hs,λ_ _ _=>rfl,rfl⟩ ?_)
 ·intro i v r Z' hv zz;refine g8 zz λN F e=>?_;clear zz;subst e;rw[cO]at hv;have hi:i<l.length:=pz λh=>by rw[fH h]at hv;exact nn hv
  rw[bL hi]at hv;injection hv with hv;subst hv
  have tk:l.take (i+1)=l.take i++[l[i]]:=by rw[xT,bL hi];rfl
  refine ao rfl (ao (cY N.at_d rfl) (Oc N (bC (Dc _) (bC (kT ((J3 ..)) _) hK)) λZ2 N2 F2=>⟨?_,λx a b=>(F2 x a b).trans (F x a b),?_⟩))
  ·rw[tk,yl];exact N2
  ·have w:=(pQ (l.drop (i+1)) (C9 (K:=cw K (l.take i)) (b:=l[i]))).2;rw[<-yl,<-tk,show cw (cw K (l.take (i+1))) (l.drop (i+1))=cw K l by unfold cw;rw[<-BV,Bz],tk,yl]at w;rw[tk,dw,<-w];rfl
 ·intro r Z' zz;refine g8 zz λN F e=>?_;clear zz;rw[hl,nH]at N e;subst e;exact bX (q Z' N F)
theorem My{n d:Nat}{Z:ae}(hd:Z d=none){Q:QV}(q:∀k Z',mR d k [] Z'->Z k=none->k≠d->(∀x,x≠d->x≠k->Z' x=Z x)->Q .none Z'):Ph pF (n+1) 30 [.inst 1 d] (ak Z d (.attrs 1 [])) Q:=by
 refine ao rfl (ao rfl λk hk=>?_);have kd:k≠d:=λe=>by rw[e,aP]at hk;cases hk
 have hk':Z k=none:=(aA kd).symm.trans hk;refine gT ((aA kd.symm).trans (aP ..)) rfl (dR rfl) ?_;refine gT (aP ..) rfl (dR rfl) ?_;refine gT (aP ..) rfl (dR rfl) (bX ?_);refine q k _ ⟨aP ..,λ_=>none,?_,λb=>rfl⟩ hk' kd λx a b=>?_
 ·rw[dX,dX,aA kd];exact aP ..
 ·rw[dX,dX,aA a,aA b,aA a]
noncomputable abbrev iD(K l:List (List UInt8)):List Int:=l.map λu=>((K.idxOf u:Nat):Int)
theorem Ht(K l:List (List UInt8)):(l.map λu=>nI (K.idxOf u))=vI (iD K l):=(ig ..).symm
theorem IK(k:Nat)(b:Bool):(aR k [V.bool b]).flatten=vB (aR k b):=by
 induction k with
 |zero=>rfl
 |succ k ih=>exact congrArg (V.bool b::·) ih
theorem DT{n d:Nat}{Z:ae}(hd:Z d=none){a b:List (List UInt8)}(hl:a.length+b.length<1000){Q:QV}
  (q:∀s Z',s.d=d->s.A=iD (cw (cw [] a) b) a->s.B=iD (cw (cw [] a) b) b->gF s (aR a.length false) (aR b.length false) Z' ->
   Z s.g=none->Z s.h=none->Sub Z Z'->Q .none Z'):Ph pF (n+3) 33 [.inst 2 d,.list (vY a),.list (vY b)] (ak Z d (.attrs 2 [])) Q:=by
 refine ao rfl λe he=>My he λk Z1 N hk ke F=>?_;have ed:e≠d:=λz=>by rw[z,aP]at he;cases he
 have kd:k≠d:=λz=>by rw[z,aP]at hk;cases hk
 refine ao rfl (ao (cY N.at_d rfl) (Df N (bC (ai (dA (aU _)) (aL ..)) hl) λZ2 N2 F2=>?_));have d2:Z2 d=some (.attrs 2 []):=(F2 d ed.symm kd.symm).trans ((F d ed.symm kd.symm).trans (aP ..));refine gT d2 rfl (dR rfl) ?_;have N3:∀m,mR e k (cw [] a) (ak Z2 d m):=λm=>⟨(aA ed).trans N2.at_d,N2.at_k.imp λf h=>⟨(aA kd).trans h.1,h.2⟩⟩
 refine ao (cY (N3 _).at_d rfl) (Df (N3 _) (bC (kR (ai (Dc a) (dA (aU _))) _) hl) λZ4 N4 F4=>?_);have d4:=(F4 d ed.symm kd.symm).trans (aP ..);refine gT d4 rfl (dR rfl) ?_;have la:((vY a).length:Int).toNat=a.length:=(hM _).trans (aY ..);have lb:((vY b).length:Int).toNat=b.length:=(hM _).trans (aY ..);have ba:a.length<=1000:=ai (aL ..) (cu hl);have bb:b.length<=1000:=ai (df ..) (cu hl);have w{z:Nat}(h:z<=1000):1*z<=aJ/\(z:Int)<=aJ/\-(2 ^ 63:Int)<=z:=⟨by rw[CN];exact ai h (by decide),gy.2 (ai h (by decide)),kj (by decide) (eK z)⟩
 have wa:=w ba;have wb:=w bb;refine ao rfl ⟨by rw[la];exact wa.1,by rw[aY];exact wa.2.1,by rw[aY];exact wa.2.2,λg hg=>?_⟩;have gd:g≠d:=λz=>by rw[z,aP]at hg;cases hg
 refine gT ((aA gd.symm).trans (aP ..)) rfl (dR rfl) ?_;refine ao rfl ⟨by rw[lb];exact wb.1,by rw[aY];exact wb.2.1,by rw[aY];exact wb.2.2,λh hh=>?_⟩;have hd':h≠d:=λz=>by rw[z,aP]at hh;cases hh
 refine gT ((aA hd'.symm).trans (aP ..)) rfl (dR rfl) ?_;have gh:g≠h:=λz=>by rw[<-z,aA gd,aP]at hh;cases hh
 have o:∀{z:Nat},z≠d->Z4 z=none->Z z=none:=λ{z}zd h4=>by
  by_cases ze:z=e
  ·rw[ze]at h4;exact absurd (h4.symm.trans N4.at_d) (by intro w;exact nn w)
  by_cases zk:z=k
  ·rw[zk]at h4;obtain⟨f,hf,_⟩:=N4.at_k;exact absurd (h4.symm.trans hf) (by intro w;exact nn w)
  rw[F4 z ze zk,aA zd,F2 z ze zk,F z ze zk,aA zd]at h4;exact h4
 have og:Z g=none:=o gd ((aA gd).symm.trans hg);have oh:Z h=none:=by
  rw[aA hd',aA gh.symm,aA hd']at hh;exact o hd' hh
 have eA:V.list (nR (λu=>nI (yo u (cw [] a))) a)=.list (vI (iD (cw (cw [] a) b) a)):=
  congrArg V.list ((List.map_congr_left λu hu=>congrArg nI (pQ b (mD a hu)).2.symm).trans (Ht ..))
 have eB:V.list (nR (λu=>nI (yo u (cw (cw [] a) b))) b)=.list (vI (iD (cw (cw [] a) b) b)):=congrArg V.list (Ht ..);refine bX (q ⟨_,_,d,g,h⟩ _ rfl rfl rfl ⟨?_,?_,?_,gh⟩ og oh λx m hx=>?_)
 ·rw[aP,eA,eB];rfl
 ·rw[aA gd,aA gh,aA gd,aP,la,IK]
 ·rw[aA hd',aP,lb,IK]
 ·have nx{z:Nat}(hz:Z z=none):x≠z:=λw=>by rw[w,hz]at hx;exact nn hx
  have xd:=nx hd;have xe:=nx ((aA ed).symm.trans he);have xk:=nx ((aA kd).symm.trans hk);rw[aA xd,aA (nx oh),aA xd,aA (nx og),aA xd,F4 x xe xk,aA xd,F2 x xe xk,F x xe xk,aA xd];exact hx
section
inductive bg(A B:List Int)(G H:List Bool):Nat->Nat->Nat->Nat->Nat->Nat->Prop where
 |nil {x y}:bg A B G H x y x y 0 0
 |keep {x y X Y c d}:A[x]?=B[y]?->G[x]?=some false->H[y]?=some false->bg A B G H (x+1) (y+1) X Y c d->bg A B G H x y X Y c d
 |out {x y X Y c d}:G[x]?=some true->bg A B G H (x+1) y X Y c d->bg A B G H x y X Y (c+1) d
 |inn {x y X Y c d}:H[y]?=some true->bg A B G H x (y+1) X Y c d->bg A B G H x y X Y c (d+1)
inductive g6(G H:List Bool):Nat->Nat->List (Nat×Nat×Nat×Nat)->Prop where
 |fin:g6 G H G.length H.length []
 |skip {x y cs}:G[x]?=some false->H[y]?=some false->g6 G H (x+1) (y+1) cs->g6 G H x y cs
 |run {x y x' y' cs}:x<=x'->y<=y'->(∀i,x<=i->i<x'->G[i]?=some true)->(∀i,y<=i->i<y'->H[i]?=some true)->G[x']?≠some true->H[y']?≠some true->(x<x'\/y<y')->g6 G H x' y' cs->g6 G H x y ((x,x',y,y')::cs)
section
variable{A B:List Int}{G H:List Bool}
theorem bg.le{x y X Y c d:Nat}(h:bg A B G H x y X Y c d):x<=X/\y<=Y:=by
 induction h with
 |nil=>exact⟨aC _,aC _⟩
 |keep _ _ _ _ ih=>exact⟨cL ih.1,cL ih.2⟩
 |out _ _ ih=>exact⟨cL ih.1,ih.2⟩
 |inn _ _ ih=>exact⟨ih.1,cL ih.2⟩
theorem bg.outs{x y Y c d:Nat}(h:bg A B G H x y G.length Y c d):G[x]?=some true->∃c',bg A B G H (x+1) y G.length Y c' d:=by
 generalize e:G.length=X at h
 induction h with
 |nil=>intro g;rw[<-e,fH (aC _)]at g;exact nn g
 |keep _ g _ _ _=>intro g';rw[g]at g';cases g'
 |out _ h _=>exact λ_=>⟨_,h⟩
 |inn a _ ih=>exact λg=>(ih e g).imp λc' w=>.inn a w
theorem bg.inns{x y X c d:Nat}(h:bg A B G H x y X H.length c d):H[y]?=some true->∃d',bg A B G H x (y+1) X H.length c d':=by
 generalize e:H.length=Y at h
 induction h with
 |nil=>intro g;rw[<-e,fH (aC _)]at g;exact nn g
 |keep _ _ g _ _=>intro g';rw[g]at g';cases g'
 |inn _ h _=>exact λ_=>⟨_,h⟩
 |out a _ ih=>exact λg=>(ih e g).imp λc' w=>.out a w
theorem bg.keeps{x y X Y c d:Nat}(h:bg A B G H x y X Y c d)(hg:G[x]?≠some true)(hh:H[y]?≠some true):(x=X/\y=Y)\/(A[x]?=B[y]?/\G[x]?=some false/\H[y]?=some false/\bg A B G H (x+1) (y+1) X Y c d):=by
 cases h with
 |nil=>exact .inl ⟨rfl,rfl⟩
 |keep a b e h=>exact .inr ⟨a,b,e,h⟩
 |out g _=>exact absurd g hg
 |inn g _=>exact absurd g hh
end
section
variable{C:ax}{J:aj}{Z:ae}{a b:E}{v:V}{i:Nat}{l:List V}
theorem gU{g:Nat}(h:Z g=some (.list l)):cc Z g=some l:=by unfold cc;rw[h];rfl
theorem yR{g:Nat}(h:Z g=some (.list l)):lR Z (.ref g)=some l:=gU h
theorem kq{g:Nat}(h:Z g=some (.list l))(e:l[i]?=some v):eP Z (.ref g) (nI i)=some v:=by
 unfold eP;rw[yR h];show fE l (i:Int) = _;unfold fE;rw[if_pos (eK i),hM,e]
theorem qr(h:Ev C a J Z (.list l)):Ev C (.bi .len [a]) J Z (nI l.length):=λQ q=>h _ (ao rfl q)
theorem FJ{l:List Int}(h:Ev C a J Z (.list (vI l))):Ev C (.bi .len [a]) J Z (nI l.length):=λQ q=>qr h Q (by rw[aY];exact q)
theorem vH{g:Nat}(h:Z g=some (.list l)):jF Z (.ref g)=some (g,l):=by
 show(cc Z g).map _ = _;rw[gU h];rfl
theorem kx{g:Nat}{x:V}{Q:QV}(h:Z g=some (.list l))(hl:l.length<aJ)(q:Q .none (ak Z g (.list (l++[x])))):qV Z (.ref g) .append [x] Q:=
 ao (vH h) (ao rfl ⟨hl,q⟩)
theorem iZ{g:Nat}{b:BM}(h:Z g=some (.list l))(e:tj Z (.ref g) b=(jF Z (.ref g)).isSome):tj Z (.ref g) b=true:=by rw[e,vH h];rfl
end
end
section
def kJ(Z:ae)(u:V)(G:List Bool):Prop:=u=.list (vB G)\/∃g,u=.ref g/\Z g=some (.list (vB G))
structure eO(A B:List Int)(G H:List Bool)where
 n:Nat
 Z:ae
 d:Nat
 u:V
 v:V
 f:Nat
 hd:Z d=some (.attrs 2 [(7,.list (vI A)),(8,.list (vI B)),(9,u),(10,v)])
 hu:kJ Z u G
 hv:kJ Z v H
 hf:Z f=none
noncomputable abbrev aV(c:Nat×Nat×Nat×Nat):V:=Ch c.1 c.2.1 c.2.2.1 c.2.2.2
noncomputable abbrev eO.st{A B:List Int}{G H:List Bool}(r:eO A B G H)(cs:List (Nat×Nat×Nat×Nat)):ae:=ak r.Z r.f (.list (cs.map aV))
noncomputable abbrev eO.C{A B:List Int}{G H:List Bool}(r:eO A B G H):ax:=Ph pF (r.n+1)
section
variable{A B:List Int}{G H:List Bool}(r:eO A B G H){cs:List (Nat×Nat×Nat×Nat)}{e u:E}{J:aj}{i:Nat}
theorem eO.nd{z:Nat}{m:M}(h:r.Z z=some m):z≠r.f:=λe=>sn (h.symm.trans ((congrArg r.Z e).trans r.hf))
theorem eO.off{z:Nat}{m:M}(h:r.Z z=some m):r.st cs z=some m:=(aA (r.nd h)).trans h
theorem eO.a(h:Ev r.C e J (r.st cs) (.inst 2 r.d)):Ev r.C (.bi .len [.a e 7]) J (r.st cs) (nI A.length):=FJ (br h (dC (r.off r.hd) rfl rfl))
theorem eO.b(h:Ev r.C e J (r.st cs) (.inst 2 r.d)):Ev r.C (.bi .len [.a e 8]) J (r.st cs) (nI B.length):=FJ (br h (dC (r.off r.hd) rfl rfl))
theorem RO{Z:ae}{l:List V}{i:Nat}{v:V}(e:l[i]?=some v):eP Z (.list l) (nI i)=some v:=by
 show fE l (i:Int) = _;unfold fE;rw[if_pos (eK i),hM,e]
theorem kJ.get{Z:ae}{w:V}{G:List Bool}{x:V}(h:kJ Z w G)(e:(vB G)[i]?=some x):eP Z w (nI i)=some x:=by
 rcases h with rfl|⟨g,rfl,hg⟩
 ·exact RO e
 ·exact kq hg e
theorem kJ.off{Z:ae}{w:V}{G:List Bool}{f:Nat}{m:M}(h:kJ Z w G)(hf:Z f=none):kJ (ak Z f m) w G:=h.imp id λz_=>ar z_ λg e k=>⟨g,e,(aA λz=>by rw[z,hf]at k;exact nn k).trans k⟩
theorem F9{G:List Bool}{C:ax}{Z:ae}{w:V}{a:E}(ha:Ev C a J Z w)(hw:kJ Z w G)(hu:Ev C u J Z (nI i))(hi:i<G.length):aI C (.i a u) J Z (G[i]?=some true):=
 ⟨G[i],by rw[bL hi,Ym],bW ha hu (hw.get (by rw[cO,bL hi];rfl))⟩
theorem eO.g(h:Ev r.C e J (r.st cs) (.inst 2 r.d))(hu:Ev r.C u J (r.st cs) (nI i))(hi:i<G.length):aI r.C (.i (.a e 9) u) J (r.st cs) (G[i]?=some true):=
 F9 (br h (dC (r.off r.hd) rfl rfl)) (r.hu.off r.hf) hu hi
theorem eO.h(h:Ev r.C e J (r.st cs) (.inst 2 r.d))(hu:Ev r.C u J (r.st cs) (nI i))(hi:i<H.length):aI r.C (.i (.a e 10) u) J (r.st cs) (H[i]?=some true):=
 F9 (br h (dC (r.off r.hd) rfl rfl)) (r.hv.off r.hf) hu hi
end
section
variable{A B:List Int}{G H:List Bool}
theorem VI(hn:A.length=G.length)(x y:Nat)(cs:List (Nat×Nat×Nat×Nat)) :
  ∃x',(x<=x'/\∀i,x<=i->i<x'->G[i]?=some true)/\¬(x'<G.length/\G[x']?=some true)/\∀(r:eO A B G H)(j:Unit)(Q:QO),
   (∀j:Unit,Q .next [some (.inst 2 r.d),some (.ref r.f),some (nI x'),some (nI y),some (nI x),some (nI y)] (r.st cs)) ->
   WS r.C (.whl (.o true [.m .lt (.x 2) (.bi .len [.a (.x 0) 7]),.i (.a (.x 0) 9) (.x 2)]) [.aug (.v 2) .add (.c (.int 1))]) [some (.inst 2 r.d),some (.ref r.f),some (nI x),some (nI y),some (nI x),some (nI y)] (r.st cs) Q:=
 fi (C:=eO.C) (λ(r:eO A B G H)(k:Nat)_=>[some (.inst 2 r.d),some (.ref r.f),some (nI k),some (nI y),some (nI x),some (nI y)]) (λr _=>r.st cs)
  (λk=>x<=k/\∀i,x<=i->i<k->G[i]?=some true) (λk=>G.length-k) (λk=>k<G.length/\G[k]?=some true)
  (λk hk r _=>iU (hn▸eY (aa rfl) (r.a (aa rfl))) λh=>r.g (aa rfl) (aa rfl) h)
  (λk hk ht=>⟨k+1,⟨fv hk.1,λi a b=>(j9.1 b).elim (hk.2 i a) λz=>z▸ht.2⟩,kc ht.1 (bu _),λr _ Q q=>by exact q () _ (Sub.refl' _)⟩) x ⟨aC _,λi a b=>absurd b (bc.2 a)⟩
theorem VJ(hm:B.length=H.length)(x x' y:Nat)(cs:List (Nat×Nat×Nat×Nat)) :
  ∃y',(y<=y'/\∀i,y<=i->i<y'->H[i]?=some true)/\¬(y'<H.length/\H[y']?=some true)/\∀(r:eO A B G H)(j:Unit)(Q:QO),
   (∀j:Unit,Q .next [some (.inst 2 r.d),some (.ref r.f),some (nI x'),some (nI y'),some (nI x),some (nI y)] (r.st cs)) ->
   WS r.C (.whl (.o true [.m .lt (.x 3) (.bi .len [.a (.x 0) 8]),.i (.a (.x 0) 10) (.x 3)]) [.aug (.v 3) .add (.c (.int 1))]) [some (.inst 2 r.d),some (.ref r.f),some (nI x'),some (nI y),some (nI x),some (nI y)] (r.st cs) Q:=
 fi (C:=eO.C) (λ(r:eO A B G H)(k:Nat)_=>[some (.inst 2 r.d),some (.ref r.f),some (nI x'),some (nI k),some (nI x),some (nI y)]) (λr _=>r.st cs)
  (λk=>y<=k/\∀i,y<=i->i<k->H[i]?=some true) (λk=>H.length-k) (λk=>k<H.length/\H[k]?=some true)
  (λk hk r _=>iU (hm▸eY (aa rfl) (r.b (aa rfl))) λh=>r.h (aa rfl) (aa rfl) h)
  (λk hk ht=>⟨k+1,⟨fv hk.1,λi a b=>(j9.1 b).elim (hk.2 i a) λz=>z▸ht.2⟩,kc ht.1 (bu _),λr _ Q q=>by exact q () _ (Sub.refl' _)⟩) y ⟨aC _,λi a b=>absurd b (bc.2 a)⟩
end
end
section
section
variable{A B:List Int}{G H:List Bool}
theorem bg.outsN{x y Y d:Nat}:∀{k c:Nat},bg A B G H x y G.length Y c d->(∀i,x<=i->i<x+k->G[i]?=some true)->∃c',bg A B G H (x+k) y G.length Y c' d
 :=λ{k}=>@(ni (λ{c}h _=>⟨c,h⟩) (λk ih{c}h g=>(ih h λi a b=>g i a (eL b)).elim λc' h=>h.outs (g _ (aL ..) (bu _))) k)
theorem bg.innsN{x y X c:Nat}:∀{k d:Nat},bg A B G H x y X H.length c d->(∀i,y<=i->i<y+k->H[i]?=some true)->∃d',bg A B G H x (y+k) X H.length c d'
 :=λ{k}=>@(ni (λ{d}h _=>⟨d,h⟩) (λk ih{d}h g=>(ih h λi a b=>g i a (eL b)).elim λc' h=>h.inns (g _ (aL ..) (bu _))) k)
theorem gc{C:ax}{J:aj}{Z:ae}{Q:List V->ae->Prop}(h:Q [] Z):eh C [] J Z Q:=h
theorem uX{x:Nat}(h:¬(x<G.length/\G[x]?=some true)):G[x]?≠some true:=λe=>h ⟨pz λz=>(by rw[fH z]at e;exact nn e),e⟩
abbrev A8:=Nat×Nat×List (Nat×Nat×Nat×Nat)
def cI(A B:List Int)(G H:List Bool)(s:A8):Prop:=(∃c d,bg A B G H s.1 s.2.1 G.length H.length c d)/\s.2.2.length<=s.1+s.2.1/\∀cs',g6 G H s.1 s.2.1 cs'->g6 G H 0 0 (s.2.2++cs')
noncomputable def cR(r:eO A B G H)(s:A8)(j:Option V×Option V):aj:=[some (.inst 2 r.d),some (.ref r.f),some (nI s.1),some (nI s.2.1),j.1,j.2]
noncomputable def cB:List S:=[.s (.vs [4,5]) (.tup [.x 2,.x 3]),.whl (.o true [.m .lt (.x 2) (.bi .len [.a (.x 0) 7]),.i (.a (.x 0) 9) (.x 2)]) [.aug (.v 2) .add (.c (.int 1))],
   .whl (.o true [.m .lt (.x 3) (.bi .len [.a (.x 0) 8]),.i (.a (.x 0) 10) (.x 3)]) [.aug (.v 3) .add (.c (.int 1))],
   .ite (.o false [.m .gt (.x 2) (.x 4),.m .gt (.x 3) (.x 5)])
    [.ex (.bm (.x 1) .append [.new true 0 [.x 4,.x 2,.x 5,.x 3]])] [.aug (.v 2) .add (.c (.int 1)),.aug (.v 3) .add (.c (.int 1))]]
theorem LZ(hn:A.length=G.length)(hm:B.length=H.length)(hz:G.length+H.length<=1000)(x y:Nat)(cs:List (Nat×Nat×Nat×Nat))(hs:cI A B G H (x,y,cs))(ht:x<G.length\/y<H.length) :
  ∃s':A8,cI A B G H s'/\G.length+H.length-(s'.1+s'.2.1)<G.length+H.length-(x+y)/\∀(r:eO A B G H)j(Q:QO),(∀j' Z,Sub (r.st s'.2.2) Z->Q .next (cR r s' j') Z)->az r.C cB (cR r (x,y,cs) j) (r.st cs) Q:=by
 refine g8 hs λpp00_ hk hc=>?_;obtain⟨c,d,hl⟩:=pp00_;refine cm (VI (B:=B) (H:=H) hn x y cs) λx' pp11_ a3 a4=>?_;obtain⟨a1,a2⟩:=pp11_;refine cm (VJ (A:=A) (G:=G) hm x x' y cs) λy' pp21_ b3 b4=>?_;obtain⟨b1,b2⟩:=pp21_;have le:=hl.le;have hlt:x+y<G.length+H.length:=ht.elim (λh=>Jh h le.2) λh=>Jf le.1 h;have hr:∀(r:eO A B G H)j(Q:QO),WS r.C (.ite (.o false [.m .gt (.x 2) (.x 4),.m .gt (.x 3) (.x 5)])
    [.ex (.bm (.x 1) .append [.new true 0 [.x 4,.x 2,.x 5,.x 3]])] [.aug (.v 2) .add (.c (.int 1)),.aug (.v 3) .add (.c (.int 1))]) [some (.inst 2 r.d),some (.ref r.f),some (nI x'),some (nI y'),some (nI x),some (nI y)] (r.st cs) Q->az r.C cB (cR r (x,y,cs) j) (r.st cs) Q:=
  λr j Q q=>⟨rfl,a4 r () _ λ_=>b4 r () _ λ_=>vd (cD pF _) _ _ _ _ _ (λo J Z w=>by
   cases o with
   |next=>exact w
   |ret v=>exact w) q⟩
 clear a4 b4;have tv:∀r:eO A B G H,aI r.C (.o false [.m .gt (.x 2) (.x 4),.m .gt (.x 3) (.x 5)]) [some (.inst 2 r.d),some (.ref r.f),some (nI x'),some (nI y'),some (nI x),some (nI y)] (r.st cs) (x<x'\/y<y'):=
  λr=>iW (iV (aa rfl) (aa rfl)) λ_=>iV (aa rfl) (aa rfl)
 by_cases e:x<x'\/y<y'
 ·obtain⟨j,rfl⟩:=bS a1;obtain⟨k,rfl⟩:=bS b1;have lt:x+y<x+j+(y+k):=e.elim (λh=>Jh h b1) λh=>Jf a1 h;refine⟨(x+j,y+k,cs++[(x,x+j,y,y+k)]),⟨(hl.outsN a2).elim λc hl=>(hl.innsN b2).elim λd hl=>⟨c,d,hl⟩,?_,λcs' h=>?_⟩,kc hlt lt,λr j' Q q=>hr r _ _ (dF (tv r) e ?_)⟩
  ·rw[bB];exact ai (cK hk) lt
  ·rw[eT];exact hc _ (.run a1 b1 a2 b2 (uX a3) (uX b3) e h)
  ·have len:(cs.map aV).length<aJ:=by rw[aY];exact bC hk (fK hlt (bC hz (by decide)))
   refine⟨iZ (aP ..) rfl,λz hd=>GY hd (gc (kx (l:=cs.map aV) (aP ..) len (ao rfl ?_)))⟩;have q:=q (some (nI x),some (nI y)) _ (Sub.refl' _);rw[eO.st,dw]at q;rw[dX];exact q
 ·have ex:x'=x:=cX (bc.1 λh=>e (.inl h)) a1;have ey:y'=y:=cX (bc.1 λh=>e (.inr h)) b1;subst ex;subst ey;rcases hl.keeps (uX a3) (uX b3) with h|⟨h1,h2,h3,h4⟩
  ·exact absurd hlt (bc.2 (dA (congr (congrArg HAdd.hAdd h.1.symm) h.2.symm)))
  ·exact⟨(x'+1,y'+1,cs),⟨⟨c,d,h4⟩,ai hk (ff (eM _) (eM _)),λcs' h=>hc _ (.skip h2 h3 h)⟩,kc hlt (Nat.add_lt_add (bu _) (bu _)),
    λr j Q q=>hr r _ _ (bH (tv r) e (q (some (nI x'),some (nI y')) _ (Sub.refl' _)))⟩
theorem C4(hn:A.length=G.length)(hm:B.length=H.length)(hz:G.length+H.length<=1000){c d:Nat}(hl:bg A B G H 0 0 G.length H.length c d) :
  ∃cs,g6 G H 0 0 cs/\∀n Z d u v,Z d=some (.attrs 2 [(7,.list (vI A)),(8,.list (vI B)),(9,u),(10,v)])->kJ Z u G->kJ Z v H->∀Q:QV,Q (.list (cs.map aV)) Z->Ph pF (n+2) 37 [.inst 2 d] Z Q:=by
 obtain⟨⟨x,y,cs⟩,⟨⟨c',d',hl'⟩,_,hc⟩,ht,run⟩:=fi (C:=eO.C) (c:=.o false [.m .lt (.x 2) (.bi .len [.a (.x 0) 7]),.m .lt (.x 3) (.bi .len [.a (.x 0) 8])]) (b:=cB) (cR (A:=A) (B:=B) (G:=G) (H:=H)) (λr s=>r.st s.2.2) (cI A B G H)
  (λs=>G.length+H.length-(s.1+s.2.1)) (λs=>s.1<G.length\/s.2.1<H.length)
  (λs hs r j=>iW (hn▸eY (aa rfl) (r.a (aa rfl))) λ_=>hm▸eY (aa rfl) (r.b (aa rfl)))
  (λs hs ht=>LZ hn hm hz s.1 s.2.1 s.2.2 hs ht)
  (0,0,[]) ⟨⟨c,d,hl⟩,aC _,λ_ h=>h⟩
 have le:=hl'.le;have ex:x=G.length:=cX le.1 (bc.1 λh=>ht (.inl h));have ey:y=H.length:=cX le.2 (bc.1 λh=>ht (.inr h));subst ex;subst ey;exact⟨cs,gO cs▸hc [] .fin,λn Z d u v hd hu hv Q q f hf=>⟨rfl,run ⟨n,Z,d,u,v,f,hd,hu,hv,hf⟩ (none,none) _ λj=>
  tY (aP ..) hf (λz m h=>(aA λe=>by rw[e,hf]at h;exact nn h).trans h) q⟩⟩
end
end
section
inductive aD(e:Nat->Nat->Prop):Nat->Nat->Nat->Nat->Nat->Prop where
 |nil {x y}:aD e x y x y 0
 |keep {x y X Y c}:e x y->aD e (x+1) (y+1) X Y c->aD e x y X Y c
 |out {x y X Y c}:aD e (x+1) y X Y c->aD e x y X Y (c+1)
 |inn {x y X Y c}:aD e x (y+1) X Y c->aD e x y X Y (c+1)
section
variable{e e':Nat->Nat->Prop}{x y X Y c d:Nat}
theorem aD.le(h:aD e x y X Y c):x<=X/\y<=Y:=by
 induction h with
 |nil=>exact⟨aC _,aC _⟩
 |keep _ _ ih=>exact⟨cL ih.1,cL ih.2⟩
 |out _ ih=>exact⟨cL ih.1,ih.2⟩
 |inn _ ih=>exact⟨ih.1,cL ih.2⟩
theorem aD.append{X' Y' c':Nat}(h:aD e x y X Y c)(k:aD e X Y X' Y' c'):aD e x y X' Y' (c'+c):=by
 induction h with
 |nil=>exact k
 |keep a _ ih=>exact .keep a (ih k)
 |out _ ih=>exact .out (ih k)
 |inn _ ih=>exact .inn (ih k)
theorem aD.kept(h:aD e x y X Y c):∃k i j,X=x+k+i/\Y=y+k+j/\c=i+j:=by
 induction h with
 |nil=>exact⟨0,0,0,rfl,rfl,rfl⟩
 |keep _ _ ih=>obtain⟨k,i,j,h,h1,h2⟩:=ih;exact⟨k+1,i,j,h.trans (congrArg (·+i) (cH _ k)),h1.trans (congrArg (·+j) (cH _ k)),h2⟩
 |out _ ih=>obtain⟨k,i,j,h,h1,h2⟩:=ih;exact⟨k,i+1,j,h.trans (by rw[dK _ 1 k,dK _ 1 i];rfl),h1,h2▸(mA i j).symm⟩
 |inn _ ih=>obtain⟨k,i,j,h,h1,h2⟩:=ih;exact⟨k,i,j+1,h,h1.trans (by rw[dK _ 1 k,dK _ 1 j];rfl),h2▸rfl⟩
theorem aD.inns(x y:Nat):∀j,aD e x y x (y+j) j
 |0=>.nil
 |j+1=>.inn ((cH y j)▸aD.inns x (y+1) j)
theorem aD.all(x y j:Nat):∀i,aD e x y (x+i) (y+j) (j+i)
 |0=>aD.inns x y j
 |i+1=>(cH x i)▸.out (aD.all (x+1) y j i)
theorem aD.edits(h:x<=X)(k:y<=Y):aD e x y X Y (Y-y+(X-x)):=by
 obtain⟨i,rfl⟩:=bS h;obtain⟨j,rfl⟩:=bS k;rw[cC,cC];exact aD.all x y j i
theorem aD.flip(h:aD e x y X Y c):aD (λi j=>e j i) y x Y X c:=by
 induction h with
 |nil=>exact .nil
 |keep a _ ih=>exact .keep a ih
 |out _ ih=>exact .inn ih
 |inn _ ih=>exact .out ih
theorem aD.mono(m:∀i j,e i j->x<=i->y<=j->i<X->j<Y->e' i j)(h:aD e x y X Y c):aD e' x y X Y c:=by
 induction h with
 |nil=>exact .nil
 |keep a h ih=>exact .keep (m _ _ a (aC _) (aC _) h.le.1 h.le.2) (ih λi j a b c=>m i j a (cL b) (cL c))
 |out _ ih=>exact .out (ih λi j a b c=>m i j a (cL b) c)
 |inn _ ih=>exact .inn (ih λi j a b c=>m i j a b (cL c))
theorem aD.down(h:aD e x y X Y c):y<Y->∃c',c'<=c+1/\aD e x (y+1) X Y c':=by
 induction h with
 |nil=>exact λh=>absurd h (gP _)
 |keep a h _=>exact λ_=>⟨_,aC _,.out h⟩
 |out _ ih=>exact λk=>(ih k).elim λc' h=>⟨c'+1,cK h.1,.out h.2⟩
 |inn h _=>exact λ_=>⟨_,ai (eM _) (eM _),h⟩
theorem aD.right(h:aD e x y X Y c)(k:x<X):∃c',c'<=c+1/\aD e (x+1) y X Y c':=(h.flip.down k).imp λc' h=>⟨h.1,h.2.flip⟩
theorem aD.diag(h:aD e x y X Y c)(k:x<X)(l:y<Y):∃c',c'<=c/\aD e (x+1) (y+1) X Y c':=by
 cases h with
 |nil=>exact absurd k (gP _)
 |keep a h=>exact⟨c,aC _,h⟩
 |out h=>exact h.down l
 |inn h=>exact h.right k
theorem aD.diags:∀{m c:Nat},aD e x y X Y c->x+m<=X->y+m<=Y->∃c',c'<=c/\aD e (x+m) (y+m) X Y c'
 :=λ{m}=>@(ni (λ{c}h _ _=>⟨c,aC _,h⟩) (λm ih{c}h k l=>(ih h (cL k) (cL l)).elim λc' h=>(h.2.diag k l).imp λc'' h'=>⟨ai h'.1 h.1,h'.2⟩) m)
theorem uD{x x' X X' w:Nat}(p:x+x'=w)(r:X+X'=w)(l:x+1<=X):∃z,x'=z+1/\x+1+z=w:=⟨x'-1,by exact⟨bE [_,_] [] .v0 (.a .v1 .k1) [(1,.en (.a .v1 .k1) .v0)] rfl (aZ (au [_,_,_,_,_] [] (.ln .k1 .v0) 1 [(-1,.en (.a .v1 .v0) .v2),(1,.en (.a .v3 .v4) .v2),(1,.ln (.a .v1 .k1) .v3)] rfl p r l)),bE [_,_,_,_] [] (.a (.a .v0 .k1) .v1) .v2 [(-1,.en (.a .v0 .v3) .v2),(-1,.en (.a .v1 .k1) .v3)] rfl p (aZ (au [_,_,_,_,_] [] (.ln .k1 .v0) 1 [(-1,.en (.a .v1 .v0) .v2),(1,.en (.a .v3 .v4) .v2),(1,.ln (.a .v1 .k1) .v3)] rfl p r l))⟩⟩
theorem aD.back{w t:Nat}(m:∀i j i' j',i+i'+1=w->j+j'+1=t->e i j->e' i' j')(h:aD e x y X Y c):∀{x' y' X' Y'},x+x'=w->y+y'=t->X+X'=w->Y+Y'=t->aD e' X' Y' x' y' c:=by
 induction h with
 |nil=>intro x' y' X' Y' a b c d;cases uh (a.trans c.symm);cases uh (b.trans d.symm);exact .nil
 |keep a h ih=>
  intro x' y' X' Y' p q r s;obtain⟨x'',rfl,p'⟩:=uD p r h.le.1;obtain⟨y'',rfl,q'⟩:=uD q s h.le.2;have z:=(ih p' q' r s).append (.keep (m _ _ x'' y'' p q a) .nil);rw[aU]at z;exact z
 |@out x y X Y c h ih=>
  intro x' y' X' Y' p q r s;obtain⟨x'',rfl,p'⟩:=uD p r h.le.1;exact cb 1 c▸(ih p' q r s).append (.out .nil)
 |@inn x y X Y c h ih=>
  intro x' y' X' Y' p q r s;obtain⟨y'',rfl,q'⟩:=uD q s h.le.2;exact cb 1 c▸(ih p q' r s).append (.inn .nil)
theorem An{i i' w:Nat}(h:i+i'+1=w):w-1-i'=i:=by rw[<-h];exact BN i i'
theorem GB{i i' w:Nat}(h:i+i'+1=w):w-1-i=i':=An (cb i i'▸h)
theorem aD.diagsE{m p q:Nat}(h:aD e x y (x+p+m) (y+q+m) c):∃c',c'<=c/\aD e x y (x+p) (y+q) c':=by
 have z:=h.back (w:=x+p+m) (t:=y+q+m) (e':=λi j=>e (x+p+m-1-i) (y+q+m-1-j)) (λi j i' j' a b q=>by rw[An a,An b];exact q)
  (x':=p+m) (y':=q+m) (X':=0) (Y':=0) (cq x p m).symm (cq y q m).symm rfl rfl
 refine ar (z.diags (m:=m) (ai (dA (aU m)) (df m p)) (ai (dA (aU m)) (df m q))) λc' h1 h2=>?_;rw[aU]at h2;exact⟨c',h1,h2.back (w:=x+p+m) (t:=y+q+m) (λi j i' j' a b q=>by rw[GB a,GB b]at q;exact q) (cb ..) (cb ..) ((cb ..).trans (cq x p m).symm) ((cb ..).trans (cq y q m).symm)⟩
end
end
section
section
variable{e e':Nat->Nat->Prop}{x y X Y c d w t:Nat}
theorem aD.nokeep(b:∀i j,e i j->i<w)(h:aD e x y X Y c):w<=x->∃i j,X=x+i/\Y=y+j/\c=i+j:=by
 induction h with
 |nil=>exact λ_=>⟨0,0,rfl,rfl,rfl⟩
 |keep a _ _=>exact λl=>absurd (b _ _ a) (bc.2 l)
 |out _ ih=>exact λl=>(ih (fv l)).elim λi h=>h.elim λj h=>⟨i+1,j,h.1.trans (cH _ i),h.2.1,h.2.2▸(mA i j).symm⟩
 |inn _ ih=>exact λl=>(ih l).elim λi h=>h.elim λj h=>⟨i,j+1,h.1,h.2.1.trans (cH _ j),h.2.2▸rfl⟩
theorem aD.cut(b:∀i j,e i j->i<w)(h:aD e x y X Y c):∀{s},X=w+s->x<=w->∃c',c'+s<=c/\aD e x y w Y c':=by
 induction h with
 |@nil x y=>
  intro s h l;have z:s=0:=yg.1 (Jo (h▸l));subst z;exact⟨0,aC _,h▸.nil⟩
 |keep a _ ih=>exact λh l=>(ih h (b _ _ a)).imp λc' h=>⟨h.1,.keep a h.2⟩
 |@out x y X Y c k ih=>
  intro s h l;rcases jf l with q|q
  ·exact(ih h q).elim λc' h=>⟨c'+1,mA c' s▸cK h.1,.out h.2⟩
  ·refine cG (k.nokeep b (q▸eM _)) λi j h1 h2 h3=>?_;subst q;subst h2;subst h3;exact⟨j,by exact au [_,_,_,_,_] [] (.ln (.a .v0 .v1) (.a (.a .v2 .v0) .k1)) 1 [(1,.en .v3 (.a (.a .v4 .k1) .v2)),(-1,.en .v3 (.a .v4 .v1))] rfl h1 h,aD.inns x y j⟩
 |inn _ ih=>exact λh l=>(ih h l).elim λc' h=>⟨c'+1,mA c' _▸cK h.1,.inn h.2⟩
theorem aD.cutY(b:∀i j,e i j->j<t)(h:aD e x y X Y c){s}(k:Y=t+s)(l:y<=t):∃c',c'+s<=c/\aD e x y X t c':=
 (h.flip.cut (λi j=>b j i) k l).imp λc' h=>⟨h.1,h.2.flip⟩
theorem aD.split{a b:Nat}(h:aD e x y X Y c):c=a+b->∃i j,aD e x y i j a/\aD e i j X Y b:=by
 induction h generalizing a with
 |nil=>intro h;obtain⟨rfl,rfl⟩:=Ke.1 h.symm;exact⟨_,_,.nil,.nil⟩
 |keep q h ih=>exact λk=>(ih k).elim λi z=>z.elim λj z=>⟨i,j,.keep q z.1,z.2⟩
 |out h ih=>
  intro k
  match a,k with
  |0,k=>exact⟨_,_,.nil,(k.trans (aU b))▸.out h⟩
  |a+1,k=>exact(ih (iH (k.trans (mA a b)))).elim λi z=>z.elim λj z=>⟨i,j,.out z.1,z.2⟩
 |inn h ih=>
  intro k
  match a,k with
  |0,k=>exact⟨_,_,.nil,(k.trans (aU b))▸.inn h⟩
  |a+1,k=>exact(ih (iH (k.trans (mA a b)))).elim λi z=>z.elim λj z=>⟨i,j,.inn z.1,z.2⟩
theorem Sw{D x j u v d₁ d₂:Nat}(bw:∀i j,e i j->i<w)(bt:∀i j,e i j->j<t)(m:∀i j i' j',i+i'+1=w->j+j'+1=t->e' i' j'->e i j)(least:∀c,aD e 0 0 w t c->D<=c)(hD:d₁+d₂<=D)
  (h:aD e 0 0 x j d₁) (k:aD e' 0 0 u v d₂) (hw:w<=x+u) (ht:x+u+t=w+j+v):x<=w/\j<=t/\∃c,c<=d₂/\aD e x j w t c:=by
 refine kQ k.kept λz p q k1 k2 k3=>?_;by_cases hx:x<=w
 ·by_cases hj:j<=t
  ·refine⟨hx,hj,?_⟩;obtain⟨x',rfl⟩:=bS hx;obtain⟨j',rfl⟩:=bS hj;obtain⟨r,hr⟩:=bS (Jo hw);have hv:v=j'+r:=by exact bE [_,_,_,_,_,_,_] [] .v0 (.a .v1 .v2) [(1,.en (.a (.a .v3 .v4) (.a .v5 .v1)) (.a (.a (.a .v3 .v6) .v5) .v0)),(-1,.en .v4 (.a .v6 .v2))] rfl ht hr
   subst hr;subst hv;have k':aD e' 0 0 (0+x'+r) (0+j'+r) d₂:=by rw[aU,aU];exact k
   refine ar k'.diagsE λc c1 c2=>?_;rw[aU,aU]at c2;exact⟨c,c1,c2.back (λi j i' j' a b q=>m i' j' i j (cb i i'▸a) (cb j j'▸b) q) (aU _) (aU _) (cb ..) (cb ..)⟩
  ·obtain⟨r,rfl⟩:=bS (xY hj);obtain⟨c,c1,c2⟩:=h.cutY bt rfl (bJ _);have tq:=least _ (c2.append (aD.edits hx (aC t)));exfalso;exact fQ [_,_,_,_,_,_,_,_,_,_,_,_,_,_,_] [] [(1,.ln (.a .v0 .v1) .v2),(1,.en .v3 (.a (.a .k0 .v4) .v5)),(-1,.en .v6 (.a (.a .k0 .v4) .v7)),(-1,.en .v1 (.a .v5 .v7)),(-1,.en (.a (.a .v8 .v3) .v9) (.a (.a (.v 10) (.a .v9 (.v 11))) .v6)),(2,.tn .v9 (.a .v9 (.v 11))),(1,.ln (.a (.v 12) (.v 11)) .v0),(1,.ln .v2 (.a (.a (.v 13) (.v 14)) (.v 12))),(1,.en (.a (.v 13) .v9) .v9),(1,.en (.a (.v 14) .v8) (.v 10))] rfl hD k1 k2 k3 ht (gR.1 hj) c1 tq (aZ (au [_] [] (.ln .v0 .v0) 1 [] rfl)) (aZ hx)
 ·obtain⟨s,rfl⟩:=bS (xY hx);obtain⟨c,c1,c2⟩:=h.cut bw rfl (bJ _);by_cases hj:j<=t
  ·have tq:=least _ (c2.append (aD.edits (aC w) hj));exfalso;exact fQ [_,_,_,_,_,_,_,_,_,_,_,_,_,_,_] [] [(1,.ln (.a .v0 .v1) .v2),(-1,.en .v3 (.a (.a .k0 .v4) .v5)),(1,.en .v6 (.a (.a .k0 .v4) .v7)),(-1,.en .v1 (.a .v5 .v7)),(1,.en (.a (.a (.a .v8 .v9) .v3) (.v 10)) (.a (.a .v8 (.v 11)) .v6)),(2,.tn .v8 (.a .v8 .v9)),(1,.ln (.a (.v 12) .v9) .v0),(1,.ln .v2 (.a (.a (.v 13) (.v 14)) (.v 12))),(1,.en (.a (.v 13) (.v 11)) (.v 10)),(1,.en (.a (.v 14) .v8) .v8)] rfl hD k1 k2 k3 ht (gR.1 hx) c1 tq (aZ hj) (aZ (au [_] [] (.ln .v0 .v0) 1 [] rfl))
  ·obtain⟨r,rfl⟩:=bS (xY hj);obtain⟨c',c3,c4⟩:=c2.cutY bt rfl (bJ _);have tq:=least _ c4;exfalso;exact fQ [_,_,_,_,_,_,_,_,_] [] [(1,.ln (.a .v0 .v1) .v2),(1,.tn .v3 (.a .v3 .v4)),(1,.ln (.a .v5 .v4) .v0),(1,.tn .v6 (.a .v6 .v7)),(1,.ln (.a .v8 .v7) .v5),(1,.ln .v2 .v8)] rfl hD (gR.1 hx) c1 (gR.1 hj) c3 tq
theorem aD.last(h:aD e x y X Y c):(∃m,X=x+m/\Y=y+m/\c=0/\∀t,t<m->e (x+t) (y+t)) \/
  ∃x₁ y₁ x₂ y₂ m c',c=c'+1/\aD e x y x₁ y₁ c'/\((x₂=x₁+1/\y₂=y₁)\/(x₂=x₁/\y₂=y₁+1))/\X=x₂+m/\Y=y₂+m/\∀t,t<m->e (x₂+t) (y₂+t):=by
 have key:∀{x y x' y' X Y c},((x'=x+1/\y'=y)\/(x'=x/\y'=y+1))->(∀{X Y c},aD e x' y' X Y c->aD e x y X Y (c+1))->((∃m,X=x'+m/\Y=y'+m/\c=0/\∀t,t<m->e (x'+t) (y'+t)) \/
   ∃x₁ y₁ x₂ y₂ m c',c=c'+1/\aD e x' y' x₁ y₁ c'/\((x₂=x₁+1/\y₂=y₁)\/(x₂=x₁/\y₂=y₁+1))/\X=x₂+m/\Y=y₂+m/\∀t,t<m->e (x₂+t) (y₂+t)) ->
   ∃x₁ y₁ x₂ y₂ m c',c+1=c'+1/\aD e x y x₁ y₁ c'/\((x₂=x₁+1/\y₂=y₁)\/(x₂=x₁/\y₂=y₁+1))/\X=x₂+m/\Y=y₂+m/\∀t,t<m->e (x₂+t) (y₂+t):=by
  intro x y x' y' X Y c s f h;rcases h with⟨m,h1,h2,h3,h4⟩|⟨x₁,y₁,x₂,y₂,m,c',h1,h2,h3,h4⟩
  ·exact⟨x,y,x',y',m,0,congrArg (·+1) h3,.nil,s,h1,h2,h4⟩
  ·exact⟨x₁,y₁,x₂,y₂,m,c'+1,congrArg (·+1) h1,f h2,h3,h4⟩
 induction h with
 |nil=>exact .inl ⟨0,rfl,rfl,rfl,λt h=>absurd h (dM t)⟩
 |@keep x y X Y c a _ ih=>
  rcases ih with⟨m,h1,h2,h3,h4⟩|⟨x₁,y₁,x₂,y₂,m,c',h1,h2,h3⟩
  ·refine .inl ⟨m+1,h1.trans (cH x m),h2.trans (cH y m),h3,λt ht=>?_⟩
   match t,ht with
   |0,_=>exact a
   |t+1,ht=>exact cH x t▸cH y t▸h4 t (fe ht)
  ·exact .inr ⟨x₁,y₁,x₂,y₂,m,c',h1,.keep a h2,h3⟩
 |out _ ih=>exact .inr (key (.inl ⟨rfl,rfl⟩) (λh=>.out h) ih)
 |inn _ ih=>exact .inr (key (.inr ⟨rfl,rfl⟩) (λh=>.inn h) ih)
def Gd(e:Nat->Nat->Prop)(d:Nat)(k:Int)(o:Option Nat):Prop:=
 (∀x,o=some x->∃j:Nat,(x:Int)=j+k/\aD e 0 0 x j d)/\∀x j c:Nat,(x:Int)=j+k->aD e 0 0 x j c->c<=d->∃z,o=some z/\x<=z
theorem RM{f:Int->Option Nat}{k:Int}(h0:¬e 0 0)(hl:Gd e d (k-1) (f (k-1)))(hr:Gd e d (k+1) (f (k+1))){z:Nat}
  (z1:∀a,f (k-1)=some a->a+1<=z) (z2:∀a,f (k+1)=some a->a<=z) (z3:(∃a,f (k-1)=some a/\z=a+1)\/f (k+1)=some z) :
  ∃j:Nat,(z:Int)=j+k/\∀m,(∀t,t<m->e (z+t) (j+t))->¬e (z+m) (j+m)->Gd e (d+1) k (some (z+m)):=by
 have hz:∃j:Nat,(z:Int)=j+k/\aD e 0 0 z j (d+1):=by
  rcases z3 with⟨a,h1,h2⟩|h1
  ·refine ar (hl.1 a h1) λj h3 h4=>?_;exact⟨j,by exact bR [_,_,_] [_] .c0 (.a .c1 .v0) [(-1,.en .v0 (.a .v2 .k1)),(-1,.ei .c2 (.a .c1 (.s .v0 .k1)))] rfl h2 h3,cb 1 d▸h2▸h4.append (.out .nil)⟩
  ·refine ar (hr.1 z h1) λj h3 h4=>?_;exact⟨j+1,by exact bR [_,_] [_] .c0 (.a (.c (.a .v1 .k1)) .v0) [(-1,.ei .c0 (.a .c1 (.a .v0 .k1)))] rfl h3,cb 1 d▸h4.append (.inn .nil)⟩
 refine ar hz λj hj hw=>?_;refine⟨j,hj,λm hm hn=>⟨λx hx=>?_,λx y c hx h hc=>⟨_,rfl,?_⟩⟩⟩
 ·injection hx with hx;subst hx
  have K:∀m,(∀t,t<m->e (z+t) (j+t))->aD e z j (z+m) (j+m) 0:=by
   intro m;induction m with
   |zero=>exact λ_=>.nil
   |succ m ih=>exact λh=>(ih λt ht=>h t (eL ht)).append (.keep (h m (bu m)) .nil)
  exact⟨j+m,by exact bR [_,_,_] [_] (.c (.a .v0 .v1)) (.a (.c (.a .v2 .v1)) .v0) [(-1,.ei .c0 (.a .c2 .v0))] rfl hj,aU (d+1)▸hw.append (K m hm)⟩
 ·rcases h.last with⟨i,h1,h2,h3,h4⟩|⟨x₁,y₁,x₂,y₂,i,c',h1,h2,h3,h4,h5,h6⟩
  ·match i,h4 with
   |0,_=>exact h1▸bJ _
   |i+1,h4=>exact absurd (h4 0 (fh i)) h0
  ·have hx2:x₂<=z:=by
    rcases h3 with⟨h3,h3'⟩|⟨h3,h3'⟩
    ·refine ar (hl.2 x₁ y₁ c' (by exact bR [_,_,_,_,_,_,_] [_] .c0 (.a .c1 (.s .v0 .k1)) [(-1,.ei .c2 (.a .c3 .v0)),(1,.en .v2 (.a .v4 .v5)),(-1,.en .v3 (.a .v6 .v5)),(1,.en .v4 (.a .v0 .k1)),(-1,.en .v6 .v1)] rfl hx h4 h5 h3 h3') h2 (by exact au [_,_,_] [] (.ln .v0 .v1) 1 [(1,.ln .v2 (.a .v1 .k1)),(-1,.en .v2 (.a .v0 .k1))] rfl hc h1)) λa a1 a2=>?_;exact h3▸ai (cK a2) (z1 a a1)
    ·refine ar (hr.2 x₁ y₁ c' (by exact bR [_,_,_,_,_,_,_] [_] .c0 (.a .c1 (.a .v0 .k1)) [(-1,.ei .c2 (.a .c3 .v0)),(1,.en .v2 (.a .v4 .v5)),(-1,.en .v3 (.a .v6 .v5)),(1,.en .v4 .v0),(-1,.en .v6 (.a .v1 .k1))] rfl hx h4 h5 h3 h3') h2 (by exact au [_,_,_] [] (.ln .v0 .v1) 1 [(1,.ln .v2 (.a .v1 .k1)),(-1,.en .v2 (.a .v0 .k1))] rfl hc h1)) λa a1 a2=>?_;exact h3▸ai a2 (z2 a a1)
   refine xZ λlt=>hn ?_;have:=h6 (z+m-x₂) (by exact au [_,_,_,_,_,_] [] (.tn .v0 .v1) 1 [(1,.en .v2 (.a .v3 .v1)),(1,.tn (.a .v4 .v5) .v2),(1,.en (.a .v0 .v3) (.a .v4 .v5))] rfl h4 lt (aZ (au [_,_,_] [] (.ln .v0 (.a .v1 .v2)) 1 [(1,.ln .v0 .v1)] rfl hx2)));rw[show x₂+(z+m-x₂)=z+m by exact bE [_,_,_,_] [] (.a .v0 .v1) (.a .v2 .v3) [(-1,.en (.a .v1 .v0) (.a .v2 .v3))] rfl (aZ (au [_,_,_] [] (.ln .v0 (.a .v1 .v2)) 1 [(1,.ln .v0 .v1)] rfl hx2)),show y₂+(z+m-x₂)=j+m by exact bE [_,_,_,_,_,_,_,_,_] [_] (.a .v0 .v1) (.a .v2 .v3) [(-1,.ei .c4 (.a .c2 .v0)),(1,.ei .c5 (.a .c6 .v0)),(-1,.en .v5 (.a .v7 .v8)),(1,.en .v6 (.a .v0 .v8)),(-1,.en (.a .v1 .v7) (.a .v4 .v3))] rfl hj hx h4 h5 (aZ (au [_,_,_] [] (.ln .v0 (.a .v1 .v2)) 1 [(1,.ln .v0 .v1)] rfl hx2))]at this;exact this
end
end
section
section
variable{ι S Jaa:Type}{C:ι->ax}{b:List Internal.S}{t:T}
theorem HU(l:List V)(is:ι->IS)(R:ι->S->Jaa->aj)(T:ι->S->ae)(I:Nat->S->Prop)(P:V->Prop)(U:ι->ae)(hn:∀i s k,fo (T i s) (is i) k=some l[k]?)
  (step:∀k v s,l[k]?=some v->I k s ->
   (∃s',I (k+1) s'/\∀i j,aK (d8 t v (R i s j)) λJ'=>∀Q:QO,(∀j' Z,Sub (T i s') Z->Q .next (R i s' j') Z)->az (C i) b J' (T i s) Q) \/
   ∃r,P r/\∀i j,aK (d8 t v (R i s j)) λJ'=>∀Q:QO,(∀J' Z,Sub (U i) Z->Q (.ret r) J' Z)->az (C i) b J' (T i s) Q) :
  ∀s,I 0 s->(∃s',I l.length s'/\∀i j(Q:QO),(∀j',Q .next (R i s' j') (T i s'))->∃n,bZ (is i) t (λJ Z Q=>az (C i) b J Z Q) Q n 0 (R i s j) (T i s)) \/
   ∃r,P r/\∀i j(Q:QO),(∀J' Z,Sub (U i) Z->Q (.ret r) J' Z)->∃n,bZ (is i) t (λJ Z Q=>az (C i) b J Z Q) Q n 0 (R i s j) (T i s):=λs h=>by
 rcases Wd (C:=C) (b:=b) (t:=t) l is (λi _ s J Z=>∃j,J=R i s j/\Z=T i s) I (λi _ Z=>Sub (U i) Z) P (λi k s J Z z=>ar z λj _ k2=>k2▸hn i s k) (λk v s hv h=>by
  rcases step k v s hv h with⟨s',h1,h2⟩|⟨r,h1,h2⟩
  ·exact .inl ⟨s',h1,λi J Z z=>ar z λj k1 k2=>k1▸k2▸a0 (h2 i j) λJ' w Q q=>w Q λj' Z u=>q _ _ _ u ⟨j',rfl,rfl⟩⟩
  ·exact .inr ⟨r,h1,λi J Z z=>ar z λj k1 k2=>k1▸k2▸h2 i j⟩) s h with⟨s',h1,h2⟩|⟨r,h1,h2⟩
 ·exact .inl ⟨s',h1,λi j Q q=>h2 i _ _ ⟨j,rfl,rfl⟩ Q λJ' Z' z=>ar z λj k1 k2=>k1▸k2▸q j⟩
 ·exact .inr ⟨r,h1,λi j Q q=>h2 i _ _ ⟨j,rfl,rfl⟩ Q q⟩
theorem Iw(l:List V)(R:ι->S->Jaa->aj)(T:ι->S->ae)(I:Nat->S->Prop)(P:V->Prop)(U:ι->ae)
  (step:∀k v s,l[k]?=some v->I k s ->
   (∃s',I (k+1) s'/\∀i j,aK (d8 t v (R i s j)) λJ'=>∀Q:QO,(∀j' Z,Sub (T i s') Z->Q .next (R i s' j') Z)->az (C i) b J' (T i s) Q) \/
   ∃r,P r/\∀i j,aK (d8 t v (R i s j)) λJ'=>∀Q:QO,(∀J' Z,Sub (U i) Z->Q (.ret r) J' Z)->az (C i) b J' (T i s) Q) :
  ∀s,I 0 s->(∃s',I l.length s'/\∀i j(Q:QO),(∀j',Q .next (R i s' j') (T i s'))->∃n,bZ (.vals l) t (λJ Z Q=>az (C i) b J Z Q) Q n 0 (R i s j) (T i s)) \/
   ∃r,P r/\∀i j(Q:QO),(∀J' Z,Sub (U i) Z->Q (.ret r) J' Z)->∃n,bZ (.vals l) t (λJ Z Q=>az (C i) b J Z Q) Q n 0 (R i s j) (T i s):=
 HU (C:=C) l (λ_=>.vals l) R T I P U (λ_ _ _=>rfl) step
theorem Ab(l:List V)(is:ι->IS)(R:ι->S->Jaa->aj)(T:ι->S->ae)(I:Nat->S->Prop)(hn:∀i s k,fo (T i s) (is i) k=some l[k]?)
  (step:∀k v s,l[k]?=some v->I k s->∃s',I (k+1) s'/\∀i j,aK (d8 t v (R i s j)) λJ'=>∀Q:QO,(∀j' Z,Sub (T i s') Z->Q .next (R i s' j') Z)->az (C i) b J' (T i s) Q) :
  ∀s,I 0 s->∃s',I l.length s'/\∀i j(Q:QO),(∀j',Q .next (R i s' j') (T i s'))->∃n,bZ (is i) t (λJ Z Q=>az (C i) b J Z Q) Q n 0 (R i s j) (T i s):=λs h=>
 (HU (C:=C) l is R T I (λ_=>False) (λ_ _=>none) hn (λk v s a b=>.inl (step k v s a b)) s h).elim id λh=>h.elim λ_ h=>h.1.elim
theorem s7(l:List V)(R:ι->S->Jaa->aj)(T:ι->S->ae)(I:Nat->S->Prop)
  (step:∀k v s,l[k]?=some v->I k s->∃s',I (k+1) s'/\∀i j,aK (d8 t v (R i s j)) λJ'=>∀Q:QO,(∀j' Z,Sub (T i s') Z->Q .next (R i s' j') Z)->az (C i) b J' (T i s) Q) :
  ∀s,I 0 s->∃s',I l.length s'/\∀i j(Q:QO),(∀j',Q .next (R i s' j') (T i s'))->∃n,bZ (.vals l) t (λJ Z Q=>az (C i) b J Z Q) Q n 0 (R i s j) (T i s):=
 Ab (C:=C) l (λ_=>.vals l) R T I (λ_ _ _=>rfl) step
end
noncomputable abbrev dP(m:Nat)(f:Int->Option Nat):M:=.dI m λk=>(f k).map nI
noncomputable def put(f:Int->Option Nat)(k:Int)(z:Nat):Int->Option Nat:=λj=>if j=k then some z else f j
section
variable{Z:ae}{r m:Nat}{f:Int->Option Nat}{k:Int}{z:Nat}
theorem yJ(h:Z r=some (dP m f)):dD Z r (.int k)=some ((f k).map nI):=by unfold dD;rw[h];rfl
theorem sF(h:Z r=some (dP m f))(e:f k=some z):eP Z (.ref r) (.int k)=some (nI z):=by
 have a:cc Z r=none:=by unfold cc;rw[h];rfl
 show(match cc Z r with|some l=>_|none=>(dD Z r (.int k)).bind λo=>o) = _;rw[a,yJ h,e];rfl
theorem US{Q:ae->Prop}(h:Z r=some (dP m f))(hm:m<aJ)(q:Q (ak Z r (dP (m+1) (put f k z)))):jw Z (.ref r) (.int k) (nI z) Q:=by
 refine ao (a:=r) rfl (ao h (ao (a:=k) rfl ⟨hm,?_⟩));have e:(λj=>((put f k z) j).map nI)=λj=>if j=k then some (nI z) else(f j).map nI:=funext λj=>by
  unfold put;by_cases c:j=k
  ·rw[if_pos c,if_pos c];rfl
  ·rw[if_neg c,if_neg c]
 exact e▸q
theorem TS{C:ax}{J:aj}{a b:E}(h:Z r=some (dP m f))(ha:Ev C a J Z (.int k))(hb:Ev C b J Z (.ref r)):aI C (.m .isin a b) J Z (f k≠none):=
 ⟨(f k).isSome,Option.isSome_iff_ne_none,di ha hb (show(dD Z r (.int k)).map _ = _ by rw[yJ h];cases f k<;>rfl)⟩
theorem Dx{C:ax}{J:aj}{a b:E}(h:Z r=some (dP m f))(ha:Ev C a J Z (.int k))(hb:Ev C b J Z (.ref r)):aI C (.m .notin a b) J Z (f k=none):=
 ⟨!(f k).isSome,by cases f k<;>simp,di ha hb (show rP _ ((dD Z r (.int k)).map _) = _ by rw[yJ h];cases f k<;>rfl)⟩
end
theorem bN{n f:Nat}{vs:List V}{Z:ae}{Q:QV}{J:aj}(e:HP (pF f) vs=some J)(h:az (Ph pF n) (pF f).body J Z λo _ Z'=>∃v' Z'',Wk (jb o) Z' v' Z''/\Q v' Z''):Ph pF (n+1) f vs Z Q:=ao e h
theorem aO{C:ax}{s:S}{r:List S}{J:aj}{Z:ae}{Q:QO}(h:WS C s J Z λo J Z=>match o with
  |.next=>az C r J Z Q
  |.ret v=>Q (.ret v) J Z):az C (s::r) J Z Q:=h
theorem L8{f:Int->Option Nat}{k:Int}(h:f (k-1)≠none\/f (k+1)≠none) :
  ∃z:Nat,(∀a,f (k-1)=some a->a+1<=z)/\(∀a,f (k+1)=some a->a<=z)/\((∃a,f (k-1)=some a/\z=a+1)\/f (k+1)=some z) /\
   ∀n Z r m(Q:QV),Z r=some (dP m f)->Q (nI z) Z->Ph pF (n+1) 1 [.ref r,.int k] Z Q:=by
 have t1:∀n Z r m,Z r=some (dP m f)->aI (Ph pF n) (.m .notin (.b .sub (.x 1) (.c (.int 1))) (.x 0)) [some (.ref r),some (.int k)] Z (f (k-1)=none):=λn Z r m hd=>Dx hd (fN (aa rfl) Ev.cn rfl) (aa rfl);have t2:∀n Z r m,Z r=some (dP m f)->aI (Ph pF n) (.m .notin (.b .add (.x 1) (.c (.int 1))) (.x 0)) [some (.ref r),some (.int k)] Z (f (k+1)=none):=λn Z r m hd=>Dx hd (fN (aa rfl) Ev.cn rfl) (aa rfl);cases e1:f (k-1) with
 |none=>
  cases e2:f (k+1) with
  |none=>exact(h.elim (λh=>h e1) λh=>h e2).elim
  |some b=>
   refine⟨b,λ_ h=>(nn h),λa h=>by(injection h with h;subst h);exact aC _,.inr rfl,λn Z r m Q hd q=>bN rfl (aO (dF (t1 n Z r m hd) e1 ?_))⟩;exact ao (sF hd e2) (bX q)
 |some a=>
  have n1:f (k-1)≠none:=λz=>by rw[e1]at z;cases z
  cases e2:f (k+1) with
  |none=>
   refine⟨a+1,λ_ h=>by(injection h with h;subst h);exact aC _,λ_ h=>(nn h),.inl ⟨a,rfl,rfl⟩,λn Z r m Q hd q=>bN rfl (aO (bH (t1 n Z r m hd) n1 (aO (dF (t2 n Z r m hd) e2 ?_))))⟩;exact ao (sF hd e1) (bX q)
  |some b=>
   have n2:f (k+1)≠none:=λz=>by rw[e2]at z;cases z
   have w:∃z:Nat,a+1<=z/\b<=z/\(z=a+1\/b=z)/\(if ((a+1:Nat):Int)<b then(b:Int) else((a+1:Nat):Int))=z:=by
    by_cases c:a+1<b
    ·exact⟨b,cu c,aC _,.inr rfl,if_pos (dN.2 c)⟩
    ·exact⟨a+1,aC _,xZ c,.inl rfl,if_neg λh=>c (dN.1 h)⟩
   refine oZ w λz w1 w2 w3 w4=>?_;refine⟨z,λ_ h=>by(injection h with h;subst h);exact w1,λ_ h=>by(injection h with h;subst h);exact w2,w3.imp (λh=>⟨a,rfl,h⟩) (congrArg some),λn Z r m Q hd q=>bN rfl (aO (bH (t1 n Z r m hd) n1 (aO (bH (t2 n Z r m hd) n2 ?_))))⟩;exact ao (sF hd e1) (ao (sF hd e2) (bX (show Q (.int (if ((a+1:Nat):Int)<b then(b:Int) else((a+1:Nat):Int))) Z from w4.symm▸q)))
end
section
structure LR(A B:List Int)(g:Int->Option Nat)where
 n:Nat
 U:ae
 s:Sh
 hA:s.A=A
 hB:s.B=B
 on:jX s U
 p:V
 pa:Nat
 pb:Nat
 nb:Nat
 hb:U pb=some (dP nb g)
 ne:pb≠pa
 nd:s.d≠pa
 hp:U pa=none
section
variable{C:ax}{J:aj}{Z:ae}{a b:E}{i j r:Int}
theorem cv(h:Ev C a J Z (.int i))(k:Ev C b J Z (.int j))(e:i-j=r):Ev C (.b .sub a b) J Z (.int r):=fN h k (congrArg (λz=>some (V.int z)) e)
theorem bh(h:Ev C a J Z (.int i))(k:Ev C b J Z (.int j))(e:i+j=r):Ev C (.b .add a b) J Z (.int r):=fN h k (congrArg (λz=>some (V.int z)) e)
end
section
variable{A B:List Int}{g:Int->Option Nat}
noncomputable abbrev LR.C(i:LR A B g):ax:=Ph pF (i.n+1)
noncomputable abbrev LR.T(i:LR A B g)(f:Int->Option Nat)(m:Nat):ae:=ak i.U i.pa (dP m f)
noncomputable abbrev LR.R(i:LR A B g)(fw:Bool)(x w y t m:Nat)(l a:Option V):aj:=
 [some (.inst 2 i.s.d),some i.p,some (nI x),some (nI (x+w)),some (nI y),some (nI (y+t)),some (nI w),some (nI t),some (.int ((w:Int)-t)),some (.ref (bif fw then i.pa else i.pb)),some (.ref (bif fw then i.pb else i.pa)),some (nI m),l,a]
abbrev bx(w t:Nat)(E:Nat->Nat->Prop):Nat->Nat->Prop:=λi j=>i<w/\j<t/\E i j
noncomputable abbrev Am(c3:E):S:=.whl (.o true [.m .lt (.x 13) (.x 6),.m .lt (.b .sub (.x 13) (.x 12)) (.x 7),c3]) [.aug (.v 13) .add (.c (.int 1))]
variable{fw:Bool}{x w y t:Nat}{E3:Nat->Nat->Prop}{c3:E}{k:Int}
theorem R0{z j:Nat}(h:(z:Int)=j+k):(z:Int)-k=j:=by rw[h];exact xM _ _
theorem zI{z j:Nat}(h:(z:Int)=j+k)(m:Nat):((z+m:Nat):Int)=((j+m:Nat):Int)+k:=by exact bR [_,_,_] [_] (.c (.a .v0 .v1)) (.a (.c (.a .v2 .v1)) .v0) [(-1,.ei .c0 (.a .c2 .v0))] rfl h
theorem VP{z j:Nat}(hz:(z:Int)=j+k)(mm:Nat)(f:Int->Option Nat)(na:Nat)
  (hc:∀(i:LR A B g)(z j:Nat),(z:Int)=j+k->z<w->j<t->aI i.C c3 (i.R fw x w y t mm (some (.int k)) (some (nI z))) (i.T f na) (E3 z j)) :
  ∃m,(∀q,q<m->bx w t E3 (z+q) (j+q))/\¬bx w t E3 (z+m) (j+m)/\∀(i:LR A B g)(u:Unit)(Q:QO),(∀u:Unit,Q .next (i.R fw x w y t mm (some (.int k)) (some (nI (z+m)))) (i.T f na)) ->
   WS i.C (Am c3) (i.R fw x w y t mm (some (.int k)) (some (nI (z+0)))) (i.T f na) Q:=
 fi (C:=LR.C) (λ(i:LR A B g)(m:Nat)(_:Unit)=>i.R fw x w y t mm (some (.int k)) (some (nI (z+m)))) (λi _=>i.T f na) (λm=>∀q,q<m->bx w t E3 (z+q) (j+q)) (λm=>w-(z+m)) (λm=>bx w t E3 (z+m) (j+m))
  (λm hm i _=>nT (eY (aa rfl) (aa rfl)) (λ_=>eY (cv (aa rfl) (aa rfl) (R0 (zI hz m))) (aa rfl)) λa b=>hc i _ _ (zI hz m) a b)
  (λm hm ht=>⟨m+1,λq hq=>(j9.1 hq).elim (hm q) λe=>e▸ht,kc ht.1 (bu _),λi _ Q q=>by exact q () _ (Sub.refl' _)⟩)
  0 λq h=>absurd h (dM q)
theorem NZ{d:Nat}{f:Int->Option Nat}(mm na:Nat)(rv:Nat)(rest:List S)(hr:∀(i:LR A B g) l a,rd (i.R fw x w y t mm l a) rv=some (.ref i.pa))
  (hc:∀f na(i:LR A B g)(z j:Nat),(z:Int)=j+k->z<w->j<t->aI i.C c3 (i.R fw x w y t mm (some (.int k)) (some (nI z))) (i.T f na) (E3 z j))
  (h0:¬bx w t E3 0 0) (hl:Gd (bx w t E3) d (k-1) (f (k-1))) (hr':Gd (bx w t E3) d (k+1) (f (k+1))) (hk:f (k-1)≠none\/f (k+1)≠none) (hna:na<aJ) :
  ∃z j:Nat,(z:Int)=j+k/\Gd (bx w t E3) (d+1) k (some z)/\∀(i:LR A B g)a(Q:QO),az i.C rest (i.R fw x w y t mm (some (.int k)) (some (nI z))) (i.T (put f k z) (na+1)) Q ->
   az i.C (.s (.v 13) (.call 1 [.x rv,.x 12])::Am c3::.s (.i (.x rv) (.x 12)) (.x 13)::rest) (i.R fw x w y t mm (some (.int k)) a) (i.T f na) Q:=by
 refine oZ (L8 hk) λz z1 z2 z3 z4=>?_;refine ar (RM h0 hl hr' z1 z2 z3) λj hj hg=>?_;refine cm (VP hj mm f na (hc f na)) λm m1 m2 m3=>?_;refine⟨z+m,j+m,zI hj m,hg m m1 m2,λi a Q q=>ao (hr i _ _) (z4 i.n _ _ _ _ (aP ..) (m3 i () _ λ_=>?_))⟩;refine ao (hr i _ _) (US (aP ..) hna ?_);rw[dX];exact q
end
end
section
section
variable{e:Nat->Nat->Prop}{d:Nat}{k:Int}
structure Rd(e:Nat->Nat->Prop)(d:Nat)(f:Int->Option Nat):Prop where
 g:∀k:Int,(k+d)%2=0->Gd e d k (f k)
 dom:∀(k:Int)z,f k=some z->-(d:Int)<=k/\k<=d
theorem aD.lane{x j c:Nat}(h:aD e 0 0 x j c)(q:(x:Int)=j+k):-(c:Int)<=k/\k<=c:=by
 refine kQ h.kept λz a b h1 h2 h3=>?_;exact⟨au [_,_,_,_,_,_] [_] (.li (.o .c0) .v0) 1 [(1,.ei .c1 (.a .c2 .v0)),(-1,.en .v1 (.a (.a .k0 .v3) .v4)),(1,.en .v2 (.a (.a .k0 .v3) .v5)),(-1,.en .v0 (.a .v4 .v5))] rfl q h1 h2 h3,au [_,_,_,_,_,_] [_] (.li .v0 .c0) 1 [(-1,.ei .c1 (.a .c2 .v0)),(1,.en .v1 (.a (.a .k0 .v3) .v4)),(-1,.en .v2 (.a (.a .k0 .v3) .v5)),(-1,.en .v0 (.a .v4 .v5))] rfl q h1 h2 h3⟩
theorem Wq{d q:Nat}{k:Int}(h:-((d:Int)+1)+(q:Int)*2=k):(k-1+d)%2=0/\(k+1+d)%2=0:=⟨(congrArg (·%2) (bR [_,_] [_] (.a (.s .v0 .k1) .c0) (.r (.s .c1 .k1) 2) [(1,.ei (.a (.o (.a .c0 .k1)) (.r .c1 2)) .v0)] rfl h)).trans (BU ..),
 (congrArg (·%2) (bR [_,_] [_] (.a (.a .v0 .k1) .c0) (.r .c1 2) [(1,.ei (.a (.o (.a .c0 .k1)) (.r .c1 2)) .v0)] rfl h)).trans (BU ..)⟩
theorem Ur{a d:Int}(h:(a-1+d)%2=0)(g:(a+d)%2=0):False:=absurd (yf (o9 g) (o9 h)) (by rw[show a+d-(a-1+d)=1 from bR [] [_,_] (.s (.a .v0 .v1) (.a (.s .v0 .k1) .v1)) .k1 [] rfl];decide)
theorem zH{d:Nat}{k:Int}(hk:(k+(d+1))%2=0)(h1:-((d:Int)+1)<=k)(h2:k<=d+1):∃i:Nat,i<d+2/\-((d:Int)+1)+(i:Int)*2=k:=(o9 hk).elim λm hm=>
 (pd (show 0<=m from au [_] [_,_] (.li .k0 .v1) 2 [(1,.ei (.a .v0 (.a .c0 .k1)) (.m 2 .v1)),(1,.li (.o (.a .c0 .k1)) .v0)] rfl hm h1)).elim λi e=>by
  rw[e]at hm;exact⟨i,au [_,_] [_] (.tn .v1 (.a .v0 (.k 2))) 2 [(-1,.ei (.a .v0 (.a .c0 .k1)) (.m 2 .c1)),(1,.li .v0 (.a .c0 .k1))] rfl hm h2,bR [_,_] [_] (.a (.o (.a .c0 .k1)) (.r .c1 2)) .v0 [(1,.ei (.a .v0 (.a .c0 .k1)) (.m 2 .c1))] rfl hm⟩
theorem Ts{f:Int->Option Nat}(hl:Gd e d (k-1) (f (k-1)))(hr:Gd e d (k+1) (f (k+1)))(h1:-((d:Int)+1)<=k)(h2:k<=d+1)(hp:(k-1+d)%2=0):f (k-1)≠none\/f (k+1)≠none:=by
 rcases Int.lt_trichotomy k 0 with h|h|h
 ·refine bA (pd (show 0<=-(k+1) from Int.neg_nonneg_of_nonpos h)) λn en=>?_;refine ar (hr.2 0 n n (bR [_] [_] (.c .k0) (.a .c0 (.a .v0 .k1)) [(-1,.ei (.o (.a .v0 .k1)) .c0)] rfl en) (by have w:=aD.inns (e:=e) 0 0 n;rw[aU]at w;exact w) (au [_,_] [_] (.ln .v0 .v1) 1 [(-1,.ei (.o (.a .v0 .k1)) .c0),(1,.li (.o (.a .c1 .k1)) .v0)] rfl en h1)) λz h3 _=>?_;exact .inr (by rw[h3];exact λe=>nomatch e)
 ·refine ar (hr.2 1 0 1 (by exact bR [] [_] (.c .k1) (.a (.c .k0) (.a .v0 .k1)) [(1,.ei .v0 .k0)] rfl h) (.out .nil) (pv λz=>by rw[h,z]at hp;exact absurd hp (by decide))) λz h3 _=>?_;exact .inr (by rw[h3];exact λe=>nomatch e)
 ·refine bA (pd (show 0<=k-1 from rg h)) λn en=>?_;refine ar (hl.2 n 0 n (bR [_] [_] .c0 (.a (.c .k0) (.s .v0 .k1)) [(1,.ei (.s .v0 .k1) .c0)] rfl en) (by have w:=aD.all (e:=e) 0 0 0 n;rw[aU,aU]at w;exact w) (au [_,_] [_] (.ln .v0 .v1) 1 [(-1,.ei (.s .v0 .k1) .c0),(1,.li .v0 (.a .c1 .k1))] rfl en h2)) λz h3 _=>?_;exact .inl (by rw[h3];exact λe=>nomatch e)
end
section
variable{A B:List Int}{g:Int->Option Nat}{fw:Bool}{x w y t:Nat}{E3:Nat->Nat->Prop}{c3 ret:E}{par:Int}
def lZ(w t:Nat)(g:Int->Option Nat)(par k:Int)(z:Nat):Prop:=((w:Int)-t)%2=par/\g (w-t-k)≠none/\∃u,g (w-t-k)=some u/\w<=z+u
noncomputable abbrev AU(par:Int)(ov:Nat):E:=.o true [.m .eq (.b .mod (.x 8) (.c (.int 2))) (.c (.int par)),.m .isin (.b .sub (.x 8) (.x 12)) (.x ov),.m .ge (.b .add (.x 13) (.i (.x ov) (.b .sub (.x 8) (.x 12)))) (.x 6)]
noncomputable abbrev jW(rv ov:Nat)(c3:E)(par:Int)(ret:E):List S:=[.s (.v 13) (.call 1 [.x rv,.x 12]),Am c3,.s (.i (.x rv) (.x 12)) (.x 13),.ite (AU par ov) [.ret ret] []]
theorem Hj(mm ov:Nat)(ho:∀(i:LR A B g) l a,rd (i.R fw x w y t mm l a) ov=some (.ref i.pb))(k:Int)(z:Nat)(i:LR A B g)(f:Int->Option Nat)(na:Nat) :
  aI i.C (AU par ov) (i.R fw x w y t mm (some (.int k)) (some (nI z))) (i.T f na) (lZ w t g par k z):=by
 have hb:i.T f na i.pb=some (dP i.nb g):=(aA i.ne).trans i.hb;refine nT (kB (fN (aa rfl) Ev.cn rfl) Ev.cn) (λ_=>TS hb (cv (aa rfl) (aa rfl) rfl) (aa (ho i _ _))) λ_ h=>?_;cases e:g (w-t-k) with
 |none=>exact absurd e h
 |some u=>exact ir (qs (bh (aa rfl) (bW (aa (ho i _ _)) (cv (aa rfl) (aa rfl) rfl) (sF hb e)) rfl) (aa rfl)) ⟨λh=>⟨u,rfl,gy.1 h⟩,λh=>ar h λv h1 h2=>gy.2 (dy h1▸h2)⟩
structure LI(E3:Nat->Nat->Prop)(par:Int)(g:Int->Option Nat)(w t d na q:Nat)(s:(Int->Option Nat)×Nat):Prop where
 n:s.2<=na+q
 old:∀k:Int,(k+d)%2=0->Gd (bx w t E3) d k (s.1 k)
 new:∀i:Nat,i<q->Gd (bx w t E3) (d+1) (-((d:Int)+1)+i*2) (s.1 (-((d:Int)+1)+i*2))/\∀z,s.1 (-((d:Int)+1)+i*2)=some z->¬lZ w t g par (-((d:Int)+1)+i*2) z
 dom:∀(k:Int)z,s.1 k=some z->-((d:Int)+1)<=k/\k<=d+1
theorem qv{lo step:Int}{n q:Nat}{v:V}(h:(cA lo step n)[q]?=some v):q<n/\v=.int (lo+q*step):=by
 rw[zV]at h;by_cases c:q<n
 ·rw[if_pos c]at h;exact⟨c,(dy h).symm⟩
 ·rw[if_neg c]at h;exact nn h
theorem Qi(x s:Int)(k:Nat):(cA x s k).length=k:=by
 induction k generalizing x with
 |zero=>rfl
 |succ k ih=>exact congrArg (·+1) (ih _)
theorem H8{d:Nat}{f:Int->Option Nat}(mm na rv ov:Nat)(rvl:Nat->Nat->V)(hr:∀(i:LR A B g) l a,rd (i.R fw x w y t mm l a) rv=some (.ref i.pa))(ho:∀(i:LR A B g) l a,rd (i.R fw x w y t mm l a) ov=some (.ref i.pb))
  (hc:∀(k:Int)f na(i:LR A B g)(z j:Nat),(z:Int)=j+k->z<w->j<t->aI i.C c3 (i.R fw x w y t mm (some (.int k)) (some (nI z))) (i.T f na) (E3 z j))
  (hret:∀(k:Int)f na(i:LR A B g)(z j:Nat),(z:Int)=j+k->Ev i.C ret (i.R fw x w y t mm (some (.int k)) (some (nI z))) (i.T f na) (rvl z j))
  (h0:¬bx w t E3 0 0) (H:Rd (bx w t E3) d f) (hna:na+d+2<=aJ) :
  (∃s:(Int->Option Nat)×Nat,(s.2<=na+(d+2)/\Rd (bx w t E3) (d+1) s.1/\∀(k:Int)z,(k+(d+1))%2=0->s.1 k=some z->¬lZ w t g par k z)/\∀(i:LR A B g)(j:Option V×Option V)(Q:QO),(∀j:Option V×Option V,Q .next (i.R fw x w y t mm j.1 j.2) (i.T s.1 s.2)) ->
    ∃n,bZ (.vals (cA (-((d:Int)+1)) 2 (d+2))) (.v 12) (λJ Z Q=>az i.C (jW rv ov c3 par ret) J Z Q) Q n 0 (i.R fw x w y t mm j.1 j.2) (i.T f na)) \/
  ∃r,(∃(z j:Nat)(k:Int),r=rvl z j/\(z:Int)=j+k/\Gd (bx w t E3) (d+1) k (some z)/\lZ w t g par k z)/\∀(i:LR A B g)(j:Option V×Option V)(Q:QO),(∀J' Z,Sub i.U Z->Q (.ret r) J' Z) ->
    ∃n,bZ (.vals (cA (-((d:Int)+1)) 2 (d+2))) (.v 12) (λJ Z Q=>az i.C (jW rv ov c3 par ret) J Z Q) Q n 0 (i.R fw x w y t mm j.1 j.2) (i.T f na):=by
 have key:∀(q:Nat)(v:V)(s:(Int->Option Nat)×Nat),(cA (-((d:Int)+1)) 2 (d+2))[q]?=some v->LI E3 par g w t d na q s ->
   (∃s',LI E3 par g w t d na (q+1) s'/\∀(i:LR A B g)(j:Option V×Option V),aK (d8 (.v 12) v (i.R fw x w y t mm j.1 j.2)) λJ'=>∀Q:QO,(∀(j':Option V×Option V)Z,Sub (i.T s'.1 s'.2) Z->Q .next (i.R fw x w y t mm j'.1 j'.2) Z)->az i.C (jW rv ov c3 par ret) J' (i.T s.1 s.2) Q) \/
   ∃r,(∃(z j:Nat)(k:Int),r=rvl z j/\(z:Int)=j+k/\Gd (bx w t E3) (d+1) k (some z)/\lZ w t g par k z)/\∀(i:LR A B g)(j:Option V×Option V),aK (d8 (.v 12) v (i.R fw x w y t mm j.1 j.2)) λJ'=>∀Q:QO,(∀J' Z,Sub i.U Z->Q (.ret r) J' Z)->az i.C (jW rv ov c3 par ret) J' (i.T s.1 s.2) Q:=by
  intro q v s hv hI;obtain⟨hq,rfl⟩:=qv hv;generalize hk:-((d:Int)+1)+(q:Int)*2=k
  have pr:=Wq hk;have hl:=hI.old (k-1) pr.1;have hr':=hI.old (k+1) pr.2;obtain⟨z,j,hz,hg,run⟩:=NZ (A:=A) (B:=B) (g:=g) (x:=x) (y:=y) mm s.2 rv [.ite (AU par ov) [.ret ret] []] (d:=d) (k:=k) (f:=s.1) hr (hc k) h0 hl hr' (Ts hl hr' (by exact au [_,_] [_] (.li (.o (.a .c0 .k1)) .v0) 1 [(1,.ei (.a (.o (.a .c0 .k1)) (.r .c1 2)) .v0)] rfl hk) (by exact au [_,_] [_] (.li .v0 (.a .c0 .k1)) 1 [(2,.tn .v1 (.a .v0 (.k 2))),(-1,.ei (.a (.o (.a .c0 .k1)) (.r .c1 2)) .v0)] rfl hq hk) pr.1) (aQ (bC hI.n (eE hq na)) hna);by_cases hh:lZ w t g par k z
  ·refine .inr ⟨rvl z j,⟨z,j,k,rfl,hz,hg,hh⟩,λi j Q q'=>run i _ _ (aO (dF (Hj mm ov ho k z i _ _) hh (hret k _ _ i z _ hz _ (q' _ _ ?_))))⟩;exact λa m h=>(aA λe=>by rw[e,i.hp]at h;exact nn h).trans h
  ·refine .inl ⟨(put s.1 k z,s.2+1),?_,λi j Q q'=>run i _ _ (aO (bH (Hj mm ov ho k z i _ _) hh (q' (_,_) _ (Sub.refl' _))))⟩;have pk:put s.1 k z k=some z:=if_pos rfl;have pn:∀k',k'≠k->put s.1 k z k'=s.1 k':=λk' h=>if_neg h;refine⟨cK hI.n,λk' h=>(show Gd _ _ _ (put s.1 k z k') from(pn k' λe=>Ur pr.1 (e▸h)).symm▸hI.old k' h),λi hi=>?_,λk' z' h=>?_⟩
   ·show Gd _ _ _ (put s.1 k z _)/\∀z',put s.1 k z _ = some z'->_;rcases jf (eU hi) with h|h
    ·have ne:-((d:Int)+1)+(i:Int)*2≠k:=by exact λzz=>fQ [_,_,_] [_] [(-1,.ei (.a (.o (.a .c0 .k1)) (.r .c1 2)) .v0),(1,.ei (.a (.o (.a .c0 .k1)) (.r .c2 2)) .v0),(2,.tn .v1 .v2)] rfl zz hk h
     rw[pn _ ne];exact hI.new i h
    ·rw[h,hk,pk];exact⟨hg,λz' e=>by(injection e with e;subst e);exact hh⟩
   ·by_cases c:k'=k
    ·exact⟨au [_,_] [_,_] (.li (.o (.a .c0 .k1)) .v0) 1 [(1,.ei (.a (.o (.a .c0 .k1)) (.r .c1 2)) .v1),(-1,.ei .v0 .v1)] rfl hk c,au [_,_] [_,_] (.li .v0 (.a .c0 .k1)) 1 [(2,.tn .v1 (.a .v0 (.k 2))),(-1,.ei (.a (.o (.a .c0 .k1)) (.r .c1 2)) .v1),(1,.ei .v0 .v1)] rfl hq hk c⟩
    ·exact hI.dom k' z' ((pn k' c).symm.trans h)
 rcases Iw (C:=LR.C) (b:=jW rv ov c3 par ret) (t:=.v 12) (cA (-((d:Int)+1)) 2 (d+2)) (λ(i:LR A B g)_(j:Option V×Option V)=>i.R fw x w y t mm j.1 j.2) (λi s=>i.T s.1 s.2) (LI E3 par g w t d na)
  (λr=>∃(z j:Nat)(k:Int),r=rvl z j/\(z:Int)=j+k/\Gd (bx w t E3) (d+1) k (some z)/\lZ w t g par k z) (λi=>i.U) key (f,na)
  ⟨aC _,H.g,λi h=>absurd h (dM i),λk z h=>by have:=H.dom k z h;exact⟨au [_] [_] (.li (.o (.a .c0 .k1)) .v0) 1 [(1,.li (.o .c0) .v0)] rfl this.1,au [_] [_] (.li .v0 (.a .c0 .k1)) 1 [(1,.li .v0 .c0)] rfl this.2⟩⟩ with⟨s,hI,run⟩|⟨r,hr,run⟩
 ·rw[Qi]at hI;refine .inl ⟨s,⟨hI.n,⟨λk hk=>?_,hI.dom⟩,λk z hk e=>?_⟩,run⟩
  ·cases e:s.1 k with
   |some z=>
    refine ar (zH hk (hI.dom k z e).1 (hI.dom k z e).2) λi hi ei=>?_;have:=(hI.new i hi).1;rw[ei,e]at this;exact this
   |none=>
    refine⟨λx h=>(nn h),λx j c h w l=>?_⟩;have wl:=w.lane h;refine ar (zH hk (au [_,_] [_] (.li (.o (.a .c0 .k1)) .v0) 1 [(1,.li (.o .c1) .v0),(1,.ln .v1 (.a .v0 .k1))] rfl wl.1 l) (au [_,_] [_] (.li .v0 (.a .c0 .k1)) 1 [(1,.li .v0 .c1),(1,.ln .v1 (.a .v0 .k1))] rfl wl.2 l)) λi hi ei=>?_;have:=(hI.new i hi).1;rw[ei,e]at this;exact this.2 x j c h w l
  ·refine ar (zH hk (hI.dom k z e).1 (hI.dom k z e).2) λi hi ei=>?_;have:=(hI.new i hi).2;rw[ei]at this;exact this z e
 ·exact .inr ⟨r,hr,run⟩
end
end
section
def xb(w t:Nat)(e e':Nat->Nat->Prop):Prop:=∀i j i' j',i+i'+1=w->j+j'+1=t->e i j->e' i' j'
section
variable{e e':Nat->Nat->Prop}{w t d₁ d₂ D:Nat}{f g:Int->Option Nat}{par:Int}
theorem aD.pty{x j c:Nat}{k:Int}(h:aD e 0 0 x j c)(q:(x:Int)=j+k):(k+c)%2=0:=by
 exact kQ h.kept λz a b h1 h2 h3=>(congrArg (·%2) (bR [_,_,_,_,_,_] [_] (.a .v0 .c0) (.r .c4 2) [(1,.ei .c1 (.a .c2 .v0)),(-1,.en .v1 (.a (.a .k0 .v3) .v4)),(1,.en .v2 (.a (.a .k0 .v3) .v5)),(-1,.en .v0 (.a .v4 .v5))] rfl q h1 h2 h3)).trans (BU ..)
theorem Sx{a b c e:Int}(h:a%2=b%2)(p:c%2=0)(q:e=a-b-c+2*b):e%2=0:=by
 rw[q];exact Int.emod_eq_zero_of_dvd (Int.dvd_add (yf (o9 (Int.emod_eq_emod_iff_emod_sub_eq_zero.1 h)) (o9 p)) (Kw 2 b))
theorem Gj{a:Int}{q:Nat}(h:a%2=0)(p:(a+((2*q+1:Nat):Int))%2=0):False:=absurd (yf (yf (o9 p) (o9 h)) (Kw 2 (q:Int)))
 (by rw[show a+((2*q+1:Nat):Int)-a-2*(q:Int)=1 from bR [_] [_] (.s (.s (.a .v0 (.c (.a (.m 2 .v0) .k1))) .v0) (.m 2 .c0)) .k1 [] rfl];decide)
theorem Hl(m:xb w t e' e)(bw:∀i j,e i j->i<w)(bt:∀i j,e i j->j<t)(least:∀c,aD e 0 0 w t c->D<=c)(hD:d₁+d₂<=D)(G:Rd e' d₂ g)(hp:((d₁+d₂:Nat):Int)%2=par)
  {z j:Nat} {k:Int} (hz:(z:Int)=j+k) (h:Gd e d₁ k (some z)) (hh:lZ w t g par k z):aD e 0 0 z j d₁/\z<=w/\j<=t/\∃c,c<=d₂/\aD e z j w t c:=by
 refine ar (h.1 z rfl) λj' h1 h2=>?_;have ej:j'=j:=by exact bE [_,_,_] [_] .v0 .v1 [(-1,.ei .c2 (.a .c1 .v0)),(1,.ei .c2 (.a .c0 .v0))] rfl hz h1
 subst ej;obtain⟨s,_,u,hu,hw⟩:=hh;have pk:=h2.pty h1;have Gu:=G.g (w-t-k) (Sx (s.trans hp.symm) pk (bR [_,_,_,_] [_] (.a (.s (.s .c0 .c1) .v0) .c3) (.a (.s (.s (.s .c0 .c1) (.c (.a .v2 .v3))) (.a .v0 .c2)) (.m 2 (.c (.a .v2 .v3)))) [] rfl));refine ar (Gu.1 u hu) λv h3 h4=>?_;exact⟨h2,Sw bw bt (λi j i' j' a b h=>m i' j' i j (cb i i'▸a) (cb j j'▸b) h) least hD h2 h4 hw (by exact bE [_,_,_,_,_,_] [_] (.a (.a .v0 .v1) .v2) (.a (.a .v3 .v4) .v5) [(-1,.ei .c0 (.a .c4 .v0)),(-1,.ei .c1 (.a .c5 (.s (.s .c3 .c2) .v0)))] rfl h1 h3)⟩
theorem Ib(m:xb w t e e')(F:Rd e d₁ f)(G:Rd e' d₂ g)(hp:((w:Int)-t)%2=par)(no:∀(k:Int) z,(k+d₁)%2=0->f k=some z->¬lZ w t g par k z):¬aD e 0 0 w t (d₁+d₂):=λh=>by
 refine g9 (h.split rfl) λi j h1 h2=>?_;have l:=h2.le;have p1:=h1.pty (k:=(i:Int)-j) (by exact bR [_,_] [] .c0 (.a .c1 (.s .c0 .c1)) [] rfl);refine ar ((F.g ((i:Int)-j) p1).2 i j d₁ (by exact bR [_,_] [] .c0 (.a .c1 (.s .c0 .c1)) [] rfl) h1 (aC _)) λz z1 z2=>?_;have h3:=h2.back m (x':=w-i) (y':=t-j) (X':=0) (Y':=0) (fu l.1) (fu l.2) (jK _) (jK _);have q2:((w-i:Nat):Int)=((t-j:Nat):Int)+((w:Int)-t-((i:Int)-j)):=by exact bR [_,_,_,_,_,_] [] .c0 (.a .c1 (.s (.s .c2 .c3) (.s .c4 .c5))) [(-1,.en (.a .v0 .v4) .v2),(1,.en (.a .v1 .v5) .v3)] rfl (aZ l.1) (aZ l.2)
 refine ar ((G.g _ (h3.pty q2)).2 _ _ d₂ q2 h3 (aC _)) λu u1 u2=>?_;exact no _ z p1 z1 ⟨hp,by rw[u1];exact(λe=>(nomatch e)),u,u1,by exact au [_,_,_,_,_] [] (.ln .v0 (.a .v1 .v2)) 1 [(1,.ln .v3 .v1),(1,.ln .v4 .v2),(1,.ln .v0 (.a .v4 .v3))] rfl z2 u2 cW⟩
theorem aD.zero{x y c:Nat}(h:aD e x y x y c):c=0:=by
 refine kQ h.kept λz a b h1 h2 h3=>?_;exact cX (au [_,_,_,_,_,_] [] (.ln .v0 .k0) 1 [(-1,.en .v1 (.a (.a .v1 .v2) .v3)),(-1,.en .v4 (.a (.a .v4 .v2) .v5)),(1,.en .v0 (.a .v3 .v5))] rfl h1 h2 h3) (au [_] [] (.ln .k0 .v0) 1 [] rfl)
theorem OD(h0:¬e 0 0)(h1:¬e (w-1) (t-1))(hw:0<w)(ht:0<t)(h:aD e 0 0 w t D):2<=D:=by
 have low:∀{x y},aD e 0 0 x y 0->x=0/\y=0:=λh=>by
  rcases h.last with⟨m,a,b,_,z⟩|⟨_,_,_,_,_,_,z,_⟩
  ·cases m with
   |zero=>exact⟨a,b⟩
   |succ m=>exact absurd (z 0 (fh m)) h0
  ·cases z
 rcases h.last with⟨m,a,b,rfl,z⟩|⟨x₁,y₁,x₂,y₂,m,c,rfl,q,s,a,b,z⟩
 ·exact absurd (low h).1 (ip hw)
 ·cases m with
  |succ m=>rw[a,b]at h1;exact absurd (z m (bu m)) h1
  |zero=>
   cases c with
   |succ c=>exact cK (cK (bJ c))
   |zero=>
    obtain⟨rfl,rfl⟩:=low q;rcases s with⟨rfl,rfl⟩|⟨rfl,rfl⟩
    ·exact absurd b (ip ht)
    ·exact absurd a (ip hw)
end
end
section
theorem M8{q:Nat}(h:q<=1000):jT [-((q+1:Nat):Int),((q+1:Nat):Int)+1,2]=some (cA (-((q:Int)+1)) 2 (q+2)):=by
 have h1:eD (-((q+1:Nat):Int))=true:=qu (by exact au [_] [] (.li (.o (.k 1048576)) (.o (.c (.a .v0 .k1)))) 1 [(1,.ln .v0 (.k 1000))] rfl h) (by exact au [_] [] (.li (.o (.c (.a .v0 .k1))) (.k 1048576)) 1 [] rfl);have h2:eD (((q+1:Nat):Int)+1)=true:=qu (by exact au [_] [] (.li (.o (.k 1048576)) (.a (.c (.a .v0 .k1)) .k1)) 1 [] rfl) (by exact au [_] [] (.li (.a (.c (.a .v0 .k1)) .k1) (.k 1048576)) 1 [(1,.ln .v0 (.k 1000))] rfl h);have h3:(mr (-((q+1:Nat):Int)) (((q+1:Nat):Int)+1) 2).toNat=q+2:=by
  unfold mr;rw[if_pos (by decide),if_pos (by exact au [_] [] (.ti (.o (.c (.a .v0 .k1))) (.a (.c (.a .v0 .k1)) .k1)) 1 [] rfl)];rw[show((q+1:Nat):Int)+1 - -((q+1:Nat):Int)-1=2*((q+1:Nat):Int) from bR [_] [] (.s (.s (.a (.c (.a .v0 .k1)) .k1) (.o (.c (.a .v0 .k1)))) .k1) (.m 2 (.c (.a .v0 .k1))) [] rfl,Int.mul_ediv_cancel_left _ (by decide)];rfl
 show(if (eD (-((q+1:Nat):Int))=true/\eD (((q+1:Nat):Int)+1)=true)/\((2:Int)=2\/(2:Int) = -1) then some (mV (-((q+1:Nat):Int)) (((q+1:Nat):Int)+1) 2) else none) = _;rw[if_pos ⟨⟨h1,h2⟩,.inl rfl⟩];unfold mV;rw[h3,hV];rfl
section
variable{C:ax}{J:aj}{Z:ae}{a b:E}{u v:V}
theorem n7(h:Ev C a J Z u)(k:Ev C b J Z v):Ev C (.tup [a,b]) J Z (.tup [u,v]):=λQ q=>h _ (k _ q)
theorem jQ{Z:ae}{a b:Nat}{m m':M}(n:a≠b):ak (ak Z a m) b m'=ak (ak Z b m') a m:=funext λc=>by
 by_cases h:c=a
 ·rw[h,aP,aA n,aP]
 ·by_cases k:c=b
  ·rw[k,aP,aA n.symm,aP]
  ·rw[aA k,aA h,aA h,aA k]
theorem zZ{Z Z':ae}{a:Nat}{m:M}(n:Z a=none)(h:Sub (ak Z a m) Z'):Sub Z Z':=λc m' k=>h c m' ((aA λe=>by rw[e,n]at k;exact nn k).trans k)
end
section
variable{A B:List Int}{g:Int->Option Nat}{fw:Bool}{x w y t:Nat}
abbrev EF(A B:List Int)(x y:Nat):Nat->Nat->Prop:=λi j=>A[x+i]?=B[y+j]?
abbrev EB(A B:List Int)(x w y t:Nat):Nat->Nat->Prop:=λi j=>A[x+w-1-i]?=B[y+t-1-j]?
noncomputable abbrev cF:E:=.m .eq (.i (.a (.x 0) 7) (.b .add (.x 2) (.x 13))) (.i (.a (.x 0) 8) (.b .sub (.b .add (.x 4) (.x 13)) (.x 12)))
noncomputable abbrev m7:E:=.m .eq (.i (.a (.x 0) 7) (.b .sub (.b .sub (.x 3) (.c (.int 1))) (.x 13))) (.i (.a (.x 0) 8) (.b .add (.b .sub (.b .sub (.x 5) (.c (.int 1))) (.x 13)) (.x 12)))
theorem LR.a(i:LR A B g){f:Int->Option Nat}{na:Nat}{e:E}{J:aj}(h:Ev i.C e J (i.T f na) (.inst 2 i.s.d)):Ev i.C (.a e 7) J (i.T f na) (.list (vI A)):=
 br h ((oE ((aA i.nd).trans i.on)).trans (congrArg (λl=>some (V.list (vI l))) i.hA))
theorem LR.b(i:LR A B g){f:Int->Option Nat}{na:Nat}{e:E}{J:aj}(h:Ev i.C e J (i.T f na) (.inst 2 i.s.d)):Ev i.C (.a e 8) J (i.T f na) (.list (vI B)):=
 br h ((te ((aA i.nd).trans i.on)).trans (congrArg (λl=>some (V.list (vI l))) i.hB))
theorem Vp(hX:x+w<=A.length)(hY:y+t<=B.length)(mm:Nat)(k:Int)(f:Int->Option Nat)(na:Nat)(i:LR A B g)(z j:Nat)(h:(z:Int)=j+k)(hz:z<w)(hj:j<t) :
  aI i.C cF (i.R fw x w y t mm (some (.int k)) (some (nI z))) (i.T f na) (EF A B x y z j):=
 p6 (i.a (aa rfl)) (i.b (aa rfl)) (bh (aa rfl) (aa rfl) rfl) (cv (bh (aa rfl) (aa rfl) rfl) (aa rfl) (by exact bR [_,_,_] [_] (.s (.a .c0 .c1) .v0) (.c (.a .v0 .v2)) [(-1,.ei .c1 (.a .c2 .v0))] rfl h)) (aQ (eE hz x) hX) (aQ (eE hj y) hY)
theorem Fs{x w z:Nat}(h:z<w):((x+w:Nat):Int)-1-z=((x+w-1-z:Nat):Int):=by exact bR [_,_,_,_,_] [] (.s (.s (.c (.a .v0 .v1)) .k1) .c2) .c3 [(1,.en (.a .v3 .v2) .v4),(1,.en (.a .v4 .k1) (.a .v0 .v1))] rfl (aZ (au [_,_,_,_] [] (.ln .v0 .v1) 1 [(1,.tn .v0 .v2),(1,.ln (.a .v3 .v2) (.a .v1 .k1))] rfl h cW)) (aZ (au [_,_,_] [] (.ln .k1 (.a .v0 .v1)) 1 [(1,.tn .v2 .v1)] rfl h))
theorem Vo(hX:x+w<=A.length)(hY:y+t<=B.length)(mm:Nat)(k:Int)(f:Int->Option Nat)(na:Nat)(i:LR A B g)(z j:Nat)(h:(z:Int)=j+k)(hz:z<w)(hj:j<t) :
  aI i.C m7 (i.R fw x w y t mm (some (.int k)) (some (nI z))) (i.T f na) (EB A B x w y t z j):=
 have l{a b c X:Nat}(p:a<b)(q:c+b<=X):c+b-1-a<X:=aQ (bC (ew ..) (nO (aQ (jJ p) (df ..)) mC)) q
 p6 (i.a (aa rfl)) (i.b (aa rfl)) (cv (cv (aa rfl) Ev.cn rfl) (aa rfl) (Fs hz)) (bh (cv (cv (aa rfl) Ev.cn rfl) (aa rfl) rfl) (aa rfl) (by rw[<-Fs hj,h];exact bR [_,_,_] [_] (.a (.s (.s (.c (.a .v0 .v1)) .k1) (.a .c2 .v0)) .v0) (.s (.s (.c (.a .v0 .v1)) .k1) .c2) [] rfl)) (l hz hX) (l hj hY)
theorem VG(mm:Nat)(k:Int)(f:Int->Option Nat)(na:Nat)(i:LR A B g)(z j:Nat)(h:(z:Int)=j+k) :
  Ev i.C (.tup [.b .add (.x 2) (.x 13),.b .sub (.b .add (.x 4) (.x 13)) (.x 12)]) (i.R fw x w y t mm (some (.int k)) (some (nI z))) (i.T f na) (.tup [nI (x+z),nI (y+j)]):=
 n7 (bh (aa rfl) (aa rfl) rfl) (cv (bh (aa rfl) (aa rfl) rfl) (aa rfl) (by exact bR [_,_,_] [_] (.s (.a .c0 .c1) .v0) (.c (.a .v0 .v2)) [(-1,.ei .c1 (.a .c2 .v0))] rfl h))
theorem VF(mm:Nat)(k:Int)(f:Int->Option Nat)(na:Nat)(i:LR A B g)(z j:Nat)(h:(z:Int)=j+k) :
  Ev i.C (.tup [.b .sub (.x 3) (.x 13),.b .add (.b .sub (.x 5) (.x 13)) (.x 12)]) (i.R fw x w y t mm (some (.int k)) (some (nI z))) (i.T f na) (.tup [.int ((x+w:Nat)-(z:Int)),.int ((y+t:Nat)-(j:Int))]):=
 n7 (cv (aa rfl) (aa rfl) rfl) (bh (cv (aa rfl) (aa rfl) rfl) (aa rfl) (by exact bR [_,_,_,_] [_] (.a (.s (.c (.a .v0 .v1)) .c2) .v0) (.s (.c (.a .v0 .v1)) .c3) [(1,.ei .c2 (.a .c3 .v0))] rfl h))
theorem Ag:xb w t (bx w t (EF A B x y)) (bx w t (EB A B x w y t)):=λi j i' j' a b h=>⟨by exact au [_,_,_] [] (.tn .v0 .v1) 1 [(1,.en (.a (.a .v2 .v0) .k1) .v1)] rfl a,by exact au [_,_,_] [] (.tn .v0 .v1) 1 [(1,.en (.a (.a .v2 .v0) .k1) .v1)] rfl b,by
 show A[x+w-1-i']?=B[y+t-1-j']?;rw[show x+w-1-i'=x+i by exact bE [_,_,_,_,_,_] [] .v0 (.a .v1 .v2) [(1,.en (.a (.a .v2 .v3) .k1) .v4),(-1,.en (.a .v0 .v3) .v5),(-1,.en (.a .v5 .k1) (.a .v1 .v4))] rfl a (aZ (au [_,_,_,_,_] [] (.ln .v0 .v1) 1 [(1,.en (.a (.a .v2 .v0) .k1) .v3),(1,.ln (.a .v4 .v3) (.a .v1 .k1))] rfl a cW)) (aZ (au [_,_,_,_] [] (.ln .k1 (.a .v0 .v1)) 1 [(1,.en (.a (.a .v2 .v3) .k1) .v1)] rfl a)),show y+t-1-j'=y+j by exact bE [_,_,_,_,_,_] [] .v0 (.a .v1 .v2) [(1,.en (.a (.a .v2 .v3) .k1) .v4),(-1,.en (.a .v0 .v3) .v5),(-1,.en (.a .v5 .k1) (.a .v1 .v4))] rfl b (aZ (au [_,_,_,_,_] [] (.ln .v0 .v1) 1 [(1,.en (.a (.a .v2 .v0) .k1) .v3),(1,.ln (.a .v4 .v3) (.a .v1 .k1))] rfl b cW)) (aZ (au [_,_,_,_] [] (.ln .k1 (.a .v0 .v1)) 1 [(1,.en (.a (.a .v2 .v3) .k1) .v1)] rfl b))];exact h.2.2⟩
theorem sT:xb w t (bx w t (EB A B x w y t)) (bx w t (EF A B x y)):=λi j i' j' a b h=>⟨by exact au [_,_,_] [] (.tn .v0 .v1) 1 [(1,.en (.a (.a .v2 .v0) .k1) .v1)] rfl a,by exact au [_,_,_] [] (.tn .v0 .v1) 1 [(1,.en (.a (.a .v2 .v0) .k1) .v1)] rfl b,by
 have h:A[x+w-1-i]?=B[y+t-1-j]?:=h.2.2;rw[show x+w-1-i=x+i' by exact bE [_,_,_,_,_,_] [] .v0 (.a .v1 .v2) [(1,.en (.a (.a .v3 .v2) .k1) .v4),(-1,.en (.a .v0 .v3) .v5),(-1,.en (.a .v5 .k1) (.a .v1 .v4))] rfl a (aZ (au [_,_,_,_,_] [] (.ln .v0 .v1) 1 [(1,.en (.a (.a .v0 .v2) .k1) .v3),(1,.ln (.a .v4 .v3) (.a .v1 .k1))] rfl a cW)) (aZ (au [_,_,_,_] [] (.ln .k1 (.a .v0 .v1)) 1 [(1,.en (.a (.a .v2 .v3) .k1) .v1)] rfl a)),show y+t-1-j=y+j' by exact bE [_,_,_,_,_,_] [] .v0 (.a .v1 .v2) [(1,.en (.a (.a .v3 .v2) .k1) .v4),(-1,.en (.a .v0 .v3) .v5),(-1,.en (.a .v5 .k1) (.a .v1 .v4))] rfl b (aZ (au [_,_,_,_,_] [] (.ln .v0 .v1) 1 [(1,.en (.a (.a .v0 .v2) .k1) .v3),(1,.ln (.a .v4 .v3) (.a .v1 .k1))] rfl b cW)) (aZ (au [_,_,_,_] [] (.ln .k1 (.a .v0 .v1)) 1 [(1,.en (.a (.a .v2 .v3) .k1) .v1)] rfl b))]at h;exact h⟩
end
end
section
set_option maxRecDepth 8000
theorem p9:∀ns:List Int,eN (vI ns)=some ns:=λrr=>li (rfl)
 (λn ns ih=>by show(eN (vI ns)).map _ = _;rw[ih];rfl) rr
theorem sE{C:ax}{es:List E}{t:T}{b:List S}{J:aj}{Z:ae}{Q:QO}(ns:List Int){l:List V}(he:∀Q:List V->ae->Prop,Q (vI ns) Z->eh C es J Z Q)(hl:jT ns=some l)
  (h:∃n,bZ (.vals l) t (λJ Z Q=>az C b J Z Q) Q n 0 J Z):WS C (.for t (.range es) b) J Z Q:=he _ (ao (p9 ns) (ao hl h))
structure HR(A B:List Int)where
 r:dQ A B
 ra:Nat
 rb:Nat
 ha:r.Z ra=none
 hb:r.Z rb=none
 ne:ra≠rb
abbrev HS:=((Int->Option Nat)×Nat)×((Int->Option Nat)×Nat)
section
variable{A B:List Int}{x w y t:Nat}
noncomputable abbrev HR.T(i:HR A B)(s:HS):ae:=ak (ak i.r.Z i.rb (dP s.2.2 s.2.1)) i.ra (dP s.1.2 s.1.1)
noncomputable abbrev HR.R(i:HR A B)(x w y t:Nat)(m l a:Option V):aj:=
 [some (.inst 2 i.r.s.d),some (pt x (x+w) y (y+t)),some (nI x),some (nI (x+w)),some (nI y),some (nI (y+t)),some (nI w),some (nI t),some (.int ((w:Int)-t)),some (.ref i.ra),some (.ref i.rb),m,l,a]
theorem HR.off(i:HR A B){z:Nat}(h:i.r.Z z=none):i.r.s.d≠z:=λe=>by have:=i.r.on;rw[jX,e,h]at this;exact nn this
noncomputable def HR.fw(i:HR A B)(x w y t:Nat)(g:Int->Option Nat)(nb:Nat):LR A B g:=
 ⟨i.r.n,ak i.r.Z i.rb (dP nb g),i.r.s,i.r.hA,i.r.hB,(aA (i.off i.hb)).trans i.r.on,pt x (x+w) y (y+t),i.ra,i.rb,nb,aP ..,i.ne.symm,i.off i.ha,(aA i.ne).trans i.ha⟩
noncomputable def HR.bw(i:HR A B)(x w y t:Nat)(f:Int->Option Nat)(na:Nat):LR A B f:=
 ⟨i.r.n,ak i.r.Z i.ra (dP na f),i.r.s,i.r.hA,i.r.hB,(aA (i.off i.ha)).trans i.r.on,pt x (x+w) y (y+t),i.rb,i.ra,na,aP ..,i.ne,i.off i.hb,(aA i.ne.symm).trans i.hb⟩
def wA(A B:List Int)(x w y t D i j:Nat):Prop:=i<=w/\j<=t/\0<i+j/\i+j<w+t/\∃d₁ d₂,aD (bx w t (EF A B x y)) 0 0 i j d₁/\aD (bx w t (EF A B x y)) i j w t d₂/\d₁+d₂=D
theorem FV{e:Nat->Nat->Prop}{i j w t D d₁ d₂:Nat}(hi:i<=w)(hj:j<=t)(h1:aD e 0 0 i j d₁)(h2:aD e i j w t d₂)(p1:0<d₁)(p2:0<d₂):0<i+j/\i+j<w+t:=by
 refine⟨pv λh=>?_,hF (ff hi hj) λh=>?_⟩
 ·obtain⟨rfl,rfl⟩:=Ke.1 h;exact absurd h1.zero (ip p1)
 ·have e1:i=w:=by exact cX (au [_,_] [] (.ln .v0 .v1) 1 [(1,.ln .v0 .v1)] rfl hi) (au [_,_,_,_] [] (.ln .v0 .v1) 1 [(1,.ln .v2 .v3),(-1,.en (.a .v1 .v2) (.a .v0 .v3))] rfl hj h)
  have e2:j=t:=by exact bE [_,_,_,_] [] .v0 .v1 [(-1,.en (.a .v2 .v0) (.a .v3 .v1)),(1,.en .v2 .v3)] rfl h e1
  subst e1;subst e2;exact absurd h2.zero (ip p2)
structure HI(e e':Nat->Nat->Prop)(D q:Nat)(s:HS):Prop where
 f:Rd e q s.1.1
 g:Rd e' q s.2.1
 na:s.1.2<=1+q*1000
 nb:s.2.2<=1+q*1000
 d:2*q<D
noncomputable abbrev lO(rv ov:Nat)(c3:E)(par:Int)(ret:E):S:=.for (.v 12) (.range [.neg (.x 11),.b .add (.x 11) (.c (.int 1)),.c (.int 2)]) (jW rv ov c3 par ret)
noncomputable abbrev oM:E:=.tup [.b .add (.x 2) (.x 13),.b .sub (.b .add (.x 4) (.x 13)) (.x 12)]
noncomputable abbrev oL:E:=.tup [.b .sub (.x 3) (.x 13),.b .add (.b .sub (.x 5) (.x 13)) (.x 12)]
theorem EL{C:ax}{rv ov:Nat}{c3 ret:E}{par:Int}{q:Nat}{J:aj}{Z:ae}{Q:QO}(hq:q<=500)(hJ:rd J 11=some (nI (q+1)))
  (h:∃n,bZ (.vals (cA (-((q:Int)+1)) 2 (q+2))) (.v 12) (λJ Z Q=>az C (jW rv ov c3 par ret) J Z Q) Q n 0 J Z):WS C (lO rv ov c3 par ret) J Z Q:=
 sE [-((q+1:Nat):Int),((q+1:Nat):Int)+1,2] (λQ qq=>by
  refine ao hJ ?_;refine ao rfl ?_;refine ao hJ ?_;exact qq) (M8 (ai hq (dR rfl))) h
theorem IJ(i:HR A B){m:V}{l a:Option V}:rd (i.R x w y t (some m) l a) 11=some m:=rfl
theorem Ac(i:HR A B){f g:Int->Option Nat}{na nb q:Nat}{l a:Option V}{Q:QO}(hq:q<=500)(h:∃n,bZ (.vals (cA (-((q:Int)+1)) 2 (q+2))) (.v 12) (λJ Z Q=>az (i.fw x w y t g nb).C (jW 9 10 cF 1 oM) J Z Q) Q n 0 ((i.fw x w y t g nb).R true x w y t (q+1) l a) ((i.fw x w y t g nb).T f na)) :
  WS (Ph pF (i.r.n+1)) (lO 9 10 cF 1 oM) (i.R x w y t (some (nI (q+1))) l a) (i.T ((f,na),(g,nb))) Q:=by
 have k:∃n,bZ (.vals (cA (-((q:Int)+1)) 2 (q+2))) (.v 12) (λJ Z Q=>az (Ph pF (i.r.n+1)) (jW 9 10 cF 1 oM) J Z Q) Q n 0 (i.R x w y t (some (nI (q+1))) l a) (i.T ((f,na),(g,nb))):=h;exact EL hq (IJ i) k
theorem GW(i:HR A B){f g:Int->Option Nat}{na nb q:Nat}{l a:Option V}{Q:QO}(hq:q<=500)(h:∃n,bZ (.vals (cA (-((q:Int)+1)) 2 (q+2))) (.v 12) (λJ Z Q=>az (i.bw x w y t f na).C (jW 10 9 m7 0 oL) J Z Q) Q n 0 ((i.bw x w y t f na).R false x w y t (q+1) l a) ((i.bw x w y t f na).T g nb)) :
  WS (Ph pF (i.r.n+1)) (lO 10 9 m7 0 oL) (i.R x w y t (some (nI (q+1))) l a) (i.T ((f,na),(g,nb))) Q:=by
 have k:∃n,bZ (.vals (cA (-((q:Int)+1)) 2 (q+2))) (.v 12) (λJ Z Q=>az (Ph pF (i.r.n+1)) (jW 10 9 m7 0 oL) J Z Q) Q n 0 (i.R x w y t (some (nI (q+1))) l a) (ak (ak i.r.Z i.ra (dP na f)) i.rb (dP nb g)):=h;rw[jQ i.ne]at k;exact EL hq (IJ i) k
theorem L6(hX:x+w<=A.length)(hY:y+t<=B.length){D:Nat}(h0:¬bx w t (EF A B x y) 0 0)(h0':¬bx w t (EB A B x w y t) 0 0)(h2:2<=D)(hD:aD (bx w t (EF A B x y)) 0 0 w t D)(least:∀c,aD (bx w t (EF A B x y)) 0 0 w t c->D<=c)
  (q:Nat) (s:HS) (hq:q<=500) (hs:HI (bx w t (EF A B x y)) (bx w t (EB A B x w y t)) D q s) :
  (∃s',HI (bx w t (EF A B x y)) (bx w t (EB A B x w y t)) D (q+1) s'/\∀(i:HR A B)(j:Option V×Option V)(Q:QO),(∀(j:Option V×Option V),Q .next (i.R x w y t (some (nI (q+1))) j.1 j.2) (i.T s')) ->
   az (Ph pF (i.r.n+1)) [lO 9 10 cF 1 oM,lO 10 9 m7 0 oL] (i.R x w y t (some (nI (q+1))) j.1 j.2) (i.T s) Q) \/
  ∃r,(∃i j,r=.tup [nI (x+i),nI (y+j)]/\wA A B x w y t D i j)/\∀(i:HR A B)(j:Option V×Option V)(Q:QO),(∀J' Z,Sub i.r.Z Z->Q (.ret r) J' Z) ->
   az (Ph pF (i.r.n+1)) [lO 9 10 cF 1 oM,lO 10 9 m7 0 oL] (i.R x w y t (some (nI (q+1))) j.1 j.2) (i.T s) Q:=by
 obtain⟨⟨f,na⟩,⟨g,nb⟩⟩:=s;obtain⟨hf,hg,hna,hnb,hd⟩:=hs;replace hna:na<=1+q*1000:=hna;replace hnb:nb<=1+q*1000:=hnb;have pty:=hD.pty (k:=(w:Int)-t) (by exact bR [_,_] [] .c0 (.a .c1 (.s .c0 .c1)) [] rfl);have bw:∀{E:Nat->Nat->Prop}(i j),bx w t E i j->i<w:=λi j h=>h.1;have bt:∀{E:Nat->Nat->Prop}(i j),bx w t E i j->j<t:=λi j h=>h.2.1;rcases H8 (A:=A) (B:=B) (fw:=true) (g:=g) (x:=x) (w:=w) (y:=y) (t:=t) (c3:=cF) (ret:=oM) (par:=1) (q+1) na 9 10 (λz j=>.tup [nI (x+z),nI (y+j)]) (λ_ _ _=>rfl) (λ_ _ _=>rfl) (λk f na=>Vp hX hY (q+1) k f na) (λk f na=>VG (q+1) k f na) h0 hf (by have:aJ=1048576:=rfl;exact au [_,_,_] [] (.ln (.a (.a .v0 .v1) (.k 2)) .v2) 1 [(1001,.ln .v1 (.k 500)),(1,.ln .v0 (.a .k1 (.r .v1 1000))),(-1,.en .v2 (.k 1048576))] rfl hq hna this) with⟨⟨f',na'⟩,⟨f1,f2,f3⟩,run1⟩|⟨r,⟨z,j,k,rfl,r1,r2,r3⟩,run1⟩
 ·have lt:((w:Int)-t)%2=1->2*q+1<D:=λh=>hF hd λe=>Ib Ag f2 hg h f3 (by rw[show q+1+q=D by exact bE [_,_] [] (.a (.a .v0 .k1) .v0) .v1 [(-1,.en (.a (.m 2 .v0) .k1) .v1)] rfl e];exact hD);rcases H8 (A:=A) (B:=B) (fw:=false) (g:=f') (x:=x) (w:=w) (y:=y) (t:=t) (c3:=m7) (ret:=oL) (par:=0) (q+1) nb 10 9 (λz j=>.tup [.int ((x+w:Nat)-(z:Int)),.int ((y+t:Nat)-(j:Int))]) (λ_ _ _=>rfl) (λ_ _ _=>rfl) (λk f na=>Vo hX hY (q+1) k f na) (λk f na=>VF (q+1) k f na) h0' hg (by have:aJ=1048576:=rfl;exact au [_,_,_] [] (.ln (.a (.a .v0 .v1) (.k 2)) .v2) 1 [(1001,.ln .v1 (.k 500)),(1,.ln .v0 (.a .k1 (.r .v1 1000))),(-1,.en .v2 (.k 1048576))] rfl hq hnb this) with⟨⟨g',nb'⟩,⟨g1,g2,g3⟩,run2⟩|⟨r,⟨z,j,k,rfl,r1,r2,r3⟩,run2⟩
  ·refine .inl ⟨((f',na'),(g',nb')),⟨f2,g2,by have h:na'<=na+(q+2):=f1;show na'<=_;exact au [_,_,_] [] (.ln .v0 (.a .k1 (.r (.a .v1 .k1) 1000))) 1 [(1,.ln .v1 (.k 500)),(1,.ln .v2 (.a .k1 (.r .v1 1000))),(1,.ln .v0 (.a .v2 (.a .v1 (.k 2))))] rfl hq hna h,by have h:nb'<=nb+(q+2):=g1;show nb'<=_;exact au [_,_,_] [] (.ln .v0 (.a .k1 (.r (.a .v1 .k1) 1000))) 1 [(1,.ln .v1 (.k 500)),(1,.ln .v2 (.a .k1 (.r .v1 1000))),(1,.ln .v0 (.a .v2 (.a .v1 (.k 2))))] rfl hq hnb h,?_⟩,λi j Q qq=>?_⟩
   ·by_cases h:((w:Int)-t)%2=1
    ·exact hF (lt h) λe=>absurd (h.symm.trans ((Je _ 2 ((q+1:Nat):Int)).symm.trans (e▸pty))) (by decide)
    ·have h:=(Int.emod_two_eq _).resolve_right h;have ne:¬aD (bx w t (EB A B x w y t)) 0 0 w t (q+1+(q+1)):=Ib sT g2 f2 h g3;have:D≠q+1+(q+1):=λe=>ne (e▸hD.back Ag (aU w) (aU t) (jK w) (jK t));exact hF (hF hd λe=>Gj h (e▸pty)) λe=>this (e.symm.trans (CO _))
   ·refine aO (Ac i hq (run1 (i.fw x w y t g nb) j _ λj'=>aO (GW i hq (run2 (i.bw x w y t f' na') j' _ λj''=>?_))));show Q _ _ (ak (ak i.r.Z i.ra (dP na' f')) i.rb (dP nb' g'));rw[jQ i.ne];exact qq j''
  ·have leastB:∀c,aD (bx w t (EB A B x w y t)) 0 0 w t c->D<=c:=λc h=>least c (h.back sT (aU w) (aU t) (jK w) (jK t));have le2:q+1+(q+1)<=D:=CO (q+1)▸hF hd λe=>Gj r3.1 (e▸pty);refine nC (Hl Ag bw bt leastB (d₁:=q+1) (d₂:=q+1) le2 f2 ((congrArg (λn:Nat=>(n:Int)%2) (CO (q+1)).symm).trans (Int.mul_emod_right 2 ((q+1:Nat):Int))) r1 r2 r3) λk1 k2 k3 kk=>ar kk λc k4 k5=>?_;have e1:=k5.back sT (x':=w-z) (y':=t-j) (X':=0) (Y':=0) (fu k2) (fu k3) (jK w) (jK t);have e2:=k1.back sT (x':=w) (y':=t) (X':=w-z) (Y':=t-j) (aU w) (aU t) (fu k2) (fu k3);have le:=least _ (e1.append e2);have hlf:wA A B x w y t D (w-z) (t-j):=by
    have:=FV (ew w z) (ew t j) (D:=D) e1 e2 (by exact au [_,_,_] [] (.tn .k0 .v0) 2 [(1,.ln (.k 2) .v1),(1,.tn (.m 2 .v2) .v1),(2,.ln .v1 (.a (.a .v2 .k1) .v0))] rfl h2 hd le) (fh q);exact⟨ew w z,ew t j,this.1,this.2,_,_,e1,e2,cX (ai (kR k4 _) le2) (cb (q+1) c▸le)⟩
   have er:V.tup [.int ((x+w:Nat)-(z:Int)),.int ((y+t:Nat)-(j:Int))]=.tup [nI (x+(w-z)),nI (y+(t-j))]:=by
    rw[show((x+w:Nat)-(z:Int))=((x+(w-z):Nat):Int) by exact bR [_,_,_,_] [] (.s (.c (.a .v0 .v1)) .c2) (.c (.a .v0 .v3)) [(1,.en (.a .v3 .v2) .v1)] rfl (aZ k2),show((y+t:Nat)-(j:Int))=((y+(t-j):Nat):Int) by exact bR [_,_,_,_] [] (.s (.c (.a .v0 .v1)) .c2) (.c (.a .v0 .v3)) [(1,.en (.a .v3 .v2) .v1)] rfl (aZ k3)]
   refine .inr ⟨.tup [.int ((x+w:Nat)-(z:Int)),.int ((y+t:Nat)-(j:Int))],⟨w-z,t-j,er,hlf⟩,λi j Q qq=>?_⟩
   ·exact aO (Ac i hq (run1 (i.fw x w y t g nb) j _ λj'=>aO (GW i hq (run2 (i.bw x w y t f' na') j' _ λJ' Z h=>qq _ _ (zZ i.ha h)))))
 ·refine nC (Hl sT bw bt least (d₁:=q+1) (d₂:=q) (by exact au [_,_] [] (.ln (.a (.a .v0 .k1) .v0) .v1) 1 [(1,.tn (.m 2 .v0) .v1)] rfl hd) hg ((congrArg (·%2) (bR [_] [] (.c (.a (.a .v0 .k1) .v0)) (.a .k1 (.m 2 .c0)) [] rfl)).trans (Je 1 2 (q:Int))) r1 r2 r3) λk1 k2 k3 kk=>ar kk λc k4 k5=>?_;have le:=least _ (k1.append k5);have hlf:=FV k2 k3 (D:=D) k1 k5 (fh q) (by exact au [_,_,_] [] (.tn .k0 .v0) 2 [(1,.ln (.k 2) .v1),(1,.tn (.m 2 .v2) .v1),(2,.ln .v1 (.a .v0 (.a .v2 .k1)))] rfl h2 hd le);exact .inr ⟨.tup [nI (x+z),nI (y+j)],⟨z,j,rfl,k2,k3,hlf.1,hlf.2,_,_,k1,k5,by exact cX (au [_,_,_] [] (.ln (.a (.a .v0 .k1) .v1) .v2) 1 [(1,.tn (.m 2 .v0) .v2),(1,.ln .v1 .v0)] rfl hd k4) (au [_,_,_] [] (.ln .v0 (.a (.a .v1 .k1) .v2)) 1 [(1,.ln .v0 (.a .v2 (.a .v1 .k1)))] rfl le)⟩,λi jj Q qq=>aO (Ac i hq (run1 (i.fw x w y t g nb) jj _ λJ' Z h=>qq _ _ (zZ i.hb h)))⟩
end
end
section
theorem FP{e:Nat->Nat->Prop}(h0:¬e 0 0):Rd e 0 (λk=>if k=0 then some 0 else none):=by
 refine⟨λk _=>⟨λx h=>?_,λx j c hx h hc=>?_⟩,λk z h=>?_⟩
 ·by_cases c:k=0
  ·rw[if_pos c]at h;(injection h with h;subst h);exact⟨0,by rw[c];rfl,.nil⟩
  ·rw[if_neg c]at h;exact nn h
 ·cases yg.1 hc
  rcases h.last with⟨m,a,b,_,z⟩|⟨_,_,_,_,_,_,z,_⟩
  ·cases m with
   |zero=>subst a;subst b;exact⟨0,if_pos (by exact bR [] [_] .v0 .k0 [(1,.ei (.c (.a .k0 .k0)) (.a (.c (.a .k0 .k0)) .v0))] rfl hx),aC _⟩
   |succ m=>exact absurd (z 0 (fh m)) h0
  ·cases z
 ·by_cases c:k=0
  ·rw[c];exact⟨mB _,mB _⟩
  ·rw[if_neg c]at h;exact nn h
theorem O0:(λj:Int=>if j=0 then some (V.int 0) else none)=λk=>((if k=0 then some 0 else none:Option Nat)).map nI:=funext λk=>by
 by_cases c:k=0
 ·rw[if_pos c,if_pos c];rfl
 ·rw[if_neg c,if_neg c];rfl
section
variable{A B:List Int}{x w y t:Nat}
theorem fL{C:ax}{J J':aj}{Z:ae}{a b:E}{u v:V}{i j:Nat}{rest:List S}{Q:QO}(h:Ev C a J Z u)(k:Ev C b J Z v)(e:fZ J [i,j] [u,v]=J')(q:az C rest J' Z Q):az C (.s (.vs [i,j]) (.tup [a,b])::rest) J Z Q:=
 h _ (k _ ⟨rfl,e.symm▸q⟩)
theorem Nb{C:ax}{b:List S}{J:aj}{Z:ae}{Q:QO}{R:Nat}(h6:rd J 6=some (nI w))(h7:rd J 7=some (nI t))(hR:(w+t+1)/2=R)(hz:w+t<=900)(h:∃n,bZ (.vals (cA 1 1 R)) (.v 11) (λJ Z Q=>az C b J Z Q) Q n 0 J Z) :
  WS C (.for (.v 11) (.range [.c (.int 1),.b .add (.b .fdiv (.b .add (.b .add (.x 6) (.x 7)) (.c (.int 1))) (.c (.int 2))) (.c (.int 1))]) b) J Z Q:=
 sE [1,((1+R:Nat):Int)] (λQ q=>bh (fN (op:=.fdiv) (bh (bh (aa h6) (aa h7) rfl) Ev.cn rfl) Ev.cn rfl) Ev.cn (by subst hR;exact nL _ _) _ q) (sj (x:=1) (hR▸ai (kT (ai (Nat.div_le_self ..) (cK hz)) 1) (by decide))) h
theorem TY(hX:x+w<=A.length)(hY:y+t<=B.length)(hz:w+t<=900)(hw:0<w)(ht:0<t)(h0:A[x]?≠B[y]?)(h1:A[x+w-1]?≠B[y+t-1]?){D:Nat}(hD:aD (bx w t (EF A B x y)) 0 0 w t D)(least:∀c,aD (bx w t (EF A B x y)) 0 0 w t c->D<=c) :
  ∃i j,wA A B x w y t D i j/\∀(r:dQ A B)Q,Q (.tup [nI (x+i),nI (y+j)]) r.Z->Ph pF (r.n+2) 38 [.inst 2 r.s.d,pt x (x+w) y (y+t)] r.Z Q:=by
 have n0:¬bx w t (EF A B x y) 0 0:=λh=>h0 h.2.2;have n1:¬bx w t (EB A B x w y t) 0 0:=λh=>h1 h.2.2;have D2:2<=D:=OD n0 (λh=>h1 (by have h:=h.2.2;simp only[EF]at h;rw[xU hw,xU ht];exact h)) hw ht hD;generalize hR:(w+t+1)/2=R
 rcases Iw (C:=λi:HR A B=>Ph pF (i.r.n+1)) (b:=[lO 9 10 cF 1 oM,lO 10 9 m7 0 oL]) (t:=.v 11) (cA 1 1 R) (λ(i:HR A B)_(j:Option V×Option V×Option V)=>i.R x w y t j.1 j.2.1 j.2.2) (λi s=>i.T s) (λq s=>HI (bx w t (EF A B x y)) (bx w t (EB A B x w y t)) D q s)
  (λr=>∃i j,r=.tup [nI (x+i),nI (y+j)]/\wA A B x w y t D i j) (λi=>i.r.Z) (λq v s hv hs=>by
   obtain⟨hq,rfl⟩:=qv hv;have hv:(1:Int)+(q:Int)*1=((q+1:Nat):Int):=by exact bR [_] [] (.a .k1 (.r .c0 1)) (.c (.a .v0 .k1)) [] rfl
   rw[hv];rcases L6 hX hY n0 n1 D2 hD least q s (ai (cu hq) (hR▸ai (J5 (cK hz)) (by decide))) hs with⟨s',h1,h2⟩|⟨r,h1,h2⟩
   ·exact .inl ⟨s',h1,λi j Q qq=>h2 i j.2 Q λj'=>qq (_,j') _ (Sub.refl' _)⟩
   ·exact .inr ⟨r,h1,λi j Q qq=>h2 i j.2 Q qq⟩) ((λk=>if k=0 then some 0 else none,1),(λk=>if k=0 then some 0 else none,1))
   ⟨FP n0,FP n1,aC _,aC _,by exact au [_] [] (.tn (.m 2 .k0) .v0) 1 [(1,.ln (.k 2) .v0)] rfl D2⟩ with⟨s',hs,_⟩|⟨r,⟨i,j,rfl,hh⟩,run⟩
 ·have e1:=hs.d;rw[oi,<-hR]at e1;have e2:D<=t+w:=least _ (aD.edits (bJ w) (bJ t));exact pP (fQ [_,_,_,_] [] [(1,.tn (.m 2 .v0) .v1),(1,.ln .v1 (.a .v2 .v3)),(1,.tn (.a (.a .v3 .v2) .k1) (.m 2 (.a .v0 .k1)))] rfl e1 e2 (Nat.lt_mul_div_succ (w+t+1) (by decide:0<2)))
 ·refine⟨i,j,hh,λr Q q=>bN rfl ?_⟩;refine⟨rfl,?_⟩;refine fL (u:=nI w) (v:=nI t) (cv (aa rfl) (aa rfl) (by exact bR [_,_] [] (.s (.c (.a .v0 .v1)) .c0) .c1 [] rfl)) (cv (aa rfl) (aa rfl) (by exact bR [_,_] [] (.s (.c (.a .v0 .v1)) .c0) .c1 [] rfl)) rfl ?_;intro ra hra rb hrb;have ne:ra≠rb:=λe=>by rw[<-e,aP]at hrb;exact sn hrb
  have hrb':r.Z rb=none:=(aA ne.symm).symm.trans hrb;have z:=run ⟨r,ra,rb,hra,hrb',ne⟩ (none,none,none) (λo J Z=>match o with
   |.next=>az (Ph pF (r.n+1)) [.stop] J Z λo _ Z'=>∃v' Z'',Wk (jb o) Z' v' Z''/\Q v' Z''
   |.ret v=>∃v' Z'',Wk v Z v' Z''/\Q v' Z'') λJ' Z h=>j8 h q
  refine⟨rfl,?_⟩;have d0:dP 1 (λk=>if k=0 then some 0 else none)=.dI 1 (λj=>if j=0 then some (V.int 0) else none):=congrArg (M.dI 1) O0.symm;have z2:=Nb (J:=(HR.mk r ra rb hra hrb' ne).R x w y t none none none) rfl rfl hR hz z
  dsimp only [HR.T]at z2
  rw[<-jQ ne,d0]at z2;exact z2
end
end
section
def gE(A B:List Int)(i j:Nat):Prop:=A[i]?=B[j]?/\i<A.length/\j<B.length
def dO(A B:List Int)(x X y Y m:Nat):Prop:=aD (gE A B) x y X Y m/\∀c,aD (gE A B) x y X Y c->m<=c
abbrev Pt:=Nat×Nat×Nat×Nat
structure ox(G H:List Bool)(p:Pt):Prop where
 x:p.1<=p.2.1
 y:p.2.2.1<=p.2.2.2
 g:∀i,p.1<=i->i<p.2.1->G[i]?=some false
 h:∀i,p.2.2.1<=i->i<p.2.2.2->H[i]?=some false
def Jr(A B:List Int)(G H:List Bool)(x₀ y₀:Nat):List Pt->Nat->Nat->Nat->Prop
 |[],u,v,n=>∃c d,bg A B G H x₀ y₀ u v c d/\n=c+d
 |p::W,u,v,n=>ox G H p/\∃c d m n',bg A B G H p.2.1 p.2.2.2 u v c d/\dO A B p.1 p.2.1 p.2.2.1 p.2.2.2 m/\Jr A B G H x₀ y₀ W p.1 p.2.2.1 n'/\n=n'+m+(c+d)
section
variable{A B:List Int}{G H G' H':List Bool}
theorem bg.append{x y X Y X' Y' c d c' d':Nat}(h:bg A B G H x y X Y c d)(k:bg A B G H X Y X' Y' c' d'):bg A B G H x y X' Y' (c'+c) (d'+d):=by
 induction h with
 |nil=>exact k
 |keep a b e _ ih=>exact .keep a b e (ih k)
 |out g _ ih=>exact .out g (ih k)
 |inn g _ ih=>exact .inn g (ih k)
theorem bg.congr{x y X Y c d:Nat}(h:bg A B G H x y X Y c d)(g:∀i,x<=i->i<X->G'[i]?=G[i]?)(k:∀i,y<=i->i<Y->H'[i]?=H[i]?):bg A B G' H' x y X Y c d:=by
 induction h with
 |nil=>exact .nil
 |keep a b e h ih=>exact .keep a ((g _ (aC _) h.le.1).trans b) ((k _ (aC _) h.le.2).trans e) (ih (λi a=>g i (cL a)) λi a=>k i (cL a))
 |out b h ih=>exact .out ((g _ (aC _) h.le.1).trans b) (ih (λi a=>g i (cL a)) k)
 |inn e h ih=>exact .inn ((k _ (aC _) h.le.2).trans e) (ih g λi a=>k i (cL a))
theorem bg.way{x y X Y c d:Nat}(h:bg A B G H x y X Y c d)(hA:A.length=G.length)(hB:B.length=H.length):aD (gE A B) x y X Y (c+d):=by
 have lt{l:List Bool}{i:Nat}{b:Bool}(h:l[i]?=some b):i<l.length:=pz λz=>by rw[fH z]at h;exact nn h
 induction h with
 |nil=>exact .nil
 |keep a b e _ ih=>exact .keep ⟨a,hA▸lt b,hB▸lt e⟩ ih
 |@out x y X Y c d b h ih=>exact(mA c d)▸.out ih
 |inn e _ ih=>exact .inn ih
theorem bg.run{x y:Nat}(hg:∀t,A[x+t]?=B[y+t]?->True):∀{k:Nat},(∀t,t<k->A[x+t]?=B[y+t]?/\G[x+t]?=some false/\H[y+t]?=some false)->bg A B G H x y (x+k) (y+k) 0 0:=@λrr=>ni (@λ_=>.nil)
 (@λk ih h=>(ih λt ht=>h t (eL ht)).append (.keep (h k (bu k)).1 (h k (bu k)).2.1 (h k (bu k)).2.2 .nil)) rr
theorem bg.marks{x y:Nat}{k l:Nat}(g:∀i,x<=i->i<x+k->G[i]?=some true)(h:∀i,y<=i->i<y+l->H[i]?=some true):bg A B G H x y (x+k) (y+l) k l:=by
 have a:∀k,(∀i,x<=i->i<x+k->G[i]?=some true)->bg A B G H x y (x+k) y k 0:=by
  intro k;induction k with
  |zero=>exact λ_=>.nil
  |succ k ih=>
   intro g;have z:=(ih λi a b=>g i a (eL b)).append (.out (g _ (aL ..) (bu _)) .nil);rw[aU,cb 1 k]at z;exact z
 have b:∀l,(∀i,y<=i->i<y+l->H[i]?=some true)->bg A B G H (x+k) y (x+k) (y+l) 0 l:=by
  intro l;induction l with
  |zero=>exact λ_=>.nil
  |succ l ih=>
   intro g;have z:=(ih λi a b=>g i a (eL b)).append (.inn (g _ (aL ..) (bu _)) .nil);rw[aU,cb 1 l]at z;exact z
 have z:=(a k g).append (b l h);rw[aU]at z;exact z
theorem PJ{P:Nat->Prop}:∀{n:Nat},P n->∃m,P m/\∀c,P c->m<=c:=by
 have key:∀n,(∃m,P m/\∀c,P c->m<=c)\/∀m,m<n->¬P m:=by
  intro n;induction n with
  |zero=>exact .inr λm h=>absurd h (dM m)
  |succ n ih=>
   rcases ih with h|h
   ·exact .inl h
   ·by_cases q:P n
    ·exact .inl ⟨n,q,λc hc=>xZ λl=>h c l hc⟩
    ·exact .inr λm hm=>(j9.1 hm).elim (h m) λe=>e▸q
 exact λ{n}h=>(key (n+1)).elim id λk=>absurd h (k n (bu n))
theorem lq{x X y Y:Nat}(h:x<=X)(k:y<=Y):∃m,dO A B x X y Y m:=PJ (aD.edits h k)
theorem dO.uniq{x X y Y m n:Nat}(h:dO A B x X y Y m)(k:dO A B x X y Y n):m=n:=cX (h.2 _ k.1) (k.2 _ h.1)
section
variable{x₀ y₀:Nat}
theorem Jr.extend{u v u' v' c d:Nat}(k:bg A B G H u v u' v' c d){W:List Pt}{n:Nat}:Jr A B G H x₀ y₀ W u v n->Jr A B G H x₀ y₀ W u' v' (n+(c+d)):=li (λh=>g9 h λc' d' h e=>⟨_,_,h.append k,by rw[e,cb c c',cb d d',J4]⟩)
 (λp W _ h=>xt h.2 λc' d' m n' h' l j e=>⟨h.1,_,_,m,n',h'.append k,l,j,by rw[e,cb c c',cb d d',cq,J4 c' d' c d]⟩) W
theorem Jr.congr:∀{W:List Pt}{u v n:Nat},Jr A B G H x₀ y₀ W u v n->(∀i,i<u->G'[i]?=G[i]?)->(∀i,i<v->H'[i]?=H[i]?)->Jr A B G' H' x₀ y₀ W u v n
 :=λ{W}=>@(li (λ{u v n}h g k=>g9 h λc d h e=>⟨c,d,h.congr (λi _=>g i) λi _=>k i,e⟩)
 (λp W ih{u v n}h g k=>xt h.2 λc d m n' h' l j e=>
  have b:=h.1;have hu:=λi(q:i<p.2.1)=>g i (aQ q h'.le.1);have hv:=λi(q:i<p.2.2.2)=>k i (aQ q h'.le.2)
  ⟨⟨b.x,b.y,λi q r=>(hu i r).trans (b.g i q r),λi q r=>(hv i r).trans (b.h i q r)⟩,c,d,m,n',h'.congr (λi _=>g i) λi _=>k i,l,ih j (λi q=>hu i (aQ q b.x)) λi q=>hv i (aQ q b.y),e⟩) W)
theorem Jr.lay{p:Pt}{W:List Pt}{u v n c d:Nat}(h:Jr A B G H x₀ y₀ (p::W) u v n)(g:∀i,i<p.1\/p.2.1<=i->G'[i]?=G[i]?)(k:∀i,i<p.2.2.1\/p.2.2.2<=i->H'[i]?=H[i]?)(l:bg A B G' H' p.1 p.2.2.1 p.2.1 p.2.2.2 c d) :
  ∃m n',dO A B p.1 p.2.1 p.2.2.1 p.2.2.2 m/\n'+m=n+(c+d)/\Jr A B G' H' x₀ y₀ W u v n':=by
 obtain⟨b,c',d',m,n',h1,h2,h3,rfl⟩:=h;refine⟨m,_,h2,?_,((h3.congr (λi q=>g i (.inl q)) λi q=>k i (.inl q)).extend l).extend (h1.congr (λi q _=>g i (.inr q)) λi q _=>k i (.inr q))⟩;rw[dK (n'+(c+d)) (c'+d') m,dK n' (c+d) m,dK]
theorem Jr.split{x X y Y a b s:Nat}{W:List Pt}{u v n:Nat}(h:Jr A B G H x₀ y₀ ((x,X,y,Y)::W) u v n)(h1:x<=a)(h2:a+s<=X)(h3:y<=b)(h4:b+s<=Y)(hs:∀t,t<s->A[a+t]?=B[b+t]?) :
  ∃m m₁ m₂ n',dO A B x X y Y m/\dO A B x a y b m₁/\dO A B (a+s) X (b+s) Y m₂/\n'+m=n+(m₁+m₂)/\Jr A B G H x₀ y₀ ((a+s,X,b+s,Y)::(x,a,y,b)::W) u v n':=by
 obtain⟨bl,c',d',m,n',k1,k2,k3,rfl⟩:=h;refine bA (lq (A:=A) (B:=B) h1 h3) λm₁ l1=>?_;refine bA (lq (A:=A) (B:=B) h2 h4) λm₂ l2=>?_;have aX:a<=X:=ai (aL ..) h2;have bY:b<=Y:=ai (aL ..) h4;have r:bg A B G H a b (a+s) (b+s) 0 0:=bg.run (λ_ _=>trivial) λt ht=>⟨hs t ht,bl.g _ (ai h1 (aL ..)) (aQ (eE ht a) h2),bl.h _ (ai h3 (aL ..)) (aQ (eE ht b) h4)⟩
 refine⟨m,m₁,m₂,n'+m₁+m₂+(c'+d'),k2,l1,l2,?_,⟨h2,h4,λi q r=>bl.g i (ai (ai h1 (aL ..)) q) r,λi q r=>bl.h i (ai (ai h3 (aL ..)) q) r⟩,c',d',m₂,_,k1,l2,
  ⟨⟨h1,h3,λi q r=>bl.g i q (aQ r aX),λi q r=>bl.h i q (aQ r bY)⟩,0,0,m₁,n',r,l1,k3,rfl⟩,rfl⟩
 exact bE [_,_,_,_,_,_] [] (.a (.a (.a (.a .v0 .v1) .v2) (.a .v3 .v4)) .v5) (.a (.a (.a .v0 .v5) (.a .v3 .v4)) (.a .v1 .v2)) [] rfl
end
end
end
section
section
variable{A B:List Int}{G H:List Bool}{x X y Y x' X' y' Y':Nat}
theorem aD.run{e:Nat->Nat->Prop}{x y:Nat}:∀{k:Nat},(∀t,t<k->e (x+t) (y+t))->aD e x y (x+k) (y+k) 0:=@λrr=>ni (@λ_=>.nil)
 (@λk ih h=>(ih λt ht=>h t (eL ht)).append (.keep (h k (bu k)) .nil)) rr
theorem dO.trim{m:Nat}(hX:X<=A.length)(hY:Y<=B.length)(T:qG A B x X y Y x' X' y' Y')(h:dO A B x X y Y m):dO A B x' X' y' Y' m:=by
 obtain⟨⟨i,rfl,rfl,hi⟩,⟨j,rfl,rfl,hj⟩,hx,hy,_⟩:=T;obtain⟨p,rfl⟩:=bS hx;obtain⟨q,rfl⟩:=bS hy;have r1:aD (gE A B) x y (x+i) (y+i) 0:=aD.run λt ht=>⟨hi t ht,aQ (eE ht x) (ai (ai (aL _ p) (aL _ j)) hX),aQ (eE ht y) (ai (ai (aL _ q) (aL _ j)) hY)⟩
 have r2:aD (gE A B) (x+i+p) (y+i+q) (x+i+p+j) (y+i+q+j) 0:=aD.run λt ht=>⟨hj t ht,aQ (eE ht _) hX,aQ (eE ht _) hY⟩
 have up:∀{c},aD (gE A B) (x+i) (y+i) (x+i+p) (y+i+q) c->aD (gE A B) x y (x+i+p+j) (y+i+q+j) c:=λ{c}w=>by
  have z:=(r1.append w).append r2;rw[jK,aU]at z;exact z
 obtain⟨c,c1,c2⟩:=h.1.diags (m:=i) (ai (aL _ p) (aL _ j)) (ai (aL _ q) (aL _ j));refine ar c2.diagsE λc' c3 c4=>?_;have e:c'=m:=cX (ai c3 c1) (h.2 _ (up c4));exact⟨e▸c4,λc w=>h.2 c (up w)⟩
theorem Jr.trim{x₀ y₀ u v n:Nat}{W:List Pt}(hX:X<=A.length)(hY:Y<=B.length)(T:qG A B x X y Y x' X' y' Y')(h:Jr A B G H x₀ y₀ ((x,X,y,Y)::W) u v n):Jr A B G H x₀ y₀ ((x',X',y',Y')::W) u v n:=by
 obtain⟨bl,c,d,m,n',k1,k2,k3,rfl⟩:=h;have l2:=k2.trim hX hY T;obtain⟨⟨i,rfl,rfl,hi⟩,⟨j,rfl,rfl,hj⟩,hx,hy,_⟩:=T;have a1{a b c d:Nat}(h:a+b<=c):a+b<=c+d:=ai h (aL _ _);have r1:bg A B G H x y (x+i) (y+i) 0 0:=bg.run (λ_ _=>trivial) λt ht=>⟨hi t ht,bl.g _ (aL ..) (aQ (eE ht x) (a1 hx)),bl.h _ (aL ..) (aQ (eE ht y) (a1 hy))⟩
 have xx:x<=X':=ai (aL x i) hx;have yy:y<=Y':=ai (aL y i) hy;have r2:bg A B G H X' Y' (X'+j) (Y'+j) 0 0:=bg.run (λ_ _=>trivial) λt ht=>⟨hj t ht,bl.g _ (ai xx (aL ..)) (eE ht X'),bl.h _ (ai yy (aL ..)) (eE ht Y')⟩
 exact⟨⟨hx,hy,λt q r=>bl.g t (ai (aL x i) q) (aQ r (aL X' j)),λt q r=>bl.h t (ai (aL y i) q) (aQ r (aL Y' j))⟩,c,d,m,n',r2.append k1,l2,k3.extend r1,rfl⟩
structure MI(A B:List Int)(G₀ H₀:List Bool)(P:Pt)(W:List Pt)(G H:List Bool)(n:Nat):Prop where
 lg:G.length=A.length
 lh:H.length=B.length
 og:∀i,i<P.1\/P.2.1<=i->G[i]?=G₀[i]?
 oh:∀i,i<P.2.2.1\/P.2.2.2<=i->H[i]?=H₀[i]?
 j:Jr A B G H P.1 P.2.2.1 W P.2.1 P.2.2.2 n
theorem Jr.base{x₀ y₀:Nat}:∀{W:List Pt}{u v n:Nat},Jr A B G H x₀ y₀ W u v n->x₀<=u/\y₀<=v:=λ{W}=>@(li (λ{_ _ _}h=>g9 h λ_ _ h _=>h.le)
 (λp W ih{_ _ _}h=>xt h.2 λ_ _ _ _ h' _ j _=>⟨ai (ih j).1 (ai h.1.x h'.le.1),ai (ih j).2 (ai h.1.y h'.le.2)⟩) W)
theorem Jr.top{x₀ y₀ u v n:Nat}{p:Pt}{W:List Pt}(h:Jr A B G H x₀ y₀ (p::W) u v n):ox G H p/\x₀<=p.1/\p.2.1<=u/\y₀<=p.2.2.1/\p.2.2.2<=v:=by
 obtain⟨b,_,_,_,_,k,_,j,_⟩:=h;exact⟨b,j.base.1,k.le.1,j.base.2,k.le.2⟩
theorem MI.mark{G₀ H₀:List Bool}{P:Pt}{W:List Pt}{n k l:Nat}(h:MI A B G₀ H₀ P ((x,x+k,y,y+l)::W) G H n) :
  ∃m n',dO A B x (x+k) y (y+l) m/\n'+m=n+(k+l)/\MI A B G₀ H₀ P W (cU G x k) (cU H y l) n':=by
 have out{G:List Bool}{x k i:Nat}(h:i<x\/x+k<=i):(cU G x k)[i]?=G[i]?:=by
  rw[qd,if_neg λq=>h.elim (λz=>bc.2 q.1 z) λz=>bc.2 z q.2]
 have ins{G:List Bool}{x k i:Nat}(hG:∀i,x<=i->i<x+k->G[i]?=some false)(h1:x<=i)(h2:i<x+k):(cU G x k)[i]?=some true:=by
  rw[qd,if_pos ⟨h1,h2⟩,hG i h1 h2];rfl
 refine I5 h.j.top λbl b1 b2 b3 b4=>?_;refine cG (h.j.lay (G':=cU G x k) (H':=cU H y l) (λi q=>out q) (λi q=>out q) (bg.marks (λi=>ins bl.g) λi=>ins bl.h)) λm n' h1 h2 h3=>?_;exact⟨m,n',h1,h2,(nV ..).trans h.lg,(nV ..).trans h.lh,λi q=>(out (q.imp (λz=>aQ z b1) λz=>ai b2 z)).trans (h.og i q),λi q=>(out (q.imp (λz=>aQ z b3) λz=>ai b4 z)).trans (h.oh i q),h3⟩
noncomputable def wN:Nat->Nat
 |0=>1
 |n+1=>2*n+1
theorem HL:∀n,1<=wN n:=λrr=>ni (aC 1)
 (λn _=>df ..) rr
theorem AK:∀n,wN n<=2*n+1:=λrr=>ni (aC 1)
 (λn _=>kR (rA 2 (eM n)) 1) rr
theorem Tj:∀{m n:Nat},m<=n->wN m<=wN n
 |0,n,_=>HL n
 |m+1,n+1,h=>kR (rA 2 (pj h)) 1
theorem tm:∀{n:Nat},0<n->wN n+1=2*n
 |n+1,_=>rfl
noncomputable def wt(p:Pt):Nat:=wN (p.2.1-p.1+(p.2.2.2-p.2.2.1))
noncomputable def dp:List Pt->Nat
 |[]=>0
 |p::W=>wt p+dp W
end
end
section
noncomputable abbrev dG(p:Pt):V:=pt p.1 p.2.1 p.2.2.1 p.2.2.2
structure KR(A B:List Int)(G₀ H₀:List Bool)where
 n:Nat
 Z:ae
 s:Sh
 a:Nat
 hA:s.A=A
 hB:s.B=B
 hs:gF s G₀ H₀ Z
 ha:Z a=none
abbrev KS:=List Pt×List Bool×List Bool
section
variable{A B:List Int}{G₀ H₀ G H:List Bool}
noncomputable def KR.T(r:KR A B G₀ H₀)(s:KS):ae:=ak (ak (ak r.Z r.s.g (.list (vB s.2.1))) r.s.h (.list (vB s.2.2))) r.a (.list (s.1.reverse.map dG))
section
variable(r:KR A B G₀ H₀){W:List Pt}{p p':Pt}
theorem KR.na{z:Nat}{m:M}(h:r.Z z=some m):z≠r.a:=λe=>sn (h.symm.trans ((congrArg r.Z e).trans r.ha))
theorem KR.dg:r.s.d≠r.s.g:=kN r.hs.at_d r.hs.at_g rfl
theorem KR.dh:r.s.d≠r.s.h:=kN r.hs.at_d r.hs.at_h rfl
theorem KR.on(s:KS):jX r.s (r.T s):=(aA (r.na r.hs.at_d)).trans ((aA r.dh).trans ((aA r.dg).trans r.hs.at_d))
theorem KR.sheet:gF r.s G H (r.T (W,G,H)):=
 ⟨r.on _,(aA (r.na r.hs.at_g)).trans ((aA r.hs.gh).trans (aP ..)),(aA (r.na r.hs.at_h)).trans (aP ..),r.hs.gh⟩
theorem KR.top(s:KS):r.T s r.a=some (.list (s.1.reverse.map dG)):=aP ..
theorem KR.set{W':List Pt}{l:List V}(h:W'.reverse.map dG=l):ak (r.T (W,G,H)) r.a (.list l)=r.T (W',G,H):=by
 unfold KR.T;rw[dX,h]
theorem KR.marked{G' H':List Bool}:ak (ak (r.T (W,G,H)) r.s.g (.list (vB G'))) r.s.h (.list (vB H'))=r.T (W,G',H'):=by
 unfold KR.T;rw[<-jQ (r.na r.hs.at_g),<-jQ (r.na r.hs.at_h),jQ r.hs.gh.symm,dX,dX]
theorem KR.init:ak r.Z r.a (.list [dG p])=r.T ([p],G₀,H₀):=by
 have same:∀{Z:ae}{g:Nat}{m:M},Z g=some m->ak Z g m=Z:=λ{Z g m}h=>funext λc=>by
  by_cases e:c=g
  ·rw[e,aP,h]
  ·exact aA e
 unfold KR.T;rw[same r.hs.at_g,same r.hs.at_h];rfl
noncomputable abbrev KR.run(m:Nat)(s:KS):dQ A B:=⟨m,r.T s,r.s,r.hA,r.hB,r.on s⟩
theorem pD:(p::W).reverse.map dG=W.reverse.map dG++[dG p]:=by rw[rD,dw];rfl
theorem zf{m sv:Nat}{J:aj}(h0:rd J 0=some (.inst 2 r.s.d))(hs:rd J sv=some (.ref r.a))(ht:∀(r:dQ A B) Q,Q (dG p') r.Z->Ph pF (r.n+1) 35 [.inst 2 r.s.d,dG p] r.Z Q){Q:QV}(q:Q (dG p') (r.T (W,G,H))) :
  WE (Ph pF (m+1)) (.h (.x 0) 26 [.bm (.x sv) .pop []]) J (r.T (p::W,G,H)) Q:=by
 refine ao h0 (ao (cY (r.on _) rfl) (ao hs ⟨iZ (r.top _) rfl,ao (vH (r.top _)) (ao rfl (ao (a:=dG p) ?_ ?_))⟩))
 ·show((p::W).reverse.map dG).getLast? = _;rw[pD,BC]
 ·rw[r.set (W':=W) (by show _ = ((p::W).reverse.map dG).dropLast;rw[pD,List.dropLast_concat])];exact ht (r.run m (W,G,H)) Q q
theorem yO{m x k y l:Nat}(hx:x+k<=G.length)(hy:y+l<=H.length)(hG:G.length<=1000)(hH:H.length<=1000){Q:QV}(q:Q .none (r.T (W,cU G x k,cU H y l))):Ph pF (m+1) 36 [.inst 2 r.s.d,pt x (x+k) y (y+l)] (r.T (W,G,H)) Q:=
 mark r.sheet hx hy hG hH (r.marked.symm▸q)
theorem push{C:ax}{sv:Nat}{J:aj}{e:E}{rest:List S}{Q:QO}(hs:rd J sv=some (.ref r.a))(he:Ev C e J (r.T (W,G,H)) (dG p))(hl:W.length<1000)(q:az C rest J (r.T (p::W,G,H)) Q) :
  az C (.ex (.bm (.x sv) .append [e])::rest) J (r.T (W,G,H)) Q:=by
 refine ao hs ⟨iZ (r.top _) rfl,he _ (gc (kx (r.top _) ?_ ?_))⟩
 ·show(W.reverse.map dG).length<aJ;rw[aY,mx];exact fK hl (by decide)
 ·rw[r.set (W':=p::W) pD];exact q
end
theorem aD.shift{e e':Nat->Nat->Prop}{x y w t a b c d n:Nat}(m:∀i j,e (x+i) (y+j)->i<w->j<t->e' i j)(h:aD e a b c d n):∀{i j I Jaa},a=x+i->b=y+j->c=x+I->d=y+Jaa->I<=w->Jaa<=t->aD e' i j I Jaa n:=by
 induction h with
 |nil=>intro i j I Jaa h1 h2 h3 h4 _ _;cases uh (h1.symm.trans h3);cases uh (h2.symm.trans h4);exact .nil
 |keep q k ih=>
  intro i j I Jaa h1 h2 h3 h4 h5 h6;subst h1;subst h2;subst h3;subst h4;exact .keep (m i j q (aQ (t6 k.le.1) h5) (aQ (t6 k.le.2) h6)) (ih rfl rfl rfl rfl h5 h6)
 |out _ ih=>exact λh1 h2 h3 h4 h5 h6=>.out (ih (congrArg (·+1) h1) h2 h3 h4 h5 h6)
 |inn _ ih=>exact λh1 h2 h3 h4 h5 h6=>.inn (ih h1 (congrArg (·+1) h2) h3 h4 h5 h6)
theorem aD.unshift{e e':Nat->Nat->Prop}{x y i j I Jaa n:Nat}(m:∀i j,e' i j->e (x+i) (y+j))(h:aD e' i j I Jaa n):aD e (x+i) (y+j) (x+I) (y+Jaa) n:=by
 induction h with
 |nil=>exact .nil
 |keep q _ ih=>exact .keep (m _ _ q) ih
 |out _ ih=>exact .out ih
 |inn _ ih=>exact .inn ih
section
variable{x w y t m:Nat}(hX:x+w<=A.length)(hY:y+t<=B.length)
include hX hY
theorem Au(i j:Nat)(h:bx w t (EF A B x y) i j):gE A B (x+i) (y+j):=⟨h.2.2,aQ (eE h.1 x) hX,aQ (eE h.2.1 y) hY⟩
theorem Ui(h:dO A B x (x+w) y (y+t) m):aD (bx w t (EF A B x y)) 0 0 w t m/\∀c,aD (bx w t (EF A B x y)) 0 0 w t c->m<=c:=
 ⟨h.1.shift (λi j q a b=>⟨a,b,q.1⟩) rfl rfl rfl rfl (aC w) (aC t),λc k=>h.2 c (k.unshift (Au hX hY))⟩
end
end
end
section
theorem p0{C:ax}{J:aj}{Z:ae}{a:Nat}{l:List V}{e:E}(h:Ev C e J Z (.ref a))(hl:Z a=some (.list l)):aI C (.m .ne e (.lst false [])) J Z (l≠[]):=by
 have d:iL Z (.ref a)=.list l:=by unfold iL;simp only[gU hl]
 refine⟨!l.isEmpty,by cases l<;>simp,di h (λQ q=>q) ?_⟩;show(gN 4 (iL Z (.ref a)) (.list [])).map _ = _;rw[d];cases l<;>rfl
structure oH(A B:List Int)(G₀ H₀:List Bool)(P:Pt)(G H:List Bool)(n:Nat):Prop where
 lg:G.length=A.length
 lh:H.length=B.length
 og:∀i,i<P.1\/P.2.1<=i->G[i]?=G₀[i]?
 oh:∀i,i<P.2.2.1\/P.2.2.2<=i->H[i]?=H₀[i]?
 lay:∃c d,bg A B G H P.1 P.2.2.1 P.2.1 P.2.2.2 c d/\n=c+d
section
variable{A B:List Int}{G₀ H₀ G H:List Bool}{P p:Pt}{W:List Pt}{n:Nat}
theorem MI.laid(h:MI A B G₀ H₀ P [] G H n):oH A B G₀ H₀ P G H n:=⟨h.lg,h.lh,h.og,h.oh,h.j⟩
theorem oH.in(h:oH A B G₀ H₀ p G H n){G₁ H₁:List Bool}{n₁:Nat}(h₁:MI A B G₁ H₁ P (p::W) G₀ H₀ n₁):∃m n',dO A B p.1 p.2.1 p.2.2.1 p.2.2.2 m/\n'+m=n₁+n/\MI A B G₁ H₁ P W G H n':=by
 obtain⟨c,d,l,rfl⟩:=h.lay;obtain⟨bl,b1,b2,b3,b4⟩:=h₁.j.top;obtain⟨m,n',k1,k2,k3⟩:=h₁.j.lay h.og h.oh l;exact⟨m,n',k1,k2,h.lg,h.lh,λi q=>(h.og i (q.imp (λz=>aQ z b1) λz=>ai b2 z)).trans (h₁.og i q),λi q=>(h.oh i (q.imp (λz=>aQ z b3) λz=>ai b4 z)).trans (h₁.oh i q),k3⟩
theorem MI.first{m:Nat}(hA:G₀.length=A.length)(hB:H₀.length=B.length)(b:ox G₀ H₀ P)(h:dO A B P.1 P.2.1 P.2.2.1 P.2.2.2 m):MI A B G₀ H₀ P [P] G₀ H₀ m:=
 ⟨hA,hB,λ_ _=>rfl,λ_ _=>rfl,b,0,0,m,0,.nil,h,⟨0,0,.nil,rfl⟩,(aU m).symm⟩
theorem MI.trim{p':Pt}(hX:P.2.1<=A.length)(hY:P.2.2.2<=B.length)(h:MI A B G₀ H₀ P (p::W) G H n)(T:qG A B p.1 p.2.1 p.2.2.1 p.2.2.2 p'.1 p'.2.1 p'.2.2.1 p'.2.2.2):MI A B G₀ H₀ P (p'::W) G H n:=
 have b:=h.j.top
 ⟨h.lg,h.lh,h.og,h.oh,h.j.trim (ai b.2.2.1 hX) (ai b.2.2.2.2 hY) T⟩
theorem dO.edge{x X y Y m:Nat}(h:dO A B x X y Y m)(e:x=X\/y=Y):m=X-x+(Y-y):=by
 have l:=h.1.le;refine kQ h.1.kept λk i j h1 h2 h3=>?_;rcases e with e|e
 ·subst e;exact cX (au [_,_,_,_,_,_,_,_,_] [] (.ln .v0 (.a .v1 .v2)) 1 [(-1,.en .v3 (.a (.a .v4 .v5) .v6)),(1,.en .v0 (.a .v7 .v6)),(-1,.en .v8 (.a (.a .v8 .v5) .v7)),(1,.ln .v3 (.a .v2 .v4))] rfl h2 h3 h1 cW) (au [_,_,_,_,_,_,_,_,_] [] (.ln (.a .v0 .v1) .v2) 1 [(1,.en .v3 (.a (.a .v4 .v5) .v6)),(-1,.en .v2 (.a .v7 .v6)),(-1,.en .v8 (.a (.a .v8 .v5) .v7)),(1,.en (.a .v0 .v8) .v8),(1,.en (.a .v1 .v4) .v3)] rfl h2 h3 h1 (aZ l.1) (aZ l.2))
 ·subst e;exact cX (au [_,_,_,_,_,_,_,_,_] [] (.ln .v0 (.a .v1 .v2)) 1 [(-1,.en .v3 (.a (.a .v4 .v5) .v6)),(1,.en .v0 (.a .v6 .v7)),(-1,.en .v8 (.a (.a .v8 .v5) .v7)),(1,.ln .v3 (.a .v1 .v4))] rfl h1 h3 h2 cW) (au [_,_,_,_,_,_,_,_,_] [] (.ln (.a .v0 .v1) .v2) 1 [(1,.en .v3 (.a (.a .v4 .v5) .v6)),(-1,.en .v2 (.a .v6 .v7)),(-1,.en .v8 (.a (.a .v8 .v5) .v7)),(1,.en (.a .v0 .v4) .v3),(1,.en (.a .v1 .v8) .v8)] rfl h1 h3 h2 (aZ l.1) (aZ l.2))
theorem wd(p:Pt):1<=wt p:=HL _
theorem vM:∀W:List Pt,W.length<=dp W:=λrr=>li (aC _)
 (λp W ih=>ai (dA (cb W.length 1)) (ff (wd p) (ih))) rr
theorem z5{p p':Pt}(T:qG A B p.1 p.2.1 p.2.2.1 p.2.2.2 p'.1 p'.2.1 p'.2.2.1 p'.2.2.2):wt p'<=wt p:=by
 have h1:=T.i.elim λi h=>(h.1▸aL ..:p.1<=p'.1)
 have h2:=T.i.elim λi h=>(h.2.1▸aL ..:p.2.2.1<=p'.2.2.1)
 have h3:=T.j.elim λj h=>(h.1▸aL ..:p'.2.1<=p.2.1)
 have h4:=T.j.elim λj h=>(h.2.1▸aL ..:p'.2.2.2<=p.2.2.2)
 exact Tj (ff (ai (rn h3 _) (Kf h1 _)) (ai (rn h4 _) (Kf h2 _)))
theorem yw(hX:P.2.1<=A.length)(hY:P.2.2.2<=B.length)(h:MI A B G₀ H₀ P (p::W) G H n) :
  ∃p':Pt,qG A B p.1 p.2.1 p.2.2.1 p.2.2.2 p'.1 p'.2.1 p'.2.2.1 p'.2.2.2/\∀(r:dQ A B)Q,Q (dG p') r.Z->Ph pF (r.n+1) 35 [.inst 2 r.s.d,dG p] r.Z Q:=by
 have b:=h.j.top;refine I8 (Ta b.1.x (ai b.2.2.1 hX) b.1.y (ai b.2.2.2.2 hY)) λx' X' y' Y' T h=>?_;exact⟨(x',X',y',Y'),T,h⟩
end
end
section
section
variable{A B:List Int}{G₀ H₀ G H:List Bool}{P p:Pt}{W:List Pt}{n:Nat}
abbrev KJ:=Option V×Option V×Option V×Option V×Option V×Option V
noncomputable abbrev KR.R(r:KR A B G₀ H₀)(P:Pt)(j:KJ):aj:=[some (.inst 2 r.s.d),some (dG P),some (.ref r.a),j.1,j.2.1,j.2.2.1,j.2.2.2.1,j.2.2.2.2.1,j.2.2.2.2.2]
noncomputable abbrev AQ:List S:=[.s (.vs [3,4,5,6]) (.h (.x 0) 26 [.bm (.x 2) .pop []]),
   .ite (.o false [.m .eq (.x 3) (.x 4),.m .eq (.x 5) (.x 6)])
   [.ex (.h (.x 0) 27 [.tup [.x 3,.x 4,.x 5,.x 6]])]
   [.s (.vs [7,8]) (.h (.x 0) 29 [.tup [.x 3,.x 4,.x 5,.x 6]]),
    .ex (.bm (.x 2) .append [.tup [.x 3,.x 7,.x 5,.x 8]]),
    .ex (.bm (.x 2) .append [.tup [.x 7,.x 4,.x 8,.x 6]])]]
theorem jo{C:ax}{J:aj}{Z:ae}{a b c d:E}{u v w x:V}(h:Ev C a J Z u)(k:Ev C b J Z v)(l:Ev C c J Z w)(m:Ev C d J Z x):Ev C (.tup [a,b,c,d]) J Z (.tup [u,v,w,x]):=λQ q=>h _ (k _ (l _ (m _ q)))
theorem zp{C:ax}{J:aj}{Z:ae}{e:E}{i j k l:Nat}{u v w x:V}{rest:List S}{Q:QO}(h:WE C e J Z λy Z'=>y=.tup [u,v,w,x]/\az C rest (fZ J [i,j,k,l] [u,v,w,x]) Z' Q)(M:jU C):az C (.s (.vs [i,j,k,l]) e::rest) J Z Q:=
 eW M e _ _ _ _ (λy Z' z=>by obtain⟨rfl,z⟩:=z;exact⟨rfl,z⟩) h
theorem iX{C:ax}(M:jU C){s:S}{J:aj}{Z:ae}{Q:QO}(h:WS C s J Z Q):az C [s] J Z Q:=vd M s _ _ _ _ (λo J Z w=>by
 cases o with
 |next=>exact w
 |ret v=>exact w) h
theorem Mm(hX:P.2.1<=A.length)(hY:P.2.2.2<=B.length)(hz:A.length+B.length<=400)(hwt:wt P<=900){D:Nat}(h:MI A B G₀ H₀ P (p::W) G H D)(hw:dp (p::W)<=wt P) :
  ∃s':KS,MI A B G₀ H₀ P s'.1 s'.2.1 s'.2.2 D/\dp s'.1<dp (p::W)/\∀(r:KR A B G₀ H₀)(j:KJ)(Q:QO),(∀(j:KJ)Z,Sub (r.T s') Z->Q .next (r.R P j) Z)->az (Ph pF (r.n+2)) AQ (r.R P j) (r.T (p::W,G,H)) Q:=by
 refine ar (yw hX hY h) λpp10_ T tr=>?_;obtain⟨x,X,y,Y⟩:=pp10_;have h2:=h.trim hX hY T;have b:=h2.j.top;have lX:X<=A.length:=ai b.2.2.1 hX;have lY:Y<=B.length:=ai b.2.2.2.2 hY;obtain⟨k,rfl⟩:=bS (show x<=X from b.1.x);obtain⟨l,rfl⟩:=bS (show y<=Y from b.1.y);have fst:∀(r:KR A B G₀ H₀)(j:KJ)(Q:QO),WS (Ph pF (r.n+2)) (.ite (.o false [.m .eq (.x 3) (.x 4),.m .eq (.x 5) (.x 6)])
   [.ex (.h (.x 0) 27 [.tup [.x 3,.x 4,.x 5,.x 6]])]
   [.s (.vs [7,8]) (.h (.x 0) 29 [.tup [.x 3,.x 4,.x 5,.x 6]]),
    .ex (.bm (.x 2) .append [.tup [.x 3,.x 7,.x 5,.x 8]]),
    .ex (.bm (.x 2) .append [.tup [.x 7,.x 4,.x 8,.x 6]])]) (r.R P (some (nI x),some (nI (x+k)),some (nI y),some (nI (y+l)),j.2.2.2.2)) (r.T (W,G,H)) Q->az (Ph pF (r.n+2)) AQ (r.R P j) (r.T (p::W,G,H)) Q:=
  λr j Q q=>zp (u:=nI x) (v:=nI (x+k)) (w:=nI y) (x:=nI (y+l)) (zf r rfl rfl tr ⟨rfl,iX (cD pF _) q⟩) (cD pF _)
 have tv:∀(r:KR A B G₀ H₀)j,aI (Ph pF (r.n+2)) (.o false [.m .eq (.x 3) (.x 4),.m .eq (.x 5) (.x 6)]) (r.R P (some (nI x),some (nI (x+k)),some (nI y),some (nI (y+l)),j)) (r.T (W,G,H)) (x=x+k\/y=y+l):=
  λr j=>iW (lp (aa rfl) (aa rfl)) λ_=>lp (aa rfl) (aa rfl)
 have wtt:=z5 T;have lens:G.length<=400/\H.length<=400:=⟨h.lg▸ai (aL ..) hz,h.lh▸ai (df ..) hz⟩
 by_cases e:x=x+k\/y=y+l
 ·obtain⟨m,n',h3,h4,h5⟩:=h2.mark;have:=h3.edge e;refine⟨(W,cU G x k,cU H y l),(show n'=D by exact bE [_,_,_,_,_,_,_,_,_] [] .v0 .v1 [(-1,.en (.a .v0 .v2) (.a .v1 (.a .v3 .v4))),(1,.en .v2 (.a .v5 .v6)),(1,.en (.a .v5 .v7) (.a .v7 .v3)),(1,.en (.a .v6 .v8) (.a .v8 .v4))] rfl h4 this (aZ (au [_,_] [] (.ln .v0 (.a .v0 .v1)) 1 [] rfl)) (aZ (au [_,_] [] (.ln .v0 (.a .v0 .v1)) 1 [] rfl)))▸h5,xC (wd p),λr j Q q=>fst r j Q (dF (tv r _) e ?_)⟩;exact ao (cY (r.on _) rfl) (yO r (h.lg▸lX) (h.lh▸lY) (ai lens.1 (by decide)) (ai lens.2 (by decide)) (ao rfl (q _ _ (Sub.refl' _))))
 ·have hk:0<k:=pv λz=>e (.inl (by rw[z];rfl));have hl:0<l:=pv λz=>e (.inr (by rw[z];rfl));have no:=T.no (hE hk) (hE hl);refine bA (lq (A:=A) (B:=B) (aL x k) (aL y l)) λm hm=>?_;refine aT (Ui lX lY hm) λhm1 hm2=>?_;refine g9 (TY lX lY (by exact au [_,_,_,_,_,_] [] (.ln (.a .v0 .v1) (.k 900)) 1 [(1,.ln (.a .v2 .v3) (.k 400)),(1,.ln (.a .v4 .v0) .v2),(1,.ln (.a .v5 .v1) .v3)] rfl hz lX lY) hk hl no.1 no.2 hm1 hm2) λi j pp72_ run=>?_;obtain⟨hi,hj,p1,p2,d₁,d₂,w1,w2,hd⟩:=pp72_;refine I9 (h2.j.split (a:=x+i) (b:=y+j) (s:=0) (aL x i) (kT hi x) (aL y j) (kT hj y) λt h=>absurd h (dM t)) λm' m₁ m₂ n' s1 s2 s3 s4 s5=>?_;have u1:=s2.2 _ (w1.unshift (Au lX lY));have u2:=s3.2 _ (w2.unshift (Au lX lY));have u3:=hm.2 _ (s2.1.append s3.1);have u4:=s1.uniq hm;have hW:W.length+1<=900:=ai (vM (p::W)) (ai hw hwt);refine⟨((x+i,x+k,y+j,y+l)::(x,x+i,y,y+j)::W,G,H),⟨h.lg,h.lh,h.og,h.oh,(show n'=D by exact cX (au [_,_,_,_,_,_,_,_] [] (.ln .v0 .v1) 1 [(1,.en (.a .v2 .v3) .v4),(1,.en (.a .v0 .v5) (.a .v1 (.a .v6 .v7))),(1,.ln .v6 .v2),(1,.ln .v7 .v3),(-1,.en .v5 .v4)] rfl hd s4 u1 u2 u4) (au [_,_,_,_,_,_] [] (.ln .v0 .v1) 1 [(-1,.en (.a .v1 .v2) (.a .v0 (.a .v3 .v4))),(1,.ln .v5 (.a .v4 .v3)),(1,.en .v2 .v5)] rfl s4 u3 u4))▸s5⟩,?_,λr jj Q q=>fst r jj Q (bH (tv r _) e ?_)⟩
  ·have:wt (x+i,x+k,y+j,y+l)+wt (x,x+i,y,y+j)<wt (x,x+k,y,y+l):=by
    have z1:=tm (n:=x+k-(x+i)+(y+l-(y+j))) (by rw[pq,pq];exact(au [_,_,_,_,_,_] [] (.tn .k0 (.a .v0 .v1)) 1 [(1,.tn (.a .v2 .v3) (.a .v4 .v5)),(1,.ln .v4 (.a .v0 .v2)),(1,.ln .v5 (.a .v1 .v3))] rfl p2 cW cW));have z2:=tm (n:=x+i-x+(y+j-y)) (by rw[cC,cC];exact p1);have z3:=tm (n:=x+k-x+(y+l-y)) (by rw[cC,cC];exact aQ p1 (ff hi hj));rw[pq,pq]at z1;rw[cC,cC]at z2 z3;unfold wt
    dsimp only
    rw[cC,cC,cC,cC,pq,pq];exact au [_,_,_,_,_,_,_,_,_] [] (.tn (.a .v0 .v1) .v2) 1 [(1,.en (.a .v0 .k1) (.m 2 (.a .v3 .v4))),(1,.en (.a .v1 .k1) (.m 2 (.a .v5 .v6))),(-1,.en (.a .v2 .k1) (.m 2 (.a .v7 .v8))),(2,.en (.a .v3 .v5) .v7),(2,.en (.a .v4 .v6) .v8)] rfl z1 z2 z3 (aZ hi) (aZ hj)
   show wt _+(wt _+dp W)<wt p+dp W;rw[<-cq];exact uf (aQ this wtt) _
  ·refine ao (cY (r.on _) rfl) (run (r.run r.n (W,G,H)) _ ⟨rfl,?_⟩);refine push r (p:=(x,x+i,y,y+j)) rfl (jo (aa rfl) (aa rfl) (aa rfl) (aa rfl)) (aQ hW (by decide)) ?_;exact push r (p:=(x+i,x+k,y+j,y+l)) rfl (jo (aa rfl) (aa rfl) (aa rfl) (aa rfl)) (bC hW (by decide)) (q (some (nI x),some (nI (x+k)),some (nI y),some (nI (y+l)),some (nI (x+i)),some (nI (y+j))) _ (Sub.refl' _))
theorem ym(hX:P.2.1<=A.length)(hY:P.2.2.2<=B.length)(hz:A.length+B.length<=400)(hA:G₀.length=A.length)(hB:H₀.length=B.length)(b:ox G₀ H₀ P){D:Nat}(hD:dO A B P.1 P.2.1 P.2.2.1 P.2.2.2 D) :
  ∃G H,oH A B G₀ H₀ P G H D/\∀n Z(s:Sh),s.A=A->s.B=B->gF s G₀ H₀ Z->∀Q:QV,Q .none (ak (ak Z s.g (.list (vB G))) s.h (.list (vB H)))->Ph pF (n+3) 39 [.inst 2 s.d,dG P] Z Q:=by
 have hwt:wt P<=900:=by
  have h1:P.2.1-P.1<=A.length:=ai (ew ..) hX;have h2:P.2.2.2-P.2.2.1<=B.length:=ai (ew ..) hY;exact ai (AK _) (by exact au [_,_,_,_] [] (.ln (.a (.m 2 (.a .v0 .v1)) .k1) (.k 900)) 1 [(2,.ln (.a .v2 .v3) (.k 400)),(2,.ln .v0 .v2),(2,.ln .v1 .v3)] rfl hz h1 h2)
 obtain⟨⟨W,G,H⟩,⟨hI,_⟩,ht,run⟩:=fi (C:=λr:KR A B G₀ H₀=>Ph pF (r.n+2)) (c:=.m .ne (.x 2) (.lst false [])) (b:=AQ) (λr(_:KS)(j:KJ)=>r.R P j) (λr s=>r.T s)
  (λs=>MI A B G₀ H₀ P s.1 s.2.1 s.2.2 D/\dp s.1<=wt P) (λs=>dp s.1) (λs=>s.1.reverse.map dG≠[]) (λs hs r j=>p0 (aa rfl) (r.top s))
  (λs=>oW (λW G H=>lz (λhs ht=>absurd rfl ht) (λp W hs _=>
    cm (Mm hX hY hz hwt hs.1 hs.2) λs' h1 h2 h3=>⟨s',⟨h1,ai (cu h2) hs.2⟩,h2,h3⟩) W) s) ([P],G₀,H₀) ⟨MI.first hA hB b hD,aC _⟩
 have hW:W=[]:=by
  cases W with
  |nil=>rfl
  |cons p W=>exact absurd (λz=>by rw[pD]at z;exact absurd z (by simp)) ht
 subst hW;refine⟨G,H,hI.laid,λn Z s sA sB hs Q q=>bN rfl ?_⟩;intro a ha;have z:=run ⟨n,Z,s,a,sA,sB,hs,ha⟩ (none,none,none,none,none,none) (λo J Z=>∃v' Z'',Wk (jb o) Z v' Z''/\Q v' Z'') λj=>j8 (Z':=ak (ak Z s.g (.list (vB G))) s.h (.list (vB H))) (λz m h=>(aA λe=>?_).trans h) q
 ·rw[<-KR.init]at z;exact iX (cD pF _) z
 ·have ng:a≠s.g:=λz=>by rw[z,hs.at_g]at ha;cases ha
  have nh:a≠s.h:=λz=>by rw[z,hs.at_h]at ha;cases ha
  rw[e,aA nh,aA ng,ha]at h;exact nn h
end
end
abbrev Ln:=List UInt8
noncomputable def nA(a b:List Ln):List Int:=iD (cw (cw [] a) b) a
noncomputable def nB(a b:List Ln):List Int:=iD (cw (cw [] a) b) b
theorem dY(a b:List Ln):(nA a b).length=a.length:=aY ..
theorem d7(a b:List Ln):(nB a b).length=b.length:=aY ..
structure gm(a b:List Ln)(cs:List (Nat×Nat×Nat×Nat))(G H:List Bool)(c d:Nat):Prop where
 lg:G.length=a.length
 lh:H.length=b.length
 lay:bg (nA a b) (nB a b) G H 0 0 a.length b.length c d
 chg:g6 G H 0 0 cs
theorem vJ{n i:Nat}(h:i<n):(aR n false)[i]?=some false:=by rw[pg,if_pos h]
theorem D8{n:Nat}{a b:List Ln}{i:Nat}{rest:List S}{J:aj}{Z:ae}{Q:QO}(hz:a.length+b.length<1000)(he:rd J 0=some (.list (vY a)))(hf:rd J 1=some (.list (vY b)))
  (q:∀(s:Sh)Z',s.A=nA a b->s.B=nB a b->gF s (aR a.length false) (aR b.length false) Z'->Sub Z Z'->Z s.g=none->Z s.h=none->az (Ph pF (n+3)) rest (wr J i (.inst 2 s.d)) Z' Q) :
  az (Ph pF (n+3)) (.s (.v i) (.new false 2 [.x 0,.x 1])::rest) J Z Q:=
 ao he (ao hf λd hd=>DT hd hz λs Z' s1 s2 s3 s4 hg hh hs=>ao rfl (s1▸q s Z' s2 s3 s4 hs hg hh))
theorem yT{Z Z':ae}{g h:Nat}{m m':M}(s:Sub Z Z')(hg:Z g=none)(hh:Z h=none):Sub Z (ak (ak Z' g m) h m'):=λz k e=>
 (aA λq=>by rw[q,hh]at e;exact nn e).trans ((aA λq=>by rw[q,hg]at e;exact nn e).trans (s z k e))
theorem pO{s:Sh}{Z:ae}{G H G' H':List Bool}(h:gF s G H Z):gF s G' H' (ak (ak Z s.g (.list (vB G'))) s.h (.list (vB H'))):=by
 have dg:s.d≠s.g:=kN h.at_d h.at_g rfl;have dh:s.d≠s.h:=kN h.at_d h.at_h rfl;exact⟨(aA dh).trans ((aA dg).trans h.at_d),(aA h.gh).trans (aP ..),aP ..,h.gh⟩
theorem Ao{a b:List Ln}(hz:a.length+b.length<=400){G H:List Bool}{D:Nat}(L:oH (nA a b) (nB a b) (aR a.length false) (aR b.length false) (0,a.length,0,b.length) G H D) :
  ∃cs c d,D=c+d/\gm a b cs G H c d/\∀n Z(s:Sh),s.A=nA a b->s.B=nB a b->gF s G H Z->∀Q:QV,Q (.list (cs.map aV)) Z->Ph pF (n+2) 37 [.inst 2 s.d] Z Q:=by
 refine g9 L.lay λc d lay e=>?_;have lg:=L.lg;have lh:=L.lh;rw[dY]at lg;rw[d7]at lh;refine ar (C4 (A:=nA a b) (B:=nB a b) (G:=G) (H:=H) L.lg.symm L.lh.symm (by rw[lg,lh];exact ai hz (by decide)) (c:=c) (d:=d) (by rw[lg,lh];exact lay)) λcs h1 h2=>?_;exact⟨cs,c,d,e,⟨lg,lh,lay,h1⟩,λn Z s sA sB hs Q q=>h2 n Z s.d (.ref s.g) (.ref s.h) (by rw[hs.at_d,sA,sB]) (.inr ⟨s.g,rfl,hs.at_g⟩) (.inr ⟨s.h,rfl,hs.at_h⟩) Q q⟩
section
section
variable{a b:List Ln}
theorem GH{m f K:Nat}(hm:lQ 2 m=some f){G H:List Bool}{cs:List (Nat×Nat×Nat×Nat)}(hz:a.length+b.length<1000)(hK:3<=K)
  (run:∀n Z(s:Sh),s.A=nA a b->s.B=nB a b->gF s (aR a.length false) (aR b.length false) Z->∀Q:QV,Q .none (ak (ak Z s.g (.list (vB G))) s.h (.list (vB H)))->Ph pF (n+K) f [.inst 2 s.d,pt 0 a.length 0 b.length] Z Q)
  (chg:∀n Z(s:Sh),s.A=nA a b->s.B=nB a b->gF s G H Z->∀Q:QV,Q (.list (cs.map aV)) Z->Ph pF (n+2) 37 [.inst 2 s.d] Z Q)
  {n:Nat} {Z:ae} {Q:QV} (q:Q (.list (cs.map aV)) Z) :
  az (Ph pF (n+K)) [.s (.v 2) (.new false 2 [.x 0,.x 1]),.ex (.h (.x 2) m [.h (.x 2) 25 []]),.ret (.h (.x 2) 28 [])] [some (.list (vY a)),some (.list (vY b)),none] Z λo _ Z'=>∃v' Z'',Wk (jb o) Z' v' Z''/\Q v' Z'':=by
 obtain⟨k,rfl⟩:=bS hK;have e3:n+(3+k)=n+k+3:=by rw[cb 3 k,cq]
 have r:=run n;rw[e3]at r ⊢;refine D8 hz rfl rfl λs Z' sA sB hs sub hg hh=>ao (cY hs.at_d hm) (ao (cY hs.at_d rfl) (Ik hs.at_d ?_));have lA:s.A.length=a.length:=by rw[sA,dY]
 have lB:s.B.length=b.length:=by rw[sB,d7]
 rw[lA,lB];refine r Z' s sA sB hs _ (ao rfl (ao (cY (pO hs).at_d rfl) (chg (n+k+1) _ s sA sB (pO hs) _ (j8 (yT sub hg hh) q))))
theorem yC:ox (aR a.length false) (aR b.length false) (0,a.length,0,b.length):=⟨bJ _,bJ _,λ_ _ h=>vJ h,λ_ _ h=>vJ h⟩
theorem jr(n:Nat):(aR n false).length=n:=dq
theorem AE(hz:a.length+b.length<=400):∃cs G H c d,gm a b cs G H c d/\dO (nA a b) (nB a b) 0 a.length 0 b.length (c+d)/\∀n Z(Q:QV),Q (.list (cs.map aV)) Z->Ph pF (n+4) 3 [.list (vY a),.list (vY b)] Z Q:=by
 refine bA (lq (A:=nA a b) (B:=nB a b) (bJ a.length) (bJ b.length)) λD hD=>?_;refine g9 (ym (A:=nA a b) (B:=nB a b) (P:=(0,a.length,0,b.length)) (dA (dY a b).symm) (dA (d7 a b).symm) (by rw[dY,d7];exact hz) ((jr _).trans (dY a b).symm) ((jr _).trans (d7 a b).symm) yC hD) λG H L run=>?_;obtain⟨cs,c,d,rfl,T,chg⟩:=Ao hz L;exact⟨cs,G,H,c,d,T,hD,λn Z Q q=>bN rfl (GH (K:=3) rfl (bC hz (by decide)) (aC 3) run chg q)⟩
end
end
section
noncomputable abbrev dZ(m:Nat)(f:Int->Option Int):M:=.dI m λk=>(f k).map .int
section
variable{Z:ae}{r m:Nat}{f:Int->Option Int}{k z:Int}
theorem yK(h:Z r=some (dZ m f)):dD Z r (.int k)=some ((f k).map .int):=by unfold dD;rw[h];rfl
theorem FT(h:Z r=some (dZ m f))(e:f k=some z):eP Z (.ref r) (.int k)=some (.int z):=by
 have a:cc Z r=none:=by unfold cc;rw[h];rfl
 show(match cc Z r with|some l=>_|none=>(dD Z r (.int k)).bind λo=>o) = _;rw[a,yK h,e];rfl
noncomputable def w7(f:Int->Option Int)(k z:Int):Int->Option Int:=λj=>if j=k then some z else f j
theorem UT{Q:ae->Prop}(h:Z r=some (dZ m f))(hm:m<aJ)(q:Q (ak Z r (dZ (m+1) (w7 f k z)))):jw Z (.ref r) (.int k) (.int z) Q:=by
 refine ao (a:=r) rfl (ao h (ao (a:=k) rfl ⟨hm,?_⟩));have e:(λj=>((w7 f k z) j).map V.int)=λj=>if j=k then some (.int z) else(f j).map .int:=funext λj=>by
  unfold w7;by_cases c:j=k
  ·rw[if_pos c,if_pos c];rfl
  ·rw[if_neg c,if_neg c]
 exact e▸q
theorem C5{C:ax}{J:aj}{a b:E}(h:Z r=some (dZ m f))(ha:Ev C a J Z (.int k))(hb:Ev C b J Z (.ref r)):aI C (.m .notin a b) J Z (f k=none):=
 ⟨!(f k).isSome,by cases f k<;>simp,di ha hb (show rP _ ((dD Z r (.int k)).map _) = _ by rw[yK h];cases f k<;>rfl)⟩
end
noncomputable def cT(A:List Int)(x:Nat):Nat->Int->Option Int
 |0=>λ_=>none
 |k+1=>w7 (cT A x k) (A.getD (x+k) 0) (if cT A x k (A.getD (x+k) 0)=none then((x+k:Nat):Int) else -1)
section
variable{A:List Int}{x:Nat}
theorem DM{v z:Int}:∀{k:Nat},cT A x k v=some z->∃p:Nat,(z = -1\/z=p)/\x<=p/\p<x+k/\A.getD p 0=v:=@λrr=>ni (@λh=>nn h)
 (@λk ih h=>by
  by_cases c:v=A.getD (x+k) 0
  ·replace h:=(show cT A x (k+1) v = _ from if_pos c).symm.trans h;refine⟨x+k,?_,aL ..,bu _,c.symm⟩;by_cases d:cT A x k (A.getD (x+k) 0)=none
   ·rw[if_pos d]at h;(injection h with h;subst h);exact .inr rfl
   ·rw[if_neg d]at h;(injection h with h;subst h);exact .inl rfl
  ·exact(ih ((show cT A x (k+1) v = _ from if_neg c).symm.trans h)).imp λp h=>⟨h.1,h.2.1,eL h.2.2.1,h.2.2.2⟩) rr
theorem Sa{p:Nat}(hx:x<=p):∀{k:Nat},p<x+k->cT A x k (A.getD p 0)≠none:=@λrr=>ni (@λh=>absurd h (bc.2 hx))
 (@λk ih h=>by
  by_cases c:A.getD p 0=A.getD (x+k) 0
  ·rw[show cT A x (k+1) (A.getD p 0) = _ from if_pos c];exact λe=>sn e
  ·rw[show cT A x (k+1) (A.getD p 0) = _ from if_neg c];exact ih ((j9.1 h).resolve_right λe=>c (e▸rfl))) rr
theorem DL{p:Nat}(hx:x<=p):∀{k:Nat},p<x+k->(∀q,x<=q->q<x+k->A.getD q 0=A.getD p 0->q=p)->cT A x k (A.getD p 0)=some (p:Int):=@λrr=>ni (@λh _=>absurd h (bc.2 hx))
 (@λk ih h u=>by
  by_cases c:A.getD p 0=A.getD (x+k) 0
  ·have e:=u (x+k) (aL ..) (bu _) c.symm;have n:cT A x k (A.getD (x+k) 0)=none:=by
    cases w:cT A x k (A.getD (x+k) 0) with
    |none=>rfl
    |some z=>
     refine oZ (DM w) λq _ h1 h2 h3=>?_;have:=u q h1 (eL h2) (h3.trans c.symm);rw[this,<-e]at h2;exact absurd h2 (gP _)
   rw[show cT A x (k+1) (A.getD p 0) = _ from if_pos c,if_pos n,e]
  ·rw[show cT A x (k+1) (A.getD p 0) = _ from if_neg c];exact ih ((j9.1 h).resolve_right λe=>c (e▸rfl)) λq a b=>u q a (eL b)) rr
end
end
section
structure DR(L:List Int)(at':bG)(dv:Nat)where
 n:Nat
 U:ae
 d:Nat
 r:Nat
 l1:Option V
 l2:Option V
 l3:Option V
 l4:Option V
 l5:Option V
 l6:Option V
 l7:Option V
 hr:∀j,rd [some (.inst 2 d),l1,l2,l3,l4,l5,l6,l7,j,none] dv=some (.ref r)
 hL:∀m f,jE (ak U r (dZ m f)) (.inst 2 d) at'=some (.list (vI L))
section
variable{L:List Int}{at':bG}{dv:Nat}
noncomputable def DR.R(i:DR L at' dv)(j:Option V):aj:=[some (.inst 2 i.d),i.l1,i.l2,i.l3,i.l4,i.l5,i.l6,i.l7,j,none]
noncomputable def DR.T(i:DR L at' dv)(x k:Nat):ae:=ak i.U i.r (dZ k (cT L x k))
noncomputable abbrev AA(at':bG)(dv:Nat):List S:=[.s (.i (.x dv) (.i (.a (.x 0) at') (.x 8))) (.ite (.m .notin (.i (.a (.x 0) at') (.x 8)) (.x dv)) (.x 8) (.neg (.c (.int 1))))]
theorem ve{C:ax}{J:aj}{Z:ae}{a b:E}{u v x:V}{Q:aj->ae->Prop}(h:Ev C a J Z u)(k:Ev C b J Z v)(q:jw Z u v x λZ=>Q J Z):jC C (.i a b) x J Z Q:=h _ (k _ q)
theorem N9(i:DR L at' dv){x k:Nat}(h:x+k<L.length)(hk:k<1000){Q:QO}(q:Q .next (i.R (some (nI (x+k)))) (i.T x (k+1))):az (Ph pF i.n) (AA at' dv) (i.R (some (nI (x+k)))) (i.T x k) Q:=by
 have hT:i.T x k i.r=some (dZ k (cT L x k)):=aP ..;have ev:Ev (Ph pF i.n) (.i (.a (.x 0) at') (.x 8)) (i.R (some (nI (x+k)))) (i.T x k) (.int (L.getD (x+k) 0)):=
  bW (br (aa rfl) (i.hL _ _)) (aa rfl) (by rw[oc h];exact p7 (bL h))
 have dvE:Ev (Ph pF i.n) (.x dv) (i.R (some (nI (x+k)))) (i.T x k) (.ref i.r):=aa (i.hr _);have tl:∀z,z=(if cT L x k (L.getD (x+k) 0)=none then((x+k:Nat):Int) else -1)->jC (Ph pF i.n) (.i (.x dv) (.i (.a (.x 0) at') (.x 8))) (.int z) (i.R (some (nI (x+k)))) (i.T x k) (Q .next):=λz e=>
  ve dvE ev (UT hT (fK hk (by decide)) (by subst e;rw[DR.T,dX];exact q))
 by_cases c:cT L x k (L.getD (x+k) 0)=none
 ·exact iY (C5 hT ev dvE) c (tl _ (if_pos c).symm)
 ·exact iu (C5 hT ev dvE) c (tl (-1) (if_neg c).symm)
theorem DK(x k:Nat)(h:x+k<=L.length)(hk:k<1000):∀(i:DR L at' dv)(j:Option V)(Q:QO),(∀j,Q .next (i.R j) (i.T x k))->∃n,bZ (.vals (cA x 1 k)) (.v 8) (λJ Z Q=>az (Ph pF i.n) (AA at' dv) J Z Q) Q n 0 (i.R j) (i.T x 0):=by
 obtain⟨s,hs,run⟩:=s7 (C:=λi:DR L at' dv=>Ph pF i.n) (b:=AA at' dv) (t:=.v 8) (cA x 1 k) (λi(_:Nat)j=>i.R j) (λi s=>i.T x s) (λq s=>s=q) (λq v s hv hs=>by
  obtain⟨hq,rfl⟩:=qv hv;subst hs;have e:(x:Int)+(s:Int)*1=((x+s:Nat):Int):=by rw[pL];rfl
  rw[e];exact⟨s+1,rfl,λi j Q q=>N9 i (aQ (eE hq x) h) (fK hq hk) (q _ _ (Sub.refl' _))⟩) 0 rfl
 rw[oi]at hs;subst hs;exact run
end
end
section
theorem TL{C:ax}{J:aj}{Z:ae}{a b c:E}{r m:Nat}{f:Int->Option Int}{k d:Int}(h:Z r=some (dZ m f))(ha:Ev C a J Z (.ref r))(hb:Ev C b J Z (.int k))(hc:Ev C c J Z (.int d)):Ev C (.bm a .get [b,c]) J Z (.int ((f k).getD d)):=λQ q=>by
 have e1:tj Z (.ref r) .get=true:=by show mM Z r=true;unfold mM;rw[h]
 have e2:wi Z (.ref r) (.int k) (.int d)=some (.int ((f k).getD d)):=by
  show(dD Z r (.int k)).map _ = _;rw[yK h];cases f k<;>rfl
 exact ha _ ⟨e1,hb _ (hc _ (gc (ao e2 q)))⟩
noncomputable abbrev de(e:Nat×Nat):V:=.tup [nI e.1,nI e.2]
structure PR(A B:List Int)where
 r:dQ A B
 pa:Nat
 pb:Nat
 pf:Nat
 ha:r.Z pa=none
 hb:r.Z pb=none
 hf:r.Z pf=none
 ab:pa≠pb
 af:pa≠pf
 bf:pb≠pf
section
variable{A B:List Int}{x k y l:Nat}
noncomputable def PR.T(i:PR A B)(x k y l:Nat)(ps:List (Nat×Nat)):ae:=ak (ak (ak i.r.Z i.pa (dZ k (cT A x k))) i.pb (dZ l (cT B y l))) i.pf (.list (ps.map de))
noncomputable def PR.R(i:PR A B)(x k y l:Nat)(j:Option V):aj:=[some (.inst 2 i.r.s.d),some (pt x (x+k) y (y+l)),some (nI x),some (nI (x+k)),some (nI y),some (nI (y+l)),some (.ref i.pa),some (.ref i.pb),j,some (.ref i.pf)]
structure LP(A B:List Int)(x k y l q:Nat)(ps:List (Nat×Nat)):Prop where
 a:∀e,e∈ps->x<=e.1/\e.1<x+q/\y<=e.2/\e.2<y+l/\A.getD e.1 0=B.getD e.2 0
 b:ps.Pairwise λe e'=>e.1<e'.1
 c:∀i j:Nat,x<=i->i<x+q->cT A x k (A.getD i 0)=some (i:Int)->cT B y l (A.getD i 0)=some (j:Int)->(i,j)∈ps
 n:ps.length<=q
noncomputable abbrev H9:E:=.o true [.m .eq (.i (.x 6) (.i (.a (.x 0) 7) (.x 8))) (.x 8),.m .ge (.bm (.x 7) .get [.i (.a (.x 0) 7) (.x 8),.neg (.c (.int 1))]) (.c (.int 0))]
noncomputable abbrev AB:List S:=[.ite H9 [.ex (.bm (.x 9) .append [.tup [.x 8,.i (.x 7) (.i (.a (.x 0) 7) (.x 8))]])] []]
theorem Od(hX:x+k<=A.length)(hk:k<1000){q:Nat}{ps:List (Nat×Nat)}(hq:q<k)(h:LP A B x k y l q ps):∃ps',LP A B x k y l (q+1) ps'/\∀(i:PR A B)(Q:QO),Q .next (i.R x k y l (some (nI (x+q)))) (i.T x k y l ps') ->
  az (Ph pF i.r.n) AB (i.R x k y l (some (nI (x+q)))) (i.T x k y l ps) Q:=by
 have lt:x+q<A.length:=aQ (eE hq x) hX;generalize hv:A.getD (x+q) 0=v
 have fa:cT A x k v≠none:=hv▸Sa (aL x q) (eE hq x);have ev:∀i:PR A B,Ev (Ph pF i.r.n) (.i (.a (.x 0) 7) (.x 8)) (i.R x k y l (some (nI (x+q)))) (i.T x k y l ps) (.int v):=λi=>by
  refine bW (br (aa rfl) ((oE ?_).trans (congrArg (λl=>some (V.list (vI l))) i.r.hA))) (aa rfl) (by rw[<-hv,oc lt];exact p7 (bL lt));have nd{z:Nat}(h:i.r.Z z=none):i.r.s.d≠z:=λe=>by have:=i.r.on;rw[jX,e,h]at this;exact nn this
  exact(aA (nd i.hf)).trans ((aA (nd i.hb)).trans ((aA (nd i.ha)).trans i.r.on))
 have ta:∀i:PR A B,i.T x k y l ps i.pa=some (dZ k (cT A x k)):=λi=>(aA i.af).trans ((aA i.ab).trans (aP ..));have tb:∀i:PR A B,i.T x k y l ps i.pb=some (dZ l (cT B y l)):=λi=>(aA i.bf).trans (aP ..);have tv:∀i:PR A B,aI (Ph pF i.r.n) H9 (i.R x k y l (some (nI (x+q)))) (i.T x k y l ps) (cT A x k v=some ((x+q:Nat):Int)/\0<=(cT B y l v).getD (-1)):=λi=>by
  refine iU ?_ λ_=>qs (TL (tb i) (aa rfl) (ev i) (λQ q=>q)) Ev.cn;cases e:cT A x k v with
  |none=>exact absurd e fa
  |some z=>exact ir (kB (bW (aa rfl) (ev i) (FT (ta i) e)) (aa rfl)) ⟨congrArg some,dy⟩
 by_cases c:cT A x k v=some ((x+q:Nat):Int)/\0<=(cT B y l v).getD (-1)
 ·obtain⟨j,hj,j1,j2,j3⟩:∃j:Nat,cT B y l v=some (j:Int)/\y<=j/\j<y+l/\B.getD j 0=v:=by
   cases e:cT B y l v with
   |none=>rw[e]at c;exact absurd c.2 (by decide)
   |some z=>
    refine ar (DM e) λp h1 h2=>?_;rcases h1 with h1|h1
    ·rw[e,h1]at c;exact absurd c.2 (by decide)
    ·exact⟨p,by rw[h1],h2⟩
  refine⟨ps++[(x+q,j)],⟨λe he=>?_,?_,λi j' h1 h2 h3 h4=>?_,?_⟩,λi Q qq=>dF (tv i) c ?_⟩
  ·rcases gw.1 he with he|he
   ·exact⟨(h.a e he).1,eL (h.a e he).2.1,(h.a e he).2.2⟩
   ·cases cJ.1 he
    exact⟨aL ..,bu _,j1,j2,hv.trans j3.symm⟩
  ·exact xG.2 ⟨h.b,ua ..,λe he e' he'=>cJ.1 he'▸(h.a e he).2.1⟩
  ·rcases j9.1 h2 with h2|h2
   ·exact rh _ (h.c i j' h1 h2 h3 h4)
   ·obtain rfl:i=x+q:=h2;rw[hv,hj]at h4;exact q9 _ (cJ.2 (by rw[kX.1 (dy h4)]))
  ·rw[bB];exact cK h.n
  ·have tf:i.T x k y l ps i.pf=some (.list (ps.map de)):=aP ..;have z:=bW (aa (i:=7) (C:=Ph pF i.r.n) (J:=i.R x k y l (some (nI (x+q)))) rfl) (ev i) (FT (tb i) hj);refine⟨iZ tf rfl,n7 (aa rfl) z _ (gc (kx tf ?_ (ao rfl ?_)))⟩
   ·rw[aY];exact bC h.n (fK hq (fK hk (by decide)))
   ·rw[PR.T,dX];rw[PR.T,dw]at qq;exact qq
 ·refine⟨ps,⟨λe he=>⟨(h.a e he).1,eL (h.a e he).2.1,(h.a e he).2.2⟩,h.b,λi j h1 h2 h3 h4=>?_,fv h.n⟩,λi Q qq=>bH (tv i) c qq⟩;rcases j9.1 h2 with h2|h2
  ·exact h.c i j h1 h2 h3 h4
  ·obtain rfl:i=x+q:=h2;rw[hv]at h3 h4;exact absurd ⟨h3,by rw[h4];exact eK j⟩ c
end
end
section
theorem sQ{C:ax}{a b c x k:Nat}{body:List S}{J:aj}{Z:ae}{Q:QO}(ha:rd J a=some (nI x))(hb:rd J b=some (nI (x+k)))(hz:x+k<=1000)
  (h:∃n,bZ (.vals (cA x 1 k)) (.v c) (λJ Z Q=>az C body J Z Q) Q n 0 J Z):WS C (.for (.v c) (.range [.x a,.x b]) body) J Z Q:=
 sE [(x:Int),((x+k:Nat):Int)] (λQ q=>aa ha _ (aa hb _ q)) (sj hz) h
section
variable{A B:List Int}{x k y l:Nat}
theorem M6(hX:x+k<=A.length)(hk:k<1000):∃ps,LP A B x k y l k ps/\∀(i:PR A B)(j:Option V)(Q:QO),(∀j,Q .next (i.R x k y l j) (i.T x k y l ps))->∃n,bZ (.vals (cA x 1 k)) (.v 8) (λJ Z Q=>az (Ph pF i.r.n) AB J Z Q) Q n 0 (i.R x k y l j) (i.T x k y l []):=by
 obtain⟨s,hs,run⟩:=s7 (C:=λi:PR A B=>Ph pF i.r.n) (b:=AB) (t:=.v 8) (cA x 1 k) (λi(_:List (Nat×Nat))j=>i.R x k y l j) (λi s=>i.T x k y l s) (λq s=>LP A B x k y l q s) (λq v s hv hs=>by
  obtain⟨hq,rfl⟩:=qv hv;have e:(x:Int)+(q:Int)*1=((x+q:Nat):Int):=by rw[pL];rfl
  rw[e];refine ar (Od hX hk hq hs) λps' h1 h2=>?_;exact⟨ps',h1,λi j Q q=>h2 i Q (q _ _ (Sub.refl' _))⟩) [] ⟨λ_ h=>(nm h),.nil,λi j h1 h2=>absurd h2 (bc.2 h1),aC _⟩
 rw[oi]at hs;exact⟨s,hs,run⟩
theorem MY(hX:x+k<=A.length)(hY:y+l<=B.length)(hz:A.length+B.length<=400):∃ps,LP A B x k y l k ps/\∀(r:dQ A B)(Q:QV),Q (.list (ps.map de)) r.Z->Ph pF (r.n+1) 40 [.inst 2 r.s.d,pt x (x+k) y (y+l)] r.Z Q:=by
 have k1:x+k<=400:=ai hX (ai (aL ..) hz);have k2:y+l<=400:=ai hY (ai (df ..) hz);have k3:k<1000:=bC (df k x) (bC k1 (by decide));have k4:l<1000:=bC (df l y) (bC k2 (by decide));refine ar (M6 (A:=A) (B:=B) (x:=x) (k:=k) (y:=y) (l:=l) hX k3) λps hp run=>?_;refine⟨ps,hp,λr Q q=>bN rfl ⟨rfl,λpa ha pb hb=>⟨rfl,?_⟩⟩⟩;have ab:pa≠pb:=λe=>by rw[<-e,aP]at hb;cases hb
 have hb':r.Z pb=none:=(aA ab.symm).symm.trans hb;have nd{z:Nat}(h:r.Z z=none):r.s.d≠z:=λe=>by have:=r.on;rw[jX,e,h]at this;exact nn this
 have l1:=DK (L:=A) (at':=7) (dv:=6) x k hX k3 ⟨r.n,ak r.Z pb (dZ 0 λ_=>none),r.s.d,pa,some (pt x (x+k) y (y+l)),some (nI x),some (nI (x+k)),some (nI y),some (nI (y+l)),some (.ref pa),some (.ref pb),λ_=>rfl,λm f=>
  (oE ((aA (nd ha)).trans ((aA (nd hb')).trans r.on))).trans (congrArg (λl=>some (V.list (vI l))) r.hA)⟩ none
 have l2:=DK (L:=B) (at':=8) (dv:=7) y l hY k4 ⟨r.n,ak r.Z pa (dZ k (cT A x k)),r.s.d,pb,some (pt x (x+k) y (y+l)),some (nI x),some (nI (x+k)),some (nI y),some (nI (y+l)),some (.ref pa),some (.ref pb),λ_=>rfl,λm f=>
  (te ((aA (nd hb')).trans ((aA (nd ha)).trans r.on))).trans (congrArg (λl=>some (V.list (vI l))) r.hB)⟩
 dsimp only [DR.T,DR.R]at l1 l2
 rw[show ak (ak r.Z pb (dZ 0 λ_=>none)) pa (dZ 0 (cT A x 0))=ak (ak r.Z pa (dZ 0 λ_=>none)) pb (dZ 0 λ_=>none) from(jQ ab).symm]at l1;refine aO (sQ rfl rfl (ai k1 (by decide)) (l1 _ λj=>?_));rw[<-jQ ab];refine aO (sQ rfl rfl (ai k2 (by decide)) (l2 _ _ λj'=>?_));intro pf hf;have bf:pb≠pf:=λe=>by rw[<-e,aP]at hf;cases hf
 have af:pa≠pf:=λe=>by rw[<-e,aA ab,aP]at hf;cases hf
 have hf':r.Z pf=none:=by rw[aA bf.symm,aA af.symm]at hf;exact hf
 refine aO (sQ rfl rfl (ai k1 (by decide)) (run ⟨r,pa,pb,pf,ha,hb',hf',ab,af,bf⟩ _ _ λj''=>?_));refine tY (aP ..) hf' (λz m h=>?_) q;have n{w:Nat}(hw:r.Z w=none):z≠w:=λe=>by rw[e,hw]at h;exact nn h
 exact(aA (n hf')).trans ((aA (n hb')).trans ((aA (n ha)).trans h))
end
end
noncomputable def oP(js piles:List Nat)(v:Nat):Nat->Nat->Nat->Option Nat
 |0,_,_=>none
 |f+1,low,high=>if low<high then(piles[(low+high)/2]?).bind λp=>(js[p]?).bind λj=>if j<v then oP js piles v f ((low+high)/2+1) high else oP js piles v f low ((low+high)/2) else some low
noncomputable def Ig(js:List Nat)(num v:Nat)(s:List Nat×List Int):Option (List Nat×List Int):=
 (oP js s.1 v 9 0 s.1.length).bind λlow=>(if 0<low then(s.1[low-1]?).map gB else some (-1)).bind λa=>
  if low=s.1.length then some (s.1++[num],s.2++[a]) else if low<s.1.length then some (s.1.set low num,s.2++[a]) else none
noncomputable def w8(js:List Nat):Nat->List Nat->List Nat×List Int->Option (List Nat×List Int)
 |_,[],s=>some s
 |q,v::r,s=>(Ig js q v s).bind (w8 js (q+1) r)
noncomputable def oF(ahead:List Int):Nat->Int->Option (List Nat)
 |0,_=>none
 |f+1,n=>if 0<=n then(ahead[n.toNat]?).bind λm=>(oF ahead f m).map (n.toNat::·) else some []
noncomputable def wy(piles:List Nat):Int:=match piles.getLast? with
 |some p=>p
 |none=>-1
noncomputable def sW(js:List Nat):Option (List Nat):=(w8 js 0 js ([],[])).bind λs=>if s.2.length=js.length then(oF s.2 9 (wy s.1)).map List.reverse else none
noncomputable def jV:Nat->List V->List V
 |_,[]=>[]
 |k,v::r=>.tup [nI k,v]::jV (k+1) r
theorem pU:∀(l:List V)(k i:Nat),(jV k l)[i]?=(l[i]?).map λv=>.tup [nI (k+i),v]
 |[],k,i=>rfl
 |v::r,k,0=>rfl
 |v::r,k,i+1=>(pU r (k+1) i).trans (by rw[cH];rfl)
theorem yD:∀(l:List V)(k:Nat),(jV k l).length=l.length:=λrr=>li (λ_=>rfl)
 (λ_ r ih k=>congrArg (·+1) (ih (k+1))) rr
theorem RI{is:IS}{l:List V}{t:T}{body:aj->ae->QO->Prop}(hb:mZ body)(hn:∀Z i,fo Z is i=some l[i]?){Q:QO}:∀{n i:Nat}{J:aj}{Z:ae},bZ (.vals l) t body Q n i J Z->bZ is t body Q n i J Z:=by
 intro n;induction n with
 |zero=>intro i J Z h;exact h
 |succ n ih=>
  intro i J Z h;refine ao (hn Z i) ?_;have h:match l[i]? with
   |none=>Q .next J Z
   |some v=>aK (d8 t v J) λJ'=>body J' Z λo J'' Z''=>match o with
    |.next=>∃Z3,Sub Z3 Z''/\bZ (.vals l) t body Q n (i+1) J'' Z3
    |.ret v=>Q (.ret v) J'' Z'':=h
  cases e:l[i]? with
  |none=>rw[e]at h;exact h
  |some v=>
   rw[e]at h;exact a0 h λJ' h=>hb _ _ _ _ (λo J Z h=>by
    cases o with
    |next=>exact h.imp λZ3 h=>⟨h.1,ih h.2⟩
    |ret v=>exact h) h
theorem y8(l:List V)(Z:ae)(i:Nat):fo Z (.enum (.vals l)) i=some (jV 0 l)[i]?:=by
 rw[pU,aU];rfl
theorem uS{C:ax}(M:jU C){e:E}{t:T}{b:List S}{J:aj}{Z:ae}{Q:QO}{l:List V}(he:Ev C e J Z (.list l))(h:∃n,bZ (.vals (jV 0 l)) t (λJ Z Q=>az C b J Z Q) Q n 0 J Z):WS C (.for t (.enum e) b) J Z Q:=
 he _ (h.imp λn h=>RI (mF M b) (y8 l) h)
theorem jN{Z:ae}{l:List V}{i:Nat}{v:V}(e:l[i]?=some v):eP Z (.list l) (nI i)=some v:=by
 show fE l (i:Int) = _;unfold fE;rw[if_pos (eK i),hM,e]
theorem qi{C:ax}{J:aj}{Z:ae}{a:E}{g:Nat}{l:List V}(h:Ev C a J Z (.ref g))(e:Z g=some (.list l)):Ev C (.bi .len [a]) J Z (nI l.length):=λQ q=>h _ (ao (a:=nI l.length) (by show(cc Z g).map _ = _;rw[gU e];rfl) q)
theorem AR{α ι Jaa:Type}{C:ax}(M:jU C){t:T}{b:List Internal.S}{l:List α}{f:α->V}(R:ι->Jaa->aj)(T:ι->ae)(I:Nat->ι->Prop){Q:QO}
  (step:∀i(hi:i<l.length)s j,I i s->aK (d8 t (.tup [nI i,f l[i]]) (R s j)) λJ'=>∀Q:QO,(∀s' j',I (i+1) s'->Q .next (R s' j') (T s'))->az C b J' (T s) Q)
  (fin:∀s j,I l.length s->Q .next (R s j) (T s)) {s:ι} {j:Jaa} (h:I 0 s):∃n,bZ (.vals (jV 0 (l.map f))) t (λJ Z Q=>az C b J Z Q) Q n 0 (R s j) (T s):=
 qj (l:=jV 0 (l.map f)) (mF M b) (λi J Z=>∃s j,J=R s j/\Z=T s/\I i s) ⟨s,j,rfl,rfl,h⟩ (λ_ _ _ _=>rfl)
  (λi v J Z hv z_=>cG z_ λs j e e' h=>by
   subst e;subst e';rw[pU,aU,cO]at hv;cases w:l[i]? with
   |none=>rw[w]at hv;exact nn hv
   |some x=>
    obtain⟨hi,rfl⟩:=iQ.1 w;rw[w]at hv;rw[<-dy hv];exact a0 (step i hi s j h) λJ' w=>w _ λs' j' h'=>⟨_,Sub.refl' _,s',j',rfl,rfl,h'⟩)
  (λJ Z z_=>cG z_ λs j e e' h=>by subst e;subst e';rw[yD,aY]at h;exact fin s j h)
section
structure RR where
 n:Nat
 Z:ae
 pi:Nat
 ah:Nat
 ne:pi≠ah
abbrev RS:=List Nat×List Int
noncomputable def RR.T(r:RR)(s:RS):ae:=ak (ak r.Z r.pi (.list (s.1.map nI))) r.ah (.list (vI s.2))
theorem RR.tp(r:RR)(s:RS):r.T s r.pi=some (.list (s.1.map nI)):=(aA r.ne).trans (aP ..)
theorem RR.ta(r:RR)(s:RS):r.T s r.ah=some (.list (vI s.2)):=aP ..
abbrev RJ:=Option V×Option V×Option V×Option V×Option V
noncomputable def RR.R(r:RR)(ps:List (Nat×Nat))(j:RJ):aj:=[some (.list (ps.map de)),some (.ref r.pi),some (.ref r.ah),j.1,j.2.1,j.2.2.1,j.2.2.2.1,j.2.2.2.2,none]
noncomputable abbrev Ij:S:=.whl (.m .lt (.x 5) (.x 6)) [.s (.v 7) (.b .fdiv (.b .add (.x 5) (.x 6)) (.c (.int 2))),
    .ite (.m .lt (.i (.i (.x 0) (.i (.x 1) (.x 7))) (.c (.int 1))) (.i (.x 4) (.c (.int 1))))
    [.s (.v 5) (.b .add (.x 7) (.c (.int 1)))]
    [.s (.v 6) (.x 7)]]
theorem oD{α β:Type}{o:Option α}{f:α->Option β}{b:β}(h:o.bind f=some b):∃a,o=some a/\f a=some b:=match o,h with
 |some a,h=>⟨a,rfl,h⟩
section
variable{ps:List (Nat×Nat)}
theorem Ov{s:RS}{q:Nat}{e:Nat×Nat}{res:Nat}(h:oP (ps.map (·.2)) s.1 e.2 9 0 s.1.length=some res) :
  ∀(r:RR)(j:Option V)(Q:QO),(∀hi j,Q .next (r.R ps (some (nI q),some (de e),some (nI res),hi,j)) (r.T s)) ->
   WS (Ph pF r.n) Ij (r.R ps (some (nI q),some (de e),some (nI 0),some (nI s.1.length),j)) (r.T s) Q:=by
 have key:=fi (C:=λr:RR=>Ph pF r.n) (c:=.m .lt (.x 5) (.x 6)) (b:=[.s (.v 7) (.b .fdiv (.b .add (.x 5) (.x 6)) (.c (.int 2))),
    .ite (.m .lt (.i (.i (.x 0) (.i (.x 1) (.x 7))) (.c (.int 1))) (.i (.x 4) (.c (.int 1)))) [.s (.v 5) (.b .add (.x 7) (.c (.int 1)))] [.s (.v 6) (.x 7)]])
  (λ(r:RR)(t:Nat×Nat×Nat)(j:Option V)=>r.R ps (some (nI q),some (de e),some (nI t.2.1),some (nI t.2.2),j)) (λr _=>r.T s) (λt=>oP (ps.map (·.2)) s.1 e.2 t.1 t.2.1 t.2.2=some res) (λt=>t.1) (λt=>t.2.1<t.2.2)
  (λt _ r j=>eY (aa rfl) (aa rfl))
  (λs'=>oW (λf low high=>nz (λht _=>nn ht) (λf ht hlt=>by
    have ht:(if low<high then(s.1[(low+high)/2]?).bind λp=>((ps.map (·.2))[p]?).bind λj=>if j<e.2 then oP (ps.map (·.2)) s.1 e.2 f ((low+high)/2+1) high else oP (ps.map (·.2)) s.1 e.2 f low ((low+high)/2) else some low)=some res:=ht;rw[if_pos hlt]at ht;refine ar (oD ht) λp hp ht=>?_;refine ar (oD ht) λj hj ht=>?_;rw[cO]at hj;obtain⟨e',he,rfl⟩:∃e',ps[p]?=some e'/\e'.2=j:=by
     cases w:ps[p]? with
     |none=>rw[w]at hj;exact nn hj
     |some e'=>rw[w]at hj;exact⟨e',rfl,dy hj⟩
    have tv:∀(r:RR),aI (Ph pF r.n) (.m .lt (.i (.i (.x 0) (.i (.x 1) (.x 7))) (.c (.int 1))) (.i (.x 4) (.c (.int 1)))) (r.R ps (some (nI q),some (de e),some (nI low),some (nI high),some (nI ((low+high)/2)))) (r.T s) (e'.2<e.2):=λr=>
     eY (bW (bW (aa rfl) (bW (aa rfl) (aa rfl) (kq (r.tp s) (by rw[cO,hp];rfl))) (jN (by rw[cO,he];rfl))) Ev.cn rfl) (bW (aa rfl) Ev.cn rfl)
    by_cases c:e'.2<e.2
    ·rw[if_pos c]at ht;exact⟨(f,(low+high)/2+1,high),ht,bu f,λr j Q q'=>aO (dF (tv r) c (q' (some (nI ((low+high)/2))) _ (Sub.refl' _)))⟩
    ·rw[if_neg c]at ht;exact⟨(f,low,(low+high)/2),ht,bu f,λr j Q q'=>aO (bH (tv r) c (q' (some (nI ((low+high)/2))) _ (Sub.refl' _)))⟩) f) s')
  (9,0,s.1.length) h
 refine cm key λpp20_ h1 h2 run=>?_;obtain⟨f,low,high⟩:=pp20_;intro r j Q q';refine run r j Q λj'=>?_;cases f with
 |zero=>exact nn h1
 |succ f=>
  have h1:(if low<high then _ else some low)=some res:=h1;rw[if_neg h2]at h1;injection h1 with h1;subst h1
  exact q' _ j'
end
end
section
theorem u5{Z:ae}{g:Nat}{l:List V}{i:Nat}{v:V}{Q:ae->Prop}(e:Z g=some (.list l))(h:i<l.length)(q:Q (ak Z g (.list (l.set i v)))):jw Z (.ref g) (nI i) v Q:=
 ao (a:=g) rfl (ao e (ao (a:=(i:Int)) rfl (.inl ⟨eK i,dN.2 h,by rw[hM];exact q⟩)))
theorem bM{C:ax}{t:Tg}{e:E}{v:V}{rest:List S}{J:aj}{Z:ae}{Q:QO}(h:Ev C e J Z v)(q:jC C t v J Z λJ Z=>az C rest J Z Q):az C (.s t e::rest) J Z Q:=h _ q
theorem RR.setP(r:RR){s:RS}{l:List Nat}{L:List V}(h:L=l.map nI):ak (r.T s) r.pi (.list L)=r.T (l,s.2):=by
 rw[h,RR.T,<-jQ r.ne,dX];rfl
theorem RR.setA(r:RR){s:RS}{l:List Int}{L:List V}(h:L=vI l):ak (r.T s) r.ah (.list L)=r.T (s.1,l):=by
 rw[h,RR.T,dX];rfl
section
variable{ps:List (Nat×Nat)}
noncomputable abbrev wx:List S:=[.s (.vs [5,6]) (.tup [.c (.int 0),.bi .len [.x 1]]),Ij,
   .ex (.bm (.x 2) .append [.ite (.m .gt (.x 5) (.c (.int 0))) (.i (.x 1) (.b .sub (.x 5) (.c (.int 1)))) (.neg (.c (.int 1)))]),
   .ite (.m .eq (.x 5) (.bi .len [.x 1]))
   [.ex (.bm (.x 1) .append [.x 3])]
   [.s (.i (.x 1) (.x 5)) (.x 3)]]
theorem Oj{s s':RS}{q:Nat}{e:Nat×Nat}(h:Ig (ps.map (·.2)) q e.2 s=some s')(h1:s.1.length<=q)(h2:s.2.length<=q)(hq:q<1000) :
  s'.1.length<=q+1/\s'.2.length<=q+1/\∀(r:RR)(j:Option V×Option V×Option V)(Q:QO),(∀j,Q .next (r.R ps j) (r.T s'))->az (Ph pF r.n) wx (r.R ps (some (nI q),some (de e),j)) (r.T s) Q:=by
 refine ar (oD h) λlow hs h=>?_;refine ar (oD h) λa ha h=>?_;have lenE:∀(r:RR)(s:RS)j,Ev (Ph pF r.n) (.bi .len [.x 1]) (r.R ps j) (r.T s) (nI s.1.length):=λr s j Q q'=>qi (aa rfl) (r.tp s) Q (by rw[aY];exact q');have small:∀{n:Nat},n<=q->n<aJ:=λh=>bC h (fK hq (by decide));have go:∀(r:RR)(j:Option V×Option V×Option V)(Q:QO),(∀hi j,az (Ph pF r.n) [.ite (.m .eq (.x 5) (.bi .len [.x 1])) [.ex (.bm (.x 1) .append [.x 3])] [.s (.i (.x 1) (.x 5)) (.x 3)]] (r.R ps (some (nI q),some (de e),some (nI low),hi,j)) (r.T (s.1,s.2++[a])) Q) ->
   az (Ph pF r.n) wx (r.R ps (some (nI q),some (de e),j)) (r.T s) Q:=λr j Q q'=>by
  refine fL Ev.cn (lenE r s _) rfl (aO (Ov hs r j.2.2 _ λhi j=>?_));have fin:qV (r.T s) (.ref r.ah) .append [.int a] λv Z=>aK (mc v) λ_=>az (Ph pF r.n) [.ite (.m .eq (.x 5) (.bi .len [.x 1])) [.ex (.bm (.x 1) .append [.x 3])] [.s (.i (.x 1) (.x 5)) (.x 3)]] (r.R ps (some (nI q),some (de e),some (nI low),hi,j)) Z Q:=by
   refine kx (r.ta s) (by rw[aY];exact small h2) (ao rfl ?_);rw[r.setA (l:=s.2++[a]) (by show _ = nR V.int (s.2++[a]);rw[dw];rfl)];exact q' hi j
  have tv:aI (Ph pF r.n) (.m .gt (.x 5) (.c (.int 0))) (r.R ps (some (nI q),some (de e),some (nI low),hi,j)) (r.T s) (0<low):=iV (i:=low) (j:=0) (aa rfl) Ev.cn;refine⟨iZ (r.ta s) rfl,?_⟩;by_cases c:0<low
  ·rw[if_pos c]at ha;cases w:s.1[low-1]? with
   |none=>rw[w]at ha;exact nn ha
   |some p=>
    rw[w]at ha;injection ha with ha;subst ha
    exact iY tv c (bW (v:=nI p) (aa rfl) (jO c (aa rfl)) (kq (r.tp s) (by rw[cO,w];rfl)) _ fin)
  ·rw[if_neg c]at ha;injection ha with ha;subst ha
   exact iu tv c fin
 have tv:∀(r:RR)hi j,aI (Ph pF r.n) (.m .eq (.x 5) (.bi .len [.x 1])) (r.R ps (some (nI q),some (de e),some (nI low),hi,j)) (r.T (s.1,s.2++[a])) (low=s.1.length):=λr hi j=>lp (aa rfl) (lenE r (s.1,s.2++[a]) _);have l2:(s.2++[a]).length<=q+1:=by rw[bB];exact cK h2
 by_cases c:low=s.1.length
 ·rw[if_pos c]at h;injection h with h;subst h
  refine⟨by rw[bB];exact cK h1,l2,λr j Q q'=>go r j Q λhi j=>aO (dF (tv r hi j) c ⟨iZ (r.tp _) rfl,aa (i:=3) (v:=nI q) rfl _ (gc (kx (r.tp _) (by rw[aY];exact small h1) (ao rfl ?_)))⟩)⟩;rw[r.setP (l:=s.1++[q]) (by show _ = nR nI (s.1++[q]);rw[dw];rfl)];exact q' (some (nI q),some (de e),some (nI low),hi,j)
 ·rw[if_neg c]at h;by_cases d:low<s.1.length
  ·rw[if_pos d]at h;injection h with h;subst h
   refine⟨by rw[Cc];exact fv h1,l2,λr j Q q'=>go r j Q λhi j=>aO (bH (tv r hi j) c ?_)⟩;refine bM (aa (i:=3) (v:=nI q) rfl) (ve (aa rfl) (aa rfl) (u5 (r.tp _) (by rw[aY];exact d) ?_));rw[r.setP (l:=s.1.set low q) (LW ..).symm];exact q' (some (nI q),some (de e),some (nI low),hi,j)
  ·rw[if_neg d]at h;cases h
theorem Oi{fin:RS}(h:w8 (ps.map (·.2)) 0 (ps.map (·.2)) ([],[])=some fin)(hz:ps.length<1000) :
  fin.1.length<=ps.length/\∀(r:RR)(j:RJ)(Q:QO),(∀j,Q .next (r.R ps j) (r.T fin))->∃n,bZ (.vals (jV 0 (ps.map de))) (.tup [3,4]) (λJ Z Q=>az (Ph pF r.n) wx J Z Q) Q n 0 (r.R ps j) (r.T ([],[])):=by
 obtain⟨s,⟨h1,h2,h3⟩,run⟩:=s7 (C:=λr:RR=>Ph pF r.n) (b:=wx) (t:=.tup [3,4]) (jV 0 (ps.map de)) (λr(_:RS)j=>r.R ps j) (λr s=>r.T s) (λq s=>w8 (ps.map (·.2)) q ((ps.map (·.2)).drop q) s=some fin/\s.1.length<=q/\s.2.length<=q) (λq v s hv z_=>g8 z_ λh1 h2 h3=>by
  rw[pU,aU,cO]at hv;cases w:ps[q]? with
  |none=>rw[w]at hv;cases hv
  |some e=>
   rw[w]at hv;injection hv with hv;subst hv
   obtain⟨hq,rfl⟩:=iQ.1 w;rw[jI (by rw[aY];exact hq)]at h1;refine ar (oD h1) λs' k1 k2=>?_;rw[KN]at k1;refine g8 (Oj k1 h2 h3 (fK hq hz)) λl1 l2 run=>?_;exact⟨s',⟨k2,l1,l2⟩,λi j=>λQ q'=>run i j.2.2 Q λj'=>q' j' _ (Sub.refl' _)⟩) ([],[]) ⟨h,aC _,aC _⟩
 rw[yD,aY]at h1 h2;rw[xB (by rw[aY];exact aC _)]at h1;injection h1 with h1;subst h1
 exact⟨h2,run⟩
end
end
section
theorem rW{Z:ae}{g:Nat}{l:List V}{v:V}(h:Z g=some (.list l))(e:l.getLast?=some v):eP Z (.ref g) (.int (-1))=some v:=by
 unfold eP;rw[yR h];show fE l (-1) = _;have n:l≠[]:=λz=>by rw[z]at e;exact nn e
 have p:0<l.length:=mw.2 n;unfold fE;rw[if_neg (by decide),if_pos (by exact au [_] [] (.li .k0 (.a (.o .k1) .c0)) 1 [(1,.tn .k0 .v0)] rfl p),<-e,Br];refine bA (Bo (ip p)) λn e=>?_;rw[e];exact congrArg (λi:Nat=>l[i]?) n1
section
variable{ps:List (Nat×Nat)}
noncomputable def kC(r:RR)(s:RS)(f:Nat)(acc:List Nat):ae:=ak (r.T s) f (.list (acc.map λi=>de (ps.getD i (0,0))))
structure BR(s:RS)where
 r:RR
 f:Nat
 fp:f≠r.pi
 fa:f≠r.ah
noncomputable def BR.R{s:RS}(r:BR s)(ps:List (Nat×Nat))(n:Int)(j:Option V×Option V×Option V×Option V):aj:=[some (.list (ps.map de)),some (.ref r.r.pi),some (.ref r.r.ah),some (.int n),j.1,j.2.1,j.2.2.1,j.2.2.2,some (.ref r.f)]
theorem Nq{s:RS}{n:Int}{all:List Nat}(h:oF s.2 9 n=some all)(hs:s.2.length=ps.length)(hz:ps.length<1000) :
  ∃n',∀(r:BR s)j(Q:QO),(∀j,Q .next (r.R ps n' j) (kC (ps:=ps) r.r s r.f all))->WS (Ph pF r.r.n) (.whl (.m .ge (.x 3) (.c (.int 0))) [.ex (.bm (.x 8) .append [.i (.x 0) (.x 3)]),.s (.v 3) (.i (.x 2) (.x 3))]) (r.R ps n j) (kC (ps:=ps) r.r s r.f []) Q:=by
 obtain⟨⟨f,n',acc⟩,⟨rest,h1,h2,h3⟩,h4,run⟩:=fi (C:=λr:BR s=>Ph pF r.r.n) (c:=.m .ge (.x 3) (.c (.int 0))) (b:=[.ex (.bm (.x 8) .append [.i (.x 0) (.x 3)]),.s (.v 3) (.i (.x 2) (.x 3))])
  (λ(r:BR s)(t:Nat×Int×List Nat)j=>r.R ps t.2.1 j) (λr t=>kC (ps:=ps) r.r s r.f t.2.2) (λt=>∃rest,oF s.2 t.1 t.2.1=some rest/\t.2.2++rest=all/\t.2.2.length+t.1=9) (λt=>t.1) (λt=>0<=t.2.1)
  (λt _ r j=>qs (aa rfl) Ev.cn)
  (λs'=>oW (λf n acc=>nz (λh _=>cm h λ_ h1 _ _=>nn h1) (λf h ht=>by
    refine cm h λrest h1 h2 h3=>?_;replace ht:0<=n:=ht;have h1:(if 0<=n then(s.2[n.toNat]?).bind λm=>(oF s.2 f m).map (n.toNat::·) else some [])=some rest:=h1;rw[if_pos ht]at h1;refine ar (oD h1) λm hm h1=>?_;cases w:oF s.2 f m with
    |none=>rw[w]at h1;exact nn h1
    |some rest'=>
     rw[w]at h1;injection h1 with h1;subst h1
     obtain⟨k,rfl⟩:=pd ht;rw[hM]at hm h2;have hk:k<ps.length:=hs▸(iQ.1 hm).1;refine⟨(f,m,acc++[k]),⟨rest',w,by rw[eT];exact h2,by
      show(acc++[k]).length+f=9;rw[bB];exact(cH acc.length f).trans h3⟩,bu f,λr j Q q=>?_⟩
     have tf:kC (ps:=ps) r.r s r.f acc r.f=some (.list (acc.map λi=>de (ps.getD i (0,0)))):=aP ..;have ev:Ev (Ph pF r.r.n) (.i (.x 0) (.x 3)) (r.R ps (k:Int) j) (kC (ps:=ps) r.r s r.f acc) (de (ps.getD k (0,0))):=bW (aa rfl) (aa rfl) (jN (by rw[cO,fc,bL hk];rfl));have hl:(acc.map λi=>de (ps.getD i (0,0))).length<aJ:=by
      rw[aY];exact bC (ai (aL ..) (dA h3)) (by decide)
     refine⟨iZ tf rfl,ev _ (gc (kx tf hl (ao rfl ?_)))⟩;rw[show ak (kC (ps:=ps) r.r s r.f acc) r.f (.list ((acc.map λi=>de (ps.getD i (0,0)))++[de (ps.getD k (0,0))]))=kC (ps:=ps) r.r s r.f (acc++[k]) by unfold kC;rw[dX,dw];rfl];refine bM (bW (v:=.int m) (aa rfl) (aa rfl) (kq ((aA r.fa.symm).trans (r.r.ta s)) (by rw[cO,hm];rfl))) ?_;exact q j _ (Sub.refl' _)) f) s')
  (9,n,[]) ⟨all,h,rfl,rfl⟩
 refine⟨n',λr j Q q=>run r j Q λj'=>?_⟩;cases f with
 |zero=>exact nn h1
 |succ f=>
  have h1:(if 0<=n' then _ else some [])=some rest:=h1;rw[if_neg h4]at h1;injection h1 with h1;subst h1
  rw[gO]at h2;have h2:acc=all:=h2;subst h2;exact q j'
end
end
theorem Qh{C:ax}{J:aj}{Z:ae}{g:Nat}{piles:List Nat}(h1:rd J 1=some (.ref g))(hg:Z g=some (.list (piles.map nI))):∀Q:QV,Q (.int (wy piles)) Z->WE C (.ite (.m .ne (.x 1) (.lst false [])) (.i (.x 1) (.neg (.c (.int 1)))) (.neg (.c (.int 1)))) J Z Q:=λQ q=>by
 have tv:=p0 (C:=C) (aa h1) hg;unfold wy at q;cases e:piles.getLast? with
 |none=>
  rw[e]at q;have e:piles=[]:=List.getLast?_eq_none_iff.1 e;subst e;have z:WE C (.neg (.c (.int 1))) J Z Q:=q;exact iu tv (λn=>n rfl) z
 |some p=>
  rw[e]at q;have z:WE C (.i (.x 1) (.neg (.c (.int 1)))) J Z Q:=bW (b:=.neg (.c (.int 1))) (y:=.int (-1)) (v:=nI p) (aa h1) (λQ q=>q) (rW hg (by rw[BX,e];rfl)) _ q;refine iY tv (λz=>?_) z;rw[xK]at z;rw[z]at e;exact nn e
theorem Mu{ps:List (Nat×Nat)}{r:List Nat}(h:sW (ps.map (·.2))=some r)(hz:ps.length<1000){n:Nat}{Z:ae}{Q:QV}(q:Q (.list (r.map λi=>de (ps.getD i (0,0)))) Z):Ph pF (n+1) 2 [.list (ps.map de)] Z Q:=by
 refine ar (oD h) λfin h1 h2=>?_;by_cases c:fin.2.length=(ps.map (·.2)).length
 ·rw[if_pos c]at h2;rw[aY]at c;cases w:oF fin.2 9 (wy fin.1) with
  |none=>rw[w]at h2;exact nn h2
  |some all=>
   rw[w]at h2;injection h2 with h2;subst h2
   refine aT (Oi h1 hz) λhl run=>?_;refine bA (Nq (ps:=ps) w c hz) λn' back=>?_;refine bN rfl λpi hpi ah hah=>⟨rfl,?_⟩
   have ne:pi≠ah:=λe=>by rw[<-e,aP]at hah;cases hah
   have hah':Z ah=none:=(aA ne.symm).symm.trans hah;refine aO (uS (cD pF n) (aa rfl) (run ⟨n,Z,pi,ah,ne⟩ (none,none,none,none,none) _ λj=>?_));intro f hf;have fa:f≠ah:=λe=>by rw[e,RR.ta]at hf;cases hf
   have fp:f≠pi:=λe=>by rw[e,RR.tp]at hf;cases hf
   have hf':Z f=none:=by rw[RR.T,aA fa,aA fp]at hf;exact hf
   have tp:kC (ps:=ps) ⟨n,Z,pi,ah,ne⟩ fin f [] pi=some (.list (fin.1.map nI)):=(aA fp.symm).trans (RR.tp _ _);refine bM (Qh rfl tp) ?_;refine(aO (back ⟨⟨n,Z,pi,ah,ne⟩,f,fp,fa⟩ (j.2.1,j.2.2.1,j.2.2.2.1,j.2.2.2.2) _ λj'=>?_));have tf:kC (ps:=ps) ⟨n,Z,pi,ah,ne⟩ fin f all f=some (.list (all.map λi=>de (ps.getD i (0,0)))):=aP ..;refine⟨iZ tf rfl,ao (vH tf) (ao rfl ?_)⟩;refine tY (aP ..) hf' (λz m k=>?_) (by rw[<-B5];exact q);have nn{w:Nat}(hw:Z w=none):z≠w:=λe=>by rw[e,hw]at k;exact nn k
   exact(aA (nn hf')).trans ((aA (nn hf')).trans ((aA (nn hah')).trans ((aA (nn hpi)).trans k)))
 ·rw[if_neg c]at h2;exact nn h2
noncomputable def w9:List Nat->List (List Nat)
 |[]=>[[]]
 |a::r=>w9 r++(w9 r).map (a::·)
noncomputable def tG:List Nat->Bool
 |[]=>true
 |a::r=>match r with
  |[]=>true
  |b::_=>Nat.blt a b&&tG r
noncomputable def Ie(js:List Nat):Bool:=match sW js with
 |none=>false
 |some r=>tG r&&(r.all λi=>Nat.blt i js.length)&&tG (r.map λi=>js.getD i 0)&&(w9 js).all λs=>!tG s||Nat.ble s.length r.length
noncomputable def lists(m:Nat):Nat->List (List Nat)
 |0=>[[]]
 |n+1=>[]::(lists m n).flatMap λr=>(jM m).map λa=>a::r
theorem Qg:(lists 6 4).all Ie=true:=by decide +kernel
theorem N8{m:Nat}:∀{n:Nat}{l:List Nat},l.length<=n->(∀a,a∈l->a<m)->l∈lists m n
 :=λ{n}=>@(ni (λ{l}=>lz (λ_ _=>cJ.2 rfl) (λ_ _ h _=>absurd h (xH _)) l) (λn ih{l}=>lz (λ_ _=>fI)
  (λa r h k=>ka _ (List.mem_flatMap.2 ⟨r,ih (pj h) λb hb=>k b (ka _ hb),ik.2 ⟨a,ur.2 (k a fI),rfl⟩⟩)) l) n)
theorem QF{l s:List Nat}(h:s.Sublist l):s∈w9 l:=by
 induction h with
 |slnil=>exact cJ.2 rfl
 |cons a _ ih=>exact rh _ ih
 |cons_cons a _ ih=>exact q9 _ (ik.2 ⟨_,ih,rfl⟩)
theorem RX{l:List Nat}(h:l.Pairwise (· < ·)):tG l=true:=by
 induction h with
 |nil=>rfl
 |@cons a r h _ ih=>
  cases r with
  |nil=>rfl
  |cons b r=>exact f7.2 ⟨Nat.ble_eq_true_of_le (h b fI),ih⟩
theorem zB:∀{l:List Nat},tG l=true->l.Pairwise (· < ·)
 |[],_=>.nil
 |[a],_=>ua ..
 |a::b::r,h=>by
  have h:=f7.1 h;have w:=zB (l:=b::r) h.2;have ab:a<b:=dR h.1;exact .cons (λc hc=>(cp.1 hc).elim (λe=>e▸ab) λhc=>fK ab ((xQ.1 w).1 c hc)) w
theorem SG{js:List Nat}(h:js.length<=4)(k:∀a,a∈js->a<6):∃r,sW js=some r/\r.Pairwise (· < ·)/\(∀i,i∈r->i<js.length)/\(r.map λi=>js.getD i 0).Pairwise (· < ·)/\∀s:List Nat,s.Sublist js->s.Pairwise (· < ·)->s.length<=r.length:=by
 have w:=dU.1 Qg js (N8 h k);unfold Ie at w;cases e:sW js with
 |none=>rw[e]at w;exact bn w
 |some r=>
  rw[e]at w;have w:=f7.1 w;have w1:=f7.1 w.1;have w2:=f7.1 w1.1;refine⟨r,rfl,zB w2.1,λi hi=>dR (dU.1 w2.2 i hi),zB w1.2,λs hs hp=>?_⟩;have z:=dU.1 w.2 s (QF hs);rw[RX hp]at z;exact dR z
theorem LH{f:Nat×Nat->Nat}:∀{l c:List (Nat×Nat)},l.Pairwise (λe e'=>f e<f e')->c.Pairwise (λe e'=>f e<f e')->(∀e,e∈c->e∈l)->c.Sublist l
 :=λ{l}=>@(li (λ{c}_ _ h=>by rw[List.eq_nil_iff_forall_not_mem.2 λa m=>nm (h a m)];exact .slnil) (λb l ih{c}hl=>lz (λ_ _=>List.nil_sublist _) (λa c hc h=>by
  have hl':=xQ.1 hl;have hc':=xQ.1 hc;rcases cp.1 (h a fI) with e|e
  ·subst e;refine .cons_cons a (ih hl'.2 hc'.2 λe he=>(cp.1 (h e (ka _ he))).resolve_left λw=>?_);subst w;exact gP _ (hc'.1 _ he)
  ·refine .cons b (ih hl'.2 hc λe' he=>(cp.1 (h e' he)).resolve_left λw=>?_);subst w;rcases cp.1 he with z|z
   ·subst z;exact gP _ (hl'.1 _ e)
   ·exact Nat.lt_asymm (hl'.1 _ e) (hc'.1 _ z)) c) l)
abbrev oS(e e':Nat×Nat):Prop:=e.1<e'.1/\e.2<e'.2
theorem RT{ps:List (Nat×Nat)}(hs:ps.Pairwise λe e'=>e.1<e'.1)(h:ps.length<=4)(k:∀e,e∈ps->e.2<6) :
  ∃r,sW (ps.map (·.2))=some r/\(r.map λi=>ps.getD i (0,0)).Pairwise oS/\(∀e,e∈(r.map λi=>ps.getD i (0,0))->e∈ps)/\∀c:List (Nat×Nat),c.Pairwise oS->(∀e,e∈c->e∈ps)->c.length<=r.length:=by
 obtain⟨r,r1,r2,r3,r4,r5⟩:=SG (js:=ps.map (·.2)) (by rw[aY];exact h) λa ha=>by
  obtain⟨e,he,rfl⟩:=ik.1 ha;exact k e he
 rw[aY]at r3;have at_:∀i,i<ps.length->(ps.map (·.2)).getD i 0=(ps.getD i (0,0)).2:=λi hi=>by
  rw[fc,fc,cO,bL hi];rfl
 refine⟨r,r1,?_,λe he=>?_,λc hc hm=>?_⟩
 ·rw[KD]at r4 ⊢;refine(r2.and r4).imp_of_mem λ{i j}hi hj w=>⟨?_,?_⟩
  ·have z:=(List.pairwise_iff_getElem.1 hs) i j (r3 i hi) (r3 j hj) w.1;rw[fc,fc,bL (r3 i hi),bL (r3 j hj)];exact z
  ·have z:=w.2;rw[at_ i (r3 i hi),at_ j (r3 j hj)]at z;exact z
 ·obtain⟨i,hi,rfl⟩:=ik.1 he;rw[fc,bL (r3 i hi)];exact iR (r3 i hi)
 ·have sub:=(LH (f:=(·.1)) hs (hc.imp λw=>w.1) hm).map (·.2);have z:=r5 _ sub (by rw[KD];exact hc.imp λw=>w.2);rw[aY]at z;exact z
theorem aD.pairs{e:Nat->Nat->Prop}{x y X Y c:Nat}(h:aD e x y X Y c):∃l:List (Nat×Nat),l.Pairwise oS/\(∀p,p∈l->e p.1 p.2/\x<=p.1/\p.1<X/\y<=p.2/\p.2<Y)/\X+Y=x+y+c+2*l.length:=by
 induction h with
 |nil=>exact⟨[],.nil,λ_ h=>(nm h),rfl⟩
 |@keep x y X Y c a k ih=>
  refine cm ih λl h1 h2 h3=>?_;have le:=k.le;refine⟨(x,y)::l,.cons (λp hp=>⟨(h2 p hp).2.1,(h2 p hp).2.2.2.1⟩) h1,λp hp=>?_,?_⟩
  ·rcases cp.1 hp with rfl|hp
   ·exact⟨a,aC _,le.1,aC _,le.2⟩
   ·have z:=h2 p hp;exact⟨z.1,cL z.2.1,z.2.2.1,cL z.2.2.2.1,z.2.2.2.2⟩
  ·rw[nG];exact bE [_,_,_,_,_,_] [] (.a .v0 .v1) (.a (.a (.a .v2 .v3) .v4) (.m 2 (.a .v5 .k1))) [(-1,.en (.a .v0 .v1) (.a (.a (.a (.a .v2 .k1) (.a .v3 .k1)) .v4) (.m 2 .v5)))] rfl h3
 |out _ ih=>
  refine cm ih λl h1 h2 h3=>?_;exact⟨l,h1,λp hp=>⟨(h2 p hp).1,cL (h2 p hp).2.1,(h2 p hp).2.2⟩,by exact bE [_,_,_,_,_,_] [] (.a .v0 .v1) (.a (.a (.a .v2 .v3) (.a .v4 .k1)) (.m 2 .v5)) [(-1,.en (.a .v0 .v1) (.a (.a (.a (.a .v2 .k1) .v3) .v4) (.m 2 .v5)))] rfl h3⟩
 |inn _ ih=>
  refine cm ih λl h1 h2 h3=>?_;exact⟨l,h1,λp hp=>⟨(h2 p hp).1,(h2 p hp).2.1,(h2 p hp).2.2.1,cL (h2 p hp).2.2.2.1,(h2 p hp).2.2.2.2⟩,by exact bE [_,_,_,_,_,_] [] (.a .v0 .v1) (.a (.a (.a .v2 .v3) (.a .v4 .k1)) (.m 2 .v5)) [(-1,.en (.a .v0 .v1) (.a (.a (.a .v2 (.a .v3 .k1)) .v4) (.m 2 .v5)))] rfl h3⟩
section
theorem Dw{C:ax}{J:aj}{Z:ae}{l:List V}{e:E}(h:Ev C e J Z (.list l)):aI C (.m .eq e (.lst false [])) J Z (l=[]):=by
 refine⟨l.isEmpty,by cases l<;>simp,di h (λQ q=>q) ?_⟩;show gN 4 (.list l) (.list []) = _;cases l<;>rfl
section
variable{A B:List Int}{G₀ H₀ G H:List Bool}{P:Pt}{nd:Prop}{D:Nat}
abbrev pJ:=Option V×Option V
noncomputable def KR.R2(r:KR A B G₀ H₀)(P:Pt)(v3 v4 v5 v6 v7 v8 v9:Option V):aj:=[some (.inst 2 r.s.d),some (dG P),some (.ref r.a),v3,v4,v5,v6,v7,v8,v9]
structure tO(A B:List Int)(G₀ H₀ G H:List Bool)(P:Pt)(nd:Prop)(D X Y bd q:Nat)(held:List (Nat×Nat))(x y:Nat)(W:List Pt):Prop where
 mi:∃n m,MI A B G₀ H₀ P ((x,X,y,Y)::W) G H n/\dO A B x X y Y m/\(nd->n+(X-x+(Y-y))<=D+m+2*(held.length-q))
 low:∀e,e∈held.drop q->x<=e.1/\y<=e.2
 wt:dp W+2*(X-x+(Y-y))+3*q<=bd
noncomputable abbrev s8:List S:=[.ex (.bm (.x 2) .append [.tup [.x 3,.x 8,.x 5,.x 9]]),.s (.vs [3,5]) (.tup [.b .add (.x 8) (.c (.int 1)),.b .add (.x 9) (.c (.int 1))])]
theorem wz(p:Pt):wt p<=2*(p.2.1-p.1+(p.2.2.2-p.2.2.1))+1:=AK _
theorem NO{X Y bd:Nat}{held:List (Nat×Nat)}(hbd:bd<=901)(hin:∀e,e∈held->e.1<X/\e.2<Y/\A[e.1]?=B[e.2]?)(hup:held.Pairwise oS){q x y:Nat}{W:List Pt}{e:Nat×Nat}(he:held[q]?=some e)(h:tO A B G₀ H₀ G H P nd D X Y bd q held x y W) :
  tO A B G₀ H₀ G H P nd D X Y bd (q+1) held (e.1+1) (e.2+1) ((x,e.1,y,e.2)::W)/\∀(r:KR A B G₀ H₀)v7(Q:QO),Q .next (r.R2 P (some (nI (e.1+1))) (some (nI X)) (some (nI (e.2+1))) (some (nI Y)) v7 (some (nI e.1)) (some (nI e.2))) (r.T ((x,e.1,y,e.2)::W,G,H)) ->
   az (Ph pF (r.n+3)) s8 (r.R2 P (some (nI x)) (some (nI X)) (some (nI y)) (some (nI Y)) v7 (some (nI e.1)) (some (nI e.2))) (r.T (W,G,H)) Q:=by
 obtain⟨⟨n,m,mi,lm,hn⟩,low,hw⟩:=h;obtain⟨hq,rfl⟩:=iQ.1 he;have dr:held.drop q=held[q]::held.drop (q+1):=jI hq;have lo:=low held[q] (dr▸fI);refine g8 (hin held[q] (iR hq)) λi1 i2 i3=>?_;obtain⟨m',m₁,m₂,n',s1,s2,s3,s4,s5⟩:=mi.j.split (a:=held[q].1) (b:=held[q].2) (s:=1) lo.1 i1 lo.2 i2 λt ht=>by
  cases Nat.lt_one_iff.1 ht;exact i3
 have e1:=s1.uniq lm;have u1:=s2.2 _ (aD.edits lo.1 lo.2);have wl:=wz (x,held[q].1,y,held[q].2)
 dsimp only at wl
 refine⟨⟨⟨n',m₂,⟨mi.lg,mi.lh,mi.og,mi.oh,s5⟩,s3,λd=>?_⟩,λe he=>?_,?_⟩,λr v7 Q qq=>?_⟩
 ·have:=hn d;exact au [_,_,_,_,_,_,_,_,_,_,_,_,_,_,_,_,_,_,_,_,_,_,_] [] (.ln (.a .v0 (.a .v1 .v2)) (.a (.a .v3 .v4) (.m 2 .v5))) 1 [(1,.en (.a .v0 .v6) (.a .v7 (.a .v8 .v4))),(-1,.en .v6 .v9),(1,.ln .v8 (.a (.v 10) (.v 11))),(1,.ln (.a .v7 (.a (.v 12) (.v 13))) (.a (.a .v3 .v9) (.m 2 (.v 14)))),(2,.ln (.v 15) (.a .v5 (.a (.v 16) .k1))),(1,.ln (.v 17) (.a (.v 12) (.v 18))),(1,.ln (.v 19) (.a (.v 13) (.v 20))),(1,.en (.a .v1 (.a (.v 21) .k1)) (.v 17)),(1,.en (.a .v2 (.a (.v 22) .k1)) (.v 19)),(1,.en (.a (.v 10) (.v 20)) (.v 22)),(1,.en (.a (.v 11) (.v 18)) (.v 21)),(2,.en (.a (.v 14) (.v 16)) (.v 15))] rfl s4 e1 u1 this cW cW cW (aZ (au [_,_] [] (.ln (.a .v0 .k1) .v1) 1 [(1,.tn .v0 .v1)] rfl i1)) (aZ (au [_,_] [] (.ln (.a .v0 .k1) .v1) 1 [(1,.tn .v0 .v1)] rfl i2)) (aZ lo.2) (aZ lo.1) (aZ (au [_,_] [] (.ln .v0 .v1) 1 [(1,.tn .v0 .v1)] rfl hq))
 ·have p:(held.drop q).Pairwise oS:=X7 (List.drop_sublist q held) hup;rw[dr]at p;exact(xQ.1 p).1 e he
 ·show wt _+dp W+_+_<=bd;exact au [_,_,_,_,_,_,_,_,_,_,_,_,_,_,_,_] [] (.ln (.a (.a (.a .v0 .v1) (.m 2 (.a .v2 .v3))) (.m 3 (.a .v4 .k1))) .v5) 1 [(1,.ln (.a (.a .v1 (.m 2 (.a .v6 .v7))) (.m 3 .v4)) .v5),(1,.ln .v0 (.a (.m 2 (.a .v8 .v9)) .k1)),(2,.ln (.v 10) (.a .v6 (.v 11))),(2,.ln (.v 12) (.a .v7 (.v 13))),(2,.en (.a .v2 (.a (.v 14) .k1)) (.v 10)),(2,.en (.a .v3 (.a (.v 15) .k1)) (.v 12)),(2,.en (.a .v9 (.v 13)) (.v 15)),(2,.en (.a .v8 (.v 11)) (.v 14))] rfl hw wl cW cW (aZ (au [_,_] [] (.ln (.a .v0 .k1) .v1) 1 [(1,.tn .v0 .v1)] rfl i1)) (aZ (au [_,_] [] (.ln (.a .v0 .k1) .v1) 1 [(1,.tn .v0 .v1)] rfl i2)) (aZ lo.2) (aZ lo.1)
 ·have hl:W.length<1000:=bC (vM W) (by exact au [_,_,_,_,_] [] (.tn .v0 (.k 1000)) 1 [(1,.ln .v1 (.k 901)),(1,.ln (.a (.a .v0 (.m 2 (.a .v2 .v3))) (.m 3 .v4)) .v1)] rfl hbd hw);exact push r (p:=(x,held[q].1,y,held[q].2)) rfl (jo (aa rfl) (aa rfl) (aa rfl) (aa rfl)) hl (fL (u:=nI (held[q].1+1)) (v:=nI (held[q].2+1)) (bh (aa rfl) Ev.cn rfl) (bh (aa rfl) Ev.cn rfl) rfl qq)
end
end
section
section
variable{A B:List Int}{G₀ H₀ G H:List Bool}{P:Pt}{nd:Prop}{D:Nat}
theorem NN{X Y bd:Nat}{held:List (Nat×Nat)}(hbd:bd<=901)(hin:∀e,e∈held->e.1<X/\e.2<Y/\A[e.1]?=B[e.2]?)(hup:held.Pairwise oS){x y:Nat}{W:List Pt}(h:tO A B G₀ H₀ G H P nd D X Y bd 0 held x y W) :
  ∃x' y' W',tO A B G₀ H₀ G H P nd D X Y bd held.length held x' y' W'/\∀(r:KR A B G₀ H₀)v7(j:pJ)(Q:QO),(∀j:pJ,Q .next (r.R2 P (some (nI x')) (some (nI X)) (some (nI y')) (some (nI Y)) v7 j.1 j.2) (r.T (W',G,H))) ->
   ∃n,bZ (.vals (held.map de)) (.tup [8,9]) (λJ Z Q=>az (Ph pF (r.n+3)) s8 J Z Q) Q n 0 (r.R2 P (some (nI x)) (some (nI X)) (some (nI y)) (some (nI Y)) v7 j.1 j.2) (r.T (W,G,H)):=by
 obtain⟨s,hs,run⟩:=s7 (C:=λi:KR A B G₀ H₀×Option V=>Ph pF (i.1.n+3)) (b:=s8) (t:=.tup [8,9]) (held.map de) (λi(s:Nat×Nat×List Pt)(j:pJ)=>i.1.R2 P (some (nI s.1)) (some (nI X)) (some (nI s.2.1)) (some (nI Y)) i.2 j.1 j.2) (λi s=>i.1.T (s.2.2,G,H)) (λq s=>tO A B G₀ H₀ G H P nd D X Y bd q held s.1 s.2.1 s.2.2)
  (λq v s hv hs=>by
   rw[cO]at hv;cases w:held[q]? with
   |none=>rw[w]at hv;exact nn hv
   |some e=>
    rw[w]at hv;injection hv with hv;subst hv
    refine aT (NO hbd hin hup w hs) λh1 h2=>?_;exact⟨(e.1+1,e.2+1,(s.1,e.1,s.2.1,e.2)::s.2.2),h1,λi j Q qq=>h2 i.1 i.2 Q (qq (some (nI e.1),some (nI e.2)) _ (Sub.refl' _))⟩) (x,y,W) h
 rw[aY]at hs;exact⟨s.1,s.2.1,s.2.2,hs,λr v7 j Q qq=>run (r,v7) j Q qq⟩
def tw(A:List Int):Prop:=∀i j,i<A.length->j<A.length->A.getD i 0=A.getD j 0->i=j
theorem vx{A B:List Int}{i j:Nat}(hi:i<A.length)(hj:j<B.length):(A.getD i 0=B.getD j 0)↔A[i]?=B[j]?:=by
 rw[oc hi,oc hj,bL hi,bL hj];exact⟨congrArg some,dy⟩
theorem RQ(hz:A.length+B.length<=400)(hA:A.length<=4)(hB:B.length<=6){x k y l m:Nat}(hX:x+k<=A.length)(hY:y+l<=B.length)(hm:dO A B x (x+k) y (y+l) m) :
  ∃held:List (Nat×Nat),(∀e,e∈held->e.1<x+k/\e.2<y+l/\A[e.1]?=B[e.2]?)/\held.Pairwise oS/\(∀e,e∈held->x<=e.1/\y<=e.2)/\(tw A/\tw B->k+l<=m+2*held.length) /\
   ∀(r:dQ A B)(J:aj)(Q:QV),rd J 0=some (.inst 2 r.s.d)->(∀Q:QV,Q (pt x (x+k) y (y+l)) r.Z->WE (Ph pF (r.n+1)) (.tup [.x 3,.x 4,.x 5,.x 6]) J r.Z Q)->Q (.list (held.map de)) r.Z ->
    WE (Ph pF (r.n+1)) (.call 2 [.h (.x 0) 31 [.tup [.x 3,.x 4,.x 5,.x 6]]]) J r.Z Q:=by
 refine ar (MY (A:=A) (B:=B) hX hY hz) λps hp run=>?_;have k4:k<=4:=ai (df k x) (ai hX hA);refine oZ (RT hp.b (ai hp.n k4) λe he=>aQ (hp.a e he).2.2.2.1 (ai hY hB)) λrs r1 r2 r3 r4=>?_;refine⟨rs.map λi=>ps.getD i (0,0),λe he=>?_,r2,λe he=>⟨(hp.a e (r3 e he)).1,(hp.a e (r3 e he)).2.2.1⟩,λz_=>aT z_ λoA oB=>?_,λr J Q h0 ht q=>?_⟩
 ·have z:=hp.a e (r3 e he);exact⟨z.2.1,z.2.2.2.1,(vx (aQ z.2.1 hX) (aQ z.2.2.2.1 hY)).1 z.2.2.2.2⟩
 ·refine cm hm.1.pairs λc c1 c2 c3=>?_;have len:=r4 c c1 λe he=>by
   refine I5 (c2 e he) λpp50_ b1 b2 b3 b4=>?_;obtain⟨g1,g2,g3⟩:=pp50_;have ge:=(vx g2 g3).2 g1;refine hp.c e.1 e.2 b1 b2 (DL b1 b2 λq p1 p2 pe=>oA q e.1 (aQ p2 hX) g2 pe) ?_;rw[ge];exact DL b3 b4 λq p1 p2 pe=>oB q e.2 (aQ p2 hY) g3 pe
  rw[aY];exact au [_,_,_,_,_,_,_] [] (.ln (.a .v0 .v1) (.a .v2 (.m 2 .v3))) 1 [(1,.en (.a (.a .v4 .v0) (.a .v5 .v1)) (.a (.a (.a .v4 .v5) .v2) (.m 2 .v6))),(2,.ln .v6 .v3)] rfl c3 len
 ·refine ao h0 (ao (cY r.on rfl) (ht _ (run r _ ?_)));refine Mu r1 (bC (ai hp.n k4) (by decide)) ?_;rw[ig]at q;exact q
end
end
section
section
variable{A B:List Int}{G₀ H₀ G H:List Bool}{P p:Pt}{W:List Pt}{D:Nat}
abbrev nd(A B:List Int):Prop:=tw A/\tw B
noncomputable abbrev II:S:=.ite (.o false [.m .eq (.x 3) (.x 4),.m .eq (.x 5) (.x 6)])
   [.ex (.h (.x 0) 27 [.tup [.x 3,.x 4,.x 5,.x 6]])]
   [.s (.v 7) (.call 2 [.h (.x 0) 31 [.tup [.x 3,.x 4,.x 5,.x 6]]]),
    .ite (.m .eq (.x 7) (.lst false []))
    [.ex (.h (.x 0) 30 [.tup [.x 3,.x 4,.x 5,.x 6]])]
    [.for (.tup [8,9]) (.seq (.x 7)) s8,
     .ex (.bm (.x 2) .append [.tup [.x 3,.x 4,.x 5,.x 6]])]]
noncomputable abbrev w6:List S:=[.s (.vs [3,4,5,6]) (.h (.x 0) 26 [.bm (.x 2) .pop []]),II]
abbrev qJ:=Option V×Option V×Option V×Option V×Option V×Option V×Option V
noncomputable abbrev KR.R3(r:KR A B G₀ H₀)(P:Pt)(j:qJ):aj:=r.R2 P j.1 j.2.1 j.2.2.1 j.2.2.2.1 j.2.2.2.2.1 j.2.2.2.2.2.1 j.2.2.2.2.2.2
theorem n9{C:ax}{e:E}{t:T}{b:List S}{J:aj}{Z:ae}{Q:QO}{l:List V}(he:Ev C e J Z (.list l))(h:∃n,bZ (.vals l) t (λJ Z Q=>az C b J Z Q) Q n 0 J Z):WS C (.for t (.seq e) b) J Z Q:=he _ (ao rfl h)
theorem DX(r:KR A B G₀ H₀){x X y Y:Nat}(tr:∀(r:dQ A B) Q,Q (dG (x,X,y,Y)) r.Z->Ph pF (r.n+1) 35 [.inst 2 r.s.d,dG p] r.Z Q)(j:qJ)(Q:QO)(q:WS (Ph pF (r.n+3)) II (r.R2 P (some (nI x)) (some (nI X)) (some (nI y)) (some (nI Y)) j.2.2.2.2.1 j.2.2.2.2.2.1 j.2.2.2.2.2.2) (r.T (W,G,H)) Q) :
  az (Ph pF (r.n+3)) w6 (r.R3 P j) (r.T (p::W,G,H)) Q:=
 zp (u:=nI x) (v:=nI X) (w:=nI y) (x:=nI Y) (zf r rfl rfl tr ⟨rfl,iX (cD pF _) q⟩) (cD pF _)
theorem LB(hX:P.2.1<=A.length)(hY:P.2.2.2<=B.length)(hz:A.length+B.length<=400)(hA:A.length<=4)(hB:B.length<=6)(hwt:wt P<=900){n:Nat}(h:MI A B G₀ H₀ P (p::W) G H n)(hn:nd A B->n<=D)(hw:dp (p::W)<=wt P) :
  ∃s':KS,(∃n,MI A B G₀ H₀ P s'.1 s'.2.1 s'.2.2 n/\(nd A B->n<=D))/\dp s'.1<dp (p::W)/\∀(r:KR A B G₀ H₀)(j:qJ)(Q:QO),(∀(j:qJ)Z,Sub (r.T s') Z->Q .next (r.R3 P j) Z)->az (Ph pF (r.n+3)) w6 (r.R3 P j) (r.T (p::W,G,H)) Q:=by
 refine ar (yw hX hY h) λpp00_ T tr=>?_;obtain⟨x,X,y,Y⟩:=pp00_;have h2:=h.trim hX hY T;have b:=h2.j.top;have lX:X<=A.length:=ai b.2.2.1 hX;have lY:Y<=B.length:=ai b.2.2.2.2 hY;obtain⟨k,rfl⟩:=bS (show x<=X from b.1.x);obtain⟨l,rfl⟩:=bS (show y<=Y from b.1.y);have tv:∀(r:KR A B G₀ H₀)v7 v8 v9,aI (Ph pF (r.n+3)) (.o false [.m .eq (.x 3) (.x 4),.m .eq (.x 5) (.x 6)]) (r.R2 P (some (nI x)) (some (nI (x+k))) (some (nI y)) (some (nI (y+l))) v7 v8 v9) (r.T (W,G,H)) (x=x+k\/y=y+l):=
  λr _ _ _=>iW (lp (aa rfl) (aa rfl)) λ_=>lp (aa rfl) (aa rfl)
 have wtt:=z5 T;have wlt:dp W<dp (p::W):=xC (wd p);obtain⟨m,hm⟩:=lq (A:=A) (B:=B) (aL x k) (aL y l);by_cases e:x=x+k\/y=y+l
 ·obtain⟨m',n',h3,h4,h5⟩:=h2.mark;have:=h3.edge e;refine⟨(W,cU G x k,cU H y l),⟨n',h5,λd=>by have t2_:=hn d;exact au [_,_,_,_,_,_,_,_,_,_] [] (.ln .v0 .v1) 1 [(1,.en (.a .v0 .v2) (.a .v3 (.a .v4 .v5))),(-1,.en .v2 (.a .v6 .v7)),(1,.ln .v3 .v1),(1,.ln (.a .v8 .v4) (.a .v6 .v8)),(1,.ln (.a .v9 .v5) (.a .v7 .v9))] rfl h4 this t2_ cW cW⟩,wlt,λr j Q q=>DX r tr j Q (dF (tv r _ _ _) e ?_)⟩;have lens:G.length<=400/\H.length<=400:=⟨h.lg▸ai (aL ..) hz,h.lh▸ai (df ..) hz⟩
  exact ao (cY (r.on _) rfl) (yO r (h.lg▸lX) (h.lh▸lY) (ai lens.1 (by decide)) (ai lens.2 (by decide)) (ao rfl (q (_,_,_,_,_,_,_) _ (Sub.refl' _))))
 ·obtain⟨held,g1,g2,g3,g4,run⟩:=RQ hz hA hB lX lY hm;have lo:∀(r:KR A B G₀ H₀)j(Q:QO),WS (Ph pF (r.n+3)) (.ite (.m .eq (.x 7) (.lst false []))
    [.ex (.h (.x 0) 30 [.tup [.x 3,.x 4,.x 5,.x 6]])]
    [.for (.tup [8,9]) (.seq (.x 7)) s8,.ex (.bm (.x 2) .append [.tup [.x 3,.x 4,.x 5,.x 6]])]) (r.R2 P (some (nI x)) (some (nI (x+k))) (some (nI y)) (some (nI (y+l))) (some (.list (held.map de))) j.2.2.2.2.2.1 j.2.2.2.2.2.2) (r.T (W,G,H)) Q->az (Ph pF (r.n+3)) w6 (r.R3 P j) (r.T (p::W,G,H)) Q:=λr j Q q=>
   DX r tr j Q (bH (tv r _ _ _) e (run (r.run (r.n+2) (W,G,H)) _ _ rfl (λQ q=>jo (aa rfl) (aa rfl) (aa rfl) (aa rfl) Q q) (iX (cD pF _) q)))
  by_cases c:held=[]
  ·subst c;refine g9 (ym (A:=A) (B:=B) (G₀:=G) (H₀:=H) (P:=(x,x+k,y,y+l)) lX lY hz h.lg h.lh b.1 hm) λG' H' L runF=>?_;refine cG (L.in h2) λm' n' u1 u2 u3=>?_;have:=u1.uniq hm;refine⟨(W,G',H'),⟨n',u3,λd=>by have t4_:=hn d;exact au [_,_,_,_,_] [] (.ln .v0 .v1) 1 [(1,.en (.a .v0 .v2) (.a .v3 .v4)),(-1,.en .v2 .v4),(1,.ln .v3 .v1)] rfl u2 this t4_⟩,wlt,λr j Q q=>lo r j Q (dF (Dw (aa rfl)) rfl ?_)⟩;refine ao (cY (r.on _) rfl) (runF r.n _ r.s r.hA r.hB r.sheet _ (ao rfl ?_));rw[r.marked];exact q (_,_,_,_,_,_,_) _ (Sub.refl' _)
  ·have hk:0<k:=pv λz=>e (.inl (by rw[z];rfl));have hp:wt (x,x+k,y,y+l)=2*(k+l)-1:=by
    have z:=tm (n:=x+k-x+(y+l-y)) (by rw[cC];exact KU hk _);have z:wt (x,x+k,y,y+l)+1=2*(x+k-x+(y+l-y)):=z;rw[cC,cC]at z;rw[<-z];rfl
   have hw':wt p+dp W<=wt P:=hw;have hlen:0<held.length:=mw.2 c;obtain⟨x',y',W',⟨⟨n₁,m₁,mi,lm,hn1⟩,_,hwt1⟩,runL⟩:=NN (nd:=nd A B) (D:=D) (bd:=dp W+2*(k+l)) (by exact au [_,_,_,_,_,_,_] [] (.ln (.a .v0 (.m 2 (.a .v1 .v2))) (.k 901)) 1 [(1,.ln .v3 (.k 900)),(1,.ln .v4 .v5),(-1,.en .v4 .v6),(1,.ln (.a .v5 .v0) .v3),(1,.ln (.m 2 (.a .v1 .v2)) (.a .v6 .k1))] rfl hwt wtt hp hw' cW) g1 g2 (x:=x) (y:=y) (W:=W) ⟨⟨n,m,h2,hm,λd=>by
    have t5_:=hn d;have t6_:=g4 d;rw[cC,cC];exact au [_,_,_,_,_,_,_] [] (.ln (.a .v0 (.a .v1 .v2)) (.a (.a .v3 .v4) (.m 2 .v5))) 1 [(1,.ln .v0 .v3),(1,.ln (.a .v1 .v2) (.a .v4 (.m 2 .v6))),(2,.ln .v6 (.a .v5 .k0))] rfl t5_ t6_ cW⟩,g3,by rw[cC,cC];exact aC _⟩
   have bl:=mi.j.top.1;have le:=lm.2 _ (aD.edits bl.x bl.y);have wl:=wz (x',x+k,y',y+l)
   dsimp only at wl le
   have hW:W'.length<1000:=bC (vM W') (by exact au [_,_,_,_,_,_,_,_,_,_,_] [] (.tn .v0 (.k 1000)) 1 [(1,.ln .v1 (.k 900)),(1,.ln .v2 .v3),(-1,.en .v2 .v4),(1,.ln (.a .v3 .v5) .v1),(1,.ln (.a (.a .v0 (.m 2 (.a .v6 .v7))) (.m 3 .v8)) (.a .v5 (.m 2 (.a .v9 (.v 10))))),(1,.ln (.m 2 (.a .v9 (.v 10))) (.a .v4 .k1))] rfl hwt wtt hp hw' hwt1 cW);refine⟨((x',x+k,y',y+l)::W',G,H),⟨n₁,mi,λd=>by have:=hn1 d;exact au [_,_,_,_,_,_,_] [] (.ln .v0 .v1) 1 [(1,.ln .v2 (.a .v3 .v4)),(1,.ln (.a .v0 (.a .v4 .v3)) (.a (.a .v1 .v2) (.m 2 .v5))),(2,.en (.a .v5 .v6) .v6)] rfl le this (aZ (au [_] [] (.ln .v0 .v0) 1 [] rfl))⟩,?_,λr j Q q=>lo r j Q (bH (Dw (aa rfl)) (λz=>c (xK.1 z)) (aO (n9 (aa rfl) (runL r _ (j.2.2.2.2.2.1,j.2.2.2.2.2.2) _ λj'=>?_))))⟩
   ·show wt _+dp W'<wt p+dp W;exact au [_,_,_,_,_,_,_,_,_,_,_] [] (.tn (.a .v0 .v1) (.a .v2 .v3)) 1 [(1,.ln .v4 .v2),(-1,.en .v4 .v5),(3,.tn .k0 .v6),(1,.ln (.a (.a .v1 (.m 2 (.a .v7 .v8))) (.m 3 .v6)) (.a .v3 (.m 2 (.a .v9 (.v 10))))),(1,.ln .v0 (.a (.m 2 (.a .v7 .v8)) .k1)),(1,.ln (.m 2 (.a .v9 (.v 10))) (.a .v5 .k1))] rfl wtt hp hlen hwt1 wl cW
   ·exact push r (p:=(x',x+k,y',y+l)) rfl (jo (aa rfl) (aa rfl) (aa rfl) (aa rfl)) hW (q (_,_,_,_,_,_,_) _ (Sub.refl' _))
end
end
section
section
variable{A B:List Int}{G₀ H₀:List Bool}{P:Pt}{D:Nat}
theorem Fg(hX:P.2.1<=A.length)(hY:P.2.2.2<=B.length)(hz:A.length+B.length<=400):wt P<=900:=by
 have h1:P.2.1-P.1<=A.length:=ai (ew ..) hX;have h2:P.2.2.2-P.2.2.1<=B.length:=ai (ew ..) hY;exact ai (AK _) (by exact au [_,_,_,_] [] (.ln (.a (.m 2 (.a .v0 .v1)) .k1) (.k 900)) 1 [(2,.ln (.a .v2 .v3) (.k 400)),(2,.ln .v0 .v2),(2,.ln .v1 .v3)] rfl hz h1 h2)
theorem E8{Z:ae}{s:Sh}{a:Nat}{l:List V}{G H:List Bool}(hs:gF s G₀ H₀ Z)(ha:Z a=none):Sub (ak (ak Z s.g (.list (vB G))) s.h (.list (vB H))) (ak (ak (ak Z s.g (.list (vB G))) s.h (.list (vB H))) a (.list l)):=λz m h=>(aA λe=>by
 have ng:a≠s.g:=λz=>by rw[z,hs.at_g]at ha;cases ha
 have nh:a≠s.h:=λz=>by rw[z,hs.at_h]at ha;cases ha
 rw[e,aA nh,aA ng,ha]at h;exact nn h).trans h
theorem LA(hX:P.2.1<=A.length)(hY:P.2.2.2<=B.length)(hA4:A.length<=4)(hB6:B.length<=6)(hA:G₀.length=A.length)(hB:H₀.length=B.length)(b:ox G₀ H₀ P)(hD:dO A B P.1 P.2.1 P.2.2.1 P.2.2.2 D) :
  ∃G H n,oH A B G₀ H₀ P G H n/\(nd A B->n<=D)/\∀m Z(s:Sh),s.A=A->s.B=B->gF s G₀ H₀ Z->∀Q:QV,Q .none (ak (ak Z s.g (.list (vB G))) s.h (.list (vB H)))->Ph pF (m+4) 41 [.inst 2 s.d,dG P] Z Q:=by
 have hz:A.length+B.length<=400:=ai (ff hA4 hB6) (by decide);have hwt:=Fg hX hY hz;obtain⟨⟨W,G,H⟩,⟨⟨n,hI,hn⟩,_⟩,ht,run⟩:=fi (C:=λr:KR A B G₀ H₀=>Ph pF (r.n+3)) (c:=.m .ne (.x 2) (.lst false [])) (b:=w6) (λr(_:KS)(j:qJ)=>r.R3 P j) (λr s=>r.T s)
  (λs=>(∃n,MI A B G₀ H₀ P s.1 s.2.1 s.2.2 n/\(nd A B->n<=D))/\dp s.1<=wt P) (λs=>dp s.1) (λs=>s.1.reverse.map dG≠[]) (λs hs r j=>p0 (aa rfl) (r.top s))
  (λs=>oW (λW G H=>lz (λhs ht=>absurd rfl ht) (λp W hs _=>ar hs.1 λn hI hn=>
    cm (LB hX hY hz hA4 hB6 hwt hI hn hs.2) λs' h1 h2 h3=>⟨s',⟨h1,ai (cu h2) hs.2⟩,h2,h3⟩) W) s) ([P],G₀,H₀) ⟨⟨D,MI.first hA hB b hD,λ_=>aC _⟩,aC _⟩
 have hW:W=[]:=by
  cases W with
  |nil=>rfl
  |cons p W=>exact absurd (λz=>by rw[pD]at z;exact absurd z (by simp)) ht
 subst hW;refine⟨G,H,n,hI.laid,hn,λm Z s sA sB hs Q q=>bN rfl λa ha=>?_⟩;have z:=run ⟨m,Z,s,a,sA,sB,hs,ha⟩ (none,none,none,none,none,none,none) (λo J Z=>∃v' Z'',Wk (jb o) Z v' Z''/\Q v' Z'') λj=>j8 (E8 hs ha) q;rw[<-KR.init]at z;exact iX (cD pF _) z
theorem E0{a b:List Ln}(ha:a.length<=4)(hb:b.length<=6):∃cs G H c d,gm a b cs G H c d/\(nd (nA a b) (nB a b)->∀D,dO (nA a b) (nB a b) 0 a.length 0 b.length D->c+d=D)/\∀n Z(Q:QV),Q (.list (cs.map aV)) Z->Ph pF (n+5) 4 [.list (vY a),.list (vY b)] Z Q:=by
 have hz:a.length+b.length<=400:=ai (ff ha hb) (by decide);refine bA (lq (A:=nA a b) (B:=nB a b) (bJ a.length) (bJ b.length)) λD hD=>?_;refine kQ (LA (A:=nA a b) (B:=nB a b) (P:=(0,a.length,0,b.length)) (dA (dY a b).symm) (dA (d7 a b).symm) (by rw[dY];exact ha) (by rw[d7];exact hb) ((jr _).trans (dY a b).symm) ((jr _).trans (d7 a b).symm) yC hD) λG H n L hn run=>?_;obtain⟨cs,c,d,rfl,T,chg⟩:=Ao hz L;refine⟨cs,G,H,c,d,T,λw D' hD'=>?_,λn Z Q q=>bN rfl (GH (K:=4) rfl (bC hz (by decide)) (by decide) run chg q)⟩;rw[<-hD.uniq hD'];exact cX (hn w) (hD.2 _ (T.lay.way ((dY a b).trans T.lg.symm) ((d7 a b).trans T.lh.symm)))
end
end
section
noncomputable def dj(A:List Int)(x:Nat):Nat->Int->List Nat
 |0,_=>[]
 |k+1,v=>if v=A.getD (x+k) 0 then dj A x k v++[x+k] else dj A x k v
theorem SH{A:List Int}{x p:Nat}{v:Int}:∀{k:Nat},p∈dj A x k v->x<=p/\p<x+k/\A.getD p 0=v:=@λrr=>ni (@λh=>nm h)
 (@λk ih h=>by
  unfold dj at h;by_cases c:v=A.getD (x+k) 0
  ·rw[if_pos c]at h;rcases gw.1 h with h|h
   ·have z:=ih h;exact⟨z.1,eL z.2.1,z.2.2⟩
   ·cases cJ.1 h;exact⟨aL ..,bu _,c.symm⟩
  ·rw[if_neg c]at h;have z:=ih h;exact⟨z.1,eL z.2.1,z.2.2⟩) rr
theorem Gp{A:List Int}{x p:Nat}(hx:x<=p):∀{k:Nat},p<x+k->dj A x k (A.getD p 0)≠[]:=@λrr=>ni (@λh=>absurd h (bc.2 hx))
 (@λk ih h=>by
  unfold dj;by_cases c:A.getD p 0=A.getD (x+k) 0
  ·rw[if_pos c];exact λe=>(nc (q8.1 e).2)
  ·rw[if_neg c];exact ih ((j9.1 h).resolve_right λe=>c (by rw[e];rfl))) rr
theorem Qk{A:List Int}{x:Nat}{v:Int}:∀k:Nat,(dj A x k v).length<=k:=λrr=>ni (aC _)
 (λk ih=>by
  unfold dj;by_cases c:v=A.getD (x+k) 0
  ·rw[if_pos c,bB];exact cK (ih)
  ·rw[if_neg c];exact fv (ih)) rr
structure jt(rows:Int->List Nat)(U:ae)(d m:Nat)(f:Int->Option V)(loc:Int->Nat)(Z:ae):Prop where
 hd:Z d=some (.dI m f)
 hf:∀v,rows v≠[]->f v=some (.ref (loc v))
 hn:∀v,rows v=[]->f v=none
 hl:∀v,rows v≠[]->Z (loc v)=some (.list ((rows v).map nI))
 inj:∀v w,rows v≠[]->rows w≠[]->loc v=loc w->v=w
 sub:Sub U Z
 ud:U d=none
 ul:∀v,rows v≠[]->U (loc v)=none
section
variable{rows:Int->List Nat}{U Z:ae}{d m:Nat}{f:Int->Option V}{loc:Int->Nat}
theorem jt.ld(h:jt rows U d m f loc Z){v:Int}(n:rows v≠[]):loc v≠d:=kN (h.hl v n) h.hd rfl
theorem jt.old(h:jt rows U d m f loc Z){v:Int}(n:rows v≠[])(p:Nat):jt (λw=>if w=v then rows w++[p] else rows w) U d m f loc (ak Z (loc v) (.list ((rows v++[p]).map nI))):=by
 have e:∀w,(if w=v then rows w++[p] else rows w)≠[]->rows w≠[]:=λw k=>by
  by_cases c:w=v
  ·rw[c];exact n
  ·rw[if_neg c]at k;exact k
 refine⟨(aA (h.ld n).symm).trans h.hd,λw k=>h.hf w (e w k),λw k=>?_,λw k=>?_,λw u k l=>h.inj w u (e w k) (e u l),λz m' k=>?_,h.ud,λw k=>h.ul w (e w k)⟩
 ·by_cases c:w=v
  ·rw[if_pos c]at k;exact(nc (q8.1 k).2)
  ·rw[if_neg c]at k;exact h.hn w k
 ·by_cases c:w=v
  ·subst c;rw[if_pos rfl,aP]
  ·rw[if_neg c,aA λz=>c (h.inj w v (e w k) n z)];exact h.hl w (e w k)
 ·exact(aA λz'=>by rw[z',h.ul v n]at k;exact nn k).trans (h.sub z m' k)
theorem jt.new(h:jt rows U d m f loc Z){v:Int}(n:rows v=[])(p:Nat){c:Nat}(hc:Z c=none) :
  jt (λw=>if w=v then rows w++[p] else rows w) U d (m+1) (λj=>if j=v then some (.ref c) else f j) (λw=>if w=v then c else loc w) (ak (ak (ak Z c (.list [])) d (.dI (m+1) λj=>if j=v then some (.ref c) else f j)) c (.list [nI p])):=by
 have cd:c≠d:=λe=>by rw[e,h.hd]at hc;cases hc
 have cl:∀w,rows w≠[]->loc w≠c:=λw k e=>by have:=h.hl w k;rw[e,hc]at this;exact nn this
 have uc:U c=none:=by
  cases e:U c with
  |none=>rfl
  |some m'=>have:=h.sub c m' e;rw[hc]at this;exact nn this
 have e:∀w,w≠v->(if w=v then rows w++[p] else rows w)≠[]->rows w≠[]:=λw c k=>by rw[if_neg c]at k;exact k
 refine⟨(aA cd.symm).trans (aP ..),λw k=>?_,λw k=>?_,λw k=>?_,λw u k l z=>?_,λz m' k=>?_,h.ud,λw k=>?_⟩
 ·by_cases q:w=v
  ·rw[if_pos q,if_pos q]
  ·rw[if_neg q,if_neg q];exact h.hf w (e w q k)
 ·by_cases q:w=v
  ·rw[if_pos q]at k;exact(nc (q8.1 k).2)
  ·rw[if_neg q]at k ⊢;exact h.hn w k
 ·by_cases q:w=v
  ·subst q;rw[if_pos rfl,if_pos rfl,aP,n];rfl
  ·rw[if_neg q,if_neg q,aA (cl w (e w q k)),aA (h.ld (e w q k)),aA (cl w (e w q k))];exact h.hl w (e w q k)
 ·by_cases q:w=v
  ·by_cases t:u=v
   ·rw[q,t]
   ·rw[if_pos q,if_neg t]at z;exact absurd z.symm (cl u (e u t l))
  ·by_cases t:u=v
   ·rw[if_neg q,if_pos t]at z;exact absurd z (cl w (e w q k))
   ·rw[if_neg q,if_neg t]at z;exact h.inj w u (e w q k) (e u t l) z
 ·have z1:z≠c:=λz'=>by rw[z',uc]at k;exact nn k
  exact(aA z1).trans ((aA λz'=>by rw[z',h.ud]at k;exact nn k).trans ((aA z1).trans (h.sub z m' k)))
 ·by_cases q:w=v
  ·rw[if_pos q];exact uc
  ·rw[if_neg q];exact h.ul w (e w q k)
end
end
section
section
variable{A B:List Int}{x k y l:Nat}
noncomputable def rR(r:dQ A B)(d x k y l:Nat)(mo:Int)(j:Option V×Option V):aj:=
 [some (.inst 2 r.s.d),some (pt x (x+k) y (y+l)),some (.int mo),some (nI x),some (nI (x+k)),some (nI y),some (nI (y+l)),some (.ref d),j.1,j.2,none,none,none,none,none,none,none]
noncomputable abbrev Vu:List S:=[.s (.v 9) (.bm (.x 7) .setdefault [.i (.a (.x 0) 7) (.x 8),.lst true []]),.ex (.bm (.x 9) .append [.x 8])]
theorem DF{Z:ae}{d m:Nat}{f:Int->Option V}(h:Z d=some (.dI m f)):mM Z d=true:=by unfold mM;rw[h]
theorem NH(r:dQ A B){d q m:Nat}{f:Int->Option V}{loc:Int->Nat}{Z:ae}(hX:x+q<A.length)(hm:m<=q)(hq:q<1000)(h:jt (dj A x q) r.Z d m f loc Z)(mo:Int){j:Option V}{Q:QO}
  (qq:∀(a:Option V)(row:V)Z' Z'' m f loc,Sub Z' Z''->m<=q+1->jt (dj A x (q+1)) r.Z d m f loc Z'->Q .next (rR r d x k y l mo (a,some row)) Z''):az (Ph pF r.n) Vu (rR r d x k y l mo (some (nI (x+q)),j)) Z Q:=by
 generalize hv:A.getD (x+q) 0=v
 have rs:dj A x (q+1)=λw=>if w=v then dj A x q w++[x+q] else dj A x q w:=by rw[<-hv];rfl
 have ev:Ev (Ph pF r.n) (.i (.a (.x 0) 7) (.x 8)) (rR r d x k y l mo (some (nI (x+q)),j)) Z (.int v):=
  bW (br (aa rfl) ((oE (h.sub _ _ r.on)).trans (congrArg (λl=>some (V.list (vI l))) r.hA))) (aa rfl) (by rw[<-hv,oc hX];exact p7 (bL hX))
 refine⟨DF h.hd,ev _ λc hc=>?_⟩;have cd:d≠c:=λe=>by rw[<-e,h.hd]at hc;cases hc
 have hd:ak Z c (.list []) d=some (.dI m f):=(aA cd).trans h.hd;have ri:AX (ak Z c (.list [])) (.ref d)=some (d,m,f):=by show((ak Z c (.list [])) d).bind _ = _;rw[hd];rfl
 refine gc (ao ri (ao rfl (ao (a:=v) rfl ⟨bC hm (fK hq (by decide)),?_⟩)));by_cases n:dj A x q v=[]
 ·have w:=h.new n (x+q) hc;rw[<-rs]at w;show match f v with|some x=>_|none=>_
  rw[h.hn v n];have e:ak (ak Z c (.list [])) d (.dI (m+1) λj=>if j=v then some (.ref c) else f j) c=some (.list []):=(aA cd.symm).trans (aP ..);refine⟨iZ e rfl,aa (i:=8) (v:=nI (x+q)) rfl _ (gc (kx e (by decide) (ao rfl ?_)))⟩;exact qq (some (nI (x+q))) (.ref c) _ _ _ _ _ (Sub.refl' _) (cK hm) w
 ·have w:=h.old n (x+q);rw[<-rs]at w;show match f v with|some x=>_|none=>_
  rw[h.hf v n];have lc:loc v≠c:=λe=>by have:=h.hl v n;rw[e,hc]at this;exact nn this
  have e:ak Z c (.list []) (loc v)=some (.list ((dj A x q v).map nI)):=(aA lc).trans (h.hl v n);refine⟨iZ e rfl,aa (i:=8) (v:=nI (x+q)) rfl _ (gc (kx e ?_ (ao rfl ?_)))⟩
  ·rw[aY];exact bC (Qk q) (fK hq (by decide))
  ·have z:=qq (some (nI (x+q))) (.ref (loc v)) _ (ak (ak Z c (.list [])) (loc v) (.list ((dj A x q v).map nI++[nI (x+q)]))) _ _ _ (λz m' k=>?_) (fv hm) w
   ·exact z
   ·by_cases zl:z=loc v
    ·rw[zl,aP]at k ⊢;rw[dw]at k;exact k
    ·rw[aA zl]at k ⊢;exact(aA λzc=>by rw[zc,hc]at k;exact nn k).trans k
end
end
section
structure SR(A B:List Int)(x k:Nat)where
 r:dQ A B
 d:Nat
 m:Nat
 f:Int->Option V
 loc:Int->Nat
 Z:ae
 h:jt (dj A x k) r.Z d m f loc Z
section
variable{A B:List Int}{x k:Nat}
section
variable(i:SR A B x k){C:ax}{J:aj}{e g u:E}{p:Nat}{v:Int}
theorem SR.on:jX i.r.s i.Z:=i.h.sub _ _ i.r.on
theorem SR.a(h:Ev C e J i.Z (.inst 2 i.r.s.d)):Ev C (.a e 7) J i.Z (.list (vI A)):=br h ((oE i.on).trans (congrArg (λl=>some (V.list (vI l))) i.r.hA))
theorem SR.b(h:Ev C e J i.Z (.inst 2 i.r.s.d)):Ev C (.a e 8) J i.Z (.list (vI B)):=br h ((te i.on).trans (congrArg (λl=>some (V.list (vI l))) i.r.hB))
theorem SR.len(hb:Ev C g J i.Z (.ref i.d))(hu:Ev C u J i.Z (.int v))(n:dj A x k v≠[]):Ev C (.bi .len [.i g u]) J i.Z (nI (dj A x k v).length):=by
 have e:eP i.Z (.ref i.d) (.int v)=some (.ref (i.loc v)):=by
  have a:cc i.Z i.d=none:=by unfold cc;rw[i.h.hd];rfl
  have c:dD i.Z i.d (.int v)=some (i.f v):=by unfold dD;rw[i.h.hd];rfl
  show(match cc i.Z i.d with|some l=>_|none=>(dD i.Z i.d (.int v)).bind λo=>o) = _;rw[a,c,i.h.hf v n];rfl
 have z:=qi (bW hb hu e) (i.h.hl v n);rw[aY]at z;exact z
end
theorem mL{C:ax}{J:aj}{Z:ae}{a u:E}{p:Nat}{L:List Int}(ha:Ev C a J Z (.list (vI L)))(hu:Ev C u J Z (nI p))(hp:p<L.length):Ev C (.i a u) J Z (.int (L.getD p 0)):=
 bW ha hu (by rw[oc hp];exact p7 (bL hp))
theorem eF{C:ax}{e:E}{v:V}{rest:List S}{J:aj}{Z:ae}{Q:QO}(h:Ev C e J Z v)(q:Q (.ret v) J Z):az C (.ret e::rest) J Z Q:=h _ q
theorem Ue{y l at' far:Nat}(mo:Int)(hX:x+k<=A.length)(hY:y+l<=B.length)(h1:x<=at')(h2:at'<x+k)(h3:y<=far)(h4:far<y+l) :
  ∃t:Bool,∀(i:SR A B x k)n(Q:QV),Q (.bool t) i.Z->Ph pF (n+1) 43 [.inst 2 i.r.s.d,nI at',nI far,nI x,nI y,.ref i.d,.int mo] i.Z Q:=by
 have ps{p:Nat}(h:0<p):p-1<p:=nO h mC;have tv:∀(i:SR A B x k)n,aI (Ph pF n) (.o false [.m .eq (.x 1) (.x 3),.m .eq (.x 2) (.x 4),.m .ne (.i (.a (.x 0) 7) (.b .sub (.x 1) (.c (.int 1)))) (.i (.a (.x 0) 8) (.b .sub (.x 2) (.c (.int 1))))]) [some (.inst 2 i.r.s.d),some (nI at'),some (nI far),some (nI x),some (nI y),some (.ref i.d),some (.int mo)] i.Z
   (at'=x\/far=y\/A.getD (at'-1) 0≠B.getD (far-1) 0):=λi n=>vt (lp (aa rfl) (aa rfl)) (λ_=>lp (aa rfl) (aa rfl)) λe1 e2=>by
  have p1:0<at':=jJ (hF h1 (nX e1));have p2:0<far:=jJ (hF h3 (nX e2));exact qt (mL (i.a (aa rfl)) (jO p1 (aa rfl)) (fK (ps p1) (aQ h2 hX))) (mL (i.b (aa rfl)) (jO p2 (aa rfl)) (fK (ps p2) (aQ h4 hY)))
 by_cases c:at'=x\/far=y\/A.getD (at'-1) 0≠B.getD (far-1) 0
 ·exact⟨false,λi n Q q=>bN rfl (aO (dF (tv i n) c (bX q)))⟩
 ·have ne:at'≠x:=λe=>c (.inl e);have p1:0<at':=jJ (hF h1 (nX ne));have p2:=fK (ps p1) h2;have n:dj A x k (A.getD (at'-1) 0)≠[]:=Gp (Nat.le_sub_one_of_lt (hF h1 (nX ne))) p2;refine⟨decide (((dj A x k (A.getD (at'-1) 0)).length:Int)<=mo),λi n' Q q=>bN rfl (aO (bH (tv i n') c ?_))⟩;exact eF (di (op:=.le) (i.len (aa rfl) (mL (i.a (aa rfl)) (jO p1 (aa rfl)) (aQ p2 hX)) n) (aa (v:=.int mo) rfl) rfl) (bX q)
end
end
section
abbrev jG:=Option (Nat×Nat×Nat×Nat)
noncomputable def bV:jG->V
 |none=>.none
 |some (r,z,a,f)=>.tup [nI r,.int (-(z:Int)),nI a,nI f]
def lJ(A B:List Int)(x k y l:Nat):jG->Prop
 |none=>True
 |some (_,z,a,f)=>0<z/\x<=a/\a+z<=x+k/\y<=f/\f+z<=y+l/\∀t,t<z->A[a+t]?=B[f+t]?
section
variable{A B:List Int}{x k y l:Nat}
abbrev tJ:=Option V×Option V×Option V
noncomputable def SR.R(i:SR A B x k)(y l:Nat)(mo:Int)(v8:Option V)(row:V)(b:jG)(al:Bool)(far at':Option V)(j:tJ):aj:=
 [some (.inst 2 i.r.s.d),some (pt x (x+k) y (y+l)),some (.int mo),some (nI x),some (nI (x+k)),some (nI y),some (nI (y+l)),some (.ref i.d),v8,some row,some (bV b),some (.bool al),far,at',j.1,j.2.1,j.2.2]
noncomputable def fS(u v:Nat):Nat:=if v<u then v else u
theorem vQ{C:ax}{J:aj}{Z:ae}{a b:E}{u v:Nat}(h:Ev C a J Z (nI u))(k:Ev C b J Z (nI v)):Ev C (.bi .min [a,b]) J Z (nI (fS u v)):=λQ q=>h _ (k _ (show Q (V.int (if (v:Int)<u then(v:Int) else(u:Int))) Z by
 have e:(if (v:Int)<u then(v:Int) else(u:Int))=(fS u v:Nat):=by
  unfold fS;by_cases c:v<u
  ·rw[if_pos c,if_pos (dN.2 c)]
  ·rw[if_neg c,if_neg λz=>c (dN.1 z)]
 rw[e];exact q))
noncomputable abbrev Ii:S:=.whl (.o true [.m .lt (.b .add (.x 13) (.x 14)) (.x 4),.m .lt (.b .add (.x 12) (.x 14)) (.x 6),.m .eq (.i (.a (.x 0) 7) (.b .add (.x 13) (.x 14))) (.i (.a (.x 0) 8) (.b .add (.x 12) (.x 14)))])
     [.s (.v 15) (.bi .min [.x 15,.bi .len [.i (.x 7) (.i (.a (.x 0) 7) (.b .add (.x 13) (.x 14)))]]),.aug (.v 14) .add (.c (.int 1))]
theorem Oq(hX:x+k<=A.length)(hY:y+l<=B.length){at' far n0:Nat}(mo:Int)(b:jG)(al:Bool)(h1:x<=at')(h2:at'<x+k)(h4:far<y+l)(he:A[at']?=B[far]?) :
  ∃z rar,0<z/\at'+z<=x+k/\far+z<=y+l/\(∀t,t<z->A[at'+t]?=B[far+t]?)/\∀(i:SR A B x k)v8(row:V)v16(Q:QO),Q .next (i.R y l mo v8 row b al (some (nI far)) (some (nI at')) (some (nI z),some (nI rar),v16)) i.Z ->
   WS (Ph pF (i.r.n+1)) Ii (i.R y l mo v8 row b al (some (nI far)) (some (nI at')) (some (nI 0),some (nI n0),v16)) i.Z Q:=by
 obtain⟨⟨z,rar⟩,⟨a1,a2,a3⟩,ht,run⟩:=fi (C:=λi:SR A B x k×Option V×V×Option V=>Ph pF (i.1.r.n+1)) (c:=.o true [.m .lt (.b .add (.x 13) (.x 14)) (.x 4),.m .lt (.b .add (.x 12) (.x 14)) (.x 6),.m .eq (.i (.a (.x 0) 7) (.b .add (.x 13) (.x 14))) (.i (.a (.x 0) 8) (.b .add (.x 12) (.x 14)))])
  (b:=[.s (.v 15) (.bi .min [.x 15,.bi .len [.i (.x 7) (.i (.a (.x 0) 7) (.b .add (.x 13) (.x 14)))]]),.aug (.v 14) .add (.c (.int 1))])
  (λi(s:Nat×Nat)(_:Unit)=>i.1.R y l mo i.2.1 i.2.2.1 b al (some (nI far)) (some (nI at')) (some (nI s.1),some (nI s.2),i.2.2.2)) (λi _=>i.1.Z)
  (λs=>at'+s.1<=x+k/\far+s.1<=y+l/\∀t,t<s.1->A[at'+t]?=B[far+t]?) (λs=>x+k-(at'+s.1)) (λs=>at'+s.1<x+k/\far+s.1<y+l/\A[at'+s.1]?=B[far+s.1]?)
  (λs hs i _=>nT (eY (i:=at'+s.1) (bh (aa rfl) (aa rfl) rfl) (aa rfl)) (λ_=>eY (i:=far+s.1) (bh (aa rfl) (aa rfl) rfl) (aa rfl)) λc1 c2=>
   p6 (i.1.a (aa rfl)) (i.1.b (aa rfl)) (bh (aa rfl) (aa rfl) rfl) (bh (aa rfl) (aa rfl) rfl) (aQ c1 hX) (aQ c2 hY))
  (λs=>qY (λz rar a c=>g8 a λa1 a2 a3=>g8 c λc1 c2 c3=>⟨(z+1,fS rar (dj A x k (A.getD (at'+z) 0)).length),⟨c1,c2,λt ht=>(j9.1 ht).elim (a3 t) λe=>e▸c3⟩,kc c1 (bu _),λi _ Q q=>
   bM (vQ (aa rfl) (i.1.len (aa rfl) (mL (p:=at'+z) (i.1.a (aa rfl)) (bh (aa rfl) (aa rfl) rfl) (aQ c1 hX)) (Gp (ai h1 (aL ..)) c1))) (q () _ (Sub.refl' _))⟩) s)
  (0,n0) ⟨cu h2,cu h4,λt h=>absurd h (dM t)⟩
 refine⟨z,rar,pv λe=>ht ?_,a1,a2,a3,λi v8 row v16 Q q=>run (i,v8,row,v16) () Q λ_=>q⟩;have e:z=0:=e;subst e;exact⟨h2,h4,he⟩
end
end
section
section
variable{A B:List Int}{x k y l:Nat}
noncomputable abbrev Vn:List S:=[.s (.vs [14,15]) (.tup [.c (.int 0),.bi .len [.x 9]]),Ii,.s (.v 16) (.tup [.x 15,.neg (.x 14),.x 13,.x 12]),
     .ite (.o false [.m .is (.x 10) (.c .none),.m .lt (.x 16) (.x 10)]) [.s (.v 10) (.x 16)] []]
noncomputable abbrev qx:List S:=[.ite (.not (.h (.x 0) 34 [.x 13,.x 12,.x 3,.x 5,.x 7,.x 2])) Vn []]
theorem Nr{C:ax}{J:aj}{Z:ae}{r z a f:Nat}(b:jG):∃p:Prop,∀(C:ax)(J:aj)(Z:ae),rd J 10=some (bV b)->rd J 16=some (bV (some (r,z,a,f)))->aI C (.o false [.m .is (.x 10) (.c .none),.m .lt (.x 16) (.x 10)]) J Z p:=by
 cases b with
 |none=>exact⟨True\/True,λC J Z h1 h2=>iW (p:=True) ⟨true,by simp,di (aa h1) Ev.cn rfl⟩ λh=>absurd trivial h⟩
 |some b=>
  obtain⟨r',z',a',f'⟩:=b;refine⟨False\/lC [(r:Int),-(z:Int),(a:Int),(f:Int)] [(r':Int),-(z':Int),(a':Int),(f':Int)]=true,λC J Z h1 h2=>iW ⟨false,by simp,di (aa h1) Ev.cn rfl⟩ λ_=>⟨_,sr,di (aa h2) (aa h1) rfl⟩⟩
theorem V8(hX:x+k<=A.length)(hY:y+l<=B.length){at' far n0:Nat}(mo:Int){b:jG}(al:Bool)(hb:lJ A B x k y l b)(h1:x<=at')(h2:at'<x+k)(h3:y<=far)(h4:far<y+l)(he:A[at']?=B[far]?) :
  ∃b',lJ A B x k y l b'/\∀(i:SR A B x k)v8(row:V)(j:tJ)(Q:QO),wQ i.Z row=some (nI n0)->(∀j,Q .next (i.R y l mo v8 row b' al (some (nI far)) (some (nI at')) j) i.Z) ->
   az (Ph pF (i.r.n+1)) qx (i.R y l mo v8 row b al (some (nI far)) (some (nI at')) j) i.Z Q:=by
 refine bA (Ue (A:=A) (B:=B) mo hX hY h1 h2 h3 h4) λt led=>?_;have tv:∀(i:SR A B x k)v8(row:V)(j:tJ),aI (Ph pF (i.r.n+1)) (.not (.h (.x 0) 34 [.x 13,.x 12,.x 3,.x 5,.x 7,.x 2])) (i.R y l mo v8 row b al (some (nI far)) (some (nI at')) j) i.Z (¬t=true):=λi v8 row j=>
  vq ⟨t,sr,λQ q=>ao (cY i.on rfl) (led i i.r.n Q q)⟩
 cases t with
 |true=>exact⟨b,hb,λi v8 row j Q _ q=>aO (bH (tv i v8 row j) (λh=>h rfl) (q j))⟩
 |false=>
  refine o7 (Oq (n0:=n0) hX hY mo b al h1 h2 h4 he) λz rar z0 z1 z2 z3 run=>?_;refine bA (Nr (C:=Ph pF 0) (J:=[]) (Z:=λ_=>none) (r:=rar) (z:=z) (a:=at') (f:=far) b) λp bet=>?_;have go:∀(i:SR A B x k)v8(row:V)(j:tJ)(Q:QO),wQ i.Z row=some (nI n0)->WS (Ph pF (i.r.n+1)) (.ite (.o false [.m .is (.x 10) (.c .none),.m .lt (.x 16) (.x 10)]) [.s (.v 10) (.x 16)] []) (i.R y l mo v8 row b al (some (nI far)) (some (nI at')) (some (nI z),some (nI rar),some (bV (some (rar,z,at',far))))) i.Z Q ->
    az (Ph pF (i.r.n+1)) qx (i.R y l mo v8 row b al (some (nI far)) (some (nI at')) j) i.Z Q:=λi v8 row j Q hl q=>
   aO (dF (tv i v8 row j) (λh=>bn h) (fL (u:=nI 0) (v:=nI n0) Ev.cn (λQ q=>ao hl q) rfl (aO (run i v8 row j.2.2 _ (bM (jo (aa rfl) (λQ q=>by exact q) (aa rfl) (aa rfl)) (iX (cD pF _) (vd (cD pF _) _ _ _ _ _ (λo J Z w=>by
    cases o with
    |next=>exact w
    |ret v=>exact w) q)))))))
  by_cases c:p
  ·exact⟨some (rar,z,at',far),⟨z0,h1,z1,h3,z2,z3⟩,λi v8 row j Q hl q=>go i v8 row j Q hl (dF (bet _ _ _ rfl rfl) c (q _))⟩
  ·exact⟨b,hb,λi v8 row j Q hl q=>go i v8 row j Q hl (bH (bet _ _ _ rfl rfl) c (q _))⟩
end
end
section
section
variable{A B:List Int}{x k y l:Nat}
theorem yF{C:ax}{J:aj}{Z:ae}{l:List V}{e:E}(h:Ev C e J Z (.list l)):aI C (.m .ne e (.lst false [])) J Z (l≠[]):=by
 refine⟨!l.isEmpty,by cases l<;>simp,di h (λQ q=>q) ?_⟩;show(gN 4 (.list l) (.list [])).map _ = _;cases l<;>rfl
theorem FH{C:ax}{J:aj}{Z:ae}{a b c:E}{r m:Nat}{f:Int->Option V}{v:Int}{d:V}(h:Z r=some (.dI m f))(ha:Ev C a J Z (.ref r))(hb:Ev C b J Z (.int v))(hc:Ev C c J Z d):Ev C (.bm a .get [b,c]) J Z ((f v).getD d):=λQ q=>by
 have e2:wi Z (.ref r) (.int v) d=some ((f v).getD d):=by
  have c:dD Z r (.int v)=some (f v):=by unfold dD;rw[h];rfl
  show(dD Z r (.int v)).map _ = _;rw[c];rfl
 exact ha _ ⟨DF h,hb _ (hc _ (gc (ao e2 q)))⟩
noncomputable abbrev Iu:List S:=[.s (.v 9) (.bm (.x 7) .get [.i (.a (.x 0) 8) (.x 12),.lst false []]),
   .s (.v 11) (.o false [.x 11,.m .ne (.x 9) (.lst false [])]),
   .ite (.m .gt (.bi .len [.x 9]) (.x 2))
   [.s (.v 9) (.lst false [])]
   [],
   .for (.v 13) (.seq (.x 9)) qx]
theorem Qj(hX:x+k<=A.length)(hY:y+l<=B.length){far:Nat}(mo:Int){b:jG}(al:Bool)(hb:lJ A B x k y l b)(h3:y<=far)(h4:far<y+l)(hn:dj A x k (B.getD far 0)≠[]) :
  ∃b',lJ A B x k y l b'/\∀(i:SR A B x k)v8(j:Option V×tJ)(Q:QO),(∀j:Option V×tJ,Q .next (i.R y l mo v8 (.ref (i.loc (B.getD far 0))) b' al (some (nI far)) j.1 j.2) i.Z) ->
   WS (Ph pF (i.r.n+1)) (.for (.v 13) (.seq (.x 9)) qx) (i.R y l mo v8 (.ref (i.loc (B.getD far 0))) b al (some (nI far)) j.1 j.2) i.Z Q:=by
 obtain⟨b',h1,run⟩:=Ab (C:=λi:SR A B x k×Option V=>Ph pF (i.1.r.n+1)) (b:=qx) (t:=.v 13) ((dj A x k (B.getD far 0)).map nI) (λi=>.live (i.1.loc (B.getD far 0))) (λi(b:jG)(j:Option V×tJ)=>i.1.R y l mo i.2 (.ref (i.1.loc (B.getD far 0))) b al (some (nI far)) j.1 j.2) (λi _=>i.1.Z) (λ_ b=>lJ A B x k y l b)
  (λi _ k=>by show(cc i.1.Z _).map _ = _;rw[gU (i.1.h.hl _ hn)];rfl)
  (λq v b hv hb=>by
   rw[cO]at hv;cases w:(dj A x k (B.getD far 0))[q]? with
   |none=>rw[w]at hv;exact nn hv
   |some p=>
    rw[w]at hv;injection hv with hv;subst hv
    have z:=SH (BD w);refine ar (V8 (n0:=(dj A x k (B.getD far 0)).length) hX hY mo al hb z.1 z.2.1 h3 h4 ((vx (aQ z.2.1 hX) (aQ h4 hY)).1 z.2.2)) λb' g1 g2=>?_;exact⟨b',g1,λi j Q q=>g2 i.1 i.2 _ j.2 Q (by show(lR i.1.Z _).map _ = _;rw[yR (i.1.h.hl _ hn)];show some (V.int (((dj A x k (B.getD far 0)).map nI).length:Int)) = _;rw[aY]) λj'=>q (some (nI p),j') _ (Sub.refl' _)⟩) b hb
 refine⟨b',h1,λi v8 j Q q=>?_⟩;have e:wO i.Z (.ref (i.loc (B.getD far 0)))=some (.live (i.loc (B.getD far 0))):=by show(cc i.Z _).map _ = _;rw[gU (i.h.hl _ hn)];rfl
 exact ao e (run (i,v8) j Q q)
theorem O8(hX:x+k<=A.length)(hY:y+l<=B.length){far:Nat}(mo:Int){b:jG}(al:Bool)(hb:lJ A B x k y l b)(h3:y<=far)(h4:far<y+l) :
  ∃b' al',lJ A B x k y l b'/\∀(i:SR A B x k)v8(row:V)(j:Option V×tJ)(Q:QO),(∀(row:V)(j:Option V×tJ),Q .next (i.R y l mo v8 row b' al' (some (nI far)) j.1 j.2) i.Z) ->
   az (Ph pF (i.r.n+1)) Iu (i.R y l mo v8 row b al (some (nI far)) j.1 j.2) i.Z Q:=by
 have hB:far<B.length:=aQ h4 hY;have none_:∀(i:SR A B x k)v8 b al(j:Option V×tJ)(Q:QO),(∀(row:V)(j:Option V×tJ),Q .next (i.R y l mo v8 row b al (some (nI far)) j.1 j.2) i.Z)->az (Ph pF (i.r.n+1)) [.for (.v 13) (.seq (.x 9)) qx] (i.R y l mo v8 (.list []) b al (some (nI far)) j.1 j.2) i.Z Q:=λi v8 b al j Q q=>
  aO (n9 (l:=[]) (aa rfl) ⟨1,ao rfl (q _ j)⟩)
 by_cases n:dj A x k (B.getD far 0)=[]
 ·refine⟨b,al||false,hb,λi v8 row j Q q=>bM (FH i.h.hd (aa rfl) (mL (i.b (aa rfl)) (aa rfl) hB) (λQ q=>by exact q)) ?_⟩;rw[i.h.hn _ n];have e2:Ev (Ph pF (i.r.n+1)) (.o false [.x 11,.m .ne (.x 9) (.lst false [])]) (i.R y l mo v8 (.list []) b al (some (nI far)) j.1 j.2) i.Z (.bool (al||false)):=λQ q=>by
   cases al with
   |true=>exact q
   |false=>exact q
  refine bM e2 ?_;have tv:aI (Ph pF (i.r.n+1)) (.m .gt (.bi .len [.x 9]) (.x 2)) (i.R y l mo v8 (.list []) b (al||false) (some (nI far)) j.1 j.2) i.Z (mo<((0:Nat):Int)):=Aa (qr (l:=[]) (aa rfl)) (aa rfl);by_cases c:mo<((0:Nat):Int)
  ·exact aO (dF tv c (none_ i v8 b _ j Q q))
  ·exact aO (bH tv c (none_ i v8 b _ j Q q))
 ·have e1:∀(i:SR A B x k)v8 row(j:Option V×tJ),Ev (Ph pF (i.r.n+1)) (.bm (.x 7) .get [.i (.a (.x 0) 8) (.x 12),.lst false []]) (i.R y l mo v8 row b al (some (nI far)) j.1 j.2) i.Z (.ref (i.loc (B.getD far 0))):=λi v8 row j=>by
   have z:=FH (c:=.lst false []) (d:=.list []) i.h.hd (aa (C:=Ph pF (i.r.n+1)) (J:=i.R y l mo v8 row b al (some (nI far)) j.1 j.2) (i:=7) rfl) (mL (i.b (aa (i:=0) rfl)) (aa (i:=12) rfl) hB) (λQ q=>q);rw[i.h.hf _ n]at z;exact z
  have e2:∀(i:SR A B x k)v8(j:Option V×tJ),Ev (Ph pF (i.r.n+1)) (.o false [.x 11,.m .ne (.x 9) (.lst false [])]) (i.R y l mo v8 (.ref (i.loc (B.getD far 0))) b al (some (nI far)) j.1 j.2) i.Z (.bool true):=λi v8 j=>by
   refine ar (p0 (C:=Ph pF (i.r.n+1)) (J:=i.R y l mo v8 (.ref (i.loc (B.getD far 0))) b al (some (nI far)) j.1 j.2) (aa (i:=9) rfl) (i.h.hl _ n)) λt t1 t2=>?_;have tt:t=true:=t1.2 λz=>n (xK.1 z);subst tt;intro Q q;cases al with
   |true=>exact q
   |false=>exact t2 Q q
  have tv:∀(i:SR A B x k)v8(j:Option V×tJ),aI (Ph pF (i.r.n+1)) (.m .gt (.bi .len [.x 9]) (.x 2)) (i.R y l mo v8 (.ref (i.loc (B.getD far 0))) b true (some (nI far)) j.1 j.2) i.Z (mo<(((dj A x k (B.getD far 0)).map nI).length:Int)):=λi v8 j=>Aa (qi (aa rfl) (i.h.hl _ n)) (aa rfl);by_cases c:mo<(((dj A x k (B.getD far 0)).map nI).length:Int)
  ·exact⟨b,true,hb,λi v8 row j Q q=>bM (e1 i v8 row j) (bM (e2 i v8 j) (aO (dF (tv i v8 j) c (none_ i v8 b _ j Q q))))⟩
  ·refine ar (Qj hX hY mo true hb h3 h4 n) λb' g1 g2=>?_;exact⟨b',true,g1,λi v8 row j Q q=>bM (e1 i v8 row j) (bM (e2 i v8 j) (aO (bH (tv i v8 j) c (iX (cD pF _) (g2 i v8 j Q (q _))))))⟩
end
end
section
noncomputable def qR:jG->V
 |none=>.none
 |some (_,z,a,f)=>.tup [nI a,nI f,nI z]
section
variable{A B:List Int}{x k y l:Nat}
theorem Va{C:ax}{J:aj}{Z:ae}(b:jG)(al:Bool)(h1:rd J 10=some (bV b))(h2:rd J 11=some (.bool al)):Ev C (.ite (.m .is (.x 10) (.c .none)) (.tup [.c .none,.x 11]) (.tup [.tup [.i (.x 10) (.c (.int 2)),.i (.x 10) (.c (.int 3)),.neg (.i (.x 10) (.c (.int 1)))],.x 11])) J Z (.tup [qR b,.bool al]):=λQ q=>by
 cases b with
 |none=>exact iY (p:=True) ⟨true,by simp,di (aa h1) Ev.cn rfl⟩ trivial (n7 Ev.cn (aa h2) Q q)
 |some b=>
  obtain⟨r,z,a,f⟩:=b;have n:Ev C (.neg (.i (.x 10) (.c (.int 1)))) J Z (nI z):=λQ q=>bW (v:=.int (-(z:Int))) (aa h1) Ev.cn rfl _ (ao rfl (by rw[Int.neg_neg];exact q));have t:Ev C (.tup [.i (.x 10) (.c (.int 2)),.i (.x 10) (.c (.int 3)),.neg (.i (.x 10) (.c (.int 1)))]) J Z (.tup [nI a,nI f,nI z]):=λQ q=>bW (aa h1) Ev.cn rfl _ (bW (aa h1) Ev.cn rfl _ (n _ q));exact iu (p:=False) ⟨false,by simp,di (aa h1) Ev.cn rfl⟩ id (n7 t (aa h2) Q q)
theorem Mc(hX:x+k<=A.length)(hY:y+l<=B.length)(hz:A.length+B.length<=400)(hk:0<k)(mo:Int) :
  ∃b al,lJ A B x k y l b/\∀(r:dQ A B)(Q:QV),Q (.tup [qR b,.bool al]) r.Z->Ph pF (r.n+2) 42 [.inst 2 r.s.d,pt x (x+k) y (y+l),.int mo] r.Z Q:=by
 have k1:x+k<=400:=ai hX (ai (aL ..) hz);have k2:y+l<=400:=ai hY (ai (df ..) hz);obtain⟨⟨b,al⟩,hb,run⟩:=s7 (C:=λi:SR A B x k=>Ph pF (i.r.n+1)) (b:=Iu) (t:=.v 12) (cA y 1 l) (λi(s:jG×Bool)(j:Option V×V×Option V×Option V×tJ)=>i.R y l mo j.1 j.2.1 s.1 s.2 j.2.2.1 j.2.2.2.1 j.2.2.2.2) (λi _=>i.Z) (λ_ s=>lJ A B x k y l s.1)
  (λq v s hv hs=>by
   obtain⟨hq,rfl⟩:=qv hv;have e:(y:Int)+(q:Int)*1=((y+q:Nat):Int):=by rw[pL];rfl
   rw[e];refine g9 (O8 hX hY mo s.2 hs (aL y q) (eE hq y)) λb' al' h1 h2=>?_;exact⟨(b',al'),h1,λi j Q qq=>h2 i j.1 j.2.1 (j.2.2.2.1,j.2.2.2.2) Q λrow j'=>qq (j.1,row,some (nI (y+q)),j'.1,j'.2) _ (Sub.refl' _)⟩) (none,false) trivial
 refine⟨b,al,hb,λr Q q=>bN rfl ⟨rfl,λd hd=>aO (sQ rfl rfl (ai k1 (by decide)) ?_)⟩⟩;have nd:r.s.d≠d:=λe=>by have:=r.on;rw[jX,e,hd]at this;exact nn this
 refine qj (mF (cD pF _) _) (λq J Z=>∃a row m f loc,(0<q->∃v,row=some v)/\m<=q/\J=rR r d x k y l mo (a,row)/\jt (dj A x q) r.Z d m f loc Z) ⟨none,none,0,λ_=>none,λ_=>0,λh=>absurd h (gP 0),aC _,rfl,aP ..,λv h=>absurd rfl h,λv _=>rfl,λv h=>absurd rfl h,λv w h=>absurd rfl h,λz m h=>(aA λe=>by rw[e,hd]at h;exact nn h).trans h,hd,λv h=>absurd rfl h⟩ (λ_ _ _ _=>rfl) ?_ ?_
 ·intro q v J Z hv zz;refine xu zz λa row m f loc _ hm e h=>?_;clear zz;subst e;obtain⟨hq,rfl⟩:=qv hv;have e:(x:Int)+(q:Int)*1=((x+q:Nat):Int):=by rw[pL];rfl
  rw[e];have lk:q<1000:=aQ hq (ai (df k x) (ai k1 (by decide)));exact NH ⟨r.n+1,r.Z,r.s,r.hA,r.hB,r.on⟩ (aQ (eE hq x) hX) hm lk h mo λa row Z' Z'' m f loc s hm h=>⟨Z',s,a,some row,m,f,loc,λ_=>⟨row,rfl⟩,hm,rfl,h⟩
 ·intro J Z zz;refine xu zz λa row m f loc hr hm e h=>?_;clear zz;subst e;rw[oi]at h hr;obtain⟨v,rfl⟩:=hr hk;refine⟨rfl,aO (sQ rfl rfl (ai k2 (by decide)) (run ⟨r,d,m,f,loc,Z,h⟩ (a,v,none,none,none,none,none) _ λj=>?_))⟩;exact eF (Va b al rfl rfl) (j8 h.sub q)
end
end
section
section
variable{A B:List Int}{G₀ H₀ G H:List Bool}{P p:Pt}{W:List Pt}
noncomputable abbrev zy:S:=.whl (.o true [.m .gt (.x 10) (.x 4),.m .gt (.x 11) (.x 6),.m .eq (.i (.a (.x 0) 7) (.b .sub (.x 10) (.c (.int 1)))) (.i (.a (.x 0) 8) (.b .sub (.x 11) (.c (.int 1))))])
     [.s (.vs [10,11,12]) (.tup [.b .sub (.x 10) (.c (.int 1)),.b .sub (.x 11) (.c (.int 1)),.b .add (.x 12) (.c (.int 1))])]
noncomputable abbrev IB:S:=.ite (.o false [.m .eq (.x 4) (.x 5),.m .eq (.x 6) (.x 7)])
   [.ex (.h (.x 0) 27 [.tup [.x 4,.x 5,.x 6,.x 7]])]
   [.s (.vs [8,9]) (.h (.x 0) 33 [.tup [.x 4,.x 5,.x 6,.x 7],.x 2]),
    .ite (.m .isnot (.x 8) (.c .none))
    [.s (.vs [10,11,12]) (.x 8),zy,
     .ex (.bm (.x 3) .append [.tup [.x 4,.x 10,.x 6,.x 11]]),
     .ex (.bm (.x 3) .append [.tup [.b .add (.x 10) (.x 12),.x 5,.b .add (.x 11) (.x 12),.x 7]])]
    [.ite (.x 9)
     [.ex (.h (.x 0) 30 [.tup [.x 4,.x 5,.x 6,.x 7]])]
     [.ex (.h (.x 0) 27 [.tup [.x 4,.x 5,.x 6,.x 7]])]]]
noncomputable abbrev wL:List S:=[.s (.vs [4,5,6,7]) (.h (.x 0) 26 [.bm (.x 3) .pop []]),IB]
abbrev hJ:=Option V×Option V×Option V×Option V×Option V
noncomputable def KR.R4(r:KR A B G₀ H₀)(P:Pt)(mo:Int)(v4 v5 v6 v7:Option V)(j:hJ):aj:=[some (.inst 2 r.s.d),some (dG P),some (.int mo),some (.ref r.a),v4,v5,v6,v7,j.1,j.2.1,j.2.2.1,j.2.2.2.1,j.2.2.2.2]
theorem sy{C:ax}{J:aj}{Z:ae}{e:E}{i j k:Nat}{u v w:V}{rest:List S}{Q:QO}(h:Ev C e J Z (.tup [u,v,w]))(q:az C rest (fZ J [i,j,k] [u,v,w]) Z Q):az C (.s (.vs [i,j,k]) e::rest) J Z Q:=h _ ⟨rfl,q⟩
theorem sC{C:ax}{J:aj}{Z:ae}{a b c:E}{u v w:V}(h:Ev C a J Z u)(k:Ev C b J Z v)(l:Ev C c J Z w):Ev C (.tup [a,b,c]) J Z (.tup [u,v,w]):=λQ q=>h _ (k _ (l _ q))
def oJ(A B:List Int)(x X y Y z a f:Nat):Prop:=0<z/\x<=a/\a+z<=X/\y<=f/\f+z<=Y/\∀t,t<z->A[a+t]?=B[f+t]?
theorem Oy{x X y Y z a f:Nat}(h:oJ A B x X y Y z (a+1) (f+1))(ha:x<a+1)(hf:y<f+1)(e:A[a]?=B[f]?):oJ A B x X y Y (z+1) a f:=
 ⟨fh z,eU ha,(cH a z)▸h.2.2.1,eU hf,(cH f z)▸h.2.2.2.2.1,λt ht=>match t,ht with
  |0,_=>e
  |t+1,ht=>cH a t▸cH f t▸h.2.2.2.2.2 t (fe ht)⟩
theorem MJ{x X y Y z a f:Nat}(lX:X<=A.length)(lY:Y<=B.length)(h:oJ A B x X y Y z a f)(mo:Int) :
  ∃z' a' f',oJ A B x X y Y z' a' f'/\∀(r:KR A B G₀ H₀)v8 v9(Q:QO),Q .next (r.R4 P mo (some (nI x)) (some (nI X)) (some (nI y)) (some (nI Y)) (v8,v9,some (nI a'),some (nI f'),some (nI z'))) (r.T (W,G,H)) ->
   WS (Ph pF (r.n+3)) zy (r.R4 P mo (some (nI x)) (some (nI X)) (some (nI y)) (some (nI Y)) (v8,v9,some (nI a),some (nI f),some (nI z))) (r.T (W,G,H)) Q:=by
 obtain⟨⟨z',a',f'⟩,h1,_,run⟩:=fi (C:=λi:KR A B G₀ H₀×Option V×Option V=>Ph pF (i.1.n+3)) (c:=.o true [.m .gt (.x 10) (.x 4),.m .gt (.x 11) (.x 6),.m .eq (.i (.a (.x 0) 7) (.b .sub (.x 10) (.c (.int 1)))) (.i (.a (.x 0) 8) (.b .sub (.x 11) (.c (.int 1))))])
  (b:=[.s (.vs [10,11,12]) (.tup [.b .sub (.x 10) (.c (.int 1)),.b .sub (.x 11) (.c (.int 1)),.b .add (.x 12) (.c (.int 1))])])
  (λi(s:Nat×Nat×Nat)(_:Unit)=>i.1.R4 P mo (some (nI x)) (some (nI X)) (some (nI y)) (some (nI Y)) (i.2.1,i.2.2,some (nI s.2.1),some (nI s.2.2),some (nI s.1))) (λi _=>i.1.T (W,G,H))
  (λs=>oJ A B x X y Y s.1 s.2.1 s.2.2) (λs=>s.2.1) (λs=>x<s.2.1/\y<s.2.2/\A[s.2.1-1]?=B[s.2.2-1]?)
  (λs hs i _=>nT (iV (aa rfl) (aa rfl)) (λ_=>iV (aa rfl) (aa rfl)) λc1 c2=>by
   have p1:s.2.1-1<A.length:=aQ (aQ (nO (jJ c1) mC) (ai (aL ..) hs.2.2.1)) lX;have p2:s.2.2-1<B.length:=aQ (aQ (nO (jJ c2) mC) (ai (aL ..) hs.2.2.2.2.1)) lY;have oa:=i.1.on (W,G,H);exact p6 (br (aa rfl) ((oE oa).trans (congrArg (λl=>some (V.list (vI l))) i.1.hA))) (br (aa rfl) ((te oa).trans (congrArg (λl=>some (V.list (vI l))) i.1.hB))) (jO (jJ c1) (aa rfl)) (jO (jJ c2) (aa rfl)) p1 p2)
  (λs=>oW (λz a=>nz (λf _ c=>absurd c.1 (dM x)) (λa f=>nz (λ_ c=>absurd c.2.1 (dM y)) (λf hs c=>⟨(z+1,a,f),Oy hs c.1 c.2.1 c.2.2,bu a,λi _ Q q=>
     sy (u:=nI a) (v:=nI f) (w:=nI (z+1)) (sC (vm (aa rfl)) (vm (aa rfl)) (bh (aa rfl) Ev.cn rfl)) (q () _ (Sub.refl' _))⟩) f) a) s)
  (z,a,f) h
 exact⟨z',a',f',h1,λr v8 v9 Q q=>run (r,v8,v9) () Q λ_=>q⟩
end
end
section
section
variable{A B:List Int}{G₀ H₀ G H:List Bool}{P p:Pt}{W:List Pt}
theorem DB(r:KR A B G₀ H₀){x X y Y:Nat}{mo:Int}(tr:∀(r:dQ A B) Q,Q (dG (x,X,y,Y)) r.Z->Ph pF (r.n+1) 35 [.inst 2 r.s.d,dG p] r.Z Q){v4 v5 v6 v7:Option V}{j:hJ}{Q:QO}(q:WS (Ph pF (r.n+3)) IB (r.R4 P mo (some (nI x)) (some (nI X)) (some (nI y)) (some (nI Y)) j) (r.T (W,G,H)) Q) :
  az (Ph pF (r.n+3)) wL (r.R4 P mo v4 v5 v6 v7 j) (r.T (p::W,G,H)) Q:=
 zp (u:=nI x) (v:=nI X) (w:=nI y) (x:=nI Y) (zf r rfl rfl tr ⟨rfl,iX (cD pF _) q⟩) (cD pF _)
abbrev iJ:=Option V×Option V×Option V×Option V×hJ
noncomputable abbrev KR.R5(r:KR A B G₀ H₀)(P:Pt)(mo:Int)(j:iJ):aj:=r.R4 P mo j.1 j.2.1 j.2.2.1 j.2.2.2.1 j.2.2.2.2
theorem Tp{x X y Y:Nat}(h:0<X-x+(Y-y)):wt (x,X,y,Y)=2*(X-x+(Y-y))-1:=by rw[<-tm h];rfl
theorem T7{x k y l a f z:Nat}(h:oJ A B x (x+k) y (y+l) z a f):wt (a+z,x+k,f+z,y+l)+wt (x,a,y,f)<wt (x,x+k,y,y+l):=by
 refine XF h λz0 h1 h2 h3 h4 _=>?_;have a1:=wz (a+z,x+k,f+z,y+l);have a2:=wz (x,a,y,f)
 dsimp only at a1 a2
 have hp:=Tp (x:=x) (X:=x+k) (y:=y) (Y:=y+l) (by exact au [_,_,_,_,_,_,_,_,_] [] (.tn .k0 (.a .v0 .v1)) 1 [(2,.tn .k0 .v2),(1,.ln .v3 .v4),(1,.ln (.a .v4 .v2) (.a .v3 .v5)),(1,.ln .v6 .v7),(1,.ln (.a .v7 .v2) (.a .v6 .v8)),(1,.ln (.a .v3 .v5) (.a .v0 .v3)),(1,.ln (.a .v6 .v8) (.a .v1 .v6))] rfl z0 h1 h2 h3 h4 cW cW);exact au [_,_,_,_,_,_,_,_,_,_,_,_,_,_,_,_,_] [] (.tn (.a .v0 .v1) .v2) 1 [(4,.tn .k0 .v3),(1,.ln .v0 (.a (.m 2 (.a .v4 .v5)) .k1)),(1,.ln .v1 (.a (.m 2 (.a .v6 .v7)) .k1)),(-1,.en .v2 .v8),(1,.ln (.m 2 (.a .v9 (.v 10))) (.a .v8 .k1)),(2,.ln (.a (.v 11) (.v 12)) (.a .v9 (.v 11))),(2,.ln (.a (.v 13) (.v 14)) (.a (.v 10) (.v 13))),(2,.en (.a .v4 (.a (.v 15) .v3)) (.a (.v 11) (.v 12))),(2,.en (.a .v5 (.a (.v 16) .v3)) (.a (.v 13) (.v 14))),(2,.en (.a .v6 (.v 11)) (.v 15)),(2,.en (.a .v7 (.v 13)) (.v 16))] rfl z0 a1 a2 hp cW cW cW (aZ h2) (aZ h4) (aZ h1) (aZ h3)
theorem NP(hX:P.2.1<=A.length)(hY:P.2.2.2<=B.length)(hz:A.length+B.length<=400)(hwt:wt P<=900)(mo:Int){n:Nat}(h:MI A B G₀ H₀ P (p::W) G H n)(hw:dp (p::W)<=wt P) :
  ∃s':KS,(∃n,MI A B G₀ H₀ P s'.1 s'.2.1 s'.2.2 n)/\dp s'.1<dp (p::W)/\∀(r:KR A B G₀ H₀)(j:iJ)(Q:QO),(∀(j:iJ)Z,Sub (r.T s') Z->Q .next (r.R5 P mo j) Z)->az (Ph pF (r.n+3)) wL (r.R5 P mo j) (r.T (p::W,G,H)) Q:=by
 refine ar (yw hX hY h) λpp10_ T tr=>?_;obtain⟨x,X,y,Y⟩:=pp10_;have h2:=h.trim hX hY T;have b:=h2.j.top;have lX:X<=A.length:=ai b.2.2.1 hX;have lY:Y<=B.length:=ai b.2.2.2.2 hY;obtain⟨k,rfl⟩:=bS (show x<=X from b.1.x);obtain⟨l,rfl⟩:=bS (show y<=Y from b.1.y);have tv:∀(r:KR A B G₀ H₀)j,aI (Ph pF (r.n+3)) (.o false [.m .eq (.x 4) (.x 5),.m .eq (.x 6) (.x 7)]) (r.R4 P mo (some (nI x)) (some (nI (x+k))) (some (nI y)) (some (nI (y+l))) j) (r.T (W,G,H)) (x=x+k\/y=y+l):=
  λr _=>iW (lp (aa rfl) (aa rfl)) λ_=>lp (aa rfl) (aa rfl)
 have wtt:=z5 T;have wlt:dp W<dp (p::W):=xC (wd p);have lens:G.length<=1000/\H.length<=1000:=⟨h.lg▸ai (aL ..) (ai hz (by decide)),h.lh▸ai (df ..) (ai hz (by decide))⟩
 obtain⟨m',n',_,_,hmk⟩:=h2.mark;have mkd:∀(r:KR A B G₀ H₀)j(Q:QO),(∀(j:iJ)Z,Sub (r.T (W,cU G x k,cU H y l)) Z->Q .next (r.R5 P mo j) Z)->az (Ph pF (r.n+3)) [.ex (.h (.x 0) 27 [.tup [.x 4,.x 5,.x 6,.x 7]])] (r.R4 P mo (some (nI x)) (some (nI (x+k))) (some (nI y)) (some (nI (y+l))) j) (r.T (W,G,H)) Q:=λr j Q q=>
  ao (cY (r.on _) rfl) (yO r (h.lg▸lX) (h.lh▸lY) lens.1 lens.2 (ao rfl (q (_,_,_,_,_) _ (Sub.refl' _))))
 by_cases e:x=x+k\/y=y+l
 ·exact⟨(W,cU G x k,cU H y l),⟨n',hmk⟩,wlt,λr j Q q=>DB r tr (dF (tv r _) e (mkd r _ Q q))⟩
 ·have hk:0<k:=pv λz=>e (.inl (by rw[z];rfl));refine g9 (Mc (A:=A) (B:=B) lX lY hz hk mo) λbs al hb run=>?_;have lo:∀(r:KR A B G₀ H₀)(j:iJ)(Q:QO),WS (Ph pF (r.n+3)) (.ite (.m .isnot (.x 8) (.c .none))
    [.s (.vs [10,11,12]) (.x 8),zy,.ex (.bm (.x 3) .append [.tup [.x 4,.x 10,.x 6,.x 11]]),.ex (.bm (.x 3) .append [.tup [.b .add (.x 10) (.x 12),.x 5,.b .add (.x 11) (.x 12),.x 7]])]
    [.ite (.x 9) [.ex (.h (.x 0) 30 [.tup [.x 4,.x 5,.x 6,.x 7]])] [.ex (.h (.x 0) 27 [.tup [.x 4,.x 5,.x 6,.x 7]])]]) (r.R4 P mo (some (nI x)) (some (nI (x+k))) (some (nI y)) (some (nI (y+l))) (some (qR bs),some (.bool al),j.2.2.2.2.2.2)) (r.T (W,G,H)) Q->az (Ph pF (r.n+3)) wL (r.R5 P mo j) (r.T (p::W,G,H)) Q:=λr j Q q=>
   DB r tr (bH (tv r _) e (ao (cY (r.on _) rfl) (run (r.run (r.n+1) (W,G,H)) _ ⟨rfl,iX (cD pF _) q⟩)))
  cases bs with
  |none=>
   have ti:∀(r:KR A B G₀ H₀)j,aI (Ph pF (r.n+3)) (.m .isnot (.x 8) (.c .none)) (r.R4 P mo (some (nI x)) (some (nI (x+k))) (some (nI y)) (some (nI (y+l))) (some (qR none),some (.bool al),j)) (r.T (W,G,H)) False:=λr j=>⟨false,by simp,di (aa rfl) Ev.cn rfl⟩
   have ta:∀(r:KR A B G₀ H₀)j,aI (Ph pF (r.n+3)) (.x 9) (r.R4 P mo (some (nI x)) (some (nI (x+k))) (some (nI y)) (some (nI (y+l))) (some (qR none),some (.bool al),j)) (r.T (W,G,H)) (al=true):=λr j=>⟨al,sr,aa rfl⟩
   by_cases c:al=true
   ·refine bA (lq (A:=A) (B:=B) (aL x k) (aL y l)) λm hm=>?_;refine g9 (ym (A:=A) (B:=B) (G₀:=G) (H₀:=H) (P:=(x,x+k,y,y+l)) lX lY hz h.lg h.lh b.1 hm) λG' H' L runF=>?_;refine cG (L.in h2) λ_ n'' _ _ u3=>?_;refine⟨(W,G',H'),⟨n'',u3⟩,wlt,λr j Q q=>lo r j Q (bH (ti r _) id (aO (dF (ta r _) c ?_)))⟩;refine ao (cY (r.on _) rfl) (runF r.n _ r.s r.hA r.hB r.sheet _ (ao rfl ?_));rw[r.marked];exact q (_,_,_,_,_) _ (Sub.refl' _)
   ·exact⟨(W,cU G x k,cU H y l),⟨n',hmk⟩,wlt,λr j Q q=>lo r j Q (bH (ti r _) id (aO (bH (ta r _) c (mkd r _ _ λj Z s=>q j Z s))))⟩
  |some bs=>
   obtain⟨rr,z,a,f⟩:=bs;have ti:∀(r:KR A B G₀ H₀)j,aI (Ph pF (r.n+3)) (.m .isnot (.x 8) (.c .none)) (r.R4 P mo (some (nI x)) (some (nI (x+k))) (some (nI y)) (some (nI (y+l))) (some (qR (some (rr,z,a,f))),some (.bool al),j)) (r.T (W,G,H)) True:=λr j=>⟨true,by simp,di (aa rfl) Ev.cn rfl⟩
   refine qZ (MJ (G₀:=G₀) (H₀:=H₀) (G:=G) (H:=H) (P:=P) (W:=W) lX lY (show oJ A B x (x+k) y (y+l) z a f from hb) mo) λz' a' f' hs AY=>?_;refine I9 (h2.j.split (a:=a') (b:=f') (s:=z') hs.2.1 hs.2.2.1 hs.2.2.2.1 hs.2.2.2.2.1 hs.2.2.2.2.2) λm m₁ m₂ n'' _ _ _ _ s5=>?_;have hW:W.length+1<=900:=ai (vM (p::W)) (ai hw hwt);refine⟨((a'+z',x+k,f'+z',y+l)::(x,a',y,f')::W,G,H),⟨n'',h.lg,h.lh,h.og,h.oh,s5⟩,?_,λr j Q q=>lo r j Q (dF (ti r _) trivial (sy (aa rfl) (aO (AY r _ _ _ ?_))))⟩
   ·show wt _+(wt _+dp W)<wt p+dp W;rw[<-cq];exact uf (aQ (T7 hs) wtt) _
   ·refine push r (p:=(x,a',y,f')) rfl (jo (aa rfl) (aa rfl) (aa rfl) (aa rfl)) (aQ hW (by decide)) ?_;exact push r (p:=(a'+z',x+k,f'+z',y+l)) rfl (jo (bh (aa rfl) (aa rfl) rfl) (aa rfl) (bh (aa rfl) (aa rfl) rfl) (aa rfl)) (bC hW (by decide)) (q (some (nI x),some (nI (x+k)),some (nI y),some (nI (y+l)),(_,_,_,_,_)) _ (Sub.refl' _))
end
end
section
section
variable{A B:List Int}{G₀ H₀:List Bool}{P:Pt}
theorem Lo(hX:P.2.1<=A.length)(hY:P.2.2.2<=B.length)(hz:A.length+B.length<=400)(hA:G₀.length=A.length)(hB:H₀.length=B.length)(b:ox G₀ H₀ P)(mo:Int) :
  ∃G H n,oH A B G₀ H₀ P G H n/\∀m Z(s:Sh),s.A=A->s.B=B->gF s G₀ H₀ Z->∀Q:QV,Q .none (ak (ak Z s.g (.list (vB G))) s.h (.list (vB H)))->Ph pF (m+4) 44 [.inst 2 s.d,dG P,.int mo] Z Q:=by
 have hwt:=Fg hX hY hz;refine bA (lq (A:=A) (B:=B) b.x b.y) λD hD=>?_;obtain⟨⟨W,G,H⟩,⟨⟨n,hI⟩,_⟩,ht,run⟩:=fi (C:=λr:KR A B G₀ H₀=>Ph pF (r.n+3)) (c:=.m .ne (.x 3) (.lst false [])) (b:=wL) (λr(_:KS)(j:iJ)=>r.R5 P mo j) (λr s=>r.T s)
  (λs=>(∃n,MI A B G₀ H₀ P s.1 s.2.1 s.2.2 n)/\dp s.1<=wt P) (λs=>dp s.1) (λs=>s.1.reverse.map dG≠[]) (λs hs r j=>p0 (aa rfl) (r.top s))
  (λs=>oW (λW G H=>lz (λhs ht=>absurd rfl ht) (λp W hs _=>bA hs.1 λn hI=>
    cm (NP hX hY hz hwt mo hI hs.2) λs' h1 h2 h3=>⟨s',⟨h1,ai (cu h2) hs.2⟩,h2,h3⟩) W) s) ([P],G₀,H₀) ⟨⟨D,MI.first hA hB b hD⟩,aC _⟩
 have hW:W=[]:=by
  cases W with
  |nil=>rfl
  |cons p W=>exact absurd (λz=>by rw[pD]at z;exact absurd z (by simp)) ht
 subst hW;refine⟨G,H,n,hI.laid,λm Z s sA sB hs Q q=>bN rfl λa ha=>?_⟩;have z:=run ⟨m,Z,s,a,sA,sB,hs,ha⟩ (none,none,none,none,(none,none,none,none,none)) (λo J Z=>∃v' Z'',Wk (jb o) Z v' Z''/\Q v' Z'') λj=>j8 (E8 hs ha) q;rw[<-KR.init]at z;exact iX (cD pF _) z
end
theorem yI{a b:List Ln}(hz:a.length+b.length<=400)(mo:Int):∃cs G H c d,gm a b cs G H c d/\∀n Z(Q:QV),Q (.list (cs.map aV)) Z->az (Ph pF (n+4)) b5 [some (.list (vY a)),some (.list (vY b)),some (.int mo),none] Z λo _ Z'=>∃v' Z'',Wk (jb o) Z' v' Z''/\Q v' Z'':=by
 refine qZ (Lo (A:=nA a b) (B:=nB a b) (P:=(0,a.length,0,b.length)) (dA (dY a b).symm) (dA (d7 a b).symm) (by rw[dY,d7];exact hz) ((jr _).trans (dY a b).symm) ((jr _).trans (d7 a b).symm) yC mo) λG H m L run=>?_;refine kQ (Ao hz L) λcs c d e T chg=>?_;refine⟨cs,G,H,c,d,T,λn Z Q q=>?_⟩;refine D8 (n:=n+1) (bC hz (by decide)) rfl rfl λs Z' sA sB hs sub hg hh=>ao (cY hs.at_d rfl) (ao (cY hs.at_d rfl) (Ik hs.at_d ?_));have lA:s.A.length=a.length:=by rw[sA,dY]
 have lB:s.B.length=b.length:=by rw[sB,d7]
 rw[lA,lB];exact run n Z' s sA sB hs _ (ao rfl (ao (cY (pO hs).at_d rfl) (chg (n+2) _ s sA sB (pO hs) _ (j8 (yT sub hg hh) q))))
theorem nS{α:Type}{is:IS}{t:T}{test elt:aj->ae->QV->Prop}{J:aj}{Z:ae}{Q:QV}(xs:List α)(g h:α->V)(p:α->Bool)(hz:xs.length<=aJ)(hn:∀i,fo Z is i=some (xs.map g)[i]?)
  (H:∀a,a∈xs->∃J',d8 t (g a) J=some J'/\(∀Q,Q (.bool (p a)) Z->test J' Z Q)/\(p a=true->∀Q,Q (h a) Z->elt J' Z Q)) (q:Q (.list ((xs.filter p).map h)) Z):∃n,g0 is t test elt J Q n 0 [] Z:=by
 have key:∀(suf:List α)i acc,(∀j,fo Z is (i+j)=some (suf.map g)[j]?)->(∀a,a∈suf->a∈xs)->acc.length+suf.length<=aJ->Q (.list (acc++(suf.filter p).map h)) Z->g0 is t test elt J Q (suf.length+1) i acc Z:=by
  intro suf;induction suf with
  |nil=>exact λi acc hn _ _ q=>ao (hn 0) (gO acc▸(show Q (.list (acc++[])) Z from q))
  |cons a suf ih=>
   intro i acc hn hm hz q;refine cm (H a (hm a fI)) λJ' h1 h2 h3=>?_;refine ao (hn 0) (ao h1 (h2 _ ?_));have hn':∀j,fo Z is (i+1+j)=some (suf.map g)[j]?:=λj=>(congrArg (fo Z is) (cH i j)).trans (hn (j+1));have hm':∀a,a∈suf->a∈xs:=λa h=>hm a (ka _ h);have hz':acc.length+1+suf.length<=aJ:=ai (dA (cH acc.length suf.length)) hz;rw[List.filter_cons]at q;cases c:p a with
   |false=>
    rw[c]at q;exact ih (i+1) acc hn' hm' (ai (kR (eM _) _) hz') q
   |true=>
    rw[c]at q;refine⟨aQ (aQ (bu _) (aL ..)) hz',h3 c _ (ih (i+1) _ hn' hm' (by rw[bB];exact hz') ?_)⟩;rw[eT];exact q
 exact⟨_,key xs 0 [] (λj=>(congrArg (fo Z is) (aU j)).trans (hn j)) (λ_ h=>h) ((aU xs.length).symm▸hz) q⟩
end
theorem uN{α:Type}{is:IS}{t:T}{C:ax}{elt:aj->ae->QV->Prop}{J:aj}{Z:ae}{Q:QV}(xs:List α)(g h:α->V)(hz:xs.length<=aJ)(hn:∀i,fo Z is i=some (xs.map g)[i]?)
  (H:∀a,a∈xs->∃J',d8 t (g a) J=some J'/\∀Q,Q (h a) Z->elt J' Z Q) (q:Q (.list (xs.map h)) Z):∃n,g0 is t (λJ Z Q=>WB C true [] J Z Q) elt J Q n 0 [] Z:=
 nS xs g h (λ_=>true) hz hn (λa ha=>(H a ha).imp λJ' w=>⟨w.1,λQ q=>q,λ_=>w.2⟩) (by rw[List.filter_eq_self.2 λ_ _=>rfl];exact q)
noncomputable def cP:Nat->cM
 |0=>"myers"
 |1=>"patience"
 |_=>"histogram"
noncomputable def oV(c:Nat×Nat×Nat×Nat):Int:=((c.2.1:Int)-c.1)+((c.2.2.2:Int)-c.2.2.1)
theorem Rc{n:Nat}{c:Nat×Nat×Nat×Nat}{Z:ae}{Q:QV}(q:Q (.int (oV c)) Z):WE (Ph pF (n+1)) (.b .add (.h (.x 0) 20 []) (.h (.x 0) 21 [])) [some (aV c)] Z Q:=by
 refine ao rfl (ao rfl ?_);refine PN (n:=n) (w:=c.1) (x:=c.2.1) (y:=c.2.2.1) (z:=c.2.2.2) ?_;refine ao rfl (ao rfl ?_);refine Sd (n:=n) (w:=c.1) (x:=c.2.1) (y:=c.2.2.1) (z:=c.2.2.2) ?_;exact q
theorem RY{cs:List (Nat×Nat×Nat×Nat)}(f:Nat×Nat×Nat×Nat->Int):eN (cs.map λc=>V.int (f c))=some (cs.map f):=by
 have e:(cs.map λc=>V.int (f c))=vI (cs.map f):=(ig ..).symm;rw[e,p9]
theorem Av{C:ax}{a b:E}{u v:V}{f:Nat}{J:aj}{Z:ae}{Q:QV}(ha:Ev C a J Z u)(hb:Ev C b J Z v)(h:C f [u,v] Z Q):WE C (.call f [a,b]) J Z Q:=ha _ (hb _ h)
theorem pX{C:ax}{e elt:E}{caps:List Nat}{own:List cM}{t:T}{ifs:List E}{J:aj}{Z:ae}{Q:QV}(h:WE C e J Z λv Z'=>aK (wO Z' v) λis=>∃k,g0 is t (λJ Z Q=>WB C true ifs J Z Q) (λJ Z Q=>WE C elt J Z Q) (caps.map (rd J)++aR own.length none) Q k 0 [] Z'):WE C (.comp caps own t (.seq e) ifs elt) J Z Q:=h
theorem kz{C:ax}{e:E}{b:BI}{J:aj}{Z:ae}{Q:QV}(h:WE C e J Z λv Z'=>aK (oU Z' b [v]) λr=>Q r Z'):WE C (.bi b [e]) J Z Q:=h
theorem lE{C:ax}{e:E}{rest:List S}{J:aj}{Z:ae}{Q:QO}(h:WE C e J Z λv Z'=>Q (.ret v) J Z'):az C (.ret e::rest) J Z Q:=h
theorem HG{cs:List (Nat×Nat×Nat×Nat)}{Z:ae}(f:Nat×Nat×Nat×Nat->Int):oU Z .sum [.list (cs.map λc=>V.int (f c))]=some (.int (cj (cs.map f))):=by
 show(eN _).map _ = _;rw[RY];rfl
theorem Rn{cs:List (Nat×Nat×Nat×Nat)}{a b:V}(hz:cs.length<=aJ)(run:∀n Z (Q:QV),Q (.list (cs.map aV)) Z->Ph pF (n+4) 3 [a,b] Z Q){n:Nat}{Z:ae}{Q:QV}(q:Q (.int (cj (cs.map oV))) Z):Ph pF (n+5) 7 [a,b] Z Q:=
 bN (J:=[some a,some b]) rfl (lE (kz (pX (Av (aa rfl) (aa rfl) (run n Z _ (ao rfl (uN cs aV (λc=>.int (oV c)) hz (λ_=>rfl) (λc _=>⟨_,rfl,λQ q=>Rc q⟩) (ao (HG oV) (bX q)))))))))
theorem FN{C:ax}{J:aj}{Z:ae}{a b:E}{s t:cM}(ha:Ev C a J Z (.str s))(hb:Ev C b J Z (.str t)):aI C (.m .eq a b) J Z ((s==t)=true):=⟨s==t,sr,di ha hb rfl⟩
theorem I2:(cP 0=="myers")=true:=by decide +kernel
theorem I3:¬(cP 1=="myers")=true:=by decide +kernel
theorem XC:(cP 1=="patience")=true:=by decide +kernel
theorem I4:¬(cP 2=="myers")=true:=by decide +kernel
theorem XD:¬(cP 2=="patience")=true:=by decide +kernel
theorem XE:(cP 2=="histogram")=true:=by decide +kernel
noncomputable def xa:Nat->Nat
 |0=>3
 |1=>4
 |_=>5
theorem HM{w:Nat}(hw:w<3){u v res:V}{n:Nat}{Z:ae}{Q:QV}(h:∀Q:QV,Q res Z->Ph pF (n+1) (xa w) [u,v] Z Q)(q:Q res Z):Ph pF (n+2) 6 [.str (cP w),u,v] Z Q:=by
 have t:∀s,aI (Ph pF (n+1)) (.m .eq (.x 0) (.c (.str s))) [some (.str (cP w)),some u,some v] Z ((cP w==s)=true):=λs=>FN (aa rfl) Ev.cn;have c':∀f,f=xa w->∀K:aj->ae->Prop,az (Ph pF (n+1)) [.ret (.call f [.x 1,.x 2])] [some (.str (cP w)),some u,some v] Z λo J Z=>match o with
  |.next=>K J Z
  |.ret v=>∃v' Z'',Wk v Z v' Z''/\Q v' Z'':=λf e K=>lE (Av (aa rfl) (aa rfl) (e▸h _ (bX q)))
 refine bN (J:=[some (.str (cP w)),some u,some v]) rfl ?_;clear h;revert t c';exact l3 hw (λt c=>aO (dF (t "myers") I2 (c 3 rfl _))) (λt c=>aO (bH (t "myers") I3 (aO (dF (t "patience") XC (c 4 rfl _)))))
  λt c=>aO (bH (t "myers") I4 (aO (bH (t "patience") XD (aO (dF (t "histogram") XE (c 5 rfl _))))))
section
theorem Nk{α:Type}{g:α->V}{f:V->V->Option Bool}{eq:α->α->Bool}(h:∀a b,f (g a) (g b)=some (eq a b))(hq:∀a b,eq a b=true↔a=b):∀{p q:List α},p.length=q.length->∃t,ja f (p.map g) (q.map g)=some t/\(t=true↔p=q)
 :=λ{p}=>@(li (λ{q}e=>by rw[nD.1 e.symm];exact⟨true,rfl,iff_of_true rfl rfl⟩) (λa p ih{q}=>lz (λe=>absurd e (B7 _)) (λb q e=>by
  refine ar (ih (q:=q) (iH e)) λt h1 h2=>?_;refine⟨eq a b&&t,?_,?_⟩
  ·show(f (g a) (g b)).bind (λx=>(ja f (p.map g) (q.map g)).map λy=>x&&y) = _;rw[h,h1];rfl
  ·rw[Bool.and_eq_true,hq,h2,List.cons.injEq]) q) p)
theorem A3{α:Type}{g:α->V}{n:Nat}{eq:α->α->Bool}(h:∀a b,gN n (g a) (g b)=some (eq a b))(hq:∀a b,eq a b=true↔a=b)(p q:List α):∃t,gN (n+1) (.list (p.map g)) (.list (q.map g))=some t/\(t=true↔p=q):=by
 show ∃t,(if (p.map g).length=(q.map g).length then ja (gN n) (p.map g) (q.map g) else some false)=some t/\_;rw[aY,aY];by_cases c:p.length=q.length
 ·rw[if_pos c];exact Nk h hq c
 ·rw[if_neg c];exact⟨false,rfl,by simp;exact λe=>c (e▸rfl)⟩
section
variable{C:ax}{J:aj}{Z:ae}{a b c:E}{i j:Nat}{l:List V}
theorem uQ{α:Type}{g:α->V}{eq:α->α->Bool}(h:∀a b,gN 3 (g a) (g b)=some (eq a b))(hq:∀a b,eq a b=true↔a=b){p q:List α}(ha:Ev C a J Z (.list (p.map g)))(hb:Ev C b J Z (.list (q.map g))):aI C (.m .eq a b) J Z (p=q):=
 (A3 h hq p q).elim λt w=>⟨t,w.2,di ha hb w.1⟩
theorem yZ{α:Type}{g:α->V}{eq:α->α->Bool}(h:∀a b,gN 3 (g a) (g b)=some (eq a b))(hq:∀a b,eq a b=true↔a=b){p q:List α}(ha:Ev C a J Z (.list (p.map g)))(hb:Ev C b J Z (.list (q.map g))):aI C (.m .ne a b) J Z (p≠q):=
 (A3 h hq p q).elim λt w=>⟨!t,vE w.2,di ha hb (congrArg (rP λb=>!b) w.1)⟩
theorem vp{p q:List Ln}(ha:Ev C a J Z (.list (vY p)))(hb:Ev C b J Z (.list (vY q))):aI C (.m .eq a b) J Z (p=q):=uQ (eq:=λa b=>a==b) (λ_ _=>rfl) (λ_ _=>beq_iff_eq) ha hb
theorem sD{p q:List Ln}(ha:Ev C a J Z (.list (vY p)))(hb:Ev C b J Z (.list (vY q))):aI C (.m .ne a b) J Z (p≠q):=yZ (eq:=λa b=>a==b) (λ_ _=>rfl) (λ_ _=>beq_iff_eq) ha hb
theorem n5(d i:Nat):e8 d (nI i)=some i:=by
 show(if 0<=(i:Int) then some (i:Int).toNat else none) = _;rw[if_pos (eK i),hM]
theorem zi{lo hi:V}(h:e8 0 lo=some i)(k:e8 l.length hi=some j):oO Z (.list l) lo hi=some (.list (aH l i j)):=by
 show(e8 0 lo).bind (λi=>(e8 l.length hi).map λj=>V.list (aH l i j)) = _;rw[h,k];rfl
theorem TR(h:Ev C a J Z (.list l))(k:Ev C b J Z (nI i))(m:Ev C c J Z (nI j)):Ev C (.l a b c) J Z (.list (aH l i j)):=λQ q=>h _ (k _ (m _ (ao (zi (n5 ..) (n5 ..)) q)))
theorem zt(h:Ev C a J Z (.list l))(m:Ev C c J Z (nI j)):Ev C (.l a (.c .none) c) J Z (.list (aH l 0 j)):=λQ q=>h _ (m _ (ao (zi rfl (n5 ..)) q))
theorem zv(h:Ev C a J Z (.list l))(k:Ev C b J Z (nI i)):Ev C (.l a b (.c .none)) J Z (.list (l.drop i)):=λQ q=>h _ (k _ (Ev.cn _ (ao (zi (hi:=.none) (j:=l.length) (n5 ..) rfl) (by unfold aH;rw[nH];exact q))))
theorem za{α β:Type}(f:α->β)(l:List α)(i j:Nat):aH (l.map f) i j=(aH l i j).map f:=by unfold aH;rw[<-Cs,<-x8]
theorem uL{α:Type}(l:List α)(j:Nat):aH l 0 j=l.take j:=rfl
theorem uK{α:Type}(l:List α)(i:Nat):aH l i i=[]:=by
 unfold aH;exact xB (List.length_take_le i l)
theorem u0{α:Type}(l:List α)(i:Nat):aH l i l.length=l.drop i:=by unfold aH;rw[nH]
theorem DW{α:Type}{l:List α}{i j:Nat}(h:i<=j)(k:j<l.length):aH l i (j+1)=aH l i j++[l[j]]:=by
 unfold aH;rw[xT,bL k];show(l.take j++[l[j]]).drop i = _;rw[List.drop_append_of_le_length (by rw[eV,jg (cu k)];exact h)]
theorem jn{p:List Ln}(h:Ev C a J Z (.list (vY p)))(k:Ev C b J Z (nI i))(m:Ev C c J Z (nI j)):Ev C (.l a b c) J Z (.list (vY (aH p i j))):=λQ q=>TR h k m Q (by rw[za];exact q)
theorem pZ{p:List Ln}(h:Ev C a J Z (.list (vY p)))(k:Ev C b J Z (nI i)):Ev C (.l a b (.c .none)) J Z (.list (vY (p.drop i))):=λQ q=>zv h k Q (by rw[<-x8];exact q)
end
end
abbrev Cg:=Nat×Nat×Nat×Nat
structure Lc(a b:List Ln)(f:Bool)(x y:Nat)(c:Cg):Prop where
 l:x<=c.1
 m:y+c.1=x+c.2.2.1
 g:f=false->x<c.1
 o:c.1<=c.2.1
 i:c.2.2.1<=c.2.2.2
 ha:c.2.1<=a.length
 hb:c.2.2.2<=b.length
 n:c.1<c.2.1\/c.2.2.1<c.2.2.2
 p:aH a x c.1=aH b y c.2.2.1
def ee(a b:List Ln):Bool->Nat->Nat->List Cg->Prop
 |_,at',to,[]=>a.drop at'=b.drop to
 |fst,at',to,c::cs=>Lc a b fst at' to c/\ee a b false c.2.1 c.2.2.2 cs
theorem Lc.yy{a b:List Ln}{f:Bool}{x y:Nat}{c:Cg}(h:Lc a b f x y c):y<=c.2.2.1:=au [_,_,_,_] [] (.ln .v0 .v1) 1 [(1,.en (.a .v0 .v2) (.a .v3 .v1)),(1,.ln .v3 .v2)] rfl h.m h.l
theorem DU{a b:List Ln}{i j:Nat}(hi:i<a.length)(hj:j<b.length)(h:(nA a b)[i]?=(nB a b)[j]?):a[i]=b[j]:=by
 unfold nA nB iD at h;rw[cO,cO,bL hi,bL hj]at h;have h:((yo a[i] (cw (cw [] a) b):Nat):Int)=(yo b[j] (cw (cw [] a) b):Nat):=dy h;have h:=kX.1 h;have ma:a[i]∈cw (cw [] a) b:=(pQ b (mD a (iR hi))).1;have mb:b[j]∈cw (cw [] a) b:=mD b (iR hj);have e1:=rB (q6 ma);have e2:=rB (q6 mb);rw[<-e1,<-e2]
 congr 1
theorem Hq{l:List Bool}{i:Nat}{b:Bool}(h:l[i]?=some b):i<l.length:=(iQ.1 h).1
theorem Ud{a b:List Ln}{G H:List Bool}(lg:G.length=a.length)(lh:H.length=b.length){x y:Nat}{cs:List Cg}(h:g6 G H x y cs):∀{at' to g c d:Nat}{fst:Bool},x=at'+g->y=to+g->bg (nA a b) (nB a b) G H x y G.length H.length c d->aH a at' x=aH b to y->(fst=false->0<g\/(G[x]?≠some true/\H[y]?≠some true))->ee a b fst at' to cs:=by
 induction h with
 |fin=>
  intro at' to g c d fst _ _ _ hp _;rw[lg,u0,lh,u0]at hp;exact hp
 |@skip x y cs h1 h2 _ ih=>
  intro at' to g c d fst hx hy hl hp _;have lx:x<a.length:=lg▸Hq h1;have ly:y<b.length:=lh▸Hq h2;rcases hl.keeps (by rw[h1];exact λe=>nomatch e) (by rw[h2];exact λe=>nomatch e) with h|⟨e,_,_,k⟩
  ·exact absurd lx (by rw[h.1,lg];exact gP _)
  ·refine ih (g:=g+1) (congrArg (·+1) hx) (congrArg (·+1) hy) k ?_ (λ_=>.inl (fh g));rw[DW (hx▸aL ..) lx,DW (hy▸aL ..) ly,hp,DU lx ly e]
 |@run x y x' y' cs h1 h2 h3 h4 h5 h6 h7 _ ih=>
  intro at' to g c d fst hx hy hl hp hg;obtain⟨j,rfl⟩:=bS h1;obtain⟨k,rfl⟩:=bS h2;obtain⟨c',hl'⟩:=hl.outsN h3;refine bA (hl'.innsN h4) λd' hl'=>?_;have le:=hl'.le;refine⟨⟨hx▸aL ..,by rw[hx,hy];exact bE [_,_,_] [] (.a .v0 (.a .v1 .v2)) (.a .v1 (.a .v0 .v2)) [] rfl,λf=>hx▸hE ((hg f).resolve_right λn=>?_),h1,h2,lg▸le.1,lh▸le.2,h7,hp⟩,ih (g:=0) rfl rfl hl' (by rw[uK,uK]) λ_=>.inr ⟨h5,h6⟩⟩;exact h7.elim (λz=>n.1 (h3 x (aC _) z)) λz=>n.2 (h4 y (aC _) z)
theorem gm.lds{a b:List Ln}{cs:List Cg}{G H:List Bool}{c d:Nat}(h:gm a b cs G H c d):ee a b true 0 0 cs:=
 Ud h.lg h.lh h.chg (g:=0) rfl rfl (by rw[h.lg,h.lh];exact h.lay) (by rw[uK,uK]) λe=>nomatch e
section
section
variable{a b:List Ln}
noncomputable abbrev VC:List S:=[.s (.v 7) (.b .sub (.a (.x 6) 0) (.x 3)),
   .ite (.o false [.m .lt (.x 7) (.bi .int [.m .gt (.x 5) (.c (.int 0))]),.m .ne (.b .sub (.a (.x 6) 2) (.x 4)) (.x 7),.m .lt (.a (.x 6) 1) (.a (.x 6) 0),.m .lt (.a (.x 6) 3) (.a (.x 6) 2)])
   [.ret (.c (.bool false))]
   [],
   .ite (.o false [.m .gt (.a (.x 6) 1) (.bi .len [.x 1]),.m .gt (.a (.x 6) 3) (.bi .len [.x 2]),.m .eq (.b .sub (.b .add (.b .sub (.a (.x 6) 1) (.a (.x 6) 0)) (.a (.x 6) 3)) (.a (.x 6) 2)) (.c (.int 0))])
   [.ret (.c (.bool false))]
   [],
   .ite (.m .ne (.l (.x 1) (.x 3) (.a (.x 6) 0)) (.l (.x 2) (.x 4) (.a (.x 6) 2)))
   [.ret (.c (.bool false))]
   [],
   .s (.vs [3,4]) (.tup [.a (.x 6) 1,.a (.x 6) 3])]
theorem iq{C:ax}{J:aj}{Z:ae}{e:E}{p:List Ln}(h:Ev C e J Z (.list (vY p))):Ev C (.bi .len [e]) J Z (nI p.length):=λQ q=>qr h Q (by rw[aY];exact q)
noncomputable def tS(cs:List Cg)(a b:List Ln)(s:Nat×Nat)(j:Option V×Option V×Option V):aj:=[some (.list (cs.map aV)),some (.list (vY a)),some (.list (vY b)),some (nI s.1),some (nI s.2),j.1,j.2.1,j.2.2]
theorem N6{n:Nat}{Z:ae}{cs:List Cg}{q at' to:Nat}{c:Cg}{r:List Cg}{j:Option V}(h:ee a b (q==0) at' to (c::r)){Q:QO}(qq:∀j,Q .next (tS cs a b (c.2.1,c.2.2.2) j) Z):az (Ph pF n) VC (tS cs a b (at',to) (some (nI q),some (aV c),j)) Z Q:=by
 have h:=h.1;obtain⟨x,x',y,y'⟩:=c;have A:∀{f:Nat}{v:V},jE Z (aV (x,x',y,y')) f=some v->Ev (Ph pF n) (.a (.x 6) f) (tS cs a b (at',to) (some (nI q),some (aV (x,x',y,y')),some (.int ((x:Int)-at')))) Z v:=λk=>br (aa rfl) k;have hx:(x:Int)-at'=((x-at':Nat):Int):=(jh h.l).symm;have hy:(y:Int)-to=(x:Int)-at':=bR [_,_,_,_] [] (.s .c0 .c1) (.s .c2 .c3) [(1,.en (.a .v1 .v2) (.a .v3 .v0))] rfl h.m;have hg:(if (decide (((0:Nat):Int)<(q:Int)))=true then(1:Int) else 0)<=(x:Int)-at':=by
  rw[hx];cases q with
  |zero=>exact eK _
  |succ q=>
   rw[if_pos (decide_eq_true (dN.2 (fh q)))];exact gy.2 (xV (h.g rfl))
 have lt0:¬(((x:Int)-at'<(if (decide (((0:Nat):Int)<(q:Int)))=true then 1 else 0))\/((y:Int)-to≠(x:Int)-at')\/x'<x\/y'<y):=λz=>z.elim (jL.2 hg) λz=>z.elim (λz=>z hy) λz=>z.elim (bc.2 h.o) (bc.2 h.i);have lt1:¬(a.length<x'\/b.length<y'\/((x':Int)-x+y'-y=0)):=λz=>z.elim (bc.2 h.ha) λz=>z.elim (bc.2 h.hb) λz=>h.n.elim
  (λn:x<x'=>fQ [_,_,_,_] [] [(1,.ei (.s (.a (.s .c0 .c1) .c2) .c3) .k0),(1,.tn .v1 .v0),(1,.ln .v3 .v2)] rfl z n h.i)
  λn:y<y'=>fQ [_,_,_,_] [] [(1,.ei (.s (.a (.s .c0 .c1) .c2) .c3) .k0),(1,.tn .v3 .v2),(1,.ln .v1 .v0)] rfl z n h.o
 refine bM (cv (br (aa rfl) rfl) (aa rfl) rfl) (aO (bH (RE (sO (aa rfl) (j:=if (decide (((0:Nat):Int)<(q:Int)))=true then 1 else 0) (λQ q=>by exact q)) (λ_=>qt (cv (A rfl) (aa rfl) rfl) (aa rfl)) (λ_ _=>eY (A rfl) (A rfl)) (λ_ _ _=>eY (A rfl) (A rfl))) lt0 (aO (bH (vt (iV (A rfl) (iq (aa rfl))) (λ_=>iV (A rfl) (iq (aa rfl))) (λ_ _=>kB (cv (bh (cv (A rfl) (A rfl) rfl) (A rfl) rfl) (A rfl) rfl) Ev.cn)) lt1 (aO (bH (sD (jn (aa rfl) (aa rfl) (A rfl)) (jn (aa rfl) (aa rfl) (A rfl))) (λz=>z h.p) (fL (A rfl) (A rfl) rfl (qq (some (nI q),some (aV (x,x',y,y')),some (.int ((x:Int)-at')))))))))))
theorem N1{cs:List Cg}(h:ee a b true 0 0 cs){n:Nat}{Z:ae}{Q:QV}(q:Q (.bool true) Z):Ph pF (n+1) 16 [.list (cs.map aV),.list (vY a),.list (vY b)] Z Q:=by
 refine bN rfl ⟨rfl,aO (uS (cD pF n) (aa rfl) (AR (cD pF n) (λ(s:Nat×Nat)(j:Option V×Option V×Option V)=>tS cs a b s j) (λ_=>Z) (λq s=>ee a b (q==0) s.1 s.2 (cs.drop q)) (λq hq s j h=>ao (a:=tS cs a b s (some (nI q),some (aV cs[q]),j.2.2)) rfl λQ qq=>?_) (λs j h=>?_) (s:=(0,0)) (j:=(none,none,none)) h))⟩
 ·rw[jI hq]at h;exact N6 h λj=>qq (cs[q].2.1,cs[q].2.2.2) j h.2
 ·rw[kW]at h;exact eF (ju (t:=true) (vp (pZ (aa rfl) (aa rfl)) (pZ (aa rfl) (aa rfl))) (iff_of_true rfl h)) (bX q)
end
end
section
theorem MA(f:Nat->Int):∀n,pK f (n+1)=f 0+pK (λi=>f (i+1)) n:=λrr=>ni ((nL _ _))
 (λn ih=>by
  show pK f (n+1)+f (n+1)=f 0+(pK (λi=>f (i+1)) n+f (n+1));rw[ih,my]) rr
theorem jP(a:Int)(l:List Int):cj (a::l)=a+cj l:=MA _ _
noncomputable def iC(G:List Bool)(x:Nat):Nat:=(G.drop x).count true
section
variable{A B:List Int}{G H:List Bool}
theorem yV{x:Nat}(h:G[x]?=some true):iC G x=iC G (x+1)+1:=by
 obtain⟨hx,e⟩:=iQ.1 h;unfold iC;rw[jI hx,e,J2]
theorem uF{x:Nat}(h:G[x]?=some false):iC G x=iC G (x+1):=by
 obtain⟨hx,e⟩:=iQ.1 h;unfold iC;rw[jI hx,e];exact JK (by decide)
theorem vi:iC G G.length=0:=by unfold iC;rw[kW];rfl
theorem Fx{x:Nat}:∀{j:Nat},(∀i,x<=i->i<x+j->G[i]?=some true)->iC G x=j+iC G (x+j):=@λrr=>ni (@λ_=>(aU _).symm)
 (@λj ih h=>by
  rw[ih λi a b=>h i a (eL b),yV (h (x+j) (aL ..) (bu _)),cb (iC G (x+j+1)) 1,<-cq];rfl) rr
theorem F3{x y X Y c d:Nat}(h:bg A B G H x y X Y c d):X=G.length->Y=H.length->c=iC G x/\d=iC H y:=by
 induction h with
 |nil=>rintro rfl rfl;exact⟨vi.symm,vi.symm⟩
 |keep _ g h _ ih=>exact λa b=>⟨(ih a b).1.trans (uF g).symm,(ih a b).2.trans (uF h).symm⟩
 |out g _ ih=>exact λa b=>⟨(congrArg (·+1) (ih a b).1).trans (yV g).symm,(ih a b).2⟩
 |inn h _ ih=>exact λa b=>⟨(ih a b).1,(congrArg (·+1) (ih a b).2).trans (yV h).symm⟩
noncomputable def gq(c:Cg):Int:=(c.2.1:Int)-c.1
noncomputable def fF(c:Cg):Int:=(c.2.2.2:Int)-c.2.2.1
theorem Rb{x y:Nat}{cs:List Cg}(h:g6 G H x y cs):cj (cs.map gq)=iC G x/\cj (cs.map fF)=iC H y:=by
 induction h with
 |fin=>rw[vi,vi];exact⟨rfl,rfl⟩
 |skip h1 h2 _ ih=>rw[uF h1,uF h2];exact ih
 |@run x y x' y' cs h1 h2 h3 h4 _ _ _ _ ih=>
  obtain⟨j,rfl⟩:=bS h1;obtain⟨k,rfl⟩:=bS h2;rw[Fx h3,Fx h4,gx,jP,gx,jP,ih.1,ih.2,hV,hV];have e{x j:Nat}:((x+j:Nat):Int)-x=j:=by exact bR [_,_] [] (.s (.c (.a .v0 .v1)) .c0) .c1 [] rfl
  exact⟨congrArg (·+_) e,congrArg (·+_) e⟩
end
theorem gm.counts{a b:List Ln}{cs:List Cg}{G H:List Bool}{c d:Nat}(h:gm a b cs G H c d):cj (cs.map gq)=c/\cj (cs.map fF)=d:=by
 have l:=F3 h.lay h.lg.symm h.lh.symm;rw[l.1,l.2];exact Rb h.chg
theorem QG(cs:List Cg):cj (cs.map oV)=cj (cs.map gq)+cj (cs.map fF):=by
 induction cs with
 |nil=>rfl
 |cons c cs ih=>
  rw[gx,jP,gx,jP,gx,jP,ih];show gq c+fF c+_ = _;rw[my,my,<-my (fF c),nL (fF c),my]
theorem mH{α:Type}{C:ax}{e elt:E}{caps:List Nat}{own:List cM}{t:T}{J:aj}{Z:ae}(xs:List α)(g h:α->V)(hz:xs.length<=aJ)(he:Ev C e J Z (.list (xs.map g)))
  (H:∀a,a∈xs->∃J',d8 t (g a) (caps.map (rd J)++aR own.length none)=some J'/\Ev C elt J' Z (h a)):Ev C (.comp caps own t (.seq e) [] elt) J Z (.list (xs.map h)):=λQ q=>
 pX (he _ (ao rfl (uN xs g h hz (λ_=>rfl) H q)))
theorem Hc{C:ax}{c:E}{J:aj}{Z:ae}{cs:List Cg}{f:Cg->Int}(h:Ev C c J Z (.list (cs.map λc=>V.int (f c)))):Ev C (.bi .sum [c]) J Z (.int (cj (cs.map f))):=λQ q=>kz (h _ (ao (HG f) q))
theorem n6{C:ax}{a b:E}{u v:V}{J:aj}{Z:ae}(h:Ev C a J Z u)(k:Ev C b J Z v):Ev C (.lst false [a,b]) J Z (.list [u,v]):=λQ q=>h _ (k _ q)
theorem MX{cs:List Cg}(hz:cs.length<=aJ){n:Nat}{Z:ae}{Q:QV}(q:Q (.list [.int (cj (cs.map gq)),.int (cj (cs.map fF))]) Z):Ph pF (n+1) 17 [.list (cs.map aV)] Z Q:=
 bN (J:=[some (.list (cs.map aV))]) rfl (lE (n6 (Hc (f:=gq) (mH cs aV (λc=>.int (gq c)) hz (aa rfl) λc _=>⟨[some (aV c)],rfl,cv (br (aa rfl) rfl) (br (aa rfl) rfl) rfl⟩))
  (Hc (f:=fF) (mH cs aV (λc=>.int (fF c)) hz (aa rfl) λc _=>⟨[some (aV c)],rfl,cv (br (aa rfl) rfl) (br (aa rfl) rfl) rfl⟩)) _ (bX q)))
noncomputable def kO(c:Cg):V:=.tup [nI c.1,nI c.2.1,nI c.2.2.1,nI c.2.2.2]
theorem uC{cs:List Cg}(hz:cs.length<=aJ){n:Nat}{Z:ae}{Q:QV}(q:Q (.list (cs.map kO)) Z):Ph pF (n+1) 18 [.list (cs.map aV)] Z Q:=
 bN (J:=[some (.list (cs.map aV))]) rfl (lE (mH cs aV kO hz (aa rfl) (λc _=>⟨[some (aV c)],rfl,jo (br (aa rfl) rfl) (br (aa rfl) rfl) (br (aa rfl) rfl) (br (aa rfl) rfl)⟩) _ (bX q)))
end
section
noncomputable def IG(e:Nat->Bool)(prev:Nat->Nat):Nat->Nat
 |0=>0
 |j+1=>if e j=true then prev j+1 else max (prev (j+1)) (IG e prev j)
noncomputable def dc(e:Nat->Nat->Bool):Nat->Nat->Nat
 |0=>λ_=>0
 |i+1=>IG (e i) (dc e i)
section
variable{e:Nat->Nat->Bool}
theorem qk{i j:Nat}(h:e i j=true):dc e (i+1) (j+1)=dc e i j+1:=if_pos h
theorem sS{i j:Nat}(h:¬e i j=true):dc e (i+1) (j+1)=max (dc e i (j+1)) (dc e (i+1) j):=if_neg h
theorem EO:∀i j,(dc e i j<=dc e i (j+1)/\dc e i (j+1)<=dc e i j+1)/\(dc e i j<=dc e (i+1) j/\dc e (i+1) j<=dc e i j+1):=by
 intro i;induction i with
 |zero=>
  intro j;refine⟨⟨aC _,eM _⟩,bJ _,?_⟩;induction j with
  |zero=>exact bJ _
  |succ j ih=>
   by_cases h:e 0 j=true
   ·rw[qk h];exact aC _
   ·rw[sS h];exact CZ.2 ⟨bJ _,ih⟩
 |succ i ihi=>
  have row:∀j,dc e (i+1) j<=dc e (i+1) (j+1)/\dc e (i+1) (j+1)<=dc e (i+1) j+1:=λj=>by
   have a:=ihi j;have b:=ihi (j+1);by_cases h:e i j=true
   ·rw[qk h];exact⟨a.2.2,cK a.2.1⟩
   ·rw[sS h];exact⟨Nat.le_max_right ..,CZ.2 ⟨ai a.1.2 (cK a.2.1),eM _⟩⟩
  intro j;refine⟨row j,?_⟩;induction j with
  |zero=>exact⟨aC _,bJ _⟩
  |succ j ih=>
   by_cases h:e (i+1) j=true
   ·rw[qk h];exact⟨(row j).2,cK (row j).1⟩
   ·rw[sS h];exact⟨Nat.le_max_left ..,CZ.2 ⟨eM _,ai ih.2 (cK (row j).1)⟩⟩
theorem aD.snoc{e:Nat->Nat->Prop}{x y X Y c:Nat}(h:aD e x y X Y c):(x=X/\y=Y/\c=0)\/(∃X' Y',X=X'+1/\Y=Y'+1/\e X' Y'/\aD e x y X' Y' c)\/(∃X' c',X=X'+1/\c=c'+1/\aD e x y X' Y c')\/∃Y' c',Y=Y'+1/\c=c'+1/\aD e x y X Y' c':=by
 induction h with
 |nil=>exact .inl ⟨rfl,rfl,rfl⟩
 |keep a h ih=>
  rcases ih with⟨rfl,rfl,rfl⟩|⟨X',Y',h1,h2,h0,h3⟩|⟨X',c',h1,h2,h3⟩|⟨Y',c',h1,h2,h3⟩
  ·exact .inr (.inl ⟨_,_,rfl,rfl,a,.nil⟩)
  ·exact .inr (.inl ⟨X',Y',h1,h2,h0,.keep a h3⟩)
  ·exact .inr (.inr (.inl ⟨X',c',h1,h2,.keep a h3⟩))
  ·exact .inr (.inr (.inr ⟨Y',c',h1,h2,.keep a h3⟩))
 |out h ih=>
  rcases ih with⟨rfl,rfl,rfl⟩|⟨X',Y',h1,h2,h0,h3⟩|⟨X',c',h1,h2,h3⟩|⟨Y',c',h1,h2,h3⟩
  ·exact .inr (.inr (.inl ⟨_,_,rfl,rfl,.nil⟩))
  ·exact .inr (.inl ⟨X',Y',h1,h2,h0,.out h3⟩)
  ·exact .inr (.inr (.inl ⟨X',c'+1,h1,congrArg (·+1) h2,.out h3⟩))
  ·exact .inr (.inr (.inr ⟨Y',c'+1,h1,congrArg (·+1) h2,.out h3⟩))
 |inn h ih=>
  rcases ih with⟨rfl,rfl,rfl⟩|⟨X',Y',h1,h2,h0,h3⟩|⟨X',c',h1,h2,h3⟩|⟨Y',c',h1,h2,h3⟩
  ·exact .inr (.inr (.inr ⟨_,_,rfl,rfl,.nil⟩))
  ·exact .inr (.inl ⟨X',Y',h1,h2,h0,.inn h3⟩)
  ·exact .inr (.inr (.inl ⟨X',c'+1,h1,congrArg (·+1) h2,.inn h3⟩))
  ·exact .inr (.inr (.inr ⟨Y',c'+1,h1,congrArg (·+1) h2,.inn h3⟩))
theorem aD.snocK{e:Nat->Nat->Prop}{x y X Y c:Nat}(h:aD e x y X Y c)(k:e X Y):aD e x y (X+1) (Y+1) c:=by
 have z:=h.append (.keep k .nil);rw[aU]at z;exact z
theorem aD.snocO{e:Nat->Nat->Prop}{x y X Y c:Nat}(h:aD e x y X Y c):aD e x y (X+1) Y (c+1):=by
 have z:=h.append (.out .nil);rw[aU,cb 1 c]at z;exact z
theorem aD.snocI{e:Nat->Nat->Prop}{x y X Y c:Nat}(h:aD e x y X Y c):aD e x y X (Y+1) (c+1):=by
 have z:=h.append (.inn .nil);rw[aU,cb 1 c]at z;exact z
end
theorem R6{e:Nat->Nat->Bool}:∀i j,∃c,aD (λi j=>e i j=true) 0 0 i j c/\c+2*dc e i j=i+j:=by
 intro i;induction i with
 |zero=>exact λj=>⟨j,by have z:=aD.inns (e:=λi j=>e i j=true) 0 0 j;rw[aU]at z;exact z,(aU j).symm⟩
 |succ i ih=>
  intro j;induction j with
  |zero=>
   refine ar (ih 0) λc h1 h2=>?_;refine⟨c+1,h1.snocO,?_⟩;have z:dc e i 0=0:=by cases i<;>rfl
   rw[z]at h2;exact congrArg (·+1) h2
  |succ j ihj=>
   by_cases h:e i j=true
   ·refine ar (ih j) λc h1 h2=>?_;exact⟨c,h1.snocK h,by rw[qk h];exact bE [_,_,_,_] [] (.a .v0 (.m 2 (.a .v1 .k1))) (.a (.a .v2 .k1) (.a .v3 .k1)) [(-1,.en (.a .v0 (.m 2 .v1)) (.a .v2 .v3))] rfl h2⟩
   ·rw[sS h];by_cases k:dc e i (j+1)<=dc e (i+1) j
    ·refine ar ihj λc h1 h2=>?_;exact⟨c+1,h1.snocI,by rw[KV k];exact bE [_,_,_,_] [] (.a (.a .v0 .k1) (.m 2 .v1)) (.a (.a .v2 .k1) (.a .v3 .k1)) [(-1,.en (.a .v0 (.m 2 .v1)) (.a (.a .v2 .k1) .v3))] rfl h2⟩
    ·refine ar (ih (j+1)) λc h1 h2=>?_;exact⟨c+1,h1.snocO,by rw[K7 (xY k)];exact bE [_,_,_,_] [] (.a (.a .v0 .k1) (.m 2 .v1)) (.a (.a .v2 .k1) (.a .v3 .k1)) [(-1,.en (.a .v0 (.m 2 .v1)) (.a .v2 (.a .v3 .k1)))] rfl h2⟩
theorem R1{e:Nat->Nat->Bool}:∀n i j c,i+j<=n->aD (λi j=>e i j=true) 0 0 i j c->i+j<=c+2*dc e i j:=by
 intro n;induction n with
 |zero=>intro i j c hn _;exact au [_,_,_,_] [] (.ln (.a .v0 .v1) (.a .v2 (.m 2 .v3))) 1 [(1,.ln (.a .v0 .v1) .k0)] rfl hn
 |succ n ih=>
  intro i j c hn h;rcases h.snoc with⟨rfl,rfl,rfl⟩|⟨i',j',rfl,rfl,q,k⟩|⟨i',c',rfl,rfl,k⟩|⟨j',c',rfl,rfl,k⟩
  ·exact bJ _
  ·have a:=ih i' j' c (by exact au [_,_,_] [] (.ln (.a .v0 .v1) .v2) 1 [(1,.ln (.a (.a .v0 .k1) (.a .v1 .k1)) (.a .v2 .k1))] rfl hn) k;rw[qk q];exact au [_,_,_,_] [] (.ln (.a (.a .v0 .k1) (.a .v1 .k1)) (.a .v2 (.m 2 (.a .v3 .k1)))) 1 [(1,.ln (.a .v0 .v1) (.a .v2 (.m 2 .v3)))] rfl a
  ·have a:=ih i' j c' (by exact au [_,_,_] [] (.ln (.a .v0 .v1) .v2) 1 [(1,.ln (.a (.a .v0 .k1) .v1) (.a .v2 .k1))] rfl hn) k;have s:=(EO (e:=e) i' j).2.1;exact au [_,_,_,_,_] [] (.ln (.a (.a .v0 .k1) .v1) (.a (.a .v2 .k1) (.m 2 .v3))) 1 [(1,.ln (.a .v0 .v1) (.a .v2 (.m 2 .v4))),(2,.ln .v4 .v3)] rfl a s
  ·have a:=ih i j' c' (by exact au [_,_,_] [] (.ln (.a .v0 .v1) .v2) 1 [(1,.ln (.a .v0 (.a .v1 .k1)) (.a .v2 .k1))] rfl hn) k;have s:=(EO (e:=e) i j').1.1;exact au [_,_,_,_,_] [] (.ln (.a .v0 (.a .v1 .k1)) (.a (.a .v2 .k1) (.m 2 .v3))) 1 [(1,.ln (.a .v0 .v1) (.a .v2 (.m 2 .v4))),(2,.ln .v4 .v3)] rfl a s
end
section
noncomputable def fY(a b:List Ln)(i j:Nat):Bool:=a.getD i []==b.getD j []
section
variable{a b:List Ln}{D:Nat}
theorem zJ{i j:Nat}(hi:i<a.length)(hj:j<b.length):fY a b i j=true↔a[i]=b[j]:=by
 unfold fY;rw[fc,fc,bL hi,bL hj];exact beq_iff_eq
theorem HV{i j:Nat}(hi:i<a.length)(hj:j<b.length):gE (nA a b) (nB a b) i j↔fY a b i j=true:=by
 rw[zJ hi hj];refine⟨λh=>DU hi hj h.1,λh=>⟨?_,(dY a b).symm▸hi,(d7 a b).symm▸hj⟩⟩;unfold nA nB iD;rw[cO,cO,bL hi,bL hj,h]
theorem yN(h:dO (nA a b) (nB a b) 0 a.length 0 b.length D):aD (λi j=>fY a b i j=true) 0 0 a.length b.length D/\∀c,aD (λi j=>fY a b i j=true) 0 0 a.length b.length c->D<=c:=
 ⟨h.1.mono λi j e _ _ hi hj=>(HV hi hj).1 e,λc w=>h.2 c (w.mono λi j e _ _ hi hj=>(HV hi hj).2 e)⟩
noncomputable def fB(a b:List Ln):Int:=((a.length+b.length:Nat):Int)-2*(dc (fY a b) a.length b.length:Nat)
theorem Hf(h:aD (λi j=>fY a b i j=true) 0 0 a.length b.length D)(k:∀c,aD (λi j=>fY a b i j=true) 0 0 a.length b.length c->D<=c):(D:Int)=fB a b:=by
 refine ar (R6 (e:=fY a b) a.length b.length) λc h1 h2=>?_;have h3:=R1 (e:=fY a b) _ _ _ _ (aC _) h;have h4:=k c h1;unfold fB;exact K2 (au [_,_,_,_,_] [] (.li .c0 (.s (.c (.a .v1 .v2)) (.m 2 .c3))) 1 [(1,.en (.a .v4 (.m 2 .v3)) (.a .v1 .v2)),(1,.ln .v0 .v4)] rfl h2 h4) (au [_,_,_,_] [] (.li (.s (.c (.a .v0 .v1)) (.m 2 .c2)) .c3) 1 [(1,.ln (.a .v0 .v1) (.a .v3 (.m 2 .v2)))] rfl h3)
theorem zM(h:dO (nA a b) (nB a b) 0 a.length 0 b.length D):(D:Int)=fB a b:=Hf (yN h).1 (yN h).2
theorem PM(h:dO (nA b a) (nB b a) 0 b.length 0 a.length D):(D:Int)=fB a b:=by
 have z:=yN h;have fl:∀{x y:List Ln}{c},aD (λi j=>fY x y i j=true) 0 0 x.length y.length c->aD (λi j=>fY y x i j=true) 0 0 y.length x.length c:=λw=>w.flip.mono λi j e _ _ _ _=>beq_iff_eq.2 (beq_iff_eq.1 e).symm;exact Hf (fl z.1) λc w=>z.2 c (fl w)
theorem RF{c:Nat}(h:aD (gE (nA a b) (nB a b)) 0 0 a.length b.length c):fB a b<=c:=by
 refine bA (lq (A:=nA a b) (B:=nB a b) (bJ a.length) (bJ b.length)) λD hD=>?_;rw[<-zM hD];exact gy.2 (hD.2 c h)
theorem gm.low{cs:List Cg}{G H:List Bool}{c d:Nat}(h:gm a b cs G H c d):fB a b<=((c+d:Nat):Int):=RF (h.lay.way ((dY a b).trans h.lg.symm) ((d7 a b).trans h.lh.symm))
end
noncomputable def ck(m:Nat)(f:Nat->Nat):List V:=(jM m).map λj=>nI (f j)
theorem kr{m j:Nat}{f:Nat->Nat}(h:j<m):(ck m f)[j]?=some (nI (f j)):=by
 unfold ck;rw[cO,Kd h];rfl
theorem jm(m:Nat)(f:Nat->Nat):(ck m f).length=m:=by unfold ck;rw[aY,ui]
noncomputable def putN(f:Nat->Nat)(j v:Nat):Nat->Nat:=λi=>if i=j then v else f i
theorem zh{m j v:Nat}{f:Nat->Nat}(h:j<m):(ck m f).set j (nI v)=ck m (putN f j v):=by
 refine xS λi=>?_;rw[KA,jm];by_cases c:j=i
 ·subst c;rw[if_pos rfl,if_pos h,kr h,putN,if_pos rfl]
 ·rw[if_neg c];by_cases d:i<m
  ·rw[kr d,kr d,putN,if_neg λe=>c e.symm]
  ·rw[fH (by rw[jm];exact bc.1 d),fH (by rw[jm];exact bc.1 d)]
structure g7(m:Nat)(l:List Nat)(U Z:ae)(w:Nat->Nat->Nat):Prop where
 nd:l.Nodup
 at_:∀k(h:k<l.length),Z l[k]=some (.list (ck m (w k)))
 un:∀c,c∈l->U c=none
 sub:Sub U Z
section
variable{m:Nat}{l:List Nat}{U Z:ae}{w:Nat->Nat->Nat}
theorem g7.snoc(h:g7 m l U Z w){c:Nat}(hc:Z c=none){f:Nat->Nat}:g7 m (l++[c]) U (ak Z c (.list (ck m f))) (λk=>if k=l.length then f else w k):=by
 have nc:∀k(h':k<l.length),l[k]≠c:=λk h' e=>by have:=h.at_ k h';rw[e,hc]at this;exact nn this
 have uc:U c=none:=by
  cases e:U c with
  |none=>rfl
  |some m'=>have:=h.sub c m' e;rw[hc]at this;exact nn this
 refine⟨?_,λk hk=>?_,λz hz=>?_,λz m' k=>(aA λe=>by rw[e,uc]at k;exact nn k).trans (h.sub z m' k)⟩
 ·refine KC.2 ⟨h.nd,ua ..,λx hx y hy e=>?_⟩;obtain⟨k,hk,rfl⟩:=List.getElem_of_mem hx;exact nc k hk (e.trans (cJ.1 hy))
 ·by_cases d:k<l.length
  ·rw[List.getElem_append_left d,aA (nc k d),if_neg (gQ d)];exact h.at_ k d
  ·have e:k=l.length:=cX (by rw[bB]at hk;exact eU hk) (bc.1 d);subst e;rw[List.getElem_concat_length rfl,aP,if_pos rfl]
 ·rcases gw.1 hz with hz|hz
  ·exact h.un z hz
  ·rw[cJ.1 hz];exact uc
theorem g7.put(h:g7 m l U Z w){k j v:Nat}(hk:k<l.length)(hj:j<m):g7 m l U (ak Z l[k] (.list ((ck m (w k)).set j (nI v)))) (λi=>if i=k then putN (w k) j v else w i):=by
 refine⟨h.nd,λi hi=>?_,h.un,λz m' q=>(aA λe=>by rw[e,h.un _ (iR hk)]at q;exact nn q).trans (h.sub z m' q)⟩;by_cases e:i=k
 ·subst e;rw[aP,if_pos rfl,zh hj]
 ·rw[if_neg e,aA λz=>e ((List.getElem_inj h.nd).1 z)];exact h.at_ i hi
end
end
section
section
variable{a b:List Ln}{m:Nat}{l:List Nat}{U Z:ae}{w:Nat->Nat->Nat}
theorem PG{e:Nat->Nat->Bool}(i:Nat):dc e i 0=0:=by cases i<;>rfl
theorem TP{C:ax}{J:aj}{Z:ae}{a b:E}{u v:Nat}(h:Ev C a J Z (nI u))(k:Ev C b J Z (nI v)):Ev C (.bi .max [a,b]) J Z (nI (max u v)):=λQ q=>h _ (k _ (show Q (V.int (if (u:Int)<v then(v:Int) else(u:Int))) Z by
 have e:(if (u:Int)<v then(v:Int) else(u:Int))=(max u v:Nat):=by
  by_cases c:u<v
  ·rw[if_pos (dN.2 c),KV (cu c)]
  ·rw[if_neg λz=>c (dN.1 z),K7 (bc.1 c)]
 rw[e];exact q))
theorem g7.ev(h:g7 m l U Z w){C:ax}{J:aj}{t u v:E}{i j:Nat}(ht:Ev C t J Z (.list (l.map .ref)))(hu:Ev C u J Z (nI i))(hv:Ev C v J Z (nI j))(hi:i<l.length)(hj:j<m):Ev C (.i (.i t u) v) J Z (nI (w i j)):=
 bW (bW ht hu (jN (by rw[cO,bL hi];rfl))) hv (kq (h.at_ i hi) (kr hj))
theorem yE{C:ax}{J:aj}{Z:ae}{a b:E}{x y:Ln}(h:Ev C a J Z (.bytes x))(k:Ev C b J Z (.bytes y)):aI C (.m .eq a b) J Z (x=y):=⟨x==y,beq_iff_eq,di h k rfl⟩
theorem MQ{C:ax}{J:aj}{Z:ae}{a b:E}{x y:Ln}(h:Ev C a J Z (.bytes x))(k:Ev C b J Z (.bytes y)):aI C (.m .ne a b) J Z (x≠y):=⟨!(x==y),vE beq_iff_eq,di h k rfl⟩
noncomputable abbrev IM:List S:=[.s (.i (.i (.x 2) (.b .add (.x 3) (.c (.int 1)))) (.b .add (.x 5) (.c (.int 1)))) (.ite (.m .eq (.x 4) (.x 6)) (.b .add (.i (.i (.x 2) (.x 3)) (.x 5)) (.c (.int 1))) (.bi .max [.i (.i (.x 2) (.x 3)) (.b .add (.x 5) (.c (.int 1))),.i (.i (.x 2) (.b .add (.x 3) (.c (.int 1)))) (.x 5)]))]
noncomputable def fR(a b:List Ln)(l:List Nat)(v3 v4 v5 v6:Option V):aj:=[some (.list (vY a)),some (.list (vY b)),some (.list (l.map .ref)),v3,v4,v5,v6]
def qF(a b:List Ln)(k:Nat)(w:Nat->Nat->Nat):Prop:=(∀i,i<=k->∀t,t<=b.length->w i t=dc (fY a b) i t)/\∀i,w i 0=0
theorem Pb{n k j:Nat}(hk:k<a.length)(hj:j<b.length)(hl:l.length=a.length+1)(T:g7 (b.length+1) l U Z w)(ho:qF a b k w)(hi:∀t,t<=j->w (k+1) t=dc (fY a b) (k+1) t){Q:QO}
  (q:∀w' Z',g7 (b.length+1) l U Z' w'->qF a b k w'->(∀t,t<=j+1->w' (k+1) t=dc (fY a b) (k+1) t)->Q .next (fR a b l (some (nI k)) (some (.bytes a[k])) (some (nI j)) (some (.bytes b[j]))) Z') :
  az (Ph pF n) IM (fR a b l (some (nI k)) (some (.bytes a[k])) (some (nI j)) (some (.bytes b[j]))) Z Q:=by
 have lk:k<l.length:=hl▸eL hk;have lk1:k+1<l.length:=hl▸nJ hk;have tv:aI (Ph pF n) (.m .eq (.x 4) (.x 6)) (fR a b l (some (nI k)) (some (.bytes a[k])) (some (nI j)) (some (.bytes b[j]))) Z (a[k]=b[j]):=yE (aa rfl) (aa rfl);have k1:Ev (Ph pF n) (.b .add (.x 3) (.c (.int 1))) (fR a b l (some (nI k)) (some (.bytes a[k])) (some (nI j)) (some (.bytes b[j]))) Z (nI (k+1)):=bh (aa rfl) Ev.cn rfl;have j1:Ev (Ph pF n) (.b .add (.x 5) (.c (.int 1))) (fR a b l (some (nI k)) (some (.bytes a[k])) (some (nI j)) (some (.bytes b[j]))) Z (nI (j+1)):=bh (aa rfl) Ev.cn rfl;have fin:∀v,v=dc (fY a b) (k+1) (j+1)->jC (Ph pF n) (.i (.i (.x 2) (.b .add (.x 3) (.c (.int 1)))) (.b .add (.x 5) (.c (.int 1)))) (nI v) (fR a b l (some (nI k)) (some (.bytes a[k])) (some (nI j)) (some (.bytes b[j]))) Z (Q .next):=λv hv=>by
  refine ve (bW (v:=.ref l[k+1]) (aa rfl) k1 (jN (by rw[cO,bL lk1];rfl))) j1 (u5 (T.at_ _ lk1) (by rw[jm];exact nJ hj) ?_);refine q _ _ (T.put lk1 (nJ hj)) ⟨λi hi' t ht=>?_,λi=>?_⟩ λt ht=>?_
  ·show(if i=k+1 then putN (w (k+1)) (j+1) v else w i) t = _;rw[if_neg (show ¬i=k+1 from gQ (px hi'))];exact ho.1 i hi' t ht
  ·show(if i=k+1 then putN (w (k+1)) (j+1) v else w i) 0 = _;by_cases c:i=k+1
   ·rw[if_pos c,putN,if_neg (by intro h;cases h)];exact ho.2 _
   ·rw[if_neg c];exact ho.2 i
  ·show(if k+1=k+1 then putN (w (k+1)) (j+1) v else w (k+1)) t = _;rw[if_pos rfl,putN];by_cases c:t=j+1
   ·rw[if_pos c,c];exact hv
   ·rw[if_neg c];exact hi t (eU (hF ht c))
 have tb:Ev (Ph pF n) (.x 2) (fR a b l (some (nI k)) (some (.bytes a[k])) (some (nI j)) (some (.bytes b[j]))) Z (.list (l.map .ref)):=aa rfl;by_cases c:a[k]=b[j]
 ·have e:w k j+1=dc (fY a b) (k+1) (j+1):=by rw[qk ((zJ hk hj).2 c),ho.1 k (aC _) j (cu hj)]
  exact iY tv c (bh (r:=((w k j+1:Nat):Int)) (T.ev tb (aa rfl) (aa rfl) lk (eL hj)) Ev.cn rfl _ (fin _ e))
 ·have e:max (w k (j+1)) (w (k+1) j)=dc (fY a b) (k+1) (j+1):=by rw[sS λz=>c ((zJ hk hj).1 z),ho.1 k (aC _) (j+1) hj,hi j (aC _)]
  exact iu tv c (TP (T.ev tb (aa rfl) j1 lk (nJ hj)) (T.ev tb k1 (aa rfl) lk1 (eL hj)) _ (fin _ e))
end
end
section
theorem D3{k:Nat}(h:k<=1000):jT [((k:Nat):Int)]=some (cA 0 1 k):=by
 show(if eD ((k:Nat):Int)=true then some (cA 0 1 (mr 0 ((k:Nat):Int) 1).toNat) else none) = _;rw[if_pos (zT h)];have z:=Gy 0 k;rw[aU]at z;rw[show(0:Int)=((0:Nat):Int) from rfl,z];rfl
theorem yW{C:ax}{es:List E}{elt:E}{caps:List Nat}{own:List cM}{t:T}{ifs:List E}{J:aj}{Z:ae}{Q:QV}(ns:List Int){l:List V}(he:∀Q:List V->ae->Prop,Q (vI ns) Z->eh C es J Z Q)(hl:jT ns=some l)
  (h:∃k,g0 (.vals l) t (λJ Z Q=>WB C true ifs J Z Q) (λJ Z Q=>WE C elt J Z Q) (caps.map (rd J)++aR own.length none) Q k 0 [] Z):WE C (.comp caps own t (.range es) ifs elt) J Z Q:=he _ (ao (p9 ns) (ao hl h))
theorem Gm(v:V)(k:Nat):(aR k [v]).flatten=aR k v:=by
 induction k with
 |zero=>rfl
 |succ k ih=>exact congrArg (v::·) ih
theorem Oo(m:Nat):ck m (λ_=>0)=aR m (nI 0):=by
 unfold ck;rw[K4,ui]
theorem SF{C:ax}{e f:E}{v:V}{k:Nat}{J:aj}{Z:ae}{Q:QV}(he:Ev C e J Z v)(hf:Ev C f J Z (nI k))(hk:k<=1000)(q:∀c,Z c=none->Q (.ref c) (ak Z c (.list (aR k v)))):WE C (.rep true [e] f) J Z Q:=
 he _ (hf _ (ao (a:=(k:Int)) rfl ⟨by rw[hM];show 1*k<=aJ;rw[CN];exact ai hk (by decide),gy.2 (ai hk (by decide)),kj (by decide) (eK k),λc hc=>by
  rw[hM,Gm];exact q c hc⟩))
section
variable{a b:List Ln}
theorem OB{n:Nat}{Z:ae}{Q:QV}(ha:a.length<=900)(hb:b.length<=900)(q:∀l Z',l.length=a.length+1->g7 (b.length+1) l Z Z' (λ_ _=>0)->Q (.list (l.map .ref)) Z'){v2 v3 v4 v5 v6:Option V} :
  WE (Ph pF n) (.comp [1] [("k":cM)] (.v 1) (.range [.b .add (.bi .len [.x 0]) (.c (.int 1))]) [] (.rep true [.c (.int 0)] (.b .add (.bi .len [.x 0]) (.c (.int 1))))) [some (.list (vY a)),some (.list (vY b)),v2,v3,v4,v5,v6] Z Q:=by
 refine yW [((a.length+1:Nat):Int)] (λQ q=>bh (r:=((a.length+1:Nat):Int)) (iq (p:=a) (aa rfl)) Ev.cn rfl _ q) (D3 (by exact au [_] [] (.ln (.a .v0 .k1) (.k 1000)) 1 [(1,.ln .v0 (.k 900))] rfl ha)) ?_;refine Fy (l:=cA 0 1 (a.length+1)) (by rw[oi];exact ai (cK ha) (by decide)) (λi r Z'=>∃l:List Nat,l.length=i/\r=l.map .ref/\g7 (b.length+1) l Z Z' (λ_ _=>0)) (λ_ _ _ _=>rfl) ?_ (eW (cD pF n) _) ⟨[],rfl,rfl,.nil,λk h=>absurd h (dM k),λ_ h=>(nm h),Sub.refl' _⟩ ?_
 ·intro i v r Z' hv zz;refine cm zz λl h1 h2 h3=>?_;refine ao rfl (SF Ev.cn (bh (r:=((b.length+1:Nat):Int)) (iq (p:=b) (aa rfl)) Ev.cn rfl) (by exact au [_] [] (.ln (.a .v0 .k1) (.k 1000)) 1 [(1,.ln .v0 (.k 900))] rfl hb) λc hc=>⟨l++[c],by rw[bB,h1];rfl,by rw[h2,dw];rfl,?_⟩);have z:=h3.snoc hc (f:=λ_=>0);rw[Oo]at z;have e:(λk=>if k=l.length then(λ_=>0) else(λ_:Nat=>(λ_:Nat=>0):Nat->Nat->Nat) k)=(λ_ _=>0:Nat->Nat->Nat):=funext λk=>by
   by_cases c:k=l.length
   ·rw[if_pos c]
   ·rw[if_neg c]
  rw[e]at z;exact z
 ·intro r Z' zz;refine cm zz λl h1 h2 h3=>?_;rw[oi]at h1;rw[h2];exact q l Z' h1 h3
theorem RG{n:Nat}{l:List Nat}{U:ae}{w:Nat->Nat->Nat}{s:ae}{k:Nat}(hk:k<a.length)(hl:l.length=a.length+1)(T:g7 (b.length+1) l U s w)(ho:qF a b k w){v5 v6:Option V}{Q:QO}
  (q:∀w' s' v5 v6,g7 (b.length+1) l U s' w'->qF a b (k+1) w'->Q .next (fR a b l (some (nI k)) (some (.bytes a[k])) v5 v6) s') :
  az (Ph pF n) [.for (.tup [5,6]) (.enum (.x 1)) IM] (fR a b l (some (nI k)) (some (.bytes a[k])) v5 v6) s Q:=
 iX (cD pF n) (uS (cD pF n) (aa rfl) (AR (cD pF n) (λ(_:(Nat->Nat->Nat)×ae)(j:Option V×Option V)=>fR a b l (some (nI k)) (some (.bytes a[k])) j.1 j.2) (λs=>s.2)
  (λj s=>g7 (b.length+1) l U s.2 s.1/\qF a b k s.1/\∀t,t<=j->s.1 (k+1) t=dc (fY a b) (k+1) t)
  (λj hj s _ h=>ao (a:=fR a b l (some (nI k)) (some (.bytes a[k])) (some (nI j)) (some (.bytes b[j]))) rfl λQ q=>Pb hk hj hl h.1 h.2.1 h.2.2 λw' Z' T ho hi=>q (w',Z') (some (nI j),some (.bytes b[j])) ⟨T,ho,hi⟩)
  (λs j h=>q s.1 s.2 j.1 j.2 h.1 ⟨λi hi t ht=>(jf hi).elim (λhi=>h.2.1.1 i (eU hi) t ht) λe=>by rw[e];exact h.2.2 t ht,h.2.1.2⟩)
  (s:=(w,s)) (j:=(v5,v6)) ⟨T,ho,λt ht=>by cases yg.1 ht;exact(ho.2 (k+1)).trans (PG (k+1)).symm⟩))
theorem Dd{n:Nat}{Z:ae}{Q:QV}(ha:a.length<=900)(hb:b.length<=900)(q:Q (.int (fB a b)) Z):Ph pF (n+1) 15 [.list (vY a),.list (vY b)] Z Q:=by
 refine bN rfl (OB ha hb λl Z' hl T=>aO (uS (cD pF n) (aa rfl) ?_));refine AR (cD pF n) (λ(_:(Nat->Nat->Nat)×ae)(j:Option V×Option V×Option V×Option V)=>fR a b l j.1 j.2.1 j.2.2.1 j.2.2.2) (λs=>s.2) (λk s=>g7 (b.length+1) l Z s.2 s.1/\qF a b k s.1)
  (λk hk s j h=>ao (a:=fR a b l (some (nI k)) (some (.bytes a[k])) j.2.2.1 j.2.2.2) rfl λQ q=>RG hk hl h.1 h.2 λw' s' v5 v6 T ho=>q (w',s') (some (nI k),some (.bytes a[k]),v5,v6) ⟨T,ho⟩) (λs j h=>?_)
  (s:=(_,Z')) (j:=(none,none,none,none)) ⟨T,λi hi t _=>by cases yg.1 hi;rfl,λ_=>rfl⟩
 have ev:=h.1.ev (C:=Ph pF n) (J:=fR a b l j.1 j.2.1 j.2.2.1 j.2.2.2) (t:=.x 2) (u:=.bi .len [.x 0]) (v:=.bi .len [.x 1]) (i:=a.length) (j:=b.length) (aa rfl) (iq (aa rfl)) (iq (aa rfl)) (by rw[hl];exact bu _) (bu _);rw[h.2.1 a.length (aC _) b.length (aC _)]at ev;exact eF (cv (bh (iq (aa rfl)) (iq (aa rfl)) rfl) (fN (op:=.mul) Ev.cn ev rfl) rfl) (j8 h.1.sub q)
end
end
section
section
variable{α:Type}[DecidableEq α]
noncomputable def fA:Nat->List α->List (Nat×α)
 |_,[]=>[]
 |k,v::r=>(k,v)::fA (k+1) r
noncomputable def jA(l:List α):List α:=((fA 0 l).filter λp=>!decide (p.2∈l.take p.1)).map (·.2)
theorem FG(g:α->V):∀(l:List α)(k:Nat),(fA k l).map (λp=>V.tup [nI p.1,g p.2])=jV k (l.map g):=λrr=>li (λ_=>rfl)
 (λv r ih k=>congrArg (V.tup [nI k,g v]::·) (ih (k+1))) rr
theorem uH:∀(l:List α)(k:Nat),(fA k l).length=l.length:=λrr=>li (λ_=>rfl)
 (λv r ih k=>congrArg (·+1) (ih (k+1))) rr
theorem NC{p:Nat×α}:∀{l:List α}{k:Nat},p∈fA k l->k<=p.1/\p.1<k+l.length:=λ{rr}=>@(li (λ{_}h=>nm h)
 (λv r ih{k}h=>by
  rcases cp.1 h with rfl|h
  ·exact⟨aC _,hE (fh _)⟩
  ·have z:=ih h;exact⟨cL z.1,(cH k r.length)▸z.2⟩) rr)
theorem O1:∀(l:List α)(k i:Nat)(h:i<l.length),(k+i,l[i])∈fA k l
 :=λl=>li (λ_ _ h=>absurd h (dM _)) (λv r ih k i=>nz (λ_=>fI)
 (λi h=>ka _ ((cH k i)▸ih (k+1) i (fe h))) i) l
theorem EV(l:List α):(jA l).length<=l.length:=by
 unfold jA;rw[aY];exact ai (JN ..) (dA (uH l 0))
theorem M5{l:List α}(h:jA l=l):∀i j(hi:i<l.length)(hj:j<l.length),l[i]=l[j]->i=j:=by
 have all:∀p,p∈fA 0 l->(!decide (p.2∈l.take p.1))=true:=by
  refine List.length_filter_eq_length_iff.1 ?_;have z:=congrArg rM h;unfold jA at z;rw[aY]at z;rw[z,uH]
 have lt:∀i j(hi:i<l.length)(hj:j<l.length),i<j->l[i]≠l[j]:=λi j hi hj ij e=>by
  have w:=all _ (O1 l 0 j hj);rw[aU,decide_eq_true]at w
  ·exact bn w
  ·show l[j]∈l.take j;rw[<-e];exact List.mem_take_iff_getElem.2 ⟨i,MF.2 ⟨ij,hi⟩,rfl⟩
 intro i j hi hj e;rcases BZ i j with h|h|h
 ·exact absurd e (lt i j hi hj h)
 ·exact h
 ·exact absurd e.symm (lt j i hj hi h)
theorem Th{g:α->V}(hg:∀a b,oN (g a) (g b)=some (decide (a=b)))(x:α):∀l:List α,ny (g x) (l.map g)=some (decide (x∈l)):=λrr=>li (by show some false = _;rw[decide_eq_false (KO)])
 (λy r ih=>by
  show(oN (g y) (g x)).bind (λa=>(ny (g x) (r.map g)).map λb=>a||b) = _;rw[hg,ih];show some (decide (y=x)||decide (x∈r)) = _;by_cases c:y=x
  ·subst c;rw[decide_eq_true (p:=y=y) rfl,decide_eq_true (p:=y∈y::r) fI];rfl
  ·rw[decide_eq_false c,Ls]
   congr 1
   by_cases d:x∈r
   ·rw[decide_eq_true d,decide_eq_true (ka _ d)]
   ·rw[decide_eq_false d,decide_eq_false λz=>(cp.1 z).elim (λe=>c e.symm) d]) rr
theorem y0{g:α->V}(hg:∀a b,oN (g a) (g b)=some (decide (a=b))){l:List α}(hz:l.length<=1000){n:Nat}{Z:ae}{Q:QV}(q:Q (.list ((jA l).map g)) Z):Ph pF (n+1) 13 [.list (l.map g)] Z Q:=by
 refine bN (J:=[some (.list (l.map g))]) rfl (lE ?_);have e:∀i,fo Z (.enum (.vals (l.map g))) i=some ((fA 0 l).map λp=>V.tup [nI p.1,g p.2])[i]?:=λi=>by rw[FG];exact y8 ..
 refine ao rfl (nS (fA 0 l) (λp=>.tup [nI p.1,g p.2]) (λp=>g p.2) (λp=>!decide (p.2∈l.take p.1)) (by rw[uH];exact ai hz (by decide)) e (λp hp=>⟨[some (.list (l.map g)),some (nI p.1),some (g p.2)],rfl,λQ q=>?_,λ_ Q q=>q⟩) ?_)
 ·have s:Ev (Ph pF n) (.l (.x 0) (.c .none) (.x 1)) [some (.list (l.map g)),some (nI p.1),some (g p.2)] Z (.list ((l.take p.1).map g)):=λQ q=>zt (aa rfl) (aa rfl) Q (by rw[uL,<-Cs];exact q);exact di (op:=.notin) (aa rfl) s (show(ny (g p.2) ((l.take p.1).map g)).map _ = _ by rw[Th hg];rfl) _ q
 ·have z:(nR (λp:Nat×α=>g p.2) ((fA 0 l).filter λp=>!decide (p.2∈l.take p.1)))=(jA l).map g:=by unfold jA;rw[ig];rfl
  rw[z];exact bX q
end
end
section
noncomputable def pre(f:Nat->Nat):Nat->Nat
 |0=>0
 |g+1=>pre f g+f g
noncomputable def bp(f:Nat->Nat)(a b:Nat):Nat->Nat:=putN (putN f b (f b+f a)) a 0
section
variable{f g:Nat->Nat}{a b n:Nat}
theorem DZ:∀{i:Nat},(∀j,j<i->f j=g j)->pre f i=pre g i:=@λrr=>ni (@λ_=>rfl)
 (@λi ih h=>by show pre f i+f i=pre g i+g i;rw[ih λj q=>h j (eL q),h i (bu i)]) rr
theorem qn:bp f a b a=0:=if_pos rfl
theorem qm(h:a≠b):bp f a b b=f b+f a:=(if_neg h.symm).trans (if_pos rfl)
theorem jq{i:Nat}(h:i≠a)(k:i≠b):bp f a b i=f i:=(if_neg h).trans (if_neg k)
theorem yu{i:Nat}(h:i<=b):pre (bp f (b+1) b) i=pre f i:=DZ λj q=>jq (by exact λzz=>fQ [_,_,_] [] [(-1,.en .v0 (.a .v1 .k1)),(1,.ln .v2 .v1),(1,.tn .v0 .v2)] rfl zz h q) (by exact λzz=>fQ [_,_,_] [] [(-1,.en .v0 .v1),(1,.ln .v2 .v1),(1,.tn .v0 .v2)] rfl zz h q)
theorem D1:pre (bp f (b+1) b) (b+1)=pre f (b+1)+f (b+1):=by
 show pre (bp f (b+1) b) b+bp f (b+1) b b = _;rw[yu (aC b),qm (kg b),<-cq];rfl
theorem CU:∀k,pre (bp f (b+1) b) (b+2+k)=pre f (b+2+k):=λrr=>ni (by
  show pre (bp f (b+1) b) (b+1)+bp f (b+1) b (b+1) = _;rw[D1,qn];rfl)
 (λk ih=>by
  show pre (bp f (b+1) b) (b+2+k)+bp f (b+1) b (b+2+k) = _;rw[ih,jq (by exact λzz=>fQ [_,_] [] [(1,.en (.a (.a .v0 (.k 2)) .v1) (.a .v0 .k1))] rfl zz) (by exact λzz=>fQ [_,_] [] [(1,.en (.a (.a .v0 (.k 2)) .v1) .v0)] rfl zz)];rfl) rr
theorem yt{i:Nat}(h:i<=a):pre (bp f a (a+1)) i=pre f i:=DZ λj q=>jq (by exact λzz=>fQ [_,_,_] [] [(-1,.en .v0 .v1),(1,.ln .v2 .v1),(1,.tn .v0 .v2)] rfl zz h q) (by exact λzz=>fQ [_,_,_] [] [(-1,.en .v0 (.a .v1 .k1)),(1,.ln .v2 .v1),(1,.tn .v0 .v2)] rfl zz h q)
theorem D0:pre (bp f a (a+1)) (a+1)=pre f a:=by
 show pre (bp f a (a+1)) a+bp f a (a+1) a = _;rw[yt (aC a),qn];rfl
theorem CT:∀k,pre (bp f a (a+1)) (a+2+k)=pre f (a+2+k):=λrr=>ni (by
  show pre (bp f a (a+1)) (a+1)+bp f a (a+1) (a+1)=pre f a+f a+f (a+1);rw[D0,qm (kg a).symm,cb (f (a+1)),<-cq])
 (λk ih=>by
  show pre (bp f a (a+1)) (a+2+k)+bp f a (a+1) (a+2+k) = _;rw[ih,jq (by exact λzz=>fQ [_,_] [] [(1,.en (.a (.a .v0 (.k 2)) .v1) .v0)] rfl zz) (by exact λzz=>fQ [_,_] [] [(1,.en (.a (.a .v0 (.k 2)) .v1) (.a .v0 .k1))] rfl zz)];rfl) rr
structure KP(N:List Int)(n:Nat)(f g:Nat->Nat):Prop where
 sum:pre f n=pre g n
 at_:∀i,i+1<n->N[i+pre f (i+1)]?=N[i+pre g (i+1)]?
theorem KP.refl{N:List Int}:KP N n f f:=⟨rfl,λ_ _=>rfl⟩
theorem KP.trans{N:List Int}{h:Nat->Nat}(p:KP N n f g)(q:KP N n g h):KP N n f h:=⟨p.sum.trans q.sum,λi k=>(p.at_ i k).trans (q.at_ i k)⟩
theorem H7{N:List Int}(hn:b+1<n)(e:N[b+pre f (b+1)]?=N[b+pre f (b+1)+f (b+1)]?):KP N n f (bp f (b+1) b):=by
 refine⟨?_,λi hi=>?_⟩
 ·obtain⟨k,rfl⟩:=bS (show b+2<=n from hn);exact(CU k).symm
 ·rcases BZ i b with h|h|h
  ·rw[yu (show i+1<=b from h)]
  ·subst h;rw[D1,<-cq];exact e
  ·refine bA (bS (show b+2<=i+1 from cK h)) λk hk=>?_;rw[hk,CU]
theorem H0{N:List Int}(hn:a+1<n)(e:N[a+pre f a]?=N[a+pre f (a+1)]?):KP N n f (bp f a (a+1)):=by
 refine⟨?_,λi hi=>?_⟩
 ·obtain⟨k,rfl⟩:=bS (show a+2<=n from hn);exact(CT k).symm
 ·rcases BZ i a with h|h|h
  ·rw[yt (show i+1<=a from h)]
  ·subst h;rw[D0];exact e.symm
  ·refine bA (bS (show a+2<=i+1 from cK h)) λk hk=>?_;rw[hk,CT]
end
noncomputable def gz:Nat->List Bool->List Nat
 |k,[]=>[k]
 |k,b::r=>match b with
  |true=>gz (k+1) r
  |false=>k::gz 0 r
theorem HW:∀(G:List Bool)(k:Nat),gz k G≠[]
 |[],_=>λe=>nc e
 |true::r,k=>HW r (k+1)
 |false::r,k=>λe=>nc e
end
section
theorem UW{C:ax}{J:aj}{Z:ae}{a b c:E}{u v w r:V}(h:Ev C a J Z u)(k:Ev C b J Z v)(m:Ev C c J Z w)(e:oO Z u v w=some r):Ev C (.l a b c) J Z r:=λQ q=>h _ (k _ (m _ (ao e q)))
theorem Fq{C:ax}{J:aj}{Z:ae}{a b e:E}{u v:V}{i j:Int}{rest:List S}{Q:QO}(h:Ev C a J Z u)(k:Ev C b J Z v)(g:eP Z u v=some (.int i))(he:Ev C e J Z (.int j))(q:jw Z u v (.int (i+j)) λZ=>az C rest J Z Q):az C (.aug (.i a b) .add e::rest) J Z Q:=
 h _ (k _ (ao g (he _ (ao rfl q))))
structure ZR(N:List Int)(L:List Ln)(n:Nat)(o:Nat->Nat)where
 m:Nat
 Z:ae
 d:Nat
 z:Nat
 d2:Nat
 z2:Nat
 u:V
 v:V
 l:List V
 hd:Z d=some (.attrs 3 [(11,.list (vI N)),(12,.list (vY L)),(13,.ref z)])
 h2:Z d2=some (.attrs 3 [(11,u),(12,v),(13,.ref z2)])
 hz:Z z=some (.list l)
 ho:Z z2=some (.list (ck n o))
 zz:z2≠z
section
variable{N:List Int}{L:List Ln}{n:Nat}{o f:Nat->Nat}{a b g:Nat}
noncomputable def ZR.T(r:ZR N L n o)(f:Nat->Nat):ae:=ak r.Z r.z (.list (ck n f))
section
variable(r:ZR N L n o)
theorem ZR.at_d:r.T f r.d=some (.attrs 3 [(11,.list (vI N)),(12,.list (vY L)),(13,.ref r.z)]):=(aA (kN r.hd r.hz rfl)).trans r.hd
theorem ZR.at_2:r.T f r.d2=some (.attrs 3 [(11,r.u),(12,r.v),(13,.ref r.z2)]):=(aA (kN r.h2 r.hz rfl)).trans r.h2
theorem ZR.at_z:r.T f r.z=some (.list (ck n f)):=aP ..
theorem ZR.at_o:r.T f r.z2=some (.list (ck n o)):=(aA r.zz).trans r.ho
theorem ZR.set{g:Nat->Nat}:ak (r.T f) r.z (.list (ck n g))=r.T g:=by unfold ZR.T;rw[dX]
theorem ZR.size{C:ax}{J:aj}{e u:E}(he:Ev C e J (r.T f) (.inst 3 r.d))(hu:Ev C u J (r.T f) (nI g))(hg:g<n):Ev C (.i (.a e 13) u) J (r.T f) (nI (f g)):=
 bW (br he (dC r.at_d rfl rfl)) hu (kq r.at_z (kr hg))
theorem ZR.other{C:ax}{J:aj}{e u:E}(he:Ev C e J (r.T f) (.inst 3 r.d2))(hu:Ev C u J (r.T f) (nI g))(hg:g<n):Ev C (.i (.a e 13) u) J (r.T f) (nI (o g)):=
 bW (br he (dC r.at_2 rfl rfl)) hu (kq r.at_o (kr hg))
theorem Om(hg:g<=n):aH (ck n f) 0 g=vI ((jM g).map λj=>((f j:Nat):Int)):=by
 rw[uL];unfold ck;rw[<-Cs,List.take_range,jg hg];show _ = nR V.int (nR _ _);rw[ig];rfl
theorem S5:∀g,cj ((jM g).map λj=>((f j:Nat):Int))=(pre f g:Nat):=by
 intro g;unfold cj;rw[aY,ui];have key:∀k,k<=g->pK (λi=>((jM g).map λj=>((f j:Nat):Int)).getD i 0) k=(pre f k:Nat):=by
  intro k;induction k with
  |zero=>exact λ_=>rfl
  |succ k ih=>
   intro h;show pK _ k+List.getD _ k 0 = _;rw[ih (cL h),fc,cO,Kd h];rfl
 exact key g (aC g)
theorem QD(hg:g<=n){Q:QV}(q:Q (nI (g+pre f g)) (r.T f)):Ph pF (r.m+1) 46 [.inst 3 r.d,nI g] (r.T f) Q:=by
 refine bN (J:=[some (.inst 3 r.d),some (nI g)]) rfl ?_;have e:oO (r.T f) (.ref r.z) .none (nI g)=some (.list (aH (ck n f) 0 g)):=by
  show((cc (r.T f) r.z).bind λl=>(e8 0 .none).bind λi=>(e8 l.length (nI g)).map λj=>V.list (aH l i j)) = _;rw[gU r.at_z];show(e8 (ck n f).length (nI g)).map (λj=>V.list (aH (ck n f) 0 j)) = _;rw[n5];rfl
 have es:Ev (Ph pF r.m) (.l (.a (.x 0) 13) (.c .none) (.x 1)) [some (.inst 3 r.d),some (nI g)] (r.T f) (.list (vI ((jM g).map λj=>((f j:Nat):Int)))):=λQ q=>
  UW (br (aa rfl) (dC r.at_d rfl rfl)) Ev.cn (aa (v:=nI g) rfl) e Q (by rw[Om hg];exact q)
 have s:Ev (Ph pF r.m) (.bi .sum [.l (.a (.x 0) 13) (.c .none) (.x 1)]) [some (.inst 3 r.d),some (nI g)] (r.T f) (nI (pre f g)):=λQ q=>kz (es _ (ao (a:=nI (pre f g)) (by
  show(eN (vI ((jM g).map λj=>((f j:Nat):Int)))).map _ = _;rw[p9];show some (V.int (cj _)) = _;rw[S5]) q))
 exact eF (bh (r:=((g+pre f g:Nat):Int)) (aa rfl) s rfl) (bX q)
theorem zj{J:aj}{e u:E}(he:Ev (Ph pF (r.m+1)) e J (r.T f) (.inst 3 r.d))(hu:Ev (Ph pF (r.m+1)) u J (r.T f) (nI g))(hg:g<=n):Ev (Ph pF (r.m+1)) (.h e 36 [u]) J (r.T f) (nI (g+pre f g)):=λQ q=>
 he _ (ao (cY r.at_d rfl) (hu _ (QD r hg q)))
theorem HA(ha:a<n)(hb:b<n)(ab:a≠b){Q:QV}(q:Q (nI b) (r.T (bp f a b))):Ph pF (r.m+1) 49 [.inst 3 r.d,nI a,nI b] (r.T f) Q:=by
 refine bN (J:=[some (.inst 3 r.d),some (nI a),some (nI b)]) rfl ?_;have s1:Ev (Ph pF r.m) (.a (.x 0) 13) [some (.inst 3 r.d),some (nI a),some (nI b)] (r.T f) (.ref r.z):=br (aa rfl) (dC r.at_d rfl rfl);refine Fq s1 (aa (v:=nI b) rfl) (i:=f b) (j:=f a) (kq r.at_z (kr hb)) (r.size (aa rfl) (aa rfl) ha) ?_;refine u5 (v:=nI (f b+f a)) r.at_z (by rw[jm];exact hb) ?_;rw[zh hb,r.set];refine bM (v:=nI 0) Ev.cn (ve (br (aa rfl) (dC r.at_d rfl rfl)) (aa (v:=nI a) rfl) (u5 r.at_z (by rw[jm];exact ha) ?_));rw[zh ha,r.set];exact eF (aa rfl) (bX q)
end
end
end
section
theorem Uv{f:Nat->Nat}{i:Nat}:∀k,pre f i<=pre f (i+k):=λrr=>ni (aC _)
 (λk ih=>ai (ih) (aL _ _)) rr
def fj(N:List Int)(n:Nat)(f:Nat->Nat):Prop:=N.length+1=n+pre f n
section
variable{N:List Int}{L:List Ln}{n:Nat}{o f:Nat->Nat}{g:Nat}
theorem fj.top(h:fj N n f)(hg:g<n):g+pre f (g+1)<=N.length/\(g+1<n->g+pre f (g+1)<N.length):=by
 obtain⟨k,rfl⟩:=bS (show g+1<=n from hg);have:=Uv (f:=f) (i:=g+1) k;have h:N.length+1=g+1+k+pre f (g+1+k):=h;exact⟨au [_,_,_,_,_] [] (.ln (.a .v0 .v1) .v2) 1 [(1,.ln .v1 .v4),(-1,.en (.a .v2 .k1) (.a (.a (.a .v0 .k1) .v3) .v4))] rfl this h,
  λl=>au [_,_,_,_,_] [] (.tn (.a .v0 .v1) .v2) 1 [(1,.ln .v1 .v4),(-1,.en (.a .v2 .k1) (.a (.a (.a .v0 .k1) .v3) .v4)),(1,.tn (.a .v0 .k1) (.a (.a .v0 .k1) .v3))] rfl this h l⟩
def nv(N:List Int)(f:Nat->Nat)(g:Nat):Prop:=0<g/\N[g+pre f g-1]?=N[g+pre f (g+1)-1]?
def mj(N:List Int)(n:Nat)(f:Nat->Nat)(g:Nat):Prop:=g+1<n/\N[g+pre f g]?=N[g+pre f (g+1)]?
theorem EC{C:ax}{J:aj}{Z:ae}{a b u v:E}{p q:Nat}(ha:Ev C a J Z (.list (vI N)))(hb:Ev C b J Z (.list (vI N)))(hu:Ev C u J Z (nI p))(hv:Ev C v J Z (nI q))(hp:p<N.length)(hq:q<N.length):aI C (.m .eq (.i a u) (.i b v)) J Z (N[p]?=N[q]?):=
 ir (kB (mL ha hu hp) (mL hb hv hq)) (vx hp hq)
theorem VZ(hN:fj N n f)(hg:g<n)(hf:0<f g){t:Bool}(ht:t=true↔nv N f g)(r:ZR N L n o){Q:QV}(q:Q (.bool t) (r.T f)):Ph pF (r.m+2) 47 [.inst 3 r.d,nI g] (r.T f) Q:=by
 refine bN (J:=[some (.inst 3 r.d),some (nI g),none]) rfl (bM (zj r (aa rfl) (aa rfl) (cu hg)) ?_);have top:=(hN.top hg).1;have e1:pre f (g+1)=pre f g+f g:=rfl;have at7:Ev (Ph pF (r.m+1)) (.a (.x 0) 11) [some (.inst 3 r.d),some (nI g),some (nI (g+pre f g))] (r.T f) (.list (vI N)):=br (aa rfl) (dC r.at_d rfl rfl);have tv:aI (Ph pF (r.m+1)) (.o true [.m .gt (.x 1) (.c (.int 0)),.m .eq (.i (.a (.x 0) 11) (.b .sub (.x 2) (.c (.int 1)))) (.i (.a (.x 0) 11) (.b .sub (.b .add (.x 2) (.i (.a (.x 0) 13) (.x 1))) (.c (.int 1))))]) [some (.inst 3 r.d),some (nI g),some (nI (g+pre f g))] (r.T f) (nv N f g):=
  iU (iV (i:=g) (j:=0) (aa rfl) Ev.cn) λh0=>EC at7 at7 (jO (by exact au [_,_] [] (.tn .k0 (.a .v0 .v1)) 1 [(1,.tn .k0 .v0)] rfl h0) (aa rfl)) (jO (x:=g+pre f (g+1)) (by exact au [_,_] [] (.tn .k0 (.a .v0 .v1)) 1 [(1,.tn .k0 .v0)] rfl h0) (bh (i:=((g+pre f g:Nat):Int)) (j:=f g) (aa rfl) (r.size (aa rfl) (aa rfl) hg) (by rw[e1];exact bR [_,_,_] [] (.a (.c (.a .v0 .v1)) .c2) (.c (.a .v0 (.a .v1 .v2))) [] rfl))) (by exact au [_,_,_,_,_,_] [] (.tn .v0 .v1) 1 [(1,.tn .k0 .v2),(1,.ln (.a .v3 .v4) .v1),(-1,.en .v4 (.a .v5 .v2)),(1,.en (.a .v0 .k1) (.a .v3 .v5))] rfl hf top e1 (aZ (au [_,_] [] (.ln .k1 (.a .v0 .v1)) 1 [(1,.tn .k0 .v0)] rfl h0))) (by exact au [_,_,_,_] [] (.tn .v0 .v1) 1 [(1,.ln (.a .v2 .v3) .v1),(1,.en (.a .v0 .k1) (.a .v2 .v3))] rfl top (aZ (au [_,_] [] (.ln .k1 (.a .v0 .v1)) 1 [(1,.tn .k0 .v0)] rfl h0)))
 exact eF (ju tv ht) (bX q)
theorem Vt(hN:fj N n f)(hg:g<n){t:Bool}(ht:t=true↔mj N n f g)(r:ZR N L n o){Q:QV}(q:Q (.bool t) (r.T f)):Ph pF (r.m+2) 48 [.inst 3 r.d,nI g] (r.T f) Q:=by
 refine bN (J:=[some (.inst 3 r.d),some (nI g),none]) rfl (bM (zj r (aa rfl) (aa rfl) (cu hg)) ?_);have e1:pre f (g+1)=pre f g+f g:=rfl;have at7:Ev (Ph pF (r.m+1)) (.a (.x 0) 11) [some (.inst 3 r.d),some (nI g),some (nI (g+pre f g))] (r.T f) (.list (vI N)):=br (aa rfl) (dC r.at_d rfl rfl);have ln:Ev (Ph pF (r.m+1)) (.bi .len [.a (.x 0) 13]) [some (.inst 3 r.d),some (nI g),some (nI (g+pre f g))] (r.T f) (nI n):=λQ q=>qi (br (aa rfl) (dC r.at_d rfl rfl)) r.at_z Q (by rw[jm];exact q);have tv:aI (Ph pF (r.m+1)) (.o true [.m .lt (.b .add (.x 1) (.c (.int 1))) (.bi .len [.a (.x 0) 13]),.m .eq (.i (.a (.x 0) 11) (.x 2)) (.i (.a (.x 0) 11) (.b .add (.x 2) (.i (.a (.x 0) 13) (.x 1))))]) [some (.inst 3 r.d),some (nI g),some (nI (g+pre f g))] (r.T f) (mj N n f g):=
  iU (eY (i:=g+1) (bh (aa rfl) Ev.cn rfl) ln) λh1=>EC at7 at7 (aa rfl) (bh (i:=((g+pre f g:Nat):Int)) (j:=f g) (r:=((g+pre f (g+1):Nat):Int)) (aa rfl) (r.size (aa rfl) (aa rfl) hg) (by rw[e1];exact bR [_,_,_] [] (.a (.c (.a .v0 .v1)) .c2) (.c (.a .v0 (.a .v1 .v2))) [] rfl)) (bC (by rw[e1];exact au [_,_,_] [] (.ln (.a .v0 .v1) (.a .v0 (.a .v1 .v2))) 1 [] rfl) ((hN.top hg).2 h1)) ((hN.top hg).2 h1)
 exact eF (ju tv ht) (bX q)
noncomputable def i8(x:Ln):Bool:=lD (Lw [32,9,10,13,11,12]) (HO (Lw [32,9,10,13,11,12]) x)==[]
def mh(L:List Ln)(f:Nat->Nat)(g:Nat):Prop:=i8 (L.getD (g+pre f (g+1)-1) [])=true
theorem Vl(hN:fj N n f)(hL:L.length=N.length)(hg:g<n)(hf:0<f g){t:Bool}(ht:t=true↔mh L f g)(r:ZR N L n o){Q:QV}(q:Q (.bool t) (r.T f)):Ph pF (r.m+2) 50 [.inst 3 r.d,nI g] (r.T f) Q:=by
 have top:=(hN.top hg).1;have e1:pre f (g+1)=pre f g+f g:=rfl;have lt:g+pre f (g+1)-1<L.length:=by exact au [_,_,_,_,_] [] (.tn .v0 .v1) 1 [(-1,.en .v1 .v2),(1,.ln (.a .v3 .v4) .v2),(1,.en (.a .v0 .k1) (.a .v3 .v4))] rfl hL top (aZ (au [_,_,_,_] [] (.ln .k1 (.a .v0 .v1)) 1 [(1,.tn .k0 .v2),(-1,.en .v1 (.a .v3 .v2))] rfl hf e1))
 have at12:Ev (Ph pF (r.m+1)) (.a (.x 0) 12) [some (.inst 3 r.d),some (nI g),none] (r.T f) (.list (vY L)):=br (aa rfl) (dC r.at_d rfl rfl);have ix:Ev (Ph pF (r.m+1)) (.b .sub (.b .add (.h (.x 0) 36 [.x 1]) (.i (.a (.x 0) 13) (.x 1))) (.c (.int 1))) [some (.inst 3 r.d),some (nI g),none] (r.T f) (nI (g+pre f (g+1)-1)):=
  jO (x:=g+pre f (g+1)) (by exact au [_,_,_,_] [] (.tn .k0 (.a .v0 .v1)) 1 [(1,.tn .k0 .v2),(-1,.en .v1 (.a .v3 .v2))] rfl hf e1) (bh (i:=((g+pre f g:Nat):Int)) (j:=f g) (zj r (aa rfl) (aa rfl) (cu hg)) (r.size (aa rfl) (aa rfl) hg) (by rw[e1];exact bR [_,_,_] [] (.a (.c (.a .v0 .v1)) .c2) (.c (.a .v0 (.a .v1 .v2))) [] rfl))
 refine bN (J:=[some (.inst 3 r.d),some (nI g),none]) rfl (bM (bW (v:=.bytes (L.getD (g+pre f (g+1)-1) [])) at12 ix (jN (by rw[cO,fc,bL lt];rfl))) ?_);refine eF (v:=.bool t) (λQ q=>?_) (bX q);have e:i8 (L.getD (g+pre f (g+1)-1) [])=t:=by
  unfold mh at ht;cases t<;>cases h:i8 (L.getD (g+pre f (g+1)-1) [])<;>simp_all
 rw[<-e]at q;exact⟨rfl,q⟩
end
end
section
structure iN(N:List Int)(n:Nat)(f:Nat->Nat)(g top low:Nat):Prop where
 a:top<=g
 b:g<=low
 c:low<n
 z:∀t,top<=t->t<=low->t≠g->f t=0
 e:∀i,top+i<low->N[top+pre f top+i]?=N[top+pre f top+i+f g]?
structure jY(n:Nat)(f0:Nat->Nat)(g₀:Nat)(f:Nat->Nat)(g:Nat):Prop where
 ex:∃lo hi,(lo<=g₀/\g₀<=hi/\lo<=g/\g<=hi/\hi<n)/\(∀t,lo<=t->t<=hi->t≠g->f t=0)/\∀t,t<lo\/hi<t->f t=f0 t
section
variable{N:List Int}{n:Nat}{f f0:Nat->Nat}{g g₀ b top low:Nat}
theorem QT{u:Nat}:∀k,(∀t,u<=t->t<u+k->f t=0)->pre f (u+k)=pre f u:=λrr=>ni (λ_=>rfl)
 (λk ih h=>by
  show pre f (u+k)+f (u+k) = _;rw[ih λt a b=>h t a (eL b),h (u+k) (aL ..) (bu _)];rfl) rr
theorem iN.pre(h:iN N n f g top low):∀u,top<=u->u<=g->Internal.pre f u=Internal.pre f top:=λu h1 h2=>by
 obtain⟨k,rfl⟩:=bS h1;exact QT k λt p q=>h.z t p (ai (cu (aQ q h2)) h.b) (gQ (aQ q h2))
theorem iN.up(h:iN N n f (b+1) top low)(l:top<b+1):iN N n (bp f (b+1) b) b top low/\KP N n f (bp f (b+1) b)/\bp f (b+1) b b=f (b+1)/\Internal.pre (bp f (b+1) b) top=Internal.pre f top:=by
 have tb:top<=b:=eU l;have fb:f b=0:=h.z b tb (cL h.b) (gQ (bu b));have e1:bp f (b+1) b b=f (b+1):=by rw[qm (kg b),fb,aU]
 have e2:Internal.pre (bp f (b+1) b) top=Internal.pre f top:=yu tb;refine⟨⟨tb,cL h.b,h.c,λt p q r=>?_,λi hi=>by rw[e2,e1];exact h.e i hi⟩,H7 (bC h.b h.c) ?_,e1,e2⟩
 ·by_cases c:t=b+1
  ·rw[c];exact qn
  ·rw[jq c r];exact h.z t p q c
 ·rw[h.pre (b+1) (cu l) (aC _)];obtain⟨i,rfl⟩:=bS tb;rw[dK top i];exact h.e i (aQ (bu _) h.b)
theorem iN.dn(h:iN N n f g top low)(l:g<low):iN N n (bp f g (g+1)) (g+1) top low/\KP N n f (bp f g (g+1))/\bp f g (g+1) (g+1)=f g/\Internal.pre (bp f g (g+1)) top=Internal.pre f top:=by
 have fg:f (g+1)=0:=h.z (g+1) (fv h.a) l (kg g);have e1:bp f g (g+1) (g+1)=f g:=by rw[qm (kg g).symm,fg,aU]
 have e2:Internal.pre (bp f g (g+1)) top=Internal.pre f top:=yt h.a;refine⟨⟨fv h.a,l,h.c,λt p q r=>?_,λi hi=>by rw[e2,e1];exact h.e i hi⟩,H0 (bC l h.c) ?_,e1,e2⟩
 ·by_cases c:t=g
  ·rw[c];exact qn
  ·rw[jq c r];exact h.z t p q c
 ·show N[g+Internal.pre f g]?=N[g+(Internal.pre f g+f g)]?;rw[h.pre g h.a (aC g)];obtain⟨i,rfl⟩:=bS h.a;rw[dK top i,<-cq,dK top i];exact h.e i l
theorem iN.grow(h:iN N n f g top g)(hn:g+1<n)(e:N[g+Internal.pre f g]?=N[g+Internal.pre f (g+1)]?)(z:f (g+1)=0):iN N n f g top (g+1):=by
 refine⟨h.a,eM g,hn,λt p q r=>?_,λi hi=>?_⟩
 ·rcases jf q with q|q
  ·exact h.z t p (eU q) r
  ·rw[q];exact z
 ·rcases jf (eU hi) with q|q
  ·exact h.e i q
  ·have e':N[g+Internal.pre f g]?=N[g+(Internal.pre f g+f g)]?:=e;rw[h.pre g h.a (aC g),<-cq]at e';rw[dK top,q];exact e'
theorem jY.first(hg:g<n):jY n f g f g:=⟨g,g,⟨aC _,aC _,aC _,aC _,hg⟩,λt p q r=>absurd (cX q p) r,λ_ _=>rfl⟩
theorem mP{t lo hi b:Nat}(q:t<lo\/hi<t)(h:lo<=b)(k:b<=hi):t≠b:=λe=>q.elim (λl=>bc.2 h (e▸l)) λl=>bc.2 k (e▸l)
theorem jY.up(h:jY n f0 g₀ f (b+1)):jY n f0 g₀ (bp f (b+1) b) b:=by
 obtain⟨lo,hi,⟨h1,h2,h3,h4,h5⟩,hz,ho⟩:=h;have z:∀t,lo<=t->t<=hi->t≠b->bp f (b+1) b t=0:=λt p q r=>by
  by_cases c:t=b+1
  ·rw[c];exact qn
  ·rw[jq c r];exact hz t p q c
 by_cases c:lo<=b
 ·exact⟨lo,hi,⟨h1,h2,c,cL h4,h5⟩,z,λt q=>(jq (mP q h3 h4) (mP q c (cL h4))).trans (ho t q)⟩
 ·exact⟨b,hi,⟨by exact au [_,_,_] [] (.ln .v0 .v1) 1 [(1,.ln .v2 .v1),(1,.tn .v0 .v2)] rfl h1 (gR.1 c),h2,aC _,cL h4,h5⟩,λt p q r=>z t (ai h3 (hF p (nX r))) q r,λt q=>(jq (mP q (eM b) h4) (mP q (aC b) (cL h4))).trans (ho t (q.imp_left λl=>fK l (gR.1 c)))⟩
theorem jY.dn(h:jY n f0 g₀ f g)(hn:g+1<n):jY n f0 g₀ (bp f g (g+1)) (g+1):=by
 obtain⟨lo,hi,⟨h1,h2,h3,h4,h5⟩,hz,ho⟩:=h;have z:∀t,lo<=t->t<=hi->t≠g+1->bp f g (g+1) t=0:=λt p q r=>by
  by_cases c:t=g
  ·rw[c];exact qn
  ·rw[jq c r];exact hz t p q c
 by_cases c:g+1<=hi
 ·exact⟨lo,hi,⟨h1,h2,fv h3,c,h5⟩,z,λt q=>(jq (mP q h3 h4) (mP q (fv h3) c)).trans (ho t q)⟩
 ·exact⟨lo,g+1,⟨h1,by exact au [_,_,_] [] (.ln .v0 (.a .v1 .k1)) 1 [(1,.ln .v0 .v2),(1,.tn .v2 (.a .v1 .k1))] rfl h2 (gR.1 c),fv h3,aC _,hn⟩,λt p q r=>z t p (ai (eU (hF q r)) h4) r,λt q=>(jq (mP q h3 (eM g)) (mP q (fv h3) (aC _))).trans (ho t (q.imp_right λl=>fK (gR.1 c) l))⟩
theorem jY.behind(h:jY n f0 g₀ f g){t:Nat}(l:g<t)(k:f t≠0):g₀<t/\f t=f0 t:=by
 refine cG h.ex λlo hi pp52_ hz ho=>?_;obtain⟨h1,h2,h3,h4,h5⟩:=pp52_;by_cases c:t<=hi
 ·exact absurd (hz t (ai h3 (cu l)) c (ip l)) k
 ·exact⟨bC h2 (pz c),ho t (.inr (pz c))⟩
theorem Ak:∀{n:Nat},g<n->f g<=pre f n
 |n+1,h=>by
  show f g<=pre f n+f n;rcases jf (eU h) with h|h
  ·exact ai (Ak h) (aL ..)
  ·rw[h];exact df ..
end
end
section
section
variable{N:List Int}{L:List Ln}{n:Nat}{o f f0:Nat->Nat}{g g₀ b size top:Nat}{bs:Int}
noncomputable def ZR.R(r:ZR N L n o)(g size top:Nat)(bs:Int)(v6:Option V):aj:=[some (.inst 3 r.d),some (nI g),some (.inst 3 r.d2),some (nI size),some (nI top),some (.int bs),v6]
noncomputable abbrev ZR.C(r:ZR N L n o):ax:=Ph pF (r.m+2)
noncomputable abbrev kP:S:=.s (.v 1) (.h (.x 0) 39 [.x 1,.b .sub (.x 1) (.c (.int 1))])
noncomputable abbrev m8:S:=.s (.v 1) (.h (.x 0) 39 [.x 1,.b .add (.x 1) (.c (.int 1))])
noncomputable def ZR.at'(r:ZR N L n o)(k:Nat):ZR N L n o:=⟨k,r.Z,r.d,r.z,r.d2,r.z2,r.u,r.v,r.l,r.hd,r.h2,r.hz,r.ho,r.zz⟩
theorem r7{C:ax}{i:Nat}{e:E}{rest:List S}{J:aj}{Z:ae}{Q:QO}(h:WE C e J Z λx Z'=>az C rest (wr J i x) Z' Q):az C (.s (.v i) e::rest) J Z Q:=h
theorem AD{C:ax}{e a b:E}{self u v:V}{m f:Nat}{J:aj}{Z:ae}{Q:QV}(he:Ev C e J Z self)(hm:oj Z self m=some f)(ha:Ev C a J Z u)(hb:Ev C b J Z v)(h:C f [self,u,v] Z Q):WE C (.h e m [a,b]) J Z Q:=he _ (ao hm (ha _ (hb _ h)))
theorem zR(r:ZR N L n o){v6:Option V}(h:b+1<n){rest:List S}{Q:QO}(q:az r.C rest (r.R b size top bs v6) (r.T (bp f (b+1) b)) Q):az r.C (kP::rest) (r.R (b+1) size top bs v6) (r.T f) Q:=
 r7 (AD (u:=nI (b+1)) (v:=nI b) (aa rfl) (cY r.at_d rfl) (aa rfl) (vm (aa rfl)) (HA (r.at' (r.m+1)) h (nF h) (kg b) q))
theorem zQ(r:ZR N L n o){v6:Option V}(h:g+1<n){rest:List S}{Q:QO}(q:az r.C rest (r.R (g+1) size top bs v6) (r.T (bp f g (g+1))) Q):az r.C (m8::rest) (r.R g size top bs v6) (r.T f) Q:=
 r7 (AD (u:=nI g) (v:=nI (g+1)) (aa rfl) (cY r.at_d rfl) (aa rfl) (bh (aa rfl) Ev.cn rfl) (HA (r.at' (r.m+1)) (nF h) h (kg g).symm q))
structure GI(N:List Int)(n:Nat)(f0:Nat->Nat)(g₀:Nat)(f:Nat->Nat)(g:Nat):Prop where
 kp:KP N n f0 f
 vis:jY n f0 g₀ f g
 pos:0<f g
 lt:g<n
theorem GI.fit(h:GI N n f0 g₀ f g)(F:fj N n f0):fj N n f:=by unfold fj at F ⊢;rw[<-h.kp.sum];exact F
theorem VY(h:nv N f (b+1)):N[b+pre f (b+1)]?=N[b+pre f (b+1)+f (b+1)]?:=by
 have e:=h.2;rw[show b+1+pre f (b+1)-1=b+pre f (b+1) by exact bE [_,_,_] [] .v0 (.a .v1 .v2) [(-1,.en (.a .v0 .k1) (.a (.a .v1 .k1) .v2))] rfl (aZ (au [_,_] [] (.ln .k1 (.a (.a .v0 .k1) .v1)) 1 [] rfl)),show b+1+pre f (b+1+1)-1=b+pre f (b+1)+f (b+1) by show b+1+(pre f (b+1)+f (b+1))-1 = _;exact bE [_,_,_,_] [] .v0 (.a (.a .v1 .v2) .v3) [(-1,.en (.a .v0 .k1) (.a (.a .v1 .k1) (.a .v2 .v3)))] rfl (aZ (au [_,_,_] [] (.ln .k1 (.a (.a .v0 .k1) (.a .v1 .v2))) 1 [] rfl))]at e;exact e
theorem GI.up(h:GI N n f0 g₀ f (b+1))(u:nv N f (b+1)):GI N n f0 g₀ (bp f (b+1) b) b/\f (b+1)<=bp f (b+1) b b:=by
 have e:bp f (b+1) b b=f b+f (b+1):=qm (kg b);exact⟨⟨h.kp.trans (H7 h.lt (VY u)),h.vis.up,by rw[e];exact aQ h.pos (df ..),nF h.lt⟩,by rw[e];exact df ..⟩
theorem GI.dn(h:GI N n f0 g₀ f g)(u:mj N n f g):GI N n f0 g₀ (bp f g (g+1)) (g+1)/\bp f g (g+1) (g+1)=f (g+1)+f g:=by
 have e:bp f g (g+1) (g+1)=f (g+1)+f g:=qm (kg g).symm;exact⟨⟨h.kp.trans (H0 u.1 u.2),h.vis.dn u.1,by rw[e];exact aQ h.pos (df ..),u.1⟩,e⟩
theorem A1(p:Prop):∃t:Bool,t=true↔p:=by
 by_cases c:p
 ·exact⟨true,by simp[c]⟩
 ·exact⟨false,by simp[c]⟩
theorem VX(r:ZR N L n o)(F:fj N n f)(hg:g<n)(hf:0<f g){v6:Option V}:aI r.C (.h (.x 0) 37 [.x 1]) (r.R g size top bs v6) (r.T f) (nv N f g):=
 (A1 (nv N f g)).imp λt ht=>⟨ht,λQ q=>ao (cY r.at_d rfl) (VZ F hg hf ht r q)⟩
theorem Vs(r:ZR N L n o)(F:fj N n f)(hg:g<n){v6:Option V}:aI r.C (.h (.x 0) 38 [.x 1]) (r.R g size top bs v6) (r.T f) (mj N n f g):=
 (A1 (mj N n f g)).imp λt ht=>⟨ht,λQ q=>ao (cY r.at_d rfl) (Vt F hg ht r q)⟩
theorem As(r:ZR N L n o)(F:fj N n f)(hL:L.length=N.length)(hg:g<n)(hf:0<f g){v6:Option V}:aI r.C (.h (.x 0) 40 [.x 1]) (r.R g size top bs v6) (r.T f) (mh L f g):=
 (A1 (mh L f g)).imp λt ht=>⟨ht,λQ q=>ao (cY r.at_d rfl) (Vl F hL hg hf ht r q)⟩
theorem Tf(F:fj N n f0)(h:GI N n f0 g₀ f g):∃f' g',GI N n f0 g₀ f' g'/\f g<=f' g'/\¬nv N f' g'/\∀(r:ZR N L n o)(size top:Nat)(bs:Int)v6(Q:QO),Q .next (r.R g' size top bs v6) (r.T f')->WS r.C (.whl (.h (.x 0) 37 [.x 1]) [kP]) (r.R g size top bs v6) (r.T f) Q:=by
 obtain⟨⟨f',g'⟩,⟨h1,h2⟩,h3,run⟩:=fi (C:=λi:ZR N L n o×Nat×Nat×Int×Option V=>i.1.C) (c:=.h (.x 0) 37 [.x 1]) (b:=[kP]) (λi(s:(Nat->Nat)×Nat)(_:Unit)=>i.1.R s.2 i.2.1 i.2.2.1 i.2.2.2.1 i.2.2.2.2) (λi s=>i.1.T s.1)
  (λs=>GI N n f0 g₀ s.1 s.2/\f g<=s.1 s.2) (λs=>s.2) (λs=>nv N s.1 s.2) (λs hs i _=>VX i.1 (hs.1.fit F) hs.1.lt hs.1.pos)
  (λs=>qY (λf'=>nz (λhs ht=>absurd ht.1 (gP 0)) (λb hs ht=>
    have z:=hs.1.up ht
    ⟨(bp f' (b+1) b,b),⟨z.1,ai hs.2 z.2⟩,bu b,λi _ Q q=>zR i.1 hs.1.lt (q () _ (Sub.refl' _))⟩)) s) (f,g) ⟨h,aC _⟩
 exact⟨f',g',h1,h2,h3,λr size top bs v6 Q q=>run (r,size,top,bs,v6) () Q λ_=>q⟩
structure DI(N:List Int)(n:Nat)(o f0:Nat->Nat)(g₀ size top:Nat)(f:Nat->Nat)(g:Nat)(bs:Int):Prop where
 b:GI N n f0 g₀ f g
 tg:top<=g
 ge:size<=f g
 bsd:(bs = -1/\∀t,top<=t->t<=g->o t=0)\/∃t:Nat,bs=t/\top<=t/\t<=g/\0<o t
 fr:size<f g\/(f g=size/\iN N n f g top g/\¬(0<top/\N[top+pre f top-1]?=N[top+pre f top+f g-1]?))
noncomputable abbrev xg:S:=.ite (.m .gt (.i (.a (.x 2) 13) (.x 1)) (.c (.int 0))) [.s (.v 5) (.x 1)] []
theorem uY(r:ZR N L n o)(hg:g<n){v6:Option V}:aI r.C (.m .gt (.i (.a (.x 2) 13) (.x 1)) (.c (.int 0))) (r.R g size top bs v6) (r.T f) (0<o g):=iV (i:=o g) (j:=0) (r.other (aa rfl) (aa rfl) hg) Ev.cn
theorem Rp(h:DI N n o f0 g₀ size top f g bs)(u:mj N n f g):∃bs',DI N n o f0 g₀ size top (bp f g (g+1)) (g+1) bs'/\∀(r:ZR N L n o)v6(Q:QO),Q .next (r.R (g+1) size top bs' v6) (r.T (bp f g (g+1)))->az r.C [m8,xg] (r.R g size top bs v6) (r.T f) Q:=by
 refine aT (h.b.dn u) λz1 z2=>?_;have ge:size<=bp f g (g+1) (g+1):=by rw[z2];exact ai h.ge (df ..)
 have fr:size<bp f g (g+1) (g+1)\/(bp f g (g+1) (g+1)=size/\iN N n (bp f g (g+1)) (g+1) top (g+1)/\¬(0<top/\N[top+pre (bp f g (g+1)) top-1]?=N[top+pre (bp f g (g+1)) top+bp f g (g+1) (g+1)-1]?)):=by
  rcases h.fr with q|⟨q1,q2,q3⟩
  ·exact .inl (by rw[z2];exact aQ q (df ..))
  ·rcases BO (f (g+1)) with c|c
   ·refine nC ((q2.grow u.1 u.2 c).dn (bu g)) λk1 k2 k3 k4=>?_;exact .inr ⟨k3.trans q1,k1,by rw[k4,k3];exact q3⟩
   ·exact .inl (by rw[z2,q1];exact xC c)
 by_cases c:0<o (g+1)
 ·exact⟨((g+1:Nat):Int),⟨z1,fv h.tg,ge,.inr ⟨g+1,rfl,fv h.tg,aC _,c⟩,fr⟩,λr v6 Q q=>zQ r u.1 (aO (dF (uY r u.1) c q))⟩
 ·refine⟨bs,⟨z1,fv h.tg,ge,h.bsd.imp (λw=>⟨w.1,λt a b=>(jf b).elim (λb=>w.2 t a (eU b)) λe=>e▸JC c⟩) λw=>oZ w λt a1 a2 a3 a4=>⟨t,a1,a2,fv a3,a4⟩,fr⟩,λr v6 Q q=>zQ r u.1 (aO (bH (uY r u.1) c q))⟩
theorem Ro(F:fj N n f0)(h:DI N n o f0 g₀ size top f g bs):∃f' g' bs',DI N n o f0 g₀ size top f' g' bs'/\¬mj N n f' g'/\∀(r:ZR N L n o)v6(Q:QO),Q .next (r.R g' size top bs' v6) (r.T f')->WS r.C (.whl (.h (.x 0) 38 [.x 1]) [m8,xg]) (r.R g size top bs v6) (r.T f) Q:=by
 obtain⟨⟨f',g',bs'⟩,h1,h3,run⟩:=fi (C:=λi:ZR N L n o×Option V=>i.1.C) (c:=.h (.x 0) 38 [.x 1]) (b:=[m8,xg]) (λi(s:(Nat->Nat)×Nat×Int)(_:Unit)=>i.1.R s.2.1 size top s.2.2 i.2) (λi s=>i.1.T s.1)
  (λs=>DI N n o f0 g₀ size top s.1 s.2.1 s.2.2) (λs=>n-s.2.1) (λs=>mj N n s.1 s.2.1) (λs hs i _=>Vs i.1 (hs.b.fit F) hs.b.lt)
  (λs=>oW (λf' g' bs' hs ht=>ar (Rp (L:=L) hs ht) λbs2 k1 k2=>
   ⟨(bp f' g' (g'+1),g'+1,bs2),k1,kc hs.b.lt (bu g'),λi _ Q q=>k2 i.1 i.2 Q (q () _ (Sub.refl' _))⟩) s) (f,g,bs) h
 exact⟨f',g',bs',h1,h3,λr v6 Q q=>run (r,v6) () Q λ_=>q⟩
end
end
section
structure Mv(N:List Int)(n:Nat)(f0:Nat->Nat)(g₀ top low x s:Nat)(f:Nat->Nat)(g:Nat):Prop where
 gi:GI N n f0 g₀ f g
 fr:iN N n f g top low
 ex:top+pre f top=x
 es:f g=s
section
variable{N:List Int}{L:List Ln}{n:Nat}{o f f0:Nat->Nat}{g g₀ b size top low x s:Nat}{bs:Int}
theorem Mv.up(h:Mv N n f0 g₀ top low x s f (b+1))(l:top<b+1):Mv N n f0 g₀ top low x s (bp f (b+1) b) b:=by
 refine nC (h.fr.up l) λk1 k2 k3 k4=>?_;exact⟨⟨h.gi.kp.trans k2,h.gi.vis.up,by rw[k3];exact h.gi.pos,nF h.gi.lt⟩,k1,by rw[k4];exact h.ex,k3.trans h.es⟩
theorem Mv.dn(h:Mv N n f0 g₀ top low x s f g)(l:g<low):Mv N n f0 g₀ top low x s (bp f g (g+1)) (g+1):=by
 refine nC (h.fr.dn l) λk1 k2 k3 k4=>?_;have hn:g+1<n:=bC l h.fr.c;exact⟨⟨h.gi.kp.trans k2,h.gi.vis.dn hn,by rw[k3];exact h.gi.pos,hn⟩,k1,by rw[k4];exact h.ex,k3.trans h.es⟩
def Bk(L:List Ln)(top x s t:Nat):Prop:=i8 (L.getD (x+(t-top)+s-1) [])=true
theorem Mv.bl(h:Mv N n f0 g₀ top low x s f g):mh L f g↔Bk L top x s g:=by
 have e:g+pre f (g+1)-1=x+(g-top)+s-1:=congrArg (·-1) (by
  rw[show pre f (g+1)=pre f g+f g from rfl,h.fr.pre g h.fr.a (aC g),h.es,<-h.ex,<-cq,dK top,fu h.fr.a])
 unfold mh Bk;rw[e]
structure oI(N:List Int)(L:List Ln)(n:Nat)(o f0:Nat->Nat)(g₀:Nat)(f:Nat->Nat)(g:Nat):Prop where
 gi:GI N n f0 g₀ f g
 ex:∃top low x s,Mv N n f0 g₀ top low x s f g/\¬(0<top/\N[x-1]?=N[x+s-1]?)/\¬(low+1<n/\N[x+(low-top)]?=N[x+(low-top)+s]?) /\
  ((∃t,top<=t/\t<=low/\0<o t)\/(Bk L top x s g/\∀t,g<t->t<=low->¬Bk L top x s t)\/(g=low/\∀t,top<=t->t<=low->¬Bk L top x s t))
theorem V0{t:Nat}(h:Mv N n f0 g₀ top low x s f g)(ht:top<=t)(tg:t<=g):∃f',Mv N n f0 g₀ top low x s f' t/\∀(r:ZR N L n o)(size:Nat)v6(Q:QO),Q .next (r.R t size top t v6) (r.T f')->WS r.C (.whl (.m .gt (.x 1) (.x 5)) [kP]) (r.R g size top t v6) (r.T f) Q:=by
 obtain⟨⟨f',g'⟩,⟨h1,h2⟩,h3,run⟩:=fi (C:=λi:ZR N L n o×Nat×Option V=>i.1.C) (c:=.m .gt (.x 1) (.x 5)) (b:=[kP]) (λi(w:(Nat->Nat)×Nat)(_:Unit)=>i.1.R w.2 i.2.1 top t i.2.2) (λi w=>i.1.T w.1)
  (λw=>Mv N n f0 g₀ top low x s w.1 w.2/\t<=w.2) (λw=>w.2) (λw=>t<w.2) (λw hw i _=>iV (aa rfl) (aa rfl))
  (λs=>qY (λf'=>nz (λhw hl=>absurd hl (dM t)) (λb hw hl=>⟨(bp f' (b+1) b,b),⟨hw.1.up (bC ht hl),eU hl⟩,bu b,λi _ Q q=>zR i.1 hw.1.gi.lt (q () _ (Sub.refl' _))⟩)) s) (f,g) ⟨h,tg⟩
 have e:g'=t:=cX (bc.1 h3) h2;subst e;exact⟨f',h1,λr size v6 Q q=>run (r,size,v6) () Q λ_=>q⟩
theorem Rq(h:Mv N n f0 g₀ top low x s f g):∃f',Mv N n f0 g₀ top low x s f' low/\∀(r:ZR N L n o)(size:Nat)bs(Q:QO),Q .next (r.R low size top bs (some (nI low))) (r.T f')->WS r.C (.whl (.m .lt (.x 1) (.x 6)) [m8]) (r.R g size top bs (some (nI low))) (r.T f) Q:=by
 obtain⟨⟨f',g'⟩,h1,h3,run⟩:=fi (C:=λi:ZR N L n o×Nat×Int=>i.1.C) (c:=.m .lt (.x 1) (.x 6)) (b:=[m8]) (λi(w:(Nat->Nat)×Nat)(_:Unit)=>i.1.R w.2 i.2.1 top i.2.2 (some (nI low))) (λi w=>i.1.T w.1)
  (λw=>Mv N n f0 g₀ top low x s w.1 w.2) (λw=>low-w.2) (λw=>w.2<low) (λw hw i _=>eY (aa rfl) (aa rfl))
  (λs=>qY (λf' g' hw hl=>⟨(bp f' g' (g'+1),g'+1),hw.dn hl,kc hl (bu g'),λi _ Q q=>zQ i.1 (bC hl hw.fr.c) (q () _ (Sub.refl' _))⟩) s) (f,g) h
 have e:g'=low:=cX h1.fr.b (bc.1 h3);subst e;exact⟨f',h1,λr size bs Q q=>run (r,size,bs) () Q λ_=>q⟩
theorem QL(F:fj N n f0)(hL:L.length=N.length)(h:Mv N n f0 g₀ top low x s f low):∃f' g',Mv N n f0 g₀ top low x s f' g'/\(∀t,g'<t->t<=low->¬Bk L top x s t)/\¬(top<g'/\¬mh L f' g')/\∀(r:ZR N L n o)(size:Nat)bs(Q:QO),Q .next (r.R g' size top bs (some (nI low))) (r.T f') ->
   WS r.C (.whl (.o true [.m .gt (.x 1) (.x 4),.not (.h (.x 0) 40 [.x 1])]) [kP]) (r.R low size top bs (some (nI low))) (r.T f) Q:=by
 obtain⟨⟨f',g'⟩,⟨h1,h2⟩,h3,run⟩:=fi (C:=λi:ZR N L n o×Nat×Int=>i.1.C) (c:=.o true [.m .gt (.x 1) (.x 4),.not (.h (.x 0) 40 [.x 1])]) (b:=[kP]) (λi(w:(Nat->Nat)×Nat)(_:Unit)=>i.1.R w.2 i.2.1 top i.2.2 (some (nI low))) (λi w=>i.1.T w.1)
  (λw=>Mv N n f0 g₀ top low x s w.1 w.2/\∀t,w.2<t->t<=low->¬Bk L top x s t) (λw=>w.2) (λw=>top<w.2/\¬mh L w.1 w.2) (λw hw i _=>iU (iV (aa rfl) (aa rfl)) λ_=>vq (As i.1 (hw.1.gi.fit F) hL hw.1.gi.lt hw.1.gi.pos))
  (λs=>qY (λf'=>nz (λhw hl=>absurd hl.1 (dM top)) (λb hw hl=>⟨(bp f' (b+1) b,b),⟨hw.1.up hl.1,λt p q=>(jf (show b+1<=t from p)).elim (λp=>hw.2 t p q) λe=>e▸λz=>hl.2 (hw.1.bl.2 z)⟩,bu b,λi _ Q q=>zR i.1 hw.1.gi.lt (q () _ (Sub.refl' _))⟩)) s) (f,low) ⟨h,λt p q=>absurd p (bc.2 q)⟩
 exact⟨f',g',h1,h2,h3,λr size bs Q q=>run (r,size,bs) () Q λ_=>q⟩
end
end
section
section
variable{N:List Int}{L:List Ln}{n:Nat}{o f f0:Nat->Nat}{g g₀ size top:Nat}{bs:Int}
structure OI(N:List Int)(n:Nat)(o f0:Nat->Nat)(g₀:Nat)(f:Nat->Nat)(g size top:Nat)(bs:Int):Prop where
 gi:GI N n f0 g₀ f g
 ge:size<=f g
 fin:size≠f g\/(DI N n o f0 g₀ size top f g bs/\¬mj N n f g)
noncomputable abbrev A0:List S:=[.s (.v 3) (.i (.a (.x 0) 13) (.x 1)),.whl (.h (.x 0) 37 [.x 1]) [kP],.s (.v 4) (.x 1),
   .s (.v 5) (.ite (.m .gt (.i (.a (.x 2) 13) (.x 1)) (.c (.int 0))) (.x 1) (.neg (.c (.int 1)))),.whl (.h (.x 0) 38 [.x 1]) [m8,xg]]
theorem Qx(F:fj N n f0)(h:OI N n o f0 g₀ f g size top bs)(hs:size≠f g) :
  ∃f' g' top' bs',OI N n o f0 g₀ f' g' (f g) top' bs'/\(f g=f' g'\/f g<f' g')/\∀(r:ZR N L n o)v6(Q:QO),Q .next (r.R g' (f g) top' bs' v6) (r.T f')->az r.C A0 (r.R g size top bs v6) (r.T f) Q:=by
 refine xq (Tf (L:=L) (o:=o) F h.gi) λf₁ g₁ h1 h2 h3 run1=>?_;have hd:∀b',((b' = -1/\o g₁=0)\/(b'=(g₁:Int)/\0<o g₁))->DI N n o f0 g₀ (f g) g₁ f₁ g₁ b':=λb' hb=>by
  refine⟨h1,aC _,h2,hb.imp (λw=>⟨w.1,λt p q=>cX q p▸w.2⟩) λw=>⟨g₁,w.1,aC _,aC _,w.2⟩,?_⟩;rcases jf h2 with q|q
  ·exact .inl q
  ·refine .inr ⟨q.symm,⟨aC _,aC _,h1.lt,λt p q r=>absurd (cX q p) r,λi hi=>absurd hi (bc.2 (aL ..))⟩,λw=>h3 ⟨w.1,?_⟩⟩;rw[show pre f₁ (g₁+1)=pre f₁ g₁+f₁ g₁ from rfl,<-cq];exact w.2
 have step:∀b',((b' = -1/\o g₁=0)\/(b'=(g₁:Int)/\0<o g₁))->(∀(r:ZR N L n o)v6,Ev r.C (.ite (.m .gt (.i (.a (.x 2) 13) (.x 1)) (.c (.int 0))) (.x 1) (.neg (.c (.int 1)))) (r.R g₁ (f g) g₁ bs v6) (r.T f₁) (.int b')) ->
   ∃f' g' top' bs',OI N n o f0 g₀ f' g' (f g) top' bs'/\(f g=f' g'\/f g<f' g')/\∀(r:ZR N L n o)v6(Q:QO),Q .next (r.R g' (f g) top' bs' v6) (r.T f')->az r.C A0 (r.R g size top bs v6) (r.T f) Q:=λb' hb he=>by
  refine kQ (Ro (L:=L) F (hd b' hb)) λf₂ g₂ b₂ k1 k2 run2=>?_;exact⟨f₂,g₂,g₁,b₂,⟨k1.b,k1.ge,.inr ⟨k1,k2⟩⟩,Nat.eq_or_lt_of_le k1.ge,λr v6 Q q=>bM (r.size (aa rfl) (aa rfl) h.gi.lt) (aO (run1 r (f g) top bs v6 _ (bM (aa rfl) (bM (he r v6) (iX (cD pF _) (run2 r v6 Q q))))))⟩
 by_cases c:0<o g₁
 ·exact step g₁ (.inr ⟨rfl,c⟩) λr v6 Q q=>iY (uY r h1.lt) c (aa (v:=nI g₁) rfl Q q)
 ·exact step (-1) (.inl ⟨rfl,JC c⟩) λr v6 Q q=>iu (uY r h1.lt) c (by exact q)
theorem kE{C:ax}{J:aj}{Z:ae}:Ev C (.neg (.c (.int 1))) J Z (.int (-1)):=λQ q=>q
theorem Sk{p u v:Nat}(le:v<=p)(k:u=v\/u<v):2*(p-v)+(if u=v then 0 else 1)<2*(p-u)+1:=k.elim (λe=>by rw[if_pos e,e];exact bu _)
 λl=>by rw[if_neg (gQ l)];exact uf (Ji (kc (aQ l le) l) (by decide)) 1
theorem Nd(F:fj N n f0)(hL:L.length=N.length)(hg:g₀<n)(hp:0<f0 g₀):∃f' g',oI N L n o f0 g₀ f' g'/\∀(r:ZR N L n o)(Q:QV),Q (nI g') (r.T f')->Ph pF (r.m+3) 52 [.inst 3 r.d,nI g₀,.inst 3 r.d2] (r.T f0) Q:=by
 obtain⟨⟨f,g,size,top,bs⟩,hO,hs,run⟩:=fi (C:=λi:ZR N L n o×Option V=>i.1.C) (c:=.m .ne (.x 3) (.i (.a (.x 0) 13) (.x 1))) (b:=A0) (λi(w:(Nat->Nat)×Nat×Nat×Nat×Int)(_:Unit)=>i.1.R w.2.1 w.2.2.1 w.2.2.2.1 w.2.2.2.2 i.2) (λi w=>i.1.T w.1)
  (λw=>OI N n o f0 g₀ w.1 w.2.1 w.2.2.1 w.2.2.2.1 w.2.2.2.2) (λw=>2*(pre f0 n-w.1 w.2.1)+(if w.2.2.1=w.1 w.2.1 then 0 else 1)) (λw=>w.2.2.1≠w.1 w.2.1)
  (λw hw i _=>ir (qt (aa rfl) (i.1.size (aa rfl) (aa rfl) hw.gi.lt)) (not_congr kX))
  (λs=>XA (λf g size top bs hw hs=>by
   refine XJ (Qx (L:=L) F hw hs) λf' g' top' bs' k1 k2 k3=>?_;refine⟨(f',g',f g,top',bs'),k1,?_,λi _ Q q=>k3 i.1 i.2 Q (q () _ (Sub.refl' _))⟩;have le:=Ak (f:=f') k1.gi.lt;rw[<-k1.gi.kp.sum]at le;have hs:size≠f g:=hs;have k2:f g=f' g'\/f g<f' g':=k2;show 2*(pre f0 n-f' g')+(if f g=f' g' then 0 else 1)<2*(pre f0 n-f g)+(if size=f g then 0 else 1);rw[if_neg hs];exact Sk le k2) s) (f0,g₀,0,g₀,-1) ⟨⟨.refl,.first hg,hp,hg⟩,bJ _,.inl (gQ hp)⟩
 have es:size=f g:=Jl hs;have hO:OI N n o f0 g₀ f g size top bs:=hO;refine aT (hO.fin.resolve_left λn=>n es) λhD hdn=>?_;refine g8 (hD.fr.resolve_left λz=>absurd es (gQ z)) λe1 fr nu=>?_;have mv:Mv N n f0 g₀ top g (top+pre f top) (f g) f g:=⟨hO.gi,fr,rfl,rfl⟩
 have nd:¬(g+1<n/\N[top+pre f top+(g-top)]?=N[top+pre f top+(g-top)+f g]?):=λw=>hdn ⟨w.1,by
  have e2:g+pre f g=top+pre f top+(g-top):=by
   have t1_:=fr.pre g fr.a (aC g);have t2_:=fr.a;exact bE [_,_,_,_,_] [] (.a .v0 .v1) (.a (.a .v2 .v3) .v4) [(-1,.en .v1 .v3),(1,.en (.a .v4 .v2) .v0)] rfl t1_ (aZ t2_)
  rw[show g+pre f (g+1)=g+pre f g+f g from(cq ..).symm,e2];exact w.2⟩
 have first:∀(r:ZR N L n o)(Q:QV),az r.C [.ite (.m .ge (.x 5) (.c (.int 0))) [.whl (.m .gt (.x 1) (.x 5)) [kP],.ret (.x 1)] [],.s (.v 6) (.x 1),.whl (.o true [.m .gt (.x 1) (.x 4),.not (.h (.x 0) 40 [.x 1])]) [kP],
   .ite (.not (.h (.x 0) 40 [.x 1])) [.whl (.m .lt (.x 1) (.x 6)) [m8]] [],.ret (.x 1)] (r.R g size top bs none) (r.T f) (λo _ Z'=>∃v' Z'',Wk (jb o) Z' v' Z''/\Q v' Z'')->Ph pF (r.m+3) 52 [.inst 3 r.d,nI g₀,.inst 3 r.d2] (r.T f0) Q:=λr Q q=>
  bN (J:=[some (.inst 3 r.d),some (nI g₀),some (.inst 3 r.d2),none,none,none,none]) rfl (by
   refine sy (u:=.int 0) (v:=nI g₀) (w:=.int (-1)) (sC Ev.cn (aa rfl) kE) ?_;exact aO (run (r,none) () _ λ_=>q))
 have gev:∀(r:ZR N L n o)f v6,aI r.C (.m .ge (.x 5) (.c (.int 0))) (r.R g size top bs v6) (r.T f) (0<=bs):=λr f v6=>qs (aa rfl) Ev.cn;rcases hD.bsd with⟨hb,hz⟩|⟨t,rfl,t1,t2,t3⟩
 ·refine xq (QL (o:=o) F hL mv) λf₁ g₁ m1 m2 m3 run1=>?_;have nb:¬(0:Int)<=bs:=by rw[hb];decide
  by_cases c:mh L f₁ g₁
  ·exact⟨f₁,g₁,⟨m1.gi,top,g,_,_,m1,nu,nd,.inr (.inl ⟨m1.bl.1 c,m2⟩)⟩,λr Q q=>first r Q (aO (bH (gev r f none) nb (bM (aa rfl) (aO (run1 r size bs _ (aO (bH (vq (As r (m1.gi.fit F) hL m1.gi.lt m1.gi.pos)) (λz=>z c) (eF (aa rfl) (bX q)))))))))⟩
  ·have e:g₁=top:=cX (bc.1 λz=>m3 ⟨z,c⟩) m1.fr.a;refine ar (Rq (L:=L) (o:=o) m1) λf₂ m4 run2=>?_;refine⟨f₂,g,⟨m4.gi,top,g,_,_,m4,nu,nd,.inr (.inr ⟨rfl,λt a b=>?_⟩)⟩,λr Q q=>first r Q (aO (bH (gev r f none) nb (bM (aa rfl) (aO (run1 r size bs _ (aO (dF (vq (As r (m1.gi.fit F) hL m1.gi.lt m1.gi.pos)) c (aO (run2 r size bs _ (eF (aa rfl) (bX q)))))))))))⟩;rcases jf a with a|a
   ·exact m2 t (e▸a) b
   ·exact λz=>c (m1.bl.2 (by
     have z':Bk L top (top+pre f top) (f g) top:=by rw[<-a]at z;exact z
     rw[e];exact z'))
 ·refine ar (V0 (L:=L) (o:=o) mv t1 t2) λf₁ m1 run1=>?_;exact⟨f₁,t,⟨m1.gi,top,g,_,_,m1,nu,nd,.inl ⟨t,t1,t2,t3⟩⟩,λr Q q=>first r Q (aO (dF (gev r f none) (eK t) (aO (run1 r size none _ (eF (aa rfl) (bX q))))))⟩
end
end
section
noncomputable def eI(f:Nat->Nat):Nat->Nat->Nat
 |_,0=>0
 |a,k+1=>(if f a=0 then 0 else 1)+eI f (a+1) k
section
variable{f f':Nat->Nat}
theorem OE:∀(k a:Nat),(∀t,a<=t->f' t≠0->f t≠0)->eI f' a k<=eI f a k:=λrr=>ni (λ_ _=>aC _)
 (λk ih a h=>by
  refine ff ?_ (ih (a+1) λt p=>h t (cL p));by_cases c:f' a=0
  ·rw[if_pos c];exact bJ _
  ·rw[if_neg c,if_neg (h a (aC a) c)];exact aC _) rr
theorem OF:∀(j a k:Nat),eI f (a+j) k<=eI f a (j+k):=λrr=>ni (λa k=>by rw[aU];exact aC _)
 (λj ih a k=>by
  rw[mA j k,<-cH a j];exact ai (ih (a+1) k) (df ..)) rr
theorem OG:∀(j a k:Nat),(∀t,a<=t->t<a+j->f t=0)->eI f a (j+k)=eI f (a+j) k:=λrr=>ni (λa k _=>by rw[aU];rfl)
 (λj ih a k h=>by
  rw[mA j k,<-cH a j];show(if f a=0 then 0 else 1)+eI f (a+1) (j+k) = _;rw[if_pos (h a (aC a) (hE (fh j))),aU];exact ih (a+1) k λt p q=>h t (cL p) (by exact au [_,_,_] [] (.tn .v0 (.a .v1 (.a .v2 .k1))) 1 [(1,.tn .v0 (.a (.a .v1 .k1) .v2))] rfl q)) rr
end
section
variable{N:List Int}{L:List Ln}{n:Nat}{o f f0:Nat->Nat}
theorem QM{f':Nat->Nat}{g g':Nat}(hg:g<n)(hp:0<f g)(h:GI N n f g f' g'):eI f' (g'+1) (n-(g'+1))<eI f g (n-g):=by
 have e:n-g=(n-(g+1))+1:=by exact bE [_,_,_,_] [] .v0 (.a .v1 .k1) [(-1,.en (.a .v0 .v2) .v3),(1,.en (.a .v1 (.a .v2 .k1)) .v3)] rfl (aZ (au [_,_] [] (.ln .v0 .v1) 1 [(1,.tn .v0 .v1)] rfl hg)) (aZ (au [_,_] [] (.ln (.a .v0 .k1) .v1) 1 [(1,.tn .v0 .v1)] rfl hg))
 rw[e];show _<(if f g=0 then 0 else 1)+eI f (g+1) (n-(g+1));rw[if_neg (ip hp),cb 1 (eI f (g+1) (n-(g+1)))];refine px ?_;have mono:∀a,g'<a->∀k,eI f' a k<=eI f a k:=λa ha k=>OE k a λt p z=>by
  have w:=h.vis.behind (aQ ha p) z;rw[<-w.2];exact z
 rcases nM g' g with c|c
 ·obtain⟨j,rfl⟩:=bS (show g'+1<=g from c);have e2:n-(g'+1)=(j+1)+(n-(g'+1+j+1)):=by exact bE [_,_,_,_,_] [] .v0 (.a (.a .v1 .k1) .v2) [(-1,.en (.a .v0 (.a .v3 .k1)) .v4),(1,.en (.a .v2 (.a (.a (.a .v3 .k1) .v1) .k1)) .v4)] rfl (aZ (au [_,_,_] [] (.ln (.a .v0 .k1) .v1) 1 [(1,.tn (.a (.a .v0 .k1) .v2) .v1)] rfl hg)) (aZ (au [_,_,_] [] (.ln (.a (.a (.a .v0 .k1) .v1) .k1) .v2) 1 [(1,.tn (.a (.a .v0 .k1) .v1) .v2)] rfl hg))
  rw[e2,OG (j+1) (g'+1) _ λt p q=>Jl λz=>by
   have w:=(h.vis.behind (aQ (bu g') p) z).1;exact fQ [_,_,_] [] [(1,.tn .v0 (.a (.a .v1 .k1) (.a .v2 .k1))),(1,.tn (.a (.a .v1 .k1) .v2) .v0)] rfl q w]
  exact mono _ (by exact au [_,_] [] (.tn .v0 (.a (.a .v0 .k1) (.a .v1 .k1))) 1 [] rfl) _
 ·obtain⟨j,rfl⟩:=bS c;have l:=h.lt;have e2:n-(g+1)=j+(n-(g+j+1)):=by exact bE [_,_,_,_,_] [] .v0 (.a .v1 .v2) [(-1,.en (.a .v0 (.a .v3 .k1)) .v4),(1,.en (.a .v2 (.a (.a .v3 .v1) .k1)) .v4)] rfl (aZ (au [_,_,_] [] (.ln (.a .v0 .k1) .v1) 1 [(1,.tn (.a .v0 .v2) .v1)] rfl l)) (aZ (au [_,_,_] [] (.ln (.a (.a .v0 .v1) .k1) .v2) 1 [(1,.tn (.a .v0 .v1) .v2)] rfl l))
  rw[e2,dK g j 1];exact ai (mono _ (by exact au [_,_] [] (.tn (.a .v0 .v1) (.a (.a .v0 .k1) .v1)) 1 [] rfl) _) (OF j (g+1) _)
noncomputable def ZR.R2(r:ZR N L n o)(g:Nat):aj:=[some (.inst 3 r.d),some (.inst 3 r.d2),some (nI g)]
theorem D7(F:fj N n f0)(hL:L.length=N.length)(Jaa:Nat->(Nat->Nat)->Prop)(h0:Jaa 0 f0)(skip:∀g f,g<n->Jaa g f->f g=0->Jaa (g+1) f)(set:∀g f f' g',g<n->Jaa g f->0<f g->oI N L n o f g f' g'->Jaa (g'+1) f') :
  ∃f',Jaa n f'/\KP N n f0 f'/\∀(r:ZR N L n o)(Q:QV),Q .none (r.T f')->Ph pF (r.m+4) 53 [.inst 3 r.d,.inst 3 r.d2] (r.T f0) Q:=by
 obtain⟨⟨f',g⟩,⟨hJ,hk,hg⟩,hs,run⟩:=fi (C:=λr:ZR N L n o=>Ph pF (r.m+3)) (c:=.m .lt (.x 2) (.bi .len [.a (.x 0) 13])) (b:=[.ite (.m .gt (.i (.a (.x 0) 13) (.x 2)) (.c (.int 0))) [.s (.v 2) (.h (.x 0) 42 [.x 2,.x 1])] [],.aug (.v 2) .add (.c (.int 1))])
  (λr(w:(Nat->Nat)×Nat)(_:Unit)=>r.R2 w.2) (λr w=>r.T w.1) (λw=>Jaa w.2 w.1/\KP N n f0 w.1/\w.2<=n) (λw=>eI w.1 w.2 (n-w.2)*(n+1)+(n-w.2)) (λw=>w.2<n)
  (λw hw r _=>eY (aa rfl) (λQ q=>qi (br (aa rfl) (dC r.at_d rfl rfl)) r.at_z Q (by rw[jm];exact q)))
  (λs=>qY (λf g hw hl=>by
   refine g8 hw λhJ hk hg=>?_;have hl:g<n:=hl;have F':fj N n f:=by unfold fj at F ⊢;rw[<-show pre f0 n=pre f n from hk.sum];exact F
   have tv:∀r:ZR N L n o,aI (Ph pF (r.m+3)) (.m .gt (.i (.a (.x 0) 13) (.x 2)) (.c (.int 0))) (r.R2 g) (r.T f) (0<f g):=λr=>iV (i:=f g) (j:=0) (r.size (aa rfl) (aa rfl) hl) Ev.cn;rcases BO (f g) with c|c
   ·refine⟨(f,g+1),⟨skip g f hl hJ c,hk,hl⟩,?_,λr _ Q q=>aO (bH (tv r) (bc.2 (dA c)) (q () _ (Sub.refl' _)))⟩;have e:n-g=(n-(g+1))+1:=by exact bE [_,_,_,_] [] .v0 (.a .v1 .k1) [(-1,.en (.a .v0 .v2) .v3),(1,.en (.a .v1 (.a .v2 .k1)) .v3)] rfl (aZ hg) (aZ (au [_,_] [] (.ln (.a .v0 .k1) .v1) 1 [(1,.tn .v0 .v1)] rfl hl))
    have u:eI f g (n-g)=eI f (g+1) (n-(g+1)):=by
     rw[e];show(if f g=0 then 0 else 1)+eI f (g+1) (n-(g+1)) = _;rw[if_pos c,aU]
    show eI f (g+1) (n-(g+1))*(n+1)+(n-(g+1))<eI f g (n-g)*(n+1)+(n-g);rw[u,e];exact bu _
   ·refine g9 (Nd (L:=L) (o:=o) F' hL hl c) λf₁ g₁ k1 k2=>?_;refine⟨(f₁,g₁+1),⟨set g f f₁ g₁ hl hJ c k1,hk.trans k1.gi.kp,k1.gi.lt⟩,?_,λr _ Q q=>aO (dF (tv r) c (r7 (AD (aa rfl) (cY r.at_d rfl) (aa rfl) (aa rfl) (k2 r _ ?_))))⟩
    ·have u:=QM hl c k1.gi;show eI f₁ (g₁+1) (n-(g₁+1))*(n+1)+(n-(g₁+1))<eI f g (n-g)*(n+1)+(n-g);have z:=Nat.mul_le_mul_right (n+1) (show eI f₁ (g₁+1) (n-(g₁+1))+1<=eI f g (n-g) from u);rw[Nat.succ_mul]at z;exact au [_,_,_,_,_,_] [] (.tn (.a .v0 .v1) (.a .v2 .v3)) 1 [(1,.tn .v4 .v5),(1,.ln (.a .v0 (.a .v5 .k1)) .v2),(1,.ln .v1 .v5),(1,.ln .v5 (.a .v3 .v4))] rfl hl z XB cW
    ·exact q () _ (Sub.refl' _)) s) (f0,0) ⟨h0,.refl,bJ n⟩
 have e:g=n:=cX hg (bc.1 hs);subst e;exact⟨f',hJ,hk,λr Q q=>bN (J:=[some (.inst 3 r.d),some (.inst 3 r.d2),none]) rfl (bM (v:=nI 0) Ev.cn (iX (cD pF _) (run r () _ λ_=>bX q)))⟩
end
end
section
noncomputable def iM:List Int->List Bool->List Int
 |[],_=>[]
 |a::A,G=>match G with
  |[]=>[]
  |b::G=>match b with
   |true=>iM A G
   |false=>a::iM A G
noncomputable def fz(s:List Nat):Nat->Nat:=λi=>s.getD i 0
theorem zg(k:Nat)(s:List Nat):∀i,pre (fz (k::s)) (i+1)=k+pre (fz s) i:=λrr=>ni (aU k)
 (λi ih=>by
  show pre (fz (k::s)) (i+1)+fz (k::s) (i+1)=k+(pre (fz s) i+fz s i);rw[ih,cq];rfl) rr
theorem F0:∀(G:List Bool)(A P:List Int),A.length=G.length->∀i,i+1<(gz P.length G).length->(iM A G)[i]?=(P++A)[i+pre (fz (gz P.length G)) (i+1)]?
 :=λG=>li (λA P _ i hi=>absurd hi (by show ¬(i+1<1);exact λzz=>fQ [_] [] [(1,.tn (.a .v0 .k1) .k1)] rfl zz))
 (λb G ih A P=>lz (λh=>absurd h.symm (B7 _)) (λa A=>Ef (motive:=λb=>(a::A).length=(b::G).length->∀i,i+1<(gz P.length (b::G)).length->(iM (a::A) (b::G))[i]?=(P++(a::A))[i+pre (fz (gz P.length (b::G))) (i+1)]?) (λh i hi=>by
  show(a::iM A G)[i]?=(P++a::A)[i+pre (fz (P.length::gz 0 G)) (i+1)]?;rw[zg];cases i with
  |zero=>
   show some a=(P++a::A)[0+(P.length+0)]?;rw[aU,jK,mu (aC _),CE];rfl
  |succ i=>
   have z:=ih A [] (iH h) i (fe hi);show(iM A G)[i]? = _;rw[z,uo,mu (by exact au [_,_,_] [] (.ln .v0 (.a (.a .v1 .k1) (.a .v0 .v2))) 1 [] rfl),show i+1+(P.length+pre (fz (gz 0 G)) (i+1))-P.length=(i+pre (fz (gz 0 G)) (i+1))+1 by exact bE [_,_,_,_] [] .v0 (.a (.a .v1 .v2) .k1) [(-1,.en (.a .v0 .v3) (.a (.a .v1 .k1) (.a .v3 .v2)))] rfl (aZ (au [_,_,_] [] (.ln .v0 (.a (.a .v1 .k1) (.a .v0 .v2))) 1 [] rfl))];rfl)
 (λh i hi=>by
  have z:=ih A (P++[a]) (iH h) i;rw[bB,eT]at z;exact z hi) b) A) G
theorem vT:∀(G:List Bool)(k:Nat),k+G.length+1=(gz k G).length+pre (fz (gz k G)) (gz k G).length
 |[],k=>by show k+0+1=1+(0+k);exact bE [_] [] (.a (.a .v0 .k0) .k1) (.a .k1 (.a .k0 .v0)) [] rfl
 |true::G,k=>by
  have z:=vT G (k+1);show k+(G.length+1)+1=(gz (k+1) G).length+pre (fz (gz (k+1) G)) (gz (k+1) G).length;exact bE [_,_,_,_] [] (.a (.a .v0 (.a .v1 .k1)) .k1) (.a .v2 .v3) [(-1,.en (.a (.a (.a .v0 .k1) .v1) .k1) (.a .v2 .v3))] rfl z
 |false::G,k=>by
  have z:=vT G 0;show k+(G.length+1)+1=(gz 0 G).length+1+pre (fz (k::gz 0 G)) ((gz 0 G).length+1);rw[zg];exact bE [_,_,_,_] [] (.a (.a .v0 (.a .v1 .k1)) .k1) (.a (.a .v2 .k1) (.a .v0 .v3)) [(-1,.en (.a (.a .k0 .v1) .k1) (.a .v2 .v3))] rfl z
theorem uT:∀(G:List Bool)(A:List Int)(k:Nat),A.length=G.length->(iM A G).length+1=(gz k G).length
 :=λG=>li (λA k _=>lz rfl (λ_ _=>rfl) A) (λb G ih A k=>lz (λh=>absurd h.symm (B7 _)) (λa A=>Ef (λh=>congrArg (·+1) (ih A 0 (iH h))) (λh=>ih A (k+1) (iH h)) b) A) G
theorem EN{A B:List Int}{G H:List Bool}(lA:A.length=G.length)(lB:B.length=H.length){x y X Y c d:Nat}(h:bg A B G H x y X Y c d):X=G.length->Y=H.length->iM (A.drop x) (G.drop x)=iM (B.drop y) (H.drop y):=by
 have key:∀{A:List Int}{G:List Bool}{x:Nat}{b:Bool},A.length=G.length->G[x]?=some b->∃a,A[x]?=some a/\iM (A.drop x) (G.drop x)=if b=true then iM (A.drop (x+1)) (G.drop (x+1)) else a::iM (A.drop (x+1)) (G.drop (x+1)):=λ{A G x b}l e=>by
  obtain⟨hx,e⟩:=iQ.1 e;have hA:x<A.length:=l▸hx;refine⟨A[x],bL hA,?_⟩;rw[jI hx,jI hA,e];cases b<;>rfl
 induction h with
 |nil=>rintro rfl rfl;rw[<-lA,kW,<-lB,kW];rfl
 |keep e g k _ ih=>
  intro a b;refine ar (key lA g) λu u1 u2=>?_;refine ar (key lB k) λv v1 v2=>?_;rw[u1,v1]at e;rw[u2,v2,if_neg (by decide),if_neg (by decide),ih a b,dy e]
 |out g _ ih=>
  intro a b;refine ar (key lA g) λu u1 u2=>?_;rw[u2,if_pos rfl];exact ih a b
 |inn k _ ih=>
  intro a b;refine ar (key lB k) λv v1 v2=>?_;rw[v2,if_pos rfl];exact ih a b
noncomputable def bU(f:Nat->Nat)(n:Nat):Nat->List Bool
 |0=>[]
 |k+1=>bU f n k++aR (f k) true++if k+1<n then [false] else []
section
variable{f:Nat->Nat}{n:Nat}
theorem zO:∀k,k<n->(bU f n k).length=k+pre f k:=λrr=>ni (λ_=>rfl)
 (λk ih h=>by
  show(bU f n k++aR (f k) true++if k+1<n then [false] else []).length = _;rw[if_pos h,bB,bB,ih (nF h),dq];show k+pre f k+f k+1=k+1+(pre f k+f k);exact bE [_,_,_] [] (.a (.a (.a .v0 .v1) .v2) .k1) (.a (.a .v0 .k1) (.a .v1 .v2)) [] rfl) rr
theorem vD(h:0<n):(bU f n n).length+1=n+pre f n:=by
 obtain⟨k,rfl⟩:=xA h;rw[aU];show(bU f (k+1) k++aR (f k) true++if k+1<k+1 then [false] else []).length+1 = _;rw[if_neg (gP _),gO,bB,zO k (bu k),dq];show k+pre f k+f k+1=k+1+(pre f k+f k);exact bE [_,_,_] [] (.a (.a (.a .v0 .v1) .v2) .k1) (.a (.a .v0 .k1) (.a .v1 .v2)) [] rfl
theorem zP:∀m k,∃t,bU f n (k+m)=bU f n k++t:=λrr=>ni (λk=>⟨[],(gO _).symm⟩)
 (λm ih k=>(ih k).elim λt h=>⟨t++(aR (f (k+m)) true++if k+m+1<n then [false] else []),by
  show bU f n (k+m)++aR (f (k+m)) true++(if k+m+1<n then [false] else []) = _;rw[h,eT,eT]⟩) rr
theorem sf{k i:Nat}(hk:k<n)(h1:k+pre f k<=i)(h2:i<k+pre f (k+1)):(bU f n n)[i]?=some true:=by
 obtain⟨m,rfl⟩:=bS (show k+1<=n from hk);obtain⟨t,e⟩:=zP (f:=f) (n:=k+1+m) m (k+1);rw[e];have l:=zO (f:=f) k hk;show((bU f (k+1+m) k++aR (f k) true++_)++t)[i]? = _;have h2:i<k+(pre f k+f k):=h2;rw[eT,eT,mu (by exact au [_,_,_,_] [] (.ln .v0 .v1) 1 [(1,.ln (.a .v2 .v3) .v1),(1,.en .v0 (.a .v2 .v3))] rfl h1 l),t5 (by rw[dq];exact au [_,_,_,_,_,_] [] (.tn .v0 .v1) 1 [(-1,.en .v2 (.a .v3 .v4)),(1,.tn .v5 (.a .v3 (.a .v4 .v1))),(1,.en (.a .v0 .v2) .v5)] rfl l h2 (aZ (au [_,_,_,_] [] (.ln .v0 .v1) 1 [(1,.ln (.a .v2 .v3) .v1),(1,.en .v0 (.a .v2 .v3))] rfl h1 l))),pg,if_pos (by exact au [_,_,_,_,_,_] [] (.tn .v0 .v1) 1 [(-1,.en .v2 (.a .v3 .v4)),(1,.tn .v5 (.a .v3 (.a .v4 .v1))),(1,.en (.a .v0 .v2) .v5)] rfl l h2 (aZ (au [_,_,_,_] [] (.ln .v0 .v1) 1 [(1,.ln (.a .v2 .v3) .v1),(1,.en .v0 (.a .v2 .v3))] rfl h1 l)))]
theorem uJ{k:Nat}(hk:k+1<n):(bU f n n)[k+pre f (k+1)]?=some false:=by
 obtain⟨m,rfl⟩:=bS (show k+1<=n from cu hk);obtain⟨t,e⟩:=zP (f:=f) (n:=k+1+m) m (k+1);rw[e];have l:=zO (f:=f) k (nF hk);show((bU f (k+1+m) k++aR (f k) true++if k+1<k+1+m then [false] else [])++t)[k+(pre f k+f k)]? = _;rw[if_pos hk,eT,mu (by rw[bB,dq];exact au [_,_,_,_] [] (.ln (.a .v0 .v1) (.a .v2 (.a .v3 .v1))) 1 [(1,.en .v0 (.a .v2 .v3))] rfl l),bB,dq,show k+(pre f k+f k)-((bU f (k+1+m) k).length+f k)=0 by exact bE [_,_,_,_,_] [] .v0 .k0 [(1,.en .v1 (.a .v2 .v3)),(-1,.en (.a .v0 (.a .v1 .v4)) (.a .v2 (.a .v3 .v4)))] rfl l (aZ (au [_,_,_,_] [] (.ln (.a .v0 .v1) (.a .v2 (.a .v3 .v1))) 1 [(1,.en .v0 (.a .v2 .v3))] rfl l))];rfl
end
theorem PF{A B:List Int}{f h:Nat->Nat}{n:Nat}(F:∀i,i+1<n->A[i+pre f (i+1)]?=B[i+pre h (i+1)]?):∀k,k<n->bg A B (bU f n n) (bU h n n) 0 0 (k+pre f k) (k+pre h k) (pre f k) (pre h k):=λrr=>ni (λ_=>.nil)
 (λk ih hk=>by
  have kn:=nF hk;have z:=((ih kn).append (bg.marks (k:=f k) (l:=h k) (λi a b=>sf kn a (by show i<k+(pre f k+f k);exact au [_,_,_,_] [] (.tn .v0 (.a .v1 (.a .v2 .v3))) 1 [(1,.tn .v0 (.a (.a .v1 .v2) .v3))] rfl b)) λi a b=>sf kn a (by show i<k+(pre h k+h k);exact au [_,_,_,_] [] (.tn .v0 (.a .v1 (.a .v2 .v3))) 1 [(1,.tn .v0 (.a (.a .v1 .v2) .v3))] rfl b))).append
   (.keep (by have w:=F k hk;rw[show k+pre f (k+1)=k+pre f k+f k from(cq ..).symm,show k+pre h (k+1)=k+pre h k+h k from(cq ..).symm]at w;exact w) (by have w:=uJ (f:=f) hk;rw[show k+pre f (k+1)=k+pre f k+f k from(cq ..).symm]at w;exact w) (by have w:=uJ (f:=h) hk;rw[show k+pre h (k+1)=k+pre h k+h k from(cq ..).symm]at w;exact w) .nil)
  rw[aU,aU,cb (f k),cb (h k)]at z;rw[show k+1+pre f (k+1)=k+pre f k+f k+1 by show k+1+(pre f k+f k) = _;exact bE [_,_,_] [] (.a (.a .v0 .k1) (.a .v1 .v2)) (.a (.a (.a .v0 .v1) .v2) .k1) [] rfl,show k+1+pre h (k+1)=k+pre h k+h k+1 by show k+1+(pre h k+h k) = _;exact bE [_,_,_] [] (.a (.a .v0 .k1) (.a .v1 .v2)) (.a (.a (.a .v0 .v1) .v2) .k1) [] rfl];exact z) rr
end
theorem Ol(s:List Nat):s.map nI=ck s.length (fz s):=by
 refine xS λi=>?_;by_cases c:i<s.length
 ·rw[kr c,cO,bL c,fz,fc,bL c];rfl
 ·rw[fH (by rw[aY];exact bc.1 c),fH (by rw[jm];exact bc.1 c)]
theorem z6{C:ax}{e a:E}{g:Nat}{l:List V}{v:V}{rest:List S}{J:aj}{Z:ae}{Q:QO}(he:Ev C e J Z (.ref g))(hg:Z g=some (.list l))(ha:Ev C a J Z v)(hl:l.length<aJ)(q:az C rest J (ak Z g (.list (l++[v]))) Q):az C (.ex (.bm e .append [a])::rest) J Z Q:=
 he _ ⟨iZ hg rfl,ha _ (gc (kx hg hl (ao rfl q)))⟩
theorem Qv{Z:ae}{g:Nat}{l:List V}{u v:V}{Q:ae->Prop}(e:Z g=some (.list (l++[u])))(q:Q (ak Z g (.list (l++[v])))):jw Z (.ref g) (.int (-1)) v Q:=
 ao (a:=g) rfl (ao e (ao (a:=(-1:Int)) rfl (.inr ⟨rfl,λz=>(nc (q8.1 z).2),by
  rw[bB,List.set_append_right _ _ (by show l.length<=l.length+1-1;exact au [_,_] [] (.ln .v0 .v1) 1 [(1,.ln (.a .v0 .k1) (.a .v1 .k1))] rfl cW),show l.length+[u].length-1-l.length=0 by show l.length+1-1-l.length=0;exact bE [_,_,_] [] .v0 .k0 [(-1,.en (.a .v0 .v1) .v2),(-1,.en (.a .v2 .k1) (.a .v1 .k1))] rfl (aZ (au [_,_] [] (.ln .v0 .v1) 1 [(1,.ln (.a .v0 .k1) (.a .v1 .k1))] rfl cW)) (aZ (au [_] [] (.ln .k1 (.a .v0 .k1)) 1 [] rfl))];exact q⟩)))
theorem PX{n d g:Nat}{Z:ae}{N:List Int}{L:List Ln}{G:List Bool}(hd:Z d=none)(hg:Z g=some (.list (vB G)))(hz:G.length<=1000){Q:QV}
  (q:∀z,z≠d->Z z=none->Q .none (ak (ak Z d (.attrs 3 [(11,.list (vI N)),(12,.list (vY L)),(13,.ref z)])) z (.list ((gz 0 G).map nI)))):Ph pF (n+1) 45 [.inst 3 d,.list (vI N),.ref g,.list (vY L)] (ak Z d (.attrs 3 [])) Q:=by
 refine bN rfl (gT (aP ..) rfl (dR rfl) (gT (aP ..) rfl (dR rfl) λz hzz=>?_));have zd:z≠d:=λe=>by rw[e,aP]at hzz;cases hzz
 have z0:Z z=none:=by rw[aA zd,aA zd,aA zd]at hzz;exact hzz
 have gd:g≠d:=λe=>by rw[e,hd]at hg;exact nn hg
 have gz':g≠z:=λe=>by rw[e,z0]at hg;exact nn hg
 refine gT ((aA zd.symm).trans (aP ..)) rfl (dR rfl) ?_;have e0:ak (ak (ak (ak (ak Z d (.attrs 3 [])) d (.attrs 3 (setA [] 11 (.list (vI N))))) d (.attrs 3 (setA (setA [] 11 (.list (vI N))) 12 (.list (vY L))))) z (.list [nI 0])) d (.attrs 3 (setA (setA (setA [] 11 (.list (vI N))) 12 (.list (vY L))) 13 (.ref z)))=ak (ak Z d (.attrs 3 [(11,.list (vI N)),(12,.list (vY L)),(13,.ref z)])) z (.list [nI 0]):=by
  rw[dX,dX,jQ zd,dX];rfl
 show az _ _ _ (ak _ d _) _;refine(congrArg (λs=>az (Ph pF n) [.for (.v 4) (.seq (.x 2)) [.ite (.x 4) [.aug (.i (.a (.x 0) 13) (.neg (.c (.int 1)))) .add (.c (.int 1))] [.ex (.bm (.a (.x 0) 13) .append [.c (.int 0)])]]] [some (.inst 3 d),some (.list (vI N)),some (.ref g),some (.list (vY L)),none] s λo _ Z'=>∃v' Z'',Wk (jb o) Z' v' Z''/\Q v' Z'') e0).mpr ?_;generalize hS:ak Z d (.attrs 3 [(11,.list (vI N)),(12,.list (vY L)),(13,.ref z)])=S at q ⊢
 have dS:S d=some (.attrs 3 [(11,.list (vI N)),(12,.list (vY L)),(13,.ref z)]):=by rw[<-hS];exact aP ..
 have gS:∀m,cc (ak S z m) g=some (vB G):=λm=>gU ((aA gz').trans (by rw[<-hS];exact(aA gd).trans hg));have e1:wO (ak S z (.list [nI 0])) (.ref g)=some (.live g):=by show(cc _ g).map _ = _;rw[gS];rfl
 have aS:∀{m:M}{C:ax}{J:aj},rd J 0=some (.inst 3 d)->Ev C (.a (.x 0) 13) J (ak S z m) (.ref z):=λh=>br (aa h) (dC ((aA zd.symm).trans dS) rfl rfl);refine ao e1 (qI (cD pF _) (l:=G) (f:=V.bool) (λ(_:List Nat×Nat)v4=>[some (.inst 3 d),some (.list (vI N)),some (.ref g),some (.list (vY L)),v4]) (λs=>ak S z (.list (s.1.map nI++[nI s.2]))) (λi s=>gz 0 G=s.1++gz s.2 (G.drop i)/\s.1.length<=i) (λs k i h=>?_) (λi hi s j h=>ao (a:=[some (.inst 3 d),some (.list (vI N)),some (.ref g),some (.list (vY L)),some (.bool G[i])]) rfl λQ qq=>?_) (λs j h=>?_) (s:=([],0)) (j:=none) ⟨rfl,aC _⟩)
 ·show(cc _ g).map _ = _;rw[gS];rfl
 ·have hG:=h.1;rw[jI hi]at hG;have tv:aI (Ph pF n) (.x 4) [some (.inst 3 d),some (.list (vI N)),some (.ref g),some (.list (vY L)),some (.bool G[i])] (ak S z (.list (s.1.map nI++[nI s.2]))) (G[i]=true):=⟨_,sr,aa rfl⟩
  by_cases c:G[i]=true
  ·rw[c]at hG;refine aO (dF tv c (Fq (i:=s.2) (j:=1) (aS rfl) kE (rW (aP ..) (BC ..)) Ev.cn (Qv (aP ..) ?_)));rw[dX];exact qq (s.1,s.2+1) (some (.bool G[i])) ⟨hG,fv h.2⟩
  ·rw[Bool.not_eq_true _ |>.mp c]at hG;refine aO (bH tv c (z6 (v:=.int 0) (aS rfl) (aP ..) Ev.cn ?_ ?_))
   ·rw[bB,aY];exact bC (cK h.2) (bC (Nat.succ_le_of_lt (aQ hi hz)) (by decide))
   ·rw[dX];have z1:=qq (s.1++[s.2],0) (some (.bool G[i])) ⟨by rw[hG,eT];rfl,by rw[bB];exact cK h.2⟩;rw[dw]at z1;exact z1
 ·rw[kW]at h;refine bX ?_;have z1:=q z zd z0;rw[hS,h.1,dw]at z1;exact z1
section
section
variable{N:List Int}{L:List Ln}{n:Nat}{o f:Nat->Nat}
theorem Eh{l m:List V}(h:l.length+m.length<=aJ):tD .add (.list l) (.list m)=some (.list (l++m)):=if_pos h
theorem vS{C:ax}{e c:E}{v:V}{k:Nat}{J:aj}{Z:ae}(he:Ev C e J Z v)(hc:Ev C c J Z (nI k))(hk:k<=1000):Ev C (.rep false [e] c) J Z (.list (aR k v)):=λQ q=>
 he _ (hc _ (ao (a:=(k:Int)) rfl ⟨by rw[hM];show 1*k<=aJ;rw[CN];exact ai hk (by decide),gy.2 (ai hk (by decide)),kj (by decide) (eK k),by rw[hM,Gm];exact q⟩))
theorem HJ(k:Nat)(b:Bool):aR k (V.bool b)=vB (aR k b):=(Kq ..).symm
theorem NL{C:ax}{e:E}{t:T}{b:List S}{J:aj}{Z:ae}{Q:QO}{g:Nat}{l:List V}(he:Ev C e J Z (.ref g))(hg:Z g=some (.list l))(h:∃n,bZ (.enum (.live g)) t (λJ Z Q=>az C b J Z Q) Q n 0 J Z):WS C (.for t (.enum e) b) J Z Q:=
 he _ (ao (a:=IS.live g) (by show(cc Z g).map _ = _;rw[gU hg];rfl) h)
noncomputable abbrev Uj:List S:=[.s (.v 1) (.b .add (.b .add (.x 1) (.rep false [.c (.bool true)] (.x 3))) (.rep false [.c (.bool false)] (.bi .int [.m .lt (.b .add (.x 2) (.c (.int 1))) (.bi .len [.a (.x 0) 13])])))]
theorem Uk(h:n+pre f n<=1000):∀{k},k<=n->(bU f n k).length<=1000:=λ{k}hk=>by
 obtain⟨m,rfl⟩:=bS hk;obtain⟨t,e⟩:=zP (f:=f) (n:=k+m) m k;rcases BO (k+m) with z|z
 ·have:k=0:=by exact cX (au [_,_] [] (.ln .v0 .k0) 1 [(1,.en (.a .v0 .v1) .k0)] rfl z) (au [_] [] (.ln .k0 .v0) 1 [] rfl)
  subst this;exact bJ _
 ·have l:=vD (f:=f) z;rw[e,bB]at l;exact au [_,_,_,_,_] [] (.ln .v0 (.k 1000)) 1 [(1,.ln (.a (.a .v1 .v2) .v3) (.k 1000)),(1,.en (.a (.a .v0 .v4) .k1) (.a (.a .v1 .v2) .v3))] rfl h l
theorem ER(h:n+pre f n<=1000)(r:ZR N L n o){Q:QV}(q:Q (.list (vB (bU f n n))) (r.T f)):Ph pF (r.m+1) 51 [.inst 3 r.d] (r.T f) Q:=by
 obtain⟨s,hs,run⟩:=Ab (C:=λr:ZR N L n o=>Ph pF r.m) (b:=Uj) (t:=.tup [2,3]) (jV 0 (ck n f)) (λr=>.enum (.live r.z)) (λr(s:List Bool)(j:Option V×Option V)=>[some (.inst 3 r.d),some (.list (vB s)),j.1,j.2]) (λr _=>r.T f) (λk s=>s=bU f n k)
  (λr _ k=>by rw[pU,aU];show((cc (r.T f) r.z).map _).map _ = _;rw[gU r.at_z];rfl)
  (λk v s hv hs=>by
   rw[pU,aU]at hv;cases w:(ck n f)[k]? with
   |none=>rw[w]at hv;exact nn hv
   |some x=>
    have hk:k<n:=by have:=(iQ.1 w).1;rw[jm]at this;exact this
    rw[kr hk]at w;injection w with w;subst w
    rw[kr hk]at hv;injection hv with hv;subst hv
    subst hs;refine⟨bU f n (k+1),rfl,λr j Q qq=>?_⟩;have fk:f k<=1000:=ai (Ak hk) (ai (df ..) h);have l1:=Uk h (cu hk);have ln:Ev (Ph pF r.m) (.bi .len [.a (.x 0) 13]) [some (.inst 3 r.d),some (.list (vB (bU f n k))),some (nI k),some (nI (f k))] (r.T f) (nI n):=λQ q=>qi (br (aa rfl) (dC r.at_d rfl rfl)) r.at_z Q (by rw[jm];exact q);have lid':aJ=1048576:=rfl;have e1:Ev (Ph pF r.m) (.b .add (.x 1) (.rep false [.c (.bool true)] (.x 3))) [some (.inst 3 r.d),some (.list (vB (bU f n k))),some (nI k),some (nI (f k))] (r.T f) (.list (vB (bU f n k++aR (f k) true))):=
     fN (aa rfl) (vS Ev.cn (aa rfl) fk) (by rw[Eh (by rw[aY,dq];exact au [_,_,_] [] (.ln (.a .v0 .v1) .v2) 1 [(1,.ln .v1 (.k 1000)),(1,.ln .v0 (.k 1000)),(-1,.en .v2 (.k 1048576))] rfl fk l1 lid'),HJ,<-dw])
    have tv:aI (Ph pF r.m) (.m .lt (.b .add (.x 2) (.c (.int 1))) (.bi .len [.a (.x 0) 13])) [some (.inst 3 r.d),some (.list (vB (bU f n k))),some (nI k),some (nI (f k))] (r.T f) (k+1<n):=eY (i:=k+1) (bh (aa rfl) Ev.cn rfl) ln;have e2:Ev (Ph pF r.m) (.bi .int [.m .lt (.b .add (.x 2) (.c (.int 1))) (.bi .len [.a (.x 0) 13])]) [some (.inst 3 r.d),some (.list (vB (bU f n k))),some (nI k),some (nI (f k))] (r.T f) (nI (if k+1<n then 1 else 0)):=tv.elim λb w Q q=>kz (w.2 _ (by
     cases b with
     |true=>rw[if_pos (w.1.1 rfl)]at q;exact q
     |false=>rw[if_neg (λz=>by have:=w.1.2 z;exact bn this)]at q;exact q))
    refine bM (fN (op:=.add) e1 (vS Ev.cn e2 (by split<;>decide)) (v:=.list (vB (bU f n (k+1)))) ?_) (qq (_,_) _ (Sub.refl' _));rw[Eh (by rw[aY,bB,dq,dq];exact ai (kT (by split<;>decide:_<=1) _) (au [_,_,_] [] (.ln (.a (.a .v0 .v1) .k1) .v2) 1 [(1,.ln .v1 (.k 1000)),(1,.ln .v0 (.k 1000)),(-1,.en .v2 (.k 1048576))] rfl fk l1 lid')),HJ,<-dw];show some (V.list (vB (_++_)))=some (V.list (vB (_++_)))
    congr 4
    split<;>rfl) [] rfl
 rw[yD,jm]at hs;subst hs;refine bN (J:=[some (.inst 3 r.d),none,none,none]) rfl (bM (v:=.list []) (λQ q=>q) ?_);exact aO (NL (br (aa rfl) (dC r.at_d rfl rfl)) r.at_z (run r (none,none) _ λj=>eF (aa rfl) (bX q)))
end
end
noncomputable def tT(p:List Bool×List Bool)(c:Cg):List Bool×List Bool:=(cU p.1 c.1 (c.2.1-c.1),cU p.2 c.2.2.1 (c.2.2.2-c.2.2.1))
noncomputable def lS(cs:List Cg)(p:List Bool×List Bool):List Bool×List Bool:=cs.foldl tT p
theorem y7:∀(cs:List Cg)(p:List Bool×List Bool),(lS cs p).1.length=p.1.length/\(lS cs p).2.length=p.2.length:=λrr=>li (λ_=>⟨rfl,rfl⟩)
 (λc cs ih p=>⟨(ih (tT p c)).1.trans (nV ..),(ih (tT p c)).2.trans (nV ..)⟩) rr
def lV(G:List Bool)(n at':Nat)(cs:List Cg)(lo hi:Cg->Nat):Prop:=∀i,at'<=i->i<n->((∃c,c∈cs/\lo c<=i/\i<hi c)->G[i]?=some true)/\((¬∃c,c∈cs/\lo c<=i/\i<hi c)->G[i]?=some false)
theorem D6{G:List Bool}{x k i:Nat}{b:Bool}(h:G[i]?=some b):(cU G x k)[i]?=some (if x<=i/\i<x+k then true else b):=by
 rw[qd,h];by_cases c:x<=i/\i<x+k
 ·rw[if_pos c,if_pos c];rfl
 ·rw[if_neg c,if_neg c]
theorem ET:∀(cs:List Cg)(p:List Bool×List Bool)(i:Nat)(b b':Bool),(p.1[i]?=some b->(((∃c,c∈cs/\c.1<=i/\i<c.2.1)\/b=true)->(lS cs p).1[i]?=some true)/\(¬((∃c,c∈cs/\c.1<=i/\i<c.2.1)\/b=true)->(lS cs p).1[i]?=some false)) /\
  (p.2[i]?=some b'->(((∃c,c∈cs/\c.2.2.1<=i/\i<c.2.2.2)\/b'=true)->(lS cs p).2[i]?=some true)/\(¬((∃c,c∈cs/\c.2.2.1<=i/\i<c.2.2.2)\/b'=true)->(lS cs p).2[i]?=some false)):=λrr=>li (λp i b b'=>by
  refine⟨λh=>⟨λq=>?_,λq=>?_⟩,λh=>⟨λq=>?_,λq=>?_⟩⟩
  ·rcases q with⟨c,hc,_⟩|q
   ·exact nm hc
   ·rw[<-q];exact h
  ·cases b
   ·exact h
   ·exact absurd (.inr rfl) q
  ·rcases q with⟨c,hc,_⟩|q
   ·exact nm hc
   ·rw[<-q];exact h
  ·cases b'
   ·exact h
   ·exact absurd (.inr rfl) q)
 (λc cs ih₁ p i b b'=>by
  have ih:=ih₁ (tT p c) i (if c.1<=i/\i<c.1+(c.2.1-c.1) then true else b) (if c.2.2.1<=i/\i<c.2.2.1+(c.2.2.2-c.2.2.1) then true else b');have key:∀(lo hi:Cg->Nat)(b:Bool),((∃d,d∈c::cs/\lo d<=i/\i<hi d)\/b=true)↔((∃d,d∈cs/\lo d<=i/\i<hi d)\/(if lo c<=i/\i<lo c+(hi c-lo c) then true else b)=true):=λlo hi b=>by
   by_cases q:lo c<=i/\i<lo c+(hi c-lo c)
   ·rw[if_pos q];exact⟨λ_=>.inr rfl,λ_=>.inl ⟨c,fI,q.1,pz λz=>gP _ (aQ (Nat.sub_lt_left_of_lt_add q.1 q.2) (rn z _))⟩⟩
   ·rw[if_neg q];refine⟨λh=>h.imp (λz_=>ar z_ λd d1 d2=>?_) id,λh=>h.imp (λz_=>ar z_ λd d1 d2=>⟨d,ka _ d1,d2⟩) id⟩;rcases cp.1 d1 with e|d1
    ·subst e;exact absurd ⟨d2.1,by exact au [_,_,_,_] [] (.tn .v0 (.a .v1 .v2)) 1 [(1,.tn .v0 .v3),(1,.ln .v3 (.a .v2 .v1))] rfl d2.2 cW⟩ q
    ·exact⟨d,d1,d2⟩
  refine⟨λh=>?_,λh=>?_⟩
  ·have z:=ih.1 (D6 h);rw[key (λc=>c.1) (λc=>c.2.1) b];exact z
  ·have z:=ih.2 (D6 h);rw[key (λc=>c.2.2.1) (λc=>c.2.2.2) b'];exact z) rr
theorem FC(cs:List Cg)(n m:Nat):lV (lS cs (aR n false,aR m false)).1 n 0 cs (λc=>c.1) (λc=>c.2.1)/\lV (lS cs (aR n false,aR m false)).2 m 0 cs (λc=>c.2.2.1) (λc=>c.2.2.2):=by
 refine⟨λi _ hi=>?_,λi _ hi=>?_⟩
 ·have z:=(ET cs (aR n false,aR m false) i false false).1 (vJ hi);exact⟨λq=>z.1 (.inl q),λq=>z.2 λw=>w.elim q λe=>bn e⟩
 ·have z:=(ET cs (aR n false,aR m false) i false false).2 (vJ hi);exact⟨λq=>z.1 (.inl q),λq=>z.2 λw=>w.elim q λe=>bn e⟩
theorem Hr{a b:List Ln}:∀{cs:List Cg}{fst:Bool}{at' to:Nat},ee a b fst at' to cs->∀c,c∈cs->at'<=c.1/\to<=c.2.2.1/\c.1<=c.2.1/\c.2.2.1<=c.2.2.2/\c.2.1<=a.length/\c.2.2.2<=b.length:=λ{rr}=>@(li (λ{_}{_}{_}_ _ h=>nm h)
 (λc cs ih{fst}{at'}{to}h d hd=>(cp.1 hd).elim (λe=>by rw[e];exact⟨h.1.l,h.1.yy,h.1.o,h.1.i,h.1.ha,h.1.hb⟩) λhd=>
  have z:=ih h.2 d hd
  ⟨ai h.1.l (ai h.1.o z.1),ai h.1.yy (ai h.1.i z.2.1),z.2.2⟩) rr)
theorem PZ{a b:List Ln}{i j:Nat}(h:a[i]?=b[j]?):(nA a b)[i]?=(nB a b)[j]?:=by
 unfold nA nB iD;rw[cO,cO,h]
theorem EX{α:Type}{l:List α}{i j t:Nat}(h:i+t<j):(aH l i j)[t]?=l[i+t]?:=by
 unfold aH;rw[Kn,List.getElem?_take_of_lt h]
theorem Et{G:List Bool}{n x y:Nat}{c:Cg}{cs:List Cg}{lo hi:Cg->Nat}(h:lV G n x (c::cs) lo hi)(le:x<=y)(hc:hi c<=y):lV G n y cs lo hi:=λi p q=>by
 have z:=h i (ai le p) q;refine⟨λw=>z.1 (w.imp λd d1=>⟨ka _ d1.1,d1.2⟩),λw=>z.2 λv=>v.elim λd d1=>?_⟩;exact(cp.1 d1.1).elim (λe=>absurd (aQ (e▸d1.2.2) hc) (bc.2 p)) λk=>w ⟨d,k,d1.2⟩
theorem Es{G:List Bool}{n x i:Nat}{cs:List Cg}{lo hi:Cg->Nat}(h:lV G n x cs lo hi)(hx:x<=i)(hn:i<n)(k:∀c,c∈cs->i<lo c):G[i]?=some false:=(h i hx hn).2 λw=>w.elim λc hc=>absurd (k c hc.1) (bc.2 hc.2.1)
theorem E1{a b:List Ln}{G H:List Bool}{x y t:Nat}{cs:List Cg}(cg:lV G a.length x cs (λc=>c.1) (λc=>c.2.1))(ch:lV H b.length y cs (λc=>c.2.2.1) (λc=>c.2.2.2))(ha:x+t<=a.length)(hb:y+t<=b.length)(e:aH a x (x+t)=aH b y (y+t))
  (k:∀c,c∈cs->x+t<=c.1/\y+t<=c.2.2.1):bg (nA a b) (nB a b) G H x y (x+t) (y+t) 0 0:=bg.run (λ_ _=>trivial) λi hi=>by
 have e:(aH a x (x+t))[i]?=(aH b y (y+t))[i]?:=congrArg (λl:List Ln=>l[i]?) e;have xi:=eE hi x;have yi:=eE hi y;rw[EX xi,EX yi]at e;exact⟨PZ e,Es cg (aL ..) (aQ xi ha) λc hc=>aQ xi (k c hc).1,Es ch (aL ..) (aQ yi hb) λc hc=>aQ yi (k c hc).2⟩
theorem F5{a b:List Ln}{G H:List Bool}:∀{cs:List Cg}{fst:Bool}{x y:Nat},ee a b fst x y cs->x<=a.length->y<=b.length->lV G a.length x cs (λc=>c.1) (λc=>c.2.1)->lV H b.length y cs (λc=>c.2.2.1) (λc=>c.2.2.2)->∃c d,bg (nA a b) (nB a b) G H x y a.length b.length c d/\(c:Int)=cj (cs.map gq)/\(d:Int)=cj (cs.map fF):=λ{rr}=>@(li (λ{fst}{x}{y}h ha hb cg ch=>by
  have h:a.drop x=b.drop y:=h;have l:=congrArg rM h;rw[hU,hU]at l;have ea:x+(a.length-x)=a.length:=fu ha;have eb:y+(a.length-x)=b.length:=by rw[l];exact fu hb
  have z:=E1 (t:=a.length-x) cg ch (dA ea) (dA eb) (by rw[ea,eb,u0,u0];exact h) λc hc=>nm hc;rw[ea,eb]at z;exact⟨0,0,z,rfl,rfl⟩)
 (λc cs ih{fst}{x}{y}h ha hb cg ch=>by
  have ge:=Hr h.2;have l:=h.1.l;have o:=h.1.o;have i:=h.1.i;refine bA (bS l) λt e1=>?_;have e2:c.2.2.1=y+t:=bE [_,_,_,_,_] [] .v0 (.a .v1 .v2) [(1,.en (.a .v1 .v3) (.a .v4 .v0)),(-1,.en .v3 (.a .v4 .v2))] rfl h.1.m e1;have p:=h.1.p;rw[e1,e2]at p;have r1:=E1 cg ch (e1▸ai o h.1.ha) (e2▸ai i h.1.hb) p λd hd=>(cp.1 hd).elim (λe=>by rw[e,e1,e2];exact⟨aC _,aC _⟩) λhd=>⟨e1▸ai o (ge d hd).1,e2▸ai i (ge d hd).2.1⟩
  rw[<-e1,<-e2]at r1;have r2:bg (nA a b) (nB a b) G H c.1 c.2.2.1 (c.1+(c.2.1-c.1)) (c.2.2.1+(c.2.2.2-c.2.2.1)) (c.2.1-c.1) (c.2.2.2-c.2.2.1):=bg.marks
   (λj p q=>(cg j (ai l p) (aQ q (by rw[fu o];exact h.1.ha))).1 ⟨c,fI,p,by rw[fu o]at q;exact q⟩)
   λj p q=>(ch j (ai h.1.yy p) (aQ q (by rw[fu i];exact h.1.hb))).1 ⟨c,fI,p,by rw[fu i]at q;exact q⟩
  rw[fu o,fu i]at r2;refine cG (ih h.2 h.1.ha h.1.hb (Et cg (ai l o) (aC _)) (Et ch (ai h.1.yy i) (aC _))) λm n r3 f1 f2=>?_;refine⟨_,_,(r1.append r2).append r3,?_,?_⟩
  ·rw[gx,jP,<-f1,gq,<-jh o,<-hV];exact congrArg gB (cb ..)
  ·rw[gx,jP,<-f2,fF,<-jh i,<-hV];exact congrArg gB (cb ..)) rr)
section
section
variable{a b:List Ln}{cs:List Cg}
noncomputable abbrev jH(l:List Ln):List Bool:=aR l.length false
noncomputable abbrev bP(a b:List Ln)(cs:List Cg):List Bool×List Bool:=lS cs (jH a,jH b)
theorem Ot(hc:∀c,c∈cs->c.1<=c.2.1/\c.2.2.1<=c.2.2.2/\c.2.1<=a.length/\c.2.2.2<=b.length)(ha:a.length<=400)(hb:b.length<=400){n:Nat}{s:Sh}{Z:ae}(hs:gF s (jH a) (jH b) Z){va vb v4 v5 v6:Option V}{Q:QO}
  (q:∀v4,Q .next [some (.list (cs.map aV)),va,vb,some (.inst 2 s.d),v4,v5,v6] (ak (ak Z s.g (.list (vB (bP a b cs).1))) s.h (.list (vB (bP a b cs).2)))) :
  WS (Ph pF (n+1)) (.for (.v 4) (.seq (.x 0)) [.ex (.h (.x 3) 27 [.h (.x 4) 22 []])]) [some (.list (cs.map aV)),va,vb,some (.inst 2 s.d),v4,v5,v6] Z Q:=by
 have same:∀{Z:ae}{g:Nat}{m:M},Z g=some m->ak Z g m=Z:=λ{Z g m}h=>funext λc=>by
  by_cases e:c=g
  ·rw[e,aP,h]
  ·exact aA e
 have e0:ak (ak Z s.g (.list (vB (jH a)))) s.h (.list (vB (jH b)))=Z:=by rw[same hs.at_g,same hs.at_h]
 refine n9 (aa rfl) (qj (l:=cs.map aV) (mF (cD pF _) _) (λq J Z'=>(∃v4,J=[some (.list (cs.map aV)),va,vb,some (.inst 2 s.d),v4,v5,v6])/\Z'=ak (ak Z s.g (.list (vB (bP a b (cs.take q)).1))) s.h (.list (vB (bP a b (cs.take q)).2))) ⟨⟨v4,rfl⟩,e0.symm⟩ (λ_ _ _ _=>rfl) ?_ ?_)
 ·intro i v J Z' hv zz;refine aT zz λz e'=>bA z λv4 e=>?_;clear zz z;subst e;subst e';rw[cO]at hv;cases w:cs[i]? with
  |none=>rw[w]at hv;exact nn hv
  |some c=>
   rw[w]at hv;injection hv with hv;subst hv
   have hcm:=hc c (BD w);have tk:cs.take (i+1)=cs.take i++[c]:=by rw[xT,w];rfl
   have st:bP a b (cs.take (i+1))=tT (bP a b (cs.take i)) c:=by rw[tk];exact BV ..
   have ln:=y7 (cs.take i) (jH a,jH b);rw[jr,jr]at ln;have sh:gF s (bP a b (cs.take i)).1 (bP a b (cs.take i)).2 (ak (ak Z s.g (.list (vB (bP a b (cs.take i)).1))) s.h (.list (vB (bP a b (cs.take i)).2))):=pO hs;refine ao rfl (ao (cY sh.at_d rfl) (ao rfl (Us (n:=n) (w:=c.1) (x:=c.2.1) (y:=c.2.2.1) (z:=c.2.2.2) ?_)));refine bA (bS hcm.1) λk hk=>?_;refine bA (bS hcm.2.1) λl hl=>?_;have e:V.tup [.int c.1,.int c.2.1,.int c.2.2.1,.int c.2.2.2]=pt c.1 (c.1+k) c.2.2.1 (c.2.2.1+l):=by rw[<-hk,<-hl]
   show Ph pF (n+1) 36 [.inst 2 s.d,.tup [.int c.1,.int c.2.1,.int c.2.2.1,.int c.2.2.2]] _ _;rw[e];refine mark sh (by rw[ln.1,<-hk];exact hcm.2.2.1) (by rw[ln.2,<-hl];exact hcm.2.2.2) (by rw[ln.1];exact ai ha (by decide)) (by rw[ln.2];exact ai hb (by decide)) (ao rfl ⟨_,Sub.refl' _,⟨_,rfl⟩,?_⟩);rw[st,jQ hs.gh.symm,dX,dX];show _ = ak (ak Z s.g (.list (vB (cU _ c.1 (c.2.1-c.1))))) s.h (.list (vB (cU _ c.2.2.1 (c.2.2.2-c.2.2.1))));rw[show c.2.1-c.1=k by exact bE [_,_,_,_] [] .v0 .v1 [(-1,.en .v2 (.a .v3 .v1)),(-1,.en (.a .v0 .v3) .v2)] rfl hk (aZ hcm.1),show c.2.2.2-c.2.2.1=l by exact bE [_,_,_,_] [] .v0 .v1 [(-1,.en .v2 (.a .v3 .v1)),(-1,.en (.a .v0 .v3) .v2)] rfl hl (aZ hcm.2.1)]
 ·intro J Z' zz;refine aT zz λz e'=>bA z λv4 e=>?_;clear zz z;subst e;subst e';rw[aY,nH];exact q v4
end
end
section
theorem u9{Z:ae}{g:Nat}{m:M}(h:Z g=some m):ak Z g m=Z:=funext λc=>by
 by_cases e:c=g
 ·rw[e,aP,h]
 ·exact aA e
theorem Sub.trans'{Z Z' Z'':ae}(h:Sub Z Z')(k:Sub Z' Z''):Sub Z Z'':=λc m e=>k c m (h c m e)
theorem sJ{Z:ae}{c:Nat}{m:M}(h:Z c=none):Sub Z (ak Z c m):=λx m' e=>(aA λz=>by rw[z,h]at e;exact nn e).trans e
section
variable{a b:List Ln}{cs:List Cg}
noncomputable abbrev aM(G:List Bool):Nat:=(gz 0 G).length
noncomputable abbrev fP(G:List Bool):Nat->Nat:=fz (gz 0 G)
theorem Wm{C:ax}{frz:Bool}{c:Nat}{e1 e2 e3:E}{u v w:V}{J:aj}{Z:ae}{Q:QV}(h1:Ev C e1 J Z u)(h2:Ev C e2 J Z v)(h3:Ev C e3 J Z w)(h:∀d,Z d=none->C (initF c) [.inst c d,u,v,w] (ak Z d (.attrs c [])) λr Z=>lP frz c d r Z Q):WE C (.new frz c [e1,e2,e3]) J Z Q:=h1 _ (h2 _ (h3 _ h))
theorem Wl{C:ax}{frz:Bool}{c:Nat}{e1 e2:E}{u v:V}{J:aj}{Z:ae}{Q:QV}(h1:Ev C e1 J Z u)(h2:Ev C e2 J Z v)(h:∀d,Z d=none->C (initF c) [.inst c d,u,v] (ak Z d (.attrs c [])) λr Z=>lP frz c d r Z Q):WE C (.new frz c [e1,e2]) J Z Q:=h1 _ (h2 _ h)
theorem Ia{C:ax}{e a:E}{self u:V}{m f:Nat}{rest:List S}{J:aj}{Z:ae}{Q:QO}(he:Ev C e J Z self)(hm:oj Z self m=some f)(ha:Ev C a J Z u)(h:C f [self,u] Z λv Z=>aK (mc v) λ_=>az C rest J Z Q):az C (.ex (.h e m [a])::rest) J Z Q:=he _ (ao hm (ha _ h))
theorem Em{C:ax}{e:E}{self:V}{m f:Nat}{t:Tg}{rest:List S}{J:aj}{Z:ae}{Q:QO}(he:Ev C e J Z self)(hm:oj Z self m=some f)(h:C f [self] Z λx Z=>jC C t x J Z λJ Z=>az C rest J Z Q):az C (.s t (.h e m [])::rest) J Z Q:=he _ (ao hm h)
theorem yU{C:ax}{e:E}{c d:Nat}{fs:List (bG×V)}{n:bG}{x:V}{J:aj}{Z:ae}{Q:aj->ae->Prop}(he:Ev C e J Z (.inst c d))(hd:Z d=some (.attrs c fs))(hn:(dH c).contains n=true)(hl:fs.length<=100)(q:Q J (ak Z d (.attrs c (setA fs n x)))):jC C (.a e n) x J Z Q:=he _ (gT hd hn hl q)
theorem ED{n g i:Nat}{at1 kK:bG}{v1:Nat}{Z:ae}{J:aj}{N:List Int}{L:List Ln}{G:List Bool}{rest:List S}{Q:QO}(hg:Z g=some (.list (vB G)))(hz:G.length<=1000)
  (h1:Ev (Ph pF (n+1)) (.a (.x 3) at1) J Z (.list (vI N))) (h2:Ev (Ph pF (n+1)) (.a (.x 3) kK) J Z (.ref g)) (h3:Ev (Ph pF (n+1)) (.x v1) J Z (.list (vY L)))
  (q:∀d z Z',Z d=none->Z z=none->z≠d->Sub Z Z'->Z' d=some (.attrs 3 [(11,.list (vI N)),(12,.list (vY L)),(13,.ref z)])->Z' z=some (.list (ck (aM G) (fP G)))->az (Ph pF (n+1)) rest (wr J i (.inst 3 d)) Z' Q) :
  az (Ph pF (n+1)) (.s (.v i) (.new false 3 [.a (.x 3) at1,.a (.x 3) kK,.x v1])::rest) J Z Q:=
 r7 (Wm h1 h2 h3 λd hd=>PX hd hg hz λz zd hzz=>ao rfl (q d z _ hd hzz zd (Sub.trans' (sJ hd) (sJ ((aA zd).trans hzz))) ((aA zd.symm).trans (aP ..)) ((aP ..).trans (congrArg (λl=>some (M.list l)) (Ol _)))))
theorem yS(hl:ee a b true 0 0 cs)(ha:a.length<=400)(hb:b.length<=400)(Jaa:Nat->(Nat->Nat)->Prop)(Jaa':(Nat->Nat)->Nat->(Nat->Nat)->Prop)
  (j0:Jaa 0 (fP (bP a b cs).1)) (jk:∀g f,g<aM (bP a b cs).1->Jaa g f->f g=0->Jaa (g+1) f) (js:∀g f f' g',g<aM (bP a b cs).1->Jaa g f->0<f g->oI (nA a b) a (aM (bP a b cs).1) (fP (bP a b cs).2) f g f' g'->Jaa (g'+1) f')
  (k0:∀o,Jaa' o 0 (fP (bP a b cs).2)) (kk:∀o g f,g<aM (bP a b cs).1->Jaa' o g f->f g=0->Jaa' o (g+1) f) (ks:∀o,Jaa (aM (bP a b cs).1) o->∀g f f' g',g<aM (bP a b cs).1->Jaa' o g f->0<f g->oI (nB a b) b (aM (bP a b cs).1) o f g f' g'->Jaa' o (g'+1) f') :
  ∃f h cs',Jaa (aM (bP a b cs).1) f/\Jaa' f (aM (bP a b cs).1) h/\KP (nA a b) (aM (bP a b cs).1) (fP (bP a b cs).1) f/\KP (nB a b) (aM (bP a b cs).1) (fP (bP a b cs).2) h /\
   gm a b cs' (bU f (aM (bP a b cs).1) (aM (bP a b cs).1)) (bU h (aM (bP a b cs).1) (aM (bP a b cs).1)) (pre (fP (bP a b cs).1) (aM (bP a b cs).1)) (pre (fP (bP a b cs).2) (aM (bP a b cs).1)) /\
   ∀n Z(Q:QV),Q (.list (cs'.map aV)) Z->Ph pF (n+5) 8 [.list (cs.map aV),.list (vY a),.list (vY b)] Z Q:=by
 have ge:=Hr hl;refine aT (FC cs a.length b.length) λcg ch=>?_;refine cG (F5 hl (bJ _) (bJ _) cg ch) λc d lay _ _=>?_;have ln:=y7 cs (jH a,jH b);rw[jr,jr]at ln;generalize hG:(bP a b cs).1=G at *
 generalize hH:(bP a b cs).2=H at *
 have lG:G.length=a.length:=ln.1;have lH:H.length=b.length:=ln.2;have kl:=EN ((dY a b).trans lG.symm) ((d7 a b).trans lH.symm) lay lG.symm lH.symm;have k1:=uT G (nA a b) 0 ((dY a b).trans lG.symm);have k2:=uT H (nB a b) 0 ((d7 a b).trans lH.symm);have kl:iM (nA a b) G=iM (nB a b) H:=kl;have nn:aM H=aM G:=by show(gz 0 H).length=(gz 0 G).length;rw[<-k1,<-k2,kl]
 have f1:0+G.length+1=aM G+pre (fP G) (aM G):=vT G 0;have f2:0+H.length+1=aM H+pre (fP H) (aM H):=vT H 0;have FA:fj (nA a b) (aM G) (fP G):=by show(nA a b).length+1 = _;rw[dY,<-lG];exact bE [_,_,_] [] (.a .v0 .k1) (.a .v1 .v2) [(-1,.en (.a (.a .k0 .v0) .k1) (.a .v1 .v2))] rfl f1
 have FB:fj (nB a b) (aM G) (fP H):=by show(nB a b).length+1=aM G+pre (fP H) (aM G);rw[d7,<-lH,<-nn];exact bE [_,_,_] [] (.a .v0 .k1) (.a .v1 .v2) [(-1,.en (.a (.a .k0 .v0) .k1) (.a .v1 .v2))] rfl f2
 refine cm (D7 (L:=a) (o:=fP H) FA (dY a b).symm Jaa j0 jk js) λf e1 e2 run1=>?_;refine cm (D7 (L:=b) (o:=f) FB (d7 a b).symm (Jaa' f) (k0 f) (kk f) (ks f e1)) λh e3 e4 run2=>?_;have ng:0<aM G:=mw.2 (HW G 0);have F1:(nA a b).length+1=aM G+pre f (aM G):=by rw[<-e2.sum];exact FA
 have F2:(nB a b).length+1=aM G+pre h (aM G):=by rw[<-e4.sum];exact FB
 have kept:∀i,i+1<aM G->(nA a b)[i+pre f (i+1)]?=(nB a b)[i+pre h (i+1)]?:=λi hi=>by
  have z1:=F0 G (nA a b) [] ((dY a b).trans lG.symm) i hi;have z2:=F0 H (nB a b) [] ((d7 a b).trans lH.symm) i (by show i+1<aM H;rw[nn];exact hi);rw[<-e2.at_ i hi,<-e4.at_ i hi];exact z1.symm.trans ((congrArg (λl:List Int=>l[i]?) kl).trans z2)
 have m1:=vD (f:=f) ng;have m2:=vD (f:=h) ng;have l1:(bU f (aM G) (aM G)).length=a.length:=by rw[dY]at F1;exact bE [_,_,_,_] [] .v0 .v1 [(1,.en (.a .v1 .k1) (.a .v2 .v3)),(-1,.en (.a .v0 .k1) (.a .v2 .v3))] rfl F1 m1
 have l2:(bU h (aM G) (aM G)).length=b.length:=by rw[d7]at F2;exact bE [_,_,_,_] [] .v0 .v1 [(1,.en (.a .v1 .k1) (.a .v2 .v3)),(-1,.en (.a .v0 .k1) (.a .v2 .v3))] rfl F2 m2
 have lay':bg (nA a b) (nB a b) (bU f (aM G) (aM G)) (bU h (aM G) (aM G)) 0 0 a.length b.length (pre f (aM G)) (pre h (aM G)):=by
  rw[dY]at F1;rw[d7]at F2;generalize aM G=n at *
  obtain⟨k,rfl⟩:=xA ng;rw[aU]at *;have z:=(PF kept k (bu k)).append (bg.marks (k:=f k) (l:=h k) (λi p q=>sf (bu k) p (by show i<k+(pre f k+f k);exact au [_,_,_,_] [] (.tn .v0 (.a .v1 (.a .v2 .v3))) 1 [(1,.tn .v0 (.a (.a .v1 .v2) .v3))] rfl q)) λi p q=>sf (bu k) p (by show i<k+(pre h k+h k);exact au [_,_,_,_] [] (.tn .v0 (.a .v1 (.a .v2 .v3))) 1 [(1,.tn .v0 (.a (.a .v1 .v2) .v3))] rfl q));have p1:pre f (k+1)=pre f k+f k:=rfl;have p2:pre h (k+1)=pre h k+h k:=rfl;rw[cb (f k),cb (h k),show k+pre f k+f k=a.length by exact bE [_,_,_,_,_] [] (.a (.a .v0 .v1) .v2) .v3 [(1,.en (.a .v3 .k1) (.a (.a .v0 .k1) .v4)),(1,.en .v4 (.a .v1 .v2))] rfl F1 p1,show k+pre h k+h k=b.length by exact bE [_,_,_,_,_] [] (.a (.a .v0 .v1) .v2) .v3 [(1,.en (.a .v3 .k1) (.a (.a .v0 .k1) .v4)),(1,.en .v4 (.a .v1 .v2))] rfl F2 p2]at z;exact z
 refine ar (C4 (A:=nA a b) (B:=nB a b) (G:=bU f (aM G) (aM G)) (H:=bU h (aM G) (aM G)) (by rw[dY,l1]) (by rw[d7,l2]) (by rw[l1,l2];exact au [_,_] [] (.ln (.a .v0 .v1) (.k 1000)) 1 [(1,.ln .v0 (.k 400)),(1,.ln .v1 (.k 400))] rfl ha hb) (c:=pre f (aM G)) (d:=pre h (aM G)) (by rw[l1,l2];exact lay')) λcs' c1 c2=>?_;refine⟨f,h,cs',e1,e3,e2,e4,⟨l1,l2,by rw[e2.sum,e4.sum];exact lay',c1⟩,λn Z Q q=>?_⟩;have l400:a.length+b.length<1000:=by exact au [_,_] [] (.tn (.a .v0 .v1) (.k 1000)) 1 [(1,.ln .v0 (.k 400)),(1,.ln .v1 (.k 400))] rfl ha hb
 have gG:G.length<=1000:=by exact au [_,_] [] (.ln .v0 (.k 1000)) 1 [(1,.ln .v1 (.k 400)),(1,.en .v0 .v1)] rfl ha lG
 have gH:H.length<=1000:=by exact au [_,_] [] (.ln .v0 (.k 1000)) 1 [(1,.ln .v1 (.k 400)),(1,.en .v0 .v1)] rfl hb lH
 refine bN (J:=[some (.list (cs.map aV)),some (.list (vY a)),some (.list (vY b)),none,none,none,none]) rfl (r7 (Wl (aa rfl) (aa rfl) λd hd=>DT hd l400 λs Z1 s1 s2 s3 hs hg hh sub=>ao rfl ?_));subst s1;have s2:s.A=nA a b:=s2;have s3:s.B=nB a b:=s3;refine aO (Ot (λc hc=>⟨(ge c hc).2.2.1,(ge c hc).2.2.2.1,(ge c hc).2.2.2.2.1,(ge c hc).2.2.2.2.2⟩) ha hb hs λv4=>?_);rw[hG,hH];have S2:gF s G H (ak (ak Z1 s.g (.list (vB G))) s.h (.list (vB H))):=pO hs;have sub2:Sub Z (ak (ak Z1 s.g (.list (vB G))) s.h (.list (vB H))):=yT sub hg hh;generalize ak (ak Z1 s.g (.list (vB G))) s.h (.list (vB H))=Z2 at S2 sub2 ⊢
 refine ED (N:=nA a b) (L:=a) S2.at_g gG (br (aa rfl) (by rw[<-s2];exact dC S2.at_d rfl rfl)) (br (aa rfl) (dC S2.at_d rfl rfl)) (aa rfl) λd3 z3 Z3 hd3 hz3 zd3 sub3 at3 az3=>?_;refine ED (N:=nB a b) (L:=b) (sub3 _ _ S2.at_h) gH (br (aa rfl) (by rw[<-s3];exact dC (sub3 _ _ S2.at_d) rfl rfl)) (br (aa rfl) (dC (sub3 _ _ S2.at_d) rfl rfl)) (aa rfl) λd4 z4 Z4 hd4 hz4 zd4 sub4 at4 az4=>?_;rw[nn]at az4;have ne{Z:ae}{x y:Nat}{m:M}(h:Z x=some m)(k:Z y=none):x≠y:=λe=>by rw[e,k]at h;cases h
 have n34:z3≠z4:=ne az3 hz4;have r1:∀Q:QV,Q .none (ak Z4 z3 (.list (ck (aM G) f)))->Ph pF (n+4) 53 [.inst 3 d3,.inst 3 d4] Z4 Q:=λQ q=>by
  have z:=run1 ⟨n,Z4,d3,z3,d4,z4,_,_,_,sub4 _ _ at3,at4,sub4 _ _ az3,az4,n34.symm⟩ Q q;have e:ZR.T (N:=nA a b) (L:=a) (o:=fP H) ⟨n,Z4,d3,z3,d4,z4,_,_,_,sub4 _ _ at3,at4,sub4 _ _ az3,az4,n34.symm⟩ (fP G)=Z4:=u9 (sub4 _ _ az3);rw[e]at z;exact z
 refine Ia (aa rfl) (cY (sub4 _ _ at3) rfl) (aa rfl) (r1 _ (ao rfl ?_));have d3z:d3≠z3:=zd3.symm;have d4z3:d4≠z3:=(ne az3 hd4).symm;have t5d3:=(aA (m:=M.list (ck (aM G) f)) d3z).trans (sub4 _ _ at3);have t5d4:=(aA (m:=M.list (ck (aM G) f)) d4z3).trans at4;have t5z4:=(aA (m:=M.list (ck (aM G) f)) n34.symm).trans az4;have t5z3:ak Z4 z3 (.list (ck (aM G) f)) z3 = _:=aP ..;have t5s:=(aA (m:=M.list (ck (aM G) f)) (ne S2.at_d hz3)).trans (sub4 _ _ (sub3 _ _ S2.at_d));have sub5:Sub Z (ak Z4 z3 (.list (ck (aM G) f))):=λx m k=>(aA (ne (sub2 _ _ k) hz3)).trans (sub4 _ _ (sub3 _ _ (sub2 _ _ k)));generalize ak Z4 z3 (.list (ck (aM G) f))=Z5 at t5d3 t5d4 t5z4 t5z3 t5s sub5 ⊢
 have r2:∀Q:QV,Q .none (ak Z5 z4 (.list (ck (aM G) h)))->Ph pF (n+4) 53 [.inst 3 d4,.inst 3 d3] Z5 Q:=λQ q=>by
  have z:=run2 ⟨n,Z5,d4,z4,d3,z3,_,_,_,t5d4,t5d3,t5z4,t5z3,n34⟩ Q q;have e:ZR.T (N:=nB a b) (L:=b) (o:=f) ⟨n,Z5,d4,z4,d3,z3,_,_,_,t5d4,t5d3,t5z4,t5z3,n34⟩ (fP H)=Z5:=u9 t5z4;rw[e]at z;exact z
 refine Ia (aa rfl) (cY t5d4 rfl) (aa rfl) (r2 _ (ao rfl ?_));have d3z4:d3≠z4:=ne at3 hz4;have t6d3:=(aA (m:=M.list (ck (aM G) h)) d3z4).trans t5d3;have t6d4:=(aA (m:=M.list (ck (aM G) h)) zd4.symm).trans t5d4;have t6z3:=(aA (m:=M.list (ck (aM G) h)) n34).trans t5z3;have t6z4:ak Z5 z4 (.list (ck (aM G) h)) z4 = _:=aP ..;have t6s:=(aA (m:=M.list (ck (aM G) h)) (ne (sub3 _ _ S2.at_d) hz4)).trans t5s;have sub6:Sub Z (ak Z5 z4 (.list (ck (aM G) h))):=λx m k=>(aA (ne (sub3 _ _ (sub2 _ _ k)) hz4)).trans (sub5 _ _ k);generalize ak Z5 z4 (.list (ck (aM G) h))=Z6 at t6d3 t6d4 t6z3 t6z4 t6s sub6 ⊢
 have b1:aM G+pre f (aM G)<=1000:=by rw[dY]at F1;exact au [_,_,_] [] (.ln (.a .v0 .v1) (.k 1000)) 1 [(1,.ln .v2 (.k 400)),(-1,.en (.a .v2 .k1) (.a .v0 .v1))] rfl ha F1
 have b2:aM G+pre h (aM G)<=1000:=by rw[d7]at F2;exact au [_,_,_] [] (.ln (.a .v0 .v1) (.k 1000)) 1 [(1,.ln .v2 (.k 400)),(-1,.en (.a .v2 .k1) (.a .v0 .v1))] rfl hb F2
 have r3:∀Q:QV,Q (.list (vB (bU f (aM G) (aM G)))) Z6->Ph pF (n+4) 51 [.inst 3 d3] Z6 Q:=λQ q=>by
  have e:ZR.T (N:=nA a b) (L:=a) (o:=h) ⟨n+3,Z6,d3,z3,d4,z4,_,_,_,t6d3,t6d4,t6z3,t6z4,n34.symm⟩ f=Z6:=u9 t6z3;have z:=ER (f:=f) b1 (⟨n+3,Z6,d3,z3,d4,z4,_,_,_,t6d3,t6d4,t6z3,t6z4,n34.symm⟩:ZR (nA a b) a (aM G) h) (Q:=Q) (by rw[e];exact q);rw[e]at z;exact z
 refine Em (aa rfl) (cY t6d3 rfl) (r3 _ (yU (aa rfl) t6s rfl (dR rfl) ?_));have s3':s.d≠z4:=ne (sub3 _ _ S2.at_d) hz4;have s4d:d4≠s.d:=(ne (sub3 _ _ S2.at_d) hd4).symm;have s3d:d3≠s.d:=(ne S2.at_d hd3).symm;have sz3:z3≠s.d:=(ne S2.at_d hz3).symm;have t7d3:=(aA (m:=M.attrs 2 (setA [(7,.list (vI s.A)),(8,.list (vI s.B)),(9,.ref s.g),(10,.ref s.h)] 9 (.list (vB (bU f (aM G) (aM G)))))) s3d).trans t6d3;have t7d4:=(aA (m:=M.attrs 2 (setA [(7,.list (vI s.A)),(8,.list (vI s.B)),(9,.ref s.g),(10,.ref s.h)] 9 (.list (vB (bU f (aM G) (aM G)))))) s4d).trans t6d4;have t7z3:=(aA (m:=M.attrs 2 (setA [(7,.list (vI s.A)),(8,.list (vI s.B)),(9,.ref s.g),(10,.ref s.h)] 9 (.list (vB (bU f (aM G) (aM G)))))) sz3).trans t6z3;have t7z4:=(aA (m:=M.attrs 2 (setA [(7,.list (vI s.A)),(8,.list (vI s.B)),(9,.ref s.g),(10,.ref s.h)] 9 (.list (vB (bU f (aM G) (aM G)))))) s3'.symm).trans t6z4;have t7s:ak Z6 s.d (.attrs 2 (setA [(7,.list (vI s.A)),(8,.list (vI s.B)),(9,.ref s.g),(10,.ref s.h)] 9 (.list (vB (bU f (aM G) (aM G)))))) s.d = _:=aP ..;have sub7:Sub Z (ak Z6 s.d (.attrs 2 (setA [(7,.list (vI s.A)),(8,.list (vI s.B)),(9,.ref s.g),(10,.ref s.h)] 9 (.list (vB (bU f (aM G) (aM G))))))):=λx m k=>(aA (ne k hd)).trans (sub6 _ _ k);generalize ak Z6 s.d (.attrs 2 (setA [(7,.list (vI s.A)),(8,.list (vI s.B)),(9,.ref s.g),(10,.ref s.h)] 9 (.list (vB (bU f (aM G) (aM G))))))=Z7 at t7d3 t7d4 t7z3 t7z4 t7s sub7 ⊢
 have r4:∀Q:QV,Q (.list (vB (bU h (aM G) (aM G)))) Z7->Ph pF (n+4) 51 [.inst 3 d4] Z7 Q:=λQ q=>by
  have e:ZR.T (N:=nB a b) (L:=b) (o:=f) ⟨n+3,Z7,d4,z4,d3,z3,_,_,_,t7d4,t7d3,t7z4,t7z3,n34⟩ h=Z7:=u9 t7z4;have z:=ER (f:=h) b2 (⟨n+3,Z7,d4,z4,d3,z3,_,_,_,t7d4,t7d3,t7z4,t7z3,n34⟩:ZR (nB a b) b (aM G) f) (Q:=Q) (by rw[e];exact q);rw[e]at z;exact z
 refine Em (aa rfl) (cY t7d4 rfl) (r4 _ (yU (aa rfl) t7s rfl (dR rfl) ?_));refine lE (ao (cY (aP ..) rfl) (c2 (n+2) _ s.d (.list (vB (bU f (aM G) (aM G)))) (.list (vB (bU h (aM G) (aM G)))) ((aP ..).trans (by rw[s2,s3];rfl)) (.inl rfl) (.inl rfl) _ (j8 (λx m k=>(aA (ne k hd)).trans (sub7 _ _ k)) q)))
end
end
theorem vX:∀(G:List Bool)(k:Nat),pre (fz (gz k G)) (gz k G).length=k+G.count true
 |[],k=>by show 0+k=k+0;exact bE [_] [] (.a .k0 .v0) (.a .v0 .k0) [] rfl
 |true::G,k=>by
  have z:=vX G (k+1);rw[J2];show pre (fz (gz (k+1) G)) (gz (k+1) G).length = _;exact bE [_,_,_] [] .v0 (.a .v1 (.a .v2 .k1)) [(-1,.en .v0 (.a (.a .v1 .k1) .v2))] rfl z
 |false::G,k=>by
  have z:=vX G 0;rw[JK (by decide)];show pre (fz (k::gz 0 G)) ((gz 0 G).length+1) = _;rw[zg];show k+pre (fz (gz 0 G)) (gz 0 G).length = _;exact bE [_,_,_] [] (.a .v0 .v1) (.a .v0 .v2) [(-1,.en .v1 (.a .k0 .v2))] rfl z
theorem Gz{a b:List Ln}{cs:List Cg}(hl:ee a b true 0 0 cs)(ha:a.length<=400)(hb:b.length<=400) :
  ∃cs' G H c d,gm a b cs' G H c d/\(c:Int)=cj (cs.map gq)/\(d:Int)=cj (cs.map fF)/\∀n Z(Q:QV),Q (.list (cs'.map aV)) Z->Ph pF (n+5) 8 [.list (cs.map aV),.list (vY a),.list (vY b)] Z Q:=by
 refine xr (yS hl ha hb (λ_ _=>True) (λ_ _ _=>True) trivial (λ_ _ _ _ _=>trivial) (λ_ _ _ _ _ _ _ _=>trivial) (λ_=>trivial) (λ_ _ _ _ _ _=>trivial) (λ_ _ _ _ _ _ _ _ _ _=>trivial)) λf h cs' _ _ _ _ T run=>?_;refine aT (FC cs a.length b.length) λcg ch=>?_;refine cG (F5 hl (bJ _) (bJ _) cg ch) λc d lay e1 e2=>?_;have ln:=y7 cs (jH a,jH b);rw[jr,jr]at ln;have ct:=F3 lay ln.1.symm ln.2.symm;have p1:=vX (bP a b cs).1 0;have p2:=vX (bP a b cs).2 0;have kl:=EN ((dY a b).trans ln.1.symm) ((d7 a b).trans ln.2.symm) lay ln.1.symm ln.2.symm;have k1:=uT (bP a b cs).1 (nA a b) 0 ((dY a b).trans ln.1.symm);have k2:=uT (bP a b cs).2 (nB a b) 0 ((d7 a b).trans ln.2.symm);have nn:aM (bP a b cs).2=aM (bP a b cs).1:=by
  show(gz 0 _).length=(gz 0 _).length;rw[<-k1,<-k2];exact congrArg (λl:List Int=>l.length+1) kl.symm
 refine⟨cs',_,_,_,_,T,?_,?_,run⟩
 ·rw[<-e1,ct.1];exact congrArg gB (p1.trans (aU _))
 ·rw[<-e2,ct.2,<-nn];exact congrArg gB (p2.trans (aU _))
section
noncomputable def oX{α:Type}(w:Nat)(x y z:α):α:=match w with
 |0=>x
 |1=>y
 |_=>z
noncomputable def dW(x y z:V):cM->Option V:=λj=>if j="myers" then some x else if j="patience" then some y else if j="histogram" then some z else none
theorem IY:¬("patience":cM)="myers":=by decide +kernel
theorem IZ:¬("histogram":cM)="myers":=by decide +kernel
theorem I0:¬("histogram":cM)="patience":=by decide +kernel
theorem Vq{w:Nat}(hw:w<3){x y z:V}:dW x y z (cP w)=some (oX w x y z):=l3 hw (if_pos rfl) ((if_neg IY).trans (if_pos rfl)) ((if_neg IZ).trans ((if_neg I0).trans (if_pos rfl)))
theorem Rj{x y z:V}:gY false [.str "myers",.str "patience",.str "histogram"] [x,y,z]=some (.dS 3 (dW x y z)):=by
 show(if ("myers":cM)≠"patience"/\("myers":cM)≠"histogram"/\("patience":cM)≠"histogram" then some (M.dS 3 (dW x y z)) else none) = _;rw[if_pos ⟨λe=>IY e.symm,λe=>IZ e.symm,λe=>I0 e.symm⟩]
section
variable{C:ax}{J:aj}{Z:ae}{e k:E}
theorem zw{w d:Nat}(hw:w<3){x y z:V}(hd:Z d=some (.dS 3 (dW x y z)))(he:Ev C e J Z (.ref d))(hk:Ev C k J Z (.str (cP w))):Ev C (.i e k) J Z (oX w x y z):=bW he hk (by
 have a:cc Z d=none:=by unfold cc;rw[hd];rfl
 have c:dD Z d (.str (cP w))=some (dW x y z (cP w)):=by unfold dD;rw[hd];rfl
 show(match cc Z d with|some l=>_|none=>(dD Z d (.str (cP w))).bind λo=>o) = _;rw[a,c,Vq hw];rfl)
theorem gC{a:E}{u res:V}{f:Nat}(ha:Ev C a J Z u)(h:∀Q:QV,Q res Z->C f [u] Z Q):Ev C (.call f [a]) J Z res:=λQ q=>ha _ (h Q q)
theorem mG{a b:E}{u v res:V}{f:Nat}(ha:Ev C a J Z u)(hb:Ev C b J Z v)(h:∀Q:QV,Q res Z->C f [u,v] Z Q):Ev C (.call f [a,b]) J Z res:=λQ q=>ha _ (hb _ (h Q q))
theorem ko{a b c:E}{u v w res:V}{f:Nat}(ha:Ev C a J Z u)(hb:Ev C b J Z v)(hc:Ev C c J Z w)(h:∀Q:QV,Q res Z->C f [u,v,w] Z Q):Ev C (.call f [a,b,c]) J Z res:=λQ q=>ha _ (hb _ (hc _ (h Q q)))
theorem Rx{a b c:E}{u v w:V}(h:Ev C a J Z u)(k:Ev C b J Z v)(l:Ev C c J Z w):Ev C (.lst false [a,b,c]) J Z (.list [u,v,w]):=λQ q=>h _ (k _ (l _ q))
theorem Ry{a b c d:E}{u v w x:V}(h:Ev C a J Z u)(k:Ev C b J Z v)(l:Ev C c J Z w)(m:Ev C d J Z x):Ev C (.lst false [a,b,c,d]) J Z (.list [u,v,w,x]):=λQ q=>h _ (k _ (l _ (m _ q)))
theorem vo{c:E}{i j:Int}(h:Ev C c J Z (.list [.int i,.int j])):Ev C (.bi .sum [c]) J Z (.int (i+j)):=λQ q=>kz (h _ (ao (a:=.int (i+j)) (by
 show some (V.int (cj [i,j])) = _;rw[jP,jP];show some (V.int (i+(j+0))) = _;rw[pI]) q))
theorem vR{c:E}{t:Bool}(h:Ev C c J Z (.bool t)):aI C (.not c) J Z (t=false):=⟨!t,by cases t<;>simp,λQ q=>h _ q⟩
end
theorem F6{a b:List Ln}:∀{cs:List Cg}{fst:Bool}{at' to:Nat},ee a b fst at' to cs->at'<=a.length->to<=b.length->cs.length+(at'+to)<=a.length+b.length:=λ{rr}=>@(li (λ{_}{_}{_}_ h k=>by rw[List.length_nil,aU];exact ff h k)
 (λc cs ih{fst}{at'}{to}h _ _=>by
  have z:=ih h.2 h.1.ha h.1.hb;rw[nG];have l:=h.1.l;have o:=h.1.o;have i:=h.1.i;have m:=h.1.yy;exact h.1.n.elim (λn=>au [_,_,_,_,_,_,_,_,_] [] (.ln (.a (.a .v0 .k1) (.a .v1 .v2)) (.a .v3 .v4)) 1 [(1,.ln (.a .v0 (.a .v5 .v6)) (.a .v3 .v4)),(1,.tn .v7 .v5),(1,.ln .v1 .v7),(1,.ln .v2 .v8),(1,.ln .v8 .v6)] rfl z n l m i)
   λn=>au [_,_,_,_,_,_,_,_,_] [] (.ln (.a (.a .v0 .k1) (.a .v1 .v2)) (.a .v3 .v4)) 1 [(1,.ln (.a .v0 (.a .v5 .v6)) (.a .v3 .v4)),(1,.tn .v8 .v6),(1,.ln .v1 .v7),(1,.ln .v2 .v8),(1,.ln .v7 .v5)] rfl z n l m o) rr)
theorem gm.len{a b:List Ln}{cs:List Cg}{G H:List Bool}{c d:Nat}(h:gm a b cs G H c d):cs.length<=a.length+b.length:=F6 h.lds (bJ _) (bJ _)
noncomputable def tV(a b:Cg):Bool:=((a.1:Int)==b.1)&&(((a.2.1:Int)==b.2.1)&&(((a.2.2.1:Int)==b.2.2.1)&&(((a.2.2.2:Int)==b.2.2.2)&&true)))
theorem C6{C:ax}{J:aj}{Z:ae}{a b:E}{p q:List Cg}(ha:Ev C a J Z (.list (p.map kO)))(hb:Ev C b J Z (.list (q.map kO))):aI C (.m .eq a b) J Z (p=q):=uQ (eq:=tV) (λ_ _=>rfl) (λx y=>by
 obtain⟨x1,x2,x3,x4⟩:=x;obtain⟨y1,y2,y3,y4⟩:=y;unfold tV;simp[kX]) ha hb
theorem yG{C:ax}{J:aj}{Z:ae}{a b:E}{p q:List Int}(ha:Ev C a J Z (.list (vI p)))(hb:Ev C b J Z (.list (vI q))):aI C (.m .ne a b) J Z (p≠q):=yZ (eq:=λa b=>a==b) (λ_ _=>rfl) (λ_ _=>beq_iff_eq) ha hb
theorem EW{a:List Ln}{K:List Ln}(hK:∀u,u∈a->u∈K)(h:jA a=a):tw (iD K a):=by
 intro i j hi hj e;rw[iD,aY]at hi hj;have nd:=M5 h;refine nd i j hi hj ?_;rw[iD,fc,fc,cO,cO,bL hi,bL hj]at e;have e:((K.idxOf a[i]:Nat):Int)=(K.idxOf a[j]:Nat):=e;have e:=kX.1 e;rw[<-rB (q6 (hK _ (iR hi))),<-rB (q6 (hK _ (iR hj)))]
 congr 1
theorem VE{a b:List Ln}(ha:jA a=a)(hb:jA b=b):nd (nA a b) (nB a b):=
 ⟨EW (λu hu=>(pQ b (mD a hu)).1) ha,EW (λu hu=>mD b hu) hb⟩
end
section
noncomputable abbrev cV(c:List Cg):V:=.list (c.map aV)
theorem VO{w:Nat}{x y z:List Cg}:oX w (cV x) (cV y) (cV z)=cV (oX w x y z):=by
 match w with
 |0=>rfl
 |1=>rfl
 |_+2=>rfl
structure Ip(a b:List Ln)(w:Nat)(c:List Cg):Prop where
 t:∃G H o i,gm a b c G H o i
 run:∀n Z(Q:QV),Q (cV c) Z->Ph pF (n+5) (xa w) [.list (vY a),.list (vY b)] Z Q
section
variable{a b:List Ln}
theorem y5{n:Nat}{J:aj}{Z:ae}{e f g:E}{c:List Cg}(h:∃G H o i,gm a b c G H o i)(he:Ev (Ph pF (n+6)) e J Z (cV c))(hf:Ev (Ph pF (n+6)) f J Z (.list (vY a)))(hg:Ev (Ph pF (n+6)) g J Z (.list (vY b))):aI (Ph pF (n+6)) (.not (.call 16 [e,f,g])) J Z False:=by
 refine I7 h λG H o i T=>?_;exact ir (vR (ko he hf hg λQ q=>N1 T.lds q)) ⟨λh=>(nomatch h),pP⟩
theorem pY{n:Nat}{J:aj}{Z:ae}{e:E}{c:List Cg}(hz:c.length<=400)(he:Ev (Ph pF (n+6)) e J Z (cV c)):Ev (Ph pF (n+6)) (.call 17 [e]) J Z (.list [.int (cj (c.map gq)),.int (cj (c.map fF))]):=gC he λQ q=>MX (ai hz (by decide)) q
noncomputable abbrev V1:List S:=[.ite (.o false [.not (.call 16 [.x 7,.x 0,.x 1]),.m .lt (.bi .sum [.call 17 [.x 7]]) (.x 3)]) [.ret (.c (.bool false))] []]
noncomputable abbrev wR(a b:List Ln)(w:Nat)(least:Int)(v4 v5:V)(d:Nat)(v7 v8:Option V):aj:=[some (.list (vY a)),some (.list (vY b)),some (.str (cP w)),some (.int least),some v4,some v5,some (.ref d),v7,v8]
theorem OH{n w d:Nat}{Z:ae}{v4 v5:V}{v8:Option V}(hz:a.length+b.length<=400){l:List (List Cg)}(h:∀c,c∈l->∃G H o i,gm a b c G H o i){Q:QO}(q:∀v7,Q .next (wR a b w (fB a b) v4 v5 d v7 v8) Z) :
  ∃m,bZ (.vals (l.map cV)) (.v 7) (λJ Z Q=>az (Ph pF (n+6)) V1 J Z Q) Q m 0 (wR a b w (fB a b) v4 v5 d none v8) Z:=by
 refine qj (mF (cD pF _) _) (λ_ J Z'=>(∃v7,J=wR a b w (fB a b) v4 v5 d v7 v8)/\Z'=Z) ⟨⟨none,rfl⟩,rfl⟩ (λ_ _ _ _=>rfl) ?_ (λJ Z' zz=>aT zz λz e'=>bA z λv7 e=>by rw[e,e'];exact q v7);intro i v J Z' hv zz;refine aT zz λz e'=>bA z λv7 e=>?_;clear zz z;subst e;subst e';rw[cO]at hv;cases k:l[i]? with
 |none=>rw[k]at hv;exact nn hv
 |some c=>
  rw[k]at hv;injection hv with hv;subst hv
  refine I7 (h c (BD k)) λG H o i T=>?_;have ct:=T.counts;have lo:=T.low;have cl:=ai T.len hz;have tv:aI (Ph pF (n+6)) (.o false [.not (.call 16 [.x 7,.x 0,.x 1]),.m .lt (.bi .sum [.call 17 [.x 7]]) (.x 3)]) (wR a b w (fB a b) v4 v5 d (some (cV c)) v8) Z' (False\/cj (c.map gq)+cj (c.map fF)<fB a b):=
   iW (y5 ⟨G,H,o,i,T⟩ (aa rfl) (aa rfl) (aa rfl)) λ_=>sO (vo (pY cl (aa rfl))) (aa rfl)
  refine ao rfl (aO (bH tv (λz=>z.elim id λz=>?_) ⟨_,Sub.refl' _,⟨_,rfl⟩,rfl⟩));rw[ct.1,ct.2]at z;rw[hV]at lo;exact absurd z (jL.2 lo)
theorem M4(a b:Ln):oN (.bytes a) (.bytes b)=some (decide (a=b)):=by
 show some (a==b) = _;rw[JF]
theorem RA{C:ax}{e k:E}{x:Int}{J:aj}{Z:ae}(h:Ev C e J Z (.int x))(j:Ev C k J Z (.int 2)):Ev C (.b .mod e k) J Z (.int (x%2)):=fN h j rfl
theorem ON{C:ax}{e1 e2 e3:E}{u v w:V}{t:Tg}{rest:List S}{J:aj}{Z:ae}{Q:QO}(h1:Ev C e1 J Z u)(h2:Ev C e2 J Z v)(h3:Ev C e3 J Z w)(h:∀d,Z d=none->jC C t (.ref d) J (ak Z d (.dS 3 (dW u v w))) λJ Z=>az C rest J Z Q):az C (.s t (.dct false [.str "myers",.str "patience",.str "histogram"] [e1,e2,e3])::rest) J Z Q:=by
 have g:aK (gY false [.str "myers",.str "patience",.str "histogram"] [u,v,w]) λm=>∀d,Z d=none->jC C t (.ref d) J (ak Z d m) λJ Z=>az C rest J Z Q:=by
  rw[Rj];exact h
 exact h1 _ (h2 _ (h3 _ g))
theorem Nh(ha:a.length<=4)(hb:b.length<=6){w:Nat}(hw:w<3){n:Nat}{Z:ae}{Q:QV}(q:Q (.bool true) Z):Ph pF (n+7) 19 [.list (vY a),.list (vY b),.str (cP w)] Z Q:=by
 have hz:a.length+b.length<=400:=by exact au [_,_] [] (.ln (.a .v0 .v1) (.k 400)) 1 [(1,.ln .v0 (.k 4)),(1,.ln .v1 (.k 6))] rfl ha hb
 refine tZ (AE (a:=a) (b:=b) hz) λc1 G1 H1 o1 i1 T1 L1 r1=>?_;refine tZ (AE (a:=b) (b:=a) (by exact au [_,_] [] (.ln (.a .v0 .v1) (.k 400)) 1 [(1,.ln .v1 (.k 4)),(1,.ln .v0 (.k 6))] rfl ha hb)) λc2 G2 H2 o2 i2 T2 L2 r2=>?_;refine tZ (E0 ha hb) λc3 G3 H3 o3 i3 T3 n3 r3=>?_;refine Bm (yI hz 64) λc4 G4 H4 o4 i4 T4 r4=>?_;refine Bm (yI hz (fB a b%2)) λc5 G5 H5 o5 i5 T5 r5=>?_;have W:Ip a b w (oX w c1 c3 c4):=l3 (p:=λw=>Ip a b w (oX w c1 c3 c4)) hw ⟨⟨_,_,_,_,T1⟩,λn Z Q q=>r1 (n+1) Z Q q⟩ ⟨⟨_,_,_,_,T3⟩,λn Z Q q=>r3 n Z Q q⟩ ⟨⟨_,_,_,_,T4⟩,λn Z Q q=>bN rfl (r4 n Z Q q)⟩;obtain⟨⟨Gw,Hw,ow,iw,Tw⟩,rw_⟩:=W;refine xu (Gz Tw.lds (by exact au [_] [] (.ln .v0 (.k 400)) 1 [(1,.ln .v0 (.k 4))] rfl ha) (by exact au [_] [] (.ln .v0 (.k 400)) 1 [(1,.ln .v0 (.k 6))] rfl hb)) λc6 G6 H6 o6 i6 T6 e6 f6 r6=>?_;have few1:=zM L1;have few2:=PM L2;have ct1:=T1.counts;have ct2:=T2.counts;have ct6:=T6.counts;have ctw:=Tw.counts;have cl1:=ai T1.len hz;have cl2:c2.length<=400:=ai T2.len (by exact au [_,_] [] (.ln (.a .v0 .v1) (.k 400)) 1 [(1,.ln .v1 (.k 4)),(1,.ln .v0 (.k 6))] rfl ha hb);have cl3:=ai T3.len hz;have cl6:=ai T6.len hz;have clw:=ai Tw.len hz;have mono:=cD pF (n+6);refine bN (J:=[some (.list (vY a)),some (.list (vY b)),some (.str (cP w)),none,none,none,none,none,none]) rfl ?_;refine sy (u:=.int (fB a b)) (v:=cV c1) (w:=cV c2) (sC (mG (aa rfl) (aa rfl) λQ q=>Dd (by exact au [_] [] (.ln .v0 (.k 900)) 1 [(1,.ln .v0 (.k 4))] rfl ha) (by exact au [_] [] (.ln .v0 (.k 900)) 1 [(1,.ln .v0 (.k 6))] rfl hb) q) (mG (aa rfl) (aa rfl) λQ q=>r1 (n+2) Z Q q) (mG (aa rfl) (aa rfl) λQ q=>r2 (n+2) Z Q q)) ?_;refine aO (bH (y5 ⟨_,_,_,_,T2⟩ (aa rfl) (aa rfl) (aa rfl)) id ?_);have three:[cj (c1.map gq)+cj (c1.map fF),cj (c2.map gq)+cj (c2.map fF),cj (c1.map oV)]=aR 3 (fB a b):=by
  rw[QG,ct1.1,ct1.2,ct2.1,ct2.2,<-hV,<-hV,few1,few2];rfl
 refine aO (bH (yG (p:=[cj (c1.map gq)+cj (c1.map fF),cj (c2.map gq)+cj (c2.map fF),cj (c1.map oV)]) (q:=aR 3 (fB a b)) (Rx (vo (pY cl1 (aa rfl))) (vo (pY cl2 (aa rfl))) (mG (aa rfl) (aa rfl) λQ q=>Rn (n:=n+1) (ai cl1 (by decide)) r1 q)) (vS (k:=3) (aa rfl) Ev.cn (by decide))) (λz=>z three) ?_);refine ON (aa rfl) (mG (aa rfl) (aa rfl) λQ q=>r3 (n+1) Z Q q) (mG (aa rfl) (aa rfl) λQ q=>bN rfl (r4 (n+1) Z Q q)) λd hd=>?_;have dd:ak Z d (.dS 3 (dW (cV c1) (cV c3) (cV c4))) d=some (.dS 3 (dW (cV c1) (cV c3) (cV c4))):=vc;have sub:Sub Z (ak Z d (.dS 3 (dW (cV c1) (cV c3) (cV c4)))):=zZ hd (Sub.refl' _);generalize ak Z d (.dS 3 (dW (cV c1) (cV c3) (cV c4)))=Z' at dd sub
 have lw:∀{e:E}{J:aj},Ev (Ph pF (n+6)) e J Z' (.str (cP w))->∀{e':E},Ev (Ph pF (n+6)) e' J Z' (.ref d)->Ev (Ph pF (n+6)) (.i e' e) J Z' (cV (oX w c1 c3 c4)):=λk _ h=>VO▸zw hw dd h k;have l2:∀{e:E}{J:aj},Ev (Ph pF (n+6)) e J Z' (.ref d)->Ev (Ph pF (n+6)) (.i e (.c (.str "patience"))) J Z' (cV c3):=λh=>zw (w:=1) (by decide) dd h Ev.cn;have l3:∀{e:E}{J:aj},Ev (Ph pF (n+6)) e J Z' (.ref d)->Ev (Ph pF (n+6)) (.i e (.c (.str "histogram"))) J Z' (cV c4):=λh=>zw (w:=2) (by decide) dd h Ev.cn;refine aO (n9 (l:=[c3,c4,c1,c5].map cV) (Ry (l2 (aa rfl)) (l3 (aa rfl)) (aa rfl) (ko (aa rfl) (aa rfl) (RA (aa rfl) Ev.cn) λQ q=>bN rfl (r5 (n+1) Z' Q q))) (OH (v4:=cV c1) (v5:=cV c2) (v8:=none) hz (λc h=>?_) λv7=>?_))
 ·rcases cp.1 h with e|h
  ·subst e;exact⟨_,_,_,_,T3⟩
  rcases cp.1 h with e|h
  ·subst e;exact⟨_,_,_,_,T4⟩
  rcases cp.1 h with e|h
  ·subst e;exact⟨_,_,_,_,T1⟩
  rcases cp.1 h with e|h
  ·subst e;exact⟨_,_,_,_,T5⟩
  exact nm h
 refine bM (ko (lw (aa rfl) (aa rfl)) (aa rfl) (aa rfl) λQ q=>r6 (n+1) Z' Q q) ?_;refine aO (bH (iW (y5 ⟨_,_,_,_,T6⟩ (aa rfl) (aa rfl) (aa rfl)) λ_=>yG (p:=[_,_]) (q:=[_,_]) (pY cl6 (aa rfl)) (pY clw (lw (aa rfl) (aa rfl)))) (λz=>z.elim id λz=>z ?_) ?_)
 ·rw[ct6.1,ct6.2,e6,f6]
 have o13:∀{e:E}{J:aj}{l:List Ln},l.length<=1000->Ev (Ph pF (n+6)) e J Z' (.list (vY l))->Ev (Ph pF (n+6)) (.call 13 [e]) J Z' (.list (vY (jA l))):=λhl h=>gC h λQ q=>y0 (g:=V.bytes) M4 hl q;refine aO (bH (nT (vp (o13 (by exact au [_] [] (.ln .v0 (.k 1000)) 1 [(1,.ln .v0 (.k 4))] rfl ha) (aa rfl)) (aa rfl)) (λ_=>vp (o13 (by exact au [_] [] (.ln .v0 (.k 1000)) 1 [(1,.ln .v0 (.k 6))] rfl hb) (aa rfl)) (aa rfl)) λ_ _=>qt (vo (pY cl3 (l2 (aa rfl)))) (aa rfl)) (λz=>z.2.2 ?_) ?_)
 ·have e:=n3 (VE z.1 z.2.1) _ L1;rw[T3.counts.1,T3.counts.2,<-hV,e,<-few1,hV]
 refine eF (ju (t:=true) (C6 (gC (ko (aa rfl) (aa rfl) (aa rfl) λQ q=>HM hw (rw_ n _) q) λQ q=>uC (ai clw (by decide)) q) (gC (lw (aa rfl) (aa rfl)) λQ q=>uC (ai clw (by decide)) q)) (iff_of_true rfl rfl)) (j8 sub q)
end
end
section
structure On(f:Nat->Nat)(n k s:Nat):Prop where
 lt:k<n
 at_:f k=s
 z:∀t,t<n->t≠k->f t=0
def Wn(N:List Int)(s k l:Nat):Prop:=∀i,k<=i->i<l->N[i]?=N[i+s]?
def Sm(N:List Int)(s k l:Nat):Prop:=Wn N s k l/\Wn N s l k
def Bl(L:List Ln)(s t:Nat):Prop:=i8 (L.getD (t+s-1) [])=true
structure lW(N:List Int)(L:List Ln)(n s k g:Nat):Prop where
 lt:g<n
 sm:Sm N s k g
 is:(Bl L s g/\∀t,t<n->Sm N s k t->g<t->¬Bl L s t)\/∀t,t<n->Sm N s k t->t<=g/\¬Bl L s t
section
variable{N:List Int}{L:List Ln}{n s k g l:Nat}{f f' o:Nat->Nat}
theorem Wn.step(h:Wn N s k g)(j:Wn N s g l):Wn N s k l:=λi a b=>(nM i g).elim (h i a) λc=>j i c b
theorem Sm.symm(h:Sm N s k l):Sm N s l k:=⟨h.2,h.1⟩
theorem Sm.trans(h:Sm N s k g)(j:Sm N s g l):Sm N s k l:=⟨h.1.step j.1,j.2.step h.2⟩
theorem On.pre0(h:On f n k s):∀{i:Nat},i<=k->pre f i=0
 :=λ{i}=>ni (λ_=>rfl) (λi ih q=>by
  show pre f i+f i=0;rw[ih (cL q),h.z i (fK q h.lt) (gQ q)]) i
theorem On.pre1(h:On f n k s):∀{i:Nat},k<i->i<=n->pre f i=s
 :=λ{i}=>ni (λq=>absurd q (dM k)) (λi ih q w=>by
  show pre f i+f i=s;exact(jf (eU q)).elim (λe=>by rw[ih e (cL w),h.z i w (ip e),jK])
   λe=>by rw[<-e,h.pre0 (aC _),h.at_,aU]) i
theorem On.kp_w(h:On f n k s)(j:On f' n l s)(e:KP N n f f'):Wn N s k l:=λi a b=>by
 have z:=e.at_ i (bC b j.lt);rw[h.pre1 (px a) (cu (bC b j.lt)),j.pre0 b]at z;exact z.symm
theorem KP.symm(e:KP N n f f'):KP N n f' f:=⟨e.sum.symm,λi h=>(e.at_ i h).symm⟩
theorem On.sm(h:On f n k s)(j:On f' n l s)(e:KP N n f f'):Sm N s k l:=⟨h.kp_w j e,j.kp_w h e.symm⟩
theorem Gr(h:oI N L n o f k f' g)(j:On f n k s):On f' n g s:=by
 refine cG h.gi.vis.ex λlo hi pp02_ a6 a7=>?_;obtain⟨a1,a2,_,_,_⟩:=pp02_;have w:On f' n g (f' g):=⟨h.gi.lt,rfl,λt p q=>by
  by_cases c:t<lo\/hi<t
  ·rw[a7 t c];exact j.z t p λe=>by
    subst e;exact c.elim (λc=>absurd c (bc.2 a1)) λc=>absurd c (bc.2 a2)
  ·exact a6 t (bc.1 λz=>c (.inl z)) (bc.1 λz=>c (.inr z)) q⟩
 have e:=h.gi.kp.sum;rw[j.pre1 j.lt (aC _),w.pre1 w.lt (aC _)]at e;rw[<-e]at w;exact w
theorem Qy(h:oI N L n o f k f' g)(j:On f n k s)(ho:∀t,t<n->o t=0):lW N L n s k g:=by
 have w:=Gr h j;have sm:=j.sm w h.gi.kp;refine xt h.ex λtop low x s' m n1 n2 n3=>?_;have es:s'=s:=m.es.symm.trans w.at_;have fr:=m.fr;have ex:x=top:=by rw[<-m.ex,w.pre0 fr.a,jK]
 subst es;subst ex;have mid:∀t,t<n->Sm N s' k t->x<=t/\t<=low:=λt ht st=>by
  have gt:=sm.symm.trans st;refine⟨bc.1 λc=>n1 ⟨jJ c,?_⟩,bc.1 λc=>n2 ⟨bC c ht,?_⟩⟩
  ·obtain⟨y,rfl⟩:=xA c;have z:=gt.2 (t+y) (aL ..) (aQ (bu _) fr.a);rw[show t+y+1-1=t+y from rfl,show t+y+1+s'-1=t+y+s' by rw[dK];rfl];exact z
  ·rw[uj (ai fr.a fr.b)];exact gt.1 low fr.b c
 have bk:∀t,x<=t->(Bk L x x s' t↔Bl L s' t):=λt ht=>by
  unfold Bk Bl;rw[uj ht]
 refine⟨w.lt,sm,?_⟩;rcases n3 with⟨t,_,t2,t3⟩|⟨b1,b2⟩|⟨b1,b2⟩
 ·rw[ho t (bC t2 fr.c)]at t3;exact absurd t3 (gP 0)
 ·exact .inl ⟨(bk g fr.a).1 b1,λt ht st gt z=>b2 t gt (mid t ht st).2 ((bk t (mid t ht st).1).2 z)⟩
 ·exact .inr λt ht st=>⟨b1▸(mid t ht st).2,λz=>b2 t (mid t ht st).1 (mid t ht st).2 ((bk t (mid t ht st).1).2 z)⟩
theorem lW.one{k' g':Nat}(h:lW N L n s k g)(j:lW N L n s k' g')(e:Sm N s k k'):g=g':=by
 have a1:=e.trans j.sm;have a2:=e.symm.trans h.sm;rcases h.is with⟨b1,b2⟩|b<;>rcases j.is with⟨c1,c2⟩|c
 ·exact cX (bc.1 λz=>c2 g h.lt a2 z b1) (bc.1 λz=>b2 g' j.lt a1 z c1)
 ·exact absurd b1 (c g h.lt a2).2
 ·exact absurd c1 (b g' j.lt a1).2
 ·exact cX (c g h.lt a2).1 (b g' j.lt a1).1
end
end
section
structure eS(G:List Bool)(m d s:Nat):Prop where
 len:G.length=m+s
 le:d<=m
 a:∀i,i<d->G[i]?=some false
 b:∀i,d<=i->i<d+s->G[i]?=some true
 c:∀i,d+s<=i->i<m+s->G[i]?=some false
section
variable{G H:List Bool}{f:Nat->Nat}{n m d s s' x y:Nat}{cs cs':List Cg}
theorem On.mk1(h:On f (m+1) d s):eS (bU f (m+1) (m+1)) m d s where
 len:=by
  have z:(bU f (m+1) (m+1)).length+1=(m+1)+pre f (m+1):=vD (fh m);rw[h.pre1 h.lt (aC _),dK]at z;exact iH z
 le:=eU h.lt
 a i q:=by
  have z:=uJ (f:=f) (n:=m+1) (k:=i) (bC q h.lt);rw[h.pre0 q]at z;exact z
 b i q w:=sf h.lt (by rw[h.pre0 (aC _)];exact q) (by rw[h.pre1 (bu _) h.lt];exact w)
 c i q w:=by
  obtain⟨k,rfl⟩:=bS (ai (df s d) q);rw[cb s k]at q w;have w:=Nat.lt_of_add_lt_add_right w;have z:=uJ (f:=f) (n:=m+1) (k:=k) (nJ w);rw[h.pre1 (px (Nat.le_of_add_le_add_right q)) (fv w)]at z;rw[cb s k];exact z
theorem Er:∀(k:Nat){x y:Nat},(∀i,x<=i->i<x+k->G[i]?=some false)->(∀i,y<=i->i<y+k->H[i]?=some false)->g6 G H (x+k) (y+k) cs->g6 G H x y cs:=λrr=>@(ni (λ{_}{_}_ _ c=>c)
 (λk ih{x}{y}h j c=>.skip (h x (aC _) (hE (fh k))) (j y (aC _) (hE (fh k))) (ih (λi a b=>h i (cL a) (by rw[dK]at b;exact b)) (λi a b=>j i (cL a) (by rw[dK]at b;exact b)) (by rw[dK x,dK y];exact c))) rr)
theorem eS.nt(h:eS G m d s):G[d+s]?≠some true:=λe=>by
 rcases jf h.le with l|l
 ·rw[h.c (d+s) (aC _) (uf l s)]at e;cases e
 ·rw[fH (by rw[h.len,l];exact aC _)]at e;exact nn e
theorem eS.chg(h:eS G m d s)(j:eS H m d s')(p:0<s\/0<s'):g6 G H 0 0 [(d,d+s,d,d+s')]:=by
 obtain⟨k,rfl⟩:=bS h.le;refine Er d (λi _ q=>h.a i (by rw[aU]at q;exact q)) (λi _ q=>j.a i (by rw[aU]at q;exact q)) ?_;rw[aU];refine .run (aL ..) (aL ..) h.b j.b h.nt j.nt (p.imp (λp=>hE p) λp=>hE p) ?_;refine Er k (λi a b=>h.c i a (by rw[dK]at b;exact b)) (λi a b=>j.c i a (by rw[dK]at b;exact b)) ?_;have e1:d+s+k=G.length:=by rw[h.len,dK]
 have e2:d+s'+k=H.length:=by rw[j.len,dK]
 rw[e1,e2];exact .fin
theorem u6{x x' x'':Nat}(a:∀i,x<=i->i<x'->G[i]?=some true)(b:x<=x'')(n:G[x'']?≠some true):x'<=x'':=bc.1 λz=>n (a x'' b z)
theorem Fw(h:g6 G H x y cs):∀{cs'},g6 G H x y cs'->cs=cs':=by
 have ft:∀{o:Option Bool},o=some false->o≠some true:=λe w=>by rw[e]at w;cases w
 have nt:∀{L:List Bool}{i:Nat},L.length<=i->L[i]?≠some true:=λe w=>by rw[fH e]at w;exact nn w
 have no:∀{x y x' y':Nat},x<x'\/y<y'->(∀i,x<=i->i<x'->G[i]?=some true)->(∀i,y<=i->i<y'->H[i]?=some true)->G[x]?≠some true->H[y]?≠some true->False:=λp a b c d=>p.elim (λp=>c (a _ (aC _) p)) λp=>d (b _ (aC _) p);induction h with
 |fin=>
  intro cs' j;cases j with
  |fin=>rfl
  |skip a _ _=>rw[fH (aC _)]at a;exact nn a
  |run _ _ a b _ _ p _=>exact(no p a b (nt (aC _)) (nt (aC _))).elim
 |skip a b _ ih=>
  intro cs' j;cases j with
  |fin=>rw[fH (aC _)]at a;exact nn a
  |skip _ _ c=>exact ih c
  |run _ _ c d _ _ p _=>exact(no p c d (ft a) (ft b)).elim
 |run l1 l2 a b n1 n2 p _ ih=>
  intro cs' j;cases j with
  |fin=>exact(no p a b (nt (aC _)) (nt (aC _))).elim
  |skip c d _=>exact(no p a b (ft c) (ft d)).elim
  |run l3 l4 c d n3 n4 _ r=>
   have e1:=cX (u6 a l3 n3) (u6 c l1 n1);have e2:=cX (u6 b l4 n4) (u6 d l2 n2);subst e1;subst e2;rw[ih r]
end
end
section
section
variable{G:List Bool}{m d s k:Nat}{a b:List Ln}
theorem eS.eq(h:eS G m d s):G=aR d false++(aR s true++aR (m-d) false):=xS λi=>by
 obtain⟨l,rfl⟩:=bS h.le;rw[cC];rcases nM i d with c|c
 ·rw[h.a i c,t5 (by rw[dq];exact c),pg,if_pos c]
 rw[mu (by rw[dq];exact c),dq];obtain⟨j,rfl⟩:=bS c;rw[cC];rcases nM j s with w|w
 ·rw[h.b _ c (eE w d),t5 (by rw[dq];exact w),pg,if_pos w]
 rw[mu (by rw[dq];exact w),dq,pg];obtain⟨t,rfl⟩:=bS w;rw[cC];by_cases q:t<l
 ·rw[if_pos q,h.c _ (kT w d) (by rw[dK,<-cq];exact eE q _)]
 ·rw[if_neg q,fH (by rw[h.len,dK,<-cq];exact kT (bc.1 q) _)]
theorem Wh:∀l j,gz j (aR l false)=j::aR l 0:=λrr=>ni (λ_=>rfl)
 (λl ih j=>by
  show j::gz 0 (aR l false)=j::0::aR l 0;rw[ih 0]) rr
theorem Wi:∀s j(R:List Bool),gz j (aR s true++R)=gz (j+s) R:=λrr=>ni (λ_ _=>rfl)
 (λs ih j R=>by
  show gz (j+1) (aR s true++R) = _;rw[ih,dK];rfl) rr
theorem Wg:∀d(R:List Bool),gz 0 (aR d false++R)=aR d 0++gz 0 R:=λrr=>ni (λ_=>rfl)
 (λd ih R=>by
  show 0::gz 0 (aR d false++R)=0::(aR d 0++gz 0 R);rw[ih]) rr
theorem eS.gz(h:eS G m d s):gz 0 G=aR d 0++s::aR (m-d) 0:=by rw[h.eq,Wg,Wi,Wh,aU]
theorem eS.gapN(h:eS G m d s):aM G=m+1:=by
 show(Internal.gz 0 G).length = _;rw[h.gz,bB,dq,nG,dq,<-cq,uj h.le]
theorem eS.on(h:eS G m d s):On (fP G) (m+1) d s:=by
 have e:∀t,fP G t=(aR d 0++s::aR (m-d) 0).getD t 0:=λt=>by show(Internal.gz 0 G).getD t 0 = _;rw[h.gz]
 have r:∀j t,(aR j 0).getD t 0=0:=λj t=>by
  rw[fc,pg];split<;>rfl
 refine⟨px h.le,?_,λt _ q=>?_⟩
 ·rw[e,fc,mu (by rw[dq];exact aC _),dq,CE];rfl
 ·rw[e,fc];rcases Nat.lt_or_gt_of_ne q with c|c
  ·rw[t5 (by rw[dq];exact c),<-fc,r]
  ·rw[mu (by rw[dq];exact cu c),dq];obtain⟨j,rfl⟩:=xA c;rw[cq,cC,List.getElem?_cons_succ,<-fc,r]
theorem Ge(hk:k<=m):eS (cU (aR (m+s) false) k (k+s-k)) m k s:=by
 rw[cC];have e:∀i,i<m+s->(aR (m+s) false)[i]?=some false:=λi h=>by rw[pg,if_pos h]
 refine⟨(nV ..).trans dq,hk,λi q=>?_,λi q w=>?_,λi q w=>?_⟩
 ·rw[qd,if_neg λz=>absurd z.1 (gR.2 q),e i (aQ q (ai hk (aL ..)))]
 ·rw[qd,if_pos ⟨q,w⟩,e i (aQ w (kR hk s))];rfl
 ·rw[qd,if_neg λz=>absurd z.2 (bc.2 q),e i w]
theorem Gf{s':Nat}(la:a.length=m+s)(lb:b.length=m+s')(hk:k<=m):eS (bP a b [(k,k+s,k,k+s')]).1 m k s/\eS (bP a b [(k,k+s,k,k+s')]).2 m k s':=by
 refine⟨?_,?_⟩
 ·show eS (cU (aR a.length false) k (k+s-k)) m k s;rw[la];exact Ge hk
 ·show eS (cU (aR b.length false) k (k+s'-k)) m k s';rw[lb];exact Ge hk
end
end
section
def Jg(N:List Int)(L:List Ln)(n s k g:Nat)(f:Nat->Nat):Prop:=(g<=k/\On f n k s)\/∃d,d<g/\On f n d s/\lW N L n s k d
def Jz(n:Nat)(f:Nat->Nat):Prop:=∀t,t<n->f t=0
section
variable{N:List Int}{L:List Ln}{n s k g g' m:Nat}{f f' o:Nat->Nat}{a b:List Ln}
theorem Jg.skip(p:0<s)(h:Jg N L n s k g f)(e:f g=0):Jg N L n s k (g+1) f:=h.imp (λz_=>aT z_ λl j=>⟨(jf l).resolve_right λz=>by
 subst z;rw[j.at_]at e;exact absurd e (ip p),j⟩) λz_=>ar z_ λd l j=>⟨d,eL l,j⟩
theorem Jg.set(lt:g<n)(h:Jg N L n s k g f)(p:0<f g)(z:Jz n o)(S:oI N L n o f g f' g'):Jg N L n s k (g'+1) f':=by
 rcases h with⟨_,j⟩|⟨d,l,j,_⟩
 ·by_cases e:g=k
  ·subst e;exact .inr ⟨g',bu _,Gr S j,Qy S j z⟩
  ·rw[j.z g lt e]at p;exact absurd p (gP 0)
 ·rw[j.z g lt (ip l)]at p;exact absurd p (gP 0)
theorem Jg.done(h:Jg N L n s k n f):∃d,On f n d s/\lW N L n s k d:=h.elim (λz=>absurd z.2.lt (bc.2 z.1)) λz_=>ar z_ λd _ j=>⟨d,j⟩
theorem Jz.no{P:Prop}(lt:g<n)(h:Jz n f)(p:0<f g):P:=by
 rw[h g lt]at p;exact absurd p (gP 0)
theorem On.jz(h:On f n k 0):Jz n f:=λt q=>by
 by_cases e:t=k
 ·rw[e,h.at_]
 ·exact h.z t q e
theorem Jz.on(h:Jz n f)(lt:k<n):On f n k 0:=⟨lt,h k lt,λt q _=>h t q⟩
theorem S3(la:a.length=m)(lb:b.length=m+s)(hz:m+s<=400)(hk:k<=m)(p:0<s)(hl:ee a b true 0 0 [(k,k,k,k+s)]) :
  ∃g,lW (nB a b) b (m+1) s k g/\∀n Z(Q:QV),Q (.list [aV (g,g,g,g+s)]) Z->Ph pF (n+5) 8 [.list [aV (k,k,k,k+s)],.list (vY a),.list (vY b)] Z Q:=by
 have M:eS (bP a b [(k,k,k,k+s)]).1 m k 0/\eS (bP a b [(k,k,k,k+s)]).2 m k s:=Gf (s:=0) la lb hk;have e:=M.1.gapN;obtain⟨f,h,cs',j1,j2,_,_,T,run⟩:=yS hl (by rw[la];exact ai (aL ..) hz) (by rw[lb];exact hz) (λ_ f=>Jz (m+1) f) (λ_ g f=>Jg (nB a b) b (m+1) s k g f) M.1.on.jz (λ_ _ _ h _=>h) (λg f _ _ lt h q _=>h.no (e▸lt) q)
  (λ_=>.inl ⟨bJ k,M.2.on⟩) (λ_ _ _ _ h q=>h.skip p q) (λo z g f f' g' lt h q S=>h.set (e▸lt) q z (e▸S))
 rw[e]at j2 T;refine ar j2.done λd od du=>?_;have c:cs'=[(d,d,d,d+s)]:=Fw T.chg ((j1.on du.lt).mk1.chg od.mk1 (.inr p));subst c;exact⟨d,du,run⟩
theorem Qz(la:a.length=m+s)(lb:b.length=m)(hz:m+s<=400)(hk:k<=m)(p:0<s)(hl:ee a b true 0 0 [(k,k+s,k,k)]) :
  ∃g,lW (nA a b) a (m+1) s k g/\∀n Z(Q:QV),Q (.list [aV (g,g+s,g,g)]) Z->Ph pF (n+5) 8 [.list [aV (k,k+s,k,k)],.list (vY a),.list (vY b)] Z Q:=by
 have M:eS (bP a b [(k,k+s,k,k)]).1 m k s/\eS (bP a b [(k,k+s,k,k)]).2 m k 0:=Gf (s':=0) la lb hk;have e:=M.1.gapN;have z0:=M.2.on.jz;obtain⟨f,h,cs',j1,j2,_,_,T,run⟩:=yS hl (by rw[la];exact hz) (by rw[lb];exact ai (aL ..) hz) (λg f=>Jg (nA a b) a (m+1) s k g f) (λ_ _ f=>Jz (m+1) f) (.inl ⟨bJ k,M.1.on⟩) (λ_ _ _ h q=>h.skip p q) (λg f f' g' lt h q S=>h.set (e▸lt) q z0 (e▸S))
  (λ_=>z0) (λ_ _ _ _ h _=>h) (λo _ g f _ _ lt h q _=>h.no (e▸lt) q)
 rw[e]at T;have j1:Jg (nA a b) a (m+1) s k (m+1) f:=e▸j1;refine ar j1.done λd od du=>?_;have c:cs'=[(d,d+s,d,d)]:=Fw T.chg (od.mk1.chg (j2.on du.lt).mk1 (.inl p));subst c;exact⟨d,du,run⟩
end
end
section
noncomputable def dm(aF:List Ln)(s k:Nat):List Ln:=aF.take k++aF.drop (k+s)
def sZ(N:List Int)(L:List Ln):Prop:=∀i j,i<L.length->j<L.length->(N[i]?=N[j]?↔L[i]?=L[j]?)
section
variable{N:List Int}{aF:List Ln}{m s k l:Nat}
theorem qh(hk:k<=m)(lt:aF.length=m+s){i:Nat}(hi:i<m):(dm aF s k)[i]?=if i<k then aF[i]? else aF[i+s]?:=by
 have tk:(aF.take k).length=k:=by rw[eV,lt];exact jg (ai hk (aL ..))
 unfold dm;by_cases c:i<k
 ·rw[if_pos c,t5 (by rw[tk];exact c),List.getElem?_take,if_pos c]
 ·rw[if_neg c,mu (by rw[tk];exact bc.1 c),tk,Kn];obtain⟨j,rfl⟩:=bS (bc.1 c);rw[cC,dK]
theorem vj(hk:k<=m)(lt:aF.length=m+s):(dm aF s k).length=m:=by
 unfold dm;rw[bB,eV,hU,lt,jg (ai hk (aL ..)),JO,uj hk]
theorem TH(hN:sZ N aF)(hk:k<=m)(hl:l<=m)(lt:aF.length=m+s):dm aF s l=dm aF s k↔Sm N s k l:=by
 have tel:∀i,i<m->(N[i]?=N[i+s]?↔aF[i]?=aF[i+s]?):=λi h=>hN i (i+s) (by rw[lt];exact aQ h (aL ..)) (by rw[lt];exact uf h s);refine⟨λe=>⟨λi a b=>?_,λi a b=>?_⟩,λw=>xS λi=>?_⟩
 ·have h:=aQ b hl;have z:(dm aF s l)[i]?=(dm aF s k)[i]?:=congrArg (λl:List Ln=>l[i]?) e;rw[qh hl lt h,qh hk lt h,if_pos b,if_neg (bc.2 a)]at z;exact(tel i h).2 z
 ·have h:=aQ b hk;have z:(dm aF s l)[i]?=(dm aF s k)[i]?:=congrArg (λl:List Ln=>l[i]?) e;rw[qh hl lt h,qh hk lt h,if_neg (bc.2 a),if_pos b]at z;exact(tel i h).2 z.symm
 ·rcases nM i m with h|h
  ·rw[qh hl lt h,qh hk lt h];by_cases a:i<l<;>by_cases b:i<k
   ·rw[if_pos a,if_pos b]
   ·rw[if_pos a,if_neg b];exact(tel i h).1 (w.1 i (bc.1 b) a)
   ·rw[if_neg a,if_pos b];exact((tel i h).1 (w.2 i (bc.1 a) b)).symm
   ·rw[if_neg a,if_neg b]
  ·rw[fH (by rw[vj hl lt];exact h),fH (by rw[vj hk lt];exact h)]
noncomputable def e9(aF:List Ln)(one:List Ln)(m s:Nat):List Nat:=(jM (m+1)).filter λk=>decide (dm aF s k=one)
noncomputable def qW(aF:List Ln)(s:Nat)(S:List Nat):List Nat:=S.filter λk=>i8 (aF.getD (k+s-1) [])
noncomputable def jD(aF:List Ln)(one:List Ln)(m s:Nat):Nat:=if qW aF s (e9 aF one m s)=[] then(e9 aF one m s).getLastD 0 else(qW aF s (e9 aF one m s)).getLastD 0
theorem N0{α:Type}:∀(l:List α)(a:α),l.getLastD a∈a::l:=λrr=>li (λ_=>fI)
 (λb l ih a=>by rw[rC];exact ka _ (ih b)) rr
theorem uU{α:Type}{d:α}:∀{l:List α},l≠[]->l.getLastD d∈l:=@λrr=>li (@λh=>absurd rfl h)
 (@λa l _ _=>by rw[rC];exact N0 l a) rr
theorem EM{d:Nat}:∀{l:List Nat},l.Pairwise (· < ·)->∀{x},x∈l->x<=l.getLastD d:=@λrr=>li (@λ_ _ h=>nm h)
 (@λa l ih p x h=>by
  rw[rC];cases l with
  |nil=>rw[cJ.1 h];exact aC _
  |cons b l=>
   rcases cp.1 h with e|e
   ·subst e;exact cu (List.rel_of_pairwise_cons p (uU (d:=x) (uk b l)))
   ·exact ih (X6 p) e) rr
theorem G0{one:List Ln}(hN:sZ N aF)(hk:k<=m)(lt:aF.length=m+s)(e:dm aF s k=one):lW N aF (m+1) s k (jD aF one m s):=by
 subst e;have ms:∀t,t∈e9 aF (dm aF s k) m s↔t<m+1/\Sm N s k t:=λt=>by
  unfold e9;rw[rG,ur,decide_eq_true_iff];exact and_congr_right λh=>TH hN hk (eU h) lt
 have me:∀t,t∈qW aF s (e9 aF (dm aF s k) m s)↔t∈e9 aF (dm aF s k) m s/\Bl aF s t:=λt=>rG;have p1:(e9 aF (dm aF s k) m s).Pairwise (· < ·):=J1 _ List.pairwise_lt_range;have p2:(qW aF s (e9 aF (dm aF s k) m s)).Pairwise (· < ·):=J1 _ p1;have ne:e9 aF (dm aF s k) m s≠[]:=Kr ((ms k).2 ⟨px hk,λi a b=>absurd a (gR.2 b),λi a b=>absurd a (gR.2 b)⟩);unfold jD;by_cases c:qW aF s (e9 aF (dm aF s k) m s)=[]
 ·rw[if_pos c];have z:=(ms _).1 (uU (d:=0) ne);exact⟨z.1,z.2,.inr λt h q=>⟨EM p1 ((ms t).2 ⟨h,q⟩),λw=>by
   have y:=(me t).2 ⟨(ms t).2 ⟨h,q⟩,w⟩;rw[c]at y;cases y⟩⟩
 ·rw[if_neg c];have z:=(me _).1 (uU (d:=0) c);have y:=(ms _).1 z.1;exact⟨y.1,y.2,.inl ⟨z.2,λt h q l w=>absurd (EM (d:=0) p2 ((me t).2 ⟨(ms t).2 ⟨h,q⟩,w⟩)) (gR.2 l)⟩⟩
end
end
section
section
variable{one aF grp:List Ln}{m s k at':Nat}
theorem Ed{K a:List Ln}(hK:∀u,u∈a->u∈K):sZ (iD K a) a:=by
 intro i j hi hj;rw[iD,cO,cO,bL hi,bL hj];refine⟨λe=>?_,λe=>by rw[dy e]⟩;have e:((K.idxOf a[i]:Nat):Int)=(K.idxOf a[j]:Nat):=dy e;have e:=kX.1 e;rw[<-rB (q6 (hK _ (iR hi))),<-rB (q6 (hK _ (iR hj)))]
 congr 2
theorem S7(a b:List Ln):sZ (nA a b) a:=Ed λu hu=>(pQ b (mD a hu)).1
theorem S8(a b:List Ln):sZ (nB a b) b:=Ed λu hu=>mD b hu
theorem Eu(hk:k<=m)(lt:aF.length=m+s):(dm aF s k).take k=aF.take k/\(dm aF s k).drop k=aF.drop (k+s):=by
 have tk:(aF.take k).length=k:=by rw[eV,lt];exact jg (ai hk (aL ..))
 unfold dm;exact⟨K5 tk,Cb tk⟩
theorem Uc(hk:k<=m)(lt:aF.length=m+s)(p:0<s)(e:dm aF s k=one):ee one aF true 0 0 [(k,k,k,k+s)]:=by
 subst e;have z:=Eu hk lt;exact⟨⟨bJ k,rfl,(λh=>nomatch h),aC _,aL ..,by rw[vj hk lt];exact hk,by rw[lt];exact kR hk s,.inr (hE p),z.1⟩,z.2⟩
theorem R7(hk:k<=m)(lt:aF.length=m+s)(p:0<s)(e:dm aF s k=one):ee aF one true 0 0 [(k,k+s,k,k)]:=by
 subst e;have z:=Eu hk lt;exact⟨⟨bJ k,rfl,(λh=>nomatch h),aL ..,aC _,by rw[lt];exact kR hk s,by rw[vj hk lt];exact hk,.inl (hE p),z.1.symm⟩,z.2.symm⟩
theorem Td(h:at'<=one.length):(one.take at'++grp++one.drop at').length=one.length+grp.length:=by
 rw[bB,bB,eV,hU,jg h,dK,uj h]
theorem Tc(h:at'<=one.length):dm (one.take at'++grp++one.drop at') grp.length at'=one:=by
 have tk:(one.take at').length=at':=by rw[eV];exact jg h
 unfold dm;rw[eT,K5 tk,<-rJ,Cb tk,Cm,Bz]
theorem PW(hk:k<=m)(lo:one.length=m)(lt:aF.length=m+s)(hz:m+s<=400)(p:0<s)(e:dm aF s k=one):∀n Z(Q:QV),Q (.list [aV (jD aF one m s,jD aF one m s,jD aF one m s,jD aF one m s+s)]) Z->Ph pF (n+5) 8 [.list [aV (k,k,k,k+s)],.list (vY one),.list (vY aF)] Z Q:=by
 refine ar (S3 lo lt hz hk p (Uc hk lt p e)) λg d run=>?_;have z:=d.one (G0 (S8 one aF) hk lt e) ⟨λi a b=>absurd a (gR.2 b),λi a b=>absurd a (gR.2 b)⟩;subst z;exact run
theorem Ob(hk:k<=m)(lo:one.length=m)(lt:aF.length=m+s)(hz:m+s<=400)(p:0<s)(e:dm aF s k=one):∀n Z(Q:QV),Q (.list [aV (jD aF one m s,jD aF one m s+s,jD aF one m s,jD aF one m s)]) Z->Ph pF (n+5) 8 [.list [aV (k,k+s,k,k)],.list (vY aF),.list (vY one)] Z Q:=by
 refine ar (Qz lt lo hz hk p (R7 hk lt p e)) λg d run=>?_;have z:=d.one (G0 (S7 aF one) hk lt e) ⟨λi a b=>absurd a (gR.2 b),λi a b=>absurd a (gR.2 b)⟩;subst z;exact run
end
end
section
section
variable{C:ax}{J:aj}{Z:ae}
theorem zr{a b:E}{l r:List V}(h:Ev C a J Z (.list l))(k:Ev C b J Z (.list r))(hz:l.length+r.length<=aJ):Ev C (.b .add a b) J Z (.list (l++r)):=fN h k (if_pos hz)
theorem vk{a b:E}{p q:List Ln}(h:Ev C a J Z (.list (vY p)))(k:Ev C b J Z (.list (vY q)))(hz:p.length+q.length<=aJ):Ev C (.b .add a b) J Z (.list (vY (p++q))):=λQ w=>zr h k (by rw[aY,aY];exact hz) Q (by rw[<-dw];exact w)
theorem yY{a c:E}{p:List Ln}{j:Nat}(h:Ev C a J Z (.list (vY p)))(m:Ev C c J Z (nI j)):Ev C (.l a (.c .none) c) J Z (.list (vY (p.take j))):=λQ q=>zt h m Q (by rw[za,uL];exact q)
theorem Gn:∀(k x:Nat),cA (x:Int) 1 k=(uA x k).map nI:=λrr=>ni (λ_=>rfl)
 (λk ih x=>by
  show V.int (x:Int)::cA ((x:Int)+1) 1 k=nI x::(uA (x+1) k).map nI;rw[show(x:Int)+1=((x+1:Nat):Int) from rfl,ih (x+1)]) rr
theorem RC{e t:E}{caps:List Nat}{own:List cM}{v:Nat}{k:Nat}(p:Nat->Bool)(hk:k<=1000)(he:Ev C e J Z (nI k))(H:∀i,i<k->∃J',d8 (.v v) (nI i) (caps.map (rd J)++aR own.length none)=some J'/\Ev C t J' Z (.bool (p i))/\rd J' v=some (nI i)) :
  Ev C (.comp caps own (.v v) (.range [e]) [t] (.x v)) J Z (.list (((jM k).filter p).map nI)):=λQ q=>
 yW [((k:Nat):Int)] (λQ q=>he _ q) (D3 hk) (nS (jM k) nI nI p (by rw[ui];exact ai hk (by decide)) (λi=>by rw[List.range_eq_range',<-Gn];rfl) (λi hi=>(H i (ur.1 hi)).imp λJ' w=>⟨w.1,λQ q=>w.2.1 Q q,λ_=>aa w.2.2⟩) q)
theorem RD{e t:E}{caps:List Nat}{own:List cM}{v:Nat}{l:List Nat}(p:Nat->Bool)(hk:l.length<=aJ)(he:Ev C e J Z (.list (l.map nI)))(H:∀i,i∈l->∃J',d8 (.v v) (nI i) (caps.map (rd J)++aR own.length none)=some J'/\Ev C t J' Z (.bool (p i))/\rd J' v=some (nI i)) :
  Ev C (.comp caps own (.v v) (.seq e) [t] (.x v)) J Z (.list ((l.filter p).map nI)):=λQ q=>
 pX (he _ (ao rfl (nS l nI nI p hk (λ_=>rfl) (λi hi=>(H i hi).imp λJ' w=>⟨w.1,λQ q=>w.2.1 Q q,λ_=>aa w.2.2⟩) q)))
theorem yX{e:E}{l:List Nat}(he:Ev C e J Z (.list (l.map nI)))(n:l≠[]):Ev C (.i e (.neg (.c (.int 1)))) J Z (nI (l.getLastD 0)):=bW he kE (by
 show fE (l.map nI) (-1) = _;have p:0<(l.map nI).length:=mw.2 λz=>n (xK.1 z);have e:(l.map nI).getLast?=some (nI (l.getLastD 0)):=by
  rw[BX];cases l with
  |nil=>exact absurd rfl n
  |cons a l=>rw[Ko,rC,Jn];rfl
 unfold fE;rw[if_neg (by decide),if_pos (by exact au [_] [] (.li .k0 (.a (.o .k1) .c0)) 1 [(1,.tn .k0 .v0)] rfl p),<-e,Br];refine bA (Bo (ip p)) λn e=>?_;rw[e];exact congrArg (λi:Nat=>(l.map nI)[i]?) n1)
theorem Dv{n:Nat}{a b c d:E}{w x y z:Nat}(h:Ev (Ph pF (n+1)) a J Z (nI w))(i:Ev (Ph pF (n+1)) b J Z (nI x))(j:Ev (Ph pF (n+1)) c J Z (nI y))(k:Ev (Ph pF (n+1)) d J Z (nI z)):Ev (Ph pF (n+1)) (.new true 0 [a,b,c,d]) J Z (aV (w,x,y,z)):=λQ q=>h _ (i _ (j _ (k _ λd hd=>GY hd q)))
section
variable{one aF grp:List Ln}{at' m s:Nat}
theorem TJ{C:ax}{J:aj}{Z:ae}{a b k c:E}{i:Nat}(lt:aF.length<=800)(ha:Ev C a J Z (.list (vY aF)))(hk:Ev C k J Z (nI i))(hc:Ev C c J Z (nI s))(hb:Ev C b J Z (.list (vY one))):aI C (.m .eq (.b .add (.l a (.c .none) k) (.l a (.b .add k c) (.c .none))) b) J Z (dm aF s i=one):=
 vp (p:=aF.take i++aF.drop (i+s)) (vk (yY ha hk) (pZ ha (bh hk hc rfl)) (by
  rw[eV,hU];exact ai (ff (ai (pA ..) lt) (ai (ew ..) lt)) (by decide))) hb
end
end
end
section
section
variable{one aF grp:List Ln}{at' m s:Nat}
theorem O4{C:ax}{J:aj}{Z:ae}{e:E}{l:List Nat}(he:Ev C e J Z (.list (l.map nI)))(n:l≠[]):Ev C (.i e (.c (.int 0))) J Z (nI (l.headD 0)):=bW he Ev.cn (by
 cases l with
 |nil=>exact absurd rfl n
 |cons a l=>exact jN (i:=0) rfl)
theorem TK{C:ax}{J:aj}{Z:ae}{a b:E}{em st:List Nat}(ha:Ev C a J Z (.list (em.map nI)))(hb:Ev C b J Z (.list (st.map nI)))(n:st≠[]):Ev C (.ite (.m .ne a (.lst false [])) (.i a (.neg (.c (.int 1)))) (.i b (.neg (.c (.int 1))))) J Z (nI (if em=[] then st.getLastD 0 else em.getLastD 0)):=λQ q=>by
 have t:aI C (.m .ne a (.lst false [])) J Z (em≠[]):=yZ (g:=nI) (eq:=λa b=>(a:Int)==b) (λ_ _=>rfl) (λ_ _=>beq_iff_eq.trans kX) ha (q:=[]) λQ q=>q;by_cases c:em=[]
 ·rw[if_pos c]at q;exact iu t (λz=>z c) (yX hb n Q q)
 ·rw[if_neg c]at q;exact iY t c (yX ha c Q q)
theorem ku{C:ax}{J:aj}{Z:ae}{a:E}{u:V}(h:Ev C a J Z u):Ev C (.lst false [a]) J Z (.list [u]):=λQ q=>h _ q
theorem Gh{α:Type}{x:α}:[x].length<=aJ:=show 1<=aJ by decide
theorem Te{α:Type}{x y:α}:[x,y].length<=aJ:=show 2<=aJ by decide
theorem Sy(x y:Cg):tV x y=true↔x=y:=by
 obtain⟨x1,x2,x3,x4⟩:=x;obtain⟨y1,y2,y3,y4⟩:=y;unfold tV;simp[kX]
theorem O6{C:ax}{J:aj}{Z:ae}{a b:E}{p q:List (List Cg)}(ha:Ev C a J Z (.list (p.map λc=>.list (c.map kO))))(hb:Ev C b J Z (.list (q.map λc=>.list (c.map kO)))):aI C (.m .eq a b) J Z (p=q):=
 uQ (eq:=λx y=>decide (x=y)) (λx y=>(A3 (n:=2) (g:=kO) (eq:=tV) (λ_ _=>rfl) Sy x y).elim λt w=>w.1.trans (congrArg some (by
  by_cases c:x=y
  ·rw[w.2.2 c,decide_eq_true c]
  ·rw[decide_eq_false c];cases t with
   |true=>exact absurd (w.2.1 rfl) c
   |false=>rfl))) (λ_ _=>decide_eq_true_iff) ha hb
theorem Mx(hp:0<grp.length)(h1:one.length<=4)(h2:grp.length<=4)(ha:at'<=one.length)(hb:∀x,x∈one\/x∈grp->(i8 x=true↔x=[10])){n:Nat}{Z:ae}{Q:QV}(q:Q (.bool true) Z) :
  Ph pF (n+6) 24 [.list (vY one),.list (vY grp),nI at'] Z Q:=by
 have lt:=Td (grp:=grp) ha;have ct:=Tc (grp:=grp) ha;have bt:∀x,x∈one.take at'++grp++one.drop at'->(i8 x=true↔x=[10]):=λx hx=>hb x (by
  rcases gw.1 hx with h|h
  ·rcases gw.1 h with h|h
   ·exact .inl (rj h)
   ·exact .inr h
  ·exact .inl (BE h))
 have z1:(one.take at').length+grp.length<=aJ:=by rw[eV];exact ai (ff (ai (pA ..) h1) h2) (by decide)
 have z2:(one.take at'++grp).length+(one.drop at').length<=aJ:=by rw[<-bB,lt];exact ai (ff h1 h2) (by decide)
 refine bN (J:=[some (.list (vY one)),some (.list (vY grp)),some (nI at'),none,none,none,none,none,none,none]) rfl ?_;refine fL (vk (vk (yY (aa rfl) (aa rfl)) (aa rfl) z1) (pZ (aa rfl) (aa rfl)) z2) (iq (aa rfl)) rfl ?_;generalize one.take at'++grp++one.drop at'=aF at lt ct bt
 generalize grp.length=s at hp h2 lt ct
 have l8:aF.length<=8:=by rw[lt];exact ff h1 h2
 have lz:one.length+s<=400:=ai (ff h1 h2) (by decide);refine bM (v:=.list ((e9 aF one one.length s).map nI)) (RC (k:=one.length+1) (λk=>decide (dm aF s k=one)) (ai (cK h1) (by decide)) (bh (iq (aa rfl)) Ev.cn rfl) λi hi=>⟨[some (.list (vY one)),some (.list (vY aF)),some (nI s),some (nI i)],rfl,ju (TJ (ai l8 (by decide)) (aa rfl) (aa rfl) (aa rfl) (aa rfl)) decide_eq_true_iff,rfl⟩) ?_;have ms:∀t,t∈e9 aF one one.length s->t<=one.length/\dm aF s t=one:=λt h=>by
  have z:=rG.1 h;exact⟨eU (ur.1 z.1),of_decide_eq_true z.2⟩
 have ne:e9 aF one one.length s≠[]:=Kr (a:=at') (rG.2 ⟨ur.2 (px ha),decide_eq_true ct⟩);have sl:(e9 aF one one.length s).length<=aJ:=ai (JN ..) (by rw[ui];exact ai (cK h1) (by decide));refine bM (v:=.list ((qW aF s (e9 aF one one.length s)).map nI)) (RD (λk=>i8 (aF.getD (k+s-1) [])) sl (aa rfl) λi hi=>⟨[some (.list (vY aF)),some (nI s),some (nI i)],rfl,?_,rfl⟩) ?_
 ·have il:i+s-1<aF.length:=by
   rw[lt];exact aQ (nO (aQ hp (df ..)) mC) (kR (ms i hi).1 s)
  have ie:aF.getD (i+s-1) []=aF[i+s-1]:=by rw[fc,bL il];rfl
  rw[ie];refine ju (yE (x:=aF[i+s-1]) (bW (aa rfl) (cv (r:=((i+s-1:Nat):Int)) (bh (r:=((i+s:Nat):Int)) (aa rfl) (aa rfl) rfl) Ev.cn (by
   rw[jh (ai hp (df ..))];rfl)) (jN (by rw[cO,bL il];rfl))) Ev.cn) (bt _ (iR il))
 refine bM (v:=nI (jD aF one one.length s)) (TK (aa rfl) (aa rfl) ne) ?_;generalize hd:jD aF one one.length s=d
 refine bM (v:=.list ([(e9 aF one one.length s).headD 0,(e9 aF one one.length s).getLastD 0].map λ_=>.list ([((d,d,d,d+s):Cg)].map kO))) (λQ q=>pX (n7 (O4 (aa rfl) ne) (yX (aa rfl) ne) _ (ao rfl (uN [(e9 aF one one.length s).headD 0,(e9 aF one one.length s).getLastD 0] nI (λ_=>.list ([((d,d,d,d+s):Cg)].map kO)) Te (λ_=>rfl) (λk hk=>⟨[some (.list (vY one)),some (.list (vY aF)),some (nI s),some (nI k)],rfl,?_⟩) q)))) ?_
 ·have km:k∈e9 aF one one.length s:=by
   rcases cp.1 hk with e|hk
   ·subst e;generalize e9 aF one one.length s=l at ne
    cases l with
    |nil=>exact absurd rfl ne
    |cons a l=>exact fI
   ·rw[cJ.1 hk];exact uU ne
  have run:=PW (ms k km).1 rfl lt lz hp (ms k km).2;rw[hd]at run;exact gC (ko (ku (Dv (n:=n+4) (w:=k) (x:=k) (y:=k) (z:=k+s) (aa rfl) (aa rfl) (aa rfl) (bh (aa rfl) (aa rfl) rfl))) (aa rfl) (aa rfl) λQ q=>run n Z Q q) λQ q=>uC (cs:=[(d,d,d,d+s)]) Gh q
 have run:=Ob ha rfl lt lz hp ct;rw[hd]at run;refine bM (v:=.list ([((d,d+s,d,d):Cg)].map kO)) (gC (ko (ku (Dv (n:=n+4) (w:=at') (x:=at'+s) (y:=at') (z:=at') (aa rfl) (bh (aa rfl) (aa rfl) rfl) (aa rfl) (aa rfl))) (aa rfl) (aa rfl) λQ q=>run n Z Q q) λQ q=>uC (cs:=[(d,d+s,d,d)]) Gh q) ?_;refine eF (ju (t:=true) (iU (O6 (p:=[[(d,d,d,d+s)],[(d,d,d,d+s)]]) (q:=aR 2 [(d,d,d,d+s)]) (aa rfl) (vS (k:=2) (ku (jo (aa rfl) (aa rfl) (aa rfl) (bh (aa rfl) (aa rfl) rfl))) Ev.cn (by decide))) λ_=>C6 (p:=[(d,d+s,d,d)]) (q:=[(d,d+s,d,d)]) (aa rfl) (ku (jo (aa rfl) (bh (aa rfl) (aa rfl) rfl) (aa rfl) (aa rfl)))) (iff_of_true rfl ⟨rfl,rfl⟩)) (bX q)
end
end
section
def fU(L:List Ln):Prop:=∀w,w∈L->∃k,jR k=true/\w=[k,10]
section
variable{L:List Ln}
theorem fU.tail{w:Ln}(h:fU (w::L)):fU L:=λu hu=>h u (ka _ hu)
theorem uR:∀{L:List Ln},fU L->L.flatten.length=2*L.length:=@λrr=>li (@λ_=>rfl)
 (@λw L ih h=>by
  obtain⟨k,_,rfl⟩:=h w fI;show L.flatten.length+2=2*(L.length+1);rw[ih h.tail,Nat.mul_succ]) rr
theorem DA:∀{L:List Ln}{i:Nat},fU L->L.flatten.drop (2*i)=(L.drop i).flatten
 |[],i,_=>by rw[uv];exact uv
 |_::_,0,_=>rfl
 |w::L,i+1,h=>by
  obtain⟨k,_,rfl⟩:=h w fI;exact DA (L:=L) (i:=i) h.tail
theorem F7{i:Nat}(h:fU L)(hi:i<L.length):∃k,jR k=true/\L[i]=[k,10]/\L.flatten.drop (2*i)=k::10::(L.drop (i+1)).flatten:=by
 refine ar (h _ (iR hi)) λk a e=>?_;refine⟨k,a,e,?_⟩;rw[DA h,jI hi,e];rfl
theorem Sl{k:UInt8}(h:jR k=true):k≠10:=λe=>by
 subst e;exact absurd h (by decide)
theorem Rt{C:ax}{a c i:E}{b d:List UInt8}{x r:V}{J:aj}{Z:ae}(h:Ev C a J Z (.bytes b))(k:Ev C c J Z (.bytes d))(m:Ev C i J Z x)(e:m6 Z (.bytes b) .find [.bytes d,x]=some r):Ev C (.bm a .find [c,i]) J Z r:=λQ q=>h _ ⟨rfl,k _ (m _ (by exact ao e q))⟩
theorem Rv{C:ax}{a:E}{b:List UInt8}{J:aj}{Z:ae}(h:Ev C a J Z (.bytes b)):Ev C (.bi .len [a]) J Z (nI b.length):=λQ q=>kz (h _ (ao rfl q))
theorem zu{C:ax}{a b c:E}{u v w x:V}{J:aj}{Z:ae}(h:Ev C a J Z u)(k:Ev C b J Z v)(m:Ev C c J Z w)(e:oO Z u v w=some x):Ev C (.l a b c) J Z x:=λQ q=>h _ (k _ (m _ (ao e q)))
noncomputable abbrev IF:List S:=[.s (.v 3) (.bm (.x 0) .find [.c (.bytes [10]),.x 2]),
   .s (.v 3) (.ite (.m .lt (.x 3) (.c (.int 0))) (.bi .len [.x 0]) (.b .add (.x 3) (.c (.int 1)))),
   .ex (.bm (.x 1) .append [.l (.x 0) (.x 2) (.x 3)]),
   .s (.v 2) (.x 3)]
noncomputable def Be(L:List Ln)(f i:Nat)(j:Option V):aj:=[some (.bytes L.flatten),some (.ref f),some (nI (2*i)),j]
noncomputable def mn(L:List Ln)(f:Nat)(Z:ae)(i:Nat):ae:=ak Z f (.list (vY (L.take i)))
theorem PK{i f n:Nat}{Z:ae}{j:Option V}(h:fU L)(hz:L.length<=400)(hi:i<L.length){Q:QO}(q:∀j,Q .next (Be L f (i+1) j) (mn L f Z (i+1))):az (Ph pF n) IF (Be L f i j) (mn L f Z i) Q:=by
 refine cm (F7 h hi) λk a e fl=>?_;have fd:m6 (mn L f Z i) (.bytes L.flatten) .find [.bytes [10],nI (2*i)]=some (nI (2*i+1)):=by
  show(if 0<=((2*i:Nat):Int)/\((2*i:Nat):Int).toNat<=L.flatten.length then some (V.int (vv ((2*i:Nat):Int) (lN 10 (L.flatten.drop ((2*i:Nat):Int).toNat)))) else none) = _;rw[hM,if_pos ⟨eK _,by rw[uR h];exact rA 2 (cu hi)⟩,fl];show some (V.int (vv _ (if k=10 then some 0 else((if (10:UInt8)=10 then some 0 else(lN 10 _).map (·+1)):Option Nat).map (·+1)))) = _;rw[if_neg (Sl a),if_pos rfl];rfl
 have sl:oO (mn L f Z i) (.bytes L.flatten) (nI (2*i)) (nI (2*i+2))=some (.bytes L[i]):=by
  show(e8 0 (nI (2*i))).bind (λx=>(e8 L.flatten.length (nI (2*i+2))).map λy=>V.bytes (aH L.flatten x y)) = _;rw[n5,n5];show some (V.bytes (aH L.flatten (2*i) (2*i+2))) = _;unfold aH;rw[kh,cC,fl,e];rfl
 have ap:mn L f Z (i+1)=ak (mn L f Z i) f (.list (vY (L.take i)++[.bytes L[i]])):=by
  unfold mn;rw[dX,Ja hi];exact congrArg (λl=>ak Z f (M.list l)) dw
 have ln:(vY (L.take i)).length<aJ:=by
  rw[aY,eV];exact bC (ai (pA ..) hz) (by decide)
 refine bM (v:=nI (2*i+1)) (Rt (aa rfl) Ev.cn (aa rfl) fd) ?_;refine bM (v:=nI (2*i+2)) (λQ q=>iu (sO (aa rfl) Ev.cn) (jL.2 (eK (2*i+1))) (bh (aa rfl) Ev.cn rfl Q q)) ?_;refine z6 (aa rfl) (aP ..) (zu (aa rfl) (aa rfl) (aa rfl) sl) ln ?_;rw[<-ap];exact bM (aa rfl) (q (some (nI (2*i+2))))
theorem EP(h:fU L)(hz:L.length<=400){n:Nat}{Z:ae}{Q:QV}(q:Q (.list (vY L)) Z):Ph pF (n+1) 0 [.bytes L.flatten] Z Q:=by
 obtain⟨i,hi,hn,run⟩:=fi (C:=λ_:Nat×ae=>Ph pF n) (c:=.m .lt (.x 2) (.bi .len [.x 0])) (b:=IF) (λr i(j:Option V)=>Be L r.1 i j) (λr i=>mn L r.1 r.2 i) (λi=>i<=L.length) (λi=>L.length-i) (λi=>i<L.length)
  (λi _ r j=>ir (eY (i:=2*i) (j:=L.flatten.length) (aa rfl) (Rv (aa rfl))) (by rw[uR h];exact Nat.mul_lt_mul_left (by decide)))
  (λi _ hi=>⟨i+1,hi,kc hi (bu i),λr j Q q=>PK h hz hi λj=>q j _ (Sub.refl' _)⟩) 0 (bJ _)
 have e:i=L.length:=cX hi (bc.1 hn);subst e;refine bN (J:=[some (.bytes L.flatten),none,none,none]) rfl λf hf=>?_;refine bM Ev.cn (aO (run (f,Z) none _ λj=>eF (aa rfl) (tY (l:=vY L) ?_ hf (sJ hf) q)));unfold mn;rw[aP,nH]
end
end
section
section
variable{L:List Ln}
theorem Dh(k:Nat)(hk:k<=400):jT [(k:Int)-1,-1,-1]=some (cA ((k:Int)-1) (-1) k):=by
 show(if (eD ((k:Int)-1)=true/\eD (-1)=true)/\((-1:Int)=2\/(-1:Int) = -1) then some (mV ((k:Int)-1) (-1) (-1)) else none) = _;rw[if_pos ⟨⟨qu (by exact au [_] [] (.li (.o (.k 1048576)) (.s .c0 .k1)) 1 [] rfl) (by exact au [_] [] (.li (.s .c0 .k1) (.k 1048576)) 1 [(1,.ln .v0 (.k 400))] rfl hk),qu (by decide) (by decide)⟩,.inr rfl⟩];have e:(mr ((k:Int)-1) (-1) (-1)).toNat=k:=by
  unfold mr;rw[if_neg (by decide)];rw[show(-(-1:Int))=1 from rfl,LO];cases k with
  |zero=>rfl
  |succ k=>
   rw[if_pos (by exact au [_] [] (.ti (.o .k1) (.s (.c (.a .v0 .k1)) .k1)) 1 [] rfl),show((k+1:Nat):Int)-1 - -1-1+1=((k+1:Nat):Int) from bR [_] [] (.a (.s (.s (.s (.c (.a .v0 .k1)) .k1) (.o .k1)) .k1) .k1) (.c (.a .v0 .k1)) [] rfl];rfl
 exact congrArg (λt=>some (cA _ (-1) t)) e
theorem O2{C:ax}{a:E}{c:UInt8}{J:aj}{Z:ae}(h:Ev C a J Z (.bytes [c])):Ev C (.bm a .isalpha []) J Z (.bool (jR c)):=λQ q=>by
 have g:aK (m6 Z (.bytes [c]) .isalpha []) λr=>Q r Z:=ao (a:=V.bool (jR c)) rfl q;exact h _ ⟨rfl,g⟩
theorem NF{C:ax}{a:E}{b:List UInt8}{J:aj}{Z:ae}(h:Ev C a J Z (.bytes b)):Ev C (.bm a .rstrip []) J Z (.bytes (lD ot b)):=λQ q=>by
 have g:aK (m6 Z (.bytes b) .rstrip []) λr=>Q r Z:=ao (a:=V.bytes (lD ot b)) rfl q;exact h _ ⟨rfl,g⟩
noncomputable def tR(a:List Ln):Nat->Ln
 |0=>[]
 |k+1=>lD ot (a.getD k [])
theorem MT(h:fU L){k:Nat}(hk:k<=L.length)(hz:L.length<=400):∀{n:Nat}{Z:ae}{Q:QV},Q (.bytes (tR L k)) Z->Ph pF (n+1) 9 [.list (vY L),nI k] Z Q:=by
 cases k with
 |zero=>exact λ{n Z Q}q=>bN (J:=[some (.list (vY L)),some (nI 0),none,none]) rfl (aO (sE [((0:Nat):Int)-1,-1,-1] (λQ q=>cv (aa rfl) Ev.cn rfl _ (kE _ (kE _ q))) (Dh 0 (bJ _)) ⟨1,ao rfl (eF Ev.cn (bX q))⟩))
 |succ k=>
  obtain⟨c,ca,e,_⟩:=F7 h hk;intro n Z Q q;have hw:tR L (k+1)=lD ot [c,10]:=by
   show lD ot (L.getD k []) = _;rw[fc,bL hk];exact congrArg (lD ot) e
  rw[hw]at q;refine bN (J:=[some (.list (vY L)),some (nI (k+1)),none,none]) rfl (aO (sE [((k+1:Nat):Int)-1,-1,-1] (λQ q=>cv (aa rfl) Ev.cn rfl _ (kE _ (kE _ q))) (Dh (k+1) (ai hk hz)) ⟨1,ao (a:=some (nI k)) ?_ (ao rfl ?_)⟩))
  ·show some (cA (((k+1:Nat):Int)-1) (-1) (k+1))[0]? = _;show some (some (V.int (((k+1:Nat):Int)-1))) = _;rw[Int.natCast_succ,xM]
  ·have ix:eP Z (.list (vY L)) (nI k)=some (.bytes [c,10]):=jN (by rw[cO,bL hk,e];rfl);refine bM (v:=.bytes [c]) (zu (bW (aa rfl) (aa rfl) ix) Ev.cn Ev.cn rfl) ?_;refine aO (dF (p:=jR c=true\/True) (iW ⟨jR c,sr,O2 (aa rfl)⟩ λn=>absurd ca n) (.inl ca) ?_);exact eF (NF (zu (bW (aa rfl) (aa rfl) ix) Ev.cn Ev.cn rfl)) (bX q)
end
end
section
noncomputable abbrev Rw:=UInt8×Ln
noncomputable def gM(r:Rw):V:=.tup [.bytes [r.1],.bytes r.2]
noncomputable def cE(s:UInt8)(l:List Ln):List Rw:=l.map λw=>(s,w)
noncomputable def ez(a b:List Ln)(e:Nat):Nat->List Cg->List Rw
 |x,[]=>cE 32 (aH a x e)
 |x,c::g=>cE 32 (aH a x c.1)++(cE 45 (aH a c.1 c.2.1)++(cE 43 (aH b c.2.2.1 c.2.2.2)++ez a b e c.2.1 g))
section
variable{Z:ae}{J:aj}{rest:List S}{Q:QO}
theorem qe{n:Nat}{d c x:Nat}{i:Nat}{fs fs':List (bG×V)}{v:V}(h0:rd J 0=some (.inst c d))(hx:rd J i=some v)(hn:(dH c).contains x=true)(hl:fs.length<=100)(e:setA fs x v=fs')(q:az (Ph pF n) rest J (ak Z d (.attrs c fs')) Q) :
  az (Ph pF n) (.s (.a (.x 0) x) (.x i)::rest) J (ak Z d (.attrs c fs)) Q:=
 bM (aa hx) (yU (aa h0) (aP ..) hn hl (by rw[dX,e];exact q))
noncomputable abbrev HX(i j k l:V)(r:List V)(w:Ln):V:=.obj 4 [i,j,k,l,.list r,.bytes w]
theorem PY{n d f:Nat}{i j k l:Int}{r:List V}{w:Ln}(hd:Z d=none)(hf:Z f=some (.list r)){Q:QV}(q:Q (HX (.int i) (.int j) (.int k) (.int l) r w) (fW Z f)) :
  Ph pF (n+1) 54 [.inst 4 d,.int i,.int j,.int k,.int l,.ref f,.bytes w] (ak Z d (.attrs 4 [])) λr Z=>lP true 4 d r Z Q:=by
 refine bN (J:=[some (.inst 4 d),some (.int i),some (.int j),some (.int k),some (.int l),some (.ref f),some (.bytes w)]) rfl ?_;refine qe rfl rfl rfl (dR rfl) rfl (qe rfl rfl rfl (dR rfl) rfl (qe rfl rfl rfl (dR rfl) rfl (qe rfl rfl rfl (dR rfl) rfl (qe rfl rfl rfl (dR rfl) rfl (qe rfl rfl rfl (dR rfl) rfl ?_)))));refine bX (ao rfl (ao (a:=(4,[(14,.int i),(15,.int j),(16,.int k),(17,.int l),(18,.ref f),(19,.bytes w)])) (by unfold gI;rw[aP];rfl) ⟨rfl,rfl,?_⟩));have e:fW (ak Z d (.attrs 4 [(14,.int i),(15,.int j),(16,.int k),(17,.int l),(18,.ref f),(19,.bytes w)])) d=Z:=funext λb=>by
  unfold fW ak;by_cases h:b=d
  ·rw[if_pos h,h,hd]
  ·rw[if_neg h,if_neg h]
 show Q (.obj 4 (gK (fW (ak Z d (.attrs 4 [(14,.int i),(15,.int j),(16,.int k),(17,.int l),(18,.ref f),(19,.bytes w)])) d) [.int i,.int j,.int k,.int l,.ref f,.bytes w]).1) (gK (fW (ak Z d (.attrs 4 [(14,.int i),(15,.int j),(16,.int k),(17,.int l),(18,.ref f),(19,.bytes w)])) d) [.int i,.int j,.int k,.int l,.ref f,.bytes w]).2;rw[e];have g:gK Z [.ref f,.bytes w]=([.list r,.bytes w],fW Z f):=by
  have z:jF Z (.ref f)=some (f,r):=by show(cc Z f).map _ = _;rw[gU hf];rfl
  unfold gK;rw[z];rfl
 have g4:gK Z [.int i,.int j,.int k,.int l,.ref f,.bytes w]=([.int i,.int j,.int k,.int l,.list r,.bytes w],fW Z f):=by
  show(V.int i::V.int j::V.int k::V.int l::(gK Z [.ref f,.bytes w]).1,(gK Z [.ref f,.bytes w]).2) = _;rw[g]
 rw[g4];exact q
theorem He{C:ax}{e a:E}{g:Nat}{l r:List V}(he:Ev C e J Z (.ref g))(hg:Z g=some (.list l))(ha:Ev C a J Z (.list r))(hl:l.length+r.length<=aJ)(q:az C rest J (ak Z g (.list (l++r))) Q):az C (.ex (.bm e .extend [a])::rest) J Z Q:=
 he _ ⟨iZ hg rfl,ha _ (gc (ao (a:=(g,l)) (by show(cc Z g).map _ = _;rw[gU hg];rfl) (ao rfl (ao rfl ⟨hl,ao rfl q⟩))))⟩
theorem Ru{C:ax}{g:Nat}{v:V}(h:qy g=some v):Ev C (.g g) J Z v:=λQ q=>ao h q
theorem y6{α:Type}(p q:List α):p.length<=(p++q).length:=by rw[bB];exact aL ..
theorem sL(s:UInt8)(p:List Ln):(cE s p).length=p.length:=aY ..
theorem vu{C:ax}{f gl:Nat}{s:UInt8}{own:List cM}{acc:List Rw}{p:List Ln}{e:E}(hv:rd J 6=some (.ref f))(ho:aR own.length (none:Option V)=[none])(hg:qy gl=some (.bytes [s]))(he:Ev C e J (ak Z f (.list (acc.map gM))) (.list (vY p)))(hl:(acc++cE s p).length<=aJ)(q:az C rest J (ak Z f (.list ((acc++cE s p).map gM))) Q) :
  az C (.ex (.bm (.x 6) .extend [.comp [] own (.v 0) (.seq e) [] (.tup [.g gl,.x 0])])::rest) J (ak Z f (.list (acc.map gM))) Q:=by
 have pl:p.length<=aJ:=by rw[bB,sL]at hl;exact ai (df ..) hl
 refine He (r:=(cE s p).map gM) (aa hv) (aP ..) (λQ q=>mH p V.bytes (λw=>gM (s,w)) pl he (λw _=>⟨[some (.bytes w)],by rw[ho];rfl,n7 (Ru hg) (aa rfl)⟩) Q (by unfold cE at q;rw[ig]at q;exact q)) (by rw[aY,aY,<-bB];exact hl) ?_;rw[dX,<-dw];exact q
end
end
section
noncomputable def AS(g:List Cg):Cg:=g.headD (0,0,0,0)
noncomputable def bO(g:List Cg):Cg:=g.getLastD (0,0,0,0)
def iF(a b:List Ln)(K e e':Nat):Bool->Nat->Nat->List Cg->Prop
 |_,x,y,[]=>x<=e/\y+e=x+e'/\aH a x e=aH b y e'
 |f,x,y,c::g=>Lc a b f x y c/\(f=false->c.1<=x+K)/\iF a b K e e' false c.2.1 c.2.2.2 g
theorem DJ{x y e e':Nat}(h:x<=e)(k:y+e=x+e'):y<=e':=au [_,_,_,_] [] (.ln .v0 .v1) 1 [(1,.en (.a .v0 .v2) (.a .v3 .v1)),(1,.ln .v3 .v2)] rfl k h
theorem iF.le{a b:List Ln}{K e e':Nat}:∀{g:List Cg}{f:Bool}{x y:Nat},iF a b K e e' f x y g->x<=e/\y<=e'
 :=λ{g}=>@(li (λ{_ _ _}h=>⟨h.1,DJ h.1 h.2.1⟩) (λc g ih{_ _ _}h=>⟨ai h.1.l (ai h.1.o (ih h.2.2).1),ai h.1.yy (ai h.1.i (ih h.2.2).2)⟩) g)
noncomputable abbrev IV:List S:=[.ex (.bm (.x 6) .extend [.comp [] [("line":cM)] (.v 0) (.seq (.l (.x 0) (.x 7) (.a (.x 9) 0))) [] (.tup [.g 1,.x 0])]),
   .ex (.bm (.x 6) .extend [.comp [] [("line":cM)] (.v 0) (.seq (.l (.x 0) (.a (.x 9) 0) (.a (.x 9) 1))) [] (.tup [.g 2,.x 0])]),
   .ex (.bm (.x 6) .extend [.comp [] [("line":cM)] (.v 0) (.seq (.l (.x 1) (.a (.x 9) 2) (.a (.x 9) 3))) [] (.tup [.g 3,.x 0])]),
   .aug (.v 8) .add (.b .add (.b .sub (.b .sub (.a (.x 9) 3) (.a (.x 9) 2)) (.a (.x 9) 1)) (.a (.x 9) 0)),
   .s (.v 7) (.a (.x 9) 1)]
noncomputable def nj(a b:List Ln)(gr ctx st en f x:Nat)(m:Int)(v9:Option V):aj:=[some (.list (vY a)),some (.list (vY b)),some (.ref gr),some (nI ctx),some (nI st),some (nI en),some (.ref f),some (nI x),some (.int m),v9,none,none,none]
section
variable{a b:List Ln}{gr ctx st en f x:Nat}{m:Int}{n:Nat}{Z:ae}
theorem Q1{C:ax}{i:Nat}{u v:Int}{e:E}{J:aj}{rest:List S}{Q:QO}(h:rd J i=some (.int u))(he:Ev C e J Z (.int v))(q:az C rest (wr J i (.int (u+v))) Z Q):az C (.aug (.v i) .add e::rest) J Z Q:=ao h (he _ (ao rfl q))
theorem NQ{acc:List Rw}{c:Cg}{r:List Cg}(hl:(acc++ez a b en x (c::r)).length<=aJ){Q:QO}
  (q:Q .next (nj a b gr ctx st en f c.2.1 (m+((c.2.2.2:Int)-c.2.2.1-c.2.1+c.1)) (some (aV c))) (ak Z f (.list ((acc++cE 32 (aH a x c.1)++cE 45 (aH a c.1 c.2.1)++cE 43 (aH b c.2.2.1 c.2.2.2)).map gM)))) :
  az (Ph pF n) IV (nj a b gr ctx st en f x m (some (aV c))) (ak Z f (.list (acc.map gM))) Q:=by
 have A:∀{Z:ae}{k:Nat}{v:V},jE Z (aV c) k=some v->Ev (Ph pF n) (.a (.x 9) k) (nj a b gr ctx st en f x m (some (aV c))) Z v:=λk=>br (aa rfl) k;replace hl:(acc++(cE 32 (aH a x c.1)++(cE 45 (aH a c.1 c.2.1)++(cE 43 (aH b c.2.2.1 c.2.2.2)++ez a b en c.2.1 r)))).length<=aJ:=hl;rw[<-eT,<-eT,<-eT]at hl;have l3:=ai (y6 ..) hl;have l2:=ai (y6 ..) l3;exact vu rfl rfl rfl (jn (aa rfl) (aa rfl) (A rfl)) (ai (y6 ..) l2) (vu rfl rfl rfl (jn (aa rfl) (A rfl) (A rfl)) l2 (vu rfl rfl rfl (jn (aa rfl) (A rfl) (A rfl)) l3
  (Q1 rfl (bh (cv (cv (A rfl) (A rfl) rfl) (A rfl) rfl) (A rfl) rfl) (bM (br (aa rfl) rfl) q))))
noncomputable def i0(n:Nat):Nat:=if 0<n then 1 else 0
theorem HT{C:ax}{J:aj}{e:E}{u:Nat}(h:Ev C e J Z (nI u)):Ev C (.bi .int [.m .gt e (.c (.int 0))]) J Z (nI (i0 u)):=λQ q=>kz (di (op:=.gt) h Ev.cn (r:=decide ((0:Int)<(u:Int))) rfl _ (ao (a:=nI (i0 u)) (by
 have e:(if decide ((0:Int)<(u:Int))=true then(1:Int) else 0)=(i0 u:Nat):=by
  unfold i0;by_cases c:0<u
  ·rw[if_pos c,if_pos (decide_eq_true (show(0:Int)<u from dN.2 c))];rfl
  ·rw[if_neg c,decide_eq_false (show ¬(0:Int)<u from λz=>c (dN.1 z))];rfl
 exact congrArg (λz=>some (V.int z)) e) q))
theorem Rz{C:ax}{J:aj}{e:E}{u v:Nat}(h:Ev C e J Z (.int ((u:Int)-v))):Ev C (.bi .max [.c (.int 0),e]) J Z (nI (u-v)):=λQ q=>h _ (show Q (V.int (if (0:Int)<(u:Int)-v then(u:Int)-v else 0)) Z by
 have e:(if (0:Int)<(u:Int)-v then(u:Int)-v else 0)=(u-v:Nat):=(nM v u).elim (λc=>by rw[if_pos (Int.sub_pos_of_lt (dN.2 c))];exact(jh (cu c)).symm)
  λc=>by rw[if_neg (jL.2 (J0 (gy.2 c))),BA c];rfl
 rw[e];exact q)
noncomputable def gv(x:Nat)(g:List Cg):Nat:=(AS g).1-x
noncomputable def j6(x:Nat)(g:List Cg):Nat:=(AS g).2.2.1-((AS g).1-gv x g)
noncomputable def fm(a:List Ln)(x:Nat)(g:List Cg):Nat:=fS a.length ((bO g).2.1+x)
noncomputable def je(a:List Ln)(x:Nat)(g:List Cg):Nat:=(bO g).2.2.2+(fm a x g-(bO g).2.1)
noncomputable def kL(st om th nm:Nat)(r:List Rw)(w:Ln):V:=HX (nI (st+i0 om)) (nI om) (nI (th+i0 nm)) (nI nm) (r.map gM) w
noncomputable def iP(a b:List Ln)(x:Nat)(g:List Cg):V:=kL (gv x g) (fm a x g-gv x g) (j6 x g) (je a x g-j6 x g) (ez a b (fm a x g) (gv x g) g) (tR a (gv x g))
noncomputable abbrev Xv:List S:=[.ex (.bm (.x 6) .extend [.comp [] [("line":cM)] (.v 0) (.seq (.l (.x 0) (.x 7) (.x 5))) [] (.tup [.g 1,.x 0])]),
  .s (.v 10) (.b .sub (.a (.i (.x 2) (.c (.int 0))) 2) (.b .sub (.a (.i (.x 2) (.c (.int 0))) 0) (.x 4))),
  .s (.vs [11,12]) (.tup [.b .sub (.x 5) (.x 4),.b .add (.b .sub (.x 5) (.x 4)) (.x 8)]),
  .ret (.new true 4 [.b .add (.x 4) (.bi .int [.m .gt (.x 11) (.c (.int 0))]),.x 11,.b .add (.x 10) (.bi .int [.m .gt (.x 12) (.c (.int 0))]),.x 12,.x 6,.call 9 [.x 0,.x 4]])]
theorem Rl{m:M}(h:Z f=none):fW (ak Z f m) f=Z:=funext λb=>by
 unfold fW ak;by_cases c:b=f
 ·rw[if_pos c,c,h]
 ·rw[if_neg c,if_neg c]
theorem cZ{C:ax}{e:E}{es:List E}{v:V}{J:aj}{Q:List V->ae->Prop}(h:Ev C e J Z v)(k:eh C es J Z λvs Z=>Q (v::vs) Z):eh C (e::es) J Z Q:=h _ k
theorem Um{C:ax}{frz:Bool}{c:Nat}{es:List E}{J:aj}{Q:QV}(h:eh C es J Z λvs Z=>∀d,Z d=none->C (initF c) (.inst c d::vs) (ak Z d (.attrs c [])) λr Z=>lP frz c d r Z Q):WE C (.new frz c es) J Z Q:=h
theorem Pf{acc:List Rw}{c:Cg}{gs:List V}{v9:Option V}{th nm:Nat}(ha:fU a)(hz:a.length<=400)(hs:st<=a.length)(se:st<=en)(hf:Z f=none)(hg:Z gr=some (.list (aV c::gs)))(hl:(acc++cE 32 (aH a x en)).length<=aJ)
  (e1:(c.2.2.1:Int)-(c.1-st)=th) (e2:((en-st:Nat):Int)+m=nm) {Q:QV} (q:Q (kL st (en-st) th nm (acc++cE 32 (aH a x en)) (tR a st)) Z) :
  az (Ph pF (n+1)) Xv (nj a b gr ctx st en f x m v9) (ak Z f (.list (acc.map gM))) λo _ Z'=>∃v' Z'',Wk (jb o) Z' v' Z''/\Q v' Z'':=by
 have gf:gr≠f:=λe=>by rw[e,hf]at hg;exact nn hg
 have om:((en:Int)-st)=(en-st:Nat):=(jh se).symm;refine vu rfl rfl rfl (jn (aa rfl) (aa rfl) (aa rfl)) hl ?_;have G:∀{Z':ae},Z' gr=some (.list (aV c::gs))->Ev (Ph pF (n+1)) (.i (.x 2) (.c (.int 0))) (nj a b gr ctx st en f x m v9) Z' (aV c):=λh=>bW (aa rfl) Ev.cn (kq (i:=0) h rfl);have hg':ak Z f (.list ((acc++cE 32 (aH a x en)).map gM)) gr=some (.list (aV c::gs)):=(aA gf).trans hg;refine bM (v:=nI th) (cv (br (G hg') rfl) (cv (br (G hg') rfl) (aa rfl) rfl) e1) (fL (u:=nI (en-st)) (v:=nI nm) (cv (aa rfl) (aa rfl) om) (bh (cv (aa rfl) (aa rfl) om) (aa rfl) e2) rfl (lE ?_));refine Um (cZ (bh (r:=((st+i0 (en-st):Nat):Int)) (aa rfl) (HT (u:=en-st) (aa rfl)) rfl) (cZ (aa rfl) (cZ (bh (r:=((th+i0 nm:Nat):Int)) (aa rfl) (HT (u:=nm) (aa rfl)) rfl) (cZ (aa rfl) (cZ (aa rfl) (cZ (v:=.bytes (tR a st)) (mG (aa rfl) (aa rfl) λQ q=>MT ha hs hz q) ?_))))));refine λd hd=>PY hd (aP ..) ?_;rw[Rl hf];exact bX q
end
end
section
theorem F8{c:Cg}{g:List Cg}:((c::g).map aV).getLast?=some (aV (bO (c::g))):=by
 rw[BX,Ko,bO,rC,Jn];rfl
section
variable{a b:List Ln}{x K gr:Nat}{n:Nat}{Z:ae}{c:Cg}{g:List Cg}
theorem RK{C:ax}{e:E}{t:T}{b:List S}{J:aj}{Q:QO}{r:Nat}{l:List V}(he:Ev C e J Z (.ref r))(hg:Z r=some (.list l))(h:∃n,bZ (.live r) t (λJ Z Q=>az C b J Z Q) Q n 0 J Z):WS C (.for t (.seq e) b) J Z Q:=
 he _ (ao (a:=.live r) (by show(cc Z r).map _ = _;rw[gU hg];rfl) h)
theorem RU{st en th eo f:Nat}{g:List Cg}(hg:Z gr=some (.list (g.map aV)))(gf:gr≠f)(G:iF a b K en eo true st th g)(hl:(ez a b en st g).length<=aJ){Q:QO}
  (fin:∀acc y z m v9,acc++cE 32 (aH a y en)=ez a b en st g->(y<=en/\z+en=y+eo/\m=((z:Int)-y)-((th:Int)-st))->Q .next (nj a b gr x st en f y m v9) (ak Z f (.list (acc.map gM)))) :
  ∃k,bZ (.live gr) (.v 9) (λJ Z Q=>az (Ph pF n) IV J Z Q) Q k 0 (nj a b gr x st en f st 0 none) (ak Z f (.list [])):=
 qI (cD pF _) (l:=g) (f:=aV) (λ(s:List Rw×Nat×Nat×Int)v9=>nj a b gr x st en f s.2.1 s.2.2.2 v9) (λs=>ak Z f (.list (s.1.map gM)))
  (λi s=>s.1++ez a b en s.2.1 (g.drop i)=ez a b en st g/\iF a b K en eo (i==0) s.2.1 s.2.2.1 (g.drop i)/\s.2.2.2=((s.2.2.1:Int)-s.2.1)-((th:Int)-st))
  (λs k i h=>by show(cc _ gr).map _ = _;rw[gU ((aA gf).trans hg)];rfl)
  (λi hi s j h=>ao rfl λQ q=>by
   rw[jI hi]at h;refine NQ (by rw[h.1];exact hl) (q (_,g[i].2.1,g[i].2.2.2,_) _ ⟨?_,h.2.1.2.2,?_⟩)
   ·rw[<-h.1,eT,eT,eT];rfl
   ·exact bR [_,_,_,_,_,_,_,_] [_] (.a .v0 (.a (.s (.s .c0 .c1) .c2) .c3)) (.s (.s .c0 .c2) (.s .c4 .c5)) [(-1,.ei .v0 (.s (.s .c6 .c7) (.s .c4 .c5))),(-1,.en (.a .v6 .v3) (.a .v7 .v1))] rfl h.2.2 h.2.1.1.m)
  (λs j h=>by
   rw[kW]at h;exact fin s.1 s.2.1 s.2.2.1 s.2.2.2 j h.1 ⟨h.2.1.1,h.2.1.2.1,h.2.2⟩) (s:=([],st,th,0)) ⟨rfl,G,(CB _).symm⟩
theorem Mp(ha:fU a)(hz:a.length<=400)(hg:Z gr=some (.list ((c::g).map aV)))(hs:gv x (c::g)<=a.length)(G:iF a b K (fm a x (c::g)) (je a x (c::g)) true (gv x (c::g)) (j6 x (c::g)) (c::g))(hl:(ez a b (fm a x (c::g)) (gv x (c::g)) (c::g)).length<=aJ){Q:QV}(q:Q (iP a b x (c::g)) Z) :
  Ph pF (n+2) 10 [.list (vY a),.list (vY b),.ref gr,nI x] Z Q:=by
 refine bN (J:=[some (.list (vY a)),some (.list (vY b)),some (.ref gr),some (nI x),none,none,none,none,none,none,none,none,none]) rfl ?_;refine bM (v:=nI (gv x (c::g))) (Rz (u:=c.1) (v:=x) (cv (br (v:=nI c.1) (bW (aa rfl) Ev.cn (kq (i:=0) hg rfl)) rfl) (aa rfl) rfl)) ?_;refine bM (v:=nI (fm a x (c::g))) (vQ (iq (aa rfl)) (bh (r:=(((bO (c::g)).2.1+x:Nat):Int)) (br (v:=nI (bO (c::g)).2.1) (bW (v:=aV (bO (c::g))) (aa rfl) kE (rW hg F8)) rfl) (aa rfl) rfl)) λf hf=>?_;have gf:gr≠f:=λe=>by rw[e,hf]at hg;exact nn hg
 refine ao rfl ⟨rfl,aO (RK (l:=(c::g).map aV) (aa rfl) ((aA gf).trans hg) (RU hg gf G hl λacc y z m v9 hr h=>?_))⟩;have le:=G.le;have yz:=DJ h.1 h.2.1;refine Pf (c:=c) (gs:=g.map aV) (th:=j6 x (c::g)) (nm:=je a x (c::g)-j6 x (c::g)) ha hz hs le.1 hf hg (by rw[hr];exact hl) ?_ ?_ (by rw[hr];exact q)
 ·exact bR [_,_,_,_] [] (.s .c0 (.s .c1 .c2)) .c3 [(1,.en (.a .v3 .v1) (.a .v2 .v0))] rfl G.1.m
 ·rw[h.2.2,jh le.1,jh le.2];exact bR [_,_,_,_,_,_] [] (.a (.s .c0 .c1) (.s (.s .c2 .c3) (.s .c4 .c1))) (.s .c5 .c4) [(-1,.en (.a .v2 .v0) (.a .v3 .v5))] rfl h.2.1
end
end
section
def qT(K:Nat):Nat->List Cg->Prop
 |_,[]=>True
 |p,d::g=>d.1<=p+K/\qT K d.2.1 g
def Sp(K:Nat):Bool->Nat->List (List Cg)->Prop
 |_,_,[]=>True
 |f,p,g::gs=>(∃c r,g=c::r/\(f=false->p+K<c.1)/\qT K c.2.1 r)/\Sp K false (bO g).2.1 gs
section
variable{K:Nat}{d:Cg}
theorem uV(c e:Cg)(g:List Cg):bO (c::e::g)=bO (e::g):=rC ..
theorem Pk:∀{g:List Cg}{c:Cg},qT K c.2.1 g->d.1<=(bO (c::g)).2.1+K->qT K c.2.1 (g++[d]):=λ{rr}=>@(li (λ{c}_ h=>⟨h,trivial⟩)
 (λe g ih{c}h k=>⟨h.1,ih h.2 (by rw[uV]at k;exact k)⟩) rr)
theorem UZ{g:List Cg}(k:(bO g).2.1+K<d.1):∀{gs:List (List Cg)}{f:Bool}{p:Nat},Sp K f p (gs++[g])->Sp K f p (gs++[g]++[[d]])
 :=λ{gs}=>@(li (λ{_ _}h=>⟨h.1,⟨d,[],rfl,λ_=>k,trivial⟩,trivial⟩) (λ_ gs ih{_ _}h=>⟨h.1,ih h.2⟩) gs)
theorem UY{g:List Cg}(k:d.1<=(bO g).2.1+K):∀{gs:List (List Cg)}{f:Bool}{p:Nat},Sp K f p (gs++[g])->Sp K f p (gs++[g++[d]])
 :=λ{gs}=>@(li (λ{_ _}h=>cG h.1 λc r e h1 h2=>⟨⟨c,r++[d],by rw[e];rfl,h1,Pk h2 (by rw[<-e];exact k)⟩,trivial⟩) (λ_ gs ih{_ _}h=>⟨h.1,ih h.2⟩) gs)
theorem VQ{g:List Cg}:∀{gs:List (List Cg)}{f:Bool}{p:Nat},Sp K f p (gs++[g])->∃c r,g=c::r
 :=λ{gs}=>@(li (λ{_ _}h=>g9 h.1 λc r e _=>⟨c,r,e⟩) (λ_ gs ih{_ _}h=>ih h.2) gs)
end
structure GT(Z0:ae)(gA:Nat)(rs:List (Nat×List Cg))(Z:ae):Prop where
 at_:Z gA=some (.list (rs.map λp=>.ref p.1))
 row:∀p,p∈rs->Z p.1=some (.list (p.2.map aV))
 nd:rs.Pairwise λp q=>p.1≠q.1
 new:∀p,p∈rs->p.1≠gA/\Z0 p.1=none
 sub:Sub Z0 Z
 na:Z0 gA=none
section
variable{Z0 Z:ae}{gA r:Nat}{rs:List (Nat×List Cg)}{g:List Cg}{d:Cg}
theorem vL{a:Nat}{m:M}(h:Sub Z0 Z)(n:Z0 a=none):Sub Z0 (ak Z a m):=λx m' e=>(aA λz=>by rw[z,n]at e;exact nn e).trans (h x m' e)
theorem GT.push(h:GT Z0 gA rs Z)(hr:Z r=none):GT Z0 gA (rs++[(r,[d])]) (ak (ak Z r (.list [aV d])) gA (.list ((rs.map λp=>V.ref p.1)++[.ref r]))):=by
 have z:Z0 r=none:=o8 λn=>(Option.ne_none_iff_exists'.1 n).elim λm e=>by rw[h.sub r m e]at hr;cases hr
 have ra:r≠gA:=λe=>by rw[e,h.at_]at hr;cases hr
 have nr:∀p,p∈rs->p.1≠r:=λp hp e=>by have w:=h.row p hp;rw[e,hr]at w;exact nn w
 refine⟨by rw[aP,dw];rfl,λp hp=>?_,xG.2 ⟨h.nd,ua ..,λp hp q hq=>by rw[cJ.1 hq];exact nr p hp⟩,λp hp=>?_,vL (vL h.sub z) h.na,h.na⟩
 ·rcases gw.1 hp with k|k
  ·exact(aA (h.new p k).1).trans ((aA (nr p k)).trans (h.row p k))
  ·rw[cJ.1 k];exact(aA ra).trans (aP ..)
 ·rcases gw.1 hp with k|k
  ·exact h.new p k
  ·rw[cJ.1 k];exact⟨ra,z⟩
theorem GT.add(h:GT Z0 gA (rs++[(r,g)]) Z):GT Z0 gA (rs++[(r,g++[d])]) (ak Z r (.list (g.map aV++[aV d]))):=by
 have m:(r,g)∈rs++[(r,g)]:=q9 _ fI;have z:=h.new _ m;have nd:=xG.1 h.nd;refine⟨(aA z.1.symm).trans (h.at_.trans (by rw[dw,dw];rfl)),λp hp=>?_,xG.2 ⟨nd.1,ua ..,λp hp q hq=>by rw[cJ.1 hq];exact nd.2.2 p hp (r,g) fI⟩,λp hp=>?_,vL h.sub z.2,h.na⟩
 ·rcases gw.1 hp with k|k
  ·exact(aA (nd.2.2 p k _ fI)).trans (h.row p (rh _ k))
  ·rw[cJ.1 k];exact(aP ..).trans (congrArg (λl=>some (M.list l)) (dw (f:=aV) (l₁:=g) (l₂:=[d])).symm)
 ·rcases gw.1 hp with k|k
  ·exact h.new p (rh _ k)
  ·rw[cJ.1 k];exact z
end
end
section
noncomputable abbrev Xu:List S:=[.ite (.o true [.m .ne (.x 7) (.lst false []),.m .le (.b .sub (.a (.x 8) 0) (.a (.i (.i (.x 7) (.neg (.c (.int 1)))) (.neg (.c (.int 1)))) 1)) (.b .add (.b .mul (.c (.int 2)) (.x 2)) (.x 3))])
   [.ex (.bm (.i (.x 7) (.neg (.c (.int 1)))) .append [.x 8])]
   [.ex (.bm (.x 7) .append [.lst true [.x 8]])]]
noncomputable def nf(v0 v1 v4:V)(a b:List Ln)(x y gA:Nat)(v8:Option V):aj:=[some v0,some v1,some (nI x),some (nI y),some v4,some (.list (vY a)),some (.list (vY b)),some (.ref gA),v8]
noncomputable abbrev Gs(rs:List (Nat×List Cg)):List (List Cg):=rs.map (·.2)
section
variable{Z0 Z:ae}{v0 v1 v4:V}{a b:List Ln}{x y gA:Nat}{rs:List (Nat×List Cg)}{d:Cg}{n:Nat}
theorem Hh(T:GT Z0 gA rs Z)(hl:rs.length<aJ){Q:QO}(q:∀r Z',GT Z0 gA (rs++[(r,[d])]) Z'->Q .next (nf v0 v1 v4 a b x y gA (some (aV d))) Z') :
  az (Ph pF n) [.ex (.bm (.x 7) .append [.lst true [.x 8]])] (nf v0 v1 v4 a b x y gA (some (aV d))) Z Q:=by
 refine ao rfl ⟨iZ T.at_ rfl,ao rfl λr hr=>?_⟩;have ra:gA≠r:=λe=>by rw[<-e,T.at_]at hr;cases hr
 exact gc (kx ((aA ra).trans T.at_) (by rw[aY];exact hl) (ao rfl (q r _ (T.push hr))))
theorem RP(T:GT Z0 gA rs Z)(hs:Sp (2*x+y) true 0 (Gs rs))(hl:rs.length<aJ)(hc:(Gs rs).flatten.length<aJ){Q:QO}
  (q:∀rs' Z',GT Z0 gA rs' Z'->Sp (2*x+y) true 0 (Gs rs')->(Gs rs').flatten=(Gs rs).flatten++[d]->rs'.length<=rs.length+1->Q .next (nf v0 v1 v4 a b x y gA (some (aV d))) Z') :
  az (Ph pF n) Xu (nf v0 v1 v4 a b x y gA (some (aV d))) Z Q:=by
 have tf:aI (Ph pF n) (.m .ne (.x 7) (.lst false [])) (nf v0 v1 v4 a b x y gA (some (aV d))) Z ((rs.map λp=>V.ref p.1)≠[]):=p0 (aa rfl) T.at_;rcases JL rs with e|⟨rs0,⟨r,g⟩,e⟩
 ·subst e;exact aO (bH (p:=_/\False) (iU tf λz=>absurd rfl z) (λz=>z.2) (Hh T hl λr Z' T'=>q _ Z' T' ⟨⟨d,[],rfl,(λz=>nb z),trivial⟩,trivial⟩ rfl (aC _)))
 ·rw[JJ]at e;subst e;have gs:∀h,Gs (rs0++[(r,h)])=Gs rs0++[h]:=λh=>dw;have gg:∀r',Gs (rs0++[(r,g)]++[(r',[d])])=Gs rs0++[g]++[[d]]:=λr'=>dw.trans (congrArg (·++[[d]]) (gs g));have gl:(Gs rs0++[g]).flatten=(Gs rs0).flatten++g:=by rw[BJ];exact congrArg (_++·) (gO g)
  rw[gs]at hs hc;have row:=T.row (r,g) (q9 _ fI);have eg:Ev (Ph pF n) (.i (.x 7) (.neg (.c (.int 1)))) (nf v0 v1 v4 a b x y gA (some (aV d))) Z (.ref r):=bW (aa rfl) kE (rW T.at_ (by rw[dw];exact BC ..));have tt:aI (Ph pF n) (.m .le (.b .sub (.a (.x 8) 0) (.a (.i (.i (.x 7) (.neg (.c (.int 1)))) (.neg (.c (.int 1)))) 1)) (.b .add (.b .mul (.c (.int 2)) (.x 2)) (.x 3))) (nf v0 v1 v4 a b x y gA (some (aV d))) Z (d.1<=(bO g).2.1+(2*x+y)):=by
   refine XH (VQ hs) λc t e=>?_;have lg:(g.map aV).getLast?=some (aV (bO g)):=by rw[e];exact F8
   exact ir (Hd (i:=(d.1:Int)-(bO g).2.1) (j:=2*(x:Int)+y) (cv (br (v:=nI d.1) (aa rfl) rfl) (br (v:=nI (bO g).2.1) (bW eg kE (rW row lg)) rfl) rfl) (bh (fN (op:=.mul) (v:=.int (2*(x:Int))) Ev.cn (aa rfl) rfl) (aa rfl) rfl)) ⟨λh=>au [_,_,_,_] [] (.ln .v0 (.a .v1 (.a (.m 2 .v2) .v3))) 1 [(1,.li (.s .c0 .c1) (.a (.m 2 .c2) .c3))] rfl h,λh=>au [_,_,_,_] [] (.li (.s .c0 .c1) (.a (.m 2 .c2) .c3)) 1 [(1,.ln .v0 (.a .v1 (.a (.m 2 .v2) .v3)))] rfl h⟩
  have tb:=iU tf λ_=>tt;by_cases k:d.1<=(bO g).2.1+(2*x+y)
  ·refine aO (dF tb ⟨by rw[dw];exact λz=>(nc (q8.1 z).2),k⟩ (z6 eg row (aa rfl) ?_ (q _ _ T.add (by rw[gs];exact UY k hs) ?_ (by rw[bB,bB];exact eM _))))
   ·rw[aY];rw[gl,bB]at hc;exact bC (df ..) hc
   ·rw[gs,gs,gl,BJ,eT];exact congrArg (_++·) (gO _)
  ·refine aO (bH tb (λz=>k z.2) (Hh T hl λr' Z' T'=>q _ Z' T' ?_ ?_ (by rw[bB (bs:=[(r',[d])])];exact aC _)))
   ·rw[gg];exact UZ (pz k) hs
   ·rw[gg,gs,BJ];rfl
end
end
section
section
variable{α:Type}{a b:List α}{i j t u:Nat}
theorem qb(l:List α)(i:Nat){j:Nat}(h:j<=l.length):(aH l i j).length=j-i:=by
 unfold aH;rw[hU,eV,jg h]
theorem pN(l:List α)(i j:Nat):(aH l i j).length<=j-i:=by
 unfold aH;rw[hU,eV];exact rn (rH ..) i
theorem EY(h:aH a i (i+t)=aH b j (j+t))(k:u<=t):aH a i (i+u)=aH b j (j+u):=by
 unfold aH at h ⊢;rw[kh,kh,cC,cC]at h ⊢;have z:=congrArg (List.take u) h;rw[Lk,Lk,jg k]at z;exact z
theorem EZ(h:aH a i (i+t)=aH b j (j+t)):aH a (i+u) (i+t)=aH b (j+u) (j+t):=by
 unfold aH at h ⊢;have z:=congrArg (List.drop u) h;rw[rJ,rJ]at z;exact z
theorem P8(h:j<=b.length)(k:t<=a.length-i)(e:aH a i (i+t)=aH b j (j+t)):j+t<=b.length:=by
 have z:=congrArg rM e;unfold aH at z;rw[kh,kh,cC,cC,eV,eV,hU,hU,jg k]at z;exact Nat.add_le_of_le_sub' h (z▸pA ..)
theorem Mb(h:a.drop i=b.drop j):aH a i (i+t)=aH b j (j+t):=by
 unfold aH;rw[kh,kh,h,cC,cC]
end
theorem sH(u v:Nat):fS u v<=u/\fS u v<=v:=by
 unfold fS;by_cases c:v<u
 ·rw[if_pos c];exact⟨cu c,aC _⟩
 ·rw[if_neg c];exact⟨aC _,bc.1 c⟩
theorem R8{u v w:Nat}(h:w<=u)(k:w<=v):w<=fS u v:=by
 unfold fS;by_cases c:v<u
 ·rw[if_pos c];exact k
 ·rw[if_neg c];exact h
section
variable{a b:List Ln}{K x en eo:Nat}{rest:List Cg}
theorem TX:∀{r:List Cg}{c:Cg},ee a b false c.2.1 c.2.2.2 (r++rest)->qT K c.2.1 r->(bO (c::r)).2.1<=en->(bO (c::r)).2.2.2+en=(bO (c::r)).2.1+eo->aH a (bO (c::r)).2.1 en=aH b (bO (c::r)).2.2.2 eo->iF a b K en eo false c.2.1 c.2.2.2 r:=λ{rr}=>@(li (λ{_}_ _ h1 h2 h3=>⟨h1,h2,h3⟩)
 (λe r ih{c}h k h1 h2 h3=>by
  rw[uV]at h1 h2 h3;exact⟨h.1,λ_=>k.1,ih h.2 k.2 h1 h2 h3⟩) rr)
theorem PH:∀{r:List Cg}{c:Cg}{f:Bool}{p q:Nat},ee a b f p q (c::r++rest)->ee a b false (bO (c::r)).2.1 (bO (c::r)).2.2.2 rest/\(bO (c::r)).2.1<=a.length/\(bO (c::r)).2.2.2<=b.length:=λ{rr}=>@(li (λ{_}{_}{_}{_}h=>⟨h.2,h.1.ha,h.1.hb⟩)
 (λe r ih{c}{_}{_}{_}h=>by rw[uV];exact ih h.2) rr)
theorem Lc.gap{f:Bool}{p q:Nat}{c:Cg}(h:Lc a b f p q c):∃t,c.1=p+t/\c.2.2.1=q+t/\aH a p (p+t)=aH b q (q+t):=by
 have e1:c.1=p+(c.1-p):=(fu h.l).symm;have e2:c.2.2.1=q+(c.1-p):=bE [_,_,_,_,_] [] .v0 (.a .v1 .v2) [(1,.en (.a .v1 .v3) (.a .v4 .v0)),(-1,.en .v3 (.a .v4 .v2))] rfl h.m e1;have p:=h.p;rw[e1,e2]at p;exact⟨_,e1,e2,p⟩
theorem S6{gs:List (List Cg)}{p q d:Nat}(h:ee a b false p q gs.flatten)(hs:Sp K false p gs)(hd:d<=K):aH a p (p+d)=aH b q (q+d):=by
 cases gs with
 |nil=>exact Mb h
 |cons g gs=>
  refine cG hs.1 λc r e h1 _=>?_;subst e;refine cm h.1.gap λt e1 _ k=>?_;exact EY k (cu (bC hd (t6 (e1▸h1 rfl))))
structure Ga(a b:List Ln)(K x:Nat)(f:Bool)(p q:Nat)(g:List Cg)(rest:List Cg)(t:Nat):Prop where
 st:gv x g=p+t
 th:j6 x g=q+t
 pt:aH a p (p+t)=aH b q (q+t)
 lt:f=false->K<t+x
 G:iF a b K (fm a x g) (je a x g) true (gv x g) (j6 x g) g
 l:ee a b false (bO g).2.1 (bO g).2.2.2 rest
 le:(bO g).2.1<=fm a x g
 eo:je a x g<=b.length
theorem FU{gs:List (List Cg)}{c:Cg}{r:List Cg}{f:Bool}{p q:Nat}(h:ee a b f p q (c::r++gs.flatten))(s1:f=false->p+K<c.1)(s2:qT K c.2.1 r)(s3:Sp K false (bO (c::r)).2.1 gs)(h0:f=true->p=0/\q=0)(hx:x<=K) :
  ∃t,Ga a b K x f p q (c::r) gs.flatten t:=by
 have lr:=PH h;have le:=R8 lr.2.1 (aL (bO (c::r)).2.1 x);have en:(bO (c::r)).2.1+(fm a x (c::r)-(bO (c::r)).2.1)=fm a x (c::r):=fu le;have tl:=S6 (d:=fm a x (c::r)-(bO (c::r)).2.1) lr.1 s3 (ai (xD.2 (sH ..).2) hx);have eo:=P8 lr.2.2 (rn (sH a.length ((bO (c::r)).2.1+x)).1 _) tl;rw[en]at tl;have gp:(bO (c::r)).2.2.2+fm a x (c::r)=(bO (c::r)).2.1+je a x (c::r):=by
  rw[je,<-cq,cb (bO (c::r)).2.1,cq,en]
 refine cm h.1.gap λt k1 k2 k9=>?_;have tx:f=false->x<t:=λz=>bC hx (t6 (k1▸s1 z));have e1:gv x (c::r)=p+(t-x):=by
  show c.1-x = _;rw[k1];cases f with
  |true=>rw[(h0 rfl).1,aU,aU]
  |false=>exact xU (cu (tx rfl)) p
 have d1:c.1-(p+(t-x))=t-(t-x):=by rw[k1,pq]
 have e2:j6 x (c::r)=q+(t-x):=by
  show c.2.2.1-(c.1-gv x (c::r)) = _;rw[e1,d1,k2,xU (ew ..),B6 (ew ..)]
 refine⟨t-x,e1,e2,EY k9 (ew ..),λz=>?_,?_,lr.1,le,eo⟩
 ·rw[BP (cu (tx z))];exact t6 (k1▸s1 z)
 ·have L:=h.1;rw[e1,e2];refine⟨⟨k1▸kT (ew ..) p,?_,(λz=>nb z),L.o,L.i,L.ha,L.hb,L.n,by rw[k1,k2];exact EZ k9⟩,(λz=>nb z),TX h.2 s2 le gp tl⟩;rw[k1,k2];exact bE [_,_,_,_] [] (.a (.a .v0 .v1) (.a .v2 .v3)) (.a (.a .v2 .v1) (.a .v0 .v3)) [] rfl
theorem Vb{p q r s u v w x y z:Nat}(h1:p<=u-x)(h2:q<=v-u)(h3:r<=w-z)(h4:s<=(y-v)+(x'-w))(k1:x<=u)(k2:u<=v)(k3:v<=y)(k4:t<=z)(k5:z<=w)(k6:w<=x'):p+(q+(r+s))<=(y-x)+(x'-t):=
 au [_,_,_,_,_,_,_,_,_,_,_,_,_,_,_,_,_,_,_] [] (.ln (.a .v0 (.a .v1 (.a .v2 .v3))) (.a .v4 .v5)) 1 [(1,.ln .v0 .v6),(1,.ln .v1 .v7),(1,.ln .v2 .v8),(1,.ln .v3 (.a .v9 (.v 10))),(1,.en (.a .v6 (.v 11)) (.v 12)),(1,.en (.a .v7 (.v 12)) (.v 13)),(1,.en (.a .v8 (.v 14)) (.v 15)),(1,.en (.a .v9 (.v 13)) (.v 16)),(1,.en (.a (.v 10) (.v 15)) (.v 17)),(1,.ln (.v 16) (.a .v4 (.v 11))),(1,.ln (.v 17) (.a .v5 (.v 18))),(1,.ln (.v 18) (.v 14))] rfl h1 h2 h3 h4 (aZ k1) (aZ k2) (aZ k5) (aZ k3) (aZ k6) cW cW k4
theorem D4:∀{g:List Cg}{f:Bool}{y z:Nat},iF a b K en eo f y z g->(ez a b en y g).length<=(en-y)+(eo-z):=λ{rr}=>@(li (λ{_}{y}{z}_=>by
  show(cE 32 _).length<=_;rw[sL];exact ai (pN ..) (aL ..))
 (λc g ih{_}{y}{z}h=>by
  have le:=h.2.2.le;show(cE 32 _++(cE 45 _++(cE 43 _++ez a b en c.2.1 g))).length<=_;rw[bB,bB,bB,sL,sL,sL];exact Vb (pN ..) (pN ..) (pN ..) (ih h.2.2) h.1.l h.1.o le.1 h.1.yy h.1.i le.2) rr)
end
end
section
theorem O3{C:ax}{J:aj}{Z:ae}{a b c d:E}{u v w x res:V}{f:Nat}(ha:Ev C a J Z u)(hb:Ev C b J Z v)(hc:Ev C c J Z w)(hd:Ev C d J Z x)(h:∀Q:QV,Q res Z->C f [u,v,w,x] Z Q):Ev C (.call f [a,b,c,d]) J Z res:=λQ q=>ha _ (hb _ (hc _ (hd _ (h Q q))))
theorem MG{a b:List Ln}{K x:Nat}(hx:x<=K):∀{gs:List (List Cg)}{f:Bool}{p q:Nat},ee a b f p q gs.flatten->Sp K f p gs->(f=true->p=0/\q=0)->∀g,g∈gs->∃c r,g=c::r/\iF a b K (fm a x g) (je a x g) true (gv x g) (j6 x g) g/\je a x g<=b.length
 :=λ{gs}=>@(li (λ{_ _ _}_ _ _ _ h=>nm h) (λg gs ih{_ _ _}h hs h0 u hu=>by
  refine cG hs.1 λc r e s1 s2=>?_;subst e;refine bA (FU h s1 s2 hs.2 h0 hx) λt A=>?_;exact(cp.1 hu).elim (λk=>by rw[k];exact⟨c,r,rfl,A.G,A.eo⟩) λk=>ih A.l hs.2 (λz=>bn z) u k) gs)
section
variable{a b:List Ln}{K x gr:Nat}{n:Nat}{Z:ae}
theorem Nm(ha:fU a)(hz:a.length<=400)(hb:b.length<=400){g:List Cg}(h:∃c r,g=c::r/\iF a b K (fm a x g) (je a x g) true (gv x g) (j6 x g) g/\je a x g<=b.length)(hg:Z gr=some (.list (g.map aV))){Q:QV}(q:Q (iP a b x g) Z):Ph pF (n+2) 10 [.list (vY a),.list (vY b),.ref gr,nI x] Z Q:=by
 refine cG h λc r e G he=>?_;subst e;have le:fm a x (c::r)<=a.length:=(sH ..).1;have rl:=D4 G;exact Mp ha hz hg (ai G.le.1 le) G (ai rl (ai (ff (ai (ew ..) (ai le hz)) (ai (ew ..) (ai he hb))) (by decide))) q
theorem Pj{cs:List Cg}{y:Nat}{v6 v4:V}(ha:fU a)(hl:fU b)(hz:a.length<=400)(hb:b.length<=400)(hL:ee a b true 0 0 cs)(hc:cs.length<=900)
  (r6:∀Z(Q:QV),Q v6 Z->Ph pF (n+2) 6 [v4,.list (vY a),.list (vY b)] Z Q) (r8:∀Z(Q:QV),Q (.list (cs.map aV)) Z->Ph pF (n+2) 8 [v6,.list (vY a),.list (vY b)] Z Q)
  {Q:QV} (q:∀gs,gs.flatten=cs->Sp (2*x+y) true 0 gs->Q (.list (gs.map (iP a b x))) Z):Ph pF (n+3) 11 [.bytes a.flatten,.bytes b.flatten,nI x,nI y,v4] Z Q:=by
 refine bN (J:=[some (.bytes a.flatten),some (.bytes b.flatten),some (nI x),some (nI y),some v4,none,none,none,none]) rfl ?_;refine fL (u:=.list (vY a)) (v:=.list (vY b)) (gC (aa rfl) λQ q=>EP ha hz q) (gC (aa rfl) λQ q=>EP hl hb q) rfl ?_;intro gA hg;refine aO (n9 (l:=cs.map aV) (ko (ko (aa rfl) (aa rfl) (aa rfl) λQ q=>r6 _ Q q) (aa rfl) (aa rfl) λQ q=>r8 _ Q q) ?_);refine qI (cD pF _) (λ(_:List (Nat×List Cg)×ae)v8=>nf (.bytes a.flatten) (.bytes b.flatten) v4 a b x y gA v8) (λs=>s.2) (λi s=>GT Z gA s.1 s.2/\Sp (2*x+y) true 0 (Gs s.1)/\(Gs s.1).flatten=cs.take i/\s.1.length<=i) (λ_ _ _ _=>rfl) (λi hi s j h=>ao rfl λQ q=>?_) (λs j h=>?_) (s:=([],_)) (j:=none) ⟨⟨aP ..,(λ_ h=>nm h),Yl,(λ_ h=>nm h),sJ hg,hg⟩,trivial,rfl,aC _⟩
 ·have ln:(Gs s.1).flatten.length<aJ:=by rw[h.2.2.1,eV];exact bC (pA ..) (bC hc (by decide))
  exact RP h.1 h.2.1 (bC h.2.2.2 (fK hi (bC hc (by decide)))) ln λrs' Z' T S e l=>q (rs',Z') _ ⟨T,S,by rw[e,h.2.2.1,Ja hi],ai l (cK h.2.2.2)⟩
 ·refine nC h λT S e l=>?_;rw[nH]at e;have all:=MG (ai (Bw x yh) (aL ..)) (e▸hL) S (λ_=>⟨rfl,rfl⟩);have lz:s.1.length<=aJ:=ai l (ai hc (by decide));refine eF (v:=.list ((Gs s.1).map (iP a b x))) (λQ q=>pX (aa rfl _ (ao (a:=.live gA) (by show(cc s.2 gA).map _ = _;rw[gU T.at_];rfl) (uN s.1 (λp=>V.ref p.1) (λp=>iP a b x p.2) lz (λi=>by show(cc s.2 gA).map _ = _;rw[gU T.at_];rfl) (λp hp=>⟨[some (.list (vY a)),some (.list (vY b)),some (nI x),some (.ref p.1)],rfl,?_⟩) (by unfold Gs at q;rw[ig]at q;exact q))))) (j8 T.sub (q _ e S));exact O3 (aa rfl) (aa rfl) (aa rfl) (aa rfl) λQ q=>Nm ha hz hb (all p.2 (List.mem_map_of_mem hp)) (T.row p hp) q
end
end
section
noncomputable abbrev rp(k:Nat)(s:UInt8):List UInt8:=aR k s
noncomputable def et(r:List Rw):List UInt8:=r.map (·.1)
noncomputable def eH(t:UInt8)(r:List Rw):List Ln:=(r.filter λr=>!(r.1==t)).map (·.2)
section
variable{t s:UInt8}{l:List Ln}{p q:List Rw}
theorem sI:et (cE s l)=rp l.length s:=by
 unfold et cE;rw[ig];exact K4 ..
theorem zX:et (p++q)=et p++et q:=dw
theorem zb:eH t (p++q)=eH t p++eH t q:=by unfold eH;rw[xP,dw]
theorem DY:eH t (cE t l)=[]:=by
 induction l with
 |nil=>rfl
 |cons w l ih=>
  unfold eH cE at ih ⊢;rw[gx,List.filter_cons_of_neg (by rw[beq_self_eq_true];exact kf)];exact ih
theorem pW(h:(s==t)=false):eH t (cE s l)=l:=by
 induction l with
 |nil=>rfl
 |cons w l ih=>
  unfold eH cE at ih ⊢;rw[gx,Bt (by show(!(s==t))=true;rw[h];rfl),gx,ih]
end
theorem uZ{α:Type}(l:List α){i j k:Nat}(h:i<=j)(q:j<=k):aH l i j++aH l j k=aH l i k:=by
 obtain⟨u,rfl⟩:=bS h;obtain⟨v,rfl⟩:=bS q;unfold aH;rw[kh,kh,kh,cC,cC,cq,cC,List.take_add,rJ]
def e7(K:Nat):Nat->Bool->List UInt8->Prop
 |_,_,[]=>True
 |m,p,s::r=>(s=32/\e7 K (m+1) false r)\/(s=45/\p=false/\m<=K/\e7 K 0 false r)\/(s=43/\m<=K/\e7 K 0 true r)
section
variable{K m:Nat}{p:Bool}{r:List UInt8}
theorem Sr:∀(k:Nat){m:Nat}{p:Bool},e7 K m p (rp k 32):=λrr=>@(ni (λ{_}{_}=>trivial)
 (λk ih{_}{_}=>.inl ⟨rfl,ih⟩) rr)
theorem Hu:∀(k:Nat){m:Nat}{p:Bool},e7 K (m+k+1) false r->e7 K m p (rp (k+1) 32++r):=λrr=>@(ni (λ{_}{_}h=>.inl ⟨rfl,h⟩)
 (λk ih{m}{_}h=>.inl ⟨rfl,ih (m:=m+1) (by rw[cH m k];exact h)⟩) rr)
theorem Hx(h:e7 K 0 false r):∀(k:Nat){m:Nat},m<=K->e7 K m false (rp (k+1) 45++r):=λrr=>@(ni (λ{_}l=>.inr (.inl ⟨rfl,rfl,l,h⟩))
 (λk ih{_}l=>.inr (.inl ⟨rfl,rfl,l,ih (bJ _)⟩)) rr)
theorem Hv(h:e7 K 0 true r):∀(k:Nat){m:Nat}{p:Bool},m<=K->e7 K m p (rp (k+1) 43++r):=λrr=>@(ni (λ{_}{_}l=>.inr (.inr ⟨rfl,l,h⟩))
 (λk ih{_}{_}l=>.inr (.inr ⟨rfl,l,ih (bJ _)⟩)) rr)
theorem Hy(h:∀p,e7 K 0 p r)(l:m<=K):∀{o i:Nat},0<o+i->e7 K m false (rp o 45++(rp i 43++r))
 |0,0,z=>absurd z (gP 0)
 |0,i+1,_=>Hv (h true) i l
 |o+1,0,_=>Hx (h false) o l
 |o+1,i+1,_=>Hx (Hv (h true) i (bJ _)) o l
def Hb(l:List UInt8)(d:Nat):Prop:=∃L s,s≠32/\l=L++s::rp d 32
theorem sR{d:Nat}(h:Hb r d)(l:List UInt8):Hb (l++r) d:=h.elim λL h=>h.elim λs h=>⟨l++L,s,h.1,by rw[h.2,eT]⟩
theorem FW{d k:Nat}{s:UInt8}(h:s≠32):Hb (rp (k+1) s++rp d 32) d:=⟨rp k s,s,h,by rw[rp,List.replicate_succ',eT];rfl⟩
theorem Vy{d:Nat}:∀{o i:Nat},0<o+i->Hb (rp o 45++(rp i 43++rp d 32)) d
 |0,0,z=>absurd z (gP 0)
 |o+1,0,_=>FW (by decide)
 |_,i+1,_=>sR (FW (by decide)) _
theorem Ra{o i:Nat}(h:0<o+i):∃s S,s≠32/\rp o 45++(rp i 43++r)=s::S:=by
 revert h;exact nz (nz (λz=>absurd z (gP 0)) (λi _=>⟨43,_,by decide,rfl⟩) i) (λo _=>⟨45,_,by decide,rfl⟩) o
noncomputable def kH(l:List UInt8):Nat:=(l.filter λs=>!(s==32)).length
theorem qg{l:List UInt8}:kH (l++r)=kH l+kH r:=by unfold kH;rw[xP,bB]
theorem z9(k:Nat):kH (rp k 32)=0:=by
 unfold kH;rw[JM];rfl
theorem vO{s:UInt8}(h:(s==32)=false)(k:Nat):kH (rp k s)=k:=by
 unfold kH;rw[JM,h];exact dq
end
noncomputable def fT:List Cg->Nat
 |[]=>0
 |c::g=>(c.2.1-c.1)+(c.2.2.2-c.2.2.1)+fT g
theorem S9:∀(g h:List Cg),fT (g++h)=fT g+fT h:=λrr=>li (λh=>(aU _).symm)
 (λc g ih h=>by
  show _+fT (g++h) = _+fT g+fT h;rw[ih h];exact(cq ..).symm) rr
section
variable{a b:List Ln}{K e e':Nat}
theorem zW{x:Nat}{c:Cg}{g:List Cg}(h1:c.1<=a.length)(h2:c.2.1<=a.length)(h3:c.2.2.2<=b.length):et (ez a b e x (c::g))=rp (c.1-x) 32++(rp (c.2.1-c.1) 45++(rp (c.2.2.2-c.2.2.1) 43++et (ez a b e c.2.1 g))):=by
 show et (cE 32 _++(cE 45 _++(cE 43 _++ez a b e c.2.1 g))) = _;rw[zX,zX,zX,sI,sI,sI,qb a x h1,qb a c.1 h2,qb b c.2.2.1 h3]
theorem vW{c:Cg}(h:c.1<c.2.1\/c.2.2.1<c.2.2.2):0<(c.2.1-c.1)+(c.2.2.2-c.2.2.1):=h.elim (λh=>KU (xV h) _) λh=>Nat.add_pos_right _ (xV h)
structure Sg(K d:Nat)(n:Nat)(l:List UInt8):Prop where
 ok:∀p,e7 K 0 p l
 cnt:kH l=n
theorem UU(he:e<=a.length):∀{g:List Cg}{x y:Nat},iF a b K e e' false x y g->Sg K 0 (fT g) (et (ez a b e x g)):=λ{rr}=>@(li (λ{x}{y}_=>by
  have z:et (ez a b e x [])=rp (aH a x e).length 32:=sI;rw[z];exact⟨λp=>Sr _,z9 _⟩)
 (λc g ih₁{x}{y}h=>by
  have ih:=ih₁ h.2.2;have L:=h.1;rw[zW (ai L.o L.ha) L.ha L.hb];refine⟨λp=>?_,?_⟩
  ·refine bA (Bo (ip (xV (L.g rfl)))) λk e=>?_;rw[e];exact Hu k (Hy ih.ok (by rw[aU];exact(show k.succ<=K from e▸xD.2 (h.2.1 rfl))) (vW L.n))
  ·rw[qg,qg,qg,z9,vO rfl,vO rfl,ih.cnt,aU,<-cq];rfl) rr)
theorem TZ(he:e<=a.length):∀{g:List Cg}{c:Cg},(c.1<c.2.1\/c.2.2.1<c.2.2.2)->iF a b K e e' false c.2.1 c.2.2.2 g->Hb (rp (c.2.1-c.1) 45++(rp (c.2.2.2-c.2.2.1) 43++et (ez a b e c.2.1 g))) (e-(bO (c::g)).2.1):=λ{rr}=>@(li (λ{c}k _=>by
  have z:et (ez a b e c.2.1 [])=rp (aH a c.2.1 e).length 32:=sI;rw[z,qb a _ he];exact Vy (vW k))
 (λk g ih{c}_ h=>by
  have L:=h.1;rw[uV,zW (ai L.o L.ha) L.ha L.hb];exact sR (sR (sR (ih L.n h.2.2) _) _) _) rr)
theorem P9:∀{g:List Cg}{f:Bool}{x y:Nat},iF a b K e e' f x y g->eH 43 (ez a b e x g)=aH a x e/\eH 45 (ez a b e x g)=aH b y e':=λ{rr}=>@(li (λ{_}{x}{y}h=>⟨pW rfl,(pW rfl).trans h.2.2⟩)
 (λc g ih₁{_}{x}{y}h=>by
  have ih:=ih₁ h.2.2;have le:=h.2.2.le;have L:=h.1;have p:∀t,eH t (ez a b e x (c::g))=eH t (cE 32 (aH a x c.1))++(eH t (cE 45 (aH a c.1 c.2.1))++(eH t (cE 43 (aH b c.2.2.1 c.2.2.2))++eH t (ez a b e c.2.1 g))):=λt=>by
   show eH t (cE 32 _++(cE 45 _++(cE 43 _++ez a b e c.2.1 g))) = _;rw[zb,zb,zb]
  constructor
  ·rw[p,ih.1,DY,pW (s:=32) rfl,pW (s:=45) rfl,uo,uZ a L.o le.1,uZ a L.l (ai L.o le.1)]
  ·rw[p,ih.2,DY,pW (s:=32) rfl,pW (s:=43) rfl,uo,L.p,uZ b L.i le.2,uZ b L.yy (ai L.i le.2)]) rr)
structure Hk(a b:List Ln)(K d d' st e th e' n:Nat)(r:List Rw):Prop where
 fr:∃s S,s≠32/\et r=rp d 32++s::S/\e7 K 0 false (s::S)
 bk:Hb (et r) d'
 old:eH 43 r=aH a st e
 new:eH 45 r=aH b th e'
 cnt:kH (et r)=n
theorem Vz{c:Cg}{g:List Cg}{st th:Nat}(he:e<=a.length)(G:iF a b K e e' true st th (c::g)):Hk a b K (c.1-st) (e-(bO (c::g)).2.1) st e th e' (fT (c::g)) (ez a b e st (c::g)):=by
 have pk:=P9 G;have L:=G.1;have sg:=zW (x:=st) (e:=e) (g:=g) (ai L.o L.ha) L.ha L.hb;have ih:=UU he G.2.2;refine g9 (Ra (r:=et (ez a b e c.2.1 g)) (vW L.n)) λs S n es=>?_;refine⟨⟨s,S,n,by rw[sg,es],es▸Hy ih.ok (bJ _) (vW L.n)⟩,sg▸sR (TZ he L.n G.2.2) _,pk.1,pk.2,?_⟩;rw[sg,qg,qg,qg,z9,vO rfl,vO rfl,ih.cnt,aU,<-cq];rfl
end
end
section
noncomputable abbrev sV(s:UInt8):V:=.bytes [s]
theorem vl{α:Type}{C:ax}{e elt u:E}{caps:List Nat}{own:List cM}{t:T}{J:aj}{Z:ae}(xs:List α)(g h:α->V)(p:α->Bool)(hz:xs.length<=aJ)(he:Ev C e J Z (.list (xs.map g)))
  (H:∀a,a∈xs->∃J',d8 t (g a) (caps.map (rd J)++aR own.length none)=some J'/\Ev C u J' Z (.bool (p a))/\Ev C elt J' Z (h a)):Ev C (.comp caps own t (.seq e) [u] elt) J Z (.list ((xs.filter p).map h)):=λQ q=>
 pX (he _ (ao rfl (nS xs g h p hz (λ_=>rfl) (λa ha=>(H a ha).imp λJ' w=>⟨w.1,λQ q=>w.2.1 Q q,λ_=>w.2.2⟩) q)))
theorem wj{C:ax}{J:aj}{Z:ae}{a:E}{s t:UInt8}(h:Ev C a J Z (sV s)):Ev C (.m .ne a (.c (sV t))) J Z (.bool (!(s==t))):=di h Ev.cn (by
 show some (!([s]==[t])) = _;rw[show([s]==[t])=(s==t) from(Cq _)])
theorem E9{bt:Int->Int->Bool}{l:List Int}(n:l≠[])(h:Cu (λi j=>bt (l.getD i 0) (l.getD j 0)) (l.length-1)<=l.length-1):lL bt l∈l:=by
 unfold lL;have z:Cu (λi j=>bt (l.getD i 0) (l.getD j 0)) (l.length-1)<l.length:=bC h (nO (mw.2 n) mC);rw[oc z];exact iR z
theorem PV{x:Int}{l:List Int}(h:∀y,y∈l->x<=y):lL (λa b=>decide (a<b)) (x::l)=x:=by
 have z:=PySem.argBest_lt (λi=>(x::l).getD i 0) ((x::l).length-1);have m:=E9 (bt:=λa b=>decide (a<b)) (uk x l) z.1;refine K2 (z.2 0 (bJ _)) ?_;rcases cp.1 m with e|e
 ·rw[e];exact mB _
 ·exact h _ e
section
variable{d:Nat}{s:UInt8}{S l:List UInt8}{n:Nat}{Z:ae}{Q:QV}
theorem NB{α:Type}:∀(p q:List α)(k:Nat),fA k (p++q)=fA k p++fA (k+p.length) q:=λrr=>li (λ_ _=>rfl)
 (λa p ih q k=>congrArg ((k,a)::·) ((ih q (k+1)).trans (by rw[cH];rfl))) rr
theorem Du{α:Type}{p:Nat×α}:∀{l:List α}{k:Nat},p∈fA k l->p.2∈l
 :=λ{l}=>@(li (λ{_}h=>nm h) (λv r ih{k}h=>(cp.1 h).elim (λe=>by rw[e];exact fI) λh=>ka _ (ih h)) l)
noncomputable def qX(l:List UInt8):List Int:=((fA 0 l).filter λp=>!(p.2==32)).map λp=>(p.1:Int)
theorem TU(h:s≠32):qH (λa b=>decide (a<b)) (.list (vI (qX (rp d 32++s::S))))=some (nI d):=by
 have e:qX (rp d 32++s::S)=(d:Int)::((fA (d+1) S).filter λp=>!(p.2==32)).map λp=>(p.1:Int):=by
  unfold qX;rw[NB,xP,Bu.2 λp hp=>by rw[List.eq_of_mem_replicate (Du hp)];exact kf,uo,aU,dq];show((((d,s)::fA (d+1) S).filter λp=>!(p.2==32)).map _) = _;rw[Bt (by show(!(s==32))=true;rw[beq_false_of_ne h];rfl)];rfl
 show(eN (vI (qX (rp d 32++s::S)))).bind _ = _;rw[p9,e];show some (V.int (lL _ (_::_))) = _;rw[PV λy hy=>?_];obtain⟨p,hp,rfl⟩:=ik.1 hy;exact gy.2 (cL (NC (rG.1 hp).1).1)
theorem rX(h:s≠32)(e:l=rp d 32++s::S)(hz:l.length<=aJ)(q:Q (nI d) Z):Ph pF (n+1) 20 [.list (l.map sV)] Z Q:=by
 have en:∀i,fo Z (.enum (.vals (l.map sV))) i=some ((fA 0 l).map λp=>V.tup [nI p.1,sV p.2])[i]?:=λi=>by rw[FG];exact y8 ..
 have z:(nR (λp:Nat×UInt8=>nI p.1) ((fA 0 l).filter λp=>!(p.2==32)))=vI (qX l):=by unfold qX;rw[vI,ig];rfl
 refine bN (J:=[some (.list (l.map sV))]) rfl (lE (kz (ao rfl (nS (fA 0 l) (λp=>.tup [nI p.1,sV p.2]) (λp=>nI p.1) (λp=>!(p.2==32)) (by rw[uH];exact hz) en (λp hp=>⟨[some (nI p.1),some (sV p.2)],rfl,λQ q=>wj (aa rfl) Q q,λ_ Q q=>q⟩) ?_))));rw[z];exact ao (a:=nI d) (by rw[e];exact TU h) (bX q)
noncomputable abbrev AY:List Internal.S:=[.s (.vs [1,2]) (.tup [.b .add (.x 1) (.ite (.m .ne (.x 3) (.c (.bytes [32]))) (.lst false [.x 2]) (.lst false [])),.ite (.m .eq (.x 3) (.c (.bytes [32]))) (.b .add (.x 2) (.c (.int 1))) (.c (.int 0))])]
noncomputable def Bh(l:List UInt8)(s:List Int×Nat)(v3:Option V):aj:=[some (.list (l.map sV)),some (.list (vI s.1)),some (nI s.2),v3]
theorem vP{C:ax}{J:aj}{a:E}{s t:UInt8}(h:Ev C a J Z (sV s)):aI C (.m .eq a (.c (sV t))) J Z (s=t):=ir (yE (x:=[s]) (y:=[t]) h Ev.cn) ⟨λe=>(mz e).1,λe=>e▸rfl⟩
theorem G9{C:ax}{J:aj}{a:E}{s t:UInt8}(h:Ev C a J Z (sV s)):aI C (.m .ne a (.c (sV t))) J Z (s≠t):=ir (MQ (x:=[s]) (y:=[t]) h Ev.cn) (not_congr ⟨λe=>(mz e).1,λe=>e▸rfl⟩)
theorem Ha{C:ax}{J:aj}:Ev C (.lst false []) J Z (.list []):=λQ q=>q
theorem Qn{f:List Int}{m:Nat}(hz:f.length<1000){Q:QO}(q:Q .next (Bh l (if s=32 then(f,m+1) else(f++[(m:Int)],0)) (some (sV s))) Z):az (Ph pF n) AY (Bh l (f,m) (some (sV s))) Z Q:=by
 by_cases c:s=32
 ·rw[if_pos c]at q;refine fL (u:=.list (vI f)) (v:=nI (m+1)) (λQ q=>zr (aa rfl) (r:=[]) (λQ q=>iu (G9 (aa rfl)) (λz=>z c) (Ha Q q)) (ai (by rw[aY];exact cu hz) (by decide)) Q (by rw[gO];exact q)) (λQ q=>iY (vP (aa rfl)) c (bh (r:=((m+1:Nat):Int)) (aa rfl) Ev.cn rfl Q q)) rfl q
 ·rw[if_neg c]at q;refine fL (u:=.list (vI (f++[(m:Int)]))) (v:=nI 0) (λQ q=>zr (aa rfl) (r:=[nI m]) (λQ q=>iY (G9 (aa rfl)) c (ku (aa rfl) Q q)) (ai (by rw[aY];exact hz) (by decide)) Q (by rw[vI,dw]at q;exact q)) (λQ q=>iu (vP (aa rfl)) c q) rfl q
def AN(K:Nat)(S:List UInt8)(i:Nat)(s:List Int×Nat):Prop:=(∃p,e7 K s.2 p (S.drop i))/\s.1≠[]/\(∀v,v∈s.1->v<=K)/\s.1.length<=i+1
theorem SJ{K:Nat}{i:Nat}{f:List Int}{m:Nat}(hi:i<S.length)(h:AN K S i (f,m)):AN K S (i+1) (if S[i]=32 then(f,m+1) else(f++[(m:Int)],0)):=by
 refine nC h λpp10_ h2 h3 h4=>?_;obtain⟨p,h1⟩:=pp10_;rw[jI hi]at h1;have add:m<=K->(∀v,v∈f++[(m:Int)]->v<=(K:Int)):=λk v hv=>(gw.1 hv).elim (h3 v) λe=>by rw[cJ.1 e];exact gy.2 k
 have ne:f++[(m:Int)]≠[]:=λz=>nc (q8.1 z).2;have ln:(f++[(m:Int)]).length<=i+1+1:=by rw[bB];exact cK h4
 rcases h1 with⟨e,h1⟩|⟨e,_,k,h1⟩|⟨e,k,h1⟩
 ·rw[if_pos e];exact⟨⟨_,h1⟩,h2,h3,fv h4⟩
 ·rw[if_neg (by rw[e];decide)];exact⟨⟨_,h1⟩,ne,add k,ln⟩
 ·rw[if_neg (by rw[e];decide)];exact⟨⟨_,h1⟩,ne,add k,ln⟩
theorem PD{K:Nat}(h:s≠32)(e:l=rp d 32++s::S)(hz:l.length<=900)(hk:e7 K 0 false (s::S))(q:∀f:List Int,f≠[]->(∀v,v∈f->v<=K)->Q (.list (vI f)) Z):Ph pF (n+2) 21 [.list (l.map sV)] Z Q:=by
 have dr:l.drop d=s::S:=by rw[e];exact Cb dq
 have ld:(l.drop d).length<=900:=by rw[hU];exact ai (ew ..) hz
 refine bN (J:=[some (.list (l.map sV)),none,none,none]) rfl (fL (u:=.list (vI [0])) (v:=nI 0) (ku Ev.cn) Ev.cn rfl (aO (n9 (l:=(l.drop d).map sV) (λQ q=>zv (l:=l.map sV) (aa rfl) (gC (aa rfl) λQ q=>rX h e (ai hz (by decide)) q) Q (by rw[<-x8];exact q)) ?_)));refine qI (cD pF _) (λs v3=>Bh l s v3) (λ_=>Z) (AN K (l.drop d)) (λ_ _ _ _=>rfl) (λi hi s j h=>ao rfl λQ q=>Qn (bC h.2.2.2 (aQ (nJ hi) (ai (cK ld) (by decide)))) (q _ _ (SJ hi h))) (λs j h=>eF (aa rfl) (bX (q _ h.2.1 h.2.2.1))) (s:=([0],0)) (j:=none) ⟨⟨false,by rw[x7,dr];exact hk⟩,uk _ _,λv hv=>by rw[cJ.1 hv];exact eK K,aC _⟩
end
end
section
section
variable{K:Nat}{l:List UInt8}
theorem Ss:∀{l:List UInt8}{m:Nat}{p:Bool},e7 K m p l->∀s,s∈l->s=32\/s=45\/s=43
 :=λ{l}=>@(li (λ{_ _}_ _ h=>nm h) (λs r ih{m p}h u hu=>(cp.1 hu).elim (λe=>e▸h.imp (λh=>h.1) λh=>h.imp (λh=>h.1) λh=>h.1) λk=>h.elim (λh=>ih h.2 u k) λh=>h.elim (λh=>ih h.2.2.2 u k) λh=>ih h.2.2 u k) l)
theorem So:∀{l:List UInt8}{m:Nat}{p:Bool},e7 K m p l->(p=true->l[0]?≠some 45)/\∀k:Nat,l[k]?=some 43->l[k+1]?≠some 45:=λ{rr}=>@(li (λ{_}{_}_=>⟨λ_ h=>(nn h),λ_ h=>(nn h)⟩)
 (λs r ih{m}{p}h=>by
  have z:∀{q},(q=true->r[0]?≠some 45)/\(∀k:Nat,r[k]?=some 43->r[k+1]?≠some 45)->(s=43->q=true)->∀k:Nat,(s::r)[k]?=some 43->(s::r)[k+1]?≠some 45:=λi w k e=>match k,e with
   |0,e=>i.1 (w (dy e))
   |k+1,e=>i.2 k e
  rcases h with⟨e,h⟩|⟨e,hp,_,h⟩|⟨e,_,h⟩
  ·exact⟨λ_ w=>absurd (e.symm.trans (dy w)) (by decide),z (ih h) λw=>absurd (e.symm.trans w) (by decide)⟩
  ·exact⟨λw=>absurd (hp.symm.trans w) kf,z (ih h) λw=>absurd (e.symm.trans w) (by decide)⟩
  ·exact⟨λ_ w=>absurd (e.symm.trans (dy w)) (by decide),z (ih h) λ_=>rfl⟩) rr)
theorem Sq{d:Nat}{s:UInt8}{S:List UInt8}(hd:d<=K)(n:s≠32)(h:e7 K 0 false (s::S)):e7 K 0 false (rp d 32++s::S):=by
 have k:e7 K d false (s::S):=h.elim (λh=>absurd h.1 n) λh=>.inr (h.imp (λh=>⟨h.1,h.2.1,hd,h.2.2.2⟩) λh=>⟨h.1,hd,h.2.2⟩);cases d with
 |zero=>exact k
 |succ d=>exact Hu d (by rw[aU];exact k)
theorem Hi{d:Nat}(h:Hb l d):∃s S,s≠32/\l.reverse=rp d 32++s::S:=h.elim λL h=>h.elim λs h=>⟨s,L.reverse,h.1,by rw[h.2,List.reverse_append,rD,List.reverse_replicate,eT];rfl⟩
end
section
variable{C:ax}{J:aj}{Z:ae}{l:List UInt8}{own:List cM}{K:Nat}
theorem Dz{α:Type}(l:List α):(l.filter λ_=>false)=[]:=Bu.2 λ_ _ h=>bn h
theorem Rg(h7:rd J 7=some (.list (l.map sV)))(ho:aR own.length (none:Option V)=[none])(hz:l.length<=aJ)(h:∀s,s∈l->s=32\/s=45\/s=43) :
  aI C (.m .ne (.comp [] own (.v 0) (.seq (.x 7)) [.m .notin (.x 0) (.tup [.c (.bytes [32]),.c (.bytes [45]),.c (.bytes [43])])] (.x 0)) (.lst false [])) J Z (([]:List V)≠[]):=
 yF λQ q=>vl l sV sV (λ_=>false) hz (aa h7) (λs hs=>⟨[some (sV s)],by rw[ho];rfl,di (op:=.notin) (x:=sV s) (y:=.tup [sV 32,sV 45,sV 43]) (r:=false) (aa rfl) (λQ q=>by exact q) (by rcases h s hs with e|e|e<;>(rw[e];rfl)),aa rfl⟩) Q (by rw[Dz];exact q)
theorem OX(h7:rd J 7=some (.list (l.map sV)))(ho:aR own.length (none:Option V)=[none])(hz:l.length<=aJ) :
  aI C (.m .eq (.comp [] own (.v 0) (.seq (.x 7)) [.m .ne (.x 0) (.c (.bytes [32]))] (.x 0)) (.lst false [])) J Z ((l.filter λs=>!(s==32))=[]):=
 uQ (g:=sV) (q:=[]) (eq:=λa b=>a==b) (λa b=>by show some ([a]==[b]) = _;rw[show([a]==[b])=(a==b) from(Cq _)]) (λ_ _=>beq_iff_eq) (vl l sV sV (λs=>!(s==32)) hz (aa h7) (λs hs=>⟨[some (sV s)],by rw[ho];rfl,wj (aa rfl),aa rfl⟩)) (λQ q=>q)
theorem Ez{e:E}{r:List Rw}(he:Ev C e J Z (.list (r.map gM)))(ho:aR own.length (none:Option V)=[none,none])(hz:r.length<=aJ):Ev C (.comp [] own (.tup [0,1]) (.seq e) [] (.x 0)) J Z (.list ((et r).map sV)):=λQ q=>
 mH r gM (λr=>sV r.1) hz he (λr _=>⟨[some (sV r.1),some (.bytes r.2)],by rw[ho];rfl,aa rfl⟩) Q (by unfold et at q;rw[ig]at q;exact q)
theorem Ey{t:UInt8}{e:E}{r:List Rw}(he:Ev C e J Z (.list (r.map gM)))(ho:aR own.length (none:Option V)=[none,none])(hz:r.length<=aJ):Ev C (.comp [] own (.tup [0,1]) (.seq e) [.m .ne (.x 0) (.c (.bytes [t]))] (.x 1)) J Z (.list (vY (eH t r))):=λQ q=>
 vl r gM (λr=>.bytes r.2) (λr=>!(r.1==t)) hz he (λr _=>⟨[some (sV r.1),some (.bytes r.2)],by rw[ho];rfl,wj (aa rfl),aa rfl⟩) Q (by unfold eH at q;rw[vY,ig]at q;exact q)
theorem FL{e:E}(h:Ev C e J Z (.list (l.map sV))):Ev C (.rev e) J Z (.list (l.reverse.map sV)):=λQ q=>h _ (ao (a:=l.map sV) rfl (by rw[<-B5];exact q))
theorem MB{k:Nat}(h:k<=999):jT [((1:Nat):Int),((k+1:Nat):Int)]=some ((uA 1 k).map nI):=by
 rw[cb k 1,sj (by exact au [_] [] (.ln (.a .k1 .v0) (.k 1000)) 1 [(1,.ln .v0 (.k 999))] rfl h),Gn]
theorem Rf{k:Nat}(h7:rd J 7=some (.list (l.map sV)))(ho:aR own.length (none:Option V)=[none])(hl:l.length=k+1)(hz:k<=999)(h:∀k:Nat,l[k]?=some 43->l[k+1]?≠some 45) :
  aI C (.m .ne (.comp [7] own (.v 1) (.range [.c (.int 1),.bi .len [.x 7]]) [.o true [.m .eq (.i (.x 0) (.b .sub (.x 1) (.c (.int 1)))) (.c (.bytes [43])),.m .eq (.i (.x 0) (.x 1)) (.c (.bytes [45]))]] (.x 1)) (.lst false [])) J Z (([]:List V)≠[]):=by
 have gt:∀i(hi:i<l.length),eP Z (.list (l.map sV)) (nI i)=some (sV l[i]):=λi hi=>jN (by rw[cO,bL hi];rfl);refine yF λQ q=>yW [((1:Nat):Int),((k+1:Nat):Int)] (λQ q=>?_) (MB hz) (nS (uA 1 k) nI nI (λ_=>false) (by rw[BL];exact ai hz (by decide)) (λ_=>rfl) (λi hi=>⟨[some (.list (l.map sV)),some (nI i)],?_,?_,λz=>bn z⟩) (by rw[Dz];exact q))
 ·exact Ev.cn _ (qr (aa h7) _ (by rw[aY,hl];exact q))
 ·show d8 (.v 1) (nI i) ([rd J 7]++_) = _;rw[ho,h7];rfl
 ·have hi:=List.mem_range'_1.1 hi;obtain⟨j,rfl⟩:=xy hi.1;have h1:j+1<l.length:=by rw[hl];have:=hi.2;exact au [_,_] [] (.tn (.a .v0 .k1) (.a .v1 .k1)) 1 [(1,.tn (.a .v0 .k1) (.a .k1 .v1))] rfl hi.2
  have h0:j<l.length:=nF h1;refine ju (t:=false) (iU (vP (bW (aa rfl) (vm (aa rfl)) (gt j h0))) λ_=>vP (bW (aa rfl) (aa rfl) (gt (j+1) h1))) ⟨(λz=>bn z),λz=>?_⟩;exact absurd ((bL h1).trans (congrArg some z.2)) (h j ((bL h0).trans (congrArg some z.1)))
theorem PQ{K:Nat}{f:List Int}(n:f≠[])(h:∀v,v∈f->v<=K):∃m:Int,m<=K/\qH (λa b=>decide (a > b)) (.list (vI f))=some (.int m):=by
 have z:=PySem.argBest_gt (λi=>f.getD i 0) (f.length-1);refine⟨_,h _ (E9 (bt:=λa b=>decide (a > b)) n z.1),?_⟩;show(eN (vI f)).bind _ = _;rw[p9];cases f with
 |nil=>exact absurd rfl n
 |cons a f=>rfl
theorem OW{n d x y:Nat}{s:UInt8}{S:List UInt8}(h7:rd J 7=some (.list (l.map sV)))(h5:rd J 5=some (nI x))(h6:rd J 6=some (nI y))(n32:s≠32)(e:l=rp d 32++s::S)(hz:l.length<=900)(hk:e7 (2*x+y) 0 false (s::S)) :
  aI (Ph pF (n+2)) (.m .gt (.bi .max1 [.call 21 [.x 7]]) (.b .add (.b .mul (.c (.int 2)) (.x 5)) (.x 6))) J Z False:=by
 refine⟨false,⟨(λz=>bn z),pP⟩,λQ q=>?_⟩;have c:WE (Ph pF (n+2)) (.call 21 [.x 7]) J Z λv Z'=>aK (oU Z' .max1 [v]) λu=>WE (Ph pF (n+2)) (.b .add (.b .mul (.c (.int 2)) (.x 5)) (.x 6)) J Z' λw Z'=>aK (wF Z' .gt u w) λr=>Q (.bool r) Z':=by
  refine aa (C:=Ph pF (n+2)) h7 _ (PD n32 e hz hk λf n hf=>?_);refine ar (PQ n hf) λm m1 m2=>?_;refine ao m2 (bh (r:=((2*x+y:Nat):Int)) (fN (op:=.mul) (v:=.int (2*(x:Int))) Ev.cn (aa h5) rfl) (aa h6) (by exact bR [_,_] [] (.a (.m 2 .c0) .c1) (.c (.a (.m 2 .v0) .v1)) [] rfl) _ (ao (a:=false) ?_ q));exact congrArg some (decide_eq_false (jL.2 m1))
 exact c
end
end
section
noncomputable abbrev xh(it:V)(st th x y:Nat)(a b:List Ln)(v7 v8 v9 v10 v11:Option V):aj:=[some it,some (nI st),some (nI th),some (.list (vY a)),some (.list (vY b)),some (nI x),some (nI y),v7,v8,v9,v10,v11]
section
variable{a b:List Ln}{x y st om th nm d d' n k:Nat}{r:List Rw}{w:Ln}{Z:ae}
theorem MU{e e':Nat}(H:Hk a b (2*x+y) d d' st e th e' k r)(e1:st+om=e)(e2:th+nm=e')(h1:st+om<=a.length)(h2:th+nm<=b.length)(hd:fS x (st+d)=d)(hd':fS x (a.length-(st+om-d'))=d')(hl:d'<=st+om)(hz:r.length<=900){Q:QV}(q:Q (.bool true) Z) :
  Ph pF (n+3) 22 [kL st om th nm r w,nI st,nI th,.list (vY a),.list (vY b),nI x,nI y] Z Q:=by
 subst e1;subst e2;have rz:r.length<=aJ:=ai hz (by decide);have sl:(et r).length=r.length:=aY ..;have sz:(et r).length<=aJ:=sl▸rz;have s9:(et r).length<=900:=sl▸hz;obtain⟨⟨s,S,n32,e,ok⟩,hb,old,new,_⟩:=H;have dx:d<=2*x+y:=ai (hd▸(sH ..).1) (ai (Bw x yh) (aL ..));have ok':=Sq dx n32 ok;rw[<-e]at ok';refine g9 (Hi hb) λs' S' n32' e'=>?_;have hd0:d+S.length<=900:=by
  have z:=congrArg rM e;rw[bB,dq,nG]at z;exact au [_,_,_] [] (.ln (.a .v0 .v1) (.k 900)) 1 [(1,.ln .v2 (.k 900)),(-1,.en .v2 (.a .v0 (.a .v1 .k1)))] rfl s9 z
 have sk:(et r).length=(d+S.length)+1:=by rw[e,bB,dq];rfl
 have fne:((et r).filter λs=>!(s==32))≠[]:=by
  rw[e,xP];refine List.append_ne_nil_of_right_ne_nil _ ?_;rw[Bt (by show(!(s==32))=true;rw[beq_false_of_ne n32];rfl)];exact uk _ _
 have R:∀{v7 v8 v9 v10 v11:Option V},Ev (Ph pF (n+2)) (.a (.x 0) 18) (xh (kL st om th nm r w) st th x y a b v7 v8 v9 v10 v11) Z (.list (r.map gM)):=br (aa rfl) rfl;have O:∀{v7 v8 v9 v10 v11:Option V},Ev (Ph pF (n+2)) (.a (.x 0) 15) (xh (kL st om th nm r w) st th x y a b v7 v8 v9 v10 v11) Z (nI om):=br (aa rfl) rfl;have N:∀{v7 v8 v9 v10 v11:Option V},Ev (Ph pF (n+2)) (.a (.x 0) 17) (xh (kL st om th nm r w) st th x y a b v7 v8 v9 v10 v11) Z (nI nm):=br (aa rfl) rfl;refine bN (J:=xh (kL st om th nm r w) st th x y a b none none none none none) rfl (bM (Ez R rfl rz) ?_);refine aO (bH (Rg rfl rfl sz (Ss ok')) (λz=>z rfl) (aO (bH (OX rfl rfl sz) fne ?_)));refine fL (Ey R rfl rz) (Ey R rfl rz) rfl ?_;refine aO (bH (iW (sD (aa rfl) (jn (aa rfl) (aa rfl) (bh (r:=((st+om:Nat):Int)) (aa rfl) O rfl))) λ_=>sD (aa rfl) (jn (aa rfl) (aa rfl) (bh (r:=((th+nm:Nat):Int)) (aa rfl) N rfl))) (λz=>z.elim (λz=>z old) λz=>z new) ?_);have lo:(eH 43 r).length=om:=by rw[old,qb a st h1,cC]
 have ln:(eH 45 r).length=nm:=by rw[new,qb b th h2,cC]
 refine aO (bH (iW (yG (p:=[((eH 43 r).length:Int),((eH 45 r).length:Int)]) (q:=[(om:Int),(nm:Int)]) (n6 (iq (aa rfl)) (iq (aa rfl))) (n6 O N)) λ_=>OW rfl rfl rfl n32 e s9 ok) (λz=>z.elim (λz=>z (by rw[lo,ln])) id) ?_);refine aO (bH (Rf rfl rfl sk (ai hd0 (by decide)) (So ok').2) (λz=>z rfl) ?_);refine fL (u:=nI d) (v:=nI d') (gC (aa rfl) λQ q=>rX n32 e sz q) (gC (FL (aa rfl)) λQ q=>rX n32' e' (by rw[mx];exact sz) q) rfl ?_;refine aO (bH (qt (i:=(d:Int)) (j:=(d:Int)) (aa rfl) (λQ q=>vQ (u:=x) (v:=st+d) (aa rfl) (bh (r:=((st+d:Nat):Int)) (aa rfl) (aa rfl) rfl) Q (by rw[hd];exact q))) (λz=>z rfl) (eF (ju (t:=true) (kB (i:=(d':Int)) (j:=(d':Int)) (aa rfl) (λQ q=>vQ (u:=x) (v:=a.length-(st+om-d')) (aa rfl) (cv (r:=((a.length-(st+om-d'):Nat):Int)) (iq (aa rfl)) (cv (r:=((st+om-d':Nat):Int)) (bh (r:=((st+om:Nat):Int)) (aa rfl) O rfl) (aa rfl) (jh hl).symm) (jh (ai (ew ..) h1)).symm) Q (by rw[hd'];exact q))) (iff_of_true rfl rfl)) (bX q)))
end
end
section
noncomputable abbrev IW:List S:=[.s (.v 11) (.ite (.m .gt (.a (.x 10) 15) (.c (.int 0))) (.b .sub (.a (.x 10) 14) (.c (.int 1))) (.a (.x 10) 14)),
   .s (.v 12) (.ite (.m .gt (.a (.x 10) 17) (.c (.int 0))) (.b .sub (.a (.x 10) 16) (.c (.int 1))) (.a (.x 10) 16)),
   .ite (.o false [.m .lt (.x 11) (.x 6),.m .ne (.b .sub (.x 12) (.x 7)) (.b .sub (.x 11) (.x 6)),.m .ne (.l (.x 0) (.x 6) (.x 11)) (.l (.x 1) (.x 7) (.x 12))])
   [.ret (.c (.bool false))]
   [],
   .ite (.not (.call 22 [.x 10,.x 11,.x 12,.x 0,.x 1,.x 2,.x 3]))
   [.ret (.c (.bool false))]
   [],
   .s (.v 13) (.comp [] [("sign":cM),("line":cM)] (.tup [0,1]) (.seq (.a (.x 10) 18)) [] (.x 0)),
   .s (.vs [14,15]) (.tup [.call 20 [.x 13],.call 20 [.rev (.x 13)]]),
   .ite (.o true [.m .isnot (.x 8) (.c .none),.m .le (.b .sub (.b .add (.x 11) (.x 14)) (.x 8)) (.b .add (.b .mul (.c (.int 2)) (.x 2)) (.x 3))])
   [.ret (.c (.bool false))]
   [],
   .s (.vs [6,7,8]) (.tup [.b .add (.x 11) (.a (.x 10) 15),.b .add (.x 12) (.a (.x 10) 17),.b .sub (.b .add (.x 11) (.a (.x 10) 15)) (.x 15)]),
   .s (.v 9) (.b .add (.x 9) (.bi .len [.comp [] [("sign":cM)] (.v 0) (.seq (.x 13)) [.m .ne (.x 0) (.c (.bytes [32]))] (.x 0)]))]
noncomputable def Bc(a b:List Ln)(x y:Nat)(w gsV:V)(p q:Nat)(l:V)(sh:Nat)(v10 v11 v12 v13 v14 v15:Option V):aj:=[some (.list (vY a)),some (.list (vY b)),some (nI x),some (nI y),some w,some gsV,some (nI p),some (nI q),some l,some (nI sh),v10,v11,v12,v13,v14,v15]
noncomputable def Az(f:Bool)(p:Nat):V:=match f with
 |true=>.none
 |false=>nI p
section
variable{a b:List Ln}{x y st om th nm d d' n k p q pl sh e e':Nat}{f:Bool}{r:List Rw}{hw:Ln}{w gsV:V}{Z:ae}
theorem G8{C:ax}{J:aj}{u v:E}(h:Ev C u J Z (nI om))(g:Ev C v J Z (nI (st+i0 om))):Ev C (.ite (.m .gt u (.c (.int 0))) (.b .sub v (.c (.int 1))) v) J Z (nI st):=λQ q=>by
 have t:aI C (.m .gt u (.c (.int 0))) J Z (0<om):=iV h (j:=0) Ev.cn;by_cases c:0<om
 ·exact iY t c (cv (i:=((st+i0 om:Nat):Int)) (j:=1) (r:=(st:Int)) g Ev.cn (by rw[i0,if_pos c];exact si st) Q q)
 ·exact iu t c (g Q (by rw[i0,if_neg c];exact q))
theorem Fv{C:ax}{J:aj}{g:Nat}{es:List E}{vs:List V}{res:V}(h:∀Q:List V->ae->Prop,Q vs Z->eh C es J Z Q)(k:∀Q:QV,Q res Z->C g vs Z Q):Ev C (.call g es) J Z res:=λQ q=>h _ (k Q q)
theorem O5{J:aj}{K:Nat}(h8:rd J 8=some (Az f pl))(h11:rd J 11=some (nI st))(h14:rd J 14=some (nI d))(hk:∀C:ax,Ev C (.b .add (.b .mul (.c (.int 2)) (.x 2)) (.x 3)) J Z (nI K)){C:ax}(c4:f=false->pl+K<st+d) :
  aI C (.o true [.m .isnot (.x 8) (.c .none),.m .le (.b .sub (.b .add (.x 11) (.x 14)) (.x 8)) (.b .add (.b .mul (.c (.int 2)) (.x 2)) (.x 3))]) J Z False:=by
 cases f with
 |true=>exact ir (iU (p:=False) (q:=False) ⟨false,⟨λz=>(bn z),pP⟩,di (op:=.isnot) (aa h8) Ev.cn rfl⟩ pP) ⟨λz=>z.1,pP⟩
 |false=>exact ir (iU (p:=True) ⟨true,⟨λ_=>trivial,λ_=>rfl⟩,di (op:=.isnot) (aa h8) Ev.cn rfl⟩ λ_=>Hd (cv (i:=((st+d:Nat):Int)) (j:=(pl:Int)) (bh (aa h11) (aa h14) rfl) (aa h8) rfl) (hk C)) ⟨λz=>by have h:=c4 rfl;have:=z.2;exact fQ [_,_,_,_] [] [(1,.li (.s (.c (.a .v0 .v1)) .c2) .c3),(1,.tn (.a .v2 .v3) (.a .v0 .v1))] rfl z.2 h,pP⟩
theorem RW(H:Hk a b (2*x+y) d d' st e th e' k r)(e1:st+om=e)(e2:th+nm=e')(h1:e<=a.length)(h2:e'<=b.length)(hd:fS x (st+d)=d)(hd':fS x (a.length-(st+om-d'))=d')(hl:d'<=st+om)(hz:r.length<=900)
  (c1:p<=st) (c2:th+p=st+q) (c3:aH a p st=aH b q th) (c4:f=false->pl+(2*x+y)<st+d) {v11 v12 v13 v14 v15:Option V} {Q:QO}
  (q':∀v11 v12 v13 v14 v15,Q .next (Bc a b x y w gsV e e' (nI (st+om-d')) (sh+k) (some (kL st om th nm r hw)) v11 v12 v13 v14 v15) Z) :
  az (Ph pF (n+3)) IW (Bc a b x y w gsV p q (Az f pl) sh (some (kL st om th nm r hw)) v11 v12 v13 v14 v15) Z Q:=by
 have rz:r.length<=aJ:=ai hz (by decide);have sz:(et r).length<=aJ:=ai (dA (aY ..)) rz;refine cG H.fr λs S n32 es _=>?_;refine g9 (Hi H.bk) λs' S' n32' es'=>?_;refine bM (v:=nI st) (G8 (om:=om) (br (aa rfl) rfl) (br (aa rfl) rfl)) (bM (v:=nI th) (G8 (om:=nm) (br (aa rfl) rfl) (br (aa rfl) rfl)) ?_);refine aO (bH (vt (eY (aa rfl) (aa rfl)) (λ_=>qt (i:=(th:Int)-q) (j:=(st:Int)-p) (cv (aa rfl) (aa rfl) rfl) (cv (aa rfl) (aa rfl) rfl)) λ_ _=>sD (jn (aa rfl) (aa rfl) (aa rfl)) (jn (aa rfl) (aa rfl) (aa rfl))) (λz=>z.elim (λz=>bc.2 c1 z) λz=>z.elim (λz=>z (by exact bR [_,_,_,_] [] (.s .c0 .c1) (.s .c2 .c3) [(-1,.en (.a .v0 .v3) (.a .v2 .v1))] rfl c2)) λz=>z c3) ?_);refine aO (bH (vR (t:=true) (Fv (vs:=[kL st om th nm r hw,nI st,nI th,.list (vY a),.list (vY b),nI x,nI y]) (λQ q=>cZ (aa rfl) (cZ (aa rfl) (cZ (aa rfl) (cZ (aa rfl) (cZ (aa rfl) (cZ (aa rfl) (cZ (aa rfl) (gc q)))))))) λQ q=>MU H e1 e2 (e1▸h1) (e2▸h2) hd hd' hl hz q)) (λz=>nb z) ?_);refine bM (Ez (r:=r) (br (aa rfl) rfl) rfl rz) (fL (u:=nI d) (v:=nI d') (gC (aa rfl) λQ q=>rX n32 es sz q) (gC (FL (aa rfl)) λQ q=>rX n32' es' (by rw[mx];exact sz) q) rfl ?_);refine aO (bH (O5 (st:=st) (d:=d) rfl rfl rfl (λC=>bh (r:=((2*x+y:Nat):Int)) (fN (op:=.mul) (v:=.int (2*(x:Int))) Ev.cn (aa rfl) rfl) (aa rfl) (by exact bR [_,_] [] (.a (.m 2 .c0) .c1) (.c (.a (.m 2 .v0) .v1)) [] rfl)) c4) id ?_);refine sy (sC (u:=nI e) (v:=nI e') (w:=nI (st+om-d')) (bh (aa (v:=nI st) rfl) (br (v:=nI om) (aa rfl) rfl) (by rw[<-e1];rfl)) (bh (aa (v:=nI th) rfl) (br (v:=nI nm) (aa rfl) rfl) (by rw[<-e2];rfl)) (cv (i:=((st+om:Nat):Int)) (bh (aa (v:=nI st) rfl) (br (v:=nI om) (aa rfl) rfl) rfl) (aa (v:=nI d') rfl) (jh hl).symm)) ?_;refine bM (v:=nI (sh+k)) (bh (i:=(sh:Int)) (j:=(k:Int)) (aa rfl) (λQ q=>qr (vl (et r) sV sV (λs=>!(s==32)) sz (aa rfl) (λs _=>⟨[some (sV s)],rfl,wj (aa rfl),aa rfl⟩)) Q (by rw[aY,show((et r).filter λs=>!(s==32)).length=k from H.cnt];exact q)) rfl) (q' _ _ _ _ _)
end
end
section
structure QS where
 p:Nat
 q:Nat
 dd:Nat
 sh:Nat
 f:Bool
abbrev V6:=Option V×Option V×Option V×Option V×Option V×Option V
noncomputable def nk(a b:List Ln)(x y:Nat)(w gsV:V)(s:QS)(j:V6):aj:=Bc a b x y w gsV (s.p+s.dd) (s.q+s.dd) (Az s.f s.p) s.sh j.1 j.2.1 j.2.2.1 j.2.2.2.1 j.2.2.2.2.1 j.2.2.2.2.2
structure A4(a b:List Ln)(x K tot:Nat)(gs:List (List Cg))(s:QS):Prop where
 l:ee a b s.f s.p s.q gs.flatten
 sp:Sp K s.f s.p gs
 z:s.f=true->s.p=0/\s.q=0/\s.dd=0
 d:s.dd<=x
 t:s.sh+fT gs.flatten=tot
section
variable{a b:List Ln}{x y n tot:Nat}{w gsV:V}{Z:ae}
theorem FI{C:ax}{J:aj}{e:E}{L:List Ln}(h:Ev C e J Z (.list (vY L)))(hz:L.flatten.length<=aJ):Ev C (.bm (.c (.bytes [])) .join [e]) J Z (.bytes L.flatten):=λQ q=>by
 have bl:∀L:List Ln,pT (vY L)=some L:=λL=>by
  induction L with
  |nil=>rfl
  |cons w L ih=>
   show(pT (vY L)).map _ = _;rw[ih];rfl
 have g:aK (m6 Z (.bytes []) .join [.list (vY L)]) λr=>Q r Z:=ao (a:=V.bytes L.flatten) (by
  show(pT (vY L)).bind (λbs=>if bs.flatten.length<=aJ then some (V.bytes bs.flatten) else none) = _;rw[bl];exact if_pos hz) q
 exact⟨rfl,h _ g⟩
theorem QY{C:ax}{J:aj}{is:List Nat}{es:List E}{rest:List S}{Q:QO}(h:eh C es J Z λvs Z'=>is.length=vs.length/\az C rest (fZ J is vs) Z' Q):az C (.s (.vs is) (.tup es)::rest) J Z Q:=h
theorem QP{C:ax}{J:aj}{f:Nat}{as es:List E}{Q:List V->ae->Prop}(h:eh C as J Z λvs Z'=>C f vs Z' λv Z''=>eh C es J Z'' λvs Z=>Q (v::vs) Z):eh C (.call f as::es) J Z Q:=h
theorem Sj(x c:Nat):fS x c=c-(c-x):=by
 unfold fS;by_cases k:c<x
 ·rw[if_pos k,BA (cu k)];rfl
 ·rw[if_neg k,B6 (bc.1 k)]
theorem Si(n l x:Nat):fS x (n-l)=fS n (l+x)-l:=by
 unfold fS;by_cases k:l+x<n
 ·rw[if_pos k,if_neg (bc.2 (Nat.le_sub_of_add_le (cb l x▸cu k))),cC]
 ·rw[if_neg k];have k:=xD.2 (bc.1 k);by_cases g:n-l<x
  ·rw[if_pos g]
  ·rw[if_neg g];exact cX (bc.1 g) k
theorem RV(ha:a.length<=400)(hb:b.length<=400){g:List Cg}{gs:List (List Cg)}{s:QS}(h:A4 a b x (2*x+y) tot (g::gs) s){j:V6}{Q:QO}
  (q:∀s' j',A4 a b x (2*x+y) tot gs s'->Q .next (nk a b x y w gsV s' j') Z):az (Ph pF (n+3)) IW (nk a b x y w gsV s (some (iP a b x g),j.2)) Z Q:=by
 have xk:x<=2*x+y:=ai (Bw x yh) (aL ..);refine cG h.sp.1 λc r e s1 s2=>?_;subst e;refine bA (FU h.l s1 s2 h.sp.2 (λz=>⟨(h.z z).1,(h.z z).2.1⟩) xk) λt A=>?_;have le:=A.G.le;have en:=sH a.length ((bO (c::r)).2.1+x);have dt:s.dd<=t:=by
  cases hf:s.f with
  |true=>rw[(h.z hf).2.2];exact bJ _
  |false=>exact ai h.d (au [_,_,_] [] (.ln .v0 .v1) 1 [(1,.tn (.a (.m 2 .v0) .v2) (.a .v1 .v0))] rfl (A.lt hf))
 have H:=Vz (e:=fm a x (c::r)) (e':=je a x (c::r)) en.1 A.G;have l1:=fu le.1;have l2:=B6 A.le;have dE:fm a x (c::r)-(bO (c::r)).2.1<=x:=xD.2 en.2;have sc:gv x (c::r)+(c.1-gv x (c::r))=c.1:=fu A.G.1.l;refine RW (om:=fm a x (c::r)-gv x (c::r)) (nm:=je a x (c::r)-j6 x (c::r)) (p:=s.p+s.dd) (q:=s.q+s.dd) H l1 (fu le.2) en.1 A.eo (by rw[sc];exact Sj x c.1) ?_ (by rw[l1];exact ew ..) ?_ (A.st▸kT dt s.p) ?_ (by rw[A.st,A.th];exact EZ A.pt) (λz=>sc.symm▸s1 z) λv11 v12 v13 v14 v15=>?_
 ·rw[l1,l2];exact Si a.length (bO (c::r)).2.1 x
 ·exact ai (D4 A.G) (ai (ff (ai (ew ..) (ai en.1 ha)) (ai (ew ..) (ai A.eo hb))) (by decide))
 ·rw[A.st,A.th];exact bE [_,_,_,_] [] (.a (.a .v0 .v1) (.a .v2 .v3)) (.a (.a .v2 .v1) (.a .v0 .v3)) [] rfl
 ·have z:=q ⟨(bO (c::r)).2.1,(bO (c::r)).2.2.2,fm a x (c::r)-(bO (c::r)).2.1,s.sh+fT (c::r),false⟩ (some (iP a b x (c::r)),v11,v12,v13,v14,v15) ⟨A.l,h.sp.2,(λz=>bn z),dE,by rw[cq,<-S9];exact h.t⟩;unfold nk at z;rw[l1,l2];rw[show(bO (c::r)).2.1+(fm a x (c::r)-(bO (c::r)).2.1)=fm a x (c::r) from fu A.le]at z;exact z
theorem Mq{cs:List Cg}{v6:V}{u:Nat}(hu:u<3)(ha:fU a)(hb:fU b)(hz:a.length<=400)(hy:b.length<=400)(hL:ee a b true 0 0 cs)
  (r6:∀Z(Q:QV),Q v6 Z->Ph pF (n+5) 6 [.str (cP u),.list (vY a),.list (vY b)] Z Q) (r8:∀Z(Q:QV),Q (.list (cs.map aV)) Z->Ph pF (n+5) 8 [v6,.list (vY a),.list (vY b)] Z Q)
  (low:fB a b<=fT cs) (gL:u=0->(fT cs:Int)=fB a b) {Q:QV} (q:Q (.bool true) Z):Ph pF (n+7) 23 [.list (vY a),.list (vY b),nI x,nI y,.str (cP u)] Z Q:=by
 have la:a.flatten.length<=aJ:=by rw[uR ha];exact ai (rA 2 hz) (by decide)
 have lb:b.flatten.length<=aJ:=by rw[uR hb];exact ai (rA 2 hy) (by decide)
 have lc:cs.length<=900:=ai (ai (aL ..) (F6 hL (bJ _) (bJ _))) (ai (ff hz hy) (by decide));refine bN (J:=[some (.list (vY a)),some (.list (vY b)),some (nI x),some (nI y),some (.str (cP u)),none,none,none,none,none,none,none,none,none,none,none]) rfl ?_;refine QY (QP (cZ (FI (aa rfl) la) (cZ (FI (aa rfl) lb) (cZ (aa rfl) (cZ (aa rfl) (cZ (aa rfl) (gc (Pj ha hb hz hy hL lc r6 r8 λgs e sp=>cZ Ev.cn (cZ Ev.cn (cZ Ev.cn (cZ Ev.cn (gc ⟨rfl,aO (n9 (l:=gs.map (iP a b x)) (aa rfl) ?_)⟩))))))))))));refine qI (cD pF _) (nk a b x y (.str (cP u)) (.list (gs.map (iP a b x)))) (λ_=>Z) (λi s=>A4 a b x (2*x+y) (fT cs) (gs.drop i) s) (λ_ _ _ _=>rfl) (λi hi s j h=>?_) (λs j h=>?_) (s:=⟨0,0,0,0,true⟩) (j:=(none,none,none,none,none,none)) ⟨e▸hL,sp,λ_=>⟨rfl,rfl,rfl⟩,bJ _,by rw[x7,e];exact aU _⟩
 ·rw[jI hi]at h;exact ao (a:=nk a b x y (.str (cP u)) (.list (gs.map (iP a b x))) s (some (iP a b x gs[i]),j.2)) rfl λQ q=>RV hz hy h λs' j' h'=>q s' j' h'
 ·rw[kW]at h;obtain⟨hl,_,_,_,ht⟩:=h;have dr:a.drop (s.p+s.dd)=b.drop (s.q+s.dd):=by
   have hl:a.drop s.p=b.drop s.q:=hl;rw[<-rJ,<-rJ,hl]
  have sh:s.sh=fT cs:=ht;refine aO (bH (sD (pZ (aa rfl) (aa rfl)) (pZ (aa rfl) (aa rfl))) (λz=>z dr) ?_);have f15:Ev (Ph pF (n+6)) (.call 15 [.x 0,.x 1]) (nk a b x y (.str (cP u)) (.list (gs.map (iP a b x))) s j) Z (.int (fB a b)):=mG (aa rfl) (aa rfl) λQ q=>Dd (ai hz (by decide)) (ai hy (by decide)) q;have v9:Ev (Ph pF (n+6)) (.x 9) (nk a b x y (.str (cP u)) (.list (gs.map (iP a b x))) s j) Z (nI (fT cs)):=aa (by rw[<-sh];rfl);refine eF (v:=.bool true) (λQ q=>?_) (bX q);have t:=FN (C:=Ph pF (n+6)) (J:=nk a b x y (.str (cP u)) (.list (gs.map (iP a b x))) s j) (Z:=Z) (a:=.x 4) (b:=.c (.str "myers")) (s:=cP u) (t:="myers") (aa rfl) Ev.cn;revert t gL;refine l3 hu (λgL t=>?_) (λ_ t=>?_) λ_ t=>?_
  ·exact iY t I2 (ju (t:=true) (kB v9 f15) (iff_of_true rfl (gL rfl)) Q q)
  ·exact iu t I3 (ju (t:=true) (qs v9 f15) (iff_of_true rfl low) Q q)
  ·exact iu t I4 (ju (t:=true) (qs v9 f15) (iff_of_true rfl low) Q q)
end
end
section
def eR(k:Nat)(l:List Int):Prop:=∀v,v∈l->0<=v/\v<k
noncomputable def kM(v:Int):Ln:=[yj (97+v).toNat,10]
section
variable{Z:ae}{n:Nat}
theorem Hs{l:List Int}(h:eR 11 l):fU (l.map kM):=λw hw=>by
 obtain⟨v,hv,rfl⟩:=ik.1 hw;have z:=h v hv;refine⟨_,?_,rfl⟩;obtain⟨k,rfl⟩:=pd z.1;have hk:k<11:=dN.1 z.2;have e:((97:Int)+(k:Int)).toNat=97+k:=rfl;rw[e];have all:∀k,k<11->jR (yj (97+k))=true:=by decide
 exact all k hk
theorem DH{l:List Int}(h:eR 11 l)(hz:l.length<=900){Q:QV}(q:Q (.list (vY (l.map kM))) Z):Ph pF (n+1) 12 [.list (vI l)] Z Q:=by
 refine bN (J:=[some (.list (vI l))]) rfl (lE (mH l V.int (λv=>.bytes (kM v)) (ai hz (by decide)) (aa rfl) (λv hv=>⟨[some (.int v)],rfl,λQ q=>?_⟩) _ (bX (by rw[vY,ig]at q;exact q))));have z:=h v hv;have b:oU Z .bytes [.list [.int (97+v)]]=some (.bytes [yj (97+v).toNat]):=by
  show((z7 (97+v)).bind λb=>some [b]).map V.bytes = _;rw[z7,if_pos (by have:=z.1;have:=z.2;exact⟨au [] [_] (.li .k0 (.a (.k 97) .v0)) 1 [(1,.li .k0 .v0)] rfl z.1,au [] [_] (.ti (.a (.k 97) .v0) (.k 256)) 1 [(1,.ti .v0 (.c (.k 11)))] rfl z.2⟩)];rfl
 have g:WE (Ph pF n) (.bi .bytes [.lst false [.b .add (.c (.int 97)) (.x 0)]]) [some (.int v)] Z λx Z'=>WE (Ph pF n) (.c (.bytes [10])) [some (.int v)] Z' λy Z=>aK (tD .add x y) λr=>Q r Z:=
  kz (ku (bh (r:=97+v) Ev.cn (aa rfl) rfl) _ (ao b (Ev.cn _ (ao (a:=.bytes (kM v)) rfl q))))
 exact g
noncomputable abbrev Wo:List S:=[.s (.v 5) (.lst false [.lst false [],.lst false [.b .mod (.b .add (.x 3) (.c (.int 1))) (.c (.int 3))],.lst false [.x 3,.b .mod (.b .add (.x 3) (.c (.int 2))) (.c (.int 3))],.lst false [.x 3,.x 3],.lst false [.b .mod (.b .add (.x 3) (.c (.int 1))) (.c (.int 3)),.x 3]]),
   .ex (.bm (.x 2) .extend [.ite (.m .lt (.x 4) (.c (.int 3))) (.lst false [.x 3]) (.i (.x 5) (.b .sub (.x 4) (.c (.int 3))))])]
noncomputable def qE(v:Int):List (List Int):=[[],[(v+1)%3],[v,(v+2)%3],[v,v],[(v+1)%3,v]]
noncomputable def mq(a b:List Int)(f:Nat)(j:Option V×Option V×Option V):aj:=[some (.list (vI a)),some (.list (vI b)),some (.ref f),j.1,j.2.1,j.2.2]
theorem m3(v:Int):0<=v%3/\v%3<3:=⟨Ca _ (by decide),BK _ (by decide)⟩
theorem Tn{v:Int}(h:0<=v/\v<3):∀l,l∈qE v->eR 3 l/\l.length<=2:=by
 have a1:=m3 (v+1);have a2:=m3 (v+2);have one:∀{u:Int},0<=u/\u<3->eR 3 [u]:=λh w hw=>by rw[cJ.1 hw];exact h
 have aF:∀{u t:Int},0<=u/\u<3->0<=t/\t<3->eR 3 [u,t]:=λh k w hw=>(cp.1 hw).elim (λe=>e▸h) λhw=>by rw[cJ.1 hw];exact k
 intro l hl;rcases cp.1 hl with e|hl
 ·rw[e];exact⟨(λ_ h=>nm h),bJ _⟩
 rcases cp.1 hl with e|hl
 ·rw[e];exact⟨one a1,eM 1⟩
 rcases cp.1 hl with e|hl
 ·rw[e];exact⟨aF h a2,aC 2⟩
 rcases cp.1 hl with e|hl
 ·rw[e];exact⟨aF h h,aC 2⟩
 ·rw[cJ.1 hl];exact⟨aF a1 h,aC 2⟩
theorem kA{C:ax}{J:aj}{e:E}{x k:Int}(hk:(decide (0<k/\k<1000))=true)(h:Ev C e J Z (.int x)):Ev C (.b .mod e (.c (.int k))) J Z (.int (x%k)):=fN h Ev.cn (by
 show(if 0<k/\k<1000 then some (x%k) else none).map V.int = _;rw[if_pos (of_decide_eq_true hk)];rfl)
theorem mJ{C:ax}{J:aj}{e:E}{x k:Int}(hk:(decide (0<k/\k<1000))=true)(h:Ev C e J Z (.int x)):Ev C (.b .fdiv e (.c (.int k))) J Z (.int (x/k)):=fN h Ev.cn (by
 show(if 0<k/\k<1000 then some (x/k) else none).map V.int = _;rw[if_pos (of_decide_eq_true hk)];rfl)
theorem RL{C:ax}{e g:E}{t:T}{b:List S}{J:aj}{Q:QO}{l u v:List V}(he:Ev C e J Z (.list u))(hg:Ev C g J Z (.list v))(hl:oR u v=l)(h:∃n,bZ (.vals l) t (λJ Z Q=>az C b J Z Q) Q n 0 J Z):WS C (.for t (.zip e g) b) J Z Q:=he _ (hg _ (ao rfl (ao rfl (by rw[hl];exact h))))
theorem P7{a b:List Int}{f:Nat}{l:List Int}{v s:Int}{j:Option V}(hv:0<=v/\v<3)(hs:0<=s/\s<8)(hf:Z f=some (.list (vI l)))(hl:l.length<900){Q:QO}
  (q:∀u w,eR 3 u->u.length<=2->Q .next (mq a b f (some (.int v),some (.int s),w)) (ak Z f (.list (vI (l++u))))):az (Ph pF n) Wo (mq a b f (some (.int v),some (.int s),j)) Z Q:=by
 have e1:∀{j:Option V},Ev (Ph pF n) (.b .mod (.b .add (.x 3) (.c (.int 1))) (.c (.int 3))) (mq a b f (some (.int v),some (.int s),j)) Z (.int ((v+1)%3)):=kA rfl (bh (aa rfl) Ev.cn rfl);have e2:∀{j:Option V},Ev (Ph pF n) (.b .mod (.b .add (.x 3) (.c (.int 2))) (.c (.int 3))) (mq a b f (some (.int v),some (.int s),j)) Z (.int ((v+2)%3)):=kA rfl (bh (aa rfl) Ev.cn rfl);refine bM (v:=.list ((qE v).map λl=>.list (vI l))) (λQ q=>cZ Ha (cZ (ku e1) (cZ (n6 (aa rfl) e2) (cZ (n6 (aa rfl) (aa rfl)) (cZ (n6 e1 (aa rfl)) (gc q)))))) ?_;have t:aI (Ph pF n) (.m .lt (.x 4) (.c (.int 3))) (mq a b f (some (.int v),some (.int s),some (.list ((qE v).map λl=>.list (vI l))))) Z (s<3):=sO (aa rfl) Ev.cn;have x:∀u,eR 3 u->u.length<=2->Ev (Ph pF n) (.ite (.m .lt (.x 4) (.c (.int 3))) (.lst false [.x 3]) (.i (.x 5) (.b .sub (.x 4) (.c (.int 3))))) (mq a b f (some (.int v),some (.int s),some (.list ((qE v).map λl=>.list (vI l))))) Z (.list (vI u))->az (Ph pF n) [.ex (.bm (.x 2) .extend [.ite (.m .lt (.x 4) (.c (.int 3))) (.lst false [.x 3]) (.i (.x 5) (.b .sub (.x 4) (.c (.int 3))))])] (mq a b f (some (.int v),some (.int s),some (.list ((qE v).map λl=>.list (vI l))))) Z Q:=λu hu lu he=>
  He (aa rfl) hf he (by rw[aY,aY];exact ai (ff (cu hl) lu) (by decide)) (by rw[<-dw];exact q u _ hu lu)
 by_cases c:s<3
 ·exact x [v] (λw hw=>by rw[cJ.1 hw];exact hv) (eM 1) λQ q=>iY t c (ku (aa rfl) Q q)
 ·refine bA (pd (a:=s-3) (by exact au [] [_] (.li .k0 (.s .v0 (.k 3))) 1 [(1,.li (.k 3) .v0)] rfl (jL.1 c))) λk e=>?_;have hk:k<(qE v).length:=by show k<5;exact au [_] [_] (.tn .v0 (.k 5)) 1 [(1,.ti .v0 (.k 8)),(-1,.ei (.s .v0 (.k 3)) .c0)] rfl hs.2 e
  have z:=Tn hv _ (iR hk);exact x _ z.1 z.2 λQ q=>iu t c (bW (aa rfl) (cv (aa rfl) Ev.cn e) (jN (by rw[cO,bL hk];rfl)) Q q)
theorem GK:∀(a b:List Int),oR (vI a) (vI b)=(a.zip b).map λp=>.tup [.int p.1,.int p.2]
 |[],_=>rfl
 |_::_,[]=>rfl
 |x::a,y::b=>congrArg (V.tup [.int x,.int y]::·) (GK a b)
theorem N5{a b:List Int}(ha:eR 3 a)(hb:eR 8 b)(hz:a.length<=4){Q:QV}(q:∀l,eR 3 l->l.length<=8->Q (.list (vI l)) Z):Ph pF (n+1) 14 [.list (vI a),.list (vI b)] Z Q:=by
 refine bN (J:=[some (.list (vI a)),some (.list (vI b)),none,none,none,none]) rfl λf hf=>?_;have zl:(a.zip b).length<=4:=by rw[List.length_zip];exact ai (rH ..) hz
 refine aO (RL (l:=(a.zip b).map λp=>.tup [.int p.1,.int p.2]) (aa rfl) (aa rfl) (GK a b) ?_);refine qI (cD pF _) (λ(_:List Int×ae)j=>mq a b f j) (λs=>s.2) (λi s=>eR 3 s.1/\s.1.length<=2*i/\s.2 f=some (.list (vI s.1))/\Sub Z s.2) (λ_ _ _ _=>rfl) (λi hi s j h=>?_) (λs j h=>?_) (s:=([],_)) (j:=(none,none,none)) ⟨(λ_ h=>nm h),aC _,aP ..,sJ hf⟩
 ·have m:=Cd (iR hi:((a.zip b)[i].1,(a.zip b)[i].2)∈a.zip b);refine ao (a:=mq a b f (some (.int (a.zip b)[i].1),some (.int (a.zip b)[i].2),j.2.2)) rfl λQ q=>P7 (ha _ m.1) (hb _ m.2) h.2.2.1 (bC h.2.1 (aQ (Ji (aQ hi zl) yh) (by decide))) λu w hu lu=>q (s.1++u,_) _ ⟨λv hv=>(gw.1 hv).elim (h.1 v) (hu v),?_,aP ..,vL h.2.2.2 hf⟩;rw[bB];exact ff h.2.1 lu
 ·exact eF (aa rfl) (tY h.2.2.1 hf h.2.2.2 (q _ h.1 (ai h.2.1 (rA 2 zl))))
end
end
section
section
variable{a b:List Ln}{Z:ae}{n:Nat}
theorem Vd:∀{cs:List Cg}{f:Bool}{p q:Nat},ee a b f p q cs->(fT cs:Int)=cj (cs.map gq)+cj (cs.map fF):=λ{rr}=>@(li (λ{_}{_}{_}_=>rfl)
 (λc cs ih₁{_}{_}{_}h=>by
  have ih:=ih₁ h.2;rw[gx,gx,jP,jP,gq,fF,<-jh h.1.o,<-jh h.1.i];show(((c.2.1-c.1)+(c.2.2.2-c.2.2.1)+fT cs:Nat):Int) = _;exact bR [_,_,_] [_,_] (.c (.a (.a .v0 .v1) .v2)) (.a (.a .c0 .v0) (.a .c1 .v1)) [(-1,.ei .c2 (.a .v0 .v1))] rfl ih) rr)
theorem Pg{u x y:Nat}(hu:u<3)(ha:fU a)(hb:fU b)(hz:a.length<=4)(hy:b.length<=6){Q:QV}(q:Q (.bool true) Z):Ph pF (n+8) 23 [.list (vY a),.list (vY b),nI x,nI y,.str (cP u)] Z Q:=by
 have h4:a.length<=400:=ai hz (by decide);have h6:b.length<=400:=ai hy (by decide);have hs:a.length+b.length<=400:=ai (ff hz hy) (by decide);have go:∀c G H o i,gm a b c G H o i->(u=0->((o+i:Nat):Int)=fB a b)->(∀n Z(Q:QV),Q (cV c) Z->Ph pF (n+5) (xa u) [.list (vY a),.list (vY b)] Z Q)->Ph pF (n+8) 23 [.list (vY a),.list (vY b),nI x,nI y,.str (cP u)] Z Q:=λc G H o i T gL run=>by
  refine xu (Gz T.lds h4 h6) λcs G' H' o' i' T' e1 e2 r8=>?_;have t:(fT cs:Int)=((o+i:Nat):Int):=by
   rw[Vd T'.lds,T'.counts.1,T'.counts.2,e1,e2,T.counts.1,T.counts.2,hV]
  exact Mq (n:=n+1) hu ha hb h4 h6 T'.lds (λZ Q q=>HM (n:=n+4) hu (λQ q=>run n Z Q q) q) (λZ Q q=>r8 (n+1) Z Q q) (t▸T.low) (λz=>t▸gL z) q
 revert go;exact l3 hu (λgo=>tZ (AE hs) λc G H o i h h1 h2=>go c G H o i h (λ_=>zM h1) λn Z Q q=>h2 (n+1) Z Q q)
  (λgo=>tZ (E0 hz hy) λc G H o i h _ h2=>go c G H o i h (λz=>nomatch z) h2)
  λgo=>Bm (yI hs 64) λc G H o i h h2=>go c G H o i h (λz=>nomatch z) λn Z Q q=>bN rfl (h2 n Z Q q)
end
section
variable{C:ax}{J:aj}{Z:ae}{l:List Int}{own:List cM}{e:E}
theorem uP{c:E}{j:Nat}(h:Ev C e J Z (.list (vI l)))(m:Ev C c J Z (nI j)):Ev C (.l e (.c .none) c) J Z (.list (vI (l.take j))):=λQ q=>zt h m Q (by rw[za,uL];exact q)
theorem EA{c:E}{j:Nat}(h:Ev C e J Z (.list (vI l)))(m:Ev C c J Z (nI j)):Ev C (.l e c (.c .none)) J Z (.list (vI (l.drop j))):=λQ q=>zv h m Q (by rw[<-x8];exact q)
theorem uO{elt:E}{g:Int->Int}(ho:aR own.length (none:Option V)=[none])(hz:l.length<=aJ)(he:Ev C e J Z (.list (vI l)))(H:∀v,Ev C elt [some (.int v)] Z (.int (g v))):Ev C (.comp [] own (.v 0) (.seq e) [] elt) J Z (.list (vI (l.map g))):=λQ q=>
 mH l V.int (λv=>V.int (g v)) hz he (λv _=>⟨[some (.int v)],by rw[ho];rfl,H v⟩) Q (by rw[vI,ig]at q;exact q)
theorem oe{k:Nat}(hk:0<k)(l:List Int)(g:Int->Int):eR k (l.map λv=>g v%k):=λv hv=>by
 obtain⟨u,_,rfl⟩:=ik.1 hv;exact⟨Ca _ (Kx.2 (ip hk)),BK _ (dN.2 hk)⟩
theorem eR.up{k m:Nat}(h:eR k l)(km:k<=m):eR m l:=λv hv=>⟨(h v hv).1,xN (h v hv).2 (gy.2 km)⟩
theorem eR.once{k:Nat}(h:eR k l):eR k (jA l):=λv hv=>by
 obtain⟨p,hp,rfl⟩:=ik.1 hv;exact h _ (Du (rG.1 hp).1)
end
noncomputable abbrev Xr:S:=.ite (.m .eq (.x 5) (.c (.int 0)))
  [.s (.vs [6,7]) (.tup [.comp [] [("v":cM)] (.v 0) (.seq (.l (.x 3) (.c .none) (.x 4))) [] (.b .mod (.x 0) (.c (.int 3))),.comp [] [("v":cM)] (.v 0) (.seq (.l (.x 3) (.x 4) (.c .none))) [] (.b .mod (.x 0) (.c (.int 3)))])]
  [.ite (.m .eq (.x 5) (.c (.int 1)))
   [.s (.v 6) (.comp [] [("v":cM)] (.v 0) (.seq (.l (.x 3) (.c .none) (.c (.int 4)))) [] (.b .mod (.x 0) (.c (.int 3)))),
    .s (.v 7) (.call 14 [.x 6,.comp [] [("v":cM)] (.v 0) (.seq (.l (.x 3) (.c .none) (.c (.int 4)))) [] (.b .mod (.b .fdiv (.x 0) (.c (.int 3))) (.c (.int 8)))])]
   [.s (.vs [6,7]) (.tup [.call 13 [.comp [] [("v":cM)] (.v 0) (.seq (.l (.x 3) (.c .none) (.x 4))) [] (.b .mod (.x 0) (.c (.int 11)))],.call 13 [.comp [] [("v":cM)] (.v 0) (.seq (.l (.x 3) (.x 4) (.c .none))) [] (.b .mod (.x 0) (.c (.int 11)))]])]]
noncomputable def fX(s c:List Int)(f:Int)(h:Nat)(w:Int)(r:List Int)(v6 v7 v8 v9:Option V):aj:=[some (.list (vI s)),some (.list (vI c)),some (.int f),some (.list (vI r)),some (nI h),some (.int w),v6,v7,v8,v9]
section
variable{s c r:List Int}{f w:Int}{h n:Nat}{Z:ae}
theorem E2(a b:Int):oN (.int a) (.int b)=some (decide (a=b)):=by
 show some (a==b) = _;rw[JF]
theorem PA(hr:r.length<=8)(hh:h<=4){Q:QO}(q:∀o t,eR 11 o->eR 11 t->o.length<=4->t.length<=8->Q .next (fX s c f h w r (some (.list (vI o))) (some (.list (vI t))) none none) Z) :
  WS (Ph pF (n+1)) Xr (fX s c f h w r none none none none) Z Q:=by
 have rz:r.length<=aJ:=ai hr (by decide);have tz:∀{k},(r.take k).length<=aJ:=λ{k}=>by rw[eV];exact ai (pA ..) rz
 have t4:∀{k},k<=4->(r.take k).length<=4:=λ{k}hk=>by rw[eV];exact ai (rH ..) hk
 have dz:∀{k},(r.drop k).length<=8:=λ{k}=>by rw[hU];exact ai (ew ..) hr
 have dl:∀{k},(r.drop k).length<=aJ:=λ{k}=>ai dz (by decide);have md:∀{Z:ae}(k:Nat)(hk:(decide (0<(k:Int)/\(k:Int)<1000))=true)(v:Int),Ev (Ph pF (n+1)) (.b .mod (.x 0) (.c (.int k))) [some (.int v)] Z (.int (v%k)):=λk hk v=>kA hk (aa rfl);have pre:∀{v6:Option V}(k m:Nat)(hk:(decide (0<(k:Int)/\(k:Int)<1000))=true){e:E},Ev (Ph pF (n+1)) e (fX s c f h w r v6 none none none) Z (nI m)->Ev (Ph pF (n+1)) (.comp [] [("v":cM)] (.v 0) (.seq (.l (.x 3) (.c .none) e)) [] (.b .mod (.x 0) (.c (.int k)))) (fX s c f h w r v6 none none none) Z (.list (vI ((r.take m).map λv=>v%k))):=λk m hk _ he=>uO rfl tz (uP (aa rfl) he) (md k hk);have suf:∀(k:Nat)(hk:(decide (0<(k:Int)/\(k:Int)<1000))=true),Ev (Ph pF (n+1)) (.comp [] [("v":cM)] (.v 0) (.seq (.l (.x 3) (.x 4) (.c .none))) [] (.b .mod (.x 0) (.c (.int k)))) (fX s c f h w r none none none none) Z (.list (vI ((r.drop h).map λv=>v%k))):=λk hk=>uO rfl dl (EA (aa rfl) (aa rfl)) (md k hk);have w0:aI (Ph pF (n+1)) (.m .eq (.x 5) (.c (.int 0))) (fX s c f h w r none none none none) Z (w=0):=kB (aa rfl) Ev.cn;by_cases c0:w=0
 ·exact dF w0 c0 (fL (pre 3 h rfl (aa rfl)) (suf 3 rfl) rfl (q _ _ ((oe (by decide) _ _).up (by decide)) ((oe (by decide) _ _).up (by decide)) (by rw[aY];exact t4 hh) (by rw[aY];exact dz)))
 have w1:aI (Ph pF (n+1)) (.m .eq (.x 5) (.c (.int 1))) (fX s c f h w r none none none none) Z (w=1):=kB (aa rfl) Ev.cn;by_cases c1:w=1
 ·refine bH w0 c0 (aO (dF w1 c1 (bM (pre 3 4 rfl Ev.cn) ?_)));have st:Ev (Ph pF (n+1)) (.comp [] [("v":cM)] (.v 0) (.seq (.l (.x 3) (.c .none) (.c (.int 4)))) [] (.b .mod (.b .fdiv (.x 0) (.c (.int 3))) (.c (.int 8)))) (fX s c f h w r (some (.list (vI ((r.take 4).map λv=>v%(3:Nat))))) none none none) Z (.list (vI ((r.take 4).map λv=>(v/3)%(8:Nat)))):=uO rfl tz (uP (j:=4) (aa rfl) Ev.cn) λv=>kA rfl (mJ rfl (aa rfl));have run:WE (Ph pF (n+1)) (.call 14 [.x 6,.comp [] [("v":cM)] (.v 0) (.seq (.l (.x 3) (.c .none) (.c (.int 4)))) [] (.b .mod (.b .fdiv (.x 0) (.c (.int 3))) (.c (.int 8)))]) (fX s c f h w r (some (.list (vI ((r.take 4).map λv=>v%(3:Nat))))) none none none) Z λx Z=>Q .next (fX s c f h w r (some (.list (vI ((r.take 4).map λv=>v%(3:Nat))))) (some x) none none) Z:=
   Av (aa rfl) st (N5 (oe (by decide) _ _) (oe (by decide) _ _) (by rw[aY];exact t4 (aC 4)) λl hl ll=>q _ _ ((oe (by decide) _ _).up (by decide)) (hl.up (by decide)) (by rw[aY];exact t4 (aC 4)) ll)
  exact run
 ·have z1:∀{l:List Int},l.length<=8->(l.map λv=>v%((11:Nat):Int)).length<=8:=λ{l}h=>by rw[aY];exact h
  have t8:(r.take h).length<=8:=ai (t4 hh) (by decide);refine bH w0 c0 (aO (bH w1 c1 (fL (gC (pre 11 h rfl (aa rfl)) λQ q=>y0 E2 (ai (z1 t8) (by decide)) q) (gC (suf 11 rfl) λQ q=>y0 E2 (ai (z1 dz) (by decide)) q) rfl (q _ _ (oe (by decide) _ _).once (oe (by decide) _ _).once ?_ ?_))))
  ·exact ai (EV _) (by rw[aY];exact t4 hh)
  ·exact ai (EV _) (z1 dz)
end
end
section
noncomputable def kD(v:Int):Ln:=if v%3=0 then [97,10] else if v%3=1 then [10] else [98,10]
section
variable{Z:ae}{n:Nat}
theorem ql(v:Int){k:Nat}(hk:0<k):∃j:Nat,v%(k:Int)=j/\j<k:=by
 refine bA (pd (Ca v (Kx.2 (ip hk)))) λj e=>?_;exact⟨j,e,dN.1 (e▸BK v (dN.2 hk))⟩
theorem EE{Z:ae}{l:List V}{i:Nat}{v:V}(e:l[i]?=some v):eP Z (.tup l) (nI i)=some v:=by
 show fE l (i:Int) = _;unfold fE;rw[if_pos (eK i),hM,e]
theorem Rr{C:ax}(v:Int):Ev C (.i (.tup [.c (.bytes [97,10]),.c (.bytes [10]),.c (.bytes [98,10])]) (.b .mod (.x 0) (.c (.int 3)))) [some (.int v)] Z (.bytes (kD v)):=by
 refine ar (ql v (k:=3) (by decide)) λj e hj=>?_;have e:v%3=j:=e;have m:Ev C (.b .mod (.x 0) (.c (.int 3))) [some (.int v)] Z (nI j):=λQ q=>kA rfl (aa rfl) Q (by rw[e];exact q);refine bW (sC Ev.cn Ev.cn Ev.cn) m (EE ?_);unfold kD;rw[e];exact l3 hj rfl rfl rfl
theorem OP(v:Int):kD v=[97,10]\/kD v=[10]\/kD v=[98,10]:=by
 unfold kD;split
 ·exact .inl rfl
 ·split
  ·exact .inr (.inl rfl)
  ·exact .inr (.inr rfl)
theorem Q4:i8 [97,10]=false:=by decide +kernel
theorem Q5:i8 [98,10]=false:=by decide +kernel
theorem Q6:i8 [10]=true:=by decide +kernel
def tu(w:Ln):Prop:=w=[97,10]\/w=[10]\/w=[98,10]
theorem Nv{w:Ln}(h:tu w):i8 w=true↔w=[10]:=by
 rcases h with e|e|e<;>subst e
 ·rw[Q4];exact⟨(λz=>bn z),(λz=>nomatch z)⟩
 ·rw[Q6];exact⟨λ_=>rfl,λ_=>rfl⟩
 ·rw[Q5];exact⟨(λz=>bn z),(λz=>nomatch z)⟩
theorem TQ{C:ax}{J:aj}{a b:E}{p q:List Ln}(h:Ev C a J Z (.list (vY p)))(k:Ev C b J Z (.list (vY q))):Ev C (.o false [a,b]) J Z (.list (vY (if p=[] then q else p))):=λQ w=>h _ (by
 cases p with
 |nil=>exact k Q w
 |cons x p=>exact w)
set_option tactic.hygienic true in
theorem Sv{p:List Ln}:0<(if p=[] then [[97,10]] else p:List Ln).length:=by
 split
 ·exact mC
 ·next h=>exact mw.2 h
noncomputable abbrev IA:E:=.o false [.b .add (.l (.x 8) (.c (.int 4)) (.c (.int 6))) (.l (.lst false [.c (.bytes [10]),.c (.bytes [97,10])]) (.b .mod (.b .fdiv (.x 2) (.c (.int 288))) (.c (.int 2))) (.b .add (.b .mod (.b .fdiv (.x 2) (.c (.int 576))) (.c (.int 2))) (.c (.int 1)))),.lst false [.c (.bytes [97,10])]]
theorem TM{C:ax}{s c r:List Int}{f w:Int}{h:Nat}{v6 v7 v9:Option V}{B:List Ln}(hB:∀x,x∈B->tu x):∃g:List Ln,0<g.length/\g.length<=4/\(∀x,x∈g->tu x)/\Ev C IA (fX s c f h w r v6 v7 (some (.list (vY B))) v9) Z (.list (vY g)):=by
 refine ar (ql (f/288) (k:=2) (by decide)) λi ei hi=>?_;refine ar (ql (f/576) (k:=2) (by decide)) λj ej hj=>?_;have m1:Ev C (.b .mod (.b .fdiv (.x 2) (.c (.int 288))) (.c (.int 2))) (fX s c f h w r v6 v7 (some (.list (vY B))) v9) Z (nI i):=λQ q=>kA rfl (mJ rfl (aa rfl)) Q (by rw[show f/288%2=(i:Int) from ei];exact q);have m2:Ev C (.b .mod (.b .fdiv (.x 2) (.c (.int 576))) (.c (.int 2))) (fX s c f h w r v6 v7 (some (.list (vY B))) v9) Z (nI j):=λQ q=>kA rfl (mJ rfl (aa rfl)) Q (by rw[show f/576%2=(j:Int) from ej];exact q);have l1:(aH B 4 6).length<=2:=pN B 4 6;have l2:(aH [[10],[97,10]] i (j+1):List Ln).length<=2:=ai (pN ..) (ai (ew ..) hj);have mem:∀{l:List Ln}{i j:Nat}{x:Ln},x∈aH l i j->x∈l:=λh=>rj (BE h);have all:∀x,x∈aH B 4 6++aH [[10],[97,10]] i (j+1)->tu x:=λx hx=>(gw.1 hx).elim (λh=>hB x (mem h)) λh=>by
  rcases cp.1 (mem h) with e|e
  ·exact .inr (.inl e)
  ·exact .inl (cJ.1 e)
 have ll:(aH B 4 6++aH [[10],[97,10]] i (j+1)).length<=4:=by rw[bB];exact ff l1 l2
 refine⟨if aH B 4 6++aH [[10],[97,10]] i (j+1)=[] then [[97,10]] else aH B 4 6++aH [[10],[97,10]] i (j+1),Sv,?_,λx hx=>?_,TQ (vk (jn (i:=4) (j:=6) (aa rfl) Ev.cn Ev.cn) (jn (p:=[[10],[97,10]]) (n6 Ev.cn Ev.cn) m1 (bh (r:=((j+1:Nat):Int)) m2 Ev.cn rfl)) (ai (ff l1 l2) (by decide))) (ku Ev.cn)⟩
 ·split
  ·exact ai (by decide:1<=4) (aC 4)
  ·exact ll
 ·split at hx
  ·exact .inl (cJ.1 hx)
  ·exact all x hx
end
end
section
section
variable{Z:ae}{n:Nat}
theorem ND{C:ax}{J:aj}{e:E}(c:List Int)(he:Ev C e J Z (.list (vI c))):Ev C (.ite (.m .ne e (.lst false [])) (.i e (.c (.int 0))) (.c (.int 0))) J Z (.int (c.headD 0)):=λQ q=>by
 have t:=yF he;cases c with
 |nil=>exact iu t (λz=>z rfl) q
 |cons x c=>exact iY t (λz=>nc z) (bW he Ev.cn (jN (i:=0) rfl) Q q)
theorem RB{C:ax}{J:aj}{e g:E}{x:Int}{k:Nat}(he:Ev C e J Z (.int x))(hg:Ev C g J Z (nI (k+1)))(hk:k<=900):∃j,j<=k/\Ev C (.b .mod e g) J Z (nI j):=by
 refine ar (ql x (fh k)) λj e1 hj=>?_;refine⟨j,eU hj,fN he hg ?_⟩;show(if 0<((k+1:Nat):Int)/\((k+1:Nat):Int)<1000 then some (x%((k+1:Nat):Int)) else none).map V.int = _;rw[if_pos ⟨dN.2 (fh k),dN.2 (bC (cK hk) (by decide))⟩,e1];rfl
theorem TN{C:ax}{J:aj}{e:E}{x:Int}(he:Ev C e J Z (.int x)):∃u,u<3/\Ev C (.i (.tup [.c (.str "myers"),.c (.str "myers"),.c (.str "patience"),.c (.str "histogram")]) (.b .mod e (.c (.int 4)))) J Z (.str (cP u)):=by
 refine ar (ql x (k:=4) (by decide)) λj e1 hj=>?_;have m:Ev C (.b .mod e (.c (.int 4))) J Z (nI j):=λQ q=>kA rfl he Q (by rw[show x%4=(j:Int) from e1];exact q);have i:∀v,([.str "myers",.str "myers",.str "patience",.str "histogram"]:List V)[j]?=some v->Ev C (.i (.tup [.c (.str "myers"),.c (.str "myers"),.c (.str "patience"),.c (.str "histogram")]) (.b .mod e (.c (.int 4)))) J Z v:=λv h=>bW (jo Ev.cn Ev.cn Ev.cn Ev.cn) m (EE h);clear m e1;revert i;exact l4 hj (λi=>⟨0,by decide,i _ rfl⟩) (λi=>⟨0,by decide,i _ rfl⟩) (λi=>⟨1,by decide,i _ rfl⟩) λi=>⟨2,by decide,i _ rfl⟩
theorem FK{C:ax}{J:aj}{e:E}{x:Int}{k:Nat}(hk:(decide (0<(k:Int)/\(k:Int)<1000))=true)(k0:0<k)(he:Ev C e J Z (.int x)):∃j:Nat,Ev C (.b .mod e (.c (.int k))) J Z (nI j):=
 (ql x k0).elim λj h=>⟨j,λQ q=>kA hk he Q (by rw[h.1];exact q)⟩
noncomputable abbrev Xx:List S:=[.s (.vs [6,7]) (.tup [.call 12 [.x 6],.call 12 [.l (.x 7) (.c .none) (.c (.int 6))]]),
  .s (.v 8) (.comp [] [("v":cM)] (.v 0) (.seq (.x 3)) [] (.i (.tup [.c (.bytes [97,10]),.c (.bytes [10]),.c (.bytes [98,10])]) (.b .mod (.x 0) (.c (.int 3))))),
  .ite (.not (.call 24 [.l (.x 8) (.c .none) (.c (.int 4)),IA,.b .mod (.b .fdiv (.x 2) (.c (.int 144))) (.b .add (.bi .len [.l (.x 8) (.c .none) (.c (.int 4))]) (.c (.int 1)))]))
  [.ret (.c (.bool false))]
  [],
  .s (.v 9) (.i (.tup [.c (.str "myers"),.c (.str "myers"),.c (.str "patience"),.c (.str "histogram")]) (.b .mod (.b .fdiv (.x 2) (.c (.int 36))) (.c (.int 4)))),
  .ite (.not (.call 19 [.x 6,.x 7,.x 9]))
  [.ret (.c (.bool false))]
  [],
  .ret (.call 23 [.x 6,.x 7,.b .mod (.x 2) (.c (.int 4)),.b .mod (.b .fdiv (.x 2) (.c (.int 4))) (.c (.int 3)),.x 9])]
theorem PB{s c r o t:List Int}{f w:Int}{h:Nat}(hr:r.length<=8)(ho:eR 11 o)(ht:eR 11 t)(lo:o.length<=4)(lt:t.length<=8){Q:QV}(q:Q (.bool true) Z) :
  az (Ph pF (n+8)) Xx (fX s c f h w r (some (.list (vI o))) (some (.list (vI t))) none none) Z λo _ Z'=>∃v' Z'',Wk (jb o) Z' v' Z''/\Q v' Z'':=by
 have ht6:eR 11 (t.take 6):=λv hv=>ht v (rj hv);have l6:(t.take 6).length<=6:=by rw[eV];exact rH ..
 refine fL (u:=.list (vY (o.map kM))) (v:=.list (vY ((t.take 6).map kM))) (gC (aa rfl) λQ q=>DH ho (ai lo (by decide)) q) (gC (uP (j:=6) (aa rfl) Ev.cn) λQ q=>DH ht6 (ai l6 (by decide)) q) rfl ?_;have ha:=Hs ho;have hb:=Hs ht6;have la:(o.map kM).length<=4:=by rw[aY];exact lo
 have lb:((t.take 6).map kM).length<=6:=by rw[aY];exact l6
 generalize o.map kM=a at *
 generalize (t.take 6).map kM=b at *
 refine bM (v:=.list (vY (r.map kD))) (λQ q=>mH r V.int (λv=>.bytes (kD v)) (ai hr (by decide)) (aa rfl) (λv _=>⟨[some (.int v)],rfl,Rr v⟩) Q (by rw[vY,ig]at q;exact q)) ?_;have hB:∀x,x∈r.map kD->tu x:=λx hx=>by
  obtain⟨v,_,rfl⟩:=ik.1 hx;exact OP v
 generalize r.map kD=B at *
 have b4:(B.take 4).length<=4:=by rw[eV];exact rH ..
 have e4:∀{v9:Option V},Ev (Ph pF (n+8)) (.l (.x 8) (.c .none) (.c (.int 4))) (fX s c f h w r (some (.list (vY a))) (some (.list (vY b))) (some (.list (vY B))) v9) Z (.list (vY (B.take 4))):=yY (j:=4) (aa rfl) Ev.cn;refine oZ (TM (C:=Ph pF (n+8)) (s:=s) (c:=c) (r:=r) (f:=f) (w:=w) (h:=h) (Z:=Z) (v6:=some (.list (vY a))) (v7:=some (.list (vY b))) (v9:=none) hB) λg g1 g2 g3 g4=>?_;refine ar (RB (C:=Ph pF (n+8)) (Z:=Z) (J:=fX s c f h w r (some (.list (vY a))) (some (.list (vY b))) (some (.list (vY B))) none) (e:=.b .fdiv (.x 2) (.c (.int 144))) (g:=.b .add (.bi .len [.l (.x 8) (.c .none) (.c (.int 4))]) (.c (.int 1))) (mJ rfl (aa rfl)) (bh (r:=(((B.take 4).length+1:Nat):Int)) (iq e4) Ev.cn rfl) (ai b4 (by decide))) λj hj ej=>?_;refine aO (bH (vR (t:=true) (ko e4 g4 ej λQ q=>Mx g1 b4 g2 hj (λx hx=>Nv (hx.elim (λhx=>hB x (rj hx)) (g3 x))) q)) (λz=>nb z) ?_);refine ar (TN (C:=Ph pF (n+8)) (Z:=Z) (J:=fX s c f h w r (some (.list (vY a))) (some (.list (vY b))) (some (.list (vY B))) none) (e:=.b .fdiv (.x 2) (.c (.int 36))) (mJ rfl (aa rfl))) λu hu eu=>?_;refine bM eu (aO (bH (vR (t:=true) (ko (aa rfl) (aa rfl) (aa rfl) λQ q=>Nh la lb hu q)) (λz=>nb z) ?_));refine bA (FK (C:=Ph pF (n+8)) (Z:=Z) (J:=fX s c f h w r (some (.list (vY a))) (some (.list (vY b))) (some (.list (vY B))) (some (.str (cP u)))) (e:=.x 2) (k:=4) rfl (by decide) (aa rfl)) λx ex=>?_;refine bA (FK (C:=Ph pF (n+8)) (Z:=Z) (J:=fX s c f h w r (some (.list (vY a))) (some (.list (vY b))) (some (.list (vY B))) (some (.str (cP u)))) (e:=.b .fdiv (.x 2) (.c (.int 4))) (k:=3) rfl (by decide) (mJ rfl (aa rfl))) λy ey=>?_;exact eF (v:=.bool true) (Fv (vs:=[.list (vY a),.list (vY b),nI x,nI y,.str (cP u)]) (λQ q=>cZ (aa rfl) (cZ (aa rfl) (cZ ex (cZ ey (cZ (aa rfl) (gc q)))))) λQ q=>Pg hu ha hb la lb q) (bX q)
theorem Ub(ns:List Int){Q:QV}(q:Q (.bool true) Z):Ph pF (n+9) 25 [.list (vI ns)] Z Q:=by
 have l9:(ns.take 9).length<=9:=by rw[eV];exact rH ..
 refine bN (J:=[some (.list (vI ns)),none,none,none,none,none,none,none,none,none]) rfl (bM (uO (l:=ns.take 9) (g:=λv=>v) rfl (ai l9 (by decide)) (uP (j:=9) (aa rfl) Ev.cn) λv Q q=>kz (aa rfl _ (ao rfl q))) ?_);rw[List.map_id'];generalize ns.take 9=c at *
 have r8:(c.drop 1).length<=8:=by rw[hU];exact rn l9 1
 refine fL (ND c (aa rfl)) (EA (j:=1) (aa rfl) Ev.cn) rfl ?_;generalize c.drop 1=r at *
 refine fL (u:=nI (r.length/2)) (v:=.int (c.headD 0/12%3)) (mJ (x:=(r.length:Int)) rfl λQ q=>qr (aa rfl) Q (by rw[aY];exact q)) (kA rfl (mJ rfl (aa rfl))) rfl ?_;exact aO (PA (n:=n+7) r8 (ai (J5 r8) (by decide)) λo t ho ht lo lt=>PB r8 ho ht lo lt q)
end
end
theorem Yp:AM:=λns _=>Ub (n:=3) ns rfl
end LW.Internal
theorem PySem.Challenge.cw_nt0292_01_holds : PySem.Challenge.rw_nt0292_01.Holds :=
 LW.Internal.Yo LW.Internal.Yp
