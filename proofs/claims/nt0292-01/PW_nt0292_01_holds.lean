import PyProof.Rows.All
import Wide.All
import OpenK.AllK
import Wide.FinOn
import PySem.Challenge.RW_nt0292_01
set_option linter.all false
set_option Elab.async false
set_option genSizeOf false
set_option genSizeOfSpec false
set_option genInjectivity false
set_option genCtorIdx false
set_option bootstrap.genMatcherCode false
set_option tactic.hygienic false
namespace LW.Internal
open Array renaming length_toList->xJ,mk->Eh,getElem?_eq_getElem->Jp,toArray_toList->J2,ext'->ML
open Bool renaming and_eq_true_iff->f9,noConfusion->kg,false_ne_true->kW,or_eq_true_iff->uk,and_true->Cs,or_true->CB,rec->Ei,beq_eq_decide_eq->JL,or_eq_false_iff->J3,and_false->Lm,false_or->Lz
open Classical renaming em->kZ,byContradiction->pd,propDecidable->rf
open Decidable renaming byContradiction->Js
open False renaming elim->pR
open ForInStep renaming yield->nL
open Iff renaming rfl->sD
open Int renaming ofNat_lt->dN,natCast_nonneg->eL,ofNat_le->gB,ofNat->gC,toNat_natCast->hU,natCast_add->hZ,ofNat_sub->ji,not_lt->jM,le_trans->ko,ofNat_inj->kY,add_assoc->mz,le_refl->mC,toNat_of_nonneg->nF,add_comm->nM,dvd_of_emod_eq_zero->pg,eq_ofNat_of_zero_le->ph,add_zero->pL,mul_one->pN,sub_nonneg_of_le->rn,one_mul->rP,zero_mul->uB,negSucc->uC,add_sub_cancel->xN,lt_of_lt_of_le->xO,le_of_eq->yd,le_of_lt->ye,mul_zero->yf,dvd_sub->yg,emod_lt_of_pos->BN,mul_emod_left->BX,emod_nonneg->Cc,lt_trans->CD,sub_self->CE,add_mul->CM,neg_mul->CN,rec->Fm,add_mul_emod_self_left->Jl,eq_of_sub_eq_zero->JO,sub_nonpos_of_le->J6,lt_of_le_of_lt->Kt,dvd_mul_right->KD,ofNat_ne_zero->KG,le_antisymm->K8,add_nonneg->Lo,add_nonpos->Lp,mul_nonneg->Lq,ediv_one->LX,ne_of_gt->LY,zero_add->LZ
open List renaming replicate->aR,length_map->aY,length_append->bB,getElem?_eq_getElem->bL,mem_cons->cq,mem_singleton->cJ,getElem?_map->cO,length_replicate->dw,map_append->dy,size_toArray->dT,all_eq_true->dU,append_assoc->eU,length_take->eW,getD_eq_getElem?_getD->fe,lookup_cons->fA,contains_iff_mem->fH,getElem?_eq_none->fI,mem_cons_self->fJ,mem_append->gx,map_cons->gy,append_nil->gP,length_drop->hV,map_map->ik,mem_map->ip,getElem?_eq_some_iff->iR,getElem_mem->iS,lookup->iT,drop_eq_getElem_cons->jJ,range->jN,mem_cons_of_mem->kb,drop_take->ki,drop_length->kX,getElem?_append_right->mw,length_pos_iff->mx,length_reverse->my,length_eq_zero_iff->nE,length_cons->nH,take_length->nJ,map->nS,getElem?_replicate->pj,idxOf_lt_length_of_mem->q9,append_eq_nil_iff->rg,mem_append_right->rh,mem_append_left->rq,mem_of_mem_take->rt,getElem_idxOf->rE,getLastD_cons->rF,reverse_cons->rG,any_toArray->rH,cons_ne_nil->rI,find?_cons->rJ,mem_filter->rK,drop_drop->rN,length->rQ,getElem?_append_left->ua,pairwise_singleton->ug,getElem?_toArray->uh,length_range->uo,nil_append->uu,mem_range->uw,drop_nil->uy,range'->uD,drop_eq_nil_of_le->xC,pairwise_append->xH,filterMap_cons->xK,map_eq_nil_iff->xM,contains_cons->xP,filter_append->xQ,pairwise_cons->xR,zip_cons_cons->xS,ext_getElem?->xT,take_add_one->xU,foldl_cons->x6,nodup_cons->x7,drop_zero->x8,map_drop->x9,take_nil->ya,idxOf->yp,cons->yC,getLast?_eq_getElem?->Bt,filter_cons_of_pos->Bv,filter_eq_nil_iff->Bw,length_eq_one_iff->Bx,dropLast_eq_take->BA,take_append_drop->BC,getLast?_concat->BE,mem_of_getElem?->BF,mem_of_mem_drop->BG,append_toArray->BK,flatten_append->BL,length_range'->BO,foldl_append->BY,getLast?_map->BZ,idxOf_append->B0,map_reverse->B7,drop_left'->Cd,length_set->Ce,of_mem_zip->Cf,drop_left->Co,nodup_nil->Cp,map_take->Cv,rec->Ej,append_ne_nil_of_right_ne_nil->Jf,take_succ_eq_append_getElem->Jh,getElem?_eq_none_iff->Jt,getLastD_eq_getLast?->Ju,dropWhile_sublist->JG,range_succ_eq_map->JH,concat_eq_append->JP,count_cons_of_ne->JQ,eq_nil_or_concat->JR,filter_replicate->JS,length_filter_le->JT,count_cons_self->J8,length_take_le'->J9,getElem?_range->Kj,find?_eq_none->Ku,getElem?_drop->Kv,getLast?_cons->Kw,map_replicate->Kx,ne_nil_of_mem->Ky,any_eq_false->KH,find?_append->KI,getElem?_set->KL,nodup_append->KN,pairwise_map->KO,push_toArray->KU,any_eq_true->KX,getElem_map->KY,not_mem_nil->KZ,forIn_cons->K9,map_const'->La,take_left'->Lb,zip_append->Ld,take_take->Lr,all_cons->LA,any_cons->LB,contains->LD,all_map->L3,map_nil->L4,map_set->L5
open List.Pairwise renaming filter->J7,of_cons->Ye,sublist->Yg,nil->Ys
open List.cons renaming inj->mA
open Nat renaming le_trans->ai,le_refl->aC,le_add_right->aL,lt_of_lt_of_le->aQ,zero_add->aU,not_lt->bc,lt_succ_self->bu,lt_of_le_of_lt->bC,zero_le->bJ,exists_eq_add_of_le->bS,add_comm->cb,add_assoc->cu,le_of_lt->cv,add_sub_cancel_left->cD,succ_add_eq_add_succ->cH,succ_le_succ->cK,le_of_succ_le->cL,le_antisymm->cX,le_add_left->df,le_of_eq->dA,add_right_comm->dK,not_lt_zero->dM,le_of_ble_eq_true->dR,sub_le->ez,add_lt_add_left->eF,lt_succ_of_lt->eM,le_succ->eN,le_of_lt_succ->eV,lt_of_succ_lt_succ->ff,add_le_add->fh,succ_pos->fi,add_sub_cancel'->fv,le_succ_of_le->fy,lt_trans->fL,lt_irrefl->gQ,ne_of_lt->gR,not_le->gT,lt_add_of_pos_right->hF,lt_of_le_of_ne->hM,ne_of_gt->iq,lt_or_eq_of_le->jg,min_eq_left->jh,zero_lt_of_lt->jK,add_zero->jL,lt_succ_iff_lt_or_eq->ka,sub_lt_sub_left->kf,succ_ne_self->kh,add_le_add_right->kS,add_le_add_left->kU,succ_add->mB,one_pos->mD,lt_of_succ_lt->nG,succ_lt_succ->nK,lt_or_ge->nN,sub_lt->nP,le_of_succ_le_succ->pv,add_sub_add_left->px,pos_of_ne_zero->pz,lt_succ_of_le->pA,lt_of_not_le->pB,min_le_right->pC,sub_le_sub_right->rA,mul_le_mul_left->rD,min_le_left->rL,lt_of_add_lt_add_left->ub,add_lt_add_right->uj,add_left_cancel->um,add_sub_of_le->uq,exists_eq_add_of_le'->xA,exists_eq_add_of_lt->xB,lt_add_of_pos_left->xD,sub_le_iff_le_add'->xE,not_succ_le_zero->xI,add_sub_assoc->xV,sub_pos_of_lt->xW,le_of_not_le->xZ,le_of_not_lt->x5,le_zero->yh,two_pos->yj,exists_eq_succ_of_ne_zero->Bq,le_mul_of_pos_left->By,sub_eq_zero_of_le->BD,add_sub_cancel->BP,eq_zero_or_pos->BQ,sub_add_cancel->BS,lt_trichotomy->B1,sub_sub_self->B8,succ_ne_zero->B9,min_self->CF,sub_self->CG,one_mul->CP,two_mul->CQ,max_le->C1,add_lt_add_of_le_of_lt->Jm,add_lt_add_of_lt_of_le->Jn,mul_lt_mul_of_pos_left->Jo,le_of_add_le_add_left->Jv,eq_zero_of_not_pos->JI,add_sub_add_right->JU,add_add_add_comm->Ka,div_le_div_right->Kb,not_succ_le_self->Kc,add_eq_zero_iff->Kk,sub_le_sub_left->Kl,add_pos_left->K0,max_eq_right->K1,max_eq_left->Le,mul_comm->L6,lt_min->MM
open Nat.succ renaming inj->iI
open Ne renaming symm->nY
open Option renaming map->rU,isSome_iff_exists->ue,isNone_iff_eq_none->Bu,bind_some->Ca,map_eq_some_iff->JJ
open Option.some renaming inj->di,injEq->Yt
open Or renaming inl->GQ
open Prod renaming fst->OS
open Prod.mk renaming inj->nO
open PyProof renaming noPylong_small->JK
open PyProof.Rows renaming tail_any->sC,Subscript_->C2,boot_bytes->C5,boot_str->Es,meta_bytes->JD,meta_str->JV,isTrue_and_nil->Lu,isTrue_or_nil->LH,getItem_tuple->X2,floordiv_int->X3,len_tuple->X8,len_list->Yh,mod_int'->Yi,add_int->Yk,mul_int->Yl,sub_int->Ym
open PySem renaming Value->ag,Addr->aq,Shared->aB,wpAny_bind->aG,wpAny_pure->a9,Around->bD,Stmt->cf,Str->cM,wpAny_of_eq->gb,wpAny_holding->ig,World->iA,wpAny_mono->jl,NameKind->k8,call_meets->nR,isSubtype_type->pG,wpAny_standAt->pK,preSum->pM,wpAny_rule->pT,builtinLookup_eq_fast->rj,typeLookup_type->rM,wpAny_mkInt->rT,call_gives->rV,entryFor_of_tree->ur,wpAny_seqItems->ux,signature?_of->uA,wpAny_assign_Name->xX,wpAny_pyIter_list->xY,eval_Constant->yb,wpAny_call->yB,wpAny_truthy_bool->B4,call_isinstance->Ci,wpAny_execs_nil->Cm,argBest->Cw,strKind->Cy,wpAny_UnaryOp->CA,sizeLine_eq->CZ,wpAny_Name->Dn,isinstance_nested_false_bytes->Jj,wpAny_list_append_plain->JF,wpAny_loadName_local->Kh,arm_eval_Call_Name'->Km,wpAny_loadName_cell->Kn,wpAny_loadName_free->Ko,wpAny_setSeqItemAt->Kz,wpAny_tupleItemsOf->KA,slot_list_setitem->KV,wpAny_pyIter_enum->KW,wpAny_call_entry->K4,wpAny_forIn_list->K5,wpAny_pyIter_zip->K6,wpAny_ite_split->Ll,wpAny_loadPart->Lx,wpAny_newTuple->Ly,wpAny_newList->LU,wpAny_release->LV
open PySem.AutoIntOps renaming iadd_0->Yq,isub_0->Yr
open PySem.Builtin.Bytes renaming find?->rC,window->ui,joined->xG,isAlpha->Bz,allOf->BJ,takeBufferQuiet?->Ji,takeBuffer?->Jq,joinItems->JC,isSpace->JM,bound?->J4,stripM->J5,fullReadOnly->X0,searchArgs->X4,bytesLike->X5,joinLetGo->X6,isLower->X9,isUpper->Yb,searchM->Yc,joinM->Yn
open PySem.Builtin.Bytes.Kind renaming bytes->JA
open PySem.Builtin.Bytes.joinM renaming match_1->XX
open PySem.Builtin.Dict renaming keyAndDefault->X1
open PySem.Builtin.Int renaming intBits->Yo
open PySem.Builtin.List renaming listTooLong->xy,listFitsIndex->Bs,listSubscript?->XY,listItems->X7
open PySem.Builtin.Range renaming rangeSize->mu,rangeSize->uf,small->Ki,rangeFitsLong->XZ
open PySem.Builtin.Tuple renaming tupleCompareSizes->Bp
open PySem.Challenge renaming pw_nt0292_01->fu,rw_nt0292_01->Br
open PySem.Code renaming builtin->LW
open PySem.Expr renaming noConfusion->B5,Name->Dp
open PySem.F renaming slot_bool_eq->BH,slot_dict_setdefault->Jk,slot_dict_getitem->Jw,slot_list_getitem->Jx,slot_list_reverse->Jy,slot_list_extend->JB,sub_bytes_bytes->JE,args_int_eq_2->JW,slot_dict_get->JX,slot_int_rmul->JY,slot_list_pop->JZ,slot_tuple_lt->J0,sub_bytes_str->J1,entry_int_eq->Ke
open PySem.Flow renaming next->Np
open PySem.Heap renaming SameBut->fK,get?_push_size->kc,lt_size->kj,get?_push_of_some->pq,get?_update_self->xF,size_push->Cn
open PySem.Heap.DictOf renaming new->K7
open PySem.Heap.DictOfH renaming new->Yu
open PySem.Heap.IsSliceOf renaming new->Kr
open PySem.Heap.IsTuple renaming typeIs->Yp
open PySem.Heap.PlainList renaming isList->Yd
open PySem.Heap.SameBut renaming update->kT
open PySem.IsRange renaming new->CO
open PySem.NameKind renaming free->ic,cell->uz
open PySem.Obj renaming putName->CR,data_mapDictKeys->Kd
open PySem.P renaming neg_int->Lf
open PySem.PyData renaming keyHash->pD
open PySem.SeqAt renaming rc_eq_decline_or->K3
open PySem.Value renaming bytes->CS,notImplemented->Kf,int->Nq
open PySem.W renaming boot_heap->iK,dictOf->mF,typeIs_bytes->rB,boot_drawn->uE,boot_toks->uH,plainGet_of->CU
open PySem.W.FB renaming owner_bytes->uv,slot_bytes_eq->B6,slot_bytes_getitem->JN,args_bytes_eq_2->Kq,entry_bytes_eq->KC
open PySem.W.KBy renaming buffer_eq->Cu
open PySem.W.WShape renaming hasItems->Lg
open PySem.Walks renaming list->C3
open Std.Legacy.Range renaming forIn_eq_forIn_range'->XW,size->Yj
open Sum renaming inr->zp,inl->Fo
open Sum.inr renaming inj->Mm
open UInt8 renaming ofNat->yk
section
@[elab_as_elim] theorem li{α:Type}{p:List α->Prop}(n:p [])(c:∀a l,p l->p (a::l))(l:List α):p l:=Ej n c l
@[elab_as_elim] theorem ni{p:Nat->Prop}(z:p 0)(s:∀n,p n->p (n+1))(n:Nat):p n:=Nat.rec z s n
@[elab_as_elim] theorem nz{p:Nat->Prop}(z:p 0)(s:∀n,p (n+1))(n:Nat):p n:=Nat.rec z (λn _=>s n) n
@[elab_as_elim] theorem l3{p:Nat->Prop}{n:Nat}(h:n<3)(a:p 0)(b:p 1)(c:p 2):p n:=nz (p:=λn=>n<3->p n) (λ_=>a) (nz (p:=λn=>n+1<3->p (n+1)) (λ_=>b) (nz (p:=λn=>n+2<3->p (n+2)) (λ_=>c) λn h=>absurd h (bc.2 (df 3 n)))) n h
@[elab_as_elim] theorem l4{p:Nat->Prop}{n:Nat}(h:n<4)(a:p 0)(b:p 1)(c:p 2)(d:p 3):p n:=nz (p:=λn=>n<4->p n) (λ_=>a) (nz (p:=λn=>n+1<4->p (n+1)) (λ_=>b) (nz (p:=λn=>n+2<4->p (n+2)) (λ_=>c) (nz (p:=λn=>n+3<4->p (n+3)) (λ_=>d) λn h=>absurd h (bc.2 (df 4 n))))) n h
@[elab_as_elim] theorem q7{α β:Type}{p:α×β->Prop}(h:∀a b,p (a,b))(s:α×β):p s:=h s.1 s.2
@[elab_as_elim] theorem oX{α β γ:Type}{p:α×β×γ->Prop}(h:∀a b c,p (a,b,c))(s:α×β×γ):p s:=h s.1 s.2.1 s.2.2
@[elab_as_elim] theorem XI{α β γ δ ε:Type}{p:α×β×γ×δ×ε->Prop}(h:∀a b c d e,p (a,b,c,d,e))(s:α×β×γ×δ×ε):p s:=h s.1 s.2.1 s.2.2.1 s.2.2.2.1 s.2.2.2.2
@[elab_as_elim] theorem lz{α:Type}{p:List α->Prop}(n:p [])(c:∀a l,p (a::l))(l:List α):p l:=Ej n (λa l _=>c a l) l
theorem nn{α:Type}{a:α}{p:Prop}(h:none=some a):p:=Option.noConfusion rfl (heq_of_eq h)
theorem nb{p:Prop}(h:true=false):p:=kg h
theorem bn{p:Prop}(h:false=true):p:=kg h
theorem nm{α:Type}{a:α}{p:Prop}(h:a∈([]:List α)):p:=absurd h KZ
theorem nc{α:Type}{a:α}{l:List α}{p:Prop}(h:a::l=[]):p:=absurd h (rI a l)
theorem sn{α:Type}{a:α}{p:Prop}(h:some a=none):p:=nn h.symm
theorem aT{P0 P1:Prop}{G:Prop}(h:P0/\P1)(k:P0->P1->G):G:=k h.1 h.2
theorem g9{P0 P1 P2:Prop}{G:Prop}(h:P0/\P1/\P2)(k:P0->P1->P2->G):G:=k h.1 h.2.1 h.2.2
theorem nD{P0 P1 P2 P3:Prop}{G:Prop}(h:P0/\P1/\P2/\P3)(k:P0->P1->P2->P3->G):G:=k h.1 h.2.1 h.2.2.1 h.2.2.2
theorem I9{P0 P1 P2 P3 P4:Prop}{G:Prop}(h:P0/\P1/\P2/\P3/\P4)(k:P0->P1->P2->P3->P4->G):G:=k h.1 h.2.1 h.2.2.1 h.2.2.2.1 h.2.2.2.2
theorem XO{P0 P1 P2 P3 P4 P5:Prop}{G:Prop}(h:P0/\P1/\P2/\P3/\P4/\P5)(k:P0->P1->P2->P3->P4->P5->G):G:=k h.1 h.2.1 h.2.2.1 h.2.2.2.1 h.2.2.2.2.1 h.2.2.2.2.2
theorem bA{α:Type}{P0:α->Prop}{G:Prop}(h:∃a,P0 a)(k:∀a,P0 a->G):G:=h.elim λa z=>k a z
theorem ar{α:Type}{P0 P1:α->Prop}{G:Prop}(h:∃a,P0 a/\P1 a)(k:∀a,P0 a->P1 a->G):G:=h.elim λa z=>k a z.1 z.2
theorem cm{α:Type}{P0 P1 P2:α->Prop}{G:Prop}(h:∃a,P0 a/\P1 a/\P2 a)(k:∀a,P0 a->P1 a->P2 a->G):G:=h.elim λa z=>k a z.1 z.2.1 z.2.2
theorem o7{α:Type}{P0 P1 P2 P3:α->Prop}{G:Prop}(h:∃a,P0 a/\P1 a/\P2 a/\P3 a)(k:∀a,P0 a->P1 a->P2 a->P3 a->G):G:=h.elim λa z=>k a z.1 z.2.1 z.2.2.1 z.2.2.2
theorem XQ{α:Type}{P0 P1 P2 P3 P4:α->Prop}{G:Prop}(h:∃a,P0 a/\P1 a/\P2 a/\P3 a/\P4 a)(k:∀a,P0 a->P1 a->P2 a->P3 a->P4 a->G):G:=h.elim λa z=>k a z.1 z.2.1 z.2.2.1 z.2.2.2.1 z.2.2.2.2
theorem XR{α β:Type}{P0:α->β->Prop}{G:Prop}(h:∃a b,P0 a b)(k:∀a b,P0 a b->G):G:=h.elim λa z=>z.elim λb z=>k a b z
theorem hE{α β:Type}{P0 P1:α->β->Prop}{G:Prop}(h:∃a b,P0 a b/\P1 a b)(k:∀a b,P0 a b->P1 a b->G):G:=h.elim λa z=>z.elim λb z=>k a b z.1 z.2
theorem cp{α β:Type}{P0 P1 P2:α->β->Prop}{G:Prop}(h:∃a b,P0 a b/\P1 a b/\P2 a b)(k:∀a b,P0 a b->P1 a b->P2 a b->G):G:=h.elim λa z=>z.elim λb z=>k a b z.1 z.2.1 z.2.2
theorem xt{α β:Type}{P0 P1 P2 P3:α->β->Prop}{G:Prop}(h:∃a b,P0 a b/\P1 a b/\P2 a b/\P3 a b)(k:∀a b,P0 a b->P1 a b->P2 a b->P3 a b->G):G:=h.elim λa z=>z.elim λb z=>k a b z.1 z.2.1 z.2.2.1 z.2.2.2
theorem o8{α β:Type}{P0 P1 P2 P3 P4:α->β->Prop}{G:Prop}(h:∃a b,P0 a b/\P1 a b/\P2 a b/\P3 a b/\P4 a b)(k:∀a b,P0 a b->P1 a b->P2 a b->P3 a b->P4 a b->G):G:=h.elim λa z=>z.elim λb z=>k a b z.1 z.2.1 z.2.2.1 z.2.2.2.1 z.2.2.2.2
theorem q8{α β γ:Type}{P0 P1:α->β->γ->Prop}{G:Prop}(h:∃a b c,P0 a b c/\P1 a b c)(k:∀a b c,P0 a b c->P1 a b c->G):G:=h.elim λa z=>z.elim λb z=>z.elim λc z=>k a b c z.1 z.2
theorem kR{α β γ:Type}{P0 P1 P2:α->β->γ->Prop}{G:Prop}(h:∃a b c,P0 a b c/\P1 a b c/\P2 a b c)(k:∀a b c,P0 a b c->P1 a b c->P2 a b c->G):G:=h.elim λa z=>z.elim λb z=>z.elim λc z=>k a b c z.1 z.2.1 z.2.2
theorem XS{α β γ:Type}{P0 P1 P2 P3:α->β->γ->Prop}{G:Prop}(h:∃a b c,P0 a b c/\P1 a b c/\P2 a b c/\P3 a b c)(k:∀a b c,P0 a b c->P1 a b c->P2 a b c->P3 a b c->G):G:=h.elim λa z=>z.elim λb z=>z.elim λc z=>k a b c z.1 z.2.1 z.2.2.1 z.2.2.2
theorem Ja{α β γ:Type}{P0 P1 P2 P3 P4:α->β->γ->Prop}{G:Prop}(h:∃a b c,P0 a b c/\P1 a b c/\P2 a b c/\P3 a b c/\P4 a b c)(k:∀a b c,P0 a b c->P1 a b c->P2 a b c->P3 a b c->P4 a b c->G):G:=h.elim λa z=>z.elim λb z=>z.elim λc z=>k a b c z.1 z.2.1 z.2.2.1 z.2.2.2.1 z.2.2.2.2
theorem xu{α β γ:Type}{P0 P1 P2 P3 P4 P5:α->β->γ->Prop}{G:Prop}(h:∃a b c,P0 a b c/\P1 a b c/\P2 a b c/\P3 a b c/\P4 a b c/\P5 a b c)(k:∀a b c,P0 a b c->P1 a b c->P2 a b c->P3 a b c->P4 a b c->P5 a b c->G):G:=h.elim λa z=>z.elim λb z=>z.elim λc z=>k a b c z.1 z.2.1 z.2.2.1 z.2.2.2.1 z.2.2.2.2.1 z.2.2.2.2.2
theorem Jb{α β γ δ:Type}{P0:α->β->γ->δ->Prop}{G:Prop}(h:∃a b c d,P0 a b c d)(k:∀a b c d,P0 a b c d->G):G:=h.elim λa z=>z.elim λb z=>z.elim λc z=>z.elim λd z=>k a b c d z
theorem Jc{α β γ δ:Type}{P0 P1:α->β->γ->δ->Prop}{G:Prop}(h:∃a b c d,P0 a b c d/\P1 a b c d)(k:∀a b c d,P0 a b c d->P1 a b c d->G):G:=h.elim λa z=>z.elim λb z=>z.elim λc z=>z.elim λd z=>k a b c d z.1 z.2
theorem XT{α β γ δ:Type}{P0 P1 P2:α->β->γ->δ->Prop}{G:Prop}(h:∃a b c d,P0 a b c d/\P1 a b c d/\P2 a b c d)(k:∀a b c d,P0 a b c d->P1 a b c d->P2 a b c d->G):G:=h.elim λa z=>z.elim λb z=>z.elim λc z=>z.elim λd z=>k a b c d z.1 z.2.1 z.2.2
theorem xw{α β γ δ:Type}{P0 P1 P2 P3:α->β->γ->δ->Prop}{G:Prop}(h:∃a b c d,P0 a b c d/\P1 a b c d/\P2 a b c d/\P3 a b c d)(k:∀a b c d,P0 a b c d->P1 a b c d->P2 a b c d->P3 a b c d->G):G:=h.elim λa z=>z.elim λb z=>z.elim λc z=>z.elim λd z=>k a b c d z.1 z.2.1 z.2.2.1 z.2.2.2
theorem Jd{α β γ δ:Type}{P0 P1 P2 P3 P4:α->β->γ->δ->Prop}{G:Prop}(h:∃a b c d,P0 a b c d/\P1 a b c d/\P2 a b c d/\P3 a b c d/\P4 a b c d)(k:∀a b c d,P0 a b c d->P1 a b c d->P2 a b c d->P3 a b c d->P4 a b c d->G):G:=h.elim λa z=>z.elim λb z=>z.elim λc z=>z.elim λd z=>k a b c d z.1 z.2.1 z.2.2.1 z.2.2.2.1 z.2.2.2.2
theorem Bo{α β γ δ ε:Type}{P0 P1:α->β->γ->δ->ε->Prop}{G:Prop}(h:∃a b c d e,P0 a b c d e/\P1 a b c d e)(k:∀a b c d e,P0 a b c d e->P1 a b c d e->G):G:=h.elim λa z=>z.elim λb z=>z.elim λc z=>z.elim λd z=>z.elim λe z=>k a b c d e z.1 z.2
theorem t9{α β γ δ ε:Type}{P0 P1 P2:α->β->γ->δ->ε->Prop}{G:Prop}(h:∃a b c d e,P0 a b c d e/\P1 a b c d e/\P2 a b c d e)(k:∀a b c d e,P0 a b c d e->P1 a b c d e->P2 a b c d e->G):G:=h.elim λa z=>z.elim λb z=>z.elim λc z=>z.elim λd z=>z.elim λe z=>k a b c d e z.1 z.2.1 z.2.2
theorem o9{α β γ δ ε:Type}{P0 P1 P2 P3:α->β->γ->δ->ε->Prop}{G:Prop}(h:∃a b c d e,P0 a b c d e/\P1 a b c d e/\P2 a b c d e/\P3 a b c d e)(k:∀a b c d e,P0 a b c d e->P1 a b c d e->P2 a b c d e->P3 a b c d e->G):G:=h.elim λa z=>z.elim λb z=>z.elim λc z=>z.elim λd z=>z.elim λe z=>k a b c d e z.1 z.2.1 z.2.2.1 z.2.2.2
theorem Je{α β γ δ ε:Type}{P0 P1 P2 P3 P4:α->β->γ->δ->ε->Prop}{G:Prop}(h:∃a b c d e,P0 a b c d e/\P1 a b c d e/\P2 a b c d e/\P3 a b c d e/\P4 a b c d e)(k:∀a b c d e,P0 a b c d e->P1 a b c d e->P2 a b c d e->P3 a b c d e->P4 a b c d e->G):G:=h.elim λa z=>z.elim λb z=>z.elim λc z=>z.elim λd z=>z.elim λe z=>k a b c d e z.1 z.2.1 z.2.2.1 z.2.2.2.1 z.2.2.2.2
theorem XU{α β γ δ:Type}{P0 P1 P2 P3 P4 P5 P6:α->β->γ->δ->Prop}{G:Prop}(h:∃a b c d,P0 a b c d/\P1 a b c d/\P2 a b c d/\P3 a b c d/\P4 a b c d/\P5 a b c d/\P6 a b c d)(k:∀a b c d,P0 a b c d->P1 a b c d->P2 a b c d->P3 a b c d->P4 a b c d->P5 a b c d->P6 a b c d->G):G:=h.elim λa z=>z.elim λb z=>z.elim λc z=>z.elim λd z=>k a b c d z.1 z.2.1 z.2.2.1 z.2.2.2.1 z.2.2.2.2.1 z.2.2.2.2.2.1 z.2.2.2.2.2.2
inductive NE where
 |v (i:Nat)
 |k (n:Nat)
 |a (x y:NE)
 |m (n:Nat) (x:NE)
 |r (x:NE) (n:Nat)
inductive IE where
 |v (i:Nat)
 |k (n:Nat)
 |c (x:NE)
 |a (x y:IE)
 |s (x y:IE)
 |o (x:IE)
 |m (n:Nat) (x:IE)
 |r (x:IE) (n:Nat)
noncomputable abbrev NE.v0:=NE.v 0
noncomputable abbrev NE.v1:=NE.v 1
noncomputable abbrev NE.v2:=NE.v 2
noncomputable abbrev NE.v3:=NE.v 3
noncomputable abbrev NE.v4:=NE.v 4
noncomputable abbrev NE.v5:=NE.v 5
noncomputable abbrev NE.v6:=NE.v 6
noncomputable abbrev NE.v7:=NE.v 7
noncomputable abbrev NE.v8:=NE.v 8
noncomputable abbrev NE.v9:=NE.v 9
noncomputable abbrev IE.v0:=IE.v 0
noncomputable abbrev IE.c0:=IE.c (.v 0)
noncomputable abbrev IE.v1:=IE.v 1
noncomputable abbrev IE.c1:=IE.c (.v 1)
noncomputable abbrev IE.v2:=IE.v 2
noncomputable abbrev IE.c2:=IE.c (.v 2)
noncomputable abbrev IE.v3:=IE.v 3
noncomputable abbrev IE.c3:=IE.c (.v 3)
noncomputable abbrev IE.v4:=IE.v 4
noncomputable abbrev IE.c4:=IE.c (.v 4)
noncomputable abbrev IE.v5:=IE.v 5
noncomputable abbrev IE.c5:=IE.c (.v 5)
noncomputable abbrev IE.v6:=IE.v 6
noncomputable abbrev IE.c6:=IE.c (.v 6)
noncomputable abbrev IE.v7:=IE.v 7
noncomputable abbrev IE.c7:=IE.c (.v 7)
noncomputable abbrev IE.v8:=IE.v 8
noncomputable abbrev IE.v9:=IE.v 9
noncomputable abbrev NE.k0:=NE.k 0
noncomputable abbrev IE.k0:=IE.k 0
noncomputable abbrev NE.k1:=NE.k 1
noncomputable abbrev IE.k1:=IE.k 1
noncomputable def wZ:List Nat->Nat->Nat
 |[],_=>0
 |x::r,i=>match i with
  |0=>x
  |i+1=>wZ r i
noncomputable def wY:List Int->Nat->Int
 |[],_=>0
 |x::r,i=>match i with
  |0=>x
  |i+1=>wY r i
noncomputable def NE.d(c:List Nat):NE->Nat
 |.v i=>wZ c i
 |.k n=>n
 |.a x y=>x.d c+y.d c
 |.m n x=>n*x.d c
 |.r x n=>x.d c*n
noncomputable def IE.d(c:List Nat)(e:List Int):IE->Int
 |.v i=>wY e i
 |.k n=>gC n
 |.c x=>((x.d c:Nat):Int)
 |.a x y=>x.d c e+y.d c e
 |.s x y=>x.d c e-y.d c e
 |.o x=>-x.d c e
 |.m n x=>gC n*x.d c e
 |.r x n=>x.d c e*gC n
noncomputable def fE:List Int->List Int->List Int
 |[],q=>q
 |a::p,q=>match q with
  |[]=>a::p
  |b::q=>(a+b)::fE p q
noncomputable def eR(k:Int)(p:List Int):List Int:=p.map (k*·)
noncomputable def tN:Nat->List Int
 |0=>[1]
 |j+1=>0::tN j
noncomputable def j6:Nat->Nat
 |0=>0
 |n+1=>j6 n+2
noncomputable def NE.p:NE->List Int
 |.v i=>tN (j6 i+1)
 |.k n=>[gC n]
 |.a x y=>fE x.p y.p
 |.m n x=>eR (gC n) x.p
 |.r x n=>eR (gC n) x.p
noncomputable def IE.p:IE->List Int
 |.v i=>tN (j6 i+2)
 |.k n=>[gC n]
 |.c x=>x.p
 |.a x y=>fE x.p y.p
 |.s x y=>fE x.p (eR (-1) y.p)
 |.o x=>eR (-1) x.p
 |.m n x=>eR (gC n) x.p
 |.r x n=>eR (gC n) x.p
noncomputable def pE(f:Nat->Int):Nat->List Int->Int
 |_,[]=>0
 |j,a::p=>a*f j+pE f (j+1) p
theorem ot(f:Nat->Int):∀(p q:List Int)(j:Nat),pE f j (fE p q)=pE f j p+pE f j q
 :=λrr=>li (λq j=>(LZ _).symm) (λa p ih q j=>lz (pL _).symm (λb q=>by
  show(a+b)*f j+pE f (j+1) (fE p q)=(a*f j+pE f (j+1) p)+(b*f j+pE f (j+1) q);rw[ih q,CM,mz,mz,Int.add_left_comm (b*f j)]) q) rr
theorem jw(f:Nat->Int)(k:Int):∀(p:List Int)(j:Nat),pE f j (eR k p)=k*pE f j p:=λrr=>li (λj=>(yf k).symm)
 (λa p ih j=>by
  show k*a*f j+pE f (j+1) (eR k p)=k*(a*f j+pE f (j+1) p);rw[ih,Int.mul_add,Int.mul_assoc]) rr
theorem HD(f:Nat->Int):∀(i j:Nat),pE f j (tN i)=f (j+i):=λrr=>ni (λj=>(pL _).trans (rP _))
 (λi ih j=>((congrArg (·+pE f (j+1) (tN i)) (uB (f j))).trans (LZ _)).trans ((ih (j+1)).trans (congrArg f (cH j i)))) rr
noncomputable def da(c:List Nat)(e:List Int):Nat->Int
 |0=>1
 |1=>wZ c 0
 |2=>wY e 0
 |n+3=>da c.tail e.tail (n+1)
theorem wm:∀(i:Nat)(c:List Nat)(e:List Int),da c e (j6 i+1)=wZ c i
 |0,_,_=>rfl
 |i+1,[],e=>(wm i [] e.tail).trans rfl
 |i+1,_::c,e=>wm i c e.tail
theorem As:∀(i:Nat)(c:List Nat)(e:List Int),da c e (j6 i+2)=wY e i
 |0,_,_=>rfl
 |i+1,c,[]=>(As i c.tail []).trans rfl
 |i+1,c,_::e=>As i c.tail e
section
variable(c:List Nat)(e:List Int)
theorem w8(n:Int):pE (da c e) 0 [n]=n:=(pL _).trans (pN n)
theorem ja(x:NE):pE (da c e) 0 x.p=(x.d c:Nat):=NE.rec (motive:=λx=>pE (da c e) 0 x.p=(x.d c:Nat))
 (λi=>(HD _ (j6 i+1) 0).trans (by rw[aU];exact wm i c e))
 (λn=>w8 c e _)
 (λx y h k=>by show pE _ 0 (fE x.p y.p) = _;rw[ot,h,k];rfl)
 (λn x h=>by show pE _ 0 (eR _ x.p) = _;rw[jw,h];rfl)
 (λx n h=>by show pE _ 0 (eR _ x.p)=((x.d c*n:Nat):Int);rw[jw,h,L6];rfl) x
theorem jA(x:IE):pE (da c e) 0 x.p=x.d c e:=IE.rec (motive:=λx=>pE (da c e) 0 x.p=x.d c e)
 (λi=>(HD _ (j6 i+2) 0).trans (by rw[aU];exact As i c e))
 (λn=>w8 c e _)
 (λx=>ja c e x)
 (λx y h k=>by show pE _ 0 (fE x.p y.p) = _;rw[ot,h,k];rfl)
 (λx y h k=>by show pE _ 0 (fE x.p (eR (-1) y.p))=x.d c e-y.d c e;rw[ot,jw,h,k,CN,rP];rfl)
 (λx h=>by show pE _ 0 (eR (-1) x.p) = -x.d c e;rw[jw,h,CN,rP])
 (λn x h=>by show pE _ 0 (eR _ x.p) = _;rw[jw,h];rfl)
 (λx n h=>by show pE _ 0 (eR _ x.p)=x.d c e*gC n;rw[jw,h,Int.mul_comm]) x
end
inductive LC where
 |ln (x y:NE)
 |tn (x y:NE)
 |en (x y:NE)
 |li (x y:IE)
 |ti (x y:IE)
 |ei (x y:IE)
def LC.d(c:List Nat)(e:List Int):LC->Prop
 |.ln x y=>x.d c<=y.d c
 |.tn x y=>x.d c<y.d c
 |.en x y=>x.d c=y.d c
 |.li x y=>x.d c e<=y.d c e
 |.ti x y=>x.d c e<y.d c e
 |.ei x y=>x.d c e=y.d c e
noncomputable def dJ(p q:List Int):List Int:=fE q (eR (-1) p)
noncomputable def LC.q:LC->List Int
 |.ln x y=>dJ x.p y.p
 |.tn x y=>fE [-1] (dJ x.p y.p)
 |.en x y=>dJ x.p y.p
 |.li x y=>dJ x.p y.p
 |.ti x y=>fE [-1] (dJ x.p y.p)
 |.ei x y=>dJ x.p y.p
noncomputable def LC.g:LC->List Int
 |.ln x y=>fE [-1] (dJ y.p x.p)
 |.tn x y=>dJ y.p x.p
 |.en _ _=>[1]
 |.li x y=>fE [-1] (dJ y.p x.p)
 |.ti x y=>dJ y.p x.p
 |.ei _ _=>[1]
noncomputable def LC.t(k:Int)(l:LC):List Int:=match k with
 |.ofNat n=>eR (.ofNat n) l.q
 |.negSucc n=>match l with
  |.en x y=>eR (.negSucc n) (dJ x.p y.p)
  |.ei x y=>eR (.negSucc n) (dJ x.p y.p)
  |_=>[1]
noncomputable def Ay:Int->Bool
 |.ofNat _=>false
 |.negSucc _=>true
noncomputable def xo:Int->Bool
 |.ofNat n=>match n with
  |0=>true
  |_+1=>false
 |.negSucc _=>false
noncomputable def xq:Bool->List Int->Bool
 |_,[]=>true
 |b,a::p=>((!b&&Ay a)||xo a)&&xq (!b) p
noncomputable def xr:List Int->Bool
 |[]=>false
 |a::p=>Ay a&&xq false p
noncomputable def oR:List (Int×LC)->List Int->List Int
 |[],p=>p
 |h::hs,p=>oR hs (fE p (h.2.t h.1))
def oL(c:List Nat)(e:List Int)(G:Prop):List (Int×LC)->Prop
 |[]=>G
 |h::hs=>h.2.d c e->oL c e G hs
theorem Ht:∀{a:Int},xo a=true->a=0
 |.ofNat 0,_=>rfl
theorem EL:∀{a:Int},Ay a=true->a<0
 |.negSucc n,_=>Int.negSucc_lt_zero n
theorem Uw{f:Nat->Int}(H:∀i,0<=f (j6 i+1)):∀(p:List Int)(i:Nat),(xq false p=true->pE f (j6 i+1) p<=0)/\(xq true p=true->pE f (j6 i+2) p<=0):=λrr=>li (λ_=>⟨λ_=>mC 0,λ_=>mC 0⟩)
 (λa p ih i=>by
  have z:xo a=true->∀j,a*f j=0:=λh j=>by rw[Ht h];exact uB _
  refine⟨λh=>?_,λh=>?_⟩
  ·have h:=f9.1 h;refine Lp ((uk.1 h.1).elim (λk=>?_) λk=>yd (z k _)) ((ih i).2 h.2);exact Int.mul_nonpos_of_nonpos_of_nonneg (ye (EL k)) (H i)
  ·have h:=f9.1 h;exact Lp ((uk.1 h.1).elim (λk=>nomatch k) λk=>yd (z k _)) ((ih (i+1)).1 h.2)) rr
section
variable{c:List Nat}{e:List Int}
theorem Q8(i:Nat):0<=da c e (j6 i+1):=by rw[wm];exact eL _
theorem Ux:∀{p:List Int},xr p=true->pE (da c e) 0 p<0
 |a::p,h=>by
  have h:=f9.1 h;exact Int.add_neg_of_neg_of_nonpos ((pN a).symm▸EL h.1) ((Uw Q8 p 0).1 h.2)
theorem lJ(p q:List Int):pE (da c e) 0 (dJ p q)=pE (da c e) 0 q-pE (da c e) 0 p:=by
 unfold dJ;rw[ot,jw,CN,rP];rfl
theorem vN(p q:List Int):pE (da c e) 0 (fE [-1] (dJ p q))=pE (da c e) 0 q-pE (da c e) 0 p-1:=by
 rw[ot,lJ,w8,nM];rfl
theorem i1{a b:Int}(h:a<b):0<=b-a-1:=rn (Int.le_sub_right_of_add_le (by rw[nM];exact h))
theorem wL{x y:NE}(h:x.d c=y.d c):pE (da c e) 0 (dJ x.p y.p)=0:=by rw[lJ,ja,ja,h,CE]
theorem wK{x y:IE}(h:x.d c e=y.d c e):pE (da c e) 0 (dJ x.p y.p)=0:=by rw[lJ,jA,jA,h,CE]
theorem Wz{l:LC}:l.d c e->0<=pE (da c e) 0 l.q:=LC.rec (motive:=λl=>l.d c e->0<=pE (da c e) 0 l.q)
 (λx y h=>by show 0<=pE _ 0 (dJ x.p y.p);rw[lJ,ja,ja];exact rn (gB.2 h))
 (λx y h=>by show 0<=pE _ 0 (fE [-1] (dJ x.p y.p));rw[vN,ja,ja];exact i1 (dN.2 h))
 (λx y h=>yd (wL h).symm)
 (λx y h=>by show 0<=pE _ 0 (dJ x.p y.p);rw[lJ,jA,jA];exact rn h)
 (λx y h=>by show 0<=pE _ 0 (fE [-1] (dJ x.p y.p));rw[vN,jA,jA];exact i1 h)
 (λx y h=>yd (wK h).symm) l
theorem qD:0<=pE (da c e) 0 [1]:=by rw[w8];decide
theorem WH{k:Int}{l:LC}:l.d c e->0<=pE (da c e) 0 (l.t k):=Fm (motive:=λk=>l.d c e->0<=pE (da c e) 0 (l.t k))
 (λn h=>by show 0<=pE _ 0 (eR _ l.q);rw[jw];exact Lq (eL n) (Wz h))
 (λn=>LC.rec (motive:=λl=>l.d c e->0<=pE (da c e) 0 (l.t (.negSucc n))) (λ_ _ _=>qD) (λ_ _ _=>qD)
  (λx y h=>by show 0<=pE _ 0 (eR _ (dJ x.p y.p));rw[jw,wL h,yf];exact mC 0)
  (λ_ _ _=>qD) (λ_ _ _=>qD)
  (λx y h=>by show 0<=pE _ 0 (eR _ (dJ x.p y.p));rw[jw,wK h,yf];exact mC 0) l) k
theorem Hq{G:Prop}:∀{hs:List (Int×LC)}{p:List Int},xr (oR hs p)=true->(¬G->0<=pE (da c e) 0 p)->oL c e G hs:=λ{rr}=>@(li (λ{p}h k=>pd λn=>absurd (Ux (c:=c) (e:=e) h) (jM.2 (k n)))
 (λl hs ih{p}h k=>λhl=>ih h λn=>by rw[ot];exact Lo (k n) (WH hl)) rr)
theorem Wq{l:LC}:¬l.d c e->0<=pE (da c e) 0 l.g:=LC.rec (motive:=λl=>¬l.d c e->0<=pE (da c e) 0 l.g)
 (λx y h=>by show 0<=pE _ 0 (fE [-1] (dJ y.p x.p));rw[vN,ja,ja];exact i1 (dN.2 (gT.1 h)))
 (λx y h=>by show 0<=pE _ 0 (dJ y.p x.p);rw[lJ,ja,ja];exact rn (gB.2 (bc.1 h)))
 (λ_ _ _=>qD)
 (λx y h=>by show 0<=pE _ 0 (fE [-1] (dJ y.p x.p));rw[vN,jA,jA];exact i1 (Int.not_le.1 h))
 (λx y h=>by show 0<=pE _ 0 (dJ y.p x.p);rw[lJ,jA,jA];exact rn (jM.1 h))
 (λ_ _ _=>qD) l
theorem au(c:List Nat)(e:List Int)(g:LC)(k:Nat)(hs:List (Int×LC))(h:xr (oR hs (eR (gC k) g.g))=true):oL c e (g.d c e) hs:=Hq h λn=>by rw[jw];exact Lq (eL k) (Wq n)
theorem fS(c:List Nat)(e:List Int)(hs:List (Int×LC))(h:xr (oR hs [])=true):oL c e False hs:=Hq h λ_=>mC 0
noncomputable def LC.isE:LC->Bool
 |.en _ _=>true
 |.ei _ _=>true
 |_=>false
noncomputable def wF:List (Int×LC)->Bool
 |[]=>true
 |h::hs=>h.2.isE&&wF hs
noncomputable def tG:List Int->Bool
 |[]=>true
 |a::p=>xo a&&tG p
theorem Q5{f:Nat->Int}:∀{p:List Int}{j:Nat},tG p=true->pE f j p=0:=λ{rr}=>@(li (λ{_}_=>rfl)
 (λa p ih{j}h=>by
  have h:=f9.1 h;show a*f j+pE f (j+1) p=0;rw[Ht h.1,ih h.2,uB];rfl) rr)
theorem wX{f:Nat->Int}{n:Int}{p:List Int}(h:pE f 0 p=0):pE f 0 (eR n p)=0:=by rw[jw,h,yf]
theorem Wj{k:Int}{l:LC}:l.isE=true->l.d c e->pE (da c e) 0 (l.t k)=0:=LC.rec (motive:=λl=>l.isE=true->l.d c e->pE (da c e) 0 (l.t k)=0)
 (λ_ _ h=>bn h) (λ_ _ h=>bn h) (λx y _ h=>Fm (motive:=λk=>pE (da c e) 0 ((LC.en x y).t k)=0) (λ_=>wX (wL h)) (λ_=>wX (wL h)) k)
 (λ_ _ h=>bn h) (λ_ _ h=>bn h) (λx y _ h=>Fm (motive:=λk=>pE (da c e) 0 ((LC.ei x y).t k)=0) (λ_=>wX (wK h)) (λ_=>wX (wK h)) k) l
theorem F3{G:Prop}:∀{hs:List (Int×LC)}{p:List Int},(tG (oR hs p)&&wF hs)=true->(pE (da c e) 0 p=0->G)->oL c e G hs:=λ{rr}=>@(li (λ{p}h k=>k (Q5 (f9.1 h).1))
 (λl hs ih{p}h k=>λhl=>by
  have h:=f9.1 h;have g:=f9.1 h.2;exact ih (f9.2 ⟨h.1,g.2⟩) λz=>k (by rw[ot,Wj g.1 hl,pL]at z;exact z)) rr)
theorem bE(c:List Nat)(e:List Int)(x y:NE)(hs:List (Int×LC))(h:(tG (oR hs (dJ x.p y.p))&&wF hs)=true):oL c e (x.d c=y.d c) hs:=F3 h λz=>by
 rw[lJ,ja,ja]at z;exact(kY.1 (JO z)).symm
theorem bR(c:List Nat)(e:List Int)(x y:IE)(hs:List (Int×LC))(h:(tG (oR hs (dJ x.p y.p))&&wF hs)=true):oL c e (x.d c e=y.d c e) hs:=F3 h λz=>by
 rw[lJ,jA,jA]at z;exact(JO z).symm
theorem n1{n:Nat}:(-1+((n+1:Nat):Int)).toNat=n:=by
 rw[show(-1:Int)+((n+1:Nat):Int)=n from bR [_] [] (.a (.o .k1) (.c (.a .v0 .k1))) .c0 [] rfl];rfl
theorem cW{a b:Nat}:a<=a-b+b:=Nat.le_add_of_sub_le (aC _)
theorem XJ{a b:Nat}:a-b<=a:=ez a b
theorem aZ{a b:Nat}(h:b<=a):a-b+b=a:=BS h
end
end
section
open PySem (Str)
abbrev bG:=Nat
inductive V where
 |none
 |bool (b:Bool)
 |int (i:Int)
 |str (s:Str)
 |bytes (b:List UInt8)
 |tup (l:List V)
 |list (l:List V)
 |inst (c:Nat) (d:Nat)
 |obj (c:Nat) (fs:List V)
 |ref (a:Nat)
inductive M where
 |list (l:List V)
 |attrs (c:Nat) (fs:List (bG×V))
 |dI (n:Nat) (f:Int->Option V)
 |dB (n:Nat) (f:List UInt8->Option V)
 |dS (n:Nat) (f:Str->Option V)
abbrev ae:=Nat->Option M
noncomputable def ak(Z:ae)(a:Nat)(m:M):ae:=λb=>if b=a then some m else Z b
noncomputable def fX(Z:ae)(a:Nat):ae:=λb=>if b=a then none else Z b
def Sub(Z Z':ae):Prop:=∀a m,Z a=some m->Z' a=some m
abbrev aj:=List (Option V)
abbrev QV:=V->ae->Prop
noncomputable def rd:aj->Nat->Option V
 |[],_=>none
 |x::r,n=>match n with
  |0=>x
  |n+1=>rd r n
noncomputable def wr:aj->Nat->V->aj
 |[],_,_=>[]
 |x::r,n,v=>match n with
  |0=>some v::r
  |n+1=>x::wr r n v
noncomputable def f7:aj->List Nat->List V->aj
 |J,[],_=>J
 |J,i::is,vs=>match vs with
  |[]=>J
  |v::vs=>f7 (wr J i v) is vs
set_option genCtorIdx true in
inductive Op|add|sub|mul|fdiv|mod
set_option genCtorIdx true in
inductive mZ|eq|ne|lt|le|gt|ge|is|isnot|isin|notin
set_option genCtorIdx true in
inductive BI|len|isB|isS|isBS|int|max|min|max1|min1|sum|bytes
set_option genCtorIdx true in
inductive BM|append|pop|extend|reverse|get|setdefault|find|isalpha|rstrip|strip|join
inductive T|v(i:Nat)|tup (l:List Nat)
mutual
inductive E where
 |c (v:V)
 |x (i:Nat)
 |g (g:Nat)
 |a (e:E) (a:bG)
 |i (e i:E)
 |l (e lo hi:E)
 |rev (e:E)
 |neg (e:E)
 |b (op:Op) (a b:E)
 |rep (m:Bool) (es:List E) (n:E)
 |m (op:mZ) (a b:E)
 |o (isAnd:Bool) (es:List E)
 |not (e:E)
 |ite (c a b:E)
 |tup (es:List E)
 |lst (m:Bool) (es:List E)
 |dct (b:Bool) (ks:List V) (vs:List E)
 |call (f:Nat) (es:List E)
 |new (frz:Bool) (c:Nat) (es:List E)
 |h (e:E) (m:Nat) (es:List E)
 |bi (b:BI) (es:List E)
 |bm (e:E) (b:BM) (es:List E)
 |comp (caps:List Nat) (own:List Str) (t:T) (it:It) (ifs:List E) (elt:E)
inductive It where
 |seq (e:E)
 |range (es:List E)
 |enum (e:E)
 |zip (a b:E)
end
inductive Tg where
 |v (i:Nat)
 |vs (l:List Nat)
 |a (e:E) (a:bG)
 |i (e i:E)
inductive S where
 |s (t:Tg) (e:E)
 |aug (t:Tg) (op:Op) (e:E)
 |ex (e:E)
 |ite (c:E) (a b:List S)
 |whl (c:E) (b:List S)
 |for (t:T) (it:It) (b:List S)
 |ret (e:E)
 |stop
noncomputable def aJ:Nat:=1048576
def aK{α:Type}(o:Option α)(k:α->Prop):Prop:=match o with
 |some a=>k a
 |none=>False
theorem bj{α:Type}{o:Option α}{k:α->Prop}(h:aK o k):∃a,o=some a/\k a:=match o,h with
 |some a,h=>⟨a,rfl,h⟩
theorem ao{α:Type}{o:Option α}{k:α->Prop}{a:α}(e:o=some a)(h:k a):aK o k:=by rw[e];exact h
noncomputable def eK(v:V):Option Int:=match v with
 |.int i=>some i
 |_=>none
noncomputable def AP(v:V):Option Bool:=match v with
 |.bool i=>some i
 |_=>none
noncomputable def qX(v:V):Option Str:=match v with
 |.str i=>some i
 |_=>none
noncomputable def fW(v:V):Option (List UInt8):=match v with
 |.bytes i=>some i
 |_=>none
noncomputable def j4(v:V):Option (List V):=match v with
 |.list i=>some i
 |_=>none
noncomputable def mh(v:V):Option (List V):=match v with
 |.tup i=>some i
 |_=>none
noncomputable def j5(v:V):Option Nat:=match v with
 |.ref i=>some i
 |_=>none
noncomputable def mf(v:V):Option Unit:=match v with
 |.none=>some ()
 |_=>none
noncomputable def one(l:List V):Option V:=match l with
 |[]=>none
 |v::r=>match r with
  |[]=>some v
  |_::_=>none
noncomputable def aF(l:List V):Option (V×V):=match l with
 |[]=>none
 |v::r=>(one r).map λu=>(v,u)
noncomputable def cc(Z:ae)(a:Nat):Option (List V):=(Z a).bind λm=>match m with
 |.list l=>some l
 |_=>none
noncomputable def gJ(Z:ae)(a:Nat):Option (Nat×List (bG×V)):=(Z a).bind λm=>match m with
 |.attrs c fs=>some (c,fs)
 |_=>none
noncomputable def A8(v:V):Option (List UInt8):=(mh v).bind λl=>(aF l).bind λp=>(AP p.1).bind λb=>match b with
 |true=>none
 |false=>fW p.2
noncomputable def lS(Z:ae)(v:V):Option (List V):=match v with
 |.list l=>some l
 |.tup l=>some l
 |.ref a=>cc Z a
 |_=>none
noncomputable def qB(Z:ae)(v:V):Option (List V):=match v with
 |.list l=>some l
 |.ref a=>cc Z a
 |_=>none
noncomputable def iM(Z:ae)(v:V):V:=match v with
 |.ref a=>match cc Z a with
  |some l=>.list l
  |none=>.ref a
 |v=>v
noncomputable def fF(l:List V)(i:Int):Option V:=
 if 0<=i then l[i.toNat]? else if 0<=i+l.length then l[(i+l.length).toNat]? else none
noncomputable def aH{α:Type}(l:List α)(lo hi:Nat):List α:=(l.take hi).drop lo
noncomputable def e9(dflt:Nat)(v:V):Option Nat:=match v with
 |.none=>some dflt
 |.int i=>if 0<=i then some i.toNat else none
 |_=>none
noncomputable def jb(f:V->V->Option Bool):List V->List V->Option Bool
 |[],m=>match m with
  |[]=>some true
  |_::_=>none
 |a::r,m=>match m with
  |[]=>none
  |b::s=>(f a b).bind λx=>(jb f r s).map λy=>x&&y
noncomputable def qU(x y:V):Option Bool:=match x with
 |.none=>(mf y).map λ_=>true
 |.bool a=>(AP y).map λb=>a==b
 |.int a=>(eK y).map λb=>a==b
 |.str a=>(qX y).map λb=>a==b
 |.bytes a=>(fW y).map λb=>a==b
 |_=>none
noncomputable def gO:Nat->V->V->Option Bool
 |0,x,y=>qU x y
 |n+1,x,y=>match x with
  |.list a=>(j4 y).bind λb=>if a.length=b.length then jb (gO n) a b else some false
  |.tup a=>(mh y).bind λb=>jb (gO n) a b
  |x=>qU x y
noncomputable def oO(x y:V):Option Bool:=match x with
 |.int a=>(eK y).map λb=>a==b
 |.bytes a=>(fW y).map λb=>a==b
 |_=>none
noncomputable def nC(x:V):List V->Option Bool
 |[]=>some false
 |y::r=>(oO y x).bind λa=>(nC x r).map λb=>a||b
noncomputable def eO:List V->Option (List Int)
 |[]=>some []
 |v::r=>(eK v).bind λi=>(eO r).map λl=>i::l
noncomputable def lD:List Int->List Int->Bool
 |[],m=>match m with
  |[]=>false
  |_::_=>true
 |a::r,m=>match m with
  |[]=>false
  |b::s=>if a=b then lD r s else decide (a<b)
noncomputable def I5(x y:V):Option Bool:=match x with
 |.int a=>(eK y).map λb=>decide (a<b)
 |.tup a=>(mh y).bind λb=>(eO a).bind λm=>(eO b).bind λn=>if m.length=n.length then some (lD m n) else none
 |_=>none
noncomputable def kH(v:V):Option Bool:=match v with
 |.bool b=>some b
 |.list l=>some (!l.isEmpty)
 |_=>none
noncomputable def Iw(x y:V):Option V:=match x with
 |.int a=>(eK y).map λb=>.int (a+b)
 |.list a=>(j4 y).bind λb=>if a.length+b.length<=aJ then some (.list (a++b)) else none
 |.bytes a=>(fW y).bind λb=>if a.length+b.length<=aJ then some (.bytes (a++b)) else none
 |_=>none
noncomputable def qN(x y:V)(f:Int->Int->Option Int):Option V:=(eK x).bind λa=>(eK y).bind λb=>(f a b).map .int
noncomputable def tH(op:Op)(x y:V):Option V:=match op with
 |.add=>Iw x y
 |.sub=>qN x y λa b=>some (a-b)
 |.mul=>qN x y λa b=>if 0<=a/\a<1000 then some (a*b) else none
 |.fdiv=>qN x y λa b=>if 0<b/\b<1000 then some (a/b) else none
 |.mod=>qN x y λa b=>if 0<b/\b<1000 then some (a%b) else none
noncomputable def dD(Z:ae)(d:Nat)(k:V):Option (Option V):=(Z d).bind λm=>match m with
 |.dI _ f=>(eK k).map f
 |.dS _ f=>(qX k).map f
 |.dB _ f=>(A8 k).map f
 |_=>none
noncomputable def isNone(v:V):Option Bool:=match v with
 |.none=>some true
 |.tup _=>some false
 |.int _=>some false
 |_=>none
noncomputable def Bf(Z:ae)(x y:V):Option Bool:=match y with
 |.ref d=>(dD Z d x).map λo=>o.isSome
 |.tup l=>nC x l
 |.list l=>nC x l
 |_=>none
noncomputable def xp(x y:V)(f:Int->Int->Bool):Option Bool:=(eK x).bind λa=>(eK y).map λb=>f a b
noncomputable def wI(Z:ae)(op:mZ)(x y:V):Option Bool:=match op with
 |.eq=>gO 4 (iM Z x) (iM Z y)
 |.ne=>(gO 4 (iM Z x) (iM Z y)).map λb=>!b
 |.lt=>I5 x y
 |.le=>xp x y λa b=>decide (a<=b)
 |.gt=>xp x y λa b=>decide (b<a)
 |.ge=>xp x y λa b=>decide (b<=a)
 |.is=>(mf y).bind λ_=>isNone x
 |.isnot=>(mf y).bind λ_=>(isNone x).map λb=>!b
 |.isin=>Bf Z x y
 |.notin=>(Bf Z x y).map λb=>!b
noncomputable def getD(Z:ae)(v k:V):Option V:=(j5 v).bind λd=>(dD Z d k).bind λo=>o
noncomputable def eQ(Z:ae)(v k:V):Option V:=match lS Z v with
 |some l=>(eK k).bind λi=>fF l i
 |none=>getD Z v k
noncomputable def oP(Z:ae)(v lo hi:V):Option V:=match v with
 |.bytes b=>(e9 0 lo).bind λi=>(e9 b.length hi).map λj=>.bytes (aH b i j)
 |v=>(qB Z v).bind λl=>(e9 0 lo).bind λi=>(e9 l.length hi).map λj=>.list (aH l i j)
noncomputable def tm:List (bG×V)->bG->Option V
 |[],_=>none
 |(b,v)::r,a=>if b=a then some v else tm r a
noncomputable def setA:List (bG×V)->bG->V->List (bG×V)
 |[],a,v=>[(a,v)]
 |(b,w)::r,a,v=>if b=a then(b,v)::r else(b,w)::setA r a v
noncomputable def cj(l:List Int):Int:=pM (λi=>l.getD i 0) l.length
noncomputable def lM(better:Int->Int->Bool)(l:List Int):Int:=l.getD (Cw (λi j=>better (l.getD i 0) (l.getD j 0)) (l.length-1)) 0
noncomputable def z8(i:Int):Option UInt8:=if 0<=i/\i<256 then some (yk i.toNat) else none
noncomputable def vi:List Int->Option (List UInt8)
 |[]=>some []
 |i::r=>(z8 i).bind λb=>(vi r).map λl=>b::l
noncomputable def wW(Z:ae)(v:V):Option V:=match v with
 |.bytes b=>some (.int b.length)
 |v=>(lS Z v).map λl=>.int l.length
noncomputable def AX(v:V):Option V:=match v with
 |.int i=>some (.int i)
 |.bool b=>some (.int (if b then 1 else 0))
 |_=>none
noncomputable def qK(better:Int->Int->Bool)(v:V):Option V:=(j4 v).bind λl=>(eO l).bind λxs=>match xs with
 |[]=>none
 |_::_=>some (.int (lM better xs))
noncomputable def wM(f:Int->Int->Int)(vs:List V):Option V:=(aF vs).bind λp=>qN p.1 p.2 λa b=>some (f a b)
noncomputable def oV(Z:ae)(b:BI)(vs:List V):Option V:=match b with
 |.len=>(one vs).bind (wW Z)
 |.isB=>(one vs).bind λv=>(fW v).map λ_=>.bool true
 |.isS=>(one vs).bind λv=>(fW v).map λ_=>.bool false
 |.isBS=>(one vs).bind λv=>(fW v).map λ_=>.bool true
 |.int=>(one vs).bind AX
 |.max=>wM (λa b=>if a<b then b else a) vs
 |.min=>wM (λa b=>if b<a then b else a) vs
 |.max1=>(one vs).bind (qK λa b=>decide (a > b))
 |.min1=>(one vs).bind (qK λa b=>decide (a<b))
 |.sum=>(one vs).bind λv=>(qB Z v).bind λl=>(eO l).map λxs=>.int (cj xs)
 |.bytes=>(one vs).bind λv=>(j4 v).bind λl=>(eO l).bind λxs=>(vi xs).map .bytes
noncomputable def lO(c:UInt8):List UInt8->Option Nat
 |[]=>none
 |b::r=>if b=c then some 0 else(lO c r).map (·+1)
noncomputable def jS(b:UInt8):Bool:=(65<=b&&b<=90)||(97<=b&&b<=122)
noncomputable def ou(b:UInt8):Bool:=b==32||(9<=b&&b<=13)
noncomputable def HU(p:UInt8->Bool)(b:List UInt8):List UInt8:=b.dropWhile p
noncomputable def lE(p:UInt8->Bool)(b:List UInt8):List UInt8:=(b.reverse.dropWhile p).reverse
noncomputable def pW:List V->Option (List (List UInt8))
 |[]=>some []
 |v::r=>(fW v).bind λb=>(pW r).map λl=>b::l
noncomputable def A7(v:V):Option UInt8:=(fW v).bind λl=>match l with
 |[]=>none
 |c::r=>match r with
  |[]=>some c
  |_::_=>none
noncomputable def vz(i:Int)(o:Option Nat):Int:=match o with
 |some k=>i+k
 |none=>-1
noncomputable def VD(v c i:V):Option V:=(fW v).bind λb=>(A7 c).bind λc=>(eK i).bind λi=>if 0<=i/\i.toNat<=b.length then some (.int (vz i (lO c (b.drop i.toNat)))) else none
noncomputable def VJ(v l:V):Option V:=(fW v).bind λb=>(j4 l).bind λl=>(pW l).bind λbs=>match b with
 |[]=>if bs.flatten.length<=aJ then some (.bytes bs.flatten) else none
 |_::_=>none
noncomputable def wo(Z:ae)(v k d:V):Option V:=match k with
 |.tup _=>none
 |k=>(j5 v).bind λa=>(dD Z a k).map λr=>r.getD d
noncomputable def qQ(l:List V):Option Unit:=match l with
 |[]=>some ()
 |_::_=>none
noncomputable def m7(Z:ae)(v:V)(b:BM)(vs:List V):Option V:=match b with
 |.find=>(aF vs).bind λp=>VD v p.1 p.2
 |.isalpha=>(qQ vs).bind λ_=>(A7 v).map λc=>.bool (jS c)
 |.rstrip=>(qQ vs).bind λ_=>(fW v).map λb=>.bytes (lE ou b)
 |.strip=>(one vs).bind λc=>(fW c).bind λcs=>(fW v).map λb=>.bytes (lE cs.contains (HU cs.contains b))
 |.join=>(one vs).bind λl=>VJ v l
 |.get=>(aF vs).bind λp=>wo Z v p.1 p.2
 |_=>none
noncomputable def jG(Z:ae)(v:V):Option (Nat×List V):=(j5 v).bind λa=>(cc Z a).map λl=>(a,l)
noncomputable def AZ(Z:ae)(v:V):Option (Nat×Nat×(Int->Option V)):=(j5 v).bind λa=>(Z a).bind λm=>match m with
 |.dI n f=>some (a,n,f)
 |_=>none
noncomputable def mN(Z:ae)(a:Nat):Bool:=match Z a with
 |some m=>match m with
  |.dI _ _=>true
  |.dB _ _=>true
  |.dS _ _=>true
  |_=>false
 |none=>false
noncomputable def tA(Z:ae)(v:V)(b:BM):Bool:=match b with
 |.append|.pop|.extend|.reverse=>(jG Z v).isSome
 |.get|.setdefault=>match j5 v with
  |some a=>mN Z a
  |none=>false
 |_=>(fW v).isSome
def qY(Z:ae)(v:V)(b:BM)(vs:List V)(Q:QV):Prop:=match b with
 |.append=>aK (jG Z v) λp=>aK (one vs) λx=>p.2.length<aJ/\Q .none (ak Z p.1 (.list (p.2++[x])))
 |.pop=>aK (jG Z v) λp=>aK (qQ vs) λ_=>aK p.2.getLast? λx=>Q x (ak Z p.1 (.list p.2.dropLast))
 |.extend=>aK (jG Z v) λp=>aK (one vs) λx=>aK (j4 x) λl=>p.2.length+l.length<=aJ/\Q .none (ak Z p.1 (.list (p.2++l)))
 |.reverse=>aK (jG Z v) λp=>aK (qQ vs) λ_=>Q .none (ak Z p.1 (.list p.2.reverse))
 |.setdefault=>aK (AZ Z v) λp=>aK (aF vs) λq=>aK (eK q.1) λk=>p.2.1<aJ/\match p.2.2 k with
  |some x=>Q x Z
  |none=>Q q.2 (ak Z p.1 (.dI (p.2.1+1) λj=>if j=k then some q.2 else p.2.2 j))
 |b=>aK (m7 Z v b vs) λr=>Q r Z
def IT(Z:ae)(a:Nat)(l:List V)(i:Int)(x:V)(Q:ae->Prop):Prop:=
 (0<=i/\i<l.length/\Q (ak Z a (.list (l.set i.toNat x))))\/(i = -1/\l≠[]/\Q (ak Z a (.list (l.set (l.length-1) x))))
def jx(Z:ae)(v k x:V)(Q:ae->Prop):Prop:=aK (j5 v) λa=>aK (Z a) λm=>match m with
 |.list l=>aK (eK k) λi=>IT Z a l i x Q
 |.dI n f=>aK (eK k) λi=>n<aJ/\Q (ak Z a (.dI (n+1) λj=>if j=i then some x else f j))
 |.dB n f=>aK (A8 k) λb=>n<aJ/\Q (ak Z a (.dB (n+1) λj=>if j=b then some x else f j))
 |_=>False
noncomputable def Bh{α:Type}:List α->Nat->Option α
 |[],_=>none
 |x::r,n=>match n with
  |0=>some x
  |n+1=>Bh r n
noncomputable def cS{α:Type}(l:List α)(n:Nat)(d:α):α:=match Bh l n with
 |some x=>x
 |none=>d
noncomputable def wx:List (Nat×Nat)->Nat->Option Nat
 |[],_=>none
 |p::r,n=>if p.1=n then some p.2 else wx r n
noncomputable def Vr:List Str:=[("a_from":Str),("a_to":Str),("b_from":Str),("b_to":Str),("known":Str),("strange":Str),("count":Str),("a":Str),("b":Str),("gone":Str),("come":Str),("numbers":Str),("lines":Str),("sizes":Str),("old_from":Str),("old_many":Str),("new_from":Str),("new_many":Str),("rows":Str),("heading":Str),("many_out":Str),("many_in":Str),("places":Str),("number_of":Str),("numbers_of":Str),("whole":Str),("trimmed":Str),("mark":Str),("changes":Str),("halved":Str),("mark_fewest":Str),("lone_pairs":Str),("mark_patience":Str),("rare_stretch":Str),("is_led_up_to":Str),("mark_histogram":Str),("start":Str),("can_go_up":Str),("can_go_down":Str),("put":Str),("ends_blank":Str),("marks":Str),("settled":Str),("settle":Str)]
noncomputable def wO:List Str:=[("lines_of":Str),("line_further":Str),("line_rising":Str),("myers":Str),("patience":Str),("histogram":Str),("by":Str),("distance":Str),("slid":Str),("heading_of":Str),("hunk_around":Str),("hunks_of":Str),("_law_lines":Str),("_law_once":Str),("_law_other":Str),("_law_fewest":Str),("_law_leads":Str),("_law_counts":Str),("_law_places":Str),("_law_ways_right":Str),("_law_front":Str),("_law_runs":Str),("_law_hunk_right":Str),("_law_hunks_right":Str),("_law_moved_right":Str),("law":Str)]
noncomputable def tK:List Str:=[("Change":Str),("LineNumbers":Str),("LineSheet":Str),("LineGaps":Str),("Hunk":Str)]
noncomputable def qM:List Str:=[("BLANKS":Str),("KEPT":Str),("OUT":Str),("IN":Str)]
noncomputable def Wo:List Nat:=[61,241,248,255,262,270,277,282,366,421,426,432,437,442,449,454,461,466,471,478,483,490,495,500,505,510,75,82,89,96,117,124,129,150,157,164,171,178,185,192,199,206,213,220,227,296,303,310,317,324,331,338,345,352,381]
noncomputable def Wh:List Nat:=[99,132,230,355,410]
noncomputable def Wl:List (List Nat):=[[0,1,2,3],[4,5,6],[7,8,9,10],[11,12,13],[14,15,16,17,18,19]]
noncomputable def tu:List (List (Nat×Nat)):=[[(20,27),(21,28),(22,29)],[(23,31),(24,32)],[(25,34),(26,35),(27,36),(28,37),(29,38),(30,39),(31,40),(32,41),(33,42),(34,43),(35,44)],[(36,46),(37,47),(38,48),(39,49),(40,50),(41,51),(42,52),(43,53)],[]]
noncomputable def VI:List Nat:=[26,30,33,45,54]
noncomputable def VF:List (List UInt8):=[[32,9,10,13,11,12],[32],[45],[43]]
noncomputable def an(a:bG):Str:=cS Vr a ""
noncomputable def fa(f:Nat):Nat:=cS Wo f 0
noncomputable def ca(c:Nat):Nat:=cS Wh c 0
noncomputable def dH(c:Nat):List bG:=cS Wl c []
noncomputable def lR(c m:Nat):Option Nat:=wx (cS tu c []) m
noncomputable def initF(c:Nat):Nat:=cS VI c 0
noncomputable def qA(g:Nat):Option V:=(Bh VF g).map .bytes
noncomputable def kL:List bG->List V->bG->Option V
 |[],_,_=>none
 |b::ks,l,a=>match l with
  |[]=>none
  |v::vs=>if b=a then some v else kL ks vs a
noncomputable def jF(Z:ae)(v:V)(a:bG):Option V:=match v with
 |.inst c d=>(gJ Z d).bind λp=>if p.1=c/\(dH c).contains a=true then tm p.2 a else none
 |.obj c fs=>kL (dH c) fs a
 |_=>none
noncomputable def oq(Z:ae)(v:V)(m:Nat):Option Nat:=match v with
 |.inst c d=>(gJ Z d).bind λp=>if p.1=c then lR c m else none
 |.obj c _=>lR c m
 |_=>none
noncomputable def IY(v:V):Option (Nat×Nat):=match v with
 |.inst c d=>some (c,d)
 |_=>none
def qE(Z:ae)(v:V)(a:bG)(x:V)(Q:ae->Prop):Prop:=aK (IY v) λo=>aK (gJ Z o.2) λp=>
 p.1=o.1/\(dH o.1).contains a=true/\p.2.length<=100/\Q (ak Z o.2 (.attrs o.1 (setA p.2 a x)))
noncomputable def gL(Z:ae):List V->List V×ae
 |[]=>([],Z)
 |v::r=>match jG Z v with
  |some p=>((.list p.2::(gL (fX Z p.1) r).1),(gL (fX Z p.1) r).2)
  |none=>((v::(gL Z r).1),(gL Z r).2)
noncomputable def gZ(b:Bool)(ks vs:List V):Option M:=match ks with
 |[]=>(qQ vs).map λ_=>match b with
  |true=>.dB 0 λ_=>none
  |false=>.dI 0 λ_=>none
 |k::ks=>match ks with
  |[]=>(eK k).bind λk=>(one vs).map λv=>.dI 1 λj=>if j=k then some v else none
  |k2::ks=>(qX k).bind λa=>(qX k2).bind λb=>(one ks).bind λk3=>(qX k3).bind λc=>match vs with
   |[]=>none
   |x::vs=>(aF vs).bind λp=>if a≠b/\a≠c/\b≠c then some (.dS 3 λj=>if j=a then some x else if j=b then some p.1 else if j=c then some p.2 else none) else none
inductive IS where
 |vals (l:List V)
 |live (a:Nat)
 |enum (s:IS)
noncomputable def fq(Z:ae):IS->Nat->Option (Option V)
 |.vals l,i=>some l[i]?
 |.live a,i=>(cc Z a).map λl=>l[i]?
 |.enum s,i=>(fq Z s i).map λr=>r.map λv=>.tup [.int i,v]
noncomputable def wV(Z:ae)(v:V):Option IS:=match v with
 |.list l=>some (.vals l)
 |.tup l=>some (.vals l)
 |.ref a=>(cc Z a).map λ_=>.live a
 |_=>none
noncomputable def Az(Z:ae)(v:V):Option IS:=match v with
 |.list l=>some (.vals l)
 |.ref a=>(cc Z a).map λ_=>.live a
 |_=>none
noncomputable def cC(lo step:Int):Nat->List V
 |0=>[]
 |n+1=>.int lo::cC (lo+step) step n
noncomputable def eE(i:Int):Bool:=@decide (-1048576<=i) (rf _)&&@decide (i<=1048576) (rf _)
noncomputable def mW(a b s:Int):List V:=cC a s (mu a b s).toNat
noncomputable def jU(vs:List Int):Option (List V):=match vs with
 |[]=>none
 |a::r=>match r with
  |[]=>if eE a=true then some (mW 0 a 1) else none
  |b::r=>match r with
   |[]=>if eE a=true/\eE b=true then some (mW a b 1) else none
   |s::r=>match r with
    |[]=>if (eE a=true/\eE b=true)/\(s=2\/s = -1) then some (mW a b s) else none
    |_::_=>none
noncomputable def oS:List V->List V->List V
 |[],_=>[]
 |a::r,m=>match m with
  |[]=>[]
  |b::s=>.tup [a,b]::oS r s
noncomputable def d8(t:T)(v:V)(J:aj):Option aj:=match t with
 |.v i=>some (wr J i v)
 |.tup is=>(mh v).bind λvs=>if is.length=vs.length then some (f7 J is vs) else none
inductive O where
 |next
 |ret (v:V)
def bZ(is:IS)(t:T)(body:aj->ae->(O->aj->ae->Prop)->Prop)(Q:O->aj->ae->Prop):Nat->Nat->aj->ae->Prop
 |0,_,_,_=>False
 |n+1,i,J,Z=>aK (fq Z is i) λr=>match r with
  |none=>Q .next J Z
  |some v=>aK (d8 t v J) λJ'=>body J' Z λo J'' Z''=>match o with
    |.next=>∃Z3,Sub Z3 Z''/\bZ is t body Q n (i+1) J'' Z3
    |.ret v=>Q (.ret v) J'' Z''
def ox(test:aj->ae->QV->Prop)(body:aj->ae->(O->aj->ae->Prop)->Prop)(Q:O->aj->ae->Prop):Nat->aj->ae->Prop
 |0,_,_=>False
 |n+1,J,Z=>test J Z λv Z'=>aK (kH v) λb=>match b with
  |false=>Q .next J Z'
  |true=>body J Z' λo J'' Z''=>match o with
   |.next=>∃Z3,Sub Z3 Z''/\ox test body Q n J'' Z3
   |.ret v=>Q (.ret v) J'' Z''
def g5(is:IS)(t:T)(test:aj->ae->QV->Prop)(elt:aj->ae->QV->Prop)(J:aj)(Q:QV):Nat->Nat->List V->ae->Prop
 |0,_,_,_=>False
 |n+1,i,acc,Z=>aK (fq Z is i) λr=>match r with
  |none=>Q (.list acc) Z
  |some v=>aK (d8 t v J) λJ'=>test J' Z λb Z'=>aK (kH b) λb=>match b with
    |false=>g5 is t test elt J Q n (i+1) acc Z'
    |true=>acc.length<aJ/\elt J' Z' λx Z''=>g5 is t test elt J Q n (i+1) (acc++[x]) Z''
def qP(m:Bool)(l:List V)(Z:ae)(Q:QV):Prop:=match m with
 |false=>Q (.list l) Z
 |true=>∀a,Z a=none->Q (.ref a) (ak Z a (.list l))
def lQ(frz:Bool)(c d:Nat)(r:V)(Z:ae)(Q:QV):Prop:=aK (mf r) λ_=>match frz with
 |false=>Q (.inst c d) Z
 |true=>aK (gJ Z d) λp=>p.1=c/\p.2.map (·.1)=dH c/\Q (.obj c (gL (fX Z d) (p.2.map (·.2))).1) (gL (fX Z d) (p.2.map (·.2))).2
abbrev ax:=Nat->List V->ae->QV->Prop
section
variable(C:ax)
mutual
def WE:E->aj->ae->QV->Prop
 |.c v,_,Z,Q=>Q v Z
 |.x i,J,Z,Q=>aK (rd J i) λv=>Q v Z
 |.g g,_,Z,Q=>aK (qA g) λv=>Q v Z
 |.a e a,J,Z,Q=>WE e J Z λv Z=>aK (jF Z v a) λx=>Q x Z
 |.i e i,J,Z,Q=>WE e J Z λv Z=>WE i J Z λk Z=>aK (eQ Z v k) λx=>Q x Z
 |.l e lo hi,J,Z,Q=>WE e J Z λv Z=>WE lo J Z λa Z=>WE hi J Z λb Z=>aK (oP Z v a b) λx=>Q x Z
 |.rev e,J,Z,Q=>WE e J Z λv Z=>aK (j4 v) λl=>Q (.list l.reverse) Z
 |.neg e,J,Z,Q=>WE e J Z λv Z=>aK (eK v) λi=>Q (.int (-i)) Z
 |.b op a b,J,Z,Q=>WE a J Z λx Z=>WE b J Z λy Z=>aK (tH op x y) λr=>Q r Z
 |.rep m es n,J,Z,Q=>eh es J Z λvs Z=>WE n J Z λk Z=>aK (eK k) λi=>
  vs.length*i.toNat<=aJ/\i<=aJ/\-(2 ^ 63:Int)<=i/\qP m (aR i.toNat vs).flatten Z Q
 |.m op a b,J,Z,Q=>WE a J Z λx Z=>WE b J Z λy Z=>aK (wI Z op x y) λr=>Q (.bool r) Z
 |.o isAnd es,J,Z,Q=>WB isAnd es J Z Q
 |.not e,J,Z,Q=>WE e J Z λv Z=>aK (kH v) λb=>Q (.bool (!b)) Z
 |.ite c a b,J,Z,Q=>WE c J Z λv Z=>aK (kH v) λt=>match t with
  |true=>WE a J Z Q
  |false=>WE b J Z Q
 |.tup es,J,Z,Q=>eh es J Z λvs Z=>Q (.tup vs) Z
 |.lst m es,J,Z,Q=>eh es J Z λvs Z=>qP m vs Z Q
 |.dct b ks vs,J,Z,Q=>eh vs J Z λvs Z=>aK (gZ b ks vs) λm=>∀a,Z a=none->Q (.ref a) (ak Z a m)
 |.call f es,J,Z,Q=>eh es J Z λvs Z=>C f vs Z Q
 |.new frz c es,J,Z,Q=>eh es J Z λvs Z=>∀d,Z d=none->C (initF c) (.inst c d::vs) (ak Z d (.attrs c [])) λr Z=>lQ frz c d r Z Q
 |.h e m es,J,Z,Q=>WE e J Z λv Z=>aK (oq Z v m) λf=>eh es J Z λvs Z=>C f (v::vs) Z Q
 |.bi b es,J,Z,Q=>eh es J Z λvs Z=>aK (oV Z b vs) λr=>Q r Z
 |.bm e b es,J,Z,Q=>WE e J Z λv Z=>tA Z v b=true/\eh es J Z λvs Z=>qY Z v b vs Q
 |.comp caps own t it ifs elt,J,Z,Q=>WI it J Z λis Z=>∃k,g5 is t (λJ Z Q=>WB true ifs J Z Q) (λJ Z Q=>WE elt J Z Q) (caps.map (rd J)++aR own.length none) Q k 0 [] Z
def eh:List E->aj->ae->(List V->ae->Prop)->Prop
 |[],_,Z,Q=>Q [] Z
 |e::r,J,Z,Q=>WE e J Z λv Z=>eh r J Z λvs Z=>Q (v::vs) Z
def WB(isAnd:Bool):List E->aj->ae->QV->Prop
 |[],_,Z,Q=>Q (.bool isAnd) Z
 |e::r,J,Z,Q=>WE e J Z λv Z=>match r with
  |[]=>Q v Z
  |_::_=>aK (kH v) λb=>if b=isAnd then WB isAnd r J Z Q else Q v Z
def WI:It->aj->ae->(IS->ae->Prop)->Prop
 |.seq e,J,Z,Q=>WE e J Z λv Z=>aK (wV Z v) λis=>Q is Z
 |.range es,J,Z,Q=>eh es J Z λvs Z=>aK (eO vs) λns=>aK (jU ns) λl=>Q (.vals l) Z
 |.enum e,J,Z,Q=>WE e J Z λv Z=>aK (Az Z v) λis=>Q (.enum is) Z
 |.zip a b,J,Z,Q=>WE a J Z λx Z=>WE b J Z λy Z=>aK (j4 x) λl=>aK (j4 y) λm=>Q (.vals (oS l m)) Z
end
def jD(t:Tg)(x:V)(J:aj)(Z:ae)(Q:aj->ae->Prop):Prop:=match t with
 |.v i=>Q (wr J i x) Z
 |.vs is=>aK (mh x) λvs=>is.length=vs.length/\Q (f7 J is vs) Z
 |.a e a=>WE C e J Z λv Z=>qE Z v a x λZ=>Q J Z
 |.i e i=>WE C e J Z λv Z=>WE C i J Z λk Z=>jx Z v k x λZ=>Q J Z
abbrev QO:=O->aj->ae->Prop
noncomputable def wG(op:Op)(old y:V):Option Int:=(eK old).bind λa=>(eK y).bind λb=>match op with
 |.add=>some (a+b)
 |.sub=>some (a-b)
 |_=>none
def AQ(t:Tg)(op:Op)(e:E)(J:aj)(Z:ae)(Q:aj->ae->Prop):Prop:=match t with
 |.v i=>aK (rd J i) λold=>WE C e J Z λy Z=>aK (wG op old y) λr=>Q (wr J i (.int r)) Z
 |.vs _=>False
 |.a o a=>WE C o J Z λv Z=>aK (jF Z v a) λold=>WE C e J Z λy Z=>aK (wG op old y) λr=>qE Z v a (.int r) λZ=>Q J Z
 |.i o i=>WE C o J Z λv Z=>WE C i J Z λk Z=>aK (eQ Z v k) λold=>WE C e J Z λy Z=>aK (wG op old y) λr=>jx Z v k (.int r) λZ=>Q J Z
mutual
def WS:S->aj->ae->QO->Prop
 |.s t e,J,Z,Q=>WE C e J Z λx Z=>jD C t x J Z (Q .next)
 |.aug t op e,J,Z,Q=>AQ C t op e J Z (Q .next)
 |.ex e,J,Z,Q=>WE C e J Z λv Z=>aK (mf v) λ_=>Q .next J Z
 |.ite c a b,J,Z,Q=>WE C c J Z λv Z=>aK (kH v) λt=>match t with
  |true=>az a J Z Q
  |false=>az b J Z Q
 |.whl c b,J,Z,Q=>∃n,ox (λJ Z Q=>WE C c J Z Q) (λJ Z Q=>az b J Z Q) Q n J Z
 |.for t it b,J,Z,Q=>WI C it J Z λis Z=>∃n,bZ is t (λJ Z Q=>az b J Z Q) Q n 0 J Z
 |.ret e,J,Z,Q=>WE C e J Z λv Z=>Q (.ret v) J Z
 |.stop,_,_,_=>False
def az:List S->aj->ae->QO->Prop
 |[],J,Z,Q=>Q .next J Z
 |s::r,J,Z,Q=>WS s J Z λo J Z=>match o with
  |.next=>az r J Z Q
  |.ret v=>Q (.ret v) J Z
end
end
def Wk(v:V)(Z:ae)(v':V)(Z':ae):Prop:=
 (v'=v/\Sub Z' Z)\/∃a l,v=.ref a/\Z a=some (.list l)/\v'=.list l/\Z' a=none/\Sub Z' Z
structure Fn where
 par:Nat
 loc:Nat
 dfl:List V
 body:List S
noncomputable def jc(o:O):V:=match o with
 |.ret v=>v
 |.next=>.none
noncomputable def HV(f:Fn)(vs:List V):Option aj:=
 if vs.length<=f.par/\f.par<=vs.length+f.dfl.length then
  some (vs.map some++(f.dfl.drop (f.dfl.length+vs.length-f.par)).map some++aR f.loc none)
 else none
noncomputable def Ph(P:Nat->Fn):Nat->ax
 |0,_,_,_,_=>False
 |d+1,f,vs,Z,Q=>aK (HV (P f) vs) λJ=>
  az (Ph P d) (P f).body J Z λo _ Z'=>∃v' Z'',Wk (jc o) Z' v' Z''/\Q v' Z''
end
section
open PySem
theorem av{a b:Bool}(h:(a&&b)=true):a=true/\b=true:=f9.mp h
noncomputable def Wu(x:Expr):List Expr:=match x with
 |.Attribute v _ _=>[v]
 |.Subscript v s _=>[v,s]
 |.Slice l u s _=>[l.getD x,u.getD x,s.getD x]
 |.UnaryOp _ v _=>[v]
 |.BinOp l _ r _=>[l,r]
 |.Compare l _ r _=>l::r
 |.BoolOp _ vs _=>vs
 |.IfExp t a b _=>[t,a,b]
 |.Tuple es _ _=>es
 |.List es _=>es
 |.Dict ks vs _=>ks.map (·.getD x)++vs
 |.Call f es _ _=>f::es
 |.ListComp e gs _ _=>e::gs.flatMap λg=>g.target::g.iter::g.ifs
 |_=>[]
noncomputable def ay(x:Expr)(n:Nat):Expr:=cS (Wu x) n x
noncomputable def mn(x:Expr):Nat:=match x with
 |.Constant _ k _=>k
 |.Tuple _ k _=>k
 |_=>0
noncomputable def jd(x:Expr):Scope:=match x with
 |.ListComp _ _ sc _=>sc
 |_=>default
noncomputable def zr(v:V):Const:=match v with
 |.bool a=>.bool a
 |.int i=>.int i
 |.str a=>.str a
 |.bytes a=>.bytes a
 |_=>.none
noncomputable def xn(v:V):Bool:=match v with
 |.none=>true
 |.bool _=>true
 |.int _=>true
 |.str _=>true
 |.bytes a=>decide (a.length<=aJ)
 |_=>false
noncomputable def w7(op:Op):Operator:=match op with
 |.add=>.Add
 |.sub=>.Sub
 |.mul=>.Mult
 |.fdiv=>.FloorDiv
 |.mod=>.Mod
noncomputable def Ax(op:mZ):CmpOp:=match op with
 |.eq=>.Eq
 |.ne=>.NotEq
 |.lt=>.Lt
 |.le=>.LtE
 |.gt=>.Gt
 |.ge=>.GtE
 |.is=>.Is
 |.isnot=>.IsNot
 |.isin=>.In
 |.notin=>.NotIn
noncomputable def sR(isAnd:Bool):BoolOp:=match isAnd with
 |true=>.And
 |false=>.Or
noncomputable def qs(b:BI):Str:=match b with
 |.len=>"len"
 |.isB=>"isinstance"
 |.isS=>"isinstance"
 |.isBS=>"isinstance"
 |.int=>"int"
 |.max=>"max"
 |.max1=>"max"
 |.min=>"min"
 |.min1=>"min"
 |.sum=>"sum"
 |.bytes=>"bytes"
noncomputable def GZ(b:BM):Str:=match b with
 |.append=>"append"
 |.pop=>"pop"
 |.extend=>"extend"
 |.reverse=>"reverse"
 |.get=>"get"
 |.setdefault=>"setdefault"
 |.find=>"find"
 |.isalpha=>"isalpha"
 |.rstrip=>"rstrip"
 |.strip=>"strip"
 |.join=>"join"
noncomputable def wu(b:BI):Bool:=match b with
 |.isB=>true
 |.isS=>true
 |.isBS=>true
 |_=>false
noncomputable def bq(vn:List Str)(i:Nat):Str:=cS vn i ""
noncomputable def j8(b:BI)(x:Expr):List Expr:=match b with
 |.isB=>[.Name "bytes" (ay x 2).pos]
 |.isS=>[.Name "str" (ay x 2).pos]
 |.isBS=>[.Tuple [.Name "bytes" (ay (ay x 2) 0).pos,.Name "str" (ay (ay x 2) 1).pos] (mn (ay x 2)) (ay x 2).pos]
 |_=>[]
noncomputable def gm(vn:List Str)(x:Expr):List Nat->Nat->List Expr
 |[],_=>[]
 |i::r,n=>.Name (bq vn i) (ay x n).pos::gm vn x r (n+1)
noncomputable def nv(vn:List Str)(t:T)(x:Expr):Expr:=match t with
 |.v i=>.Name (bq vn i) x.pos
 |.tup is=>.Tuple (gm vn x is 0) (mn x) x.pos
noncomputable def oD(x:Expr):List V->Nat->List (Option Expr)
 |[],_=>[]
 |v::r,n=>some (.Constant (zr v) (mn (ay x n)) (ay x n).pos)::oD x r (n+1)
noncomputable def d9(vn:List Str)(caps:List Nat)(own:List Str):List Str:=caps.map (bq vn)++own
noncomputable def wU(e:E):Bool:=match e with
 |.c v=>(mf v).isSome
 |_=>false
mutual
noncomputable def aW(vn:List Str):E->Expr->Expr
 |.c v,x=>.Constant (zr v) (mn x) x.pos
 |.x i,x=>.Name (bq vn i) x.pos
 |.g g,x=>.Name (cS qM g "") x.pos
 |.a e a,x=>.Attribute (aW vn e (ay x 0)) (an a) x.pos
 |.i e i,x=>.Subscript (aW vn e (ay x 0)) (aW vn i (ay x 1)) x.pos
 |.l e lo hi,x=>.Subscript (aW vn e (ay x 0)) (.Slice (match wU lo with
   |true=>none
   |false=>some (aW vn lo (ay (ay x 1) 0))) (match wU hi with
   |true=>none
   |false=>some (aW vn hi (ay (ay x 1) 1))) none (ay x 1).pos) x.pos
 |.rev e,x=>.Subscript (aW vn e (ay x 0)) (.Slice none none (some (.UnaryOp .USub (.Constant (.int 1) (mn (ay (ay (ay x 1) 2) 0)) (ay (ay (ay x 1) 2) 0).pos) (ay (ay x 1) 2).pos)) (ay x 1).pos) x.pos
 |.neg e,x=>.UnaryOp .USub (aW vn e (ay x 0)) x.pos
 |.b op a b,x=>.BinOp (aW vn a (ay x 0)) (w7 op) (aW vn b (ay x 1)) x.pos
 |.rep _ es n,x=>.BinOp (.List (cA vn (ay x 0) es 0) (ay x 0).pos) .Mult (aW vn n (ay x 1)) x.pos
 |.m op a b,x=>.Compare (aW vn a (ay x 0)) [Ax op] [aW vn b (ay x 1)] x.pos
 |.o isAnd es,x=>.BoolOp (sR isAnd) (cA vn x es 0) x.pos
 |.not e,x=>.UnaryOp .Not (aW vn e (ay x 0)) x.pos
 |.ite c a b,x=>.IfExp (aW vn c (ay x 0)) (aW vn a (ay x 1)) (aW vn b (ay x 2)) x.pos
 |.tup es,x=>.Tuple (cA vn x es 0) (mn x) x.pos
 |.lst _ es,x=>.List (cA vn x es 0) x.pos
 |.dct _ ks vs,x=>.Dict (oD x ks 0) (cA vn x vs ks.length) x.pos
 |.call f es,x=>.Call (.Name (cS wO f "") (ay x 0).pos) (cA vn x es 1) [] x.pos
 |.new _ c es,x=>.Call (.Name (cS tK c "") (ay x 0).pos) (cA vn x es 1) [] x.pos
 |.h e m es,x=>.Call (.Attribute (aW vn e (ay (ay x 0) 0)) (an m) (ay x 0).pos) (cA vn x es 1) [] x.pos
 |.bi b es,x=>.Call (.Name (qs b) (ay x 0).pos) (cA vn x es 1++j8 b x) [] x.pos
 |.bm e b es,x=>.Call (.Attribute (aW vn e (ay (ay x 0) 0)) (GZ b) (ay x 0).pos) (cA vn x es 1) [] x.pos
 |.comp caps own t it ifs elt,x=>.ListComp (aW (d9 vn caps own) elt (ay x 0)) [⟨nv (d9 vn caps own) t (ay x 1),oZ vn it (ay x 2),cA (d9 vn caps own) x ifs 3,0⟩] (jd x) x.pos
noncomputable def cA(vn:List Str)(x:Expr):List E->Nat->List Expr
 |[],_=>[]
 |e::r,n=>aW vn e (ay x n)::cA vn x r (n+1)
noncomputable def oZ(vn:List Str):It->Expr->Expr
 |.seq e,x=>aW vn e x
 |.range es,x=>.Call (.Name "range" (ay x 0).pos) (cA vn x es 1) [] x.pos
 |.enum e,x=>.Call (.Name "enumerate" (ay x 0).pos) [aW vn e (ay x 1)] [] x.pos
 |.zip a b,x=>.Call (.Name "zip" (ay x 0).pos) [aW vn a (ay x 1),aW vn b (ay x 2)] [] x.pos
end
noncomputable def gv(gl vn:List Str)(x:Str):Bool:=gl.contains x&&!vn.contains x
noncomputable def II(gl vn:List Str)(b:BI):Bool:=match b with
 |.isB=>gv gl vn "bytes"
 |.isS=>gv gl vn "str"
 |.isBS=>gv gl vn "bytes"&&gv gl vn "str"
 |_=>true
noncomputable def vX(t:T):Bool:=match t with
 |.v _=>false
 |.tup _=>true
noncomputable def A4(it:It)(t:T):Bool:=match it with
 |.enum _=>vX t
 |.zip _ _=>vX t
 |_=>true
noncomputable def gX:List Str->Bool
 |[]=>true
 |x::r=>!r.contains x&&gX r
noncomputable def Aj:List Nat->Bool
 |[]=>true
 |x::r=>!r.contains x&&Aj r
noncomputable def w6(n:Nat)(is:List Nat):Bool:=is.all (λi=>decide (i<n))&&Aj is
noncomputable def tZ(n:Nat)(t:T):Bool:=match t with
 |.v i=>decide (i<n)
 |.tup is=>w6 n is
noncomputable def Vk(n:Nat)(t:T):Bool:=match t with
 |.v i=>i==n
 |.tup is=>is.all λi=>decide (n<=i)
noncomputable def kG(sc:Scope):List Str:=(sc.names.filter λp=>p.2==.globalImplicit).map (·.1)
noncomputable def Du(sc:Scope)(caps own:List Str):Bool:=
 sc.kind==.function&&caps.all (λx=>sc.names.lookup x==some .free)&&own.all (λx=>sc.names.lookup x==some .local)&&sc.names.all (λp=>p.2 != .cell) &&
 sc.names.all (λp=>p.2 != .free||caps.contains p.1)&&(kG sc).all (λx=>sc.names.lookup x==some .globalImplicit)&&sc.names.all (λp=>p.1==(".0":Str)||p.2 != .local||own.contains p.1) &&
 sc.names.all (λp=>p.2 != .local||sc.names.lookup p.1==some .local)&&own.all (λx=>x != ("__debug__":Str)&&x != ("__classdict__":Str))&&(kG sc).all (λx=>x != ("__debug__":Str)&&x != ("__name__":Str)&&x != ("super":Str))&&!sc.isGenerator&&!sc.isCoroutine
noncomputable def gM{α:Type}(xs:List α):Bool:=decide (xs.length<25)
noncomputable def AY(x:Expr):Bool:=(ay x 0).pos.endLine==x.pos.line
mutual
noncomputable def bQ(gl vn:List Str):E->Expr->Bool
 |.c v,_=>xn v
 |.x i,_=>decide (i<vn.length)
 |.g g,_=>decide (g<4)&&gv gl vn (cS qM g "")
 |.a e a,x=>bQ gl vn e (ay x 0)
 |.i e i,x=>bQ gl vn e (ay x 0)&&bQ gl vn i (ay x 1)
 |.l e lo hi,x=>bQ gl vn e (ay x 0)&&bQ gl vn lo (ay (ay x 1) 0)&&bQ gl vn hi (ay (ay x 1) 1)
 |.rev e,x=>bQ gl vn e (ay x 0)
 |.neg e,x=>bQ gl vn e (ay x 0)
 |.b op a b,x=>bQ gl vn a (ay x 0)&&bQ gl vn b (ay x 1)
 |.rep _ es n,x=>gM es&&fD gl vn (ay x 0) es 0&&bQ gl vn n (ay x 1)
 |.m op a b,x=>bQ gl vn a (ay x 0)&&bQ gl vn b (ay x 1)
 |.o isAnd es,x=>!es.isEmpty&&fD gl vn x es 0
 |.not e,x=>bQ gl vn e (ay x 0)
 |.ite c a b,x=>bQ gl vn c (ay x 0)&&bQ gl vn a (ay x 1)&&bQ gl vn b (ay x 2)
 |.tup es,x=>gM es&&fD gl vn x es 0
 |.lst _ es,x=>gM es&&fD gl vn x es 0
 |.dct _ ks vs,x=>ks.all xn&&ks.length==vs.length&&decide (ks.length<=3)&&fD gl vn x vs ks.length
 |.call f es,x=>decide (f<26)&&gv gl vn (cS wO f "")&&gM es&&fD gl vn x es 1
 |.new _ c es,x=>decide (c<5)&&gv gl vn (cS tK c "")&&gM es&&fD gl vn x es 1
 |.h e m es,x=>AY x&&gM es&&bQ gl vn e (ay (ay x 0) 0)&&fD gl vn x es 1
 |.bi b es,x=>gv gl vn (qs b)&&(match wu b with
  |true=>II gl vn b&&es.length==1
  |false=>gM es)&&fD gl vn x es 1
 |.bm e b es,x=>AY x&&gM es&&bQ gl vn e (ay (ay x 0) 0)&&fD gl vn x es 1
 |.comp caps own t it ifs elt,x=>caps.all (λi=>decide (i<vn.length))&&(caps.map (bq vn)).all (λy=>gl.contains y)&&Du (jd x) (caps.map (bq vn)) own&&gX (d9 vn caps own)&&tZ (d9 vn caps own).length t &&
   Vk caps.length t&&A4 it t&&decide (ifs.length<=1)&&Bi gl vn it (ay x 2)&&fD (kG (jd x)) (d9 vn caps own) x ifs 3&&bQ (kG (jd x)) (d9 vn caps own) elt (ay x 0)
noncomputable def fD(gl vn:List Str)(x:Expr):List E->Nat->Bool
 |[],_=>true
 |e::r,n=>bQ gl vn e (ay x n)&&fD gl vn x r (n+1)
noncomputable def Bi(gl vn:List Str):It->Expr->Bool
 |.seq e,x=>bQ gl vn e x
 |.range es,x=>gv gl vn "range"&&gM es&&fD gl vn x es 1
 |.enum e,x=>gv gl vn "enumerate"&&bQ gl vn e (ay x 1)
 |.zip a b,x=>gv gl vn "zip"&&bQ gl vn a (ay x 1)&&bQ gl vn b (ay x 2)
end
noncomputable def WA(x:cf):List Expr:=match x with
 |.Return v _=>v.toList
 |.Assign t v _=>v::t
 |.AugAssign t _ v _=>[v,t]
 |.For t i _ _ _=>[t,i]
 |.While t _ _ _=>[t]
 |.If t _ _ _=>[t]
 |.Expr v _=>[v]
 |_=>[]
noncomputable def sk(x:cf)(n:Nat):Expr:=cS (WA x) n (.Name "" x.pos)
noncomputable def lU(x:cf):List cf:=match x with
 |.For _ _ b _ _=>b
 |.While _ b _ _=>b
 |.If _ b _ _=>b
 |_=>[]
noncomputable def AH(x:cf):List cf:=match x with
 |.If _ _ b _=>b
 |_=>[]
noncomputable def iF(vn:List Str)(t:Tg)(x:Expr):Expr:=match t with
 |.v i=>.Name (bq vn i) x.pos
 |.vs is=>.Tuple (gm vn x is 0) (mn x) x.pos
 |.a e a=>.Attribute (aW vn e (ay x 0)) (an a) x.pos
 |.i e i=>.Subscript (aW vn e (ay x 0)) (aW vn i (ay x 1)) x.pos
noncomputable def Bd(x:cf)(l:List cf):cf:=match l with
 |[]=>x
 |y::_=>y
noncomputable def Bn(l:List cf):List cf:=match l with
 |[]=>[]
 |_::r=>r
mutual
noncomputable def toS(vn:List Str):S->cf->cf
 |.s t e,x=>.Assign [iF vn t (sk x 1)] (aW vn e (sk x 0)) x.pos
 |.aug t op e,x=>.AugAssign (iF vn t (sk x 1)) (w7 op) (aW vn e (sk x 0)) x.pos
 |.ex e,x=>.Expr (aW vn e (sk x 0)) x.pos
 |.ite c a b,x=>.If (aW vn c (sk x 0)) (mY vn x a (lU x)) (mY vn x b (AH x)) x.pos
 |.whl c b,x=>.While (aW vn c (sk x 0)) (mY vn x b (lU x)) [] x.pos
 |.for t it b,x=>.For (nv vn t (sk x 0)) (oZ vn it (sk x 1)) (mY vn x b (lU x)) [] x.pos
 |.ret e,x=>.Return (some (aW vn e (sk x 0))) x.pos
 |.stop,x=>x
noncomputable def mY(vn:List Str)(x:cf):List S->List cf->List cf
 |[],_=>[]
 |c::r,l=>toS vn c (Bd x l)::mY vn x r (Bn l)
end
noncomputable def qR(gl vn:List Str)(t:Tg)(x:Expr):Bool:=match t with
 |.v i=>decide (i<vn.length)
 |.vs is=>w6 vn.length is
 |.a e a=>bQ gl vn e (ay x 0)
 |.i e i=>bQ gl vn e (ay x 0)&&bQ gl vn i (ay x 1)
noncomputable def GH(x:Expr):Bool:=match x with
 |.Tuple vs _ _=>!(vs.all (constantsAlone 8))||vs.all (foldedForSure 8)
 |_=>true
noncomputable def HM(t:Tg)(x:Expr):Bool:=match t with
 |.vs _=>GH x
 |_=>true
noncomputable def IH(op:Op):Bool:=match op with
 |.add=>true
 |.sub=>true
 |_=>false
noncomputable def zT(e:E):Bool:=match e with
 |.comp _ _ _ _ _ _=>false
 |_=>true
mutual
noncomputable def I1(gl vn:List Str):S->cf->Bool
 |.s t e,x=>HM t (aW vn e (sk x 0))&&qR gl vn t (sk x 1)&&bQ gl vn e (sk x 0)
 |.aug t op e,x=>IH op&&qR gl vn t (sk x 1)&&bQ gl vn e (sk x 0)
 |.ex e,x=>zT e&&bQ gl vn e (sk x 0)
 |.ite c a b,x=>bQ gl vn c (sk x 0)&&mV gl vn x a (lU x)&&mV gl vn x b (AH x)
 |.whl c b,x=>bQ gl vn c (sk x 0)&&mV gl vn x b (lU x)
 |.for t it b,x=>A4 it t&&tZ vn.length t&&Bi gl vn it (sk x 1)&&mV gl vn x b (lU x)
 |.ret e,x=>bQ gl vn e (sk x 0)
 |.stop,_=>true
noncomputable def mV(gl vn:List Str)(x:cf):List S->List cf->Bool
 |[],_=>true
 |c::r,l=>I1 gl vn c (Bd x l)&&mV gl vn x r (Bn l)
end
end
section
set_option maxRecDepth 10000
open PySem (Str)
noncomputable def WJ:List (List Str):=[[("octets":Str),("found":Str),("begun":Str),("ended":Str)],
 [("reach":Str),("lane":Str)],
 [("pairs":Str),("piles":Str),("ahead":Str),("number":Str),("pair":Str),("low":Str),("high":Str),("middle":Str),("found":Str)],
 [("a":Str),("b":Str),("sheet":Str)],
 [("a":Str),("b":Str),("sheet":Str)],
 [("a":Str),("b":Str),("most":Str),("sheet":Str)],
 [("how":Str),("a":Str),("b":Str)],
 [("a":Str),("b":Str)],
 [("changes":Str),("a":Str),("b":Str),("sheet":Str),("change":Str),("near":Str),("far":Str)],
 [("lines":Str),("start":Str),("place":Str),("first":Str)],
 [("a":Str),("b":Str),("group":Str),("context":Str),("start":Str),("end":Str),("rows":Str),("at":Str),("more":Str),("change":Str),("there":Str),("old_many":Str),("new_many":Str)],
 [("old":Str),("new":Str),("context":Str),("between":Str),("how":Str),("a":Str),("b":Str),("groups":Str),("change":Str)],
 [("some":Str)],
 [("some":Str)],
 [("old":Str),("steps":Str),("found":Str),("line":Str),("step":Str),("ways":Str)],
 [("one":Str),("two":Str),("table":Str),("k":Str),("line":Str),("j":Str),("other":Str)],
 [("some":Str),("one":Str),("two":Str),("at":Str),("to":Str),("k":Str),("it":Str),("gap":Str)],
 [("some":Str)],
 [("some":Str)],
 [("one":Str),("two":Str),("word":Str),("least":Str),("there":Str),("home":Str),("ways":Str),("some":Str),("moved":Str)],
 [("signs":Str)],
 [("signs":Str),("found":Str),("many":Str),("sign":Str)],
 [("it":Str),("low":Str),("there":Str),("one":Str),("two":Str),("context":Str),("between":Str),("signs":Str),("olds":Str),("news":Str),("ahead":Str),("behind":Str)],
 [("one":Str),("two":Str),("context":Str),("between":Str),("how":Str),("some":Str),("at":Str),("to":Str),("last":Str),("shown":Str),("it":Str),("low":Str),("there":Str),("signs":Str),("ahead":Str),("behind":Str)],
 [("one":Str),("group":Str),("at":Str),("two":Str),("many":Str),("starts":Str),("empty":Str),("due":Str),("told":Str),("back":Str)],
 [("script":Str),("cells":Str),("first":Str),("rest":Str),("half":Str),("way":Str),("one":Str),("two":Str),("bare":Str),("how":Str)],
 [("self":Str),("a_from":Str),("a_to":Str),("b_from":Str),("b_to":Str)],
 [("self":Str)],
 [("self":Str)],
 [("self":Str)],
 [("self":Str)],
 [("self":Str),("line":Str),("key":Str)],
 [("self":Str),("lines":Str)],
 [("self":Str),("a":Str),("b":Str),("numbers":Str)],
 [("self":Str)],
 [("self":Str),("part":Str),("a_low":Str),("a_high":Str),("b_low":Str),("b_high":Str)],
 [("self":Str),("part":Str),("a_low":Str),("a_high":Str),("b_low":Str),("b_high":Str),("place":Str)],
 [("self":Str),("found":Str),("at":Str),("far":Str),("a_from":Str),("b_from":Str)],
 [("self":Str),("part":Str),("a_low":Str),("a_high":Str),("b_low":Str),("b_high":Str),("wide":Str),("tall":Str),("slant":Str),("ahead":Str),("behind":Str),("many":Str),("lane":Str),("at":Str)],
 [("self":Str),("part":Str),("waiting":Str),("a_low":Str),("a_high":Str),("b_low":Str),("b_high":Str),("at":Str),("far":Str)],
 [("self":Str),("part":Str),("a_low":Str),("a_high":Str),("b_low":Str),("b_high":Str),("a_places":Str),("b_places":Str),("place":Str),("found":Str)],
 [("self":Str),("part":Str),("waiting":Str),("a_low":Str),("a_high":Str),("b_low":Str),("b_high":Str),("held":Str),("at":Str),("far":Str)],
 [("self":Str),("part":Str),("most":Str),("a_low":Str),("a_high":Str),("b_low":Str),("b_high":Str),("places":Str),("place":Str),("row":Str),("best":Str),("is_alike":Str),("far":Str),("at":Str),("size":Str),("rarest":Str),("key":Str)],
 [("self":Str),("at":Str),("far":Str),("a_low":Str),("b_low":Str),("places":Str),("most":Str)],
 [("self":Str),("part":Str),("most":Str),("waiting":Str),("a_low":Str),("a_high":Str),("b_low":Str),("b_high":Str),("stretch":Str),("is_alike":Str),("at":Str),("far":Str),("size":Str)],
 [("self":Str),("numbers":Str),("marks":Str),("lines":Str),("mark":Str)],
 [("self":Str),("gap":Str)],
 [("self":Str),("gap":Str),("start":Str)],
 [("self":Str),("gap":Str),("start":Str)],
 [("self":Str),("gap":Str),("other":Str)],
 [("self":Str),("gap":Str),("line":Str)],
 [("self":Str),("found":Str),("gap":Str),("size":Str)],
 [("self":Str),("gap":Str),("others":Str),("size":Str),("top":Str),("beside":Str),("low":Str)],
 [("self":Str),("others":Str),("gap":Str)],
 [("self":Str),("old_from":Str),("old_many":Str),("new_from":Str),("new_many":Str),("rows":Str),("heading":Str)]]
noncomputable def b0:List S:=
 [.s (.v 1) (.lst true []),
  .s (.v 2) (.c (.int 0)),
  .whl (.m .lt (.x 2) (.bi .len [.x 0]))
  [.s (.v 3) (.bm (.x 0) .find [.c (.bytes [10]),.x 2]),
   .s (.v 3) (.ite (.m .lt (.x 3) (.c (.int 0))) (.bi .len [.x 0]) (.b .add (.x 3) (.c (.int 1)))),
   .ex (.bm (.x 1) .append [.l (.x 0) (.x 2) (.x 3)]),
   .s (.v 2) (.x 3)],
  .ret (.x 1)]
noncomputable def b1:List S:=
 [.ite (.m .notin (.b .sub (.x 1) (.c (.int 1))) (.x 0))
  [.ret (.i (.x 0) (.b .add (.x 1) (.c (.int 1))))]
  [],
  .ite (.m .notin (.b .add (.x 1) (.c (.int 1))) (.x 0))
  [.ret (.b .add (.i (.x 0) (.b .sub (.x 1) (.c (.int 1)))) (.c (.int 1)))]
  [],
  .ret (.bi .max [.b .add (.i (.x 0) (.b .sub (.x 1) (.c (.int 1)))) (.c (.int 1)),.i (.x 0) (.b .add (.x 1) (.c (.int 1)))])]
noncomputable def b2:List S:=
 [.s (.vs [1,2]) (.tup [.lst true [],.lst true []]),
  .for (.tup [3,4]) (.enum (.x 0))
  [.s (.vs [5,6]) (.tup [.c (.int 0),.bi .len [.x 1]]),
   .whl (.m .lt (.x 5) (.x 6))
   [.s (.v 7) (.b .fdiv (.b .add (.x 5) (.x 6)) (.c (.int 2))),
    .ite (.m .lt (.i (.i (.x 0) (.i (.x 1) (.x 7))) (.c (.int 1))) (.i (.x 4) (.c (.int 1))))
    [.s (.v 5) (.b .add (.x 7) (.c (.int 1)))]
    [.s (.v 6) (.x 7)]],
   .ex (.bm (.x 2) .append [.ite (.m .gt (.x 5) (.c (.int 0))) (.i (.x 1) (.b .sub (.x 5) (.c (.int 1)))) (.neg (.c (.int 1)))]),
   .ite (.m .eq (.x 5) (.bi .len [.x 1]))
   [.ex (.bm (.x 1) .append [.x 3])]
   [.s (.i (.x 1) (.x 5)) (.x 3)]],
  .s (.v 8) (.lst true []),
  .s (.v 3) (.ite (.m .ne (.x 1) (.lst false [])) (.i (.x 1) (.neg (.c (.int 1)))) (.neg (.c (.int 1)))),
  .whl (.m .ge (.x 3) (.c (.int 0)))
  [.ex (.bm (.x 8) .append [.i (.x 0) (.x 3)]),
   .s (.v 3) (.i (.x 2) (.x 3))],
  .ex (.bm (.x 8) .reverse []),
  .ret (.x 8)]
noncomputable def b3:List S:=
 [.s (.v 2) (.new false 2 [.x 0,.x 1]),
  .ex (.h (.x 2) 30 [.h (.x 2) 25 []]),
  .ret (.h (.x 2) 28 [])]
noncomputable def b4:List S:=
 [.s (.v 2) (.new false 2 [.x 0,.x 1]),
  .ex (.h (.x 2) 32 [.h (.x 2) 25 []]),
  .ret (.h (.x 2) 28 [])]
noncomputable def b5:List S:=
 [.s (.v 3) (.new false 2 [.x 0,.x 1]),
  .ex (.h (.x 3) 35 [.h (.x 3) 25 [],.x 2]),
  .ret (.h (.x 3) 28 [])]
noncomputable def b6:List S:=
 [.ite (.m .eq (.x 0) (.c (.str "myers")))
  [.ret (.call 3 [.x 1,.x 2])]
  [],
  .ite (.m .eq (.x 0) (.c (.str "patience")))
  [.ret (.call 4 [.x 1,.x 2])]
  [],
  .ite (.m .eq (.x 0) (.c (.str "histogram")))
  [.ret (.call 5 [.x 1,.x 2])]
  [],
  .stop]
noncomputable def b7:List S:=
 [.ret (.bi .sum [.comp [] [("change":Str)] (.v 0) (.seq (.call 3 [.x 0,.x 1])) [] (.b .add (.h (.x 0) 20 []) (.h (.x 0) 21 []))])]
noncomputable def b8:List S:=
 [.s (.v 3) (.new false 2 [.x 1,.x 2]),
  .for (.v 4) (.seq (.x 0))
  [.ex (.h (.x 3) 27 [.h (.x 4) 22 []])],
  .s (.v 5) (.new false 3 [.a (.x 3) 7,.a (.x 3) 9,.x 1]),
  .s (.v 6) (.new false 3 [.a (.x 3) 8,.a (.x 3) 10,.x 2]),
  .ex (.h (.x 5) 43 [.x 6]),
  .ex (.h (.x 6) 43 [.x 5]),
  .s (.a (.x 3) 9) (.h (.x 5) 41 []),
  .s (.a (.x 3) 10) (.h (.x 6) 41 []),
  .ret (.h (.x 3) 28 [])]
noncomputable def b9:List S:=
 [.for (.v 2) (.range [.b .sub (.x 1) (.c (.int 1)),.neg (.c (.int 1)),.neg (.c (.int 1))])
  [.s (.v 3) (.l (.i (.x 0) (.x 2)) (.c .none) (.c (.int 1))),
   .ite (.o false [.bm (.x 3) .isalpha [],.m .isin (.x 3) (.tup [.c (.bytes [95]),.c (.bytes [36])])])
   [.ret (.bm (.l (.i (.x 0) (.x 2)) (.c .none) (.c (.int 80))) .rstrip [])]
   []],
  .ret (.c (.bytes []))]
noncomputable def WM:List S:=
 [.s (.v 4) (.bi .max [.c (.int 0),.b .sub (.a (.i (.x 2) (.c (.int 0))) 0) (.x 3)]),
  .s (.v 5) (.bi .min [.bi .len [.x 0],.b .add (.a (.i (.x 2) (.neg (.c (.int 1)))) 1) (.x 3)]),
  .s (.vs [6,7,8]) (.tup [.lst true [],.x 4,.c (.int 0)]),
  .for (.v 9) (.seq (.x 2))
  [.ex (.bm (.x 6) .extend [.comp [] [("line":Str)] (.v 0) (.seq (.l (.x 0) (.x 7) (.a (.x 9) 0))) [] (.tup [.g 1,.x 0])]),
   .ex (.bm (.x 6) .extend [.comp [] [("line":Str)] (.v 0) (.seq (.l (.x 0) (.a (.x 9) 0) (.a (.x 9) 1))) [] (.tup [.g 2,.x 0])]),
   .ex (.bm (.x 6) .extend [.comp [] [("line":Str)] (.v 0) (.seq (.l (.x 1) (.a (.x 9) 2) (.a (.x 9) 3))) [] (.tup [.g 3,.x 0])]),
   .aug (.v 8) .add (.b .add (.b .sub (.b .sub (.a (.x 9) 3) (.a (.x 9) 2)) (.a (.x 9) 1)) (.a (.x 9) 0)),
   .s (.v 7) (.a (.x 9) 1)],
  .ex (.bm (.x 6) .extend [.comp [] [("line":Str)] (.v 0) (.seq (.l (.x 0) (.x 7) (.x 5))) [] (.tup [.g 1,.x 0])]),
  .s (.v 10) (.b .sub (.a (.i (.x 2) (.c (.int 0))) 2) (.b .sub (.a (.i (.x 2) (.c (.int 0))) 0) (.x 4))),
  .s (.vs [11,12]) (.tup [.b .sub (.x 5) (.x 4),.b .add (.b .sub (.x 5) (.x 4)) (.x 8)]),
  .ret (.new true 4 [.b .add (.x 4) (.bi .int [.m .gt (.x 11) (.c (.int 0))]),.x 11,.b .add (.x 10) (.bi .int [.m .gt (.x 12) (.c (.int 0))]),.x 12,.x 6,.call 9 [.x 0,.x 4]])]
noncomputable def WN:List S:=
 [.s (.vs [5,6]) (.tup [.call 0 [.x 0],.call 0 [.x 1]]),
  .s (.v 7) (.lst true []),
  .for (.v 8) (.seq (.call 8 [.call 6 [.x 4,.x 5,.x 6],.x 5,.x 6]))
  [.ite (.o true [.m .ne (.x 7) (.lst false []),.m .le (.b .sub (.a (.x 8) 0) (.a (.i (.i (.x 7) (.neg (.c (.int 1)))) (.neg (.c (.int 1)))) 1)) (.b .add (.b .mul (.c (.int 2)) (.x 2)) (.x 3))])
   [.ex (.bm (.i (.x 7) (.neg (.c (.int 1)))) .append [.x 8])]
   [.ex (.bm (.x 7) .append [.lst true [.x 8]])]],
  .ret (.comp [5,6,2] [("group":Str)] (.v 3) (.seq (.x 7)) [] (.call 10 [.x 0,.x 1,.x 3,.x 2]))]
noncomputable def WO:List S:=
 [.ret (.comp [] [("k":Str)] (.v 0) (.seq (.x 0)) [] (.b .add (.bi .bytes [.lst false [.b .add (.c (.int 97)) (.x 0)]]) (.c (.bytes [10]))))]
noncomputable def WQ:List S:=
 [.ret (.comp [0] [("at":Str),("k":Str)] (.tup [1,2]) (.enum (.x 0)) [.m .notin (.x 2) (.l (.x 0) (.c .none) (.x 1))] (.x 2))]
noncomputable def WR:List S:=
 [.s (.v 2) (.lst true []),
  .for (.tup [3,4]) (.zip (.x 0) (.x 1))
  [.s (.v 5) (.lst false [.lst false [],.lst false [.b .mod (.b .add (.x 3) (.c (.int 1))) (.c (.int 3))],.lst false [.x 3,.b .mod (.b .add (.x 3) (.c (.int 2))) (.c (.int 3))],.lst false [.x 3,.x 3],.lst false [.b .mod (.b .add (.x 3) (.c (.int 1))) (.c (.int 3)),.x 3]]),
   .ex (.bm (.x 2) .extend [.ite (.m .lt (.x 4) (.c (.int 3))) (.lst false [.x 3]) (.i (.x 5) (.b .sub (.x 4) (.c (.int 3))))])],
  .ret (.x 2)]
noncomputable def WT:List S:=
 [.s (.v 2) (.comp [1] [("k":Str)] (.v 1) (.range [.b .add (.bi .len [.x 0]) (.c (.int 1))]) [] (.rep true [.c (.int 0)] (.b .add (.bi .len [.x 0]) (.c (.int 1))))),
  .for (.tup [3,4]) (.enum (.x 0))
  [.for (.tup [5,6]) (.enum (.x 1))
   [.s (.i (.i (.x 2) (.b .add (.x 3) (.c (.int 1)))) (.b .add (.x 5) (.c (.int 1)))) (.ite (.m .eq (.x 4) (.x 6)) (.b .add (.i (.i (.x 2) (.x 3)) (.x 5)) (.c (.int 1))) (.bi .max [.i (.i (.x 2) (.x 3)) (.b .add (.x 5) (.c (.int 1))),.i (.i (.x 2) (.b .add (.x 3) (.c (.int 1)))) (.x 5)]))]],
  .ret (.b .sub (.b .add (.bi .len [.x 0]) (.bi .len [.x 1])) (.b .mul (.c (.int 2)) (.i (.i (.x 2) (.bi .len [.x 0])) (.bi .len [.x 1]))))]
noncomputable def WU:List S:=
 [.s (.vs [3,4]) (.tup [.c (.int 0),.c (.int 0)]),
  .for (.tup [5,6]) (.enum (.x 0))
  [.s (.v 7) (.b .sub (.a (.x 6) 0) (.x 3)),
   .ite (.o false [.m .lt (.x 7) (.bi .int [.m .gt (.x 5) (.c (.int 0))]),.m .ne (.b .sub (.a (.x 6) 2) (.x 4)) (.x 7),.m .lt (.a (.x 6) 1) (.a (.x 6) 0),.m .lt (.a (.x 6) 3) (.a (.x 6) 2)])
   [.ret (.c (.bool false))]
   [],
   .ite (.o false [.m .gt (.a (.x 6) 1) (.bi .len [.x 1]),.m .gt (.a (.x 6) 3) (.bi .len [.x 2]),.m .eq (.b .sub (.b .add (.b .sub (.a (.x 6) 1) (.a (.x 6) 0)) (.a (.x 6) 3)) (.a (.x 6) 2)) (.c (.int 0))])
   [.ret (.c (.bool false))]
   [],
   .ite (.m .ne (.l (.x 1) (.x 3) (.a (.x 6) 0)) (.l (.x 2) (.x 4) (.a (.x 6) 2)))
   [.ret (.c (.bool false))]
   [],
   .s (.vs [3,4]) (.tup [.a (.x 6) 1,.a (.x 6) 3])],
  .ret (.m .eq (.l (.x 1) (.x 3) (.c .none)) (.l (.x 2) (.x 4) (.c .none)))]
noncomputable def WV:List S:=
 [.ret (.lst false [.bi .sum [.comp [] [("it":Str)] (.v 0) (.seq (.x 0)) [] (.b .sub (.a (.x 0) 1) (.a (.x 0) 0))],.bi .sum [.comp [] [("it":Str)] (.v 0) (.seq (.x 0)) [] (.b .sub (.a (.x 0) 3) (.a (.x 0) 2))]])]
noncomputable def WW:List S:=
 [.ret (.comp [] [("it":Str)] (.v 0) (.seq (.x 0)) [] (.tup [.a (.x 0) 0,.a (.x 0) 1,.a (.x 0) 2,.a (.x 0) 3]))]
noncomputable def WX:List S:=
 [.s (.vs [3,4,5]) (.tup [.call 15 [.x 0,.x 1],.call 3 [.x 0,.x 1],.call 3 [.x 1,.x 0]]),
  .ite (.not (.call 16 [.x 5,.x 1,.x 0]))
  [.ret (.c (.bool false))]
  [],
  .ite (.m .ne (.lst false [.bi .sum [.call 17 [.x 4]],.bi .sum [.call 17 [.x 5]],.call 7 [.x 0,.x 1]]) (.rep false [.x 3] (.c (.int 3))))
  [.ret (.c (.bool false))]
  [],
  .s (.v 6) (.dct false [.str "myers",.str "patience",.str "histogram"] [.x 4,.call 4 [.x 0,.x 1],.call 5 [.x 0,.x 1]]),
  .for (.v 7) (.seq (.lst false [.i (.x 6) (.c (.str "patience")),.i (.x 6) (.c (.str "histogram")),.x 4,.call 5 [.x 0,.x 1,.b .mod (.x 3) (.c (.int 2))]]))
  [.ite (.o false [.not (.call 16 [.x 7,.x 0,.x 1]),.m .lt (.bi .sum [.call 17 [.x 7]]) (.x 3)])
   [.ret (.c (.bool false))]
   []],
  .s (.v 8) (.call 8 [.i (.x 6) (.x 2),.x 0,.x 1]),
  .ite (.o false [.not (.call 16 [.x 8,.x 0,.x 1]),.m .ne (.call 17 [.x 8]) (.call 17 [.i (.x 6) (.x 2)])])
  [.ret (.c (.bool false))]
  [],
  .ite (.o true [.m .eq (.call 13 [.x 0]) (.x 0),.m .eq (.call 13 [.x 1]) (.x 1),.m .ne (.bi .sum [.call 17 [.i (.x 6) (.c (.str "patience"))]]) (.x 3)])
  [.ret (.c (.bool false))]
  [],
  .ret (.m .eq (.call 18 [.call 6 [.x 2,.x 0,.x 1]]) (.call 18 [.i (.x 6) (.x 2)]))]
noncomputable def WY:List S:=
 [.ret (.bi .min1 [.comp [] [("k":Str),("sign":Str)] (.tup [0,1]) (.enum (.x 0)) [.m .ne (.x 1) (.c (.bytes [32]))] (.x 0)])]
noncomputable def WZ:List S:=
 [.s (.vs [1,2]) (.tup [.lst false [.c (.int 0)],.c (.int 0)]),
  .for (.v 3) (.seq (.l (.x 0) (.call 20 [.x 0]) (.c .none)))
  [.s (.vs [1,2]) (.tup [.b .add (.x 1) (.ite (.m .ne (.x 3) (.c (.bytes [32]))) (.lst false [.x 2]) (.lst false [])),.ite (.m .eq (.x 3) (.c (.bytes [32]))) (.b .add (.x 2) (.c (.int 1))) (.c (.int 0))])],
  .ret (.x 1)]
noncomputable def W0:List S:=
 [.s (.v 7) (.comp [] [("sign":Str),("line":Str)] (.tup [0,1]) (.seq (.a (.x 0) 18)) [] (.x 0)),
  .ite (.m .ne (.comp [] [("sign":Str)] (.v 0) (.seq (.x 7)) [.m .notin (.x 0) (.tup [.c (.bytes [32]),.c (.bytes [45]),.c (.bytes [43])])] (.x 0)) (.lst false []))
  [.ret (.c (.bool false))]
  [],
  .ite (.m .eq (.comp [] [("sign":Str)] (.v 0) (.seq (.x 7)) [.m .ne (.x 0) (.c (.bytes [32]))] (.x 0)) (.lst false []))
  [.ret (.c (.bool false))]
  [],
  .s (.vs [8,9]) (.tup [.comp [] [("sign":Str),("line":Str)] (.tup [0,1]) (.seq (.a (.x 0) 18)) [.m .ne (.x 0) (.c (.bytes [43]))] (.x 1),.comp [] [("sign":Str),("line":Str)] (.tup [0,1]) (.seq (.a (.x 0) 18)) [.m .ne (.x 0) (.c (.bytes [45]))] (.x 1)]),
  .ite (.o false [.m .ne (.x 8) (.l (.x 3) (.x 1) (.b .add (.x 1) (.a (.x 0) 15))),.m .ne (.x 9) (.l (.x 4) (.x 2) (.b .add (.x 2) (.a (.x 0) 17)))])
  [.ret (.c (.bool false))]
  [],
  .ite (.o false [.m .ne (.lst false [.bi .len [.x 8],.bi .len [.x 9]]) (.lst false [.a (.x 0) 15,.a (.x 0) 17]),.m .gt (.bi .max1 [.call 21 [.x 7]]) (.b .add (.b .mul (.c (.int 2)) (.x 5)) (.x 6))])
  [.ret (.c (.bool false))]
  [],
  .ite (.m .ne (.comp [7] [("k":Str)] (.v 1) (.range [.c (.int 1),.bi .len [.x 7]]) [.o true [.m .eq (.i (.x 0) (.b .sub (.x 1) (.c (.int 1)))) (.c (.bytes [43])),.m .eq (.i (.x 0) (.x 1)) (.c (.bytes [45]))]] (.x 1)) (.lst false []))
  [.ret (.c (.bool false))]
  [],
  .s (.vs [10,11]) (.tup [.call 20 [.x 7],.call 20 [.rev (.x 7)]]),
  .ite (.m .ne (.x 10) (.bi .min [.x 5,.b .add (.x 1) (.x 10)]))
  [.ret (.c (.bool false))]
  [],
  .ret (.m .eq (.x 11) (.bi .min [.x 5,.b .sub (.bi .len [.x 3]) (.b .sub (.b .add (.x 1) (.a (.x 0) 15)) (.x 11))]))]
noncomputable def W3:List S:=
 [.s (.vs [5,6,7,8,9]) (.tup [.call 11 [.bm (.c (.bytes [])) .join [.x 0],.bm (.c (.bytes [])) .join [.x 1],.x 2,.x 3,.x 4],.c (.int 0),.c (.int 0),.c .none,.c (.int 0)]),
  .for (.v 10) (.seq (.x 5))
  [.s (.v 11) (.ite (.m .gt (.a (.x 10) 15) (.c (.int 0))) (.b .sub (.a (.x 10) 14) (.c (.int 1))) (.a (.x 10) 14)),
   .s (.v 12) (.ite (.m .gt (.a (.x 10) 17) (.c (.int 0))) (.b .sub (.a (.x 10) 16) (.c (.int 1))) (.a (.x 10) 16)),
   .ite (.o false [.m .lt (.x 11) (.x 6),.m .ne (.b .sub (.x 12) (.x 7)) (.b .sub (.x 11) (.x 6)),.m .ne (.l (.x 0) (.x 6) (.x 11)) (.l (.x 1) (.x 7) (.x 12))])
   [.ret (.c (.bool false))]
   [],
   .ite (.not (.call 22 [.x 10,.x 11,.x 12,.x 0,.x 1,.x 2,.x 3]))
   [.ret (.c (.bool false))]
   [],
   .s (.v 13) (.comp [] [("sign":Str),("line":Str)] (.tup [0,1]) (.seq (.a (.x 10) 18)) [] (.x 0)),
   .s (.vs [14,15]) (.tup [.call 20 [.x 13],.call 20 [.rev (.x 13)]]),
   .ite (.o true [.m .isnot (.x 8) (.c .none),.m .le (.b .sub (.b .add (.x 11) (.x 14)) (.x 8)) (.b .add (.b .mul (.c (.int 2)) (.x 2)) (.x 3))])
   [.ret (.c (.bool false))]
   [],
   .s (.vs [6,7,8]) (.tup [.b .add (.x 11) (.a (.x 10) 15),.b .add (.x 12) (.a (.x 10) 17),.b .sub (.b .add (.x 11) (.a (.x 10) 15)) (.x 15)]),
   .s (.v 9) (.b .add (.x 9) (.bi .len [.comp [] [("sign":Str)] (.v 0) (.seq (.x 13)) [.m .ne (.x 0) (.c (.bytes [32]))] (.x 0)]))],
  .ite (.m .ne (.l (.x 0) (.x 6) (.c .none)) (.l (.x 1) (.x 7) (.c .none)))
  [.ret (.c (.bool false))]
  [],
  .ret (.ite (.m .eq (.x 4) (.c (.str "myers"))) (.m .eq (.x 9) (.call 15 [.x 0,.x 1])) (.m .ge (.x 9) (.call 15 [.x 0,.x 1])))]
noncomputable def W4:List S:=
 [.s (.vs [3,4]) (.tup [.b .add (.b .add (.l (.x 0) (.c .none) (.x 2)) (.x 1)) (.l (.x 0) (.x 2) (.c .none)),.bi .len [.x 1]]),
  .s (.v 5) (.comp [0,3,4] [("k":Str)] (.v 3) (.range [.b .add (.bi .len [.x 0]) (.c (.int 1))]) [.m .eq (.b .add (.l (.x 1) (.c .none) (.x 3)) (.l (.x 1) (.b .add (.x 3) (.x 2)) (.c .none))) (.x 0)] (.x 3)),
  .s (.v 6) (.comp [3,4] [("k":Str)] (.v 2) (.seq (.x 5)) [.m .eq (.i (.x 0) (.b .sub (.b .add (.x 2) (.x 1)) (.c (.int 1)))) (.c (.bytes [10]))] (.x 2)),
  .s (.v 7) (.ite (.m .ne (.x 6) (.lst false [])) (.i (.x 6) (.neg (.c (.int 1)))) (.i (.x 5) (.neg (.c (.int 1))))),
  .s (.v 8) (.comp [0,3,4] [("k":Str)] (.v 3) (.seq (.tup [.i (.x 5) (.c (.int 0)),.i (.x 5) (.neg (.c (.int 1)))])) [] (.call 18 [.call 8 [.lst false [.new true 0 [.x 3,.x 3,.x 3,.b .add (.x 3) (.x 2)]],.x 0,.x 1]])),
  .s (.v 9) (.call 18 [.call 8 [.lst false [.new true 0 [.x 2,.b .add (.x 2) (.x 4),.x 2,.x 2]],.x 3,.x 0]]),
  .ret (.o true [.m .eq (.x 8) (.rep false [.lst false [.tup [.x 7,.x 7,.x 7,.b .add (.x 7) (.x 4)]]] (.c (.int 2))),.m .eq (.x 9) (.lst false [.tup [.x 7,.b .add (.x 7) (.x 4),.x 7,.x 7]])])]
noncomputable def W5:List S:=
 [.s (.v 1) (.comp [] [("v":Str)] (.v 0) (.seq (.l (.x 0) (.c .none) (.c (.int 9)))) [] (.bi .int [.x 0])),
  .s (.vs [2,3]) (.tup [.ite (.m .ne (.x 1) (.lst false [])) (.i (.x 1) (.c (.int 0))) (.c (.int 0)),.l (.x 1) (.c (.int 1)) (.c .none)]),
  .s (.vs [4,5]) (.tup [.b .fdiv (.bi .len [.x 3]) (.c (.int 2)),.b .mod (.b .fdiv (.x 2) (.c (.int 12))) (.c (.int 3))]),
  .ite (.m .eq (.x 5) (.c (.int 0)))
  [.s (.vs [6,7]) (.tup [.comp [] [("v":Str)] (.v 0) (.seq (.l (.x 3) (.c .none) (.x 4))) [] (.b .mod (.x 0) (.c (.int 3))),.comp [] [("v":Str)] (.v 0) (.seq (.l (.x 3) (.x 4) (.c .none))) [] (.b .mod (.x 0) (.c (.int 3)))])]
  [.ite (.m .eq (.x 5) (.c (.int 1)))
   [.s (.v 6) (.comp [] [("v":Str)] (.v 0) (.seq (.l (.x 3) (.c .none) (.c (.int 4)))) [] (.b .mod (.x 0) (.c (.int 3)))),
    .s (.v 7) (.call 14 [.x 6,.comp [] [("v":Str)] (.v 0) (.seq (.l (.x 3) (.c .none) (.c (.int 4)))) [] (.b .mod (.b .fdiv (.x 0) (.c (.int 3))) (.c (.int 8)))])]
   [.s (.vs [6,7]) (.tup [.call 13 [.comp [] [("v":Str)] (.v 0) (.seq (.l (.x 3) (.c .none) (.x 4))) [] (.b .mod (.x 0) (.c (.int 11)))],.call 13 [.comp [] [("v":Str)] (.v 0) (.seq (.l (.x 3) (.x 4) (.c .none))) [] (.b .mod (.x 0) (.c (.int 11)))]])]],
  .s (.vs [6,7]) (.tup [.call 12 [.x 6],.call 12 [.l (.x 7) (.c .none) (.c (.int 6))]]),
  .s (.v 8) (.comp [] [("v":Str)] (.v 0) (.seq (.x 3)) [] (.i (.tup [.c (.bytes [97,10]),.c (.bytes [10]),.c (.bytes [98,10])]) (.b .mod (.x 0) (.c (.int 3))))),
  .ite (.not (.call 24 [.l (.x 8) (.c .none) (.c (.int 4)),.o false [.b .add (.l (.x 8) (.c (.int 4)) (.c (.int 6))) (.l (.lst false [.c (.bytes [10]),.c (.bytes [97,10])]) (.b .mod (.b .fdiv (.x 2) (.c (.int 288))) (.c (.int 2))) (.b .add (.b .mod (.b .fdiv (.x 2) (.c (.int 576))) (.c (.int 2))) (.c (.int 1)))),.lst false [.c (.bytes [97,10])]],.b .mod (.b .fdiv (.x 2) (.c (.int 144))) (.b .add (.bi .len [.l (.x 8) (.c .none) (.c (.int 4))]) (.c (.int 1)))]))
  [.ret (.c (.bool false))]
  [],
  .s (.v 9) (.i (.tup [.c (.str "myers"),.c (.str "myers"),.c (.str "patience"),.c (.str "histogram")]) (.b .mod (.b .fdiv (.x 2) (.c (.int 36))) (.c (.int 4)))),
  .ite (.not (.call 19 [.x 6,.x 7,.x 9]))
  [.ret (.c (.bool false))]
  [],
  .ret (.call 23 [.x 6,.x 7,.b .mod (.x 2) (.c (.int 4)),.b .mod (.b .fdiv (.x 2) (.c (.int 4))) (.c (.int 3)),.x 9])]
noncomputable def W6:List S:=
 [.s (.a (.x 0) 0) (.x 1),
  .s (.a (.x 0) 1) (.x 2),
  .s (.a (.x 0) 2) (.x 3),
  .s (.a (.x 0) 3) (.x 4)]
noncomputable def W7:List S:=
 [.ret (.b .sub (.a (.x 0) 1) (.a (.x 0) 0))]
noncomputable def W8:List S:=
 [.ret (.b .sub (.a (.x 0) 3) (.a (.x 0) 2))]
noncomputable def W9:List S:=
 [.ret (.tup [.a (.x 0) 0,.a (.x 0) 1,.a (.x 0) 2,.a (.x 0) 3])]
noncomputable def Xa:List S:=
 [.s (.a (.x 0) 4) (.dct true [] []),
  .s (.a (.x 0) 5) (.lst false []),
  .s (.a (.x 0) 6) (.c (.int 0))]
noncomputable def Xb:List S:=
 [.ite (.bi .isBS [.x 1])
  [.s (.v 2) (.tup [.bi .isS [.x 1],.x 1]),
   .ite (.m .notin (.x 2) (.a (.x 0) 4))
   [.s (.i (.a (.x 0) 4) (.x 2)) (.a (.x 0) 6),
    .aug (.a (.x 0) 6) .add (.c (.int 1))]
   [],
   .ret (.i (.a (.x 0) 4) (.x 2))]
  [],
  .stop,.stop,.stop,.stop]
noncomputable def Xc:List S:=
 [.ret (.comp [0] [("line":Str)] (.v 1) (.seq (.x 1)) [] (.h (.x 0) 23 [.x 1]))]
noncomputable def Xd:List S:=
 [.s (.v 3) (.new false 1 []),
  .s (.a (.x 0) 7) (.h (.x 3) 24 [.x 1]),
  .s (.a (.x 0) 8) (.h (.x 3) 24 [.x 2]),
  .s (.a (.x 0) 9) (.rep true [.c (.bool false)] (.bi .len [.x 1])),
  .s (.a (.x 0) 10) (.rep true [.c (.bool false)] (.bi .len [.x 2]))]
noncomputable def Xe:List S:=
 [.ret (.tup [.c (.int 0),.bi .len [.a (.x 0) 7],.c (.int 0),.bi .len [.a (.x 0) 8]])]
noncomputable def Xf:List S:=
 [.s (.vs [2,3,4,5]) (.x 1),
  .whl (.o true [.m .lt (.x 2) (.x 3),.m .lt (.x 4) (.x 5),.m .eq (.i (.a (.x 0) 7) (.x 2)) (.i (.a (.x 0) 8) (.x 4))])
  [.aug (.v 2) .add (.c (.int 1)),
   .aug (.v 4) .add (.c (.int 1))],
  .whl (.o true [.m .lt (.x 2) (.x 3),.m .lt (.x 4) (.x 5),.m .eq (.i (.a (.x 0) 7) (.b .sub (.x 3) (.c (.int 1)))) (.i (.a (.x 0) 8) (.b .sub (.x 5) (.c (.int 1))))])
  [.aug (.v 3) .sub (.c (.int 1)),
   .aug (.v 5) .sub (.c (.int 1))],
  .ret (.tup [.x 2,.x 3,.x 4,.x 5])]
noncomputable def Xg:List S:=
 [.s (.vs [2,3,4,5]) (.x 1),
  .for (.v 6) (.range [.x 2,.x 3])
  [.s (.i (.a (.x 0) 9) (.x 6)) (.c (.bool true))],
  .for (.v 6) (.range [.x 4,.x 5])
  [.s (.i (.a (.x 0) 10) (.x 6)) (.c (.bool true))]]
noncomputable def Xh:List S:=
 [.s (.v 1) (.lst true []),
  .s (.vs [2,3]) (.tup [.c (.int 0),.c (.int 0)]),
  .whl (.o false [.m .lt (.x 2) (.bi .len [.a (.x 0) 7]),.m .lt (.x 3) (.bi .len [.a (.x 0) 8])])
  [.s (.vs [4,5]) (.tup [.x 2,.x 3]),
   .whl (.o true [.m .lt (.x 2) (.bi .len [.a (.x 0) 7]),.i (.a (.x 0) 9) (.x 2)])
   [.aug (.v 2) .add (.c (.int 1))],
   .whl (.o true [.m .lt (.x 3) (.bi .len [.a (.x 0) 8]),.i (.a (.x 0) 10) (.x 3)])
   [.aug (.v 3) .add (.c (.int 1))],
   .ite (.o false [.m .gt (.x 2) (.x 4),.m .gt (.x 3) (.x 5)])
   [.ex (.bm (.x 1) .append [.new true 0 [.x 4,.x 2,.x 5,.x 3]])]
   [.aug (.v 2) .add (.c (.int 1)),
    .aug (.v 3) .add (.c (.int 1))]],
  .ret (.x 1)]
noncomputable def Xi:List S:=
 [.s (.vs [2,3,4,5]) (.x 1),
  .s (.vs [6,7]) (.tup [.b .sub (.x 3) (.x 2),.b .sub (.x 5) (.x 4)]),
  .s (.v 8) (.b .sub (.x 6) (.x 7)),
  .s (.vs [9,10]) (.tup [.dct false [.int 0] [.c (.int 0)],.dct false [.int 0] [.c (.int 0)]]),
  .for (.v 11) (.range [.c (.int 1),.b .add (.b .fdiv (.b .add (.b .add (.x 6) (.x 7)) (.c (.int 1))) (.c (.int 2))) (.c (.int 1))])
  [.for (.v 12) (.range [.neg (.x 11),.b .add (.x 11) (.c (.int 1)),.c (.int 2)])
   [.s (.v 13) (.call 1 [.x 9,.x 12]),
    .whl (.o true [.m .lt (.x 13) (.x 6),.m .lt (.b .sub (.x 13) (.x 12)) (.x 7),.m .eq (.i (.a (.x 0) 7) (.b .add (.x 2) (.x 13))) (.i (.a (.x 0) 8) (.b .sub (.b .add (.x 4) (.x 13)) (.x 12)))])
    [.aug (.v 13) .add (.c (.int 1))],
    .s (.i (.x 9) (.x 12)) (.x 13),
    .ite (.o true [.m .eq (.b .mod (.x 8) (.c (.int 2))) (.c (.int 1)),.m .isin (.b .sub (.x 8) (.x 12)) (.x 10),.m .ge (.b .add (.x 13) (.i (.x 10) (.b .sub (.x 8) (.x 12)))) (.x 6)])
    [.ret (.tup [.b .add (.x 2) (.x 13),.b .sub (.b .add (.x 4) (.x 13)) (.x 12)])]
    []],
   .for (.v 12) (.range [.neg (.x 11),.b .add (.x 11) (.c (.int 1)),.c (.int 2)])
   [.s (.v 13) (.call 1 [.x 10,.x 12]),
    .whl (.o true [.m .lt (.x 13) (.x 6),.m .lt (.b .sub (.x 13) (.x 12)) (.x 7),.m .eq (.i (.a (.x 0) 7) (.b .sub (.b .sub (.x 3) (.c (.int 1))) (.x 13))) (.i (.a (.x 0) 8) (.b .add (.b .sub (.b .sub (.x 5) (.c (.int 1))) (.x 13)) (.x 12)))])
    [.aug (.v 13) .add (.c (.int 1))],
    .s (.i (.x 10) (.x 12)) (.x 13),
    .ite (.o true [.m .eq (.b .mod (.x 8) (.c (.int 2))) (.c (.int 0)),.m .isin (.b .sub (.x 8) (.x 12)) (.x 9),.m .ge (.b .add (.x 13) (.i (.x 9) (.b .sub (.x 8) (.x 12)))) (.x 6)])
    [.ret (.tup [.b .sub (.x 3) (.x 13),.b .add (.b .sub (.x 5) (.x 13)) (.x 12)])]
    []]],
  .stop]
noncomputable def Xj:List S:=
 [.s (.v 2) (.lst true [.x 1]),
  .whl (.m .ne (.x 2) (.lst false []))
  [.s (.vs [3,4,5,6]) (.h (.x 0) 26 [.bm (.x 2) .pop []]),
   .ite (.o false [.m .eq (.x 3) (.x 4),.m .eq (.x 5) (.x 6)])
   [.ex (.h (.x 0) 27 [.tup [.x 3,.x 4,.x 5,.x 6]])]
   [.s (.vs [7,8]) (.h (.x 0) 29 [.tup [.x 3,.x 4,.x 5,.x 6]]),
    .ex (.bm (.x 2) .append [.tup [.x 3,.x 7,.x 5,.x 8]]),
    .ex (.bm (.x 2) .append [.tup [.x 7,.x 4,.x 8,.x 6]])]]]
noncomputable def Xk:List S:=
 [.s (.vs [2,3,4,5]) (.x 1),
  .s (.vs [6,7]) (.tup [.dct false [] [],.dct false [] []]),
  .for (.v 8) (.range [.x 2,.x 3])
  [.s (.i (.x 6) (.i (.a (.x 0) 7) (.x 8))) (.ite (.m .notin (.i (.a (.x 0) 7) (.x 8)) (.x 6)) (.x 8) (.neg (.c (.int 1))))],
  .for (.v 8) (.range [.x 4,.x 5])
  [.s (.i (.x 7) (.i (.a (.x 0) 8) (.x 8))) (.ite (.m .notin (.i (.a (.x 0) 8) (.x 8)) (.x 7)) (.x 8) (.neg (.c (.int 1))))],
  .s (.v 9) (.lst true []),
  .for (.v 8) (.range [.x 2,.x 3])
  [.ite (.o true [.m .eq (.i (.x 6) (.i (.a (.x 0) 7) (.x 8))) (.x 8),.m .ge (.bm (.x 7) .get [.i (.a (.x 0) 7) (.x 8),.neg (.c (.int 1))]) (.c (.int 0))])
   [.ex (.bm (.x 9) .append [.tup [.x 8,.i (.x 7) (.i (.a (.x 0) 7) (.x 8))]])]
   []],
  .ret (.x 9)]
noncomputable def Xl:List S:=
 [.s (.v 2) (.lst true [.x 1]),
  .whl (.m .ne (.x 2) (.lst false []))
  [.s (.vs [3,4,5,6]) (.h (.x 0) 26 [.bm (.x 2) .pop []]),
   .ite (.o false [.m .eq (.x 3) (.x 4),.m .eq (.x 5) (.x 6)])
   [.ex (.h (.x 0) 27 [.tup [.x 3,.x 4,.x 5,.x 6]])]
   [.s (.v 7) (.call 2 [.h (.x 0) 31 [.tup [.x 3,.x 4,.x 5,.x 6]]]),
    .ite (.m .eq (.x 7) (.lst false []))
    [.ex (.h (.x 0) 30 [.tup [.x 3,.x 4,.x 5,.x 6]])]
    [.for (.tup [8,9]) (.seq (.x 7))
     [.ex (.bm (.x 2) .append [.tup [.x 3,.x 8,.x 5,.x 9]]),
      .s (.vs [3,5]) (.tup [.b .add (.x 8) (.c (.int 1)),.b .add (.x 9) (.c (.int 1))])],
     .ex (.bm (.x 2) .append [.tup [.x 3,.x 4,.x 5,.x 6]])]]]]
noncomputable def Xm:List S:=
 [.s (.vs [3,4,5,6]) (.x 1),
  .s (.v 7) (.dct false [] []),
  .for (.v 8) (.range [.x 3,.x 4])
  [.s (.v 9) (.bm (.x 7) .setdefault [.i (.a (.x 0) 7) (.x 8),.lst true []]),
   .ex (.bm (.x 9) .append [.x 8])],
  .s (.vs [10,11]) (.tup [.c .none,.c (.bool false)]),
  .for (.v 12) (.range [.x 5,.x 6])
  [.s (.v 9) (.bm (.x 7) .get [.i (.a (.x 0) 8) (.x 12),.lst false []]),
   .s (.v 11) (.o false [.x 11,.m .ne (.x 9) (.lst false [])]),
   .ite (.m .gt (.bi .len [.x 9]) (.x 2))
   [.s (.v 9) (.lst false [])]
   [],
   .for (.v 13) (.seq (.x 9))
   [.ite (.not (.h (.x 0) 34 [.x 13,.x 12,.x 3,.x 5,.x 7,.x 2]))
    [.s (.vs [14,15]) (.tup [.c (.int 0),.bi .len [.x 9]]),
     .whl (.o true [.m .lt (.b .add (.x 13) (.x 14)) (.x 4),.m .lt (.b .add (.x 12) (.x 14)) (.x 6),.m .eq (.i (.a (.x 0) 7) (.b .add (.x 13) (.x 14))) (.i (.a (.x 0) 8) (.b .add (.x 12) (.x 14)))])
     [.s (.v 15) (.bi .min [.x 15,.bi .len [.i (.x 7) (.i (.a (.x 0) 7) (.b .add (.x 13) (.x 14)))]]),
      .aug (.v 14) .add (.c (.int 1))],
     .s (.v 16) (.tup [.x 15,.neg (.x 14),.x 13,.x 12]),
     .ite (.o false [.m .is (.x 10) (.c .none),.m .lt (.x 16) (.x 10)])
     [.s (.v 10) (.x 16)]
     []]
    []]],
  .ret (.ite (.m .is (.x 10) (.c .none)) (.tup [.c .none,.x 11]) (.tup [.tup [.i (.x 10) (.c (.int 2)),.i (.x 10) (.c (.int 3)),.neg (.i (.x 10) (.c (.int 1)))],.x 11]))]
noncomputable def Xn:List S:=
 [.ite (.o false [.m .eq (.x 1) (.x 3),.m .eq (.x 2) (.x 4),.m .ne (.i (.a (.x 0) 7) (.b .sub (.x 1) (.c (.int 1)))) (.i (.a (.x 0) 8) (.b .sub (.x 2) (.c (.int 1))))])
  [.ret (.c (.bool false))]
  [],
  .ret (.m .le (.bi .len [.i (.x 5) (.i (.a (.x 0) 7) (.b .sub (.x 1) (.c (.int 1))))]) (.x 6))]
noncomputable def Xo:List S:=
 [.s (.v 3) (.lst true [.x 1]),
  .whl (.m .ne (.x 3) (.lst false []))
  [.s (.vs [4,5,6,7]) (.h (.x 0) 26 [.bm (.x 3) .pop []]),
   .ite (.o false [.m .eq (.x 4) (.x 5),.m .eq (.x 6) (.x 7)])
   [.ex (.h (.x 0) 27 [.tup [.x 4,.x 5,.x 6,.x 7]])]
   [.s (.vs [8,9]) (.h (.x 0) 33 [.tup [.x 4,.x 5,.x 6,.x 7],.x 2]),
    .ite (.m .isnot (.x 8) (.c .none))
    [.s (.vs [10,11,12]) (.x 8),
     .whl (.o true [.m .gt (.x 10) (.x 4),.m .gt (.x 11) (.x 6),.m .eq (.i (.a (.x 0) 7) (.b .sub (.x 10) (.c (.int 1)))) (.i (.a (.x 0) 8) (.b .sub (.x 11) (.c (.int 1))))])
     [.s (.vs [10,11,12]) (.tup [.b .sub (.x 10) (.c (.int 1)),.b .sub (.x 11) (.c (.int 1)),.b .add (.x 12) (.c (.int 1))])],
     .ex (.bm (.x 3) .append [.tup [.x 4,.x 10,.x 6,.x 11]]),
     .ex (.bm (.x 3) .append [.tup [.b .add (.x 10) (.x 12),.x 5,.b .add (.x 11) (.x 12),.x 7]])]
    [.ite (.x 9)
     [.ex (.h (.x 0) 30 [.tup [.x 4,.x 5,.x 6,.x 7]])]
     [.ex (.h (.x 0) 27 [.tup [.x 4,.x 5,.x 6,.x 7]])]]]]]
noncomputable def Xp:List S:=
 [.s (.a (.x 0) 11) (.x 1),
  .s (.a (.x 0) 12) (.x 3),
  .s (.a (.x 0) 13) (.lst true [.c (.int 0)]),
  .for (.v 4) (.seq (.x 2))
  [.ite (.x 4)
   [.aug (.i (.a (.x 0) 13) (.neg (.c (.int 1)))) .add (.c (.int 1))]
   [.ex (.bm (.a (.x 0) 13) .append [.c (.int 0)])]]]
noncomputable def Xq:List S:=
 [.ret (.b .add (.x 1) (.bi .sum [.l (.a (.x 0) 13) (.c .none) (.x 1)]))]
noncomputable def Xr:List S:=
 [.s (.v 2) (.h (.x 0) 36 [.x 1]),
  .ret (.o true [.m .gt (.x 1) (.c (.int 0)),.m .eq (.i (.a (.x 0) 11) (.b .sub (.x 2) (.c (.int 1)))) (.i (.a (.x 0) 11) (.b .sub (.b .add (.x 2) (.i (.a (.x 0) 13) (.x 1))) (.c (.int 1))))])]
noncomputable def Xs:List S:=
 [.s (.v 2) (.h (.x 0) 36 [.x 1]),
  .ret (.o true [.m .lt (.b .add (.x 1) (.c (.int 1))) (.bi .len [.a (.x 0) 13]),.m .eq (.i (.a (.x 0) 11) (.x 2)) (.i (.a (.x 0) 11) (.b .add (.x 2) (.i (.a (.x 0) 13) (.x 1))))])]
noncomputable def Xu:List S:=
 [.aug (.i (.a (.x 0) 13) (.x 2)) .add (.i (.a (.x 0) 13) (.x 1)),
  .s (.i (.a (.x 0) 13) (.x 1)) (.c (.int 0)),
  .ret (.x 2)]
noncomputable def Xv:List S:=
 [.s (.v 2) (.i (.a (.x 0) 12) (.b .sub (.b .add (.h (.x 0) 36 [.x 1]) (.i (.a (.x 0) 13) (.x 1))) (.c (.int 1)))),
  .ret (.o true [.bi .isB [.x 2],.m .eq (.bm (.x 2) .strip [.g 0]) (.c (.bytes []))])]
noncomputable def Xw:List S:=
 [.s (.v 1) (.lst false []),
  .for (.tup [2,3]) (.enum (.a (.x 0) 13))
  [.s (.v 1) (.b .add (.b .add (.x 1) (.rep false [.c (.bool true)] (.x 3))) (.rep false [.c (.bool false)] (.bi .int [.m .lt (.b .add (.x 2) (.c (.int 1))) (.bi .len [.a (.x 0) 13])])))],
  .ret (.x 1)]
noncomputable def Xx:List S:=
 [.s (.vs [3,4,5]) (.tup [.c (.int 0),.x 1,.neg (.c (.int 1))]),
  .whl (.m .ne (.x 3) (.i (.a (.x 0) 13) (.x 1)))
  [.s (.v 3) (.i (.a (.x 0) 13) (.x 1)),
   .whl (.h (.x 0) 37 [.x 1])
   [.s (.v 1) (.h (.x 0) 39 [.x 1,.b .sub (.x 1) (.c (.int 1))])],
   .s (.v 4) (.x 1),
   .s (.v 5) (.ite (.m .gt (.i (.a (.x 2) 13) (.x 1)) (.c (.int 0))) (.x 1) (.neg (.c (.int 1)))),
   .whl (.h (.x 0) 38 [.x 1])
   [.s (.v 1) (.h (.x 0) 39 [.x 1,.b .add (.x 1) (.c (.int 1))]),
    .ite (.m .gt (.i (.a (.x 2) 13) (.x 1)) (.c (.int 0)))
    [.s (.v 5) (.x 1)]
    []]],
  .ite (.m .ge (.x 5) (.c (.int 0)))
  [.whl (.m .gt (.x 1) (.x 5))
   [.s (.v 1) (.h (.x 0) 39 [.x 1,.b .sub (.x 1) (.c (.int 1))])],
   .ret (.x 1)]
  [],
  .s (.v 6) (.x 1),
  .whl (.o true [.m .gt (.x 1) (.x 4),.not (.h (.x 0) 40 [.x 1])])
  [.s (.v 1) (.h (.x 0) 39 [.x 1,.b .sub (.x 1) (.c (.int 1))])],
  .ite (.not (.h (.x 0) 40 [.x 1]))
  [.whl (.m .lt (.x 1) (.x 6))
   [.s (.v 1) (.h (.x 0) 39 [.x 1,.b .add (.x 1) (.c (.int 1))])]]
  [],
  .ret (.x 1)]
noncomputable def Xy:List S:=
 [.s (.v 2) (.c (.int 0)),
  .whl (.m .lt (.x 2) (.bi .len [.a (.x 0) 13]))
  [.ite (.m .gt (.i (.a (.x 0) 13) (.x 2)) (.c (.int 0)))
   [.s (.v 2) (.h (.x 0) 42 [.x 2,.x 1])]
   [],
   .aug (.v 2) .add (.c (.int 1))]]
noncomputable def Xz:List S:=
 [.s (.a (.x 0) 14) (.x 1),
  .s (.a (.x 0) 15) (.x 2),
  .s (.a (.x 0) 16) (.x 3),
  .s (.a (.x 0) 17) (.x 4),
  .s (.a (.x 0) 18) (.x 5),
  .s (.a (.x 0) 19) (.x 6)]
noncomputable def XB:List Fn:=[⟨1,3,[],b0⟩,
 ⟨2,0,[],b1⟩,
 ⟨1,8,[],b2⟩,
 ⟨2,1,[],b3⟩,
 ⟨2,1,[],b4⟩,
 ⟨3,1,[.int 64],b5⟩,
 ⟨3,0,[],b6⟩,
 ⟨2,0,[],b7⟩,
 ⟨3,4,[],b8⟩,
 ⟨2,2,[],b9⟩,
 ⟨4,9,[],WM⟩,
 ⟨5,4,[],WN⟩,
 ⟨1,0,[],WO⟩,
 ⟨1,0,[],WQ⟩,
 ⟨2,4,[],WR⟩,
 ⟨2,5,[],WT⟩,
 ⟨3,5,[],WU⟩,
 ⟨1,0,[],WV⟩,
 ⟨1,0,[],WW⟩,
 ⟨3,6,[],WX⟩,
 ⟨1,0,[],WY⟩,
 ⟨1,3,[],WZ⟩,
 ⟨7,5,[],W0⟩,
 ⟨5,11,[],W3⟩,
 ⟨3,7,[],W4⟩,
 ⟨1,9,[],W5⟩,
 ⟨5,0,[],W6⟩,
 ⟨1,0,[],W7⟩,
 ⟨1,0,[],W8⟩,
 ⟨1,0,[],W9⟩,
 ⟨1,0,[],Xa⟩,
 ⟨2,1,[],Xb⟩,
 ⟨2,0,[],Xc⟩,
 ⟨3,1,[],Xd⟩,
 ⟨1,0,[],Xe⟩,
 ⟨2,4,[],Xf⟩,
 ⟨2,5,[],Xg⟩,
 ⟨1,5,[],Xh⟩,
 ⟨2,12,[],Xi⟩,
 ⟨2,7,[],Xj⟩,
 ⟨2,8,[],Xk⟩,
 ⟨2,8,[],Xl⟩,
 ⟨3,14,[],Xm⟩,
 ⟨7,0,[],Xn⟩,
 ⟨3,10,[],Xo⟩,
 ⟨4,1,[],Xp⟩,
 ⟨2,0,[],Xq⟩,
 ⟨2,1,[],Xr⟩,
 ⟨2,1,[],Xs⟩,
 ⟨3,0,[],Xu⟩,
 ⟨2,1,[],Xv⟩,
 ⟨1,3,[],Xw⟩,
 ⟨3,4,[],Xx⟩,
 ⟨2,1,[],Xy⟩,
 ⟨7,0,[],Xz⟩]
noncomputable def pF(f:Nat):Fn:=cS XB f ⟨0,0,[],[.stop]⟩
noncomputable def pV(f:Nat):List Str:=cS WJ f []
end
section
open PySem PySem.W PyProof.Rows
def Ks:List bG->List DictEntry->Prop
 |[],es=>es=[]
 |k::r,es=>∃e es' t,es=e::es'/\e.key=.str (an k) t/\Ks r es'
mutual
def VR(fz:aq->Prop)(h:Heap):V->ag->Prop
 |.none,x=>x=.none
 |.bool b,x=>x=.bool b
 |.int i,x=>∃t,x=.int i t
 |.str b,x=>∃t,x=.str b t
 |.bytes b,x=>∃t,x=.bytes b.toArray t/\b.length<=aJ
 |.tup l,x=>∃a vs,x=.ref a/\fz a/\IsTup h a vs.toArray/\l.length<=aJ/\aN fz h l vs
 |.list l,x=>∃a vs,x=.ref a/\fz a/\h.PlainList a vs.toArray/\l.length<=aJ/\aN fz h l vs
 |.inst c d,x=>∃a,x=.ref a/\fz a/\h.get? a=some (instObj (ca c) d)
 |.obj c fs,x=>∃a d es n,x=.ref a/\fz a/\fz d/\h.get? a=some (instObj (ca c) d)/\h.get? d=some (mF es n)/\Ks (dH c) es/\aN fz h fs (es.map (·.val))
 |.ref a,x=>x=.ref a
def aN(fz:aq->Prop)(h:Heap):List V->List ag->Prop
 |[],xs=>xs=[]
 |v::l,xs=>∃y ys,xs=y::ys/\VR fz h v y/\aN fz h l ys
end
abbrev Kp(fz:aq->Prop)(h:Heap)(fz':aq->Prop)(h':Heap):Prop:=∀a o,fz a->h.get? a=some o->fz' a/\h'.get? a=some o
section
variable{fz fz':aq->Prop}{h h':Heap}
theorem mR(k:Kp fz h fz' h'){a:aq}{vs:Array ag}(f:fz a)(t:IsTup h a vs):fz' a/\IsTup h' a vs:=
 let ⟨o,ho,r⟩:=t;⟨(k a o f ho).1,o,(k a o f ho).2,r⟩
theorem iL(k:Kp fz h fz' h'){a:aq}{vs:Array ag}(f:fz a)(t:h.PlainList a vs):fz' a/\h'.PlainList a vs:=
 let ⟨n,ho⟩:=t;⟨(k a _ f ho).1,n,(k a _ f ho).2⟩
theorem VR.mono2(k:Kp fz h fz' h'):(∀v x,VR fz h v x->VR fz' h' v x)/\∀l xs,aN fz h l xs->aN fz' h' l xs:=
 let nil:∀xs,aN fz h [] xs->aN fz' h' [] xs:=λ_ e=>e
 let cons:∀(v:V)(l:List V),(∀x,VR fz h v x->VR fz' h' v x)->(∀xs,aN fz h l xs->aN fz' h' l xs)->∀xs,aN fz h (v::l) xs->aN fz' h' (v::l) xs:=
  λ_ _ i j _ z_=>cp z_ λy ys e r rs=>⟨y,ys,e,i _ r,j _ rs⟩
 have key:∀v:V,∀x,VR fz h v x->VR fz' h' v x:=λv=>
  V.rec (motive_1:=λv=>∀x,VR fz h v x->VR fz' h' v x) (motive_2:=λl=>∀xs,aN fz h l xs->aN fz' h' l xs)
   (λ_ e=>e) (λ_ _ e=>e) (λ_ _ e=>e) (λ_ _ e=>e) (λ_ _ e=>e)
   (λ_ i _ z_=>o8 z_ λa vs e f t z r=>⟨a,vs,e,(mR k f t).1,(mR k f t).2,z,i _ r⟩)
   (λ_ i _ z_=>o8 z_ λa vs e f t z r=>⟨a,vs,e,(iL k f t).1,(iL k f t).2,z,i _ r⟩)
   (λ_ _ _ z_=>cm z_ λa e f t=>⟨a,e,(k _ _ f t).1,(k _ _ f t).2⟩)
   (λ_ _ i _ z_=>XU z_ λa d es n e f g t u ks r=>⟨a,d,es,n,e,(k _ _ f t).1,(k _ _ g u).1,(k _ _ f t).2,(k _ _ g u).2,ks,i _ r⟩)
   (λ_ _ e=>e) nil cons v
 ⟨key,λl=>Ej (motive:=λl=>∀xs,aN fz h l xs->aN fz' h' l xs) nil (λv l i=>cons v l (key v) i) l⟩
theorem VR.mono(k:Kp fz h fz' h'){v:V}{x:ag}(r:VR fz h v x):VR fz' h' v x:=(VR.mono2 k).1 v x r
theorem aN.mono(k:Kp fz h fz' h'){v:List V}{x:List ag}(r:aN fz h v x):aN fz' h' v x:=(VR.mono2 k).2 v x r
theorem aN.length:∀{l:List V}{xs:List ag},aN fz h l xs->xs.length=l.length
 :=λ{l}=>@(li (λ{_}e=>congrArg rQ e) (λ_ _ ih{_}r=>cp r λ_ _ e _ r=>(congrArg rQ e).trans (congrArg (·+1) (ih r))) l)
theorem aN.append:∀{l l':List V}{xs xs':List ag},aN fz h l xs->aN fz h l' xs'->aN fz h (l++l') (xs++xs')
 :=λ{l}=>@(li (λ{_ _ _}e r'=>e▸r') (λ_ _ ih{_ _ xs'}r r'=>cp r λy ys e a r=>⟨y,ys++xs',e▸rfl,a,ih r r'⟩) l)
theorem aN.one{v:V}{x:ag}(r:VR fz h v x):aN fz h [v] [x]:=⟨x,[],rfl,r,rfl⟩
theorem aN.get{v:V}:∀{l:List V}{xs:List ag}{i:Nat},aN fz h l xs->l[i]?=some v->∃x,xs[i]?=some x/\VR fz h v x
 :=λ{l}=>@(li (λ{_ _}_ e=>nn e) (λ_ _ ih{_ i}r=>cp r λy ys e a r=>nz (λq=>⟨y,e▸rfl,di q▸a⟩) (λi q=>ar (ih (i:=i) r q) λx p a=>⟨x,e▸p,a⟩) i) l)
theorem aN.take:∀{l:List V}{xs:List ag}(n:Nat),aN fz h l xs->aN fz h (l.take n) (xs.take n)
 :=λ{l}=>@(li (λ{_}n e=>(by rw[ya,show _ = [] from e,ya];rfl)) (λ_ _ ih{_}n r=>nz rfl (λn=>cp r λy ys e a r=>⟨y,ys.take n,e▸rfl,a,ih n r⟩) n) l)
theorem aN.drop:∀{l:List V}{xs:List ag}(n:Nat),aN fz h l xs->aN fz h (l.drop n) (xs.drop n)
 :=λ{l}=>@(li (λ{_}n e=>(by rw[uy,show _ = [] from e,uy];rfl)) (λ_ _ ih{_}n r=>nz r (λn=>cp r λy ys e a r=>e▸ih n r) n) l)
theorem aN.part{l:List V}{xs:List ag}(i j:Nat)(r:aN fz h l xs):aN fz h (Internal.aH l i j) (Internal.aH xs i j):=(r.take j).drop i
theorem aN.reverse:∀{l:List V}{xs:List ag},aN fz h l xs->aN fz h l.reverse xs.reverse
 :=λ{l}=>@(li (λ{_}e=>e▸rfl) (λv l ih{_}r=>cp r λy ys e a r=>by rw[e,rG,rG];exact(ih r).append (.one a)) l)
theorem aN.set{v:V}{x:ag}(q:VR fz h v x):∀{l:List V}{xs:List ag}(i:Nat),aN fz h l xs->aN fz h (l.set i v) (xs.set i x)
 :=λ{l}=>@(li (λ{_}_ e=>e▸rfl) (λ_ _ ih{_}i r=>cp r λy ys e a r=>nz ⟨x,ys,e▸rfl,q,r⟩ (λi=>⟨y,ys.set i x,e▸rfl,a,ih i r⟩) i) l)
theorem aN.replicate{l:List V}{xs:List ag}(r:aN fz h l xs):∀n:Nat,aN fz h (aR n l).flatten (aR n xs).flatten
 |0=>rfl
 |n+1=>aN.append r (r.replicate n)
end
structure Cx where
 w:iA
 h:Heap
 mg:Str->Option ag
 mb:Str->Option ag
 K:Frag
end
section
open PySem PySem.W PyProof.Rows
noncomputable abbrev cz:Program:=fu
abbrev aw:ag->aB->Prop:=λ_ _=>False
def tR(c:Cx):Prop:=∀(s:aB)(l:aq)(ns:List Int)(vs:List ag),s.heap=c.h->ns.length<=63->c.h.PlainList l vs.toArray->IntsAre vs ns ->
 codeAny (model cz c.w) callerA (.call (.ref (fa 25)) ⟨[.ref l],[]⟩) (wants (λv s'=>v=.bool true/\(∀a o,c.h.get? a=some o->s'.heap.get? a=some o)/\s'.gens=s.gens/\s'.os=s.os) aw) s
noncomputable def nf(sc:Scope):List Str:=(sc.names.filter λp=>p.2==.globalImplicit||p.2==.cell).map (·.1)
noncomputable def Bm(sc:Scope)(vn:List Str):Bool:=
 sc.kind==.function&&!sc.isGenerator&&!sc.isCoroutine&&vn.all (λx=>(sc.names.lookup x==some .local||sc.names.lookup x==some .cell)&&x != ("__debug__":Str)&&x != ("__classdict__":Str))&&gX vn &&
 (nf sc).all (λx=>match vn.contains x with
  |true=>sc.names.lookup x==some .cell
  |false=>sc.names.lookup x==some .globalImplicit&&x != ("__debug__":Str)&&x != ("__name__":Str)&&x != ("super":Str))
noncomputable def sx:cf:=.Pass default
structure Iq(K:Frag)(f:Nat)(o:Obj)(fd:FuncData)(l:List cf)(D:List ag):Prop where
 get:K.lookup (fa f)=some o
 data:o.data=.func fd
 body:fd.body=.stmts l
 tree:mY (pV f) sx (pF f).body l=l
 ok:mV (nf fd.scope) (pV f) sx (pF f).body l=true
 sc:Bm fd.scope (pV f)=true
 glob:fd.globals=mainGlobals
 blt:fd.builtins=builtinsNs
 clo:fd.closure=[]
 code:codeIn K fd.code fd.qualname=true
 p1:fd.params.posonlyargs=[]
 p2:fd.params.kwonlyargs=[]
 p3:fd.params.vararg=none
 p4:fd.params.kwarg=none
 p5:fd.params.args.map (·.arg)=(pV f).take (pF f).par
 len:(pV f).length=(pF f).par+(pF f).loc
 dfl:(fd.defaults=.none/\D=[])\/∃T oT n,fd.defaults=.ref T/\K.lookup T=some oT/\oT.data=.seq D.toArray n
 dn:D.length<=(pF f).par
 dv:(D.length<=1/\∀fz h,aN fz h (pF f).dfl D)\/(pF f).dfl=[]
def Ir(K:Frag)(f:Nat):Prop:=∃o fd l D,Iq K f o fd l D
structure Aq(K:Frag)(c:Nat):Prop where
 get:plainGet K (ca c) ""=true
 has:hasDictIn K (ca c)=true
 over:plainOver K (ca c)=true
 setA:findIn K (.ref (ca c)) "__setattr__"=some (some (.builtin "object.__setattr__"))
 fld:∀a,(dH c).contains a=true->findIn K (.ref (ca c)) (an a)=some none
 inj:∀a b,(dH c).contains a=true->(dH c).contains b=true->an a=an b->a=b
 mth:∀m f,lR c m=some f->findIn K (.ref (ca c)) (an m)=some (some (.ref (fa f)))/\isFn K (.ref (fa f))=true/\∀a,(dH c).contains a=true->an a≠an m
 made:makesIn K (ca c)=true
 init:findIn K (.ref (ca c)) "__init__"=some (some (.ref (fa (initF c))))
 initF:isFn K (.ref (fa (initF c)))=true
 keep:keepIn K (.ref (ca c))=true
 small:(dH c).length<=100
structure bF(c:Cx):Prop where
 X:c.K.In c.h
 big:c.h.get? sysModules≠none
 fn:∀f<26,nsIn c.K mainGlobals (cS wO f "")=some (some (.ref (fa f)))/\keepIn c.K (.ref (fa f))=true
 mth:∀k m f,lR k m=some f->keepIn c.K (.ref (fa f))=true
 cn:∀k<5,nsIn c.K mainGlobals (cS tK k "")=some (some (.ref (ca k)))/\Aq c.K k
 cno:∀k,¬k<5->dH k=[]/\∀m,lR k m=none
 gn:∀g<4,∃b t,qA g=some (.bytes b)/\b.length<=aJ/\nsIn c.K mainGlobals (cS qM g "")=some (some (.bytes b.toArray t))
 bn:∀x∈(["len","isinstance","int","max","min","sum","bytes","str","range","enumerate","zip"]:List Str),nsIn c.K mainGlobals x=some none/\x≠"__name__"
 g:c.h.Ns mainGlobals c.mg
 b:c.h.Ns builtinsNs c.mb
 nolimit:c.h.NoLimit
 boot:∀x:Str,x≠"__name__"->c.mb x=bootBuiltins x
 fns:∀f,Ir c.K f\/(pF f).body=[.stop]
set_option tactic.hygienic true in
theorem HT:Nonempty Cx:=⟨⟨aWorld 0,{},λ_=>none,λ_=>none,[]⟩⟩
noncomputable def cx:Cx:=@Classical.epsilon Cx HT λc=>bF c/\¬tR c
theorem TP(h:bF cx->tR cx)(c:Cx)(p:bF c):tR c:=
 pd λn=>have q:=@Classical.epsilon_spec_aux Cx HT (λc=>bF c/\¬tR c) ⟨c,p,n⟩;q.2 (h q.1)
noncomputable abbrev w:iA:=cx.w
noncomputable abbrev h₀:Heap:=cx.h
noncomputable abbrev K₀:Frag:=cx.K
noncomputable abbrev Md:Model:=model cz w
abbrev BB:=Bool ⊕ List UInt8
end
section
open PySem PySem.W PyProof.Rows PySem.SeqAt
theorem yq{A:bD}{s:aB}(b c:List UInt8)(t u:Tok):EqAt A s (.bytes b.toArray t) (.bytes c.toArray u) (b==c):=λcz w E Q hq=>eqBool_bytes (by
 rw[show decide (b.toArray.toList=c.toArray.toList)=(b==c) from by by_cases h:b=c<;>simp[h]];exact hq)
theorem CK(a:Bool)(b:Array UInt8)(u:Tok):Gives (Builtin.«int.__eq__» ⟨[.bool a,.bytes b u],[]⟩) (.val (Kf)):=
 .of_wp λM A E s Q h=>by obtain⟨hp,g,d,tk,os⟩:=s;wp_walk;exact⟨_,rfl,h⟩
theorem Cq:isSubtype (.type "bool") (.type "bytes")=pure false:=by rw[pG];kernel_rfl
theorem Cz(b:Array UInt8)(u:Tok)(a:Bool):Gives (Builtin.«bytes.__eq__» ⟨[.bytes b u,.bool a],[]⟩) (.val (Kf)):=
 .of_wp λM A E s Q h=>by
  have f:=Cq;obtain⟨hp,g,d,tk,os⟩:=s;wp_walk;exact⟨_,rfl,h⟩
theorem BU:Slot "bytes" (cmpInfo .Eq).2.2 "bytes.__eq__":=B6
theorem B2:Slot "bool" (cmpInfo .Eq).2.2 "int.__eq__":=BH
theorem Lw:isSubtype (.type "bytes") (.type "bool")=pure false:=by rw[pG];kernel_rfl
section
variable{s:aB}{A:bD}
theorem LL(a:Bool)(b:Array UInt8)(u:Tok):RcAt A s (.bool a) (.bytes b u) false:=λcz w E Q h=>
 K3 (k:=false) rfl (rB s b u) (by decide) Lw BH BU
  (λ_ hq=>rV BH rfl Ke (JW _ _) (CK a b u) hq)
  (λ_ hq=>rV BU (rB s b u) KC (Kq _ _) (Cz b u a) hq)
  (λ_ hq=>gb (rfl:isSame (.bool a) (.bytes b u)=pure false) hq) (.inl rfl) h
theorem Li(a:Bool)(b:Array UInt8)(u:Tok):EqAt A s (.bool a) (.bytes b u) false:=λcz w E Q h=>by
 unfold eqBool;refine ig ?_;refine Ll (λhab=>absurd (eq_of_beq hab) nofun) (λ_=>?_);exact aG (LL a b u cz w E _ (B4 h))
theorem LM(a:Bool)(b:Array UInt8)(u:Tok):RcAt A s (.bytes b u) (.bool a) false:=λcz w E Q h=>
 K3 (k:=false) (rB s b u) rfl (by decide) Cq B6 B2
  (λ_ hq=>rV B6 (rB s b u) KC (Kq _ _) (Cz b u a) hq)
  (λ_ hq=>rV B2 rfl Ke (JW _ _) (CK a b u) hq)
  (λ_ hq=>gb (rfl:isSame (.bytes b u) (.bool a)=pure false) hq) (.inl rfl) h
theorem Lj(a:Bool)(b:Array UInt8)(u:Tok):EqAt A s (.bytes b u) (.bool a) false:=λcz w E Q h=>by
 unfold eqBool;refine ig ?_;refine Ll (λhab=>absurd (eq_of_beq hab) nofun) (λ_=>?_);exact aG (LM a b u cz w E _ (B4 h))
end
noncomputable def wH(k:BB)(v:ag):Bool:=match k with
 |.inl b=>match v with
  |.bool c=>b==c
  |_=>false
 |.inr l=>match v with
  |.bytes c _=>c.toList==l
  |_=>false
theorem nQ{k:BB}{v:ag}(h:wH k v=true):(∃b,k=.inl b/\v=.bool b)\/∃l t,k=.inr l/\v=.bytes l.toArray t:=by
 cases k with
 |inl b=>cases v<;>first|exact bn h|exact .inl ⟨_,congrArg Fo (eq_of_beq h),rfl⟩
 |inr l=>cases v<;>first|exact bn h|exact .inr ⟨_,_,congrArg zp (eq_of_beq h).symm,rfl⟩
noncomputable def kz:KeyKind cz w BB where
 is:=wH
 hash
  |.inl b=>if b then 1 else 0
  |.inr l=>hashW w.params (.bytes l)
 inj v a b ha hb:=by
  rcases nQ ha with⟨x,rfl,rfl⟩|⟨l,t,rfl,rfl⟩<;>rcases nQ hb with⟨y,rfl,e⟩|⟨m,u,rfl,e⟩
  ·injection e with e;exact congrArg Fo e
  ·cases e
  ·cases e
  ·injection e with e;exact congrArg (λa=>zp a.toList) e
 byValue k v h:=by rcases nQ h with⟨x,rfl,rfl⟩|⟨l,t,rfl,rfl⟩<;>rfl
 pyHash:=λ{A E s k v Q}hv h=>by
  rcases nQ hv with⟨b,rfl,rfl⟩|⟨l,t,rfl,rfl⟩
  ·refine pyHash_slot (T:="bool") rfl PySem.F.slot_bool_hash entry_int_hash (args_int_hash _) (beq_builtin_none _) (.inl rfl) ?_
   cases b
   ·exact(show wpAny _ _ (do ret (<-mkInt 0)) _ _ s from aG (rT (a9 ⟨_,_,rfl,h⟩)))
   ·exact(show wpAny _ _ (do ret (<-mkInt 1)) _ _ s from aG (rT (a9 ⟨_,_,rfl,h⟩)))
  ·exact(bytesKind cz w).pyHash (k:=l) (by simp[bytesKind,isBytes]) h
 eqBool:=λ{A E s a b u v Q}hu hv h=>by
  rcases nQ hu with⟨x,rfl,rfl⟩|⟨l,t,rfl,rfl⟩<;>rcases nQ hv with⟨y,rfl,rfl⟩|⟨m,t',rfl,rfl⟩
  ·exact EqAt.bool_bool x y cz w _ _ (by rw[show(x==y)=decide ((Fo x:BB)=.inl y) from by cases x<;>cases y<;>rfl];exact h)
  ·exact Li x _ _ cz w _ _ (by simpa using h)
  ·exact Lj y _ _ cz w _ _ (by simpa using h)
  ·have z:(l==m)=decide ((zp l:BB)=.inr m):=by
    by_cases e:l=m
    ·rw[e,decide_eq_true (p:=(zp m:BB)=.inr m) rfl];exact beq_self_eq_true m
    ·rw[decide_eq_false (λz=>e (Mm z))];exact beq_false_of_ne e
   exact yq l m _ _ cz w _ _ (by rw[z];exact h)
 «strs» k x t v h:=by rcases nQ h with⟨b,rfl,e⟩|⟨l,t',rfl,e⟩<;>cases e
theorem Ra(b:Bool):kz.is (.inl b) (.bool b)=true:=by simp[kz,wH]
theorem OY(l:List UInt8)(t:Tok):kz.is (.inr l) (.bytes l.toArray t)=true:=by simp[kz,wH]
end
section
open PySem PySem.W PyProof.Rows
def Fz(Z:ae)(B:aq->Prop)(a:aq):Prop:=Z a=none/\¬B a
def OR(fz:aq->Prop)(h:Heap)(o:Option V)(x:Option ag):Prop:=match o with
 |some v=>∃y,x=some y/\VR fz h v y
 |none=>x=none
def MR(fz:aq->Prop)(h:Heap)(a:aq)(m:M):Prop:=match m with
 |.list l=>∃vs,h.PlainList a vs.toArray/\l.length<=aJ/\aN fz h l vs
 |.attrs c fs=>∃es n,h.get? a=some (mF es n)/\Ks (fs.map (·.1)) es/\aN fz h (fs.map (·.2)) (es.map (·.val))/\∀p∈fs,(dH c).contains p.1=true
 |.dI n f=>∃kvs,h.DictOf (intKind cz w) a kvs/\kvs.length<=n/\∀k,OR fz h (f k) (valueAt kvs k)
 |.dS n f=>∃kvs,h.DictOf (strKind cz w) a kvs/\kvs.length<=n/\∀k,OR fz h (f k) (valueAt kvs k)
 |.dB n f=>∃xs,h.DictOfH (tupleKind kz) a xs/\xs.length<=n/\(∀x∈xs,fz x.2.1)/\∀k,OR fz h (f k) ((atKey xs [.inl false,.inr k]).map (·.2))
abbrev bI(h h':Heap):Prop:=∀a o,h.get? a=some o->h'.get? a=some o
section
variable{fz fz':aq->Prop}{h h' h'':Heap}{B own:aq->Prop}{Z Z' Z'':ae}{s s' s'':aB}
theorem OR.mono(k:Kp fz h fz' h'){v:Option V}{x:Option ag}(r:OR fz h v x):OR fz' h' v x:=by
 cases v with
 |none=>exact r
 |some v=>obtain⟨y,e,r⟩:=r;exact⟨y,e,r.mono k⟩
theorem Ez(k:Kp fz h fz' h'){a:aq}{xs:List (List BB×aq×ag)}(ha:∀o,h.get? a=some o->h'.get? a=some o)(hz:∀x∈xs,fz x.2.1)(r:h.DictOfH (tupleKind kz) a xs):h'.DictOfH (tupleKind kz) a xs/\∀x∈xs,fz' x.2.1:=by
 refine xu r λo es ep ho q1 q2 q3 q4 q5=>?_;refine⟨⟨o,es,ep,ha _ ho,q1,q2,q3,λx hx=>?_,q5⟩,λx hx=>?_⟩
 ·refine q8 (q4 x hx) λo' items n ho' rest=>?_;exact⟨o',items,n,(k _ _ (hz x hx) ho').2,rest⟩
 ·refine q8 (q4 x hx) λo' items n ho' rest=>?_;exact(k _ _ (hz x hx) ho').1
theorem FI{K:Type}[DecidableEq K]{knd:KeyKind cz w K}{a:aq}{kvs:List (K×ag)}(ha:∀o,h.get? a=some o->h'.get? a=some o)(r:h.DictOf knd a kvs):h'.DictOf knd a kvs:=by
 refine q8 r λo es ep ho q=>?_;exact⟨o,es,ep,ha _ ho,q⟩
theorem MR.mono(k:Kp fz h fz' h'){a:aq}(ha:∀o,h.get? a=some o->h'.get? a=some o){m:M}(r:MR fz h a m):MR fz' h' a m:=by
 cases m with
 |list l=>obtain⟨vs,⟨n,ho⟩,z,r⟩:=r;exact⟨vs,⟨n,ha _ ho⟩,z,r.mono k⟩
 |attrs c fs=>obtain⟨es,n,ho,z,r,q⟩:=r;exact⟨es,n,ha _ ho,z,r.mono k,q⟩
 |dI n f=>obtain⟨kvs,d,z,r⟩:=r;exact⟨kvs,FI ha d,z,λj=>(r j).mono k⟩
 |dS n f=>obtain⟨kvs,d,z,r⟩:=r;exact⟨kvs,FI ha d,z,λj=>(r j).mono k⟩
 |dB n f=>obtain⟨xs,d,z,hz,r⟩:=r;exact⟨xs,(Ez k ha hz d).1,z,(Ez k ha hz d).2,λj=>(r j).mono k⟩
theorem MR.there{a:aq}{m:M}(r:MR fz h a m):∃o,h.get? a=some o:=by
 cases m with
 |list l=>obtain⟨vs,⟨n,ho⟩,r⟩:=r;exact⟨_,ho⟩
 |attrs c fs=>obtain⟨es,n,ho,r⟩:=r;exact⟨_,ho⟩
 |dI n f=>obtain⟨kvs,⟨o,p,q,ho,r⟩,r2⟩:=r;exact⟨o,ho⟩
 |dS n f=>obtain⟨kvs,⟨o,p,q,ho,r⟩,r2⟩:=r;exact⟨o,ho⟩
 |dB n f=>obtain⟨kvs,⟨o,p,q,ho,r⟩,r2⟩:=r;exact⟨o,ho⟩
structure aE(B:aq->Prop)(Z:ae)(h:Heap):Prop where
 base:bI h₀ h
 cells:∀a m,Z a=some m->h₀.get? a=none/\¬B a/\MR (Fz Z B) h a m
 blocked:∀a,B a->h₀.get? a=none/\∃o,h.get? a=some o
structure bK(own:aq->Prop)(Z:ae)(s:aB)(Z':ae)(s':aB):Prop where
 keep:∀a o,s.heap.get? a=some o->Z a=none->¬own a->s'.heap.get? a=some o/\Z' a=none
 there:∀a,own a->(∃o,s.heap.get? a=some o)->(∃o,s'.heap.get? a=some o)/\Z' a=none
 gens:s'.gens=s.gens
 os:s'.os=s.os
abbrev gK:aq->Prop:=λ_=>False
theorem iU{Z:ae}:∀a,gK a->Z a=none:=λ_ q=>q.elim
theorem bI.refl(h:Heap):bI h h:=λ_ _ e=>e
theorem bI.push(h:Heap)(o:Obj):bI h (h.push o):=λ_ _ e=>pq _ e
theorem MF{a:aq}(hl:h.objs.size<=a):h.get? a=none:=by
 cases q:h.get? a with
 |none=>rfl
 |some o=>exact absurd (kj q) (Nat.not_lt_of_le hl)
theorem jT{a b:aq}{o:Obj}(hl:h.objs.size<=a)(e:h.get? b=some o):b≠a:=λq=>by rw[q,MF hl]at e;exact nn e
theorem bK.trans(x:bK own Z s Z' s')(y:bK own Z' s' Z'' s''):bK own Z s Z'' s'':=
 ⟨λa o e z n=>y.keep a o (x.keep a o e z n).1 (x.keep a o e z n).2 n,λa n e=>y.there a n (x.there a n e).1,y.gens.trans x.gens,y.os.trans x.os⟩
theorem bK.of_keeps(hn:∀a,own a->Z a=none)(k:bI s.heap s'.heap)(hg:s'.gens=s.gens)(ho:s'.os=s.os):bK own Z s Z s':=
 ⟨λa o e z _=>⟨k a o e,z⟩,λa ha z_=>bA z_ λo e=>⟨⟨o,k a o e⟩,hn a ha⟩,hg,ho⟩
theorem bK.refl(hn:∀a,own a->Z a=none):bK own Z s Z s:=.of_keeps hn (bI.refl _) rfl rfl
theorem bK.kp(x:bK own Z s Z' s')(hB:∀a,own a->B a):Kp (Fz Z B) s.heap (Fz Z' B) s'.heap:=
 λa o f e=>have q:=x.keep a o e f.1 λq=>f.2 (hB a q);⟨⟨q.2,f.2⟩,q.1⟩
theorem bK.kp0(x:bK gK Z s Z' s'):Kp (Fz Z B) s.heap (Fz Z' B) s'.heap:=x.kp λ_ q=>q.elim
theorem bI.kp{fz:aq->Prop}(k:bI h h'):Kp fz h fz h':=λa o f e=>⟨f,k a o e⟩
theorem bK.own_mono{own':aq->Prop}(x:bK own Z s Z' s')(i:∀a,own a->own' a)(hn:∀a,own' a->Z a=none):bK own' Z s Z' s':=
 ⟨λa o e z n=>x.keep a o e z λq=>n (i a q),λa ha z_=>bA z_ λo e=>(kZ (own a)).elim (λq=>x.there a q ⟨o,e⟩) λq=>have z:=x.keep a o e (hn a ha) q;⟨⟨o,z.1⟩,z.2⟩,x.gens,x.os⟩
theorem aE.none_of_blocked(G:aE B Z h){a:aq}(hb:B a):Z a=none:=by
 cases q:Z a with
 |none=>rfl
 |some m=>exact absurd hb (G.cells a m q).2.1
theorem aE.in_heap(G:aE B Z h){a:aq}{m:M}(e:Z a=some m):∃o,h.get? a=some o:=(G.cells a m e).2.2.there
theorem aE.none_big(G:aE B Z h){a:aq}(ha:h.objs.size<=a):Z a=none:=by
 cases q:Z a with
 |none=>rfl
 |some m=>exact(G.in_heap q).elim λo e=>absurd rfl (jT ha e)
theorem aE.free_big(G:aE B Z h){a:aq}(ha:h.objs.size<=a):¬B a:=λhb=>(G.blocked _ hb).2.elim λo e=>absurd rfl (jT ha e)
theorem aE.new_fz(G:aE B Z h):Fz Z B h.objs.size:=⟨G.none_big (aC _),G.free_big (aC _)⟩
theorem aE.new0(G:aE B Z h){a:aq}(ha:h.objs.size<=a):h₀.get? a=none:=by
 cases q:h₀.get? a with
 |none=>rfl
 |some o=>exact absurd rfl (jT ha (G.base a o q))
theorem Ak{a b:aq}{o:Obj}(hl:h₀.get? a=none)(e:h₀.get? b=some o):b≠a:=λq=>by rw[q,hl]at e;exact nn e
theorem aE.next{B':aq->Prop}(G:aE B Z h)(k:Kp (Fz Z B) h (Fz Z' B') h')(hb:∀a,B' a->h₀.get? a=none/\∃o,h'.get? a=some o)(base:bI h₀ h')
  (hc:∀a m,Z' a=some m->(Z a=some m/\¬B' a/\∀o,h.get? a=some o->h'.get? a=some o)\/(h₀.get? a=none/\¬B' a/\MR (Fz Z' B') h' a m)):aE B' Z' h':=
 ⟨base,λa m e=>(hc a m e).elim (λz_=>g9 z_ λe n q=>have z:=G.cells a m e;⟨z.1,n,z.2.2.mono k q⟩) id,hb⟩
set_option tactic.hygienic true in
theorem aE.keeps(G:aE B Z h)(k:bI h h'):aE B Z h':=
 G.next k.kp (λa hb=>let ⟨p,o,ho⟩:=G.blocked a hb;⟨p,o,k a o ho⟩) (λa o e=>k a o (G.base a o e)) λa m e=>.inl ⟨e,(G.cells a m e).2.1,λo e=>k a o e⟩
theorem i8{a b:aq}{m:M}(n:b≠a):ak Z a m b=Z b:=if_neg n
theorem vf{a:aq}{m:M}:ak Z a m a=some m:=if_pos rfl
theorem vj{a b:aq}{m:M}(e:Z a=some m)(z:Z b=none):b≠a:=λq=>by rw[q,e]at z;cases z
theorem mP{a:aq}{m m':M}(e:Z a=some m)(hs:fK a h h'):Kp (Fz Z B) h (Fz (ak Z a m') B) h':=
 λb o f q=>have n:=vj e f.1;⟨⟨(i8 n).trans f.1,f.2⟩,(hs.2 b n).trans q⟩
theorem aE.mut(G:aE B Z h){a:aq}{m m':M}(e:Z a=some m)(hs:fK a h h')(r:MR (Fz (ak Z a m') B) h' a m'):aE B (ak Z a m') h':=
 have c:=G.cells a m e
 G.next (mP e hs) (λb hb=>let ⟨p,o,ho⟩:=G.blocked b hb;⟨p,o,(hs.2 b λq=>c.2.1 (q▸hb)).trans ho⟩)
  (λb o q=>(hs.2 b (Ak c.1 q)).trans (G.base b o q)) λb mb q=>(kZ (b=a)).elim
   (λz=>.inr (by subst z;rw[vf]at q;(injection q with q;subst q);exact⟨c.1,c.2.1,r⟩)) λz=>.inl (by rw[i8 z]at q;exact⟨q,(G.cells b mb q).2.1,λo e=>(hs.2 b z).trans e⟩)
theorem bK.mut{a:aq}{m m':M}(e:Z a=some m)(hn:∀b,own b->Z b=none)(hs:fK a s.heap s'.heap)(hg:s'.gens=s.gens)(ho:s'.os=s.os):bK own Z s (ak Z a m') s':=
 ⟨λb o q z _=>have n:=vj e z;⟨(hs.2 b n).trans q,(i8 n).trans z⟩,λb hb z_=>bA z_ λo q=>have n:=vj e (hn b hb);⟨⟨o,(hs.2 b n).trans q⟩,(i8 n).trans (hn b hb)⟩,hg,ho⟩
theorem En{a:aq}{m:M}(k:bI h h')(hge:h.objs.size<=a):Kp (Fz Z B) h (Fz (ak Z a m) B) h':=
 λb o f q=>⟨⟨(i8 (jT hge q)).trans f.1,f.2⟩,k b o q⟩
theorem aE.alloc(G:aE B Z h){a:aq}{m:M}(k:bI h h')(hge:h.objs.size<=a)(r:MR (Fz (ak Z a m) B) h' a m):aE B (ak Z a m) h':=
 G.next (En k hge) (λb hb=>let ⟨p,o,ho⟩:=G.blocked b hb;⟨p,o,k b o ho⟩) (λb o q=>k b o (G.base b o q)) λb mb q=>(kZ (b=a)).elim
   (λz=>.inr (by subst z;rw[vf]at q;(injection q with q;subst q);exact⟨G.new0 hge,G.free_big hge,r⟩)) λz=>.inl (by rw[i8 z]at q;exact⟨q,(G.cells b mb q).2.1,λo e=>k b o e⟩)
theorem bK.alloc{a:aq}{m:M}(hge:s.heap.objs.size<=a)(hn:∀b,own b->Z b=none)(k:bI s.heap s'.heap)(hg:s'.gens=s.gens)(ho:s'.os=s.os):bK own Z s (ak Z a m) s':=
 ⟨λb o q z _=>⟨k b o q,(i8 (jT hge q)).trans z⟩,λb hb z_=>bA z_ λo q=>⟨⟨o,k b o q⟩,(i8 (jT hge q)).trans (hn b hb)⟩,hg,ho⟩
theorem Sub.none(hsub:Sub Z' Z){a:aq}(z:Z a=none):Z' a=none:=by
 cases q:Z' a with
 |none=>rfl
 |some m=>rw[hsub a m q]at z;exact sn z
theorem lI(hsub:Sub Z' Z):Kp (Fz Z B) h (Fz Z' B) h:=λa o f e=>⟨⟨hsub.none f.1,f.2⟩,e⟩
theorem aE.sub(G:aE B Z h)(hsub:Sub Z' Z):aE B Z' h:=
 G.next (lI hsub) G.blocked G.base λa m e=>.inl ⟨hsub a m e,(G.cells a m (hsub a m e)).2.1,λ_ e=>e⟩
theorem bK.sub(hsub:Sub Z' Z)(hn:∀a,own a->Z a=none):bK own Z s Z' s:=
 ⟨λa o e z _=>⟨e,hsub.none z⟩,λa ha e=>⟨e,hsub.none (hn a ha)⟩,rfl,rfl⟩
theorem Sub.refl(Z:ae):Sub Z Z:=λ_ _ e=>e
theorem Sub.trans{a b c:ae}(x:Sub a b)(y:Sub b c):Sub a c:=λi m e=>y i m (x i m e)
end
end
section
open PySem PySem.W PyProof.Rows
structure eH(env:Env)(gl vn:List Str)(B:aq->Prop):Prop where
 kind:env.scope.kind=.function
 glob:env.globals=mainGlobals
 blt:env.builtins=builtinsNs
 gls:∀x,gv gl vn x=true->env.kindOf x=some .globalImplicit
 caps:∀x,gl.contains x=true->vn.contains x=true->env.kindOf x=some .cell\/env.kindOf x=some .free
 locB:B env.locals
 nodup:gX vn=true
 cellB:∀x c,env.cells.lookup x=some c->B c/\c≠env.locals
 cellI:∀x y c,env.cells.lookup x=some c->env.cells.lookup y=some c->x=y
 names:∀x,vn.contains x=true->(x==("__debug__":Str))=false/\(x==("__classdict__":Str))=false
 gnames:∀x,gv gl vn x=true->(x==("__debug__":Str))=false/\x≠"__name__"/\(x==("super":Str))=false
def jy(fz:aq->Prop)(h:Heap)(o:Option V)(z:Option ag):Prop:=∀v,o=some v->∃y,z=some y/\VR fz h v y
def We(fz:aq->Prop)(h:Heap)(env:Env)(m:Str->Option ag)(x:Str)(o:Option V):Prop:=
 (env.kindOf x=some .local/\jy fz h o (m x))\/((env.kindOf x=some .cell\/env.kindOf x=some .free)/\∃c z,env.cells.lookup x=some c/\h.IsCell c z/\jy fz h o z)
structure cQ(fz:aq->Prop)(env:Env)(vn:List Str)(J:aj)(h:Heap):Prop where
 len:J.length=vn.length
 loc:∃m,h.Ns env.locals m/\∀i,i<vn.length->We fz h env m (bq vn i) (rd J i)
structure eD(A:bD)(d:Nat):Prop where
 hd:A.handled=none
 depth:A.depth+4*d+10<=900
 units:A.units+40*d+100<=9000
theorem eD.le{A:bD}{d d':Nat}(r:eD A d)(h:d'<=d):eD A d':=⟨r.hd,by have:=r.depth;exact au [_,_,_] [] (.ln (.a (.a .v0 (.m 4 .v1)) (.k 10)) (.k 900)) 1 [(4,.ln .v1 .v2),(1,.ln (.a (.a .v0 (.m 4 .v2)) (.k 10)) (.k 900))] rfl h this,by have:=r.units;exact au [_,_,_] [] (.ln (.a (.a .v0 (.m 40 .v1)) (.k 100)) (.k 9000)) 1 [(40,.ln .v1 .v2),(1,.ln (.a (.a .v0 (.m 40 .v2)) (.k 100)) (.k 9000))] rfl h this⟩
theorem eD.unit{A:bD}{d:Nat}(r:eD A d):A.units<cLine:=bC (ai (aL _ (40*d+100)) (by rw[<-cu];exact r.units)) (by decide)
theorem eD.in1_unit{A:bD}{d:Nat}(r:eD A d):A.in1.units<cLine:=bC (ai (kU (df 1 (40*d+99)) _) (by rw[cu (40*d),<-cu];exact r.units)) (by decide)
theorem eD.lim{A:bD}{d:Nat}(r:eD A d):A.depth<recursionLimit:=bC (ai (aL _ (4*d+10)) (by rw[<-cu];exact r.depth)) (by decide)
section
variable{fz fz':aq->Prop}{h h':Heap}{B W own:aq->Prop}{Z Z' Z'':ae}{s s' s'':aB}{A:bD}{env:Env}{gl vn:List Str}{J J':aj}
theorem jy.mono(k:Kp fz h fz' h'){o:Option V}{z:Option ag}(r:jy fz h o z):jy fz' h' o z:=λv e=>(r v e).elim λy q=>⟨y,q.1,q.2.mono k⟩
theorem cQ.mono(hl:∀o,h.get? env.locals=some o->h'.get? env.locals=some o)(hc:∀x c,env.cells.lookup x=some c->∀o,h.get? c=some o->h'.get? c=some o)(k:Kp fz h fz' h')(R:cQ fz env vn J h):cQ fz' env vn J h':=by
 refine ar R.loc λm hm hv=>?_;refine⟨R.len,m,hm.at λo e=>hl o e,λi e=>?_⟩;rcases hv i e with q|⟨q,c,z,hcc,⟨o,ho,hd⟩,p⟩
 ·exact .inl ⟨q.1,q.2.mono k⟩
 ·exact .inr ⟨q,c,z,hcc,⟨o,hc _ _ hcc _ ho,hd⟩,p.mono k⟩
theorem cQ.keep(K:eH env gl vn B)(hb:∀a o,B a->h.get? a=some o->h'.get? a=some o)(k:Kp fz h fz' h')(R:cQ fz env vn J h):cQ fz' env vn J h':=
 R.mono (λo e=>hb _ o K.locB e) (λx c hc o e=>hb c o (K.cellB x c hc).1 e) k
theorem bK.blk(x:bK gK Z s Z' s')(G:aE B Z s.heap):∀a o,B a->s.heap.get? a=some o->s'.heap.get? a=some o:=λa o hb e=>(x.keep a o e (G.none_of_blocked hb) λq=>q).1
theorem cQ.weak(R:cQ fz env vn J h)(hl:J'.length=J.length)(k:∀i v,rd J' i=some v->rd J i=some v):cQ fz env vn J' h:=by
 refine ar R.loc λm hm hv=>?_;refine⟨hl.trans R.len,m,hm,λi e=>?_⟩;rcases hv i e with q|⟨q,c,z,hcc,hz,p⟩
 ·exact .inl ⟨q.1,λv e=>q.2 v (k i v e)⟩
 ·exact .inr ⟨q,c,z,hcc,hz,λv e=>p v (k i v e)⟩
abbrev BW(B W:aq->Prop):aq->Prop:=λx=>B x\/W x
theorem sf(k:bI h h')(hw:∀a,W a->h.objs.size<=a):Kp (Fz Z B) h (Fz Z (BW B W)) h':=λb o f e=>
 ⟨⟨f.1,λq=>q.elim f.2 λq=>absurd rfl (jT (hw _ q) e)⟩,k b o e⟩
theorem aE.block(G:aE B Z h)(k:bI h h')(hw:∀a,W a->h.objs.size<=a)(ho:∀a,W a->∃o,h'.get? a=some o):aE (BW B W) Z h':=
 G.next (sf k hw) (λb hb=>hb.elim (λhb=>(G.blocked b hb).imp id λq=>q.imp λo e=>k b o e) λhb=>⟨G.new0 (hw _ hb),ho _ hb⟩) (λb o e=>k b o (G.base b o e))
  λa m e=>.inl ⟨e,λq=>q.elim (G.cells a m e).2.1 λq=>(G.in_heap e).elim λo e=>absurd rfl (jT (hw _ q) e),λo e=>k a o e⟩
theorem sa{B':aq->Prop}(hs:∀a,B a->B' a)(hW:∀a,W a->B' a)(k:∀b o,¬W b->h.get? b=some o->h'.get? b=some o):Kp (Fz Z B') h (Fz Z B) h':=
 λa o f q=>⟨⟨f.1,λz=>f.2 (hs a z)⟩,k a o (λz=>f.2 (hW a z)) q⟩
theorem aE.shrink{B':aq->Prop}(G:aE B' Z h)(hs:∀a,B a->B' a)(hW:∀a,W a->B' a)(hd:∀a,B a->W a->∃o,h'.get? a=some o)(k:∀b o,¬W b->h.get? b=some o->h'.get? b=some o):aE B Z h':=
 G.next (sa hs hW k) (λb hb=>have z:=G.blocked b (hs b hb);⟨z.1,(kZ (W b)).elim (hd b hb) λq=>z.2.imp λo e=>k b o q e⟩)
  (λb o e=>k b o (λq=>absurd rfl (Ak (G.blocked b (hW b q)).1 e)) (G.base b o e)) λa m e=>have z:=G.cells a m e;.inl ⟨e,λq=>z.2.1 (hs a q),λo=>k a o λq=>z.2.1 (hW a q)⟩
theorem aE.unblock(G:aE (BW B W) Z h):aE B Z h:=G.shrink (W:=gK) (λ_=>.inl) (λ_ q=>q.elim) (λ_ _ q=>q.elim) λ_ _ _ e=>e
theorem yA:Kp (Fz Z (BW B W)) h (Fz Z B) h:=λa o f e=>⟨⟨f.1,λq=>f.2 (.inl q)⟩,e⟩
theorem nX(hW:∀a,W a->B a)(k:∀b o,¬W b->h.get? b=some o->h'.get? b=some o):Kp (Fz Z B) h (Fz Z B) h':=λa o f q=>⟨f,k a o (λz=>f.2 (hW a z)) q⟩
theorem aE.touch(G:aE B Z h)(hW:∀a,W a->B a)(k:∀b o,¬W b->h.get? b=some o->h'.get? b=some o)(t:∀b,W b->∃o,h'.get? b=some o):aE B Z h':=
 G.shrink (λ_ q=>q) hW (λa _ q=>t a q) k
theorem FU{a:aq}{m:M}(hs:fK a h h'):Kp (Fz Z (BW B λx=>x=a)) h (Fz (ak Z a m) B) h':=λb o f e=>
 have n:b≠a:=λq=>f.2 (.inr q);⟨⟨(i8 n).trans f.1,λq=>f.2 (.inl q)⟩,(hs.2 b n).trans e⟩
theorem aE.fill{a:aq}{m:M}(hn:¬B a)(G:aE (BW B λx=>x=a) Z h)(hs:fK a h h')(r:MR (Fz (ak Z a m) B) h' a m):aE B (ak Z a m) h':=
 have hge:h₀.get? a=none:=(G.blocked a (.inr rfl)).1
 G.next (FU hs) (λb hb=>have z:=G.blocked b (.inl hb);⟨z.1,z.2.imp λo e=>(hs.2 b λq=>hn (q▸hb)).trans e⟩) (λb o e=>(hs.2 b (Ak hge e)).trans (G.base b o e))
  λb mb e=>(kZ (b=a)).elim (λz=>.inr (by subst z;rw[vf]at e;(injection e with e;subst e);exact⟨hge,hn,r⟩)) λz=>.inl (by rw[i8 z]at e;exact⟨e,λq=>(G.cells b mb e).2.1 (.inl q),λo q=>(hs.2 b z).trans q⟩)
theorem eH.block(K:eH env gl vn B)(W:aq->Prop):eH env gl vn (BW B W):=
 ⟨K.kind,K.glob,K.blt,K.gls,K.caps,.inl K.locB,K.nodup,λx c q=>⟨.inl (K.cellB x c q).1,(K.cellB x c q).2⟩,K.cellI,K.names,K.gnames⟩
theorem cQ.block(K:eH env gl vn B)(k:bI h h')(hw:∀a,W a->h.objs.size<=a)(R:cQ (Fz Z B) env vn J h):cQ (Fz Z (BW B W)) env vn J h':=
 R.keep K (λa o _ e=>k a o e) (sf k hw)
theorem bK.new_but{a:aq}(ha:s.heap.objs.size<=a){h₁:Heap}(x:bK gK Z { s with heap:=h₁ } Z' s')(k:bI s.heap h₁){m:M}{h₂:Heap}{tk:Nat}(hs:fK a s'.heap h₂) :
  bK gK Z s (ak Z' a m) { s' with heap:=h₂,toks:=tk }:=
 ⟨λb o e z _=>have n:=jT ha e;have q:=x.keep b o (k b o e) z λq=>q;⟨(hs.2 b n).trans q.1,(i8 n).trans q.2⟩,λ_ q=>q.elim,x.gens,x.os⟩
structure Af(B:aq->Prop)(Z:ae)(s:aB)(Z':ae)(s':aB):Prop where
 g:aE B Z' s'.heap
 x:bK gK Z s Z' s'
theorem Af.trans(a:Af B Z s Z' s')(b:Af B Z' s' Z'' s''):Af B Z s Z'' s'':=⟨b.g,a.x.trans b.x⟩
theorem Af.vr(a:Af B Z s Z' s'){v:V}{y:ag}(r:VR (Fz Z B) s.heap v y):VR (Fz Z' B) s'.heap v y:=r.mono a.x.kp0
theorem Af.vrs(a:Af B Z s Z' s'){v:List V}{y:List ag}(r:aN (Fz Z B) s.heap v y):aN (Fz Z' B) s'.heap v y:=r.mono a.x.kp0
theorem Af.keeps(G:aE B Z s.heap)(k:bI s.heap s'.heap)(hg:s'.gens=s.gens)(ho:s'.os=s.os):Af B Z s Z s':=⟨G.keeps k,.of_keeps iU k hg ho⟩
theorem Af.heap(G:aE B Z s.heap)(k:bI s.heap h')(tk:Nat):Af B Z s Z { s with heap:=h',toks:=tk }:=⟨G.keeps k,.of_keeps iU k rfl rfl⟩
theorem Af.tok(G:aE B Z s.heap)(tk:Nat):Af B Z s Z { s with toks:=tk }:=⟨G,.of_keeps iU (bI.refl _) rfl rfl⟩
theorem Af.refl(G:aE B Z s.heap):Af B Z s Z s:=⟨G,.of_keeps iU (bI.refl _) rfl rfl⟩
def PE(B:aq->Prop)(Z:ae)(s:aB)(Q:QV):ag->aB->Prop:=
 λy s'=>∃v Z',Af B Z s Z' s'/\VR (Fz Z' B) s'.heap v y/\Q v Z'
def IW(B:aq->Prop)(Z:ae)(s:aB)(Q:List V->ae->Prop):List ag->aB->Prop:=
 λy s'=>∃v Z',Af B Z s Z' s'/\aN (Fz Z' B) s'.heap v y/\Q v Z'
def PU(B:aq->Prop)(Z:ae)(s:aB)(Q:ae->Prop):aB->Prop:=λs'=>∃Z',Af B Z s Z' s'/\Q Z'
def PT(B:aq->Prop)(Z:ae)(s:aB)(Q:Bool->ae->Prop):Bool->aB->Prop:=λc=>PU B Z s (Q c)
section
variable{Q:QV}{Qs:List V->ae->Prop}{Qt:Bool->ae->Prop}{v:V}{y:ag}
theorem PE.lift(a:Af B Z s Z' s')(p:PE B Z' s' Q y s''):PE B Z s Q y s'':=p.elim λv q=>q.elim λZ2 z=>⟨v,Z2,a.trans z.1,z.2⟩
theorem PU.lift{Q:ae->Prop}(a:Af B Z s Z' s')(p:PU B Z' s' Q s''):PU B Z s Q s'':=p.elim λZ2 z=>⟨Z2,a.trans z.1,z.2⟩
theorem PE.tok{tk:Nat}(G:aE B Z s.heap)(r:VR (Fz Z B) s.heap v y)(q:Q v Z):PE B Z s Q y { s with toks:=tk }:=⟨v,Z,.tok G tk,r,q⟩
theorem PE.same(G:aE B Z s.heap)(r:VR (Fz Z B) s.heap v y)(q:Q v Z):PE B Z s Q y s:=⟨v,Z,.refl G,r,q⟩
theorem bT{α:Type}{t:Sem α}{P P':α->aB->Prop}(h:wpAny Md A t P aw s)(k:∀a s,P a s->P' a s):wpAny Md A t P' aw s:=jl h k λ_ _ h=>h
theorem seq{t:Sem ag}{P:ag->aB->Prop}(h:wpAny Md A t (PE B Z s Q) aw s')(k:∀v Z' y s',Af B Z s Z' s'->VR (Fz Z' B) s'.heap v y->Q v Z'->P y s'):wpAny Md A t P aw s':=
 bT h λy s' p=>p.elim λv q=>q.elim λZ' z=>k v Z' y s' z.1 z.2.1 z.2.2
theorem kJ{t:Sem (List ag)}{P:List ag->aB->Prop}(h:wpAny Md A t (IW B Z s Qs) aw s')(k:∀v Z' y s',Af B Z s Z' s'->aN (Fz Z' B) s'.heap v y->Qs v Z'->P y s'):wpAny Md A t P aw s':=
 bT h λy s' p=>p.elim λv q=>q.elim λZ' z=>k v Z' y s' z.1 z.2.1 z.2.2
theorem lV{t:Sem Bool}{P:Bool->aB->Prop}(h:wpAny Md A t (PT B Z s Qt) aw s')(k:∀c Z' s',Af B Z s Z' s'->Qt c Z'->P c s'):wpAny Md A t P aw s':=
 bT h λy s' p=>p.elim λZ' z=>k y Z' s' z.1 z.2
theorem g0{t:Sem ag}(a:Af B Z s Z' s')(h:wpAny Md A t (PE B Z' s' Q) aw s''):wpAny Md A t (PE B Z s Q) aw s'':=bT h λ_ _ p=>p.lift a
set_option tactic.hygienic true in
theorem sL{t:Sem Bool}(a:Af B Z s Z' s')(h:wpAny Md A t (PT B Z' s' Qt) aw s''):wpAny Md A t (PT B Z s Qt) aw s'':=bT h λ_ _ p=>p.lift a
end
theorem rX{Q:QV}{l:List V}{vs:List ag}(G:aE B Z s.heap)(r:aN (Fz Z B) s.heap l vs)(hl:l.length<=aJ)(m:Bool){n tk:Nat}(q:qP m l Z Q) :
  PE B Z s Q (.ref s.heap.objs.size) { s with heap:=s.heap.push { cls:=.type "list",data:=.seq vs.toArray n },toks:=tk }:=by
 have k:bI s.heap (s.heap.push { cls:=.type "list",data:=.seq vs.toArray n }):=bI.push _ _;have hp:(s.heap.push { cls:=.type "list",data:=.seq vs.toArray n }).PlainList s.heap.objs.size vs.toArray:=⟨n,kc _ rfl⟩
 cases m with
 |false=>exact⟨.list l,Z,.heap G k tk,⟨_,_,rfl,G.new_fz,hp,hl,r.mono k.kp⟩,q⟩
 |true=>exact⟨.ref s.heap.objs.size,ak Z s.heap.objs.size (.list l),⟨G.alloc k (aC _) ⟨vs,hp,hl,r.mono (En k (aC _))⟩,.alloc (aC _) iU k rfl rfl⟩,rfl,q _ G.new_fz.1⟩
theorem Mu{Q:QV}{l:List V}{vs:List ag}(G:aE B Z s.heap)(r:aN (Fz Z B) s.heap l vs)(hl:l.length<=aJ)(q:Q (.tup l) Z){tk:Nat} :
  PE B Z s Q (.ref s.heap.objs.size) { s with heap:=s.heap.push { cls:=.type "tuple",data:=.seq vs.toArray },toks:=tk }:=
 have k:bI s.heap (s.heap.push { cls:=.type "tuple",data:=.seq vs.toArray }):=bI.push _ _
 ⟨.tup l,Z,.heap G k tk,⟨_,_,rfl,G.new_fz,⟨_,kc _ rfl,rfl,_,rfl⟩,hl,r.mono k.kp⟩,q⟩
end
end
section
open PySem PySem.W PyProof.Rows PySem.SeqAt
theorem a8{α β:Type}{o:Option α}{f:α->Option β}{b:β}(h:o.bind f=some b):∃a,o=some a/\f a=some b:=by
 cases o with
 |none=>exact nn h
 |some a=>exact⟨a,rfl,h⟩
theorem cN{α β:Type}{o:Option α}{f:α->β}{b:β}(h:o.map f=some b):∃a,o=some a/\f a=b:=by
 cases o with
 |none=>exact nn h
 |some a=>exact⟨a,rfl,di h⟩
theorem iz{α:Type}{c:Prop}[Decidable c]{a b:α}(h:(if c then some a else none)=some b):c/\a=b:=by
 by_cases hc:c
 ·rw[if_pos hc]at h;exact⟨hc,di h⟩
 ·rw[if_neg hc]at h;exact nn h
theorem eY{v:V}{i:Int}(h:eK v=some i):v=.int i:=by cases v<;>first|((injection h with h;subst h);rfl)|exact nn h
theorem gW{v:V}{i:List UInt8}(h:fW v=some i):v=.bytes i:=by cases v<;>first|((injection h with h;subst h);rfl)|exact nn h
theorem qh{v:V}{i:Str}(h:qX v=some i):v=.str i:=by cases v<;>first|((injection h with h;subst h);rfl)|exact nn h
theorem Eo{v:V}{i:Bool}(h:AP v=some i):v=.bool i:=by cases v<;>first|((injection h with h;subst h);rfl)|exact nn h
theorem lp{v:V}{i:List V}(h:j4 v=some i):v=.list i:=by cases v<;>first|((injection h with h;subst h);rfl)|exact nn h
theorem n5{v:V}{i:List V}(h:mh v=some i):v=.tup i:=by cases v<;>first|((injection h with h;subst h);rfl)|exact nn h
theorem nZ{v:V}{i:Nat}(h:j5 v=some i):v=.ref i:=by cases v<;>first|((injection h with h;subst h);rfl)|exact nn h
theorem sE{v:V}{i:Unit}(h:mf v=some i):v=.none:=by cases v<;>first|rfl|exact nn h
theorem vK{l:List V}{v:V}(h:one l=some v):l=[v]:=by
 cases l with
 |nil=>exact nn h
 |cons x r=>cases r with
  |nil=>(injection h with h;subst h);rfl
  |cons=>exact nn h
theorem GJ{l:List V}{p:V×V}(h:aF l=some p):l=[p.1,p.2]:=by
 cases l with
 |nil=>exact nn h
 |cons x r=>
  refine ar (cN h) λy e q=>?_;cases vK e
  subst q;rfl
theorem rY{Z:ae}{a:Nat}{l:List V}(h:cc Z a=some l):Z a=some (.list l):=by
 refine ar (a8 h) λm e h=>?_;cases m<;>first|((injection h with h;subst h);exact e)|exact nn h
theorem yl{Z:ae}{a:Nat}{p:Nat×List (bG×V)}(h:gJ Z a=some p):Z a=some (.attrs p.1 p.2):=by
 refine ar (a8 h) λm e h=>?_;cases m<;>first|((injection h with h;subst h);exact e)|exact nn h
theorem M1{v:V}{r:List V}{ns:List Int}(h:eO (v::r)=some ns):∃i l,v=.int i/\eO r=some l/\ns=i::l:=by
 refine ar (a8 h) λi e h=>?_;refine ar (cN h) λl e2 h=>?_;exact⟨i,l,eY e,e2,h.symm⟩
theorem Ag:aJ=1048576:=rfl
theorem gc{n:Nat}(h:n<=aJ):n<=sizeLine:=ai h (by decide)
section
variable{fz:aq->Prop}{B:aq->Prop}{Z Z' Z'':ae}{h:Heap}{s s' s'':aB}{A:bD}
theorem qa:∀{l:List V}{xs:List ag}{ns:List Int},aN fz h l xs->eO l=some ns->IntsAre xs ns/\ns.length=l.length:=by
 intro l;induction l with
 |nil=>intro xs ns r e;(injection e with e;subst e);subst r;exact⟨.nil,rfl⟩
 |cons v l ih=>
  intro xs ns r e;obtain⟨i,l',rfl,e2,rfl⟩:=M1 e;obtain⟨y,ys,rfl,⟨t,rfl⟩,r⟩:=r;have q:=ih r e2;exact⟨.cons _ _ q.1,congrArg (·+1) q.2⟩
theorem PE.int{Q:QV}{i:Int}{t:Tok}{tk:Nat}(G:aE B Z s.heap)(q:Q (.int i) Z):PE B Z s Q (.int i t) { s with toks:=tk }:=.tok (v:=.int i) G ⟨t,rfl⟩ q
theorem PE.bool{Q:QV}{b:Bool}(G:aE B Z s.heap)(q:Q (.bool b) Z):PE B Z s Q (.bool b) s:=.same (v:=.bool b) G rfl q
theorem PE.bytes{Q:QV}{b:List UInt8}{t:Tok}{tk:Nat}(G:aE B Z s.heap)(hz:b.length<=aJ)(q:Q (.bytes b) Z):PE B Z s Q (.bytes b.toArray t) { s with toks:=tk }:=.tok (v:=.bytes b) G ⟨t,rfl,hz⟩ q
theorem Nl{a:Int}(h0:0<=a)(h1:a<1000):Yo a<=64:=intBits_le_64 (xO (by decide) h0) (CD h1 (by decide))
theorem EK{x y r:V}{f:Int->Int->Option Int}(h:qN x y f=some r):∃a b c,x=.int a/\y=.int b/\f a b=some c/\r=.int c:=by
 refine ar (a8 h) λa e h=>?_;refine ar (a8 h) λb e2 h=>?_;refine ar (cN h) λc e3 h=>?_;exact⟨a,b,c,eY e,eY e2,e3,h.symm⟩
theorem Lh{l b:aq}{vs ws:List ag}{Q:ag->aB->Prop}(hl:s.heap.PlainList l vs.toArray)(hb:s.heap.PlainList b ws.toArray)
  (h:Q (.ref s.heap.objs.size) { s with heap:=s.heap.push { cls:=.type "list",data:=.seq (vs++ws).toArray } }) (hsz:vs.length+ws.length<=sizeLine) :
  wpAny Md A (binaryOp .Add (.ref l) (.ref b)) Q aw s:=by
 refine bA hl λn ho=>?_;refine bA hb λn2 ho2=>?_;refine concat_meets ⟨_,ho,rfl⟩ ⟨_,ho2,rfl⟩ noFill_list_add seq_list_add PySem.F.slot_list_add PySem.F.entry_list_add (PySem.F.args_list_add_2 _ _) (list_addW l b vs.toArray ws.toArray n n2 none none #[] #[] hsz) ⟨ho,ho2,?_⟩;rw[BK];exact h
theorem TB{a b r:V}{x y:ag}{Q:QV}(G:aE B Z s.heap)(ra:VR (Fz Z B) s.heap a x)(rb:VR (Fz Z B) s.heap b y)(e:Iw a b=some r)(q:Q r Z) :
  wpAny Md A (binaryOp .Add x y) (PE B Z s Q) aw s:=by
 cases a<;>try (exact nn e;done)
 ·obtain⟨j,e2,rfl⟩:=cN e;obtain rfl:=eY e2;obtain⟨t,rfl⟩:=ra;obtain⟨u,rfl⟩:=rb;exact Yk (PE.int G q)
 ·refine ar (a8 e) λj e2 e=>?_;obtain rfl:=gW e2;obtain⟨hz,rfl⟩:=iz e;obtain⟨t,rfl,h1⟩:=ra;obtain⟨u,rfl,h2⟩:=rb;refine KBy.add_bytes (gc hz) λt' k=>?_;rw[BK];exact PE.bytes G (bB▸hz) q
 ·refine ar (a8 e) λj e2 e=>?_;obtain rfl:=lp e2;obtain⟨hz,rfl⟩:=iz e;obtain⟨p,vs,rfl,f1,l1,z1,r1⟩:=ra;obtain⟨p',ws,rfl,f2,l2,z2,r2⟩:=rb;refine Lh l1 l2 ?_ (by rw[r1.length,r2.length];exact gc hz);exact rX (n:=0) (tk:=s.toks) G (r1.append r2) (bB▸hz) false q
theorem TK{op:Op}{a b r:V}{x y:ag}{Q:QV}(G:aE B Z s.heap)(ra:VR (Fz Z B) s.heap a x)(rb:VR (Fz Z B) s.heap b y)(e0:tH op a b=some r)(q:Q r Z) :
  wpAny Md A (binaryOp (w7 op) x y) (PE B Z s Q) aw s:=by
 cases op
 ·exact TB G ra rb e0 q
 all_goals
  obtain⟨i,j,k,rfl,rfl,e,rfl⟩:=EK e0;clear e0;obtain⟨t,rfl⟩:=ra;obtain⟨u,rfl⟩:=rb
 ·injection e with e;subst e
  exact Ym (PE.int G q)
 all_goals
  obtain⟨hz,rfl⟩:=iz e
 ·exact Yl (PE.int G q) (.of_left (Nl hz.1 hz.2))
 ·refine X3 (LY hz.1) ?_ (.inl (JK (dN.1 (by rw[Int.natAbs_of_nonneg (ye hz.1)];exact CD hz.2 (by decide)))));rw[Int.fdiv_eq_ediv_of_nonneg _ (ye hz.1)];exact PE.int G q
 ·refine Yi (LY hz.1) ?_;rw[Int.fmod_eq_emod_of_nonneg _ (ye hz.1)];exact PE.int G q
end
end
section
open PySem PySem.W PyProof.Rows PySem.SeqAt
theorem Dq{f:V->V->Option Bool}{a:V}{l m:List V}{r:Bool}(h:jb f (a::l) m=some r):∃b m' x y,m=b::m'/\f a b=some x/\jb f l m'=some y/\r=(x&&y):=by
 cases m with
 |nil=>exact nn h
 |cons b m=>
  obtain⟨x,e,h⟩:=a8 h;obtain⟨y,e2,h⟩:=cN h;exact⟨b,m,x,y,rfl,e,e2,h.symm⟩
theorem El{f:V->V->Option Bool}{m:List V}{r:Bool}(h:jb f [] m=some r):m=[]/\r=true:=by
 cases m with
 |nil=>(injection h with h;subst h);exact⟨rfl,rfl⟩
 |cons=>exact nn h
theorem Fh{x y:V}{r:Bool}(h:qU x y=some r):(x=.none/\y=.none/\r=true)\/(∃a b,x=.bool a/\y=.bool b/\r=(a==b))\/(∃a b,x=.int a/\y=.int b/\r=(a==b))\/(∃a b,x=.str a/\y=.str b/\r=(a==b))\/∃a b,x=.bytes a/\y=.bytes b/\r=(a==b):=by
 cases x<;>try (exact nn h;done)
 all_goals obtain⟨b,e,h⟩:=cN h
 ·exact .inl ⟨rfl,sE e,h.symm⟩
 ·exact .inr (.inl ⟨_,b,rfl,Eo e,h.symm⟩)
 ·exact .inr (.inr (.inl ⟨_,b,rfl,eY e,h.symm⟩))
 ·exact .inr (.inr (.inr (.inl ⟨_,b,rfl,qh e,h.symm⟩)))
 ·exact .inr (.inr (.inr (.inr ⟨_,b,rfl,gW e,h.symm⟩)))
theorem GL{n:Nat}{x y:V}{r:Bool}(h:gO (n+1) x y=some r):qU x y=some r\/(∃l m,x=.list l/\y=.list m/\(if l.length=m.length then jb (gO n) l m else some false)=some r)\/∃l m,x=.tup l/\y=.tup m/\jb (gO n) l m=some r:=by
 cases x<;>first
  |exact .inl h
  |(obtain⟨b,e,h⟩:=a8 h;first
    |exact .inr (.inl ⟨_,b,rfl,lp e,h⟩)
    |exact .inr (.inr ⟨_,b,rfl,n5 e,h⟩))
section
variable{fz:aq->Prop}{B:aq->Prop}{Z:ae}{h:Heap}{s:aB}{A:bD}
theorem Od{a:aq}{xs ys:List ag}(x:h.PlainList a xs.toArray)(y:h.PlainList a ys.toArray):xs=ys:=by
 obtain⟨n,e⟩:=x;obtain⟨m,e'⟩:=y;rw[e]at e';cases e';rfl
theorem QT{a:aq}{xs ys:List ag}(x:IsTup h a xs.toArray)(y:IsTup h a ys.toArray):xs=ys:=by
 obtain⟨o,e,q,n,d⟩:=x;obtain⟨o',e',q',n',d'⟩:=y;rw[e]at e';injection e' with e';subst e'
 rw[d]at d';cases d';rfl
theorem EA{a b:V}{r:Bool}{x:ag}(ra:VR fz h a x)(rb:VR fz h b x)(e0:qU a b=some r):r=true:=by
 rcases Fh e0 with⟨rfl,rfl,e⟩|⟨i,j,rfl,rfl,e⟩|⟨i,j,rfl,rfl,e⟩|⟨i,j,rfl,rfl,e⟩|⟨i,j,rfl,rfl,e⟩
 ·exact e
 ·subst ra;(injection rb with rb;subst rb);exact e.trans (beq_self_eq_true _)
 ·obtain⟨t,rfl⟩:=ra;obtain⟨u,q⟩:=rb;(injection q with q;subst q);exact e.trans (beq_self_eq_true _)
 ·obtain⟨t,rfl⟩:=ra;obtain⟨u,q⟩:=rb;(injection q with q;subst q);exact e.trans (beq_self_eq_true _)
 ·obtain⟨t,rfl,_⟩:=ra;obtain⟨u,q,_⟩:=rb;(injection q with q;injection q with q;subst q);exact e.trans (beq_self_eq_true _)
theorem Em{f:V->V->Option Bool}(ih:∀{a b:V} {r:Bool} {x:ag},VR fz h a x->VR fz h b x->f a b=some r->r=true):∀{l m:List V}{xs:List ag}{r:Bool},aN fz h l xs->aN fz h m xs->jb f l m=some r->r=true:=by
 intro l;induction l with
 |nil=>intro m xs r _ _ e;exact(El e).2
 |cons a l j=>
  intro m xs r rl rm e;obtain⟨b,m',x,y,rfl,e1,e2,rfl⟩:=Dq e;obtain⟨u,us,rfl,r1,rs⟩:=rl;obtain⟨v,vs,q,r2,rs2⟩:=rm;cases q
  rw[ih r1 r2 e1,j rs rs2 e2];rfl
theorem QX:∀(n:Nat){a b:V}{r:Bool}{x:ag},VR fz h a x->VR fz h b x->gO n a b=some r->r=true:=by
 intro n;induction n with
 |zero=>exact EA
 |succ n ih=>
  intro a b r x ra rb e0;rcases GL e0 with e|⟨l,m,rfl,rfl,e⟩|⟨l,m,rfl,rfl,e⟩
  ·exact EA ra rb e
  ·obtain⟨p,vs,rfl,_,i,_,r1⟩:=ra;obtain⟨q,ws,e',_,j,_,r2⟩:=rb;injection e' with e';subst e'
   cases Od i j
   rw[if_pos (r1.length.symm.trans r2.length)]at e;exact Em ih r1 r2 e
  ·obtain⟨p,vs,rfl,_,i,_,r1⟩:=ra;obtain⟨q,ws,e',_,j,_,r2⟩:=rb;injection e' with e';subst e'
   cases QT i j
   exact Em ih r1 r2 e
structure R3(A:bD)(s:aB)(x y:ag)(r:Bool):Prop where
 rc:RcAt A s x y r
 eq:EqAt A s x y r
 ne:RcNeAt A s x y (!r)
theorem Hc{A:bD}{a b:V}{r:Bool}{x y:ag}(ra:VR fz s.heap a x)(rb:VR fz s.heap b y)(e0:qU a b=some r):R3 A s x y r:=by
 rcases Fh e0 with⟨rfl,rfl,rfl⟩|⟨i,j,rfl,rfl,rfl⟩|⟨i,j,rfl,rfl,rfl⟩|⟨i,j,rfl,rfl,rfl⟩|⟨i,j,rfl,rfl,rfl⟩
 ·subst ra;subst rb;exact⟨.none_none,.same _,.none_none⟩
 ·subst ra;subst rb;exact⟨.bool_bool _ _,.bool_bool _ _,.bool_bool _ _⟩
 ·obtain⟨t,rfl⟩:=ra;obtain⟨u,rfl⟩:=rb;exact⟨.int_int _ _ _ _,.int_int _ _ _ _,.int_int _ _ _ _⟩
 ·obtain⟨t,rfl⟩:=ra;obtain⟨u,rfl⟩:=rb;exact⟨.str_str _ _ _ _,.str_str _ _ _ _,.str_str _ _ _ _⟩
 ·obtain⟨t,rfl,_⟩:=ra;obtain⟨u,rfl,_⟩:=rb;exact⟨λcz w E Q hq=>eq_bytes (Q:=Q) (E:=E) (by simpa using hq),yq _ _ _ _,λcz w E Q hq=>ne_bytes (Q:=Q) (E:=E) (by simpa[bne]using hq)⟩
theorem EM{f:V->V->Option Bool}(ih:∀{a b:V} {r:Bool} {x y:ag},VR fz s.heap a x->VR fz s.heap b y->f a b=some r->EqAt A s x y r):∀{l m:List V}{xs ys:List ag}{r:Bool},aN fz s.heap l xs->aN fz s.heap m ys->jb f l m=some r ->
  xs.length=ys.length/\∃e:Nat->Bool,(∀j(h1:j<xs.length)(h2:j<ys.length),EqAt A s xs[j] ys[j] (e j))/\r=(jN xs.length).all e:=by
 intro l;induction l with
 |nil=>
  intro m xs ys r rl rm e;obtain⟨rfl,rfl⟩:=El e;subst rl;subst rm;exact⟨rfl,λ_=>true,λj h1=>absurd h1 (dM _),rfl⟩
 |cons a l j=>
  intro m xs ys r rl rm e;obtain⟨b,m',x,y,rfl,e1,e2,rfl⟩:=Dq e;obtain⟨u,us,rfl,r1,rs⟩:=rl;obtain⟨v,vs,rfl,r2,rs2⟩:=rm;obtain⟨hl,g,hg,rfl⟩:=j rs rs2 e2;refine⟨congrArg (·+1) hl,λk=>match k with|0=>x|k+1=>g k,λk h1 h2=>?_,?_⟩
  ·cases k with
   |zero=>exact ih r1 r2 e1
   |succ k=>exact hg k (ff h1) (ff h2)
  ·rw[nH,JH,LA,L3];rfl
theorem HW:∀(n:Nat){A:bD}{a b:V}{r:Bool}{x y:ag},A.units+n<cLine->VR fz s.heap a x->VR fz s.heap b y->gO n a b=some r->R3 A s x y r:=by
 intro n;induction n with
 |zero=>intro A a b r x y _;exact Hc
 |succ n ih=>
  intro A a b r x y hu ra rb e0;have hu1:A.in1.units+n<cLine:=by rw[show A.in1.units=A.units+1 from rfl,cu,cb 1];exact hu
  have hu2:A.units<cLine:=bC (aL _ _) hu;have same:∀{p q:aq},x=.ref p->y=.ref q->RcAt A s x y r->EqAt A s x y r:=by
   rintro p q rfl rfl rc
   by_cases hpq:p=q
   ·subst hpq;rw[QX (n+1) ra rb e0];exact .same _
   ·exact .of_refs hpq rc
  rcases GL e0 with e|⟨l,m,rfl,rfl,e⟩|⟨l,m,rfl,rfl,e⟩
  ·exact Hc ra rb e
  ·obtain⟨p,vs,rfl,_,i,_,r1⟩:=ra;obtain⟨q,ws,rfl,_,j,_,r2⟩:=rb;have both:RcAt A s (.ref p) (.ref q) r/\RcNeAt A s (.ref p) (.ref q) (!r):=by
    by_cases hl:l.length=m.length
    ·rw[if_pos hl]at e;obtain⟨hl,f,hf,rfl⟩:=EM (λr1 r2 e=>(ih hu1 r1 r2 e).eq) r1 r2 e;exact⟨RcAt.lists (e:=f) i.isList j.isList hl hu2 hf,RcNeAt.lists (e:=f) i.isList j.isList hl hu2 hf⟩
    ·rw[if_neg hl]at e;injection e with e;subst e
     have hne:(vs.toArray.size != ws.toArray.size)=true:=bne_iff_ne.mpr λq=>hl (r1.length.symm.trans (q.trans r2.length));exact⟨RcAt.lists_lengths i.isList j.isList hne hu2,RcNeAt.lists_lengths i.isList j.isList hne hu2⟩
   exact⟨both.1,same rfl rfl both.1,both.2⟩
  ·obtain⟨p,vs,rfl,_,i,_,r1⟩:=ra;obtain⟨q,ws,rfl,_,j,_,r2⟩:=rb;obtain⟨hl,f,hf,rfl⟩:=EM (λr1 r2 e=>(ih hu1 r1 r2 e).eq) r1 r2 e;have hm:min vs.toArray.size ws.toArray.size=vs.length:=(congrArg (min vs.length) hl.symm).trans (CF _);have hb:(vs.toArray.size==ws.toArray.size)=true:=beq_iff_eq.mpr hl;have rc:=RcAt.tuples (e:=f) i j hu2 hf;have ne:=RcNeAt.tuples (e:=f) i j hu2 hf;rw[hm,hb,Cs]at rc ne;exact⟨rc,same rfl rfl rc,ne⟩
end
end
section
open PySem PySem.W PyProof.Rows PySem.SeqAt
section
variable{fz:aq->Prop}{B:aq->Prop}{Z:ae}{h:Heap}{s:aB}{A:bD}{E:ag->aB->Prop}
theorem LS{a b:aq}{xs ys:List ag}{ns ms:List Int}{P:Fin->aB->Prop}(ha:IsTup s.heap a xs.toArray)(hb:IsTup s.heap b ys.toArray)(ia:IntsAre xs ns)(ib:IntsAre ys ms)(hl:ns.length=ms.length)
  (h:P (.done (.ret (.bool (lD ns ms)))) s):wpAny Md A (Builtin.«tuple.__lt__» ⟨[.ref a,.ref b],[]⟩) P E s:=by
 have hTb:=hb.typeIs;refine cm ha λoa hoa _ rr03_=>?_;refine bA rr03_ λna hda=>?_;refine cm hb λob hob _ rr13_=>?_;refine bA rr13_ λnb hdb=>?_;show wpAny _ _ (isInstance (.ref b) (.type "tuple") >>= _) _ _ s;refine aG (wpAny_isInstance hTb isSubtype_tuple_tuple ?_);refine aG (KA hoa hda ?_);refine aG (KA hob hdb ?_);refine aG ?_;refine K5 _
  (λrest r s'=>r.1=none/\s'=s/\∃x' y' xs' ys',rest=List.zip xs' ys'/\IntsAre xs' x'/\IntsAre ys' y'/\x'.length=y'.length/\lD x' y'=lD ns ms)
  _ ?_ ?_ _ _ ⟨rfl,rfl,ns,ms,xs,ys,rfl,ia,ib,hl,rfl⟩
 ·rintro ⟨u,v⟩ rest r s' ⟨hr,rfl,x',y',xs',ys',hz,hx',hy',hlen,hlt⟩
  cases hx' with
  |nil=>exact nc hz
  |cons i t hx''=>
   cases hy' with
   |nil=>exact nc hz
   |cons j t' hy''=>
    cases hz
    refine aG (EqAt.int_int i t j t' _ _ _ _ ?_);by_cases hij:i=j
    ·subst hij;rw[beq_self_eq_true];exact a9 ⟨rfl,rfl,_,_,_,_,rfl,hx'',hy'',iI hlen,(if_pos rfl).symm.trans hlt⟩
    ·rw[show(i==j)=false from beq_eq_false_iff_ne.mpr hij];refine aG (pT (aG (wpAny_lt_int ?_)));rw[show decide (i<j)=lD ns ms from(if_neg hij).symm.trans hlt];exact aG (a9 (a9 (a9 h)))
 ·rintro ⟨r1,r2⟩ s' ⟨hr,rfl,x',y',xs',ys',hz,hx',hy',hlen,hlt⟩
  subst hr;have fin:lD ns ms=false:=by
   cases hx' with
   |nil=>cases y' with
    |nil=>exact hlt.symm
    |cons=>cases hlen
   |cons i t hx''=>cases hy' with
    |nil=>cases hlen
    |cons j t' hy''=>cases hz
  refine a9 ?_;have hsz:(Bp .Lt xs.toArray.size ys.toArray.size)=.bool false:=by
   have:xs.length=ys.length:=by rw[ia.length,ib.length,hl]
   simp[Bp,this]
  show P (.done (.ret (Bp .Lt xs.toArray.size ys.toArray.size))) _;rw[hsz];rw[fin]at h;exact h
theorem Og{a b:aq}{xs ys:List ag}{ns ms:List Int}{Q:ag->aB->Prop}(ha:IsTup s.heap a xs.toArray)(hb:IsTup s.heap b ys.toArray)(ia:IntsAre xs ns)(ib:IntsAre ys ms)(hl:ns.length=ms.length)(hu:A.units<cLine)
  (h:Q (.bool (lD ns ms)) s):wpAny Md A (compareOp .Lt (.ref a) (.ref b)) Q E s:=
 wpAny_richCompare_same_room (op:=.Lt) (T:="tuple") (ha.typeIs (s:=s)) (hb.typeIs (s:=s)) J0
  (K4 J0 (ha.typeIs (s:=s)) PySem.F.entry_tuple_lt (LS ha hb ia ib hl ⟨_,rfl,by simp,h⟩) (PySem.F.args_tuple_lt_2 _ _)) hu
def mX(x:V)(z:ag):Bool:=match x with
 |.int j=>match z with
  |.int k _=>k==j
  |_=>false
 |.bytes b=>match z with
  |.bytes c _=>c.toList==b
  |_=>false
 |_=>false
theorem VU{v x:V}{p:Bool}{z y:ag}(rv:VR fz s.heap v z)(rx:VR fz s.heap x y)(hp:oO v x=some p):(∀A,EqAt A s z y (mX x z))/\p=mX x z:=by
 cases v<;>try (exact nn hp;done)
 all_goals obtain⟨b,e,rfl⟩:=cN hp
 ·obtain rfl:=eY e;obtain⟨t,rfl⟩:=rv;obtain⟨u,rfl⟩:=rx;exact⟨λA=>.int_int _ _ _ _,rfl⟩
 ·obtain rfl:=gW e;obtain⟨t,rfl,_⟩:=rv;obtain⟨u,rfl,_⟩:=rx;exact⟨λA=>yq _ _ _ _,rfl⟩
theorem DG{x:V}{y:ag}(rx:VR fz s.heap x y):∀{l:List V}{xs:List ag}{r:Bool},aN fz s.heap l xs->nC x l=some r ->
  (∀z,z∈xs->∀A,EqAt A s z y (mX x z))/\r=xs.any (mX x):=by
 intro l;induction l with
 |nil=>intro xs r e h;subst e;(injection h with h;subst h);exact⟨λz hz=>(nm hz),rfl⟩
 |cons v l ih=>
  intro xs r e h;obtain⟨z₀,zs,rfl,rv,rl⟩:=e;obtain⟨p,hp,h⟩:=a8 h;obtain⟨q,hq,rfl⟩:=cN h;obtain⟨hf,rfl⟩:=ih rl hq;obtain⟨k1,rfl⟩:=VU rv rx hp;exact⟨λz hz=>(cq.mp hz).elim (λe=>e▸k1) (hf z),rfl⟩
theorem aE.deref(G:aE B Z s.heap){a:V}{x:ag}(r:VR (Fz Z B) s.heap a x):VR (λ_=>True) s.heap (Internal.iM Z a) x:=by
 have k:Kp (Fz Z B) s.heap (λ_=>True) s.heap:=λ_ _ _ e=>⟨trivial,e⟩
 cases a with
 |ref p=>
  unfold Internal.iM
  dsimp only
  cases hl:cc Z p with
  |none=>exact r.mono k
  |some l=>
   obtain⟨_,_,vs,hi,hz,rs⟩:=G.cells p _ (rY hl);exact⟨p,vs,r,trivial,hi,hz,rs.mono k⟩
 |_=>exact r.mono k
theorem zO{x y:V}{f:Int->Int->Bool}{r:Bool}(h:xp x y f=some r):∃a b,x=.int a/\y=.int b/\r=f a b:=by
 refine ar (a8 h) λa e h=>?_;refine ar (cN h) λb e2 h=>?_;exact⟨a,b,eY e,eY e2,h.symm⟩
theorem Gk{a:V}{x:ag}{r:Bool}(ra:VR fz s.heap a x)(e:isNone a=some r):(r=true/\x=.none)\/(r=false/\PySem.plainIs x .none=true/\x≠.none):=by
 cases a<;>try (exact nn e;done)
 ·(injection e with e;subst e);exact .inl ⟨rfl,ra⟩
 ·(injection e with e;subst e);obtain⟨t,rfl⟩:=ra;exact .inr ⟨rfl,rfl,nofun⟩
 ·(injection e with e;subst e);obtain⟨p,vs,rfl,_⟩:=ra;exact .inr ⟨rfl,rfl,nofun⟩
theorem VL{a b:V}{r:Bool}{x y:ag}{Q:ag->aB->Prop}(hu:A.units<cLine)(ra:VR fz s.heap a x)(rb:VR fz s.heap b y)(e:I5 a b=some r)(q:Q (.bool r) s):wpAny Md A (compareOp .Lt x y) Q E s:=by
 cases a<;>try (exact nn e;done)
 ·obtain⟨j,e2,rfl⟩:=cN e;obtain rfl:=eY e2;obtain⟨t,rfl⟩:=ra;obtain⟨u,rfl⟩:=rb;exact wpAny_lt_int q
 ·refine ar (a8 e) λm e2 e=>?_;obtain rfl:=n5 e2;refine ar (a8 e) λns hn e=>?_;refine ar (a8 e) λms hm e=>?_;obtain⟨hl,rfl⟩:=iz e;obtain⟨p,vs,rfl,_,i,_,r1⟩:=ra;obtain⟨p',ws,rfl,_,j,_,r2⟩:=rb;exact Og i j (qa r1 hn).1 (qa r2 hm).1 hl hu q
theorem Hr{x:V}{l:List V}{y:V}{z:ag}{u:ag}{r:Bool}(hy:y=.list l\/y=.tup l)(rx:VR fz s.heap x u)(ry:VR fz s.heap y z)(e:nC x l=some r) :
  (∀Q:ag->aB->Prop,Q (.bool r) s->wpAny Md A (compareOp .In u z) Q E s)/\∀Q:ag->aB->Prop,Q (.bool (!r)) s->wpAny Md A (compareOp .NotIn u z) Q E s:=by
 rcases hy with rfl|rfl
 ·obtain⟨p,vs,rfl,_,i,_,r1⟩:=ry;obtain⟨hf,rfl⟩:=DG rx r1 e;exact⟨λQ q=>in_listAt (mX x) i.isList (λz hz=>hf z (by simpa using hz) _) (by rw[rH];exact q),λQ q=>notIn_listAt (mX x) i.isList (λz hz=>hf z (by simpa using hz) _) (by rw[rH];exact q)⟩
 ·obtain⟨p,vs,rfl,_,i,_,r1⟩:=ry;obtain⟨hf,rfl⟩:=DG rx r1 e;exact⟨λQ q=>in_tupleAt (mX x) i (λz hz=>hf z (by simpa using hz) _) (by rw[rH];exact q),λQ q=>notIn_tupleAt (mX x) i (λz hz=>hf z (by simpa using hz) _) (by rw[rH];exact q)⟩
end
end
section
open PySem PySem.W PyProof.Rows PySem.SeqAt
section
variable{K:Type}[DecidableEq K]
set_option tactic.hygienic true in
theorem Cr(kvs:List (K×ag))(k:K)(v:ag)(j:K):valueAt (stored kvs k v) j=if j=k then some v else valueAt kvs j:=by
 have hmap:∀kvs:List (K×ag),valueAt (kvs.map λkv=>if kv.1=k then(kv.1,v) else kv) j=if j=k/\kvs.any (λkv=>kv.1=k) then some v else valueAt kvs j:=by
  intro kvs;induction kvs with
  |nil=>simp[valueAt]
  |cons x r ih=>
   obtain⟨a,b⟩:=x;simp only[gy,valueAt,rJ]at ih ⊢;by_cases hak:a=k
   ·subst hak;by_cases hj:j=a
    ·subst hj;simp
    ·have:¬a=j:=λe=>hj e.symm;simp only[if_true,this,decide_false,hj,false_and,if_false]at ih ⊢;exact ih
   ·simp only[hak,if_false,LB,decide_false,Lz];by_cases haj:a=j
    ·subst haj;simp[hak]
    ·simp only[haj,decide_false];exact ih
 unfold stored;split
 ·rename_i h
  rw[hmap];simp[h]
 ·rename_i h
  by_cases hj:j=k
  ·subst hj;have:kvs.find? (λkv=>decide (kv.1=j))=none:=by
    rw[Ku];intro x hx e;exact h (KX.mpr ⟨x,hx,e⟩)
   simp[valueAt,KI,this]
  ·have:¬k=j:=λe=>hj e.symm;simp[valueAt,KI,hj,this]
theorem DJ(xs:List (K×aq×ag))(k:K):(atKey xs k).map (·.2)=valueAt (xs.map λx=>(x.1,x.2.2)) k:=by
 induction xs with
 |nil=>rfl
 |cons x r ih=>
  simp only[atKey,valueAt,rJ,gy]at ih ⊢;by_cases h:x.1=k
  ·simp[h]
  ·simp only[h,decide_false];exact ih
theorem MJ(xs:List (K×aq×ag))(k:K)(a:aq)(v:ag):(storedH xs k a v).length<=xs.length+1:=by
 unfold storedH;split<;>simp
theorem LG(xs:List (K×aq×ag))(k:K)(a:aq)(v:ag)(j:K):(atKey (storedH xs k a v) j).map (·.2)=if j=k then some v else(atKey xs j).map (·.2):=by
 have:=kvsOf_storedH xs k a v;unfold kvsOf at this;rw[DJ,DJ,this,Cr]
theorem Ml{xs:List (K×aq×ag)}{k:K}{a:aq}{v:ag}{P:aq->Prop}(h:∀x∈xs,P x.2.1)(ha:P a):∀x∈storedH xs k a v,P x.2.1:=by
 intro x hx;unfold storedH at hx;split at hx
 ·obtain⟨y,hy,rfl⟩:=ip.mp hx;have:=h y hy;unfold putAt;split<;>exact this
 ·rcases gx.mp hx with hx|hx
  ·exact h x hx
  ·rw[cJ]at hx;subst hx;exact ha
end
section
variable{K:Type}[DecidableEq K]{knd:KeyKind cz w K}{A:bD}{E:ag->aB->Prop}{s:aB}
theorem Kg{d:aq}{kvs:List (K×ag)}{k:K}{key dflt:ag}{Q:ag->aB->Prop}(hkey:knd.is k key=true)(hm:s.heap.DictOf knd d kvs)
  (hthere:∀v,valueAt kvs k=some v->Q v { s with toks:=s.toks+1 })
  (hnew:valueAt kvs k=none->∀h',h'.DictOf knd d (stored kvs k dflt)->fK d s.heap h'->Q dflt { s with heap:=h',toks:=s.toks+1 })
  (hsz:kvs.length<=sizeLine):wpAny Md A (dictSetDefault d key dflt) Q E s:=by
 have hmap:=hm.mapOf;cases hv:valueAt kvs k with
 |some v=>
  refine wpAny_dictSetDefault_of hkey hmap (λv e=>hthere v e) (λe=>by rw[hv]at e;cases e) ?_;refine xu hm λo es ep ho hc hd hk hp hn=>?_;intro o' es' ep' ho' hd';rw[ho]at ho';injection ho' with ho';subst ho'
  rw[hd]at hd';injection hd' with hd';subst hd'
  have e1:=hp.length;have e2:es.toList.length=es.size:=by simp
  exact au [_,_,_,_] [] (.ln .v0 .v1) 1 [(1,.ln .v2 .v1),(1,.en .v3 .v2),(-1,.en .v3 .v0)] rfl hsz e1 e2
 |none=>
  have hm0:=hm;refine xu hm λo es ep ho hc hd hk hp hn=>?_;have hes:es.size<=sizeLine:=by
   have e1:=hp.length;have e2:es.toList.length=es.size:=by simp
   exact au [_,_,_,_] [] (.ln .v0 .v1) 1 [(1,.ln .v2 .v1),(1,.en .v3 .v2),(-1,.en .v3 .v0)] rfl hsz e1 e2
  have hfind:(es.findIdx? λe=>knd.is k e.key)=none:=by
   cases hi:es.findIdx? λe=>knd.is k e.key with
   |none=>rfl
   |some i=>
    exfalso;refine Ja hmap λo₂ es2 ep2 ho₂ hc₂ hd₂ hk₂ hf₂=>?_;rw[ho]at ho₂;injection ho₂ with ho₂;subst ho₂
    rw[hd]at hd₂;injection hd₂ with hd₂;subst hd₂
    have:=hf₂ k;rw[findBy_of_findIdx?,hi,hv]at this;have hlt:=(Array.findIdx?_eq_some_iff_findIdx_eq.mp hi).1;simp[Jp hlt]at this
  have hidx:(kvs.findIdx? λkv=>decide (kv.1=k))=none:=by
   rw[<-hp.findIdx k];obtain⟨l⟩:=es
   simpa using hfind
  have hnot:k ∉ kvs.map (·.1):=not_mem_of_findIdx_none hidx;have hany:¬(kvs.any λkv=>decide (kv.1=k))=true:=by
   rw[KX];rintro ⟨kv,hkv,he⟩;exact hnot (ip.mpr ⟨kv,hkv,of_decide_eq_true he⟩)
  unfold dictSetDefault
  try with_reducible refine ig ?_
  refine aG (knd.pyHash hkey ?_);refine aG (wpAny_dictFind_of (s:={ s with toks:=s.toks+1 }) hkey ho hd hk ?_);rw[hfind];refine aG (pT (aG (wpAny_updateDictKeys (hz:=hes) (s:={ s with toks:=s.toks+1 }) ho hd (a9 (hnew hv _ ⟨_,_,ep+1,xF _ ho (Obj.isFreed_of_dict (Kd hd _)),
   hc.mapDictKeys _,Kd hd _,hk.push hkey _,?_,?_⟩ (kT ..))))))
  ·rw[stored,if_neg hany];have:=hp.append hkey (knd.hash k) dflt;obtain⟨l⟩:=es
   simpa using this
  ·rw[stored,if_neg hany,dy,KN];refine⟨hn,by simp,?_⟩;intro a ha b hb;simp only[gy,L4,cJ]at hb;subst hb;exact λe=>hnot (e▸ha)
theorem K2{d:aq}{k:K}{key:ag}(hkey:knd.is k key=true)(hd:(d==sysModules)=false)(dflt:ag) :
  MeetsIn cz w (Builtin.«dict.setdefault» ⟨[.ref d,key,dflt],[]⟩) (λ_ R s=>∃kvs,s.heap.DictOf knd d kvs/\kvs.length<=sizeLine /\
   (∀v,valueAt kvs k=some v->R (.ok (.ret v)) { s with toks:=s.toks+1 }) /\
   (valueAt kvs k=none->∀h',h'.DictOf knd d (stored kvs k dflt)->fK d s.heap h'->R (.ok (.ret dflt)) { s with heap:=h',toks:=s.toks+1 })):=
 .of_wp λA R s zz=>o7 zz λf hm hz h1 h2=>by
  unfold Builtin.«dict.setdefault»;refine aG ?_;unfold X1;refine aG (wpAny_notOrdered_dict hm.typeIs ?_);show wpAny _ _ (pure (d,key,some dflt)) _ _ s;refine a9 ?_;show wpAny _ _ (if (d==sysModules)=true then _ else(dictSetDefault d key dflt >>= _)) _ _ s;rw[if_neg (by rw[hd];exact kW)];exact aG (Kg hkey hm (λv hv=>a9 ⟨v,rfl,h1 v hv⟩) (λhn h' hm' hs'=>a9 ⟨dflt,rfl,h2 hn h' hm' hs'⟩) hz)
end
theorem Di{l:List V}{i:Int}{v:V}(e:fF l i=some v):∃j,j<l.length/\l[j]?=some v/\((i=j)\/(i<0/\i+l.length=j)):=by
 unfold fF at e;by_cases h0:0<=i
 ·rw[if_pos h0]at e;exact⟨i.toNat,(iR.mp e).1,e,.inl (nF h0).symm⟩
 ·rw[if_neg h0]at e;by_cases h1:0<=i+l.length
  ·rw[if_pos h1]at e;exact⟨_,(iR.mp e).1,e,.inr ⟨Int.lt_of_not_ge h0,(nF h1).symm⟩⟩
  ·rw[if_neg h1]at e;exact nn e
section
variable{fz:aq->Prop}{B:aq->Prop}{Z:ae}{h:Heap}{s:aB}{A:bD}
theorem CT(H:bF cx){d:aq}(hd:h₀.get? d=none):(d==sysModules)=false:=
 beq_eq_false_iff_ne.mpr λe=>H.big (e▸hd)
theorem IL{j n:Nat}(h:j<n)(k:n<=aJ):(j:Int)<2 ^ 63:=xO (dN.2 (aQ h k)) (show((1048576:Nat):Int)<=2 ^ 63 by decide)
theorem IC{i:Int}{j n:Nat}(h:i+n=j)(k:n<=aJ):-(2 ^ 63)<=i:=ko (show -(2 ^ 63)<=(-1048576:Int) by decide) (@au [n,j] [i] (.li (.o (.k 1048576)) .v0) 1 [(-1,.ei (.a .v0 .c0) .c1),(1,.ln .v0 (.k 1048576))] rfl h k)
theorem NZ{l:List V}{a:aq}{vs:List ag}{i:Int}{t:Tok}{v:V}{Q:ag->aB->Prop}(hi:s.heap.IsList a vs.toArray)(hz:l.length<=aJ)(r:aN fz s.heap l vs)(e:fF l i=some v)
  (h:∀y,VR fz s.heap v y->Q y s):wpAny Md A (getItem (.ref a) (.int i t)) Q aw s:=by
 have hlid:=Ag;refine cm (Di e) λj hj e hij=>?_;refine ar (r.get e) λy hy ry=>?_;rw[<-r.length]at hij hj hz;rcases hij with rfl|⟨h0,hij⟩
 ·exact wpAny_getItem_list hi (eL _) (IL hj hz) (by simpa using hy) (h y ry)
 ·exact wpAny_getItem_list_neg hi h0 (by simp;exact au [_,_] [_] (.li (.o .c0) .v0) 1 [(-1,.ei (.a .v0 .c0) .c1)] rfl hij) (IC hij hz) (by simp[hij,hy]) (h y ry)
theorem PD{l:List V}{a:aq}{vs:List ag}{i:Int}{t:Tok}{v:V}{Q:ag->aB->Prop}(hi:IsTup s.heap a vs.toArray)(hz:l.length<=aJ)(r:aN fz s.heap l vs)(e:fF l i=some v)
  (h:∀y,VR fz s.heap v y->Q y s):wpAny Md A (getItem (.ref a) (.int i t)) Q aw s:=by
 have hlid:=Ag;refine cm (Di e) λj hj e hij=>?_;refine ar (r.get e) λy hy ry=>?_;rw[<-r.length]at hij hj hz;refine X2 (j:=j) hi (hij.elim (λe=>e▸ko (by decide) (eL j)) λh=>IC h.2 hz) (hij.elim (λe=>e▸IL hj hz) λh=>CD h.1 (by decide)) ?_ (by simpa using hy) (h y ry);rw[dT];unfold seqIndex?;rcases hij with rfl|⟨h0,hij⟩
 ·have h1:¬((j:Int)<0):=by exact λzz=>fS [_] [] [(1,.ti .c0 .k0)] rfl zz
  simp only[h1,if_false];rw[if_pos (by simp;exact au [_,_] [] (.tn .v0 .v1) 1 [(1,.tn .v0 .v1)] rfl hj)];rfl
 ·simp only[h0,if_true,hij];rw[if_pos (by simp;exact au [_,_] [] (.tn .v0 .v1) 1 [(1,.tn .v0 .v1)] rfl hj)];rfl
inductive Ar(fz:aq->Prop)(h:Heap)(d:aq)(y:ag)(r:Option V):Prop where
 |flat (K:Type) [DecidableEq K] (knd:KeyKind cz w K) (key:K) (kvs:List (K×ag)):knd.is key y=true->h.DictOf knd d kvs->OR fz h r (valueAt kvs key)->Ar fz h d y r
 |heap (a:aq) (key:List BB) (xs:List (List BB×aq×ag)):y=.ref a->(tupleKind kz).is h key a->h.DictOfH (tupleKind kz) d xs->OR fz h r ((atKey xs key).map (·.2))->Ar fz h d y r
theorem GV{k:V}{b:List UInt8}{y:ag}(e:A8 k=some b)(r:VR fz h k y):∃a,y=.ref a/\fz a/\(tupleKind kz).is h [.inl false,.inr b] a:=by
 refine ar (a8 e) λl e1 e=>?_;refine ar (a8 e) λp e2 e=>?_;refine ar (a8 e) λc e3 e=>?_;obtain rfl:=n5 e1;cases GJ e2
 cases c with
 |true=>exact nn e
 |false=>
  obtain⟨a,vs,rfl,f,⟨o,ho,hc,m,hd⟩,_,y1,_,rfl,r1,y2,_,rfl,r2,rfl⟩:=r;rw[Eo e3]at r1;rw[gW e]at r2;subst r1;obtain⟨t,rfl,_⟩:=r2;exact⟨a,rfl,f,o,_,m,ho,hc,hd,.cons (Ra false) (.cons (OY b t) .nil)⟩
theorem vD(i:Int)(t:Tok):(intKind cz w).is i (.int i t)=true:=by simp[intKind,Value.isInt]
theorem rW(H:bF cx)(G:aE B Z s.heap){d:aq}{k:V}{y:ag}{r:Option V}(ry:VR (Fz Z B) s.heap k y)(e:dD Z d k=some r):Ar (Fz Z B) s.heap d y r/\(d==sysModules)=false:=by
 refine ar (a8 e) λm hd e=>?_;refine g9 (G.cells d _ hd) λhge _ c=>?_;refine⟨?_,CT H hge⟩;cases m<;>try (exact nn e;done)
 all_goals obtain⟨i,ei,rfl⟩:=cN e
 ·obtain⟨kvs,hD,_,ho⟩:=c;rw[eY ei]at ry;obtain⟨t,rfl⟩:=ry;exact .flat Int (intKind cz w) i kvs (vD i t) hD (ho i)
 ·obtain⟨xs,hD,_,_,ho⟩:=c;obtain⟨a,rfl,_,hk⟩:=GV ei ry;exact .heap a _ xs rfl hk hD (ho i)
 ·obtain⟨kvs,hD,_,ho⟩:=c;rw[qh ei]at ry;obtain⟨t,rfl⟩:=ry;exact .flat Str (strKind cz w) i kvs (strKind_is cz w i t) hD (ho i)
theorem OR.is{r:Option V}{o:Option ag}(e:OR fz h r o):o.isSome=r.isSome:=by
 cases r with
 |none=>subst e;rfl
 |some v=>obtain⟨y,rfl,_⟩:=e;rfl
theorem RX(H:bF cx)(R:eD A 0)(G:aE B Z s.heap){v k r:V}{x y:ag}{Q:QV}(rx:VR (Fz Z B) s.heap v x)(ry:VR (Fz Z B) s.heap k y)(e0:getD Z v k=some r)(q:Q r Z) :
  wpAny Md A (getItem x y) (PE B Z s Q) aw s:=by
 refine ar (a8 e0) λd e1 e=>?_;refine ar (a8 e) λo e2 e=>?_;obtain rfl:=nZ e1;subst rx;have e:o=some r:=e;subst e;rcases(rW H G ry e2).1 with⟨K,knd,key,kvs,hk,hD,z,hv,ho⟩|⟨a,key,xs,rfl,hk,hD,z,hv,ho⟩
 ·exact wpAny_getItem_of hk hD.mapOf hv (PE.tok G ho q)
 ·obtain⟨p,hp,rfl⟩:=cN hv;exact wpAny_getItem_heap R.in1_unit hk hD hp (PE.tok G ho q)
end
end
section
open PySem PySem.W PyProof.Rows PySem.SeqAt
section
variable{fz fz':aq->Prop}{B:aq->Prop}{Z:ae}{h h':Heap}{s:aB}{A:bD}
theorem so(G:aE B Z s.heap){v:V}{l:List V}{x:ag}(r:VR (Fz Z B) s.heap v x)(e:qB Z v=some l):∃a vs,x=.ref a/\s.heap.PlainList a vs.toArray/\l.length<=aJ/\aN (Fz Z B) s.heap l vs:=by
 cases v<;>try (exact nn e;done)
 ·injection e with e;subst e
  refine o8 r λa vs rfl _ i hz rs=>?_;exact⟨a,vs,rfl,i,hz,rs⟩
 ·obtain⟨_,_,vs,i,hz,rs⟩:=G.cells _ _ (rY e);exact⟨_,vs,r,i,hz,rs⟩
theorem yo{v:V}{l:List V}(e:lS Z v=some l):v=.tup l\/qB Z v=some l:=by
 cases v<;>first|(exact nn e;done)|exact .inr e|((injection e with e;subst e);exact .inl rfl)
theorem S6(G:aE B Z s.heap){v k r:V}{l:List V}{x y:ag}{Q:QV}(rx:VR (Fz Z B) s.heap v x)(ry:VR (Fz Z B) s.heap k y)(e:lS Z v=some l)(e2:((eK k).bind λi=>fF l i)=some r)(q:Q r Z) :
  wpAny Md A (getItem x y) (PE B Z s Q) aw s:=by
 refine ar (a8 e2) λi ei e2=>?_;obtain rfl:=eY ei;obtain⟨t,rfl⟩:=ry;rcases yo e with rfl|e
 ·obtain⟨a,vs,rfl,_,hi,hz,rs⟩:=rx;exact PD hi hz rs e2 λy ry=>PE.same G ry q
 ·obtain⟨a,vs,rfl,hi,hz,rs⟩:=so G rx e;exact NZ hi.isList hz rs e2 λy ry=>PE.same G ry q
theorem Hl(H:bF cx)(R:eD A 0)(G:aE B Z s.heap){v k r:V}{x y:ag}{Q:QV}(rx:VR (Fz Z B) s.heap v x)(ry:VR (Fz Z B) s.heap k y)(e:eQ Z v k=some r)(q:Q r Z) :
  wpAny Md A (getItem x y) (PE B Z s Q) aw s:=by
 unfold eQ at e;cases hs:lS Z v with
 |some l=>rw[hs]at e;exact S6 G rx ry hs e q
 |none=>rw[hs]at e;exact RX H R G rx ry e q
theorem H8(H:bF cx)(R:eD A 0)(G:aE B Z s.heap){a b:V}{r:Bool}{x y:ag}(ra:VR (Fz Z B) s.heap a x)(rb:VR (Fz Z B) s.heap b y)(e0:Bf Z a b=some r) :
  (∀Q:ag->aB->Prop,(∀tk,Q (.bool r) { s with toks:=tk })->wpAny Md A (compareOp .In x y) Q aw s)/\∀Q:ag->aB->Prop,(∀tk,Q (.bool (!r)) { s with toks:=tk })->wpAny Md A (compareOp .NotIn x y) Q aw s:=by
 cases b<;>try (exact nn e0;done)
 ·have z:=Hr (A:=A) (E:=aw) (.inr rfl) ra rb e0;exact⟨λQ q=>z.1 Q (q _),λQ q=>z.2 Q (q _)⟩
 ·have z:=Hr (A:=A) (E:=aw) (.inl rfl) ra rb e0;exact⟨λQ q=>z.1 Q (q _),λQ q=>z.2 Q (q _)⟩
 ·obtain⟨o,e,rfl⟩:=cN e0;subst rb;obtain⟨c,hm⟩:=rW H G ra e;rcases c with⟨K,knd,key,kvs,hk,hD,ho⟩|⟨a,key,xs,rfl,hk,hD,ho⟩
  ·exact⟨λQ q=>wpAny_in_of hk hm hD.mapOf (by rw[ho.is];exact q _),λQ q=>wpAny_notIn_of hk hm hD.mapOf (by rw[ho.is];exact q _)⟩
  ·have ho:=ho.is;rw[Option.isSome_map]at ho;exact⟨λQ q=>wpAny_in_heap R.in1_unit hk hm hD (by rw[ho];exact q _),λQ q=>wpAny_notIn_heap R.in1_unit hk hm hD (by rw[ho];exact q _)⟩
theorem VP{A:bD}(R:eD A 0):A.units+4<cLine:=by have:=R.units;show _<9900;exact au [_] [] (.tn (.a .v0 (.k 4)) (.k 9900)) 1 [(1,.ln (.a (.a .v0 (.m 40 .k0)) (.k 100)) (.k 9000))] rfl this
theorem G9(H:bF cx)(R:eD A 0)(G:aE B Z s.heap){op:mZ}{a b:V}{r:Bool}{x y:ag}{Q:QV}(ra:VR (Fz Z B) s.heap a x)(rb:VR (Fz Z B) s.heap b y)(e0:wI Z op a b=some r)(q:Q (.bool r) Z) :
  wpAny Md A (compareOp (Ax op) x y) (PE B Z s Q) aw s:=by
 have hu:=VP R;have fin:PE B Z s Q (.bool r) s:=PE.bool G q;have fint:∀tk,PE B Z s Q (.bool r) { s with toks:=tk }:=λtk=>PE.tok (v:=.bool r) G rfl q;cases op
 ·exact(HW 4 hu (G.deref ra) (G.deref rb) e0).rc cz w _ _ fin
 ·obtain⟨t,e,rfl⟩:=cN e0;exact(HW 4 hu (G.deref ra) (G.deref rb) e).ne cz w _ _ fin
 ·exact VL R.unit ra rb e0 fin
 ·obtain⟨i,j,rfl,rfl,rfl⟩:=zO e0;obtain⟨t,rfl⟩:=ra;obtain⟨u,rfl⟩:=rb;exact PySem.P.le_int fin
 ·obtain⟨i,j,rfl,rfl,rfl⟩:=zO e0;obtain⟨t,rfl⟩:=ra;obtain⟨u,rfl⟩:=rb;exact PySem.P.gt_int fin
 ·obtain⟨i,j,rfl,rfl,rfl⟩:=zO e0;obtain⟨t,rfl⟩:=ra;obtain⟨u,rfl⟩:=rb;exact PySem.P.ge_int fin
 ·refine ar (a8 e0) λu e1 e=>?_;obtain rfl:=sE e1;subst rb;rcases Gk ra e with⟨rfl,rfl⟩|⟨rfl,hp,hx⟩
  ·exact wpAny_is_self rfl fin
  ·exact wpAny_is_other hp hx fin
 ·refine ar (a8 e0) λu e1 e=>?_;obtain⟨t,e2,rfl⟩:=cN e;obtain rfl:=sE e1;subst rb;rcases Gk ra e2 with⟨rfl,rfl⟩|⟨rfl,hp,hx⟩
  ·exact wpAny_isNot_self rfl fin
  ·exact wpAny_isNot_other hp hx fin
 ·exact(H8 H R G ra rb e0).1 _ fint
 ·obtain⟨t,e,rfl⟩:=cN e0;exact(H8 H R G ra rb e).2 _ fint
theorem PE.mut{Q:QV}(G:aE B Z s.heap){a:aq}{m m':M}(e:Z a=some m){tk:Nat}(hs:fK a s.heap h')(r:MR (Fz (ak Z a m') B) h' a m'){v:V}{y:ag}(rv:VR (Fz Z B) s.heap v y)(q:Q v (ak Z a m')) :
  PE B Z s Q y { s with heap:=h',toks:=tk }:=⟨v,_,⟨G.mut e hs r,.mut e iU hs rfl rfl⟩,rv.mono (mP e hs),q⟩
theorem PU.mut{Q:ae->Prop}(G:aE B Z s.heap){a:aq}{m m':M}(e:Z a=some m){tk:Nat}(hs:fK a s.heap h')(r:MR (Fz (ak Z a m') B) h' a m')(q:Q (ak Z a m')) :
  PU B Z s Q { s with heap:=h',toks:=tk }:=⟨_,⟨G.mut e hs r,.mut e iU hs rfl rfl⟩,q⟩
theorem tM{a:aq}{m:M}(e:Z a=some m){l':List V}{vs':List ag}(hp:h'.PlainList a vs'.toArray)(hs:fK a h h')(hz:l'.length<=aJ)(r:aN (Fz Z B) h l' vs'):MR (Fz (ak Z a (.list l')) B) h' a (.list l'):=
 ⟨vs',hp,hz,r.mono (mP e hs)⟩
theorem rO{l:aq}{items ws:Array ag}{n:Nat}(ho:h.get? l=some { cls:=.type "list",data:=.seq items n })(f:Array ag->Array ag)(hf:f items=ws):(h.update l (Obj.mapSeq f)).PlainList l ws:=by
 subst hf;refine⟨if (f items).size==items.size then n else n+1,?_⟩;rw[xF _ ho (by rfl)];rfl
theorem Nt{a:Nat}{l:List V}{v:V}{x:ag}{Q:QV}(G:aE B Z s.heap)(e:Z a=some (.list l))(r:VR (Fz Z B) s.heap v x)(hz:l.length<aJ)(q:Q .none (ak Z a (.list (l++[v])))) :
  wpAny Md A (call (.builtin "list.append") [.ref a,x]) (PE B Z s Q) aw s:=by
 obtain⟨_,_,vs,hp,_,rs⟩:=G.cells a _ e;refine JF hp (λh' hp' hs=>?_) (by rw[dT,rs.length];exact gc (cv hz));rw[KU]at hp';exact PE.mut (v:=.none) (tk:=s.toks) G e hs (tM e hp' hs (by rw[bB];exact hz) (rs.append (.one r))) rfl q
theorem Qh{vs:List ag}:vs.toArray.eraseIdxIfInBounds (vs.toArray.size-1)=vs.dropLast.toArray:=by
 rw[BA];apply ML
 by_cases h0:vs=[]
 ·subst h0;rfl
 ·have hpos:0<vs.length:=mx.mpr h0;simp only[Array.eraseIdxIfInBounds,dT];rw[dif_pos (by exact au [_,_] [] (.tn .v0 .v1) 1 [(1,.en (.a .v0 .k1) .v1)] rfl (aZ (au [_] [] (.ln .k1 .v0) 1 [(1,.tn .k0 .v0)] rfl hpos)))];simp[List.eraseIdx_eq_take_drop_succ,List.drop_of_length_le (show vs.length<=vs.length-1+1 by exact au [_,_] [] (.ln .v0 (.a .v1 .k1)) 1 [(1,.ln .v0 (.a .v1 .k1))] rfl cW)]
end
end
section
open PySem PySem.W PyProof.Rows PySem.SeqAt
section
variable{fz fz':aq->Prop}{B:aq->Prop}{Z:ae}{h h':Heap}{s:aB}{A:bD}
theorem UC{a:Nat}{l:List V}{v:V}{Q:QV}(G:aE B Z s.heap)(e:Z a=some (.list l))(hv:l.getLast?=some v)(q:Q v (ak Z a (.list l.dropLast))) :
  wpAny Md A (call (.builtin "list.pop") [.ref a]) (PE B Z s Q) aw s:=by
 obtain⟨_,_,vs,⟨n,hp⟩,hz,rs⟩:=G.cells a _ e;rw[Bt]at hv;obtain⟨y,hy,ry⟩:=rs.get hv;refine nR JZ ⟨_,hp,rfl⟩ PySem.F.entry_list_pop (PySem.F.args_list_pop_1 _) (MeetsSeq.list_pop_last a vs.toArray n y (by rw[dT,rs.length,uh];exact hy) (by rw[dT,rs.length];exact gc hz)) ⟨hp,?_⟩;refine PE.mut (tk:=s.toks) G e (kT ..) (tM (vs':=vs.dropLast) e (rO hp _ Qh) (kT ..) (ai (by rw[List.length_dropLast];exact ez _ _) hz) ?_) ry q;rw[BA,BA,rs.length];exact rs.take _
theorem NM{a:Nat}{l l':List V}{x:ag}{Q:QV}(G:aE B Z s.heap)(e:Z a=some (.list l))(r:VR (Fz Z B) s.heap (.list l') x)(hz:l.length+l'.length<=aJ)(q:Q .none (ak Z a (.list (l++l')))) :
  wpAny Md A (call (.builtin "list.extend") [.ref a,x]) (PE B Z s Q) aw s:=by
 obtain⟨_,_,vs,⟨n,hp⟩,_,rs⟩:=G.cells a _ e;obtain⟨b,ws,rfl,_,⟨n2,hp2⟩,_,rs2⟩:=r;have hz':vs.length+ws.length<=1048576:=by rw[rs.length,rs2.length];exact hz
 have hb:¬(!vs.toArray.isEmpty&&xy (vs.toArray.size+ws.toArray.size))=true:=by
  have:xy (vs.toArray.size+ws.toArray.size)=false:=by
   simp only[xy,CZ,dT];simp;exact au [_,_] [] (.ln (.a .v0 .v1) (.k 16777216)) 1 [(1,.ln (.a .v0 .v1) (.k 1048576))] rfl hz'
  rw[this,Lm];exact kW
 refine nR JB ⟨_,hp,rfl⟩ PySem.F.entry_list_extend (PySem.F.args_list_extend_2 _ _)
  (AutoSeq1.list_extend_list_list_0 a vs.toArray n b ws.toArray n2 hb (ai (ai (aL _ _) hz') (by decide)) (ai hz' (by decide))) ⟨hp,hp2,?_⟩
 exact PE.mut (v:=.none) (tk:=s.toks) G e (kT ..) (tM (vs':=vs++ws) e (rO hp (λxs=>xs++ws.toArray) (BK _ _)) (kT ..) (by rw[bB];exact hz) (rs.append rs2)) rfl q
theorem Nh{a:Nat}{l:List V}{Q:QV}(G:aE B Z s.heap)(e:Z a=some (.list l))(q:Q .none (ak Z a (.list l.reverse))) :
  wpAny Md A (call (.builtin "list.reverse") [.ref a]) (PE B Z s Q) aw s:=by
 obtain⟨_,_,vs,⟨n,hp⟩,hz,rs⟩:=G.cells a _ e;refine nR Jy ⟨_,hp,rfl⟩ PySem.F.entry_list_reverse (PySem.F.args_list_reverse_1 _) (AutoSeq1.list_reverse_list_0 a vs.toArray n (by rw[dT,rs.length];exact gc hz)) ⟨hp,?_⟩;exact PE.mut (v:=.none) (tk:=s.toks) G e (kT ..) (tM (vs':=vs.reverse) e (rO hp (λxs=>xs.reverse) List.reverse_toArray) (kT ..) (by rw[my];exact hz) rs.reverse) rfl q
theorem Rv(H:bF cx)(G:aE B Z s.heap){v k d r:V}{o x y:ag}{Q:QV}(rv:VR (Fz Z B) s.heap v o)(rk:VR (Fz Z B) s.heap k x)(rd:VR (Fz Z B) s.heap d y)(e0:wo Z v k d=some r)(q:Q r Z) :
  wpAny Md A (call (.builtin "dict.get") [o,x,y]) (PE B Z s Q) aw s:=by
 have main:(j5 v).bind (λa=>(dD Z a k).map λr=>r.getD d)=some r->(∀l,k≠.tup l)->wpAny Md A (call (.builtin "dict.get") [o,x,y]) (PE B Z s Q) aw s:=λe nt=>by
  refine ar (a8 e) λa e1 e=>?_;obtain⟨z,e2,rfl⟩:=cN e;obtain rfl:=nZ e1;subst rv;rcases(rW H G rk e2).1 with⟨K,knd,key,kvs,hk,hD,ho⟩|⟨b,key,xs,rfl,hk,hD,ho⟩
  ·refine call_meetsIn JX hD.typeIs PySem.F.entry_dict_get (PySem.F.args_dict_get_3 _ _ _) (meets_dict_get_default knd _ hk (rW H G rk e2).2 y) ⟨_,hD.mapOf,?_⟩;cases z with
   |none=>rw[show valueAt kvs key=none from ho];exact PE.tok G rd q
   |some v=>obtain⟨u,hu,ru⟩:=ho;rw[hu];exact PE.tok G ru q
  ·exfalso;refine ar (a8 e2) λm hd e2=>?_;cases m<;>try (exact nn e2;done)
   all_goals refine ar (cN e2) λi ei _=>?_
   ·obtain rfl:=eY ei;obtain⟨t,rk⟩:=rk;cases rk
   ·obtain⟨l,el,_⟩:=a8 ei;exact nt l (n5 el)
   ·obtain rfl:=qh ei;obtain⟨t,rk⟩:=rk;cases rk
 cases k<;>first|exact nn e0|exact main e0 λl e=>nn (show none=some l from congrArg mh e)
theorem HK{d n:Nat}{f:Int->Option V}{kvs:List (Int×ag)}{i:Int}{v:V}{y:ag}(e:Z d=some (.dI n f))(hlen:kvs.length<=n)(ho:∀k,OR (Fz Z B) h (f k) (valueAt kvs k))(r:VR (Fz Z B) h v y)(hD':h'.DictOf (intKind cz w) d (stored kvs i y))(hs:fK d h h') :
  MR (Fz (ak Z d (.dI (n+1) λj=>if j=i then some v else f j)) B) h' d (.dI (n+1) λj=>if j=i then some v else f j):=by
 refine⟨_,hD',ai (stored_length_le ..) (cK hlen),λj=>?_⟩;rw[Cr];by_cases hj:j=i
 ·rw[if_pos hj];show OR _ _ (if j=i then some v else f j) _;rw[if_pos hj];exact⟨y,rfl,r.mono (mP e hs)⟩
 ·rw[if_neg hj];show OR _ _ (if j=i then some v else f j) _;rw[if_neg hj];exact(ho j).mono (mP e hs)
theorem LN(H:bF cx){d n:Nat}{f:Int->Option V}{i:Int}{dv:V}{x y:ag}{Q:QV}(G:aE B Z s.heap)(rk:VR (Fz Z B) s.heap (.int i) x)(rd:VR (Fz Z B) s.heap dv y)
  (e:Z d=some (.dI n f)) (hn:n<aJ) (q:match f i with|some v=>Q v Z|none=>Q dv (ak Z d (.dI (n+1) λj=>if j=i then some dv else f j))):wpAny Md A (call (.builtin "dict.setdefault") [.ref d,x,y]) (PE B Z s Q) aw s:=by
 obtain⟨hge,_,kvs,hD,hlen,ho⟩:=G.cells d _ e;obtain⟨t,rfl⟩:=rk;have hoi:=ho i;refine call_meetsIn Jk hD.typeIs PySem.F.entry_dict_setdefault (PySem.F.args_dict_setdefault_3 _ _ _) (K2 (vD i t) (CT H hge) y)
  ⟨kvs,hD,gc (ai hlen (cv hn)),λz hz=>?_,λhz h' hD' hs=>?_⟩
 ·cases hf:f i with
  |none=>rw[hf,hz]at hoi;exact sn hoi
  |some v=>rw[hf]at hoi q;obtain⟨u,hu,ru⟩:=hoi;rw[hz]at hu;(injection hu with hu;subst hu);exact PE.tok G ru q
 ·cases hf:f i with
  |none=>rw[hf]at q;exact PE.mut G e hs (HK e hlen ho rd hD' hs) rd q
  |some v=>rw[hf,hz]at hoi;obtain⟨u,hu,_⟩:=hoi;exact nn hu
end
end
section
open PySem PySem.W PyProof.Rows PySem.SeqAt
section
variable{fz fz':aq->Prop}{B:aq->Prop}{Z:ae}{h h':Heap}{s:aB}{A:bD}
theorem Nj{l:aq}{items:Array ag}{k:Int}{j:Nat}{t:Tok}{v:ag}{Q:Unit->aB->Prop}(hl:s.heap.PlainList l items)(hk:k=gC j\/(k=uC 0/\j+1=items.size))(hfit:Bs k=true)(hlt:j<items.size)
  (hQ:∀h',h'.PlainList l (items.setIfInBounds j v)->fK l s.heap h'->Q () { s with heap:=h' }) :
  wpAny Md A (setItem (.ref l) (.int k t) v) Q aw s:=by
 refine bA (id hl) λn ho=>?_;have hd:({ cls:=.type "list",data:=.seq items n }:Obj).data=.seq items n:=rfl;unfold setItem
 try with_reducible refine ig ?_
 first|refine aG (a9 ?_)|skip
 refine aG (wpAny_sequenceKey hl.isList.typeIs (by decide) ?_);refine aG (wpAny_callSpecial?_slot (name:=Str.ofString "__setitem__") hl.isList.typeIs KV
  (K4 KV hl.isList.typeIs entry_list_setitem ?_ (args_list_setitem _ _ _)))
 show wpAny _ _ (XY (.int k t) >>= _) _ _ s;refine aG (wpAny_listSubscript_int hfit ?_);clear hfit;have hx':items[j]?=some items[j]:=Jp hlt;rcases hk with rfl|⟨rfl,hj⟩
 ·show wpAny _ _ ((seqItemAt l j >>= λr=>pure (r.map (j,·))) >>= _) _ _ s;refine aG (aG (wpAny_seqItemAt ho hd (a9 ?_)));rw[hx'];show wpAny _ _ (setSeqItemAt l j v >>= _) _ _ s;refine aG (Kz ho hd ?_);exact a9 ⟨.none,rfl,a9 (hQ _ (rO ho (·.setIfInBounds j v) rfl) (kT ..))⟩
 ·have hidx:seqIndex? (uC 0) items.size=some j:=by
   rw[<-hj,seqIndex_neg (by decide) (show -((j+1:Nat):Int)<=uC 0 from Int.neg_le_neg (gB.2 (df 1 j)))];exact congrArg some n1
  show wpAny _ _ ((X7 (.ref l) >>= λxs=>pure ((seqIndex? (uC 0) xs.size).bind λi=>xs[i]?.map (i,·))) >>= _) _ _ s;refine aG (aG ?_);show wpAny _ _ (seqItems? (.ref l) >>= _) _ _ s;refine aG (ux ho hd (a9 (a9 ?_)));rw[hidx,Ca,hx'];show wpAny _ _ (setSeqItemAt l j v >>= _) _ _ s;refine aG (Kz ho hd ?_);exact a9 ⟨.none,rfl,a9 (hQ _ (rO ho (·.setIfInBounds j v) rfl) (kT ..))⟩
theorem S8(G:aE B Z s.heap){a:Nat}{l:List V}{i:Int}{x:V}{t:Tok}{c:ag}{Q:ae->Prop}(e:Z a=some (.list l))(rc:VR (Fz Z B) s.heap x c)(q:IT Z a l i x Q):wpAny Md A (setItem (.ref a) (.int i t) c) (λ_=>PU B Z s Q) aw s:=by
 obtain⟨_,_,vs,hp,hz,rs⟩:=G.cells a _ e;have hlid:=Ag;have hl:=rs.length;have main:∀j,j<l.length->(i=gC j\/(i=uC 0/\j+1=vs.toArray.size))->Bs i=true->Q (ak Z a (.list (l.set j x)))->wpAny Md A (setItem (.ref a) (.int i t) c) (λ_=>PU B Z s Q) aw s:=λj hj hk hf q=>
  Nj hp hk hf (by rw[dT,hl];exact hj) λh' hp' hs=>PU.mut (tk:=s.toks) G e hs (tM (vs':=vs.set j c) e (by rw[List.setIfInBounds_toArray]at hp';exact hp') hs (by rw[Ce];exact hz) (rs.set rc j)) q
 rcases q with⟨h0,h1,q⟩|⟨rfl,h0,q⟩
 ·exact main i.toNat ((Int.toNat_lt h0).2 h1) (.inl (nF h0).symm) (fitsIndex_of h0 (xO h1 (ko (gB.2 hz) (show((1048576:Nat):Int)<=2 ^ 63 by decide)))) q
 ·have hpos:0<l.length:=mx.mpr h0;exact main _ (nP hpos mD) (.inr ⟨rfl,by rw[dT,hl];exact BS hpos⟩) (fitsIndex_neg (by decide) (by decide)) q
theorem D7(H:bF cx)(R:eD A 0)(G:aE B Z s.heap){v k x:V}{a b c:ag}{Q:ae->Prop}(ra:VR (Fz Z B) s.heap v a)(rb:VR (Fz Z B) s.heap k b)(rc:VR (Fz Z B) s.heap x c)
  (e:jx Z v k x Q):wpAny Md A (setItem a b c) (λ_=>PU B Z s Q) aw s:=by
 refine ar (bj e) λd e1 e=>?_;refine ar (bj e) λm hd e=>?_;obtain rfl:=nZ e1;subst ra;cases m<;>try exact e.elim
 ·refine ar (bj e) λi ei e=>?_;obtain rfl:=eY ei;obtain⟨t,rfl⟩:=rb;exact S8 G hd rc e
 ·refine cm (bj e) λi ei hn q=>?_;obtain rfl:=eY ei;obtain⟨t,rfl⟩:=rb;obtain⟨_,_,kvs,hD,hlen,ho⟩:=G.cells d _ hd;exact wpAny_setItem_pairs (vD i t) hD (λh' hD' hs=>PU.mut G hd hs (HK hd hlen ho rc hD' hs) q) (gc (ai hlen (cv hn)))
 ·refine cm (bj e) λbs ei hn q=>?_;obtain⟨_,_,xs,hD,hlen,hfz,ho⟩:=G.cells d _ hd;obtain⟨p,rfl,hfp,hk⟩:=GV ei rb;refine wpAny_setItem_heap R.in1_unit hk hD (λh' hD' hs=>?_) (gc (ai hlen (cv hn)));have fz':∀m y,Fz Z B y->Fz (ak Z d m) B y:=λm y f=>⟨(i8 (vj hd f.1)).trans f.1,f.2⟩
  refine PU.mut G hd hs ?_ q;refine⟨_,hD',ai (MJ ..) (cK hlen),Ml (λy hy=>fz' _ _ (hfz y hy)) (fz' _ _ hfp),λj=>?_⟩;rw[LG];show OR _ _ (if j=bs then some x else _) _;by_cases hj:j=bs
  ·subst hj;rw[if_pos rfl,if_pos rfl];exact⟨c,rfl,rc.mono (mP hd hs)⟩
  ·rw[if_neg hj,if_neg λz=>hj (Mm (mA (mA z).2).1)];exact(ho j).mono (mP hd hs)
end
end
section
open PySem PySem.W PyProof.Rows PySem.SeqAt
theorem zB{α:Type}{c:Prop}[Decidable c]{a:Option α}{b:α}(h:(if c then a else none)=some b):c/\a=some b:=by
 by_cases hc:c
 ·rw[if_pos hc]at h;exact⟨hc,h⟩
 ·rw[if_neg hc]at h;exact nn h
section
variable{fz fz':aq->Prop}{B:aq->Prop}{Z:ae}{h h':Heap}{s:aB}{A:bD}
theorem NS{v:V}{x:ag}(r:VR fz h v x):handedIn x=true:=by
 cases v
 ·subst r;rfl
 ·subst r;rfl
 ·obtain⟨t,rfl⟩:=r;rfl
 ·obtain⟨t,rfl⟩:=r;rfl
 ·obtain⟨t,rfl,r⟩:=r;rfl
 ·obtain⟨a,vs,rfl,r⟩:=r;rfl
 ·obtain⟨a,vs,rfl,r⟩:=r;rfl
 ·obtain⟨a,rfl,r⟩:=r;rfl
 ·obtain⟨a,d,es,n,rfl,r⟩:=r;rfl
 ·subst r;rfl
theorem vE{x y:Str}{t:Tok}:(Value.str x t).isStr y=(x==y):=rfl
theorem jm{x y:Str}(h:x≠y):(x==y)=false:=beq_eq_false_iff_ne.mpr h
theorem Ks.find{a:bG}{v:V}:∀{ks:List bG}{l:List V}{es:List DictEntry},Ks ks es->aN fz h l (es.map (·.val))->(∀b∈ks,an b=an a->b=a)->kL ks l a=some v->∃y,es.find? (λe=>e.key.isStr (an a))=some y/\VR fz h v y.val:=by
 intro ks;induction ks with
 |nil=>intro l es _ _ _ e;exact nn e
 |cons b ks ih=>
  intro l es k r inj e;obtain⟨x,es,t,rfl,hk,k⟩:=k;cases l with
  |nil=>exact nn e
  |cons u l=>
   obtain⟨y,ys,q,ru,r⟩:=r;obtain⟨rfl,rfl⟩:=mA q;replace e:(if b=a then some u else kL ks l a)=some v:=e;by_cases hb:b=a
   ·rw[if_pos hb]at e;injection e with e;subst e
    exact⟨x,by rw[rJ,hk,vE,hb,beq_self_eq_true],ru⟩
   ·rw[if_neg hb]at e;refine ar (ih k r (λc hc=>inj c (.tail _ hc)) e) λy hy ry=>?_;exact⟨y,by rw[rJ,hk,vE,jm λq=>hb (inj b (.head _) q)];exact hy,ry⟩
theorem Ks.noRef:∀{ks:List bG}{es:List DictEntry},Ks ks es->es.any (·.refKey)=false
 :=λ{ks}=>@(li (λ{_}e=>e▸rfl) (λ_ _ ih{_}h=>kR h λx es t e hk k=>by rw[e,LB,ih k,DictEntry.refKey,hk];rfl) ks)
theorem Ks.miss{n:Str}:∀{ks:List bG}{es:List DictEntry},Ks ks es->(∀b∈ks,an b≠n)->getL n es=some none:=by
 intro ks es k hm;have:es.find? (·.key.isStr n)=none:=by
  rw[Ku];intro x hx q;induction ks generalizing es with
  |nil=>subst k;exact nm hx
  |cons b ks ih=>
   obtain⟨y,es,t,rfl,hk,k⟩:=k;rcases cq.mp hx with rfl|hx
   ·rw[hk,vE,jm (hm b (.head _))]at q;exact bn q
   ·exact ih k (λc hc=>hm c (.tail _ hc)) hx
 rw[getL,this,k.noRef];rfl
theorem DP:∀(fs:List (bG×V))(a:bG),tm fs a=kL (fs.map (·.1)) (fs.map (·.2)) a
 |[],_=>rfl
 |(b,v)::r,a=>congrArg (ite (b=a) (some v)) (DP r a)
def wj(Z:ae)(B:aq->Prop)(h:Heap)(c:Nat)(ks:List bG)(l:List V)(x:ag):Prop:=
 ∃p d es n,x=.ref p/\InstAt h p (instObj (ca c) d) (ca c) (some (mF es n))/\Ks ks es/\aN (Fz Z B) h l (es.map (·.val))/\∀b∈ks,(dH c).contains b=true
theorem Hs(G:aE B Z h){c d:Nat}{p:Nat×List (bG×V)}{x:ag}(r:VR (Fz Z B) h (.inst c d) x)(e:gJ Z d=some p)(hc:p.1=c):wj Z B h c (p.2.map (·.1)) (p.2.map (·.2)) x:=by
 obtain⟨a,rfl,_,hp⟩:=r;obtain⟨_,_,es,n,hd,k,rs,hf⟩:=G.cells d _ (yl e);refine⟨a,d,es,n,rfl,⟨hp,rfl,rfl,hd⟩,k,rs,λb hb=>?_⟩;obtain⟨q,hq,rfl⟩:=ip.mp hb;rw[<-hc];exact hf q hq
theorem Ii{c:Nat}{fs:List V}{x:ag}(r:VR (Fz Z B) h (.obj c fs) x):wj Z B h c (dH c) fs x:=by
 obtain⟨a,d,es,n,rfl,_,_,hp,hd,k,rs⟩:=r;exact⟨a,d,es,n,rfl,⟨hp,rfl,rfl,hd⟩,k,rs,λb hb=>fH.mpr hb⟩
theorem z9(H:bF cx){c:Nat}(h:dH c≠[]\/∃m,lR c m≠none):Aq K₀ c:=(kZ (c<5)).elim (λq=>(H.cn c q).2) λq=>
 h.elim (λz=>absurd (H.cno c q).1 z) λz=>z.elim λm z=>absurd ((H.cno c q).2 m) z
theorem Ft(H:bF cx)(G:aE B Z s.heap){c:Nat}{ks:List bG}{l:List V}{x:ag}{a:bG}{r:V}{expr:Bool}{Q:QV}(I:wj Z B s.heap c ks l x)(ha:(dH c).contains a=true)(e:kL ks l a=some r)(q:Q r Z) :
  wpAny Md A (getAttr x (an a) expr) (PE B Z s Q) aw s:=by
 obtain⟨p,d,es,n,rfl,I,k,rs,hf⟩:=I;have O:=z9 H (c:=c) (.inl λz=>by rw[z]at ha;exact bn ha);obtain⟨y,hy,ry⟩:=k.find rs (λb hb z=>O.inj b a (hf b hb) ha z) e;exact get_value (H.X.keeps G.base) I (CU (name:="") O.get).1 (findObj_own O.has (O.fld a ha) rfl (by rw[lookIn_dict,getL,hy])) (NS ry) (PE.tok G ry q)
theorem Fs:∀{ks:List bG}{l:List V}{a:bG}{v:V},kL ks l a=some v->a∈ks
 |[],_,_,_,e=>nn e
 |_::_,[],_,_,e=>nn e
 |b::ks,u::l,a,v,e=>(kZ (b=a)).elim (λq=>q▸.head _) λq=>.tail _ (Fs ((if_neg q).symm.trans e))
theorem Fu(H:bF cx)(G:aE B Z s.heap){v r:V}{a:bG}{x:ag}{expr:Bool}{Q:QV}(rv:VR (Fz Z B) s.heap v x)(e0:jF Z v a=some r)(q:Q r Z) :
  wpAny Md A (getAttr x (an a) expr) (PE B Z s Q) aw s:=by
 cases v<;>try (exact nn e0;done)
 ·refine ar (a8 e0) λp e1 e=>?_;refine aT (zB e) λhc e=>?_;rw[DP]at e;exact Ft H G (Hs G rv e1 hc.1) hc.2 e q
 ·exact Ft H G (Ii rv) (fH.mpr (Fs e0)) e0 q
theorem Gh(H:bF cx)(G:aE B Z s.heap){c:Nat}{ks:List bG}{l:List V}{x:ag}{m f:Nat}{pl:Sem Bool}{Q:ag×List ag->aB->Prop}(I:wj Z B s.heap c ks l x)(e:lR c m=some f)(q:Q (.ref (fa f),[x]) s) :
  wpAny Md A (getMethod x (an m) pl) Q aw s:=by
 obtain⟨p,d,es,n,rfl,I,k,rs,hf⟩:=I;have O:=z9 H (c:=c) (.inr ⟨m,λz=>by rw[z]at e;cases e⟩);obtain⟨m1,m2,m3⟩:=O.mth m f e;exact method_fn (H.X.keeps G.base) I (CU (name:="") O.get).1 (CU (name:="") O.get).2 m1 (beq_iff_eq.mp m2)
  (by show(lookIn (an m) (mF es n)).map _ = _;rw[lookIn_dict,k.miss λb hb=>m3 b (hf b hb)];rfl) q
theorem Sr(H:bF cx)(G:aE B Z s.heap){v:V}{m f:Nat}{x:ag}{pl:Sem Bool}{Q:ag×List ag->aB->Prop}(rv:VR (Fz Z B) s.heap v x)(e0:oq Z v m=some f)(q:Q (.ref (fa f),[x]) s) :
  wpAny Md A (getMethod x (an m) pl) Q aw s:=by
 cases v<;>try (exact nn e0;done)
 ·refine ar (a8 e0) λp e1 e=>?_;refine aT (zB e) λhc e=>?_;exact Gh H G (Hs G rv e1 hc) e q
 ·exact Gh H G (Ii rv) e0 q
theorem Qj(n:Str)(hsh:Int)(key v:ag):∀es:List DictEntry,(putL n hsh key v es).length<=es.length+1:=λrr=>li (aC _)
 (λe r ih=>by
  unfold putL;split
  ·exact eN _
  ·exact cK (ih)) rr
theorem OD{R:Result->aB->Prop}{p d Caa:aq}{name:Str}{tk:Tok}{v:ag}{es:List DictEntry}{n:Nat}(X:K₀.In s.heap)(I:InstAt s.heap p (instObj Caa d) Caa (some (mF es n)))(hd:s.heap.get? d=some (mF es n))(ho:plainOver K₀ Caa=true)
  (hf:findIn K₀ (.ref Caa) name=some none) (hh:hasDictIn K₀ Caa=true) (hnr:es.any (·.refKey)=false) (hz:es.length<=1000)
  (h:R (.ok (.ret .none)) { s with heap:=s.heap.update d (CR name (pD w.params name) (.str name s.toks) v),toks:=s.toks+1 }) :
  codeAny Md A (.call (.builtin "object.__setattr__") ⟨[.ref p,.str name tk,v],[]⟩) R s:=by
 refine osa_open X I ho (r:=none) (by unfold takerIn;rw[hf];rfl) λb=>?_;refine ar (any_some hh) λcd hc hd'=>?_;have hput:=putName_dict name (pD w.params name) (.str name s.toks) v es n;have D':(s.heap.update d (CR name (pD w.params name) (.str name s.toks) v)).get? d=some (mF (putL name (pD w.params name) (.str name s.toks) v es) (putN name es n)):=by
  rw[<-hput];exact xF _ hd (by rw[hput];rfl)
 refine aG (a9 (aG (aG (Lx I.1 (aG ((looks_clsIn X hc).here ?_))))));rw[hd'];refine a9 (a:=some d) (aG (a9 (aG ?_)));unfold nsSet;refine aG (aG (wpAny_askSetting (a9 (aG (wpAny_mkText (aG (Lx hd ?_)))))))
 dsimp only
 rw[aRefKeyMayBeTheName_at,show(!(es.toArray).any (·.key.isStr name)&&(es.toArray).any (·.refKey))=false by rw[rH,rH,hnr,Lm]];refine wpAny_updatePart hd ?_;refine aG (wpAny_lookBehind D' (pastItsLine_dict (by rw[dT,CZ];exact ai (Qj ..) (ai (cK hz) (by decide)))) ?_);exact a9 h
theorem Ks.len:∀{ks:List bG}{es:List DictEntry},Ks ks es->es.length=ks.length
 |[],_,e=>e▸rfl
 |_::_,_,⟨_,_,_,e,_,k⟩=>e▸congrArg (·+1) k.len
theorem Ks.put{a:bG}{v:V}{x:ag}{hsh:Int}{tk:Tok}(rv:VR fz h v x):∀{fs:List (bG×V)}{es:List DictEntry},(∀p∈fs,an p.1=an a->p.1=a)->Ks (fs.map (·.1)) es->aN fz h (fs.map (·.2)) (es.map (·.val)) ->
  Ks ((setA fs a v).map (·.1)) (putL (an a) hsh (.str (an a) tk) x es)/\aN fz h ((setA fs a v).map (·.2)) ((putL (an a) hsh (.str (an a) tk) x es).map (·.val)):=by
 intro fs;induction fs with
 |nil=>intro es _ k r;subst k;exact⟨⟨_,_,tk,rfl,rfl,rfl⟩,_,_,rfl,rv,rfl⟩
 |cons p fs ih=>
  intro es inj k r;obtain⟨b,u⟩:=p;obtain⟨e,es,t,rfl,hk,k⟩:=k;obtain⟨y,ys,q,ru,r⟩:=r;obtain⟨rfl,rfl⟩:=mA q;rw[setA,putL,hk,vE];by_cases hb:b=a
  ·rw[if_pos hb,if_pos (by rw[hb,beq_self_eq_true])];exact⟨⟨_,_,t,rfl,rfl,k⟩,_,_,rfl,rv,r⟩
  ·rw[if_neg hb,if_neg (by rw[jm λq=>hb (inj (b,u) (.head _) q)];exact kW)];have z:=ih (λp hp=>inj p (.tail _ hp)) k r;exact⟨⟨_,_,t,rfl,hk,z.1⟩,_,_,rfl,ru,z.2⟩
theorem QB{a:bG}{v:V}{P:bG->Prop}(ha:P a):∀{fs:List (bG×V)},(∀p∈fs,P p.1)->∀p∈setA fs a v,P p.1:=by
 intro fs;induction fs with
 |nil=>intro _ p hp;rw[cJ.mp hp];exact ha
 |cons q fs ih=>
  intro hf p hp;rw[setA]at hp;by_cases hb:q.1=a
  ·rw[if_pos hb]at hp;rcases cq.mp hp with rfl|hp
   ·exact hf q (.head _)
   ·exact hf p (.tail _ hp)
  ·rw[if_neg hb]at hp;rcases cq.mp hp with rfl|hp
   ·exact hf q (.head _)
   ·exact ih (λp hp=>hf p (.tail _ hp)) p hp
theorem Q6{v:V}{i:Nat×Nat}(h:IY v=some i):v=.inst i.1 i.2:=by cases v<;>first|((injection h with h;subst h);rfl)|exact nn h
theorem E7(H:bF cx)(G:aE B Z s.heap){v x:V}{a:bG}{y z:ag}{Q:ae->Prop}(rv:VR (Fz Z B) s.heap v y)(rx:VR (Fz Z B) s.heap x z)(e:qE Z v a x Q) :
  wpAny Md A (setAttr y (an a) z) (λ_=>PU B Z s Q) aw s:=by
 refine ar (bj e) λpp290_ e1 e=>?_;obtain⟨c,d⟩:=pp290_;obtain⟨⟨c',fs⟩,e2,rfl,ha,hz,q⟩:=bj e;obtain rfl:=Q6 e1;have hd:=yl e2;obtain⟨p,rfl,_,hp⟩:=rv;obtain⟨_,_,es,n,hdd,k,rs,hf⟩:=G.cells d _ hd;have X:=H.X.keeps G.base;have O:=z9 H (c:=c') (.inl λz=>by rw[z]at ha;exact bn ha);have I:InstAt s.heap p (instObj (ca c') d) (ca c') (some (mF es n)):=⟨hp,rfl,rfl,hdd⟩
 refine set_plain X I O.setA (OD (s:={ s with toks:=s.toks+1 }) X I hdd O.over (O.fld a ha) O.has k.noRef (by rw[k.len,aY];exact ai hz (by decide)) ?_);have hs:fK d s.heap (s.heap.update d (CR (an a) (pD w.params (an a)) (.str (an a) (s.toks+1)) z)):=kT ..;refine PU.mut G hd hs ?_ q;have hput:=putName_dict (an a) (pD w.params (an a)) (.str (an a) (s.toks+1)) z es n;have hk:=Ks.put (hsh:=pD w.params (an a)) (tk:=s.toks+1) rx (λp hp z=>O.inj p.1 a (hf p hp) ha z) k rs;exact⟨_,_,by rw[xF _ hdd (by rw[hput];rfl),hput],hk.1,hk.2.mono (mP hd hs),QB (P:=λb=>(dH c').contains b=true) ha hf⟩
end
end
section
open PySem PySem.W PyProof.Rows PySem.SeqAt
noncomputable def td(b:BI):ag:=match b with
 |.len=>.builtin "len"
 |.isB=>.builtin "isinstance"
 |.isS=>.builtin "isinstance"
 |.isBS=>.builtin "isinstance"
 |.int=>.type "int"
 |.max=>.builtin "max"
 |.min=>.builtin "min"
 |.max1=>.builtin "max"
 |.min1=>.builtin "min"
 |.sum=>.builtin "sum"
 |.bytes=>.type "bytes"
theorem Mr:∀{l:List Int}{bs:List UInt8},vi l=some bs->bs=l.map (λn=>n.toNat.toUInt8)/\∀n∈l,0<=n/\n<256:=by
 intro l;induction l with
 |nil=>intro bs e;(injection e with e;subst e);exact⟨rfl,λ_ h=>nm h⟩
 |cons i l ih=>
  intro bs e;refine ar (a8 e) λb eb e=>?_;obtain⟨m,em,rfl⟩:=cN e;obtain⟨hr,rfl⟩:=iz eb;obtain⟨rfl,h2⟩:=ih em;exact⟨rfl,λn hn=>(cq.mp hn).elim (λq=>q▸hr) (h2 n)⟩
section
variable{fz fz':aq->Prop}{B:aq->Prop}{Z:ae}{h h':Heap}{s:aB}{A:bD}
theorem sZ{vs:List V}{v:V}{xs:List ag}(e:one vs=some v)(r:aN fz h vs xs):∃x,xs=[x]/\VR fz h v x:=by
 cases vK e
 obtain⟨x,ys,rfl,q,rfl⟩:=r;exact⟨x,rfl,q⟩
theorem wg{vs:List V}{p:V×V}{xs:List ag}(e:aF vs=some p)(r:aN fz h vs xs):∃x y,xs=[x,y]/\VR fz h p.1 x/\VR fz h p.2 y:=by
 cases GJ e
 obtain⟨x,ys,rfl,q,y,zs,rfl,q2,rfl⟩:=r;exact⟨x,y,rfl,q,q2⟩
theorem sQ{vs:List ag}{ns:List Int}(hi:IntsAre vs ns):∀i v,vs.toArray[i]?=some v->∃t,v=Nq ((λi=>ns.getD i 0) i) t:=by
 intro i v h;rw[uh]at h;have hlt:=(iR.mp h).1;have hn:ns[i]?=some (ns[i]'(by rw[<-hi.length];exact hlt)):=bL _;refine bA (hi.get i _ hn) λt ht=>?_;rw[h]at ht;injection ht with ht;subst ht
 exact⟨t,by show _ = Nq (ns.getD i 0) t;rw[fe,hn];rfl⟩
abbrev vF(l:aq):Obj:={ cls:=.type "list_iterator",data:=.fields #[.ref l,.int 0 0] }
theorem zG{l:aq}{vs:Array ag}(hl:h.IsList l vs):l≠h.objs.size:=hl.elim λo q=>gR (kj q.1)
theorem zF{l:aq}{vs:Array ag}(hl:s.heap.IsList l vs):∀b∈[s.heap.objs.size,l],b<(s.heap.push (vF l)).objs.size:=by
 intro b hb;rw[Cn];rcases cq.mp hb with rfl|hb
 ·exact bu _
 ·rw[cJ.mp hb];exact hl.elim λo q=>eM (kj q.1)
theorem zH{l:aq}{vs:Array ag}(hl:s.heap.IsList l vs):(s.heap.push (vF l)).IsListIter s.heap.objs.size l 0/\(s.heap.push (vF l)).IsList l vs:=
 ⟨⟨_,kc _ rfl,rfl,rfl⟩,hl.elim λo q=>⟨o,pq _ q.1,q.2⟩⟩
theorem yr{l:aq}{h':Heap}(hk:∀b o,b ∉ [s.heap.objs.size]->(s.heap.push (vF l)).get? b=some o->h'.get? b=some o):bI s.heap h':=
 λb o e=>hk b o (λq=>gR (kj e) (cJ.mp q)) (pq _ e)
theorem OF{l:aq}{vs:List ag}{ns:List Int}{Q:ag->aB->Prop}(hh:A.handled=none)(hl:s.heap.IsList l vs.toArray)(hi:IntsAre vs ns)
  (h:∀s' t,bI s.heap s'.heap->s'.gens=s.gens->s'.os=s.os->Q (.int (cj ns) t) s'):wpAny Md A (call (.builtin "sum") [.ref l]) Q aw s:=by
 refine call_sum_walkAnyS (xY hl ?_);refine⟨s.heap.objs.size,_,_,_,_,_,_,λi=>ns.getD i 0,rfl,(C3 (A:=A.in1) hh s.heap.objs.size l (zG hl) vs.toArray).toS,zH hl,zF hl,sQ hi,λs' t' hm=>?_⟩;rw[show vs.toArray.size=ns.length from dT.trans hi.length];exact h s' t' (yr hm.heap) hm.gens hm.os
theorem DA{l:aq}{vs:List ag}{ns:List Int}(hh:A.handled=none)(hl:s.heap.IsList l vs.toArray)(hi:IntsAre vs ns)(hne:ns≠[]) :
  (∀Q:ag->aB->Prop,(∀h' tk t,bI s.heap h'->Q (.int (lM (λa b=>decide (a > b)) ns) t) { s with heap:=h',toks:=tk })->wpAny Md A (call (.builtin "max") [.ref l]) Q aw s) /\
  ∀Q:ag->aB->Prop,(∀h' tk t,bI s.heap h'->Q (.int (lM (λa b=>decide (a<b)) ns) t) { s with heap:=h',toks:=tk })->wpAny Md A (call (.builtin "min") [.ref l]) Q aw s:=by
 have hsz:vs.toArray.size=ns.length:=dT.trans hi.length;have hpos:0<vs.toArray.size:=hsz▸mx.mpr hne;refine⟨λQ h=>call_max_walk (xY hl ?_),λQ h=>call_min_walk (xY hl ?_)⟩
 ·refine⟨s.heap.objs.size,_,_,_,_,_,_,rfl,C3 (A:=A.in1) hh s.heap.objs.size l (zG hl) vs.toArray,zH hl,zF hl,hpos,CmpOf.ints_gt (λi=>ns.getD i 0) (sQ hi),λv h' tk hv hk=>?_⟩;refine bA (sQ hi _ v hv) λt ht=>?_;rw[ht,hsz];exact h h' tk t (yr hk)
 ·refine⟨s.heap.objs.size,_,_,_,_,_,_,rfl,C3 (A:=A.in1) hh s.heap.objs.size l (zG hl) vs.toArray,zH hl,zF hl,hpos,CmpOf.ints_lt (λi=>ns.getD i 0) (sQ hi),λv h' tk hv hk=>?_⟩;refine bA (sQ hi _ v hv) λt ht=>?_;rw[ht,hsz];exact h h' tk t (yr hk)
theorem Px{b:Array UInt8}{t:Tok}{Q:ag->aB->Prop}(h:Q (.bool true) s):wpAny Md A (call (.builtin "isinstance") [.bytes b t,.type "bytes"]) Q aw s:=
 Ci (isinstance_true JD JE) ⟨rB s b t,h⟩
theorem Py{b:Array UInt8}{t:Tok}{Q:ag->aB->Prop}(h:Q (.bool false) { s with toks:=s.toks+1 }):wpAny Md A (call (.builtin "isinstance") [.bytes b t,.type "str"]) Q aw s:=
 Ci (S:=λ_ R s=>R (.ok (.ret (.bool false))) { s with toks:=s.toks+1 }) (λ_ _ _ _ s hs=>by
  obtain⟨h,g,d,t,os⟩:=s;exact isinstance_outer (Jj (by decide) JV J1 hs)) h
theorem NX{b:Array UInt8}{t:Tok}{tp:aq}{Q:ag->aB->Prop}(ht:s.heap.get? tp=some { cls:=.type "tuple",data:=.seq [.type "bytes",.type "str"].toArray })(h:∀tk,Q (.bool true) { s with toks:=tk }):wpAny Md A (call (.builtin "isinstance") [.bytes b t,.ref tp]) Q aw s:=
 Ci (isinstance_tuple (Tx:="bytes") (cs:=[.type "bytes",.type "str"]) (vs:=[true,false])
  ⟨Answers.of_true JD JE,λ_ _ _ _ _ _ s hs=>by
   obtain⟨h,g,d,t,os⟩:=s;exact Jj (by decide) JV J1 (hs.2 (t+1)),trivial⟩) ⟨rB s b t,ht,h⟩
theorem PE.keep{Q:QV}{s':aB}{v:V}{y:ag}(G:aE B Z s.heap)(k:bI s.heap s'.heap)(hg:s'.gens=s.gens)(ho:s'.os=s.os)(r:VR (Fz Z B) s'.heap v y)(q:Q v Z):PE B Z s Q y s':=⟨v,Z,.keeps G k hg ho,r,q⟩
theorem PE.intK{Q:QV}{i:Int}{t:Tok}{tk:Nat}(G:aE B Z s.heap)(k:bI s.heap h')(q:Q (.int i) Z):PE B Z s Q (.int i t) { s with heap:=h',toks:=tk }:=PE.keep (v:=.int i) G k rfl rfl ⟨t,rfl⟩ q
theorem Up(G:aE B Z s.heap){v r:V}{x:ag}{Q:QV}(rv:VR (Fz Z B) s.heap v x)(e:wW Z v=some r)(q:Q r Z):wpAny Md A (call (.builtin "len") [x]) (PE B Z s Q) aw s:=by
 have hlt:∀n:Nat,n<=aJ->((n:Nat):Int)<2 ^ 63:=λn h=>dN.mpr (bC h (by decide));have main:((lS Z v).map λl=>V.int l.length)=some r->wpAny Md A (call (.builtin "len") [x]) (PE B Z s Q) aw s:=λe=>by
  obtain⟨l,e1,rfl⟩:=cN e;rcases yo e1 with rfl|e
  ·obtain⟨a,vs,rfl,_,hi,hz,rs⟩:=rv;refine X8 hi (by rw[dT,rs.length];exact hlt _ hz) ?_;rw[dT,rs.length];exact PE.int G q
  ·obtain⟨a,vs,rfl,hi,hz,rs⟩:=so G rv e;refine Yh hi.isList (by rw[dT,rs.length];exact hlt _ hz) ?_;rw[dT,rs.length];exact PE.int G q
 cases v<;>first|exact main e|skip
 injection e with e;subst e
 obtain⟨t,rfl,hz⟩:=rv;refine PySem.W.len_bytes (by rw[dT];exact ai hz (by decide)) ?_;rw[dT];exact PE.int G q
theorem Pe{f:Int->Int->Bool}{v r:V}(e:qK f v=some r):∃l ns,v=.list l/\eO l=some ns/\ns≠[]/\r=.int (lM f ns):=by
 refine ar (a8 e) λl el e=>?_;refine ar (a8 e) λns en e=>?_;cases ns with
 |nil=>exact nn e
 |cons n ns=>exact⟨l,_,lp el,en,(λz=>nc z),(di e).symm⟩
theorem SG{vs:List V}{xs:List ag}{r:V}{f:V->Option V}(rs:aN fz h vs xs)(e:(one vs).bind f=some r):∃v x,f v=some r/\xs=[x]/\VR fz h v x:=by
 refine ar (a8 e) λv e1 e=>?_;refine ar (sZ e1 rs) λx e2 rv=>?_;exact⟨v,x,e,e2,rv⟩
theorem Tn{vs:List V}{xs:List ag}{r:V}{f:Int->Int->Int}(rs:aN fz h vs xs)(e:wM f vs=some r):∃i j t u,r=.int (f i j)/\xs=[.int i t,.int j u]:=by
 refine ar (a8 e) λp e1 e=>?_;refine cp (wg e1 rs) λx y ex ra rb=>?_;refine XS (EK e) λi j k e2 e3 ek e4=>?_;rw[e2]at ra;rw[e3]at rb;refine bA ra λt ht=>?_;refine bA rb λu hu=>?_;exact⟨i,j,t,u,by rw[e4,<-di ek],by rw[ex,ht,hu]⟩
theorem Pu{v r:V}(e:AX v=some r):(∃b,v=.bool b/\r=.int (if b then 1 else 0))\/∃i,v=.int i/\r=.int i:=by
 cases v<;>first
  |exact nn e
  |exact .inl ⟨_,rfl,(di e).symm⟩
  |exact .inr ⟨_,rfl,(di e).symm⟩
section
variable{v r:V}{x:ag}{Q:QV}{vs:List V}{xs:List ag}
theorem TH(G:aE B Z s.heap)(rv:VR (Fz Z B) s.heap v x)(e:AX v=some r)(q:Q r Z):wpAny Md A (call (.type "int") [x]) (PE B Z s Q) aw s:=by
 rcases Pu e with⟨b,e1,e2⟩|⟨i,e1,e2⟩
 ·rw[e1]at rv;rw[e2]at q;subst rv;exact call_int_bool (PE.int G q)
 ·rw[e1]at rv;rw[e2]at q;refine bA rv λt ht=>?_;rw[ht];exact call_int_int (PE.same (v:=.int _) G ⟨t,rfl⟩ q)
theorem GW(G:aE B Z s.heap)(hh:A.handled=none){f:Int->Int->Bool}{w:ag}(hw:∀{l:aq} {ws:List ag} {ns:List Int},s.heap.IsList l ws.toArray->IntsAre ws ns->ns≠[]->∀Q:ag->aB->Prop,(∀h' tk t,bI s.heap h'->Q (.int (lM f ns) t) { s with heap:=h',toks:=tk })->wpAny Md A (call w [.ref l]) Q aw s)
  (rv:VR (Fz Z B) s.heap v x) (e:qK f v=some r) (q:Q r Z):wpAny Md A (call w [x]) (PE B Z s Q) aw s:=by
 refine xt (Pe e) λl ns ev en hne er=>?_;rw[ev]at rv;rw[er]at q;refine o8 rv λa ws ex _ hl hz rl=>?_;rw[ex];exact hw hl.isList (qa rl en).1 hne _ λh' tk t hk=>PE.intK G hk q
theorem TJ(G:aE B Z s.heap)(hh:A.handled=none)(rv:VR (Fz Z B) s.heap v x)(e:((qB Z v).bind λl=>(eO l).map λxs=>V.int (cj xs))=some r)(q:Q r Z):wpAny Md A (call (.builtin "sum") [x]) (PE B Z s Q) aw s:=by
 refine ar (a8 e) λl el e=>?_;refine ar (cN e) λns en er=>?_;rw[<-er]at q;refine xt (so G rv el) λa ws ex hl hz rl=>?_;rw[ex];exact OF hh hl.isList (qa rl en).1 λs' t hk hg ho=>PE.keep (v:=.int _) G hk hg ho ⟨t,rfl⟩ q
theorem TG(G:aE B Z s.heap)(hh:A.handled=none)(rv:VR (Fz Z B) s.heap v x)(e:((j4 v).bind λl=>(eO l).bind λxs=>(vi xs).map V.bytes)=some r)(q:Q r Z):wpAny Md A (call (.type "bytes") [x]) (PE B Z s Q) aw s:=by
 refine ar (a8 e) λl el e=>?_;refine ar (a8 e) λns en e=>?_;refine ar (cN e) λbs hbs er=>?_;rw[lp el]at rv;rw[<-er]at q;refine o8 rv λa ws ex _ hl hz rl=>?_;rw[ex];have hb:=Mr hbs;rw[hb.1]at q;have hi:=qa rl en;exact call_bytes_ints hl.isList hi.1 hb.2 (by rw[rl.length];exact gc hz) hh λh' t k hk=>PE.keep (v:=.bytes _) G hk rfl rfl ⟨t,rfl,by rw[aY,hi.2];exact hz⟩ q
theorem GY(G:aE B Z s.heap){c:Int->Int->Bool}{w:ag}(hw:∀{i j:Int} {t u:Tok} {Q:ag->aB->Prop},(∀h' tk,bI s.heap h'->Q (if c i j then .int j u else .int i t) { s with heap:=h',toks:=tk })->wpAny Md A (call w [.int i t,.int j u]) Q aw s)
  (rs:aN (Fz Z B) s.heap vs xs) (e:wM (λa b=>if c a b then b else a) vs=some r) (q:Q r Z):wpAny Md A (call w xs) (PE B Z s Q) aw s:=by
 refine Jc (Tn rs e) λi j t u er ex=>?_;rw[er]at q;rw[ex];refine hw λh' tk hk=>?_;by_cases hc:c i j=true
 ·rw[if_pos hc]at q ⊢;exact PE.intK G hk q
 ·rw[if_neg hc]at q ⊢;exact PE.intK G hk q
end
theorem F6{p:Prop}[Decidable p]{x y:Int}:(if decide p=true then x else y)=if p then x else y:=by
 by_cases h:p
 ·rw[if_pos h,if_pos (decide_eq_true h)]
 ·rw[if_neg h,decide_eq_false h];rfl
theorem Vs{b:BI}{vs:List V}{xs:List ag}{r:V}{Q:QV}(R:eD A 0)(G:aE B Z s.heap)(rs:aN (Fz Z B) s.heap vs xs)(hb:wu b=false)(e0:oV Z b vs=some r)(q:Q r Z) :
  wpAny Md A (call (td b) xs) (PE B Z s Q) aw s:=by
 have hh:=R.hd;have one':∀{f:V->Option V}{w:ag},(one vs).bind f=some r->(∀v x,f v=some r->VR (Fz Z B) s.heap v x->wpAny Md A (call w [x]) (PE B Z s Q) aw s)->wpAny Md A (call w xs) (PE B Z s Q) aw s:=λe k=>by
  refine cp (SG rs e) λv x e ex rv=>?_;rw[ex];exact k v x e rv
 cases b with
 |len=>exact one' e0 λv x e rv=>Up G rv e q
 |isB=>exact nb hb
 |isS=>exact nb hb
 |isBS=>exact nb hb
 |int=>exact one' e0 λv x e rv=>TH G rv e q
 |max=>exact GY G (c:=λa b=>decide (a<b)) (λk=>max_two_ints hh λh' tk hk=>by have:=k h' tk hk;simpa using this) rs (by rw[show(λa b:Int=>if decide (a<b)=true then b else a)=λa b=>if a<b then b else a from funext λ_=>funext λ_=>F6];exact e0) q
 |min=>exact GY G (c:=λa b=>decide (b<a)) (λk=>min_two_ints hh λh' tk hk=>by have:=k h' tk hk;simpa using this) rs (by rw[show(λa b:Int=>if decide (b<a)=true then b else a)=λa b=>if b<a then b else a from funext λ_=>funext λ_=>F6];exact e0) q
 |max1=>exact one' e0 λv x e rv=>GW G hh (λhl hi hn=>(DA hh hl hi hn).1) rv e q
 |min1=>exact one' e0 λv x e rv=>GW G hh (λhl hi hn=>(DA hh hl hi hn).2) rv e q
 |sum=>exact one' e0 λv x e rv=>TJ G hh rv e q
 |bytes=>exact one' e0 λv x e rv=>TG G hh rv e q
end
end
section
set_option maxRecDepth 10000
open PySem PySem.W PyProof.Rows PySem.SeqAt
theorem NC(i:Int)(t:Tok):J4 (some (.int i t))=pure (some i):=by
 unfold J4;show(specialOf (.int i t) "__index__" >>= _) = _;rw[show specialOf (.int i t) "__index__"=pure (some (.builtin "int.__index__")) from by show typeLookup (.type "int") "__index__" = _;rw[rM,rj];kernel_rfl];rfl
noncomputable def tQ(n:Nat)(i:Int)(k:Nat):Option (Nat×Nat):=if (ui n (some i) none).2-(ui n (some i) none).1<k then none else some ((ui n (some i) none).1.toNat,(ui n (some i) none).2.toNat)
theorem MY(b c:Array UInt8)(t u:Tok)(i:Int)(v:Tok) :
  Gives (Builtin.«bytes.find» ⟨[.bytes b t,.bytes c u,.int i v],[]⟩)
   (.int (match (tQ b.size i c.size).bind λp=>rC b c p.1 p.2 with|some i=>(i:Int)|none=>-1)):=by
 unfold Builtin.«bytes.find» Yc;refine .of_wp λM A E s Q h=>?_;refine aG ?_;unfold X4;refine aG (gb (a:=(.bytes b t,[.bytes c u,.int i v])) rfl ?_);refine aG (gb (a:=some i) (NC i v) ?_);refine aG (gb (a:=none) rfl ?_);refine aG (gb (a:=some c) Cu ?_);refine aG (a9 ?_);refine aG (gb (a:=b) rfl ?_);refine a9 ?_
 dsimp only [Bool.false_eq_true,if_false]
 show wpAny M A (match (tQ b.size i c.size).bind λp=>rC b c p.1 p.2 with
   |some i=>retInt i
   |none=>_) _ E s
 cases hf:(tQ b.size i c.size).bind λp=>rC b c p.1 p.2 with
 |some k=>rw[hf]at h;exact aG (rT (a9 ⟨_,rfl,h⟩))
 |none=>rw[hf]at h;exact aG (pT (aG (rT (a9 ⟨_,rfl,h⟩))))
noncomputable def oC(left:Bool)(p:UInt8->Bool)(b:List UInt8):List UInt8:=((match left with
 |true=>b.dropWhile p
 |false=>b).reverse.dropWhile p).reverse
theorem uL(left:Bool)(p:UInt8->Bool)(b:List UInt8):(oC left p b).Sublist b:=by
 have h1:∀l:List UInt8,((l.reverse.dropWhile p).reverse).Sublist l:=λl=>by
  have:=(JG p (l:=l.reverse)).reverse;rw[List.reverse_reverse]at this;exact this
 cases left with
 |true=>exact(h1 _).trans (JG p)
 |false=>exact h1 b
section
variable{M:Model}{A:bD}{E:ag->aB->Prop}{s:aB}
theorem DU{Q:ag->aB->Prop}{l:Array UInt8}(hz:l.size<=sizeLine)(h:∀u,Q (.bytes l u) { s with toks:=s.toks+1 }):wpAny M A (JA.new l) Q E s:=by
 show wpAny M A (mkBytes l) _ E s;unfold mkBytes;rw[if_neg (bc.mpr hz)];exact aG (wpAny_fresh (a9 (h _)))
theorem Ec{Q:ag->aB->Prop}{left:Bool}{p:UInt8->Bool}{b:Array UInt8}{t:Tok}{t1:Sem Fin}(hz:b.size<=sizeLine)(h1:Q (.bytes b t) s->wpAny M A t1 (λfin s'=>∃v,fin=.done (.ret v)/\Q v s') E s)
  (h:∀u tk,Q (.bytes (oC left p b.toList).toArray u) { s with toks:=tk }) :
  wpAny M A (if ((oC left p b.toList).length==b.size)=true then t1 else JA.new (oC left p b.toList).toArray >>= λv=>ret v) (λfin s'=>∃v,fin=.done (.ret v)/\Q v s') E s:=by
 by_cases hl:((oC left p b.toList).length==b.size)=true
 ·rw[if_pos hl];refine h1 ?_;have:=h t s.toks;rw[(uL left p b.toList).eq_of_length ((eq_of_beq hl).trans xJ.symm),J2]at this;exact this
 ·rw[if_neg hl];exact aG (DU (by rw[dT];exact ai (uL left p b.toList).length_le (by rw[xJ];exact hz)) λu=>a9 ⟨_,rfl,h _ _⟩)
theorem Lk{Q:Option (Array UInt8×Option ag)->aB->Prop}{id:String}{b:Array UInt8}{t:Tok}(h:Q (some (b,none)) s):wpAny M A (Ji id (.bytes b t) 0) Q E s:=by
 have e1:Jq id (.bytes b t) 0=pure (some (b,none)):=by
  unfold Jq;rw[KBy.special_eq KBy.look_buffer,KBy.own_buffer,show((0:Int)==X0)=false from by decide,Cu];kernel_rfl
 unfold Ji;exact aG (wpAny_attempt (gb e1 (a9 h)))
theorem Sb{keep:List ag}{Q:Unit->aB->Prop}:∀{ws:List (ag×Option ag)},(∀x∈ws,x.1.onHeap=false/\x.2=none)->Q () s->wpAny M A (X6 ws keep) Q E s:=by
 intro ws;induction ws with
 |nil=>exact λ_ h=>a9 h
 |cons x r ih=>
  intro hw h;obtain⟨y,u⟩:=x;cases (hw (y,u) (.head _)).2
  show wpAny M A (letGo [y] _ >>= _) Q E s;exact aG (wpAny_letGo (ih (λx hx=>hw x (.tail _ hx)) h))
theorem N5{vs:List ag}{bs:List (List UInt8)}{Q:Fin->aB->Prop}(hlen:vs.length=bs.length)(hb:∀(i:Nat) (b:List UInt8),bs[i]?=some b->∃t,vs[i]?=some (CS b.toArray t))
  {f:Nat->(Array (Array UInt8)×List (ag×Option ag))->Sem (ForInStep (Array (Array UInt8)×List (ag×Option ag)))} {k:Array (Array UInt8)×List (ag×Option ag)->Sem Fin}
  (turn:∀i(b:List UInt8)(t:Tok)p,vs[i]?=some (.bytes b.toArray t)->(∀x∈p.2,x.1.onHeap=false/\x.2=none)->∀P:ForInStep (Array (Array UInt8)×List (ag×Option ag))->aB->Prop,P (.yield (p.1.push b.toArray,p.2++[(.bytes b.toArray t,none)])) s->wpAny M A (f i p) P E s)
  (h:∀p,p.1.toList=bs.map (·.toArray)->(∀x∈p.2,x.1.onHeap=false/\x.2=none)->wpAny M A (k p) Q E s) :
  wpAny M A (forIn [:vs.toArray.size] (#[],[]) f >>= k) Q E s:=by
 refine aG ?_;rw[XW];refine K5 _ (λrest p s'=>s'=s/\∃i,i+rest.length=bs.length/\rest=uD i rest.length/\p.1.toList=(bs.take i).map (·.toArray)/\∀x∈p.2,x.1.onHeap=false/\x.2=none) _ ?_ ?_ _ _ ⟨rfl,0,?_,?_,rfl,λx hx=>nm hx⟩
 ·rintro i rest p s' ⟨rfl,j,hj,hr,hp,ha⟩
  rw[nH,List.range'_succ]at hr;obtain⟨rfl,e2⟩:=mA hr;have hlt:i<bs.length:=hj▸hF (fi _);have hbi:bs[i]?=some bs[i]:=bL hlt;refine bA (hb i _ hbi) λt ht=>?_;refine turn i bs[i] t p ht ha _ ⟨rfl,i+1,(cH _ _).trans hj,e2,?_,λx hx=>(gx.mp hx).elim (ha x) λhx=>?_⟩
  ·rw[Array.toList_push,hp,xU,hbi,dy];rfl
  ·rw[cJ.mp hx];exact⟨rfl,rfl⟩
 ·rintro p s' ⟨rfl,j,hj,hr,hp,ha⟩
  exact h p (by rw[hp,show j=bs.length from hj,nJ]) ha
 ·rw[BO,aU,<-hlen];simp[Yj]
 ·rw[BO]
end
theorem CL(parts:List (Array UInt8)):(xG #[] parts).toList=(parts.map (·.toList)).flatten:=by
 have key:∀(l:List (Array UInt8×Nat))(acc:Array UInt8),(l.foldl (λout(x:Array UInt8×Nat)=>(if x.2 > 0 then out++#[] else out)++x.1) acc).toList=acc.toList++((l.map (·.1)).map (·.toList)).flatten:=by
  intro l;induction l with
  |nil=>intro acc;exact(gP _).symm
  |cons x r ih=>intro acc;rw[x6,ih,Array.append_empty,ite_self,Array.toList_append,eU];rfl
 exact(key parts.zipIdx #[]).trans (by rw[List.zipIdx_map_fst];rfl)
theorem OG:∀(l:List (Array UInt8))(z:Nat),l.foldl (λ(x:Nat)(y:Array UInt8)=>x+y.size) z=z+((l.map (·.toList)).flatten).length:=λrr=>li (λz=>rfl)
 (λx r ih z=>by rw[x6,ih,gy,List.flatten_cons,bB,cu];rfl) rr
theorem M8(t:Tok)(l:aq)(vs:List ag)(bs:List (List UInt8))(hlen:vs.length=bs.length)(hb:∀(i:Nat) (b:List UInt8),bs[i]?=some b->∃t,vs[i]?=some (CS b.toArray t))(hz:bs.flatten.length<=sizeLine) :
  Meets (Builtin.«bytes.join» ⟨[.bytes #[] t,.ref l],[]⟩) (λ_ R s=>s.heap.IsList l vs.toArray/\∀u tk,R (.ok (.ret (.bytes bs.flatten.toArray u))) { s with toks:=tk }):=
 .of_wp λcz w A R s h=>by
  obtain⟨hl,h⟩:=h;have hT:=hl.typeIs;obtain⟨o,ho,hc,n,hd⟩:=hl;unfold Builtin.«bytes.join» Yn;refine aG (gb (a:=(.bytes #[] t,.ref l)) rfl ?_);refine aG ?_;show wpAny _ _ (JC (.ref l)) _ _ s;unfold JC;refine aG (wpAny_typeOf hT (a9 ?_));refine aG (ux ho hd ?_)
  dsimp only
  rw[if_pos (by decide)];by_cases h1:vs.toArray.size=1
  ·obtain⟨x,rfl⟩:∃x,vs=[x]:=Bx.mp h1;show wpAny _ _ (typeOf _ >>= _) _ _ s;obtain⟨b,rfl⟩:∃b,bs=[b]:=Bx.mp hlen.symm;obtain⟨t',ht⟩:=hb 0 b rfl;injection ht with ht;subst ht
   refine aG (gb (a:=.type "bytes") rfl ?_);rw[if_pos (by decide)];have:=h t' s.toks;rw[List.flatten_singleton]at this;exact aG (pT (a9 ⟨_,rfl,this⟩))
  ·unfold XX;rw[dif_neg h1];show wpAny _ _ (forIn [:_] _ _ >>= _) _ _ s;refine N5 hlen hb (λi b t' p hv ha P hP=>?_) λp hp ha=>?_
   ·refine aG (ux ho hd ?_);have hget:vs.toArray.getD i .none=.bytes b.toArray t':=by rw[Array.getD_eq_getD_getElem?,uh,hv];rfl
    dsimp only
    rw[KH.mpr λx hx=>by rw[(ha x hx).1];exact kW,hget,if_neg (by decide)];refine aG (ig (Lk (aG (ux ho hd ?_))))
    dsimp only
    rw[if_neg (by rw[bne_self_eq_false];exact kW)];exact a9 hP
   ·refine aG (gb (a:=#[]) rfl ?_);have htot:(xG #[] p.1.toList).toList=bs.flatten:=by rw[CL,hp,ik];exact congrArg List.flatten (List.map_id bs)
    have hjz:(xG #[] p.1.toList).size<=sizeLine:=by rw[<-xJ,htot];exact hz
    rw[if_neg (by rw[<-Array.foldl_toList,OG,<-CL,xJ,show(#[]:Array UInt8).size*(p.1.size-1)=0 from Nat.zero_mul _,aU,KBy.tooLong_not (by rw[CZ]at hjz;exact hjz)];exact kW)];refine aG (DU hjz λu=>?_);refine aG (ig (wpAny_point (aG (Sb ha (a9 ⟨_,rfl,?_⟩)))));rw[show xG #[] p.1.toList=bs.flatten.toArray from ML htot];exact h _ _
theorem Mg(b:Array UInt8)(t:Tok)(hz:b.size<=sizeLine):Meets (Builtin.«bytes.rstrip» ⟨[.bytes b t],[]⟩) (λ_ R s=>∀u tk,R (.ok (.ret (.bytes (oC false JM b.toList).toArray u))) { s with toks:=tk }):=
 .of_wp λcz w A R s h=>by
  unfold Builtin.«bytes.rstrip» J5;refine aG (gb (a:=(.bytes b t,[])) rfl ?_);refine aG (a9 ?_);refine aG (gb (a:=b) rfl ?_);exact Ec (left:=false) (p:=JM) (Q:=λv s'=>R (.ok (.ret v)) s') hz (λe=>aG (pT (aG (gb (a:=.bytes b t) rfl (a9 ⟨_,rfl,e⟩))))) h
theorem MC(b c:Array UInt8)(t v:Tok)(hz:b.size<=sizeLine):Meets (Builtin.«bytes.strip» ⟨[.bytes b t,.bytes c v],[]⟩) (λ_ R s=>∀u tk,R (.ok (.ret (.bytes (oC true c.contains b.toList).toArray u))) { s with toks:=tk }):=
 .of_wp λcz w A R s h=>by
  unfold Builtin.«bytes.strip» J5;refine aG (gb (a:=(.bytes b t,[.bytes c v])) rfl ?_);refine aG ?_;unfold X5;refine aG (gb (a:=some c) Cu ?_);refine a9 (aG (a9 ?_));refine aG (gb (a:=b) rfl ?_);exact Ec (left:=true) (p:=c.contains) (Q:=λv s'=>R (.ok (.ret v)) s') hz (λe=>aG (pT (aG (gb (a:=.bytes b t) rfl (a9 ⟨_,rfl,e⟩))))) h
end
section
set_option maxRecDepth 100000
open PySem PySem.W PyProof.Rows PySem.SeqAt
theorem Cj:Slot "bytes" "find" "bytes.find":=
 .of (owner:="bytes") (n:="find") (by rw[rM,rj];kernel_rfl) (by decide +kernel) (by decide +kernel) (by decide +kernel)
  (by first|exact .inl (by decide +kernel)|exact .inr (by decide +kernel)) (by rw[pG];kernel_rfl)
theorem BV:Slot "bytes" "isalpha" "bytes.isalpha":=
 .of (owner:="bytes") (n:="isalpha") (by rw[rM,rj];kernel_rfl) (by decide +kernel) (by decide +kernel) (by decide +kernel)
  (by first|exact .inl (by decide +kernel)|exact .inr (by decide +kernel)) (by rw[pG];kernel_rfl)
theorem B3:Slot "bytes" "rstrip" "bytes.rstrip":=
 .of (owner:="bytes") (n:="rstrip") (by rw[rM,rj];kernel_rfl) (by decide +kernel) (by decide +kernel) (by decide +kernel)
  (by first|exact .inl (by decide +kernel)|exact .inr (by decide +kernel)) (by rw[pG];kernel_rfl)
theorem Cb:Slot "bytes" "strip" "bytes.strip":=
 .of (owner:="bytes") (n:="strip") (by rw[rM,rj];kernel_rfl) (by decide +kernel) (by decide +kernel) (by decide +kernel)
  (by first|exact .inl (by decide +kernel)|exact .inr (by decide +kernel)) (by rw[pG];kernel_rfl)
theorem Ck:Slot "bytes" "join" "bytes.join":=
 .of (owner:="bytes") (n:="join") (by rw[rM,rj];kernel_rfl) (by decide +kernel) (by decide +kernel) (by decide +kernel)
  (by first|exact .inl (by decide +kernel)|exact .inr (by decide +kernel)) (by rw[pG];kernel_rfl)
theorem Pl(x:UInt8):∀(l pre:List UInt8),(((jN l.length).map (·+pre.length)).find? λj=>(pre++l).toArray.extract j (j+1)==#[x])=(lO x l).map (·+pre.length):=by
 intro l;induction l with
 |nil=>intro pre;rfl
 |cons b r ih=>
  intro pre;have ih:=ih (pre++[b]);have e0:(pre++b::r).toArray.extract (0+pre.length) (0+pre.length+1)=#[b]:=by
   rw[<-Array.toList_inj,aU,Array.toList_extract,List.extract_eq_take_drop,cD];show((pre++b::r).drop pre.length).take 1=[b]
   rw[Co];rfl
  rw[nH,JH,gy,rJ,lO,e0];by_cases hb:b=x
  ·rw[hb,beq_self_eq_true,if_pos rfl];rfl
  ·rw[if_neg hb,show((#[b]:Array UInt8)==#[x])=false from beq_eq_false_iff_ne.mpr λq=>hb (List.head_eq_of_cons_eq (congrArg Array.toList q))];rw[eU,List.singleton_append,bB,List.length_singleton]at ih;rw[ik,show((λx=>x+pre.length)∘Nat.succ:Nat->Nat)=(λx=>x+(pre.length+1)) from funext λz=>cH z _];show List.find? _ _ = _;rw[ih,Option.map_map];exact congrFun (congrArg rU (funext λz=>(cH z _).symm)) _
theorem RQ(b:List UInt8)(x:UInt8)(i:Int)(h0:0<=i)(h1:i.toNat<=b.length) :
  ((tQ b.toArray.size i ([x]:List UInt8).toArray.size).bind λp=>rC b.toArray ([x]:List UInt8).toArray p.1 p.2)=(lO x (b.drop i.toNat)).map (·+i.toNat):=by
 have hw:ui b.toArray.size (some i) none=(i,(b.length:Int)):=by
  show((if i<0 then max 0 (i+b.length) else i:Int),min (b.length:Int) (if (b.length:Int)<0 then max 0 ((b.length:Int)+b.length) else(b.length:Int))) = _;rw[if_neg (jM.mpr h0),if_neg (jM.mpr (eL _)),Int.min_self]
 unfold tQ;rw[hw];by_cases hlt:i.toNat=b.length
 ·rw[if_pos (by show(b.length:Int)-i<1;exact au [_,_] [_] (.ti (.s .c1 .v0) .k1) 1 [(1,.ei .c0 .v0),(-1,.en .v0 .v1)] rfl (nF h0) hlt),hlt,kX];rfl
 ·rw[if_neg (by show ¬((b.length:Int)-i<1);exact jM.2 (au [_,_] [_] (.li .k1 (.s .c1 .v0)) 1 [(-1,.ei .c0 .v0),(1,.tn .v0 .v1)] rfl (nF h0) (hM h1 hlt)))];have hk:=Pl x (b.drop i.toNat) (b.take i.toNat);rw[BC,eW,jh h1,hV]at hk;rw[<-hk];show rC b.toArray #[x] i.toNat b.length = _;unfold rC;rw[show b.length+1-(i.toNat+(#[x]:Array UInt8).size)=b.length-i.toNat from JU _ 1 _];rfl
noncomputable def A9(b:BM):String:=match b with
 |.append=>"list"
 |.pop=>"list"
 |.extend=>"list"
 |.reverse=>"list"
 |.get=>"dict"
 |.setdefault=>"dict"
 |_=>"bytes"
noncomputable def tI(b:BM):String:=match b with
 |.append=>"list.append"
 |.pop=>"list.pop"
 |.extend=>"list.extend"
 |.reverse=>"list.reverse"
 |.get=>"dict.get"
 |.setdefault=>"dict.setdefault"
 |.find=>"bytes.find"
 |.isalpha=>"bytes.isalpha"
 |.rstrip=>"bytes.rstrip"
 |.strip=>"bytes.strip"
 |.join=>"bytes.join"
theorem O1(b:BM):PlainAttrs (A9 b):=by
 cases b<;>first|exact PySem.F.plainAttrs_list|exact PySem.F.plainAttrs_dict|exact FB.plainAttrs_bytes
theorem Ri(b:BM):Slot (A9 b) (GZ b) (tI b):=by
 cases b
 ·exact PySem.F.slot_list_append
 ·exact JZ
 ·exact JB
 ·exact Jy
 ·exact JX
 ·exact Jk
 ·exact Cj
 ·exact BV
 ·exact B3
 ·exact Cb
 ·exact Ck
theorem Rj(b:BM):typeOf (.builtin (tI b))=pure (.type "method_descriptor"):=by
 cases b<;>(show builtinType _ = _;rw[builtinType_eq_fast];kernel_rfl)
section
variable{fz fz':aq->Prop}{B:aq->Prop}{Z:ae}{h h':Heap}{s:aB}{A:bD}
theorem qe{v:V}{p:Nat×List V}(e:jG Z v=some p):v=.ref p.1/\Z p.1=some (.list p.2):=by
 refine ar (a8 e) λa e1 e=>?_;obtain⟨l,e2,rfl⟩:=cN e;exact⟨nZ e1,rY e2⟩
theorem Qm{v:V}{p:Nat×Nat×(Int->Option V)}(e:AZ Z v=some p):v=.ref p.1/\Z p.1=some (.dI p.2.1 p.2.2):=by
 refine ar (a8 e) λa e1 e=>?_;refine ar (a8 e) λm e2 e=>?_;cases m<;>first|((injection e with e;subst e);exact⟨nZ e1,e2⟩)|exact nn e
theorem Fp{v:V}{c:UInt8}(e:A7 v=some c):v=.bytes [c]:=by
 refine ar (a8 e) λl e1 e=>?_;rw[gW e1];cases l with
 |nil=>exact nn e
 |cons b r=>cases r with
  |nil=>(injection e with e;subst e);rfl
  |cons=>exact nn e
theorem uZ{l:List V}{u:Unit}(e:qQ l=some u):l=[]:=by
 cases l with
 |nil=>rfl
 |cons=>exact nn e
def tE(s:aB)(x:ag)(T:String):Prop:=s.TypeIs x T/\∀a,x=.ref a->∃ob,s.heap.get? a=some ob/\ob.dict=none
theorem Oq(G:aE B Z s.heap){v:V}{x:ag}(r:VR (Fz Z B) s.heap v x)(e:(jG Z v).isSome=true):tE s x "list":=by
 refine bA (ue.mp e) λp e=>?_;obtain⟨rfl,ec⟩:=qe e;subst r;obtain⟨_,_,vs,⟨n,ho⟩,_⟩:=G.cells _ _ ec;exact⟨(Yd ⟨n,ho⟩).typeIs,λc q=>by(injection q with q;subst q);exact⟨_,ho,rfl⟩⟩
theorem Ng{v:V}{x:ag}(r:VR fz s.heap v x)(e:(fW v).isSome=true):tE s x "bytes":=by
 refine bA (ue.mp e) λb e=>?_;obtain rfl:=gW e;obtain⟨t,rfl,hz⟩:=r;exact⟨rfl,λc q=>by cases q⟩
theorem Oo(G:aE B Z s.heap){v:V}{x:ag}(r:VR (Fz Z B) s.heap v x){a:Nat}(ea:j5 v=some a)(e:mN Z a=true):tE s x "dict":=by
 obtain rfl:=nZ ea;subst r;unfold mN at e;cases hm:Z a with
 |none=>rw[hm]at e;exact bn e
 |some m=>
  rw[hm]at e;refine g9 (G.cells _ _ hm) λ_ _ c=>?_;cases m<;>try (exact bn e;done)
  ·obtain⟨kvs,hD,_⟩:=c;exact⟨hD.typeIs,hD.mapOf.noDict⟩
  ·refine ar c λkvs hD _=>?_;refine⟨hD.typeIs,λc q=>?_⟩;injection q with q;subst q
   refine kR hD λo es ep ho he _=>?_;exact⟨o,ho,he.2.1⟩
  ·obtain⟨kvs,hD,_⟩:=c;exact⟨hD.typeIs,hD.mapOf.noDict⟩
theorem Rh{v:V}{x:ag}{b:BM}(G:aE B Z s.heap)(r:VR (Fz Z B) s.heap v x)(e:tA Z v b=true):tE s x (A9 b):=by
 have dct:(match j5 v with|some a=>mN Z a|none=>false)=true->tE s x "dict":=λe=>by
  cases ea:j5 v with
  |none=>rw[ea]at e;exact bn e
  |some a=>rw[ea]at e;exact Oo G r ea e
 cases b<;>first|exact Oq G r e|exact Ng r e|exact dct e
theorem ND:∀{l:List V}{vs:List ag}{bs:List (List UInt8)},aN fz h l vs->pW l=some bs->vs.length=bs.length/\∀(i:Nat)(b:List UInt8),bs[i]?=some b->∃t,vs[i]?=some (CS b.toArray t):=by
 intro l;induction l with
 |nil=>intro vs bs r e;(injection e with e;subst e);subst r;exact⟨rfl,λi b q=>nn q⟩
 |cons v l ih=>
  intro vs bs r e;refine ar (a8 e) λb eb e=>?_;obtain⟨m,em,rfl⟩:=cN e;obtain rfl:=gW eb;obtain⟨y,ys,rfl,⟨t,rfl,hz⟩,r⟩:=r;have q:=ih r em;refine⟨congrArg (·+1) q.1,λi c hc=>?_⟩;cases i with
  |zero=>(injection hc with hc;subst hc);exact⟨t,rfl⟩
  |succ i=>exact q.2 i c hc
theorem NO{b:List UInt8}{c:UInt8}{i:Int}{t u v:Tok}{Q:QV}(G:aE B Z s.heap)(h0:0<=i)(h1:i.toNat<=b.length)(q:Q (.int (vz i (lO c (b.drop i.toNat)))) Z) :
  wpAny Md A (call (.builtin "bytes.find") [.bytes b.toArray t,.bytes [c].toArray u,.int i v]) (PE B Z s Q) aw s:=by
 refine rV Cj rfl (ur (by kernel_rfl)) (by show argsOk "bytes.find" _;unfold argsOk;rw[uA (id:="bytes.find") (n:=['d','n','i','f']) (o:=['s','e','t','y','b']) (by kernel_rfl) uv];kernel_rfl) (MY _ _ _ _ _ _) ?_;rw[RQ b c i h0 h1];cases hf:lO c (b.drop i.toNat) with
 |none=>rw[hf]at q;exact PE.int G q
 |some k=>
  rw[hf]at q;refine PE.int G (i:=((k+i.toNat:Nat):Int)) ?_;rw[hZ,nF h0,nM];exact q
theorem Mn(b:Array UInt8)(t:Tok):Gives (Builtin.«bytes.isalpha» ⟨[.bytes b t],[]⟩) (.val (.bool (BJ Bz b.toList))):=.of_eq rfl
theorem TL(H:bF cx){b:BM}{v r:V}{x:ag}{vs:List V}{xs:List ag}{Q:QV}(G:aE B Z s.heap)(rv:VR (Fz Z B) s.heap v x)(rs:aN (Fz Z B) s.heap vs xs)(e0:m7 Z v b vs=some r)(q:Q r Z) :
  wpAny Md A (call (.builtin (tI b)) (x::xs)) (PE B Z s Q) aw s:=by
 cases b<;>try (exact nn e0;done)
 ·refine ar (a8 e0) λp e1 e=>?_;obtain⟨y,z,rfl,ry,rz⟩:=wg e1 rs;exact Rv H G rv ry rz e q
 ·refine ar (a8 e0) λp e1 e=>?_;obtain⟨y,z,rfl,ry,rz⟩:=wg e1 rs;obtain⟨b,e2,e⟩:=a8 e;obtain⟨c,e3,e⟩:=a8 e;obtain⟨i,e4,e⟩:=a8 e;obtain⟨hi,rfl⟩:=iz e;obtain rfl:=gW e2;rw[Fp e3]at ry;rw[eY e4]at rz;obtain⟨t,rfl,_⟩:=rv;obtain⟨u,rfl,_⟩:=ry;obtain⟨v,rfl⟩:=rz;exact NO G hi.1 hi.2 q
 ·refine ar (a8 e0) λ_ e1 e=>?_;obtain⟨c,e2,rfl⟩:=cN e;cases uZ e1
  obtain rfl:=Fp e2;subst rs;obtain⟨t,rfl,_⟩:=rv;refine rV BV rfl (ur (by kernel_rfl)) (by show argsOk "bytes.isalpha" _;unfold argsOk;rw[uA (id:="bytes.isalpha") (n:=['a','h','p','l','a','s','i']) (o:=['s','e','t','y','b']) (by kernel_rfl) uv];kernel_rfl) (Mn _ _) ?_;rw[show BJ Bz [c]=jS c by simp[BJ,Bz,jS,Yb,X9]];exact PE.bool G q
 ·refine ar (a8 e0) λ_ e1 e=>?_;obtain⟨b,e2,rfl⟩:=cN e;cases uZ e1
  obtain rfl:=gW e2;subst rs;obtain⟨t,rfl,hz⟩:=rv;refine nR B3 rfl (ur (by kernel_rfl)) (by show argsOk "bytes.rstrip" _;unfold argsOk;rw[uA (id:="bytes.rstrip") (n:=['p','i','r','t','s','r']) (o:=['s','e','t','y','b']) (by kernel_rfl) uv];kernel_rfl) (Mg b.toArray t (by rw[dT];exact gc hz)) λu tk=>?_;exact PE.bytes G (ai (uL false _ b).length_le hz) q
 ·refine ar (a8 e0) λc e1 e=>?_;obtain⟨y,rfl,ry⟩:=sZ e1 rs;obtain⟨cs,e2,e⟩:=a8 e;obtain⟨b,e3,rfl⟩:=cN e;obtain rfl:=gW e2;obtain rfl:=gW e3;obtain⟨t,rfl,hz⟩:=rv;obtain⟨u,rfl,_⟩:=ry;refine nR Cb rfl (ur (by kernel_rfl)) (by show argsOk "bytes.strip" _;unfold argsOk;rw[uA (id:="bytes.strip") (n:=['p','i','r','t','s']) (o:=['s','e','t','y','b']) (by kernel_rfl) uv];kernel_rfl) (MC b.toArray cs.toArray t _ (by rw[dT];exact gc hz)) λu tk=>?_;rw[show(cs.toArray.contains:UInt8->Bool)=cs.contains from funext λz=>List.contains_toArray];exact PE.bytes G (ai (uL true _ b).length_le hz) q
 ·refine ar (a8 e0) λl e1 e=>?_;obtain⟨y,rfl,ry⟩:=sZ e1 rs;obtain⟨b,e2,e⟩:=a8 e;obtain⟨l,e3,e⟩:=a8 e;obtain⟨bs,e4,e5⟩:=a8 e;obtain rfl:=gW e2;cases b with
  |cons=>exact nn e5
  |nil=>
   obtain⟨hz,rfl⟩:=iz e5;rw[lp e3]at ry;obtain⟨t,rfl,_⟩:=rv;obtain⟨a,ws,rfl,_,hp,_,rs'⟩:=ry;have k:=ND rs' e4;exact nR Ck rfl (ur (by kernel_rfl)) (by show argsOk "bytes.join" _;unfold argsOk;rw[uA (id:="bytes.join") (n:=['n','i','o','j']) (o:=['s','e','t','y','b']) (by kernel_rfl) uv];kernel_rfl) (M8 t a ws bs k.1 k.2 (gc hz)) ⟨hp.isList,λu tk=>PE.bytes G hz q⟩
theorem Vu(H:bF cx){b:BM}{v:V}{x:ag}{vs:List V}{xs:List ag}{Q:QV}(G:aE B Z s.heap)(rv:VR (Fz Z B) s.heap v x)(rs:aN (Fz Z B) s.heap vs xs)(e0:qY Z v b vs Q) :
  wpAny Md A (call (.builtin (tI b)) (x::xs)) (PE B Z s Q) aw s:=by
 have gen:(aK (m7 Z v b vs) λr=>Q r Z)->wpAny Md A (call (.builtin (tI b)) (x::xs)) (PE B Z s Q) aw s:=λe=>(bj e).elim λr e=>TL H G rv rs e.1 e.2;cases b<;>try exact gen e0
 ·refine ar (bj e0) λp e1 e=>?_;refine cm (bj e) λy e2 hz q=>?_;obtain⟨rfl,ec⟩:=qe e1;subst rv;obtain⟨y,rfl,ry⟩:=sZ e2 rs;exact Nt G ec ry hz q
 ·refine ar (bj e0) λp e1 e=>?_;refine ar (bj e) λ_ e2 e=>?_;refine ar (bj e) λy e3 q=>?_;obtain⟨rfl,ec⟩:=qe e1;cases uZ e2
  subst rv;subst rs;exact UC G ec e3 q
 ·refine ar (bj e0) λp e1 e=>?_;refine ar (bj e) λy e2 e=>?_;refine cm (bj e) λl e3 hz q=>?_;obtain⟨rfl,ec⟩:=qe e1;subst rv;obtain⟨y,rfl,ry⟩:=sZ e2 rs;rw[lp e3]at ry;exact NM G ec ry hz q
 ·refine ar (bj e0) λp e1 e=>?_;refine ar (bj e) λ_ e2 q=>?_;obtain⟨rfl,ec⟩:=qe e1;cases uZ e2
  subst rv;subst rs;exact Nh G ec q
 ·refine ar (bj e0) λp e1 e=>?_;refine ar (bj e) λy e2 e=>?_;refine cm (bj e) λk e3 hn q=>?_;obtain⟨rfl,ec⟩:=Qm e1;subst rv;obtain⟨y,z,rfl,ry,rz⟩:=wg e2 rs;rw[eY e3]at ry;exact LN H G ry rz ec hn q
end
end
section
open PySem PySem.W PyProof.Rows PySem.SeqAt PySem.Calls
theorem Om{α:Type}(l:List α)(i j:Nat):(l.drop (min i l.length)).take (min j l.length-min i l.length)=aH l i j:=by
 rw[<-ki,show l.take (min j l.length)=l.take j from List.take_eq_take_iff.mpr (by rw[Nat.min_assoc,CF])];rcases Nat.le_total i l.length with h|h
 ·rw[jh h];rfl
 ·have n:(l.take j).length<=l.length:=J9 ..;rw[Nat.min_eq_right h,xC n,aH,xC (ai n h)]
theorem zV{α:Type}(l:List α)(i j:Nat):(aH l i j).length<=l.length:=by
 unfold aH;rw[hV,eW];exact ai (ez _ _) (pC _ _)
section
variable{fz fz':aq->Prop}{B:aq->Prop}{Z:ae}{h h':Heap}{s s':aB}{A:bD}
theorem Er{n d:Nat}{v:V}{x:ag}{m:Nat}(r:VR fz h v x)(e:e9 m v=some d)(hm:m=0\/m=n):∃lo,IsPart x lo/\lo.elim (min m n) (clipAt n)=min d n:=by
 cases v<;>try (exact nn e;done)
 ·(injection e with e;subst e);subst r;exact⟨none,.none,rfl⟩
 ·obtain⟨h0,rfl⟩:=iz e;obtain⟨t,rfl⟩:=r;refine⟨some _,.int _ _,?_⟩;rw[<-nF h0];exact clipAt_nat _ _
theorem Gp{α:Type}{l:List α}{va vb:V}{x y:ag}{i j:Nat}(ra:VR fz h va x)(rb:VR fz h vb y)(ea:e9 0 va=some i)(eb:e9 l.length vb=some j) :
  ∃lo hi,IsPart x lo/\IsPart y hi/\(l.drop (lo.elim 0 (clipAt l.length))).take (hi.elim l.length (clipAt l.length)-lo.elim 0 (clipAt l.length))=aH l i j:=by
 obtain⟨lo,p1,q1⟩:=Er (n:=l.length) ra ea (.inl rfl);obtain⟨hi,p2,q2⟩:=Er (n:=l.length) rb eb (.inr rfl);rw[Nat.zero_min]at q1;rw[CF]at q2;exact⟨lo,hi,p1,p2,by rw[q1,q2];exact Om l i j⟩
theorem PE.keeps{Q:QV}{y:ag}(G:aE B Z s.heap)(k:bI s.heap h')(p:PE B Z { s with heap:=h' } Q y s'):PE B Z s Q y s':=p.lift (s':={ s with heap:=h' }) (.keeps G k rfl rfl)
abbrev oH(x y z:ag):Obj:={ cls:=.type "slice",data:=.fields #[x,y,z] }
theorem Dl{l:aq}{vs ws:List ag}{x y z:ag}{lo hi st:Option Int}{ls:List V}{Q:QV}{value sl:Expr}{ops:List ag}(G:aE B Z s.heap)(hl:s.heap.IsList l vs.toArray)(pl:IsPart x lo)(pu:IsPart y hi)(ps:IsPart z st)(h0:st≠some 0)
  (hz:vs.length<=aJ) (hp:slicePick vs.toArray lo hi st=ws.toArray) (r:aN (Fz Z B) s.heap ls ws) (hz2:ls.length<=aJ) (q:Q (.list ls) Z) (hs:subscripted sl false (.ref l) (.ref s.heap.objs.size)=operate ops (getItem (.ref l) (.ref s.heap.objs.size))) :
  wpAny Md A (subscriptTail value sl (.ref l) (.ref s.heap.objs.size)) (PE B Z s Q) aw { s with heap:=s.heap.push (oH x y z) }:=by
 have k:bI s.heap (s.heap.push (oH x y z)):=bI.push _ _;have hl':(s.heap.push (oH x y z)).IsList l vs.toArray:=hl.elim λo q=>⟨o,k _ _ q.1,q.2⟩
 refine sC hl'.typeIs Jx.lookup (bT ?_ λ_ _ p=>PE.keeps G k p) hs;refine wpAny_getItem_list_slice hl' (Kr _ _ _ _) pl pu ps h0 ?_ (by rw[dT];exact gc hz);rw[hp];exact rX (n:=0) (tk:=s.toks) (G.keeps k) (r.mono k.kp) hz2 false q
set_option tactic.hygienic true in
theorem U5{v a b r:V}{o x y:ag}{Q:QV}{value:Expr}{lo up:Option Expr}{p:Pos}(G:aE B Z s.heap)(rv:VR (Fz Z B) s.heap v o)(ra:VR (Fz Z B) s.heap a x)(rb:VR (Fz Z B) s.heap b y)(e:oP Z v a b=some r)(q:Q r Z) :
  wpAny Md A (subscriptTail value (.Slice lo up none p) o (.ref s.heap.objs.size)) (PE B Z s Q) aw { s with heap:=s.heap.push (oH x y .none) }:=by
 have main:((qB Z v).bind λl=>(e9 0 a).bind λi=>(e9 l.length b).map λj=>V.list (aH l i j))=some r->wpAny Md A (subscriptTail value (.Slice lo up none p) o (.ref s.heap.objs.size)) (PE B Z s Q) aw { s with heap:=s.heap.push (oH x y .none) }:=λe=>by
  refine ar (a8 e) λl el e=>?_;refine ar (a8 e) λi ea e=>?_;obtain⟨j,eb,rfl⟩:=cN e;obtain⟨c,vs,rfl,hl,hz,rs⟩:=so G rv el;have hlen:=rs.length;obtain⟨lo',hi',pl,pu,hp⟩:=Gp (l:=vs) ra rb ea (by rw[hlen];exact eb);refine Dl (ws:=aH vs i j) G hl.isList pl pu .none (λz=>nn z) (hlen▸hz) ?_ (rs.part i j) (ai (zV ..) hz) q rfl;rw[<-hp];exact slicePick_plain _ _ _
 cases v<;>first|exact main e|skip
 rename_i bs
 refine ar (a8 e) λi ea e=>?_;obtain⟨j,eb,rfl⟩:=cN e;obtain⟨t,rfl,hz⟩:=rv;obtain⟨lo',hi',pl,pu,hp⟩:=Gp (l:=bs) ra rb ea eb;have hpick:KBy.picked bs.toArray lo' hi'=(aH bs i j).toArray:=by rw[KBc.picked_eq,<-hp];rfl
 have k:bI s.heap (s.heap.push (oH x y .none)):=bI.push _ _;refine sC (T:="bytes") rfl JN.lookup (bT ?_ λ_ _ p=>PE.keeps G k p) rfl;refine getItem_meets (T:="bytes") rfl (by decide) JN FB.entry_bytes_getitem (FB.args_bytes_getitem_2 _ _) (KBc.meets_slice2 _ t _ pl pu) ⟨Kr _ _ _ _,?_,λu tk=>?_⟩
 ·rw[hpick,dT];exact gc (ai (zV ..) hz)
 ·rw[hpick];exact PE.bytes (G.keeps k) (ai (zV ..) hz) q
theorem UG{l:List V}{o:ag}{tk1:Tok}{Q:QV}{value pe:Expr}{p:Pos}(G:aE B Z s.heap)(rv:VR (Fz Z B) s.heap (.list l) o)(q:Q (.list l.reverse) Z) :
  wpAny Md A (subscriptTail value (.Slice none none (some pe) p) o (.ref s.heap.objs.size)) (PE B Z s Q) aw { s with heap:=s.heap.push (oH .none .none (.int (-1) tk1)) }:=by
 obtain⟨c,vs,rfl,hf,hp,hz,rs⟩:=rv;exact Dl (ws:=vs.reverse) G hp.isList .none .none (.int _ _) (by decide) (rs.length▸hz) (krv_pick _) rs.reverse (by rw[my];exact hz) q rfl
theorem Uh(H:bF cx)(R:eD A 0)(G:aE B Z s.heap){v k r:V}{o y:ag}{Q:QV}{value sl:Expr}(rv:VR (Fz Z B) s.heap v o)(rk:VR (Fz Z B) s.heap k y)(hs:∀o i,subscripted sl false o i=operate [o,i] (getItem o i))(e:eQ Z v k=some r)(q:Q r Z) :
  wpAny Md A (subscriptTail value sl o y) (PE B Z s Q) aw s:=by
 have hg:wpAny Md A (getItem o y) (PE B Z s Q) aw s:=Hl H R G rv rk e q;unfold eQ at e;cases hq:lS Z v with
 |some l=>
  rcases yo hq with rfl|hq
  ·obtain⟨a,vs,rfl,_,ht,_⟩:=rv;exact sC (Yp ht) PySem.F.slot_tuple_getitem.lookup hg (hs _ _)
  ·obtain⟨a,vs,rfl,hl,_⟩:=so G rv hq;exact sC hl.isList.typeIs Jx.lookup hg (hs _ _)
 |none=>
  rw[hq]at e;refine ar (a8 e) λd e1 e=>?_;refine ar (a8 e) λz e2 e=>?_;obtain rfl:=nZ e1;subst rv;rcases(rW H G rk e2).1 with⟨K,knd,key,kvs,hk,hD,ho⟩|⟨a,key,xs,rfl,hk,hD,ho⟩
  ·exact sC hD.typeIs Jw.lookup hg (hs _ _)
  ·exact sC hD.typeIs Jw.lookup hg (hs _ _)
end
end
section
open PySem PySem.W PyProof.Rows PySem.SeqAt PySem.Calls
theorem Sk{n:Nat}(h:n<=aJ):((n:Nat):Int)<2 ^ 63:=dN.mpr (bC h (by decide))
def gF(C:ax)(d:Nat):Prop:=
 ∀(f:Nat)(vs:List V)(xs:List ag)(Q:QV)(B:aq->Prop)(Z:ae)(s:aB)(A:bD),eD A d->aE B Z s.heap->aN (Fz Z B) s.heap vs xs->C f vs Z Q ->
  codeAny Md A (.call (.ref (fa f)) ⟨xs,[]⟩) (wants (PE B Z s Q) aw) s
structure Ct(d:Nat)(A:bD)(env:Env)(gl vn:List Str)(B:aq->Prop)(J:aj)(Z:ae)(s:aB):Prop where
 R:eD A (d+1)
 K:eH env gl vn B
 G:aE B Z s.heap
 L:cQ (Fz Z B) env vn J s.heap
section
variable{C:ax}{d:Nat}{fz fz':aq->Prop}{B:aq->Prop}{Z Z':ae}{h h':Heap}{s s':aB}{A:bD}{env:Env}{gl vn:List Str}{J:aj}
theorem Ct.af(c:Ct d A env gl vn B J Z s)(a:Af B Z s Z' s'):Ct d A env gl vn B J Z' s':=⟨c.R,c.K,a.g,c.L.keep c.K (a.x.blk c.G) a.x.kp0⟩
theorem Ct.r0(c:Ct d A env gl vn B J Z s):eD A 0:=c.R.le (bJ _)
set_option tactic.hygienic true in
theorem vd{v:V}{y:ag}{b:Bool}{Q:Bool->ae->Prop}(G:aE B Z s.heap)(r:VR (Fz Z B) s.heap v y)(e:kH v=some b)(q:Q b Z):wpAny Md A (truthy y) (PT B Z s Q) aw s:=by
 cases v<;>try (exact nn e;done)
 ·injection e with e;subst e
  subst r;exact B4 ⟨Z,.refl G,q⟩
 ·rename_i l
  injection e with e;subst e
  obtain⟨a,vs,rfl,_,hp,hz,rs⟩:=r;have hl:=rs.length;refine wpAny_truthy_list hp.isList (by rw[dT,hl];exact Sk hz) ⟨Z,.tok G _,?_⟩;rw[List.isEmpty_toArray,show vs.isEmpty=l.isEmpty from by
   cases l with
   |nil=>rw[nE.mp hl];rfl
   |cons v l=>obtain⟨y,ys,rfl,_⟩:=rs;rfl]
  exact q
theorem yI(H:bF cx)(c:Ct d A env gl vn B J Z s){x:Str}{p:Pos}{y:ag}{Q:ag->aB->Prop}(hx:gv gl vn x=true)(e:nsIn K₀ mainGlobals x=some (some y))(q:Q y s):wpAny Md A (eval (.Name x p) env) Q aw s:=by
 refine Name_function_global c.K.kind (c.K.gls x hx) (loadGlobal_global ?_ (mg_of H.X H.g e) q) (c.K.gnames x hx).1;rw[c.K.glob];exact H.g.keeps c.G.base
theorem lj(H:bF cx)(c:Ct d A env gl vn B J Z s){x:Str}{p:Pos}{y:ag}{Q:ag->aB->Prop}(hx:gv gl vn x=true)
  (hm:x∈(["len","isinstance","int","max","min","sum","bytes","str","range","enumerate","zip"]:List Str)) (e:bootBuiltins x=some y) (q:Q y s):wpAny Md A (eval (.Name x p) env) Q aw s:=by
 refine aT (H.bn x hm) λh1 h2=>?_;refine Name_function_global c.K.kind (c.K.gls x hx) (loadGlobal_builtin (mb:=cx.mb) ?_ (mg_none_of H.X H.g h1) ?_ (by rw[H.boot x h2];exact e) q) (c.K.gnames x hx).1
 ·rw[c.K.glob];exact H.g.keeps c.G.base
 ·rw[c.K.blt];exact H.b.keeps c.G.base
theorem mJ:∀{vn:List Str}{i:Nat},i<vn.length->vn.contains (bq vn i)=true:=λh=>fH.mpr (go h) where
 go:∀{vn:List Str}{i:Nat},i<vn.length->bq vn i∈vn
  |[],_,h=>absurd h (dM _)
  |_::_,0,_=>.head _
  |_::_,_+1,h=>.tail _ (go (ff h))
theorem Ql(c:Ct d A env gl vn B J Z s){i:Nat}{pos:Pos}{Q:ag->aB->Prop}(hi:i<vn.length){v:V}(hv:rd J i=some v)(h:∀y,VR (Fz Z B) s.heap v y->Q y s):wpAny Md A (eval (.Name (bq vn i) pos) env) Q aw s:=by
 refine ar c.L.loc λm hn hm=>?_;refine aT (c.K.names _ (mJ hi)) λn1 n2=>?_;rcases hm i hi with⟨k,q⟩|⟨k,a,z,hcl,hz,q⟩
 ·refine ar (q v hv) λy e r=>?_;exact Dn (Kh c.K.kind k hn e (h y r)) n1
 ·obtain⟨y,rfl,r⟩:=q v hv;rcases k with k|k
  ·exact Dn (Kn c.K.kind k hcl hz (h y r)) n1
  ·exact Dn (Ko c.K.kind k hcl hz (h y r) n2) n1
theorem Tc(e:E)(x:Expr)(o i:ag):subscripted (aW vn e x) false o i=operate [o,i] (getItem o i):=by cases e<;>exact Eq.refl (operate [o,i] (getItem o i))
theorem Fb(e:E)(x:Expr)(r:List Expr):starEach (aW vn e x::r) env=(false,eval (aW vn e x) env)::starEach r env:=by cases e<;>rfl
theorem Gy(e:E)(x:Expr)(op:mZ):behindInMarks (Ax op) (aW vn e x)=false:=by cases e<;>rfl
theorem Dm(K:eH env gl vn B){n m:Str}{p p2:Pos}{xs:List Expr}(h:gv gl vn m=true):attributeBase (.Call (.Name m p) xs [] p2) n env (eval (.Call (.Name m p) xs [] p2) env)=eval (.Call (.Name m p) xs [] p2) env:=by
 cases xs with
 |cons=>rfl
 |nil=>
  unfold attributeBase
  dsimp only
  rw[if_pos (by rw[bne,(K.gnames m h).2.2];rfl)]
theorem Ed(K:eH env gl vn B){e:E}{x:Expr}{n:Str}(h:bQ gl vn e x=true):attributeBase (aW vn e x) n env (eval (aW vn e x) env)=eval (aW vn e x) env:=by
 cases e<;>first
  |rfl
  |exact Dm K (av (av (av h).1).1).2
  |exact Dm K (av (av h).1).1
noncomputable def gk(xs:List Expr)(env:Env):List (Bool×Sem ag):=xs.map λx=>(false,eval x env)
theorem rS{x:Expr}{pos:Pos}:∀{es:List E}{n:Nat},backTo pos (starEach (cA vn x es n) env)=gk (cA vn x es n) env:=λ{rr}=>@(li (λ{_}=>rfl)
 (λe es ih{n}=>by
  show backTo pos (starEach (aW vn e (ay x n)::cA vn x es (n+1)) env) = _;rw[Fb];exact congrArg (yC _) ih) rr)
theorem Ff{x:Expr}:∀(es:List E)(n:Nat),(cA vn x es n).length=es.length:=λrr=>li (λ_=>rfl)
 (λ_ es ih n=>congrArg (·+1) (ih (n+1))) rr
variable(C d)
def SE(e:E):Prop:=∀{A:bD}{env:Env}{gl vn:List Str}{B:aq->Prop}{J:aj}{Z:ae}{s:aB}(x:Expr){Q:QV},Ct d A env gl vn B J Z s->bQ gl vn e x=true->WE C e J Z Q->wpAny Md A (eval (aW vn e x) env) (PE B Z s Q) aw s
def ST(e:E):Prop:=∀{A:bD}{env:Env}{gl vn:List Str}{B:aq->Prop}{J:aj}{Z:ae}{s:aB}(x:Expr){Q:Bool->ae->Prop}{Q0:QV},Ct d A env gl vn B J Z s->bQ gl vn e x=true->WE C e J Z Q0->(∀v Z,Q0 v Z->aK (kH v) λb=>Q b Z)->wpAny Md A (isTrue (aW vn e x) env (eval (aW vn e x) env)) (PT B Z s Q) aw s
def je(es:List E):Prop:=∀{A:bD}{env:Env}{gl vn:List Str}{B:aq->Prop}{J:aj}{Z:ae}{s:aB}(x:Expr)(n:Nat){Q:List V->ae->Prop},Ct d A env gl vn B J Z s->fD gl vn x es n=true->eh C es J Z Q ->
 wpAny Md A (spliced (gk (cA vn x es n) env)) (IW B Z s λvs Z=>vs.length=es.length/\Q vs Z) aw s
def SB(es:List E):Prop:=∀{A:bD}{env:Env}{gl vn:List Str}{B:aq->Prop}{J:aj}{Z:ae}{s:aB}(x:Expr)(n:Nat){Q:QV}{b:Bool}{p:Pos},Ct d A env gl vn B J Z s->fD gl vn x es n=true->es.isEmpty=false->WB C b es J Z Q ->
 wpAny Md A (eval (.BoolOp (sR b) (cA vn x es n) p) env) (PE B Z s Q) aw s
def tT(es:List E):Prop:=∀{A:bD}{env:Env}{gl vn:List Str}{B:aq->Prop}{J:aj}{Z:ae}{s:aB}(x:Expr)(n:Nat){Q:Bool->ae->Prop}{Q0:QV}{b:Bool}{p:Pos}{wh:Sem ag},Ct d A env gl vn B J Z s->fD gl vn x es n=true->WB C b es J Z Q0->(∀v Z,Q0 v Z->aK (kH v) λb=>Q b Z) ->
 wpAny Md A (isTrue (.BoolOp (sR b) (cA vn x es n) p) env wh) (PT B Z s Q) aw s
variable{C d}
theorem qS{e i:E}(ih:SE C d e)(ih2:SE C d i){x y:Expr}{Q:V->QV}{P:ag->ag->aB->Prop}(c:Ct d A env gl vn B J Z s)(h1:bQ gl vn e x=true)(h2:bQ gl vn i y=true)(h:WE C e J Z λv Z=>WE C i J Z λk Z=>Q v k Z)
  (k:∀v k Z' a b s',Af B Z s Z' s'->VR (Fz Z' B) s'.heap v a->VR (Fz Z' B) s'.heap k b->Q v k Z'->P a b s'):wpAny Md A (eval (aW vn e x) env) (λa s₁=>wpAny Md A (eval (aW vn i y) env) (P a) aw s₁) aw s:=
 seq (ih x c h1 h) λv Z' a s' f r q=>seq (ih2 y (c.af f) h2 q) λk' Z2 b s₂ f2 r2 q2=>k v k' Z2 a b s₂ (f.trans f2) (f2.vr r) r2 q2
theorem Il(v:V):SE C d (.c v):=by
 intro A env gl vn B J Z s x Q c hc h;show wpAny Md A (eval (.Constant (zr v) (mn x) x.pos) env) _ _ _;cases v<;>try (exact bn hc;done)
 ·exact wpAny_Constant_none (PE.same (v:=.none) c.G rfl h)
 ·exact wpAny_Constant_bool (PE.bool c.G h)
 ·rw[yb];exact rT (PE.int c.G h)
 ·rw[yb];exact wpAny_mkText (PE.tok (v:=.str _) c.G ⟨_,rfl⟩ h)
 ·rw[yb];exact wpAny_mkTextBytes (PE.bytes c.G (of_decide_eq_true hc) h)
theorem U0(i:Nat):SE C d (.x i):=by
 intro A env gl vn B J Z s x Q c hc h;refine ar (bj h) λv hv q=>?_;exact Ql c (of_decide_eq_true hc) hv λy r=>PE.same c.G r q
theorem S4(H:bF cx)(g:Nat):SE C d (.g g):=by
 intro A env gl vn B J Z s x Q c hc h;refine ar (bj h) λv hv q=>?_;refine cp (H.gn g (of_decide_eq_true (av hc).1)) λb t e1 hz e2=>?_;rw[e1]at hv;injection hv with hv;subst hv
 exact yI H c (av hc).2 e2 (PE.bytes (tk:=s.toks) c.G hz q)
theorem S0(H:bF cx){e:E}(a:bG)(ih:SE C d e):SE C d (.a e a):=by
 intro A env gl vn B J Z s x Q c hc h;refine Attribute_any_ (seq (ih (ay x 0) c hc h) λv Z' y s' f r q=>?_) (by rw[arm_eval_Attribute,Ed (e:=e) (x:=ay x 0) c.K hc]);refine ar (bj q) λz hz q=>?_;exact g0 f (Fu H f.g r hz q)
theorem UP(H:bF cx){e i:E}(ih:SE C d e)(ih2:SE C d i):SE C d (.i e i):=by
 intro A env gl vn B J Z s x Q c hc h;refine C2 (qS ih ih2 c (av hc).1 (av hc).2 h λv k Z' a b s' f r r2 q=>?_);refine ar (bj q) λz hz q=>?_;exact g0 f (Uh H c.r0 f.g r r2 (Tc _ _) hz q)
theorem DX{e:E}{x:Expr}{Q:QV}(c:Ct d A env gl vn B J Z s)(hc:bQ gl vn e x=true)(h:WE C e J Z Q)(ih:SE C d e) :
  wpAny Md A (evalPart (match wU e with|true=>none|false=>some (aW vn e x)) env) (PE B Z s Q) aw s:=by
 cases hn:wU e with
 |false=>exact ih x c hc h
 |true=>
  cases e<;>try (exact bn hn;done)
  refine bA (ue.mp hn) λu hu=>?_;obtain rfl:=sE hu;exact a9 (PE.same (v:=.none) c.G rfl h)
theorem UY{e lo hi:E}(ih:SE C d e)(ih2:SE C d lo)(ih3:SE C d hi):SE C d (.l e lo hi):=by
 intro A env gl vn B J Z s x Q c hc h;have h12:=av (av hc).1;refine C2 (seq (ih (ay x 0) c h12.1 h) λv Z' y s' f r q=>wpAny_Slice ?_);refine seq (DX (c.af f) h12.2 q ih2) λa Z2 y2 s₂ f2 r2 q2=>?_;refine seq (DX ((c.af f).af f2) (av hc).2 q2 ih3) λb Z3 y3 s₃ f3 r3 q3=>a9 ?_;refine ar (bj q3) λt ht q3=>?_;exact g0 ((f.trans f2).trans f3) (U5 f3.g (f3.vr (f2.vr r)) (f3.vr r2) r3 ht q3)
theorem UX{e:E}(ih:SE C d e):SE C d (.rev e):=by
 intro A env gl vn B J Z s x Q c hc h;refine C2 (seq (ih (ay x 0) c hc h) λv Z' y s' f r q=>wpAny_Slice (a9 (a9 (CA ?_))));rw[yb];refine rT (Lf ?_);refine ar (bj q) λl hl q=>?_;obtain rfl:=lp hl;have f2:=f.trans (.tok f.g (s'.toks+1+1));exact g0 f2 (UG f2.g r q)
theorem US{e:E}(ih:SE C d e):SE C d (.neg e):=by
 intro A env gl vn B J Z s x Q c hc h;refine CA (seq (ih (ay x 0) c hc h) λv Z' y s' f r q=>?_);refine ar (bj q) λl hl q=>?_;obtain rfl:=eY hl;obtain⟨t,rfl⟩:=r;exact Lf (PE.lift f (PE.int f.g q))
theorem UL{op:Op}{a b:E}(ih:SE C d a)(ih2:SE C d b):SE C d (.b op a b):=by
 intro A env gl vn B J Z s x Q c hc h;refine wpAny_BinOp (qS ih ih2 c (av hc).1 (av hc).2 h λv k Z' a b s' f r r2 q=>?_);refine ar (bj q) λz hz q=>?_;exact g0 f (TK f.g r r2 hz q)
theorem UN(H:bF cx){op:mZ}{a b:E}(ih:SE C d a)(ih2:SE C d b):SE C d (.m op a b):=by
 intro A env gl vn B J Z s x Q c hc h;refine wpAny_Compare1 (qS ih ih2 c (av hc).1 (av hc).2 h λv k Z' a b s' f r r2 q=>?_) (Gy _ _ _);refine ar (bj q) λz hz q=>?_;exact g0 f (G9 H c.r0 f.g r r2 hz q)
theorem Vf(H:bF cx){op:mZ}{a b:E}(ih:SE C d a)(ih2:SE C d b):ST C d (.m op a b):=by
 intro A env gl vn B J Z s x Q Q0 c hc h hq;refine wpAny_isTrue_Compare1 (qS ih ih2 c (av hc).1 (av hc).2 h λv k Z' a b s' f r r2 q=>?_) (Gy _ _ _);refine ar (bj q) λz hz q=>?_;refine seq (G9 H c.r0 f.g r r2 hz q) λu Z3 z3 s₃ f3 r3 q3=>?_;refine ar (bj (hq _ _ q3)) λb hb q3=>?_;exact sL (f.trans f3) (vd f3.g r3 hb q3)
theorem QJ{e:E}(ih:SE C d e)(he:∀{vn:List Str} {x:Expr} {env:Env} {wh:Sem ag},isTrue (aW vn e x) env wh=(do let v <-wh;standAt (aW vn e x).pos;holding [v] (truthy v))):ST C d e:=by
 intro A env gl vn B J Z s x Q Q0 c hc h hq;refine isTrue_plain (seq (ih x c hc h) λv Z' y s' f r q=>?_) he;refine ar (bj (hq _ _ q)) λb hb q=>?_;exact sL f (vd f.g r hb q)
theorem a0{α:Type}{o:Option α}{k k':α->Prop}(h:aK o k)(m:∀a,k a->k' a):aK o k':=by
 cases o with
 |none=>exact h
 |some a=>exact m a h
theorem Vh{e:E}(ih:ST C d e):ST C d (.not e):=by
 intro A env gl vn B J Z s x Q Q0 c hc h hq;exact isTrue_not (lV (ih (ay x 0) (Q:=λb Z'=>Q (!b) Z') c hc h λv Z q=>a0 q λb q=>hq _ _ q) λb Z' s' f q=>⟨Z',f,q⟩)
theorem UU{e:E}(ih:SE C d e):SE C d (.not e):=by
 intro A env gl vn B J Z s x Q c hc h;refine CA (seq (ih (ay x 0) c hc h) λv Z' y s' f r q=>?_);refine ar (bj q) λb hb q=>?_;exact not_of (lV (vd (Q:=λc Z=>Q (.bool (!c)) Z) f.g r hb q) λc Z2 s₂ f2 q2=>PE.lift (f.trans f2) (PE.bool f2.g q2))
theorem UQ{t a b:E}(iht:ST C d t)(ih:SE C d a)(ih2:SE C d b):SE C d (.ite t a b):=by
 intro A env gl vn B J Z s x Q c hc h;have h12:=av (av hc).1;refine IfExp_ (lV (iht (ay x 0) (Q:=λt Z=>match t with|true=>WE C a J Z Q|false=>WE C b J Z Q) c h12.1 h λ_ _ q=>q) λt Z' s' f q=>?_);cases t
 ·exact g0 f (ih2 (ay x 2) (c.af f) (av hc).2 q)
 ·exact g0 f (ih (ay x 1) (c.af f) h12.2 q)
theorem Vg{t a b:E}(iht:ST C d t)(ih:ST C d a)(ih2:ST C d b):ST C d (.ite t a b):=by
 intro A env gl vn B J Z s x Q Q0 c hc h hq;have h12:=av (av hc).1;refine isTrue_IfExp (lV (iht (ay x 0) (Q:=λt Z=>match t with|true=>WE C a J Z Q0|false=>WE C b J Z Q0) c h12.1 h λ_ _ q=>q) λt Z' s' f q=>?_);cases t
 ·exact sL f (ih2 (ay x 2) (c.af f) (av hc).2 q hq)
 ·exact sL f (ih (ay x 1) (c.af f) h12.2 q hq)
end
end
section
open PySem PySem.W PyProof.Rows PySem.SeqAt PySem.Calls
section
variable{C:ax}{d:Nat}{B:aq->Prop}{Z Z':ae}{h h':Heap}{s s':aB}{A:bD}{env:Env}{gl vn:List Str}{J:aj}
theorem SW{e:E}{r:List E}(ih:SE C d e)(ihr:SB C d r):SB C d (e::r):=by
 intro A env gl vn B J Z s x n Q b p c hc _ h;refine aT (av hc) λh1 h2=>?_;cases r with
 |nil=>exact BoolOp_one (ih (ay x n) c h1 h)
 |cons e2 r=>
  have key:wpAny Md A (eval (aW vn e (ay x n)) env) (λy s₁=>wpAny Md A (truthy y) (λt s₂=>(t=b->wpAny Md A (eval (.BoolOp (sR b) (cA vn x (e2::r) (n+1)) p) env) (PE B Z s Q) aw s₂)/\(t≠b->PE B Z s Q y s₂)) aw s₁) aw s:=by
   refine seq (ih (ay x n) c h1 h) λv Z' y s' f r q=>?_;refine ar (bj q) λt ht q=>?_;refine lV (vd (Q:=λc Z2=>c=t/\Z2=Z') f.g r ht ⟨rfl,rfl⟩) λt Z2 s₂ f2 q2=>?_;obtain⟨rfl,rfl⟩:=q2;refine⟨λz=>?_,λz=>?_⟩
   ·rw[if_pos z]at q;exact g0 (f.trans f2) (ihr x (n+1) ((c.af f).af f2) h2 rfl q)
   ·rw[if_neg z]at q;exact PE.lift (f.trans f2) (PE.same f2.g (f2.vr r) q)
  cases b with
  |true=>
   refine BoolOp_and (bT key λy s₁ k=>bT k λt s₂ z=>?_);cases t with
   |true=>exact z.1 rfl
   |false=>exact z.2 (λz=>bn z)
  |false=>
   refine BoolOp_or (bT key λy s₁ k=>bT k λt s₂ z=>?_);cases t with
   |true=>exact z.2 (λz=>nb z)
   |false=>exact z.1 rfl
theorem UM{b:Bool}{es:List E}(ih:SB C d es):SE C d (.o b es):=by
 intro A env gl vn B J Z s x Q c hc h;refine aT (av hc) λh1 h2=>?_;exact ih x 0 c h2 (Bool.not_eq_true' _▸h1) h
theorem SX:tT C d []:=by
 intro A env gl vn B J Z s x n Q Q0 b p wh c hc h hq;have q:=hq _ _ h;cases b with
 |true=>exact Lu ⟨Z,.refl c.G,q⟩
 |false=>exact LH ⟨Z,.refl c.G,q⟩
theorem Qx{e:E}{r:List E}(ih:ST C d e)(ihr:tT C d r):tT C d (e::r):=by
 intro A env gl vn B J Z s x n Q Q0 b p wh c hc h hq;refine aT (av hc) λh1 h2=>?_;have key:wpAny Md A (isTrue (aW vn e (ay x n)) env (eval (aW vn e (ay x n)) env)) (λt s₂=>(t=b->wpAny Md A (isTrue (.BoolOp (sR b) (cA vn x r (n+1)) p) env wh) (PT B Z s Q) aw s₂)/\(t≠b->PT B Z s Q t s₂)) aw s:=by
  cases r with
  |nil=>
   refine lV (ih (ay x n) c h1 h hq) λt Z' s' f q=>⟨λz=>?_,λz=>⟨Z',f,q⟩⟩
   subst z;cases t with
   |true=>exact Lu ⟨Z',f,q⟩
   |false=>exact LH ⟨Z',f,q⟩
  |cons e2 r=>
   refine lV (ih (ay x n) (Q:=λt Z=>(t=b->WB C b (e2::r) J Z Q0)/\(t≠b->Q t Z)) c h1 h λv Z' q=>?_) λt Z' s' f q=>⟨λz=>sL f (ihr x (n+1) (c.af f) h2 (q.1 z) hq),λz=>⟨Z',f,q.2 z⟩⟩
   refine ar (bj q) λt ht q=>?_;refine ao ht ⟨λz=>?_,λz=>?_⟩
   ·rw[if_pos z]at q;exact q
   ·rw[if_neg z]at q;have q:=hq _ _ q;rw[ht]at q;exact q
 cases b with
 |true=>
  refine isTrue_and (bT key λt s₂ z=>?_);cases t with
  |true=>exact z.1 rfl
  |false=>exact z.2 (λz=>bn z)
 |false=>
  refine isTrue_or (bT key λt s₂ z=>?_);cases t with
  |true=>exact z.2 (λz=>nb z)
  |false=>exact z.1 rfl
theorem Ve{b:Bool}{es:List E}(ih:tT C d es):ST C d (.o b es):=by
 intro A env gl vn B J Z s x Q Q0 c hc h hq;exact ih x 0 c (av hc).2 h hq
theorem S7:je C d []:=by
 intro A env gl vn B J Z s x n Q c hc h;exact spliced_nil ⟨[],Z,.refl c.G,rfl,rfl,h⟩
theorem QA{e:E}{r:List E}(ih:SE C d e)(ihr:je C d r):je C d (e::r):=by
 intro A env gl vn B J Z s x n Q c hc h;refine aT (av hc) λh1 h2=>?_;refine spliced_cons (seq (ih (ay x n) c h1 h) λv Z' y s' f r q=>?_);refine kJ (ihr x (n+1) (c.af f) h2 q) λvs Z2 ys s₂ f2 r2 q2=>?_;exact⟨v::vs,Z2,f.trans f2,⟨y,ys,rfl,f2.vr r,r2⟩,congrArg (·+1) q2.1,q2.2⟩
theorem zy{es:List E}(h:gM es=true){l:List V}(e:l.length=es.length):l.length<=aJ:=e▸ai (cv (of_decide_eq_true h)) (by decide)
theorem UZ{es:List E}(ih:je C d es):SE C d (.tup es):=by
 intro A env gl vn B J Z s x Q c hc h;refine aT (av hc) λh1 h2=>?_;refine Tuple_ ?_;rw[rS];refine kJ (ih x 0 c h2 h) λvs Z' ys s' f r q=>?_;have hz:=zy h1 q.1;exact Ly (PE.lift f (Mu (tk:=s'.toks) f.g r hz q.2)) (by rw[r.length];exact gc hz)
theorem UR{m:Bool}{es:List E}(ih:je C d es):SE C d (.lst m es):=by
 intro A env gl vn B J Z s x Q c hc h;refine aT (av hc) λh1 h2=>?_;refine List_ ?_;rw[rS];refine kJ (ih x 0 c h2 h) λvs Z' ys s' f r q=>?_;have hz:=zy h1 q.1;exact LU (PE.lift f (rX (n:=0) (tk:=s'.toks) f.g r hz m q.2)) (by rw[r.length];exact gc hz)
theorem OT{xs:List Expr}:(gk xs env).any (·.1)=false:=by rw[gk,List.any_map];exact KH.mpr λ_ _=>kW
theorem Ms{f:ag}{xs:List Expr}{Q:Args->aB->Prop}(h:wpAny Md A (spliced (gk xs env)) (λvs s'=>Q ⟨vs,[]⟩ s') aw s):wpAny Md A (evalArgs f true (gk xs env) []) Q aw s:=by
 cases xs with
 |nil=>
  unfold evalArgs;show wpAny Md A (spliced (gk [] env) >>= _) Q aw s;exact aG (bT h λvs s' h'=>aG (a9 (ig (aG (a9 (aG (a9 (a9 (by simpa using h')))))))))
 |cons x r=>exact evalArgs_plain h
def s8(P:Heap->Prop)(f:ag):Prop:=∀h,P h->∃k,(k=Keeper.frame\/k=Keeper.machine\/k=Keeper.boundFrame)/\Looks Md h (keeperOf f) k
theorem k7{P:Heap->Prop}{pos:Pos}{f:ag}{first:List ag}{xs:List Expr}{Q:ag->aB->Prop}(hk:s8 P f)
  (h:wpAny Md A (spliced (gk xs env)) (λvs s'=>P s'.heap/\wpAny Md A (call f (first++vs)) Q aw s') aw s):wpAny Md A (callWith pos f first (gk xs env) []) Q aw s:=
 callWith_of (by rw[OT];rfl) hk (Ms h)
theorem EV{e:E}{es:List E}{x:Expr}{n:Str}{Q:ag->aB->Prop}(c:Ct d A env gl vn B J Z s)(hl:gM es=true)(hc:bQ gl vn e (ay (ay x 0) 0)=true)(hline:AY x=true)
  (h:wpAny Md A (eval (aW vn e (ay (ay x 0) 0)) env) (λov s₁=>wpAny Md A (getMethod ov n (do return (<-importBound (aW vn e (ay (ay x 0) 0)) env).getD true)) (λfx s₂=>wpAny Md A (callWith x.pos fx.1 fx.2 (gk (cA vn x es 1) env) []) Q aw s₂) aw s₁) aw s) :
  wpAny Md A (eval (.Call (.Attribute (aW vn e (ay (ay x 0) 0)) n (ay x 0).pos) (cA vn x es 1) [] x.pos) env) Q aw s:=by
 rw[arm_eval_Call,Ed c.K hc,rS];refine aG (bT h λov s₁ h₁=>aG (pK ?_));show wpAny Md A (methodCall _ n (ay x 0).pos x.pos env ov ((cA vn x es 1).length+([]:List Keyword).length) (gk (cA vn x es 1) env) []) Q aw s₁;have hform:methodCallForm ((cA vn x es 1).length+([]:List Keyword).length) (gk (cA vn x es 1) env) []=true:=by
  unfold methodCallForm;rw[show(gk (cA vn x es 1) env).all (λx=>!x.fst)=true from by rw[gk,L3];exact dU.mpr λ_ _=>rfl,Ff];exact decide_eq_true (fL (of_decide_eq_true hl) (by decide))
 unfold methodCall;rw[hform];refine aG (ig (bT h₁ λfx s₂ h₂=>aG (gb (a:=x.pos) ?_ h₂)));unfold methodCallPos;rw[show((ay x 0).pos.endLine==x.pos.line)=true from hline];rfl
theorem qc{n:Str}{x:Expr}{es:List E}{p pos:Pos}{Q:ag->aB->Prop}(h:wpAny Md A (eval (.Name n p) env) (λf s₁=>wpAny Md A (callWith pos f [] (gk (cA vn x es 1) env) []) Q aw s₁) aw s):wpAny Md A (eval (.Call (.Name n p) (cA vn x es 1) [] pos) env) Q aw s:=by
 rw[Km,rS];exact aG h
theorem Ae{f:ag}(h:keepIn K₀ f=true):s8 (λh=>K₀.In h) f:=λhp X=>keeps_K h hp X
theorem S1(H:bF cx)(Caa:gF C d){f:Nat}{es:List E}(ih:je C d es):SE C d (.call f es):=by
 intro A env gl vn B J Z s x Q c hc h;have h123:=av (av hc).1;have h12:=av h123.1;refine aT (H.fn f (of_decide_eq_true h12.1)) λe1 e2=>?_;refine qc (yI H c h12.2 e1 (k7 (Ae e2) ?_));refine kJ (ih x 1 c (av hc).2 h) λvs Z' ys s' f r q=>⟨H.X.keeps f.g.base,?_⟩
 exact g0 f (yB (Caa _ _ _ _ _ _ _ _ (c.R.le (eN d)) f.g r q.2))
theorem Sq(H:bF cx){v:V}{m f:Nat}(e0:oq Z v m=some f):keepIn K₀ (.ref (fa f))=true:=by
 cases v<;>try (exact nn e0;done)
 ·refine ar (a8 e0) λp e1 e=>?_;refine aT (zB e) λhc e=>?_;exact H.mth _ _ _ e
 ·exact H.mth _ _ _ e0
theorem S5(H:bF cx)(Caa:gF C d){e:E}{m:Nat}{es:List E}(ihe:SE C d e)(ih:je C d es):SE C d (.h e m es):=by
 intro A env gl vn B J Z s x Q c hc h;have h123:=av (av hc).1;have h12:=av h123.1;refine EV c h12.2 h123.2 h12.1 (seq (ihe _ c h123.2 h) λv Z' y s' f r q=>?_);refine ar (bj q) λg hg q=>?_;refine Sr H f.g r hg (k7 (Ae (Sq H hg)) ?_);refine kJ (ih x 1 (c.af f) (av hc).2 q) λvs Z2 ys s₂ f2 r2 q2=>⟨H.X.keeps f2.g.base,?_⟩
 exact g0 (f.trans f2) (yB (Caa _ _ _ _ _ _ _ _ (c.R.le (eN d)) f2.g (show aN _ _ (_::_) (_::_) from⟨y,ys,rfl,f2.vr r,r2⟩) q2.2))
theorem Me(id:String):s8 (λ_=>True) (.builtin id):=λ_ _=>⟨.machine,.inr (.inl rfl),.of_pure rfl⟩
theorem VW(H:bF cx){e:E}{b:BM}{es:List E}(ihe:SE C d e)(ih:je C d es):SE C d (.bm e b es):=by
 intro A env gl vn B J Z s x Q c hc h;have h123:=av (av hc).1;have h12:=av h123.1;refine EV c h12.2 h123.2 h12.1 (seq (ihe _ c h123.2 h) λv Z' y s' f r q=>?_);refine aT (Rh f.g r q.1) λt1 t2=>?_;refine getMethod_builtin t1 (O1 b) (Ri b) (Rj b) t2 (k7 (Me _) ?_);refine kJ (ih x 1 (c.af f) (av hc).2 q.2) λvs Z2 ys s₂ f2 r2 q2=>⟨trivial,?_⟩
 exact g0 (f.trans f2) (Vu H f2.g (f2.vr r) r2 q2.2)
theorem Fx(b:BI):bootBuiltins (qs b)=some (td b):=by cases b<;>kernel_rfl
theorem GX(b:BI):qs b∈(["len","isinstance","int","max","min","sum","bytes","str","range","enumerate","zip"]:List Str):=by cases b<;>decide
theorem Fy(b:BI):s8 (λ_=>True) (td b):=λ_ _=>⟨.machine,.inr (.inl rfl),by cases b<;>exact .of_pure rfl⟩
theorem Pz(H:bF cx)(c:Ct d A env gl vn B J Z s){b:BI}{v r:V}{y:ag}{Q:QV}(x:Expr)(hisi:wu b=true)(hc:II gl vn b=true)(rv:VR (Fz Z B) s.heap v y)(e0:oV Z b [v]=some r)(q:Q r Z) :
  ∃t,(∀{env:Env}{p:Pos},backTo p (starEach (j8 b x) env)=gk [t] env)/\j8 b x=[t]/\wpAny Md A (eval t env) (λtv s'=>wpAny Md A (call (td b) [y,tv]) (PE B Z s Q) aw s') aw s:=by
 have C5:bootBuiltins "bytes"=some (.type "bytes"):=by kernel_rfl
 have Es:bootBuiltins "str"=some (.type "str"):=by kernel_rfl
 cases b<;>try (cases hisi;done)
 ·refine⟨_,rfl,rfl,lj H c hc (by decide) C5 ?_⟩;obtain⟨b,eb,rfl⟩:=cN e0;obtain rfl:=gW eb;obtain⟨t,rfl,_⟩:=rv;exact Px (PE.bool c.G q)
 ·refine⟨_,rfl,rfl,lj H c hc (by decide) Es ?_⟩;obtain⟨b,eb,rfl⟩:=cN e0;obtain rfl:=gW eb;obtain⟨t,rfl,_⟩:=rv;exact Py (PE.tok (v:=.bool _) c.G rfl q)
 ·refine⟨_,rfl,rfl,Tuple_ ?_⟩;obtain⟨b,eb,rfl⟩:=cN e0;obtain rfl:=gW eb;obtain⟨t,rfl,_⟩:=rv;refine spliced_cons (lj H c (av hc).1 (by decide) C5 (spliced_cons (lj H c (av hc).2 (by decide) Es (spliced_nil (Ly ?_ (by decide))))));exact NX (kc _ rfl) λtk=>PE.keep (v:=.bool _) c.G (bI.push _ _) rfl rfl rfl q
theorem VV(H:bF cx){b:BI}{es:List E}(ih1:∀e,es=[e]->SE C d e)(ih:je C d es):SE C d (.bi b es):=by
 intro A env gl vn B J Z s x Q c hc h;have h12:=av (av hc).1;cases hisi:wu b with
 |true=>
  rw[hisi]at h12;refine aT (av h12.2) λh3 h4=>?_;obtain⟨e,rfl⟩:=Bx.mp (eq_of_beq h4);have ihe:SE C d e:=ih1 e rfl;show wpAny Md A (eval (.Call (.Name (qs b) (ay x 0).pos) (aW vn e (ay x 1)::j8 b x) [] x.pos) env) _ aw s;rw[Km,Fb];refine aG (lj H c h12.1 (GX b) (Fx b) ?_);have key:wpAny Md A (eval (aW vn e (ay x 1)) env) (λz s₁=>∃t,(∀{env:Env}{p:Pos},backTo p (starEach (j8 b x) env)=gk [t] env)/\j8 b x=[t]/\wpAny Md A (eval t env) (λtv s'=>wpAny Md A (call (td b) [z,tv]) (PE B Z s Q) aw s') aw s₁) aw s:=by
   refine seq (ihe (ay x 1) c (av (av hc).2).1 h) λv Z' z s' f r q=>?_;refine ar (bj q) λu hu q=>?_;refine cm (Pz H (c.af f) x hisi h3 r hu q) λt h1 h2 h3=>?_;exact⟨t,h1,h2,bT h3 λtv s₂ k=>g0 f k⟩
  obtain⟨t,ht1,ht2⟩:∃t,(∀{env:Env}{p:Pos},backTo p (starEach (j8 b x) env)=gk [t] env)/\j8 b x=[t]:=by
   cases b<;>first|(cases hisi;done)|exact⟨_,rfl,rfl⟩
  show wpAny Md A (callWith _ _ [] ((false,eval (aW vn e (ay x 1)) env)::backTo x.pos (starEach (j8 b x) env)) []) _ aw s;rw[ht1];refine k7 (xs:=[aW vn e (ay x 1),t]) (Fy b) (spliced_cons (bT key λz s₁ k=>?_));refine cm k λt' _ k1 k2=>?_;rw[ht2]at k1;injection k1 with k1;subst k1
  exact spliced_cons (bT k2 λtv s₂ k=>spliced_nil ⟨trivial,k⟩)
 |false=>
  have hty:j8 b x=[]:=by cases b<;>first|(cases hisi;done)|rfl
  show wpAny Md A (eval (.Call (.Name (qs b) (ay x 0).pos) (cA vn x es 1++j8 b x) [] x.pos) env) _ aw s;rw[hty,gP];refine qc (lj H c h12.1 (GX b) (Fx b) (k7 (Fy b) ?_));refine kJ (ih x 1 c (av hc).2 h) λvs Z' ys s' f r q=>⟨trivial,?_⟩
  refine aT q λ_ q=>?_;refine ar (bj q) λu hu q=>?_;exact g0 f (Vs c.r0 f.g r hisi hu q)
end
end
section
open PySem PySem.W PyProof.Rows PySem.SeqAt PySem.Calls
section
variable{C:ax}{d:Nat}{B:aq->Prop}{Z Z':ae}{h h':Heap}{s s':aB}{A:bD}{env:Env}{gl vn:List Str}{J:aj}{fz fz':aq->Prop}
theorem Ut{l:List V}{y:ag}{i:Int}{t:Tok}{Q:QV}(G:aE B Z s.heap)(r:VR (Fz Z B) s.heap (.list l) y)(hz:l.length*i.toNat<=aJ)(hi:i<=aJ)(hlo:-(2 ^ 63:Int)<=i)(m:Bool)(q:qP m (aR i.toNat l).flatten Z Q) :
  wpAny Md A (binaryOp .Mult y (.int i t)) (PE B Z s Q) aw s:=by
 obtain⟨a,vs,rfl,hf,⟨n,ho⟩,_,rs⟩:=r;have hsz:vs.length*i.toNat<=aJ:=by rw[rs.length];exact hz
 have hi2:i<2 ^ 63:=Kt hi (by decide);refine wpAny_binaryOp_repeat_ref (T:="list") (U:="int") (by decide) ⟨_,ho,rfl⟩ (λs'=>typeIs_int s' i t) noFill_list_mul PySem.F.fills_int_mul JY repeat_list PySem.F.slot_int_index.lookup
  (nR JY (typeIs_int s i t) PySem.F.entry_int_rmul (PySem.F.args_int_rmul_2 _ _) (int___rmul___int_list i t a vs.toArray n)
   ⟨ho,rfl,⟨_,ho,rfl⟩,nR PySem.F.slot_list_mul ⟨_,ho,rfl⟩ PySem.F.entry_list_mul (PySem.F.args_list_mul_2 _ _)
    (AutoListH.list___mul___list_int_3 a vs.toArray n i t (by simp[Bs];exact⟨hlo,hi2⟩) (bc.mpr (ai hsz (by decide))) (by rw[xy,decide_eq_true_eq];exact bc.mpr (ai hsz (by decide))))
    ⟨ho,?_⟩⟩)
 rw[listMul_foldl_if];exact rX (n:=0) (tk:=s.toks) G (rs.replicate i.toNat) (by rw[List.length_flatten,Kx,List.sum_replicate_nat,L6];exact hz) m q
theorem UW{m:Bool}{es:List E}{n:E}(ih:je C d es)(ih2:SE C d n):SE C d (.rep m es n):=by
 intro A env gl vn B J Z s x Q c hc h;have h12:=av (av hc).1;refine wpAny_BinOp (List_ ?_);rw[rS];refine kJ (ih (ay x 0) 0 c h12.2 h) λvs Z' ys s' f r q=>?_;have hz:=zy h12.1 q.1;obtain⟨v,Z2,f2,r2,rfl,rfl⟩:=rX (n:=0) (tk:=s'.toks) (Q:=λv Z=>v=.list vs/\Z=Z') f.g r hz false ⟨rfl,rfl⟩;refine LU (seq (ih2 (ay x 1) ((c.af f).af f2) (av hc).2 q.2) λk Z3 z s₃ f3 r3 q3=>?_) (by rw[r.length];exact gc hz);refine XQ (bj q3) λi hi c1 c2 c3 q4=>?_;obtain rfl:=eY hi;obtain⟨t,rfl⟩:=r3;exact g0 ((f.trans f2).trans f3) (Ut f3.g (f3.vr r2) c1 c2 c3 m q4)
theorem FH(Z:ae)(a:Nat):Sub (fX Z a) Z:=λb m e=>(kZ (b=a)).elim (λz=>by rw[fX,if_pos z]at e;exact nn e) λz=>by rw[fX,if_neg z]at e;exact e
theorem Ub:∀{l:List V}{Z:ae}{xs:List ag},aE B Z h->aN (Fz Z B) h l xs->Sub (gL Z l).2 Z/\aN (Fz (gL Z l).2 B) h (gL Z l).1 xs:=by
 intro l;induction l with
 |nil=>intro Z xs _ r;exact⟨Sub.refl _,r⟩
 |cons v l ih=>
  intro Z xs G r;obtain⟨y,ys,rfl,rv,r⟩:=r;unfold gL;cases hp:jG Z v with
  |none=>
   obtain⟨hs,q⟩:=ih G r;exact⟨hs,y,ys,rfl,rv.mono (lI hs),q⟩
  |some p=>
   obtain⟨rfl,hc⟩:=qe hp;subst rv;have hd:=FH Z p.1;obtain⟨hs,q⟩:=ih (G.sub hd) (r.mono (lI hd));obtain⟨_,hb,vs,hl,hz,rs⟩:=G.cells _ _ hc;exact⟨hs.trans hd,.ref p.1,ys,rfl,⟨p.1,vs,rfl,⟨hs.none (if_pos rfl),hb⟩,hl,hz,rs.mono (lI (hs.trans hd))⟩,q⟩
theorem OJ(a:aq)(xs:List ag):(LW "type.__call__" ⟨.ref a::xs,[]⟩).weight=1:=by kernel_rfl
theorem QP(xs:List ag):(LW "type.__call__" ⟨xs,[]⟩).cUnits=1:=by kernel_rfl
theorem Nm{a:aq}{xs:List ag}(R:eD A (d+1)):eD (A.under (.builtin "type.__call__" ⟨.ref a::xs,[]⟩)) d:=by
 obtain⟨r1,r2,r3⟩:=R;refine⟨r1,?_,?_⟩
 ·show A.depth+_+4*d+10<=900;rw[OJ];exact au [_,_] [] (.ln (.a (.a (.a .v0 .k1) (.m 4 .v1)) (.k 10)) (.k 900)) 1 [(1,.ln (.a (.a .v0 (.m 4 (.a .v1 .k1))) (.k 10)) (.k 900))] rfl r2
 ·show A.units+_+40*d+100<=9000;rw[QP];exact au [_,_] [] (.ln (.a (.a (.a .v0 .k1) (.m 40 .v1)) (.k 100)) (.k 9000)) 1 [(1,.ln (.a (.a .v0 (.m 40 (.a .v1 .k1))) (.k 100)) (.k 9000))] rfl r3
theorem Sn{frz:Bool}{c d:Nat}{r:V}{y:ag}{p:aq}{Q:QV}(G:aE B Z s.heap)(rv:VR (Fz Z B) s.heap (.inst c d) (.ref p))(rr:VR (Fz Z B) s.heap r y)(q0:lQ frz c d r Z Q):y=.none/\PE B Z s Q (.ref p) s:=by
 refine ar (bj q0) λu hu q=>?_;obtain rfl:=sE hu;refine⟨rr,?_⟩;cases frz with
 |false=>exact PE.same G rv q
 |true=>
  obtain⟨⟨c',fs⟩,hp,rfl,hk,q⟩:=bj q;obtain⟨a,ha,hz,ho⟩:=rv;obtain⟨_,hb,es,n,hd,k,rs,hf⟩:=G.cells _ _ (yl hp);have hs:=FH Z d;obtain⟨hs2,rs2⟩:=Ub (G.sub hs) (rs.mono (lI hs));have hs3:=hs2.trans hs;rw[hk]at k;refine⟨_,_,⟨G.sub hs3,.sub hs3 iU⟩,?_,q⟩;exact⟨a,d,es,n,ha,⟨hs3.none hz.1,hz.2⟩,⟨hs2.none (if_pos rfl),hb⟩,ho,hd,k,rs2⟩
theorem UT(H:bF cx)(Caa:gF C d){frz:Bool}{c:Nat}{es:List E}(ih:je C d es):SE C d (.new frz c es):=by
 intro A env gl vn B J Z s x Q c0 hc h;have h123:=av (av hc).1;have h12:=av h123.1;refine aT (H.cn c (of_decide_eq_true h12.1)) λe1 O=>?_;refine qc (yI H c0 h12.2 e1 (k7 (Ae O.keep) ?_));refine kJ (ih x 1 c0 (av hc).2 h) λvs Z' ys s' f r q=>⟨H.X.keeps f.g.base,?_⟩
 refine g0 f (yB ?_);have X':=H.X.keeps f.g.base;refine aT q λ_ q=>?_;obtain⟨hh,gg,dd,tt,oo⟩:=s';have k:bI hh ((hh.push emptyDict).push (instObj (ca c) hh.objs.size)):=λa o e=>bI.push _ _ a o (bI.push _ _ a o e);have hd:((hh.push emptyDict).push (instObj (ca c) hh.objs.size)).get? hh.objs.size=some (mF [] 0):=pq _ (kc _ rfl);have hx:((hh.push emptyDict).push (instObj (ca c) hh.objs.size)).get? (hh.objs.size+1)=some (instObj (ca c) hh.objs.size):=by
  rw[<-show(hh.push emptyDict).objs.size=hh.objs.size+1 from Cn _ _];exact kc _ rfl
 have f2:Af B Z' ⟨hh,gg,dd,tt,oo⟩ (ak Z' hh.objs.size (.attrs c [])) ⟨(hh.push emptyDict).push (instObj (ca c) hh.objs.size),gg,dd,tt,oo⟩:=
  ⟨f.g.alloc k (aC _) ⟨[],0,hd,rfl,rfl,λp hp=>nm hp⟩,.alloc (aC _) iU k rfl rfl⟩
 have rx:VR (Fz (ak Z' hh.objs.size (.attrs c [])) B) ((hh.push emptyDict).push (instObj (ca c) hh.objs.size)) (.inst c hh.objs.size) (.ref (hh.objs.size+1)):=
  ⟨_,rfl,⟨(i8 (kh _)).trans (f.g.none_big (eN _)),f.g.free_big (eN _)⟩,hx⟩
 have call:=Caa _ _ _ _ _ _ _ _ (Nm (a:=ca c) (xs:=ys) c0.R) f2.g (show aN _ _ (_::_) (_::_) from⟨_,ys,rfl,rx,f2.vrs r⟩) (q _ (f.g.none_big (aC _)));refine make_core (makes_of X' O.made) (looks_findIn X' O.init) (λself=>bind_fn X' self (beq_iff_eq.mp O.initF)) (.inl rfl) (codeAny_mono call λr' s₂ hr=>?_);rcases r' with e|(_|_|_|v)
 ·exact hr.elim
 ·exact hr.elim
 ·exact hr.elim
 ·exact hr.elim
 ·refine cp hr λrv Z2 f3 r3 q3=>?_;refine aT (Sn f3.g (f3.vr rx) r3 q3) λrfl m=>?_;exact⟨rfl,m.lift (f2.trans f3)⟩
end
end
section
open PySem PySem.W PyProof.Rows PySem.SeqAt PySem.Calls
def qW(fz:aq->Prop)(h:Heap):List V->List V->List (ag×ag)->Prop
 |[],vs,ps=>vs=[]/\ps=[]
 |k::ks,vs,ps=>∃v vs' a b ps',vs=v::vs'/\ps=(a,b)::ps'/\VR fz h k a/\VR fz h v b/\qW fz h ks vs' ps'
section
variable(C:ax)(d:Nat)
def SD(es:List E):Prop:=∀{A:bD}{env:Env}{gl vn:List Str}{B:aq->Prop}{J:aj}{Z:ae}{s:aB}(x:Expr){ks:List V}(n m:Nat){p:Pos}{Q:List V->ae->Prop},Ct d A env gl vn B J Z s->ks.all xn=true->ks.length=es.length->fD gl vn x es m=true->eh C es J Z Q ->
 wpAny Md A (evalPairs (pairTrees (oD x ks n) (cA vn x es m) env p)) (λps s'=>∃vs Z',Af B Z s Z' s'/\qW (Fz Z' B) s'.heap ks vs ps/\Q vs Z') aw s
end
section
variable{C:ax}{d:Nat}{B:aq->Prop}{Z Z':ae}{h h':Heap}{s s':aB}{A:bD}{env:Env}{gl vn:List Str}{J:aj}{fz fz':aq->Prop}
theorem UK:SD C d []:=by
 intro A env gl vn B J Z s x ks n m p Q c hk hl hc h;cases nE.mp hl
 exact a9 ⟨[],Z,.refl c.G,⟨rfl,rfl⟩,h⟩
theorem SY{e:E}{r:List E}(ih:SE C d e)(ihr:SD C d r):SD C d (e::r):=by
 intro A env gl vn B J Z s x ks n m p Q c hk hl hc h;refine aT (av hc) λh1 h2=>?_;cases ks with
 |nil=>cases hl
 |cons v ks=>
  rw[LA]at hk;refine aT (av hk) λhk1 hk2=>?_;show wpAny _ _ (evalPairs ((eval (aW vn (.c v) (ay x n)) env,do let x <-eval (aW vn e (ay x m)) env;standAt p;pure x)::pairTrees (oD x ks (n+1)) (cA vn x r (m+1)) env p)) _ _ s;refine aG (seq (Il (C:=C) (d:=d) v (ay x n) (Q:=λv' Z'=>v'=v/\Z'=Z) c hk1 ⟨rfl,rfl⟩) λv' Z' kv s' f r q=>?_);obtain⟨rfl,rfl⟩:=q;refine aG (ig (aG (seq (ih (ay x m) (c.af f) h1 h) λu Z2 z s₂ f2 r2 q2=>?_)));refine aG (pK (a9 (aG (ig (bT (ihr x (n+1) (m+1) ((c.af f).af f2) hk2 (iI hl) h2 q2) λps s₃ h₃=>?_)))));refine cp h₃ λvs Z3 f3 rp q3=>?_;exact a9 ⟨u::vs,Z3,(f.trans f2).trans f3,⟨u,vs,kv,z,ps,rfl,rfl,f3.vr (f2.vr r),f3.vr r2,rp⟩,q3⟩
theorem yN{x:Expr}:∀(ks:List V)(n:Nat),(oD x ks n).length=ks.length:=λrr=>li (λ_=>rfl)
 (λ_ ks ih n=>congrArg (·+1) (ih (n+1))) rr
theorem M3{x:Expr}:∀(ks:List V)(n:Nat),(oD x ks n).all (·.isSome)=true:=λrr=>li (λ_=>rfl)
 (λ_ ks ih n=>ih (n+1)) rr
theorem OR.cons{K:Type}[DecidableEq K]{kvs:List (K×ag)}{a j:K}{v:V}{y:ag}{o:Option V}(r:VR fz h v y)(q:OR fz h o (valueAt kvs j)):OR fz h (if j=a then some v else o) (valueAt ((a,y)::kvs) j):=by
 unfold valueAt;rw[rJ];by_cases hj:j=a
 ·rw[if_pos hj,show decide (a=j)=true from decide_eq_true hj.symm];exact⟨y,rfl,r⟩
 ·rw[if_neg hj,show decide (a=j)=false from decide_eq_false λz=>hj z.symm];exact q
theorem zZ(i:Str)(t:Tok):(Cy cz w).is i (.str i t)=true:=by simp[Cy,Value.isStrOf]
abbrev mT:Obj:={ cls:=.type "dict",data:=.dict #[] }
theorem FJ{K:Type}[DecidableEq K]{knd:KeyKind cz w K}{vs:List E}{x:Expr}{ks:List V}{Q:QV}(c:Ct d A env gl vn B J Z s)(ih:SD C d vs)(hne:ks≠[])(hk:ks.all xn=true)(hl:ks.length=vs.length)(hc:fD gl vn x vs ks.length=true)(h:eh C vs J Z λvs Z=>aK (gZ b ks vs) λm=>∀a,Z a=none->Q (.ref a) (ak Z a m))(hsz:ks.length<=3)
  (key:∀{us:List V}{m:M}{fz:aq->Prop}{h:Heap}{ps:List (ag×ag)},gZ b ks us=some m->qW fz h ks us ps->∃kvs,Carries knd ps kvs/\(kvs.map (·.1)).Nodup/\∀{fz':aq->Prop}{h':Heap}{a:aq},Kp fz h fz' h'->h'.DictOf knd a kvs->MR fz' h' a m) :
  wpAny Md A (eval (.Dict (oD x ks 0) (cA vn x vs ks.length) x.pos) env) (PE B Z s Q) aw s:=by
 have k:bI s.heap (s.heap.push mT):=bI.push _ _;have hn:(s.heap.push mT).get? s.heap.objs.size=some mT:=kc _ rfl;have c1:Ct d A env gl vn (BW B λa=>a=s.heap.objs.size) J Z { s with heap:=s.heap.push mT }:=
  ⟨c.R,c.K.block _,c.G.block k (λa e=>dA e.symm) λa e=>⟨_,e▸hn⟩,c.L.block c.K k λa e=>dA e.symm⟩
 refine wpAny_Dict_walk (knd:=knd) (M3 _ _) (by rw[yN,Ff,hl]) (λz=>hne (nE.mp (by rw[<-yN (x:=x) ks 0,z];rfl))) (by rw[yN];exact ai hsz (by decide))
  (bT (ih x 0 ks.length c1 hk hl hc h) λps s' hp=>?_)
 refine cp hp λus Z' f rp q=>?_;refine ar (bj q) λm hm q=>?_;refine cm (key hm rp) λkvs h1 h2 h3=>?_;have hd:s'.heap.get? s.heap.objs.size=some mT:=(f.x.keep _ _ hn (c.G.none_big (aC _)) λq=>q).1;refine⟨kvs,h1,(K7 (knd:=knd) s.heap).at λo ho=>(di (hn.symm.trans ho))▸hd,λh' hD hs=>?_⟩;rw[merged_nil_of_nodup _ h2]at hD;have r:=h3 (FU (m:=m) hs) hD;exact⟨.ref s.heap.objs.size,ak Z' s.heap.objs.size m,⟨f.g.fill (c.G.free_big (aC _)) hs r,f.x.new_but (aC _) k hs⟩,rfl,q _ (f.g.none_of_blocked (.inr rfl))⟩
theorem Uv{a b c:Str}(n1:a≠b)(n2:a≠c)(n3:b≠c):[a,b,c].Nodup:=
 have m1:∀{x y:Str},x≠y->x ∉ [y]:=λn z=>n (cJ.mp z)
 x7.mpr ⟨λz=>(cq.mp z).elim n1 (m1 n2),x7.mpr ⟨m1 n3,x7.mpr ⟨λz=>(nm z),Cp⟩⟩⟩
theorem AR{k:Str}{ks us:List V}{ps:List (ag×ag)}(rp:qW fz h (.str k::ks) us ps):∃x u t us' ps',us=x::us'/\ps=(.str k t,u)::ps'/\VR fz h x u/\qW fz h ks us' ps':=Je rp λv vs' a b ps' e1 e2 e3 e4 e5=>e3.elim λt e=>⟨v,b,t,vs',ps',e1,e▸e2,e4,e5⟩
theorem Wi{a b c:Str}{us:List V}{ps:List (ag×ag)}(rp:qW fz h [.str a,.str b,.str c] us ps):∃x y z u1 u2 u3 t1 t2 t3,us=[x,y,z]/\ps=[(.str a t1,u1),(.str b t2,u2),(.str c t3,u3)]/\VR fz h x u1/\VR fz h y u2/\VR fz h z u3:=by
 exact o9 (AR rp) λx u1 t1 us1 ps1 e1 f1 r1 rp=>o9 (AR rp) λy u2 t2 us2 ps2 e2 f2 r2 rp=>o9 (AR rp) λz u3 t3 us3 ps3 e3 f3 r3 rp=>⟨x,y,z,u1,u2,u3,t1,t2,t3,by rw[e1,e2,e3,rp.1],by rw[f1,f2,f3,rp.2],r1,r2,r3⟩
theorem Rt{b:Bool}{k1 k2:V}{ks us:List V}{m:M}(hm:gZ b (k1::k2::ks) us=some m):∃a b c,[k1,k2]++ks=[.str a,.str b,.str c]/\a≠b/\a≠c/\b≠c/\∀x y z,us=[x,y,z]->m=.dS 3 λj=>if j=a then some x else if j=b then some y else if j=c then some z else none:=by
 refine ar (a8 hm) λa ha hm=>?_;refine ar (a8 hm) λb hb hm=>?_;refine ar (a8 hm) λk3 h3 hm=>?_;refine ar (a8 hm) λc hc hm=>?_;cases us with
 |nil=>exact nn hm
 |cons u us=>
  refine ar (a8 hm) λp hp hm=>?_;obtain⟨hn,rfl⟩:=iz hm;refine⟨a,b,c,by rw[qh ha,qh hb,vK h3,qh hc];rfl,hn.1,hn.2.1,hn.2.2,λx y z e=>?_⟩;cases e
  cases hp
  rfl
theorem UO{b:Bool}{ks:List V}{vs:List E}(ih:SD C d vs):SE C d (.dct b ks vs):=by
 intro A env gl vn B J Z s x Q c hc h;have h123:=av (av hc).1;have h12:=av h123.1;have hl:=eq_of_beq h12.2;cases ks with
 |nil=>
  cases nE.mp hl.symm
  have h:aK (gZ b [] []) λm=>∀a,Z a=none->Q (.ref a) (ak Z a m):=h;refine ar (bj h) λm hm q=>?_;have k:bI s.heap (s.heap.push mT):=bI.push _ _;have fin:MR (Fz (ak Z s.heap.objs.size m) B) (s.heap.push mT) s.heap.objs.size m->PE B Z s Q (.ref s.heap.objs.size) { s with heap:=s.heap.push mT }:=λr=>
   ⟨.ref s.heap.objs.size,_,⟨c.G.alloc k (aC _) r,.alloc (aC _) iU k rfl rfl⟩,rfl,q _ (c.G.none_big (aC _))⟩
  refine wpAny_Dict_empty (fin ?_);cases b with
  |true=>(injection hm with hm;subst hm);exact⟨[],Yu s.heap,aC _,λx hx=>(nm hx),λj=>rfl⟩
  |false=>(injection hm with hm;subst hm);exact⟨[],K7 s.heap,aC _,λj=>rfl⟩
 |cons k1 ks=>
  cases ks with
  |nil=>
   refine FJ (knd:=intKind cz w) c ih (λz=>nc z) h12.1 hl (av hc).2 h (of_decide_eq_true h123.2) λhm rp=>?_;refine ar (a8 hm) λi hi hm=>?_;obtain⟨v,hv,rfl⟩:=cN hm;obtain rfl:=eY hi;cases vK hv
   obtain⟨_,_,a,u,ps,e1,rfl,⟨t,rfl⟩,rv,rfl,rfl⟩:=rp;injection e1 with e1;subst e1
   exact⟨[(i,u)],⟨vD i t,rfl,trivial⟩,x7.mpr ⟨λz=>(nm z),Cp⟩,λk hD=>⟨_,hD,aC _,λj=>OR.cons (rv.mono k) rfl⟩⟩
  |cons k2 ks=>
   refine FJ (knd:=Cy cz w) c ih (λz=>nc z) h12.1 hl (av hc).2 h (of_decide_eq_true h123.2) λhm rp=>?_;refine Ja (Rt hm) λa b c e n1 n2 n3 hm=>?_;rw[show k1::k2::ks = _ from e]at rp;obtain⟨x,y,z,u1,u2,u3,t1,t2,t3,e2,rfl,r1,r2,r3⟩:=Wi rp;rw[hm x y z e2];exact⟨[(a,u1),(b,u2),(c,u3)],⟨zZ a t1,rfl,zZ b t2,rfl,zZ c t3,rfl,trivial⟩,Uv n1 n2 n3,λk hD=>⟨_,hD,aC _,λj=>OR.cons (r1.mono k) (OR.cons (r2.mono k) (OR.cons (r3.mono k) rfl))⟩⟩
end
end
section
open PySem PySem.W PyProof.Rows PySem.SeqAt PySem.Calls
section
variable{B W L:aq->Prop}{Z Z' Z1 Z2:ae}{h h':Heap}{s s' s'' s₁ s₂:aB}{A:bD}{fz fz':aq->Prop}
structure jC(W:aq->Prop)(s s':aB):Prop where
 keep:∀b o,¬W b->s.heap.get? b=some o->s'.heap.get? b=some o
 gens:s'.gens=s.gens
 os:s'.os=s.os
theorem yR{it:aq}(hw:W it)(hs:fK it h h'):∀b o,¬W b->h.get? b=some o->h'.get? b=some o:=λb o n e=>(hs.2 b λq=>n (q▸hw)).trans e
theorem jC.same{it:aq}{tk:Nat}(hw:W it)(hs:fK it s.heap h'):jC W s { s with heap:=h',toks:=tk }:=⟨yR hw hs,rfl,rfl⟩
theorem jC.but{it:aq}{tk:Nat}(hw:W it)(hs:Heap.ExtBut it s.heap h'):jC W s { s with heap:=h',toks:=tk }:=⟨λb o n e=>hs b o (λq=>n (q▸hw)) e,rfl,rfl⟩
theorem yw{it:aq}(tW:∀b,W b->∃o,s.heap.get? b=some o)(hs:fK it s.heap h')(hi:∃o,h'.get? it=some o):∀b,W b->∃o,h'.get? b=some o:=λb hb=>
 (kZ (b=it)).elim (λq=>q▸hi) λq=>(tW b hb).imp λo ho=>(hs.2 b q).trans ho
def Iu(A:bD)(B W:aq->Prop)(Z:ae)(s:aB)(target:Expr)(it:aq)(I:(aq->Prop)->Heap->Nat->Prop)(i:Nat)(r:Option V)(r':Option ag):aB->Prop:=λs₁=>match r' with
 |none=>r=none/\jC W s s₁
 |some y=>wpAny Md A (letOwnedTupleGo target (.ref it) y) (λ_ s₂=>∃v,r=some v/\jC W s s₂/\(∀b,W b->∃o,s₂.heap.get? b=some o)/\VR (Fz Z B) s₂.heap v y/\I (Fz Z B) s₂.heap (i+1)) aw s₁
structure iP(W:aq->Prop)(tt:Bool)(it:aq)(is:IS)(I:(aq->Prop)->Heap->Nat->Prop):Prop where
 mono:∀{fz fz':aq->Prop}{h h':Heap}{i:Nat},Kp fz h fz' h'->(∀a o,W a->h.get? a=some o->h'.get? a=some o)->I fz h i->I fz' h' i
 self:∀{A:bD}{Q:ag->aB->Prop}{s:aB}{fz:aq->Prop}{i:Nat},I fz s.heap i->Q (.ref it) s->wpAny Md A (pyIter (.ref it)) Q aw s
 step:∀{A:bD}{B:aq->Prop}{Z:ae}{s:aB}{i:Nat}{r:Option V}{target:Expr},A.handled=none->aE B Z s.heap->(∀a,W a->B a)->(tt=true->∃elts x1 pos,target=.Tuple elts x1 pos)->(∀b,W b->∃o,s.heap.get? b=some o) ->
  I (Fz Z B) s.heap i->fq Z is i=some r->wpAny Md A (pyNext (.ref it)) (Iu A B W Z s target it I i r) aw s
def m6(la:aq)(src:IS)(fz:aq->Prop)(h:Heap):Prop:=match src with
 |.vals l=>fz la/\∃vs,h.PlainList la vs.toArray/\aN fz h l vs
 |.live a=>la=a
 |.enum _=>False
theorem m6.mono{la:aq}{src:IS}(k:Kp fz h fz' h')(S:m6 la src fz h):m6 la src fz' h':=by
 cases src with
 |vals l=>obtain⟨f,vs,p,r⟩:=S;exact⟨(iL k f p).1,vs,(iL k f p).2,r.mono k⟩
 |live a=>exact S
 |enum s=>exact S
theorem m6.at{la:aq}{src:IS}{i:Nat}{r:Option V}(G:aE B Z h)(S:m6 la src (Fz Z B) h)(e:fq Z src i=some r):∃l vs,l[i]?=r/\h.PlainList la vs.toArray/\aN (Fz Z B) h l vs:=by
 cases src with
 |vals l=>obtain⟨_,vs,p,q⟩:=S;exact⟨l,vs,di e,p,q⟩
 |live a=>
  refine ar (cN e) λl hl e1=>?_;subst S;obtain⟨_,_,vs,p,_,q⟩:=G.cells _ _ (rY hl);exact⟨l,vs,e1,p,q⟩
 |enum s=>exact S.elim
theorem si{l:List V}{vs:List ag}{i:Nat}(r:aN fz h l vs)(e:l[i]?=none):vs.toArray[i]?=none:=by
 rw[uh,Jt,r.length];exact Jt.mp e
theorem sj{l:List V}{vs:List ag}{i:Nat}{v:V}(r:aN fz h l vs)(e:l[i]?=some v):∃y,vs.toArray[i]?=some y/\VR fz h v y:=by
 refine ar (r.get e) λy hy ry=>?_;exact⟨y,by rw[uh];exact hy,ry⟩
theorem PF{it la:aq}{src:IS}{tt:Bool}(hw:W it):iP W tt it src λfz h i=>m6 la src fz h/\h.IsListIter it la i where
 mono k kw I:=⟨I.1.mono k,I.2.at λo e=>kw _ o hw e⟩
 self I q:=wpAny_pyIter_listiter I.2 q
 step:=@λA B Z s i r target hh G hW ht tW I e=>by
  refine cp (I.1.at G e) λl vs el p rs=>?_;cases r with
  |none=>exact wpAny_pyNext_list_end hh I.2 p.isList (si rs el) λh' hs=>⟨rfl,.but (tk:=s.toks) hw hs⟩
  |some v=>
   refine ar (sj rs el) λy hy ry=>?_;refine wpAny_pyNext_list_item I.2 p.isList hy λh' t' hs=>letGo_listiter t' ?_;have k:=nX (Z:=Z) hW (yR hw hs);exact⟨v,rfl,.same (tk:=s.toks) hw hs,yw tW hs (t'.elim λo q=>⟨o,q.1⟩),ry.mono k,I.1.mono k,t'⟩
theorem PH{it la:aq}{l:List V}{vs:List ag}{tt:Bool}(hw:W it):iP W tt it (.vals l) λfz h i=>fz la/\IsTup h la vs.toArray/\aN fz h l vs/\h.IsTupleIter it la i where
 mono k kw I:=⟨(mR k I.1 I.2.1).1,(mR k I.1 I.2.1).2,I.2.2.1.mono k,I.2.2.2.at λo e=>kw _ o hw e⟩
 self I q:=wpAny_pyIter_tupleiter I.2.2.2 q
 step:=@λA B Z s i r target hh G hW ht tW I e=>by
  refine nD I λf p rs t=>?_;have el:l[i]?=r:=di e;cases r with
  |none=>exact wpAny_pyNext_tuple_end hh t p (si rs el) λh' hs=>⟨rfl,.but (tk:=s.toks) hw hs⟩
  |some v=>
   refine ar (sj rs el) λy hy ry=>?_;refine wpAny_pyNext_tuple_item t p hy λh' t' hs=>letGo_tupleiter t' ?_;have k:=nX (Z:=Z) hW (yR hw hs);exact⟨v,rfl,.same (tk:=s.toks) hw hs,yw tW hs (t'.elim λo q=>⟨o,q.1⟩),ry.mono k,(mR k f p).1,(mR k f p).2,rs.mono k,t'⟩
theorem MA{target:Expr}{I:aq}{x left step:Int}{v:ag}{Q:Unit->aB->Prop}(hit:IsRangeIter s.heap I x left step)(h:Q () s):wpAny Md A (letOwnedTupleGo target (.ref I) v) Q aw s:=by
 unfold letOwnedTupleGo;cases target<;>first
  |exact a9 h
  |(cases v<;>first
    |exact a9 h
    |exact aG (wpAny_load hit (a9 h)))
theorem zW{step:Int}:∀{n:Nat}{lo:Int}{j:Nat},(cC lo step n)[j]?=if j<n then some (.int (lo+j*step)) else none:=by
 intro n;induction n with
 |zero=>intro lo j;rfl
 |succ n ih=>
  intro lo j;cases j with
  |zero=>rw[if_pos (fi n)];show some (V.int lo) = _;rw[show((0:Nat):Int)*step=0 from uB _,pL]
  |succ j=>
   show(cC (lo+step) step n)[j]? = _;rw[ih];by_cases q:j<n
   ·rw[if_pos q,if_pos (nK q),hZ,CM,show((1:Nat):Int)*step=step from rP _,nM (j*step) step,mz]
   ·rw[if_neg q,if_neg λz=>q (ff z)]
theorem PG{it:aq}{a step:Int}{n:Nat}{tt:Bool}(hw:W it):iP W tt it (.vals (cC a step n)) λfz h i=>i<=n/\IsRangeIter h it (a+i*step) ((n:Int)-i) step where
 mono k kw I:=⟨I.1,kw _ _ hw I.2⟩
 self I q:=wpAny_pyIter_rangeiter I.2 q
 step:=@λA B Z s i r target hh G hW ht tW I e=>by
  have el:(cC a step n)[i]?=r:=di e;rw[zW]at el;by_cases hp:i<n
  ·rw[if_pos hp]at el;refine wpAny_pyNext_range_item I.2 (Int.sub_pos.mpr (dN.mpr hp)) λh' t' hs=>MA t' ?_;refine⟨_,el.symm,.same hw hs,yw tW hs ⟨_,t'⟩,⟨_,rfl⟩,hp,?_⟩;rw[hZ,CM,show((1:Nat):Int)*step=step from rP _,<-mz,<-Int.sub_sub];exact t'
  ·rw[if_neg hp]at el;exact wpAny_pyNext_range_end hh I.2 (J6 (gB.mpr (bc.mp hp))) λh' hs=>⟨el.symm,.but (tk:=s.toks) hw hs⟩
theorem Gm{a b:V}{x y:ag}{p:aq}(f:fz p)(t:IsTup h p #[x,y])(ra:VR fz h a x)(rb:VR fz h b y):VR fz h (.tup [a,b]) (.ref p):=
 ⟨p,[x,y],rfl,f,t,(by decide:2<=aJ),x,[y],rfl,ra,y,[],rfl,rb,rfl⟩
theorem N1{en it la:aq}{src:IS}(hw:W en)(hw2:W it)(ne:en≠it):iP W true en (.enum src) λfz h i=>m6 la src fz h/\(∃old,IsEnum h en it i old)/\h.IsListIter it la i where
 mono k kw I:=⟨I.1.mono k,I.2.1.imp λo q=>kw _ _ hw q,I.2.2.at λo e=>kw _ o hw2 e⟩
 self I q:=I.2.1.elim λo t=>KW t q
 step:=@λA B Z s i r target hh G hW ht tW I e=>by
  obtain⟨elts,x1,pos,rfl⟩:=ht rfl;obtain⟨S,⟨old,t⟩,u⟩:=I;obtain⟨r0,e0,e⟩:=cN e;obtain⟨l,vs,el,p,rs⟩:=S.at G e0;cases r0 with
  |none=>subst e;exact wpAny_pyNext_enum_end hh t u p.isList (si rs el) λh' hs=>⟨rfl,.but (tk:=s.toks) hw2 hs⟩
  |some v=>
   subst e;obtain⟨y,hy,ry⟩:=sj rs el;refine wpAny_pyNext_enum_item t u p.isList hy ne λh' t' u' hn hz hk=>wpAny_letOwnedTupleGo_enum t' λh2 t2 hs=>?_;have hk2:∀b o,¬W b->s.heap.get? b=some o->h2.get? b=some o:=λb o n e=>(hs.2 b λq=>n (q▸hw)).trans (hk b o (λq=>n (q▸hw)) (λq=>n (q▸hw2)) e);have hn2:=(hs.2 _ (nY (gR (kj t)))).trans hn;have k:=nX (Z:=Z) hW hk2;have hu2:=u'.at λo e=>(hs.2 _ (nY ne)).trans e;refine⟨_,rfl,⟨hk2,rfl,rfl⟩,λb hb=>?_,Gm G.new_fz ⟨_,hn2,rfl,_,rfl⟩ ⟨_,rfl⟩ (ry.mono k),S.mono k,⟨_,by rw[hZ];exact t2⟩,hu2⟩;by_cases q1:b=en
   ·exact⟨_,q1▸t2⟩
   ·by_cases q2:b=it
    ·exact q2▸hu2.elim λo q=>⟨o,q.1⟩
    ·exact(tW b hb).imp λo ho=>(hs.2 b q1).trans (hk b o q1 q2 ho)
theorem Q4:∀{l l':List V}{i:Nat},(oS l l')[i]?=l[i]?.bind λa=>l'[i]?.map λb=>.tup [a,b]:=by
 intro l;induction l with
 |nil=>intro l' i;rfl
 |cons a l ih=>
  intro l' i;cases l' with
  |nil=>cases (a::l)[i]?<;>rfl
  |cons b l'=>cases i with
   |zero=>rfl
   |succ i=>exact ih
theorem PJ{z TI TO i1 i2 l1 l2:aq}{l l':List V}{xs ys:List ag}(D:ZipApart z TI TO i1 i2 l1 l2)(w1:W z)(w2:W TI)(w3:W TO)(w4:W i1)(w5:W i2):iP W true z (.vals (oS l l')) λfz h i=>
  (fz l1/\fz l2/\h.PlainList l1 xs.toArray/\h.PlainList l2 ys.toArray/\aN fz h l xs/\aN fz h l' ys)/\IsZip h z TI TO .none/\IsPair h TI (.ref i1) (.ref i2)/\(∃a b,IsPair h TO a b)/\h.IsListIter i1 l1 i/\h.IsListIter i2 l2 i where
 mono k kw I:=⟨⟨(iL k I.1.1 I.1.2.2.1).1,(iL k I.1.2.1 I.1.2.2.2.1).1,(iL k I.1.1 I.1.2.2.1).2,(iL k I.1.2.1 I.1.2.2.2.1).2,I.1.2.2.2.2.1.mono k,I.1.2.2.2.2.2.mono k⟩,
  kw _ _ w1 I.2.1,kw _ _ w2 I.2.2.1,I.2.2.2.1.imp λa q=>q.imp λb q=>kw _ _ w3 q,I.2.2.2.2.1.at λo e=>kw _ o w4 e,I.2.2.2.2.2.at λo e=>kw _ o w5 e⟩
 self I q:=K6 I.2.1 q
 step:=@λA B Z s i r target hh G hW ht tW I e=>by
  obtain⟨elts,x1,pos,rfl⟩:=ht rfl;obtain⟨Jaa,z0,p1,⟨a,b,p2⟩,t1,t2⟩:=I;obtain⟨f1,f2,q1,q2,r1,r2⟩:=id Jaa;have el:(oS l l')[i]?=r:=di e;rw[Q4]at el;have endc:∀I:(aq->Prop)->Heap->Nat->Prop,(l[i]?=none\/l'[i]?=none)->r=none->wpAny Md A (pyNext (.ref z)) (Iu A B W Z s (.Tuple elts x1 pos) z I i r) aw s:=λI hc hr=>
   wpAny_pyNext_zip_end hh D z0 p1 p2 t1 t2 q1.isList q2.isList (hc.imp (si r1) (si r2)) λh' hk=>⟨hr,⟨λc o n e=>hk c o (λq=>n (q▸w1)) (λq=>n (q▸w3)) (λq=>n (q▸w4)) (λq=>n (q▸w5)) e,rfl,rfl⟩⟩
  cases ha:l[i]? with
  |none=>rw[ha]at el;exact endc _ (.inl ha) el.symm
  |some va=>
   cases hb:l'[i]? with
   |none=>rw[ha,hb]at el;exact endc _ (.inr hb) el.symm
   |some vb=>
    rw[ha,hb]at el;obtain⟨y1,hy1,ry1⟩:=sj r1 ha;obtain⟨y2,hy2,ry2⟩:=sj r2 hb;refine wpAny_pyNext_zip_item D z0 p1 p2 t1 t2 q1.isList q2.isList hy1 hy2 λh' z' p2' t1' t2' hn hz hk=>wpAny_letOwnedTupleGo_zip z' λh2 z2 hs=>?_;have hk2:∀c o,¬W c->s.heap.get? c=some o->h2.get? c=some o:=λc o n e=>(hs.2 c λq=>n (q▸w1)).trans (hk c o (λq=>n (q▸w1)) (λq=>n (q▸w3)) (λq=>n (q▸w4)) (λq=>n (q▸w5)) e);have hn2:=(hs.2 _ (nY (gR (kj z0)))).trans hn;have k:=nX (Z:=Z) hW hk2;have hTO:IsPair h2 TO y1 y2:=(hs.2 TO D.TOz).trans p2';have ht1:=t1'.at λo e=>(hs.2 _ D.i1z).trans e;have ht2:=t2'.at λo e=>(hs.2 _ D.i2z).trans e;refine⟨_,el.symm,⟨hk2,rfl,rfl⟩,λc hc=>?_,Gm G.new_fz ⟨_,hn2,rfl,_,rfl⟩ (ry1.mono k) (ry2.mono k),
     ⟨f1,f2,(iL k f1 q1).2,(iL k f2 q2).2,r1.mono k,r2.mono k⟩,z2,(hs.2 TI D.TIz).trans (hk TI _ D.TIz D.TITO D.TIi1 D.TIi2 p1),⟨_,_,hTO⟩,ht1,ht2⟩
    by_cases c1:c=z
    ·exact⟨_,c1▸z2⟩
    ·by_cases c2:c=TO
     ·exact⟨_,c2▸hTO⟩
     ·by_cases c3:c=i1
      ·exact c3▸ht1.elim λo q=>⟨o,q.1⟩
      ·by_cases c4:c=i2
       ·exact c4▸ht2.elim λo q=>⟨o,q.1⟩
       ·exact(tW c hc).imp λo ho=>(hs.2 c c1).trans (hk c o c1 c2 c3 c4 ho)
end
end
section
open PySem PySem.W PyProof.Rows PySem.SeqAt PySem.Calls
section
variable{C:ax}{d:Nat}{B W L:aq->Prop}{Z Z' Z1 Z2:ae}{h h':Heap}{s s' s'' s₁ s₂:aB}{A:bD}{env:Env}{gl vn:List Str}{J:aj}{tt:Bool}
def e7(W B:aq->Prop)(Z:ae)(s:aB):Prop:=∀a,W a->¬B a/\∀o,s.heap.get? a=some o->Z a=none->False
theorem e7.size(G:aE B Z s.heap)(hw:∀a,W a->s.heap.objs.size<=a):e7 W B Z s:=λa ha=>⟨G.free_big (hw a ha),λo ho _=>absurd rfl (jT (hw a ha) ho)⟩
theorem e7.lift(x:bK gK Z s Z' s')(f:e7 W B Z' s'):e7 W B Z s:=λa ha=>⟨(f a ha).1,λo ho z=>have q:=x.keep a o ho z λq=>q;(f a ha).2 o q.1 q.2⟩
theorem e7.sub{W2:aq->Prop}(f:e7 W B Z s)(i:∀a,W2 a->W a):e7 W2 B Z s:=λa ha=>f a (i a ha)
theorem e7.or{W2:aq->Prop}(f:e7 W B Z s)(g:e7 W2 B Z s):e7 (λa=>W a\/W2 a) B Z s:=λa ha=>ha.elim (f a) (g a)
theorem bK.fresh(x:bK gK Z s Z1 s₁)(f:e7 L B Z s)(y:bK L Z1 s₁ Z2 s₂):bK gK Z s Z2 s₂:=
 ⟨λa o e z n=>have q:=x.keep a o e z n;y.keep a o q.1 q.2 λz'=>(f a z').2 o e z,λ_ q=>q.elim,y.gens.trans x.gens,y.os.trans x.os⟩
theorem bK.step(x:bK gK Z s Z' s')(f:e7 W B Z s)(st:jC W s' s''):bK gK Z s Z' s'':=
 ⟨λa o e z n=>have q:=x.keep a o e z n;⟨st.keep a o (λq=>(f a q).2 o e z) q.1,q.2⟩,λ_ q=>q.elim,st.gens.trans x.gens,st.os.trans x.os⟩
def PI(B:aq->Prop)(Z:ae)(s:aB)(tt:Bool)(Q:IS->ae->Prop):ag->aB->Prop:=
 λitv s₂=>∃(it:aq)(W:aq->Prop)(is:IS)(I:(aq->Prop)->Heap->Nat->Prop)(Z':ae),itv=.ref it/\aE (BW B W) Z' s₂.heap/\e7 W B Z s/\bK gK Z s Z' s₂/\iP W tt it is I/\I (Fz Z' (BW B W)) s₂.heap 0/\Q is Z'
theorem PI.lift{Q:IS->ae->Prop}{y:ag}(x:bK gK Z s Z' s')(p:PI B Z' s' tt Q y s''):PI B Z s tt Q y s'':=by
 refine Je p λit W is I Z2 e g hw x2 k=>?_;exact⟨it,W,is,I,Z2,e,g,hw.lift x,x.trans x2,k⟩
theorem zL{t:Sem ag}{Q:IS->ae->Prop}(x:bK gK Z s Z' s')(h:wpAny Md A t (PI B Z' s' tt Q) aw s''):wpAny Md A t (PI B Z s tt Q) aw s'':=bT h λ_ _ p=>p.lift x
theorem PI.new{Q:IS->ae->Prop}{it:aq}{is:IS}{I:(aq->Prop)->Heap->Nat->Prop}{tk:Nat}(W:aq->Prop)(G:aE B Z s.heap)(k:bI s.heap h')(hw:∀a,W a->s.heap.objs.size<=a)(ho:∀a,W a->∃o,h'.get? a=some o)(it_ok:iP W tt it is I)
  (st:Kp (Fz Z B) s.heap (Fz Z (BW B W)) h'->I (Fz Z (BW B W)) h' 0) (q:Q is Z):PI B Z s tt Q (.ref it) { s with heap:=h',toks:=tk }:=
 ⟨it,W,is,I,Z,rfl,G.block k hw ho,.size G hw,.of_keeps iU k rfl rfl,it_ok,st (sf k hw),q⟩
theorem PI.push{Q:IS->ae->Prop}{o:Obj}{is:IS}{I:(aq->Prop)->Heap->Nat->Prop}(G:aE B Z s.heap)(it_ok:iP (λa=>a=s.heap.objs.size) tt s.heap.objs.size is I)(st:(s.heap.push o).get? s.heap.objs.size=some o->Kp (Fz Z B) s.heap (Fz Z (BW B λa=>a=s.heap.objs.size)) (s.heap.push o)->I (Fz Z (BW B λa=>a=s.heap.objs.size)) (s.heap.push o) 0)(hx:o.dict=none\/True)(q:Q is Z)(hn:(s.heap.push o).get? s.heap.objs.size=some o) :
  PI B Z s tt Q (.ref s.heap.objs.size) { s with heap:=s.heap.push o }:=
 PI.new (tk:=s.toks) (λa=>a=s.heap.objs.size) G (bI.push _ _) (λa e=>dA e.symm) (λa e=>⟨o,e▸hn⟩) it_ok (st hn) q
theorem HJ(G:aE B Z s.heap){v:V}{y:ag}{is:IS}(r:VR (Fz Z B) s.heap v y)(e:Az Z v=some is):∃la vs,y=.ref la/\s.heap.IsList la vs/\m6 la is (Fz Z B) s.heap:=by
 cases v<;>try (exact nn e;done)
 ·injection e with e;subst e
  refine o8 r λa vs rfl f p hz rs=>?_;exact⟨a,_,rfl,p.isList,f,vs,p,rs⟩
 ·obtain⟨l,hl,rfl⟩:=cN e;obtain⟨_,_,vs,p,_⟩:=G.cells _ _ (rY hl);exact⟨_,_,r,p.isList,rfl⟩
theorem F5{is:IS}{v:V}{y:ag}{Q:IS->ae->Prop}(G:aE B Z s.heap)(r:VR (Fz Z B) s.heap v y)(e:Az Z v=some is)(q:Q is Z):wpAny Md A (pyIter y) (PI B Z s tt Q) aw s:=by
 obtain⟨la,vs,rfl,hl,S⟩:=HJ G r e;exact xY hl (PI.push G (PF rfl) (λhn k=>⟨S.mono k,_,hn,rfl,rfl⟩) (.inr trivial) q (kc _ rfl))
theorem Uj{l:List V}{y:ag}{Q:IS->ae->Prop}(G:aE B Z s.heap)(r:VR (Fz Z B) s.heap (.tup l) y)(q:Q (.vals l) Z):wpAny Md A (pyIter y) (PI B Z s tt Q) aw s:=by
 obtain⟨c,vs,rfl,f,p,hz,rs⟩:=r;exact wpAny_pyIter_tuple p (PI.push G (PH (la:=c) (vs:=vs) rfl) (λhn k=>⟨(mR k f p).1,(mR k f p).2,rs.mono k,_,hn,rfl,rfl⟩) (.inr trivial) q (kc _ rfl))
theorem n9{i:Int}(h1:-10000000<=i)(h2:i<=10000000):XZ i=true:=
 f9.mpr ⟨decide_eq_true (ko (by decide) h1),decide_eq_true (Kt h2 (by decide))⟩
theorem vJ{a:Int}(h:eE a=true):-1048576<=a/\a<=1048576:=⟨@of_decide_eq_true _ (rf _) (av h).1,@of_decide_eq_true _ (rf _) (av h).2⟩
theorem qw{a:Int}(h1:-1048576<=a)(h2:a<=1048576):eE a=true:=f9.mpr ⟨@decide_eq_true _ (rf _) h1,@decide_eq_true _ (rf _) h2⟩
theorem AK{p:Prop}[Decidable p]{x c:Int}(h:p->0<=x)(hc:0<=c):0<=(if p then x/c+1 else 0):=by
 by_cases q:p
 ·rw[if_pos q];exact Lo (Int.ediv_nonneg (h q) hc) (by decide)
 ·rw[if_neg q];exact mC 0
theorem AJ{p:Prop}[Decidable p]{x c:Int}(h:p->0<=x)(l:x<=9999999):(if p then x/c+1 else 0)<=10000000:=by
 by_cases q:p
 ·rw[if_pos q];exact Int.add_le_add_right (ko (Int.ediv_le_self c (h q)) l) 1
 ·rw[if_neg q];decide
theorem GB{a b c:Int}(hc:c=1\/c=2\/c = -1):0<=uf a b c:=by
 unfold uf;rcases hc with rfl|rfl|rfl
 ·rw[if_pos (by decide)];exact AK i1 (by decide)
 ·rw[if_pos (by decide)];exact AK i1 (by decide)
 ·rw[if_neg (by decide)];exact AK i1 (by decide)
theorem Ta{a b c:Int}(ha:eE a=true)(hb:eE b=true)(hc:c=1\/c=2\/c = -1):uf a b c<=10000000:=by
 have ha:=vJ ha;have hb:=vJ hb;unfold uf;have l:=@au [] [a,b] (.li (.s (.s .v1 .v0) .k1) (.k 9999999)) 1 [(1,.li .v1 (.k 1048576)),(1,.li (.o (.k 1048576)) .v0)] rfl hb.2 ha.1;rcases hc with rfl|rfl|rfl
 ·rw[if_pos (by decide)];exact AJ i1 l
 ·rw[if_pos (by decide)];exact AJ i1 l
 ·rw[if_neg (by decide)];exact AJ i1 (au [] [_,_] (.li (.s (.s .v1 .v0) .k1) (.k 9999999)) 1 [(1,.li .v1 (.k 1048576)),(1,.li (.o (.k 1048576)) .v0)] rfl ha.2 hb.1)
theorem QI{a b c:Int}(ha:eE a=true)(hb:eE b=true)(hc:c=1\/c=2\/c = -1):Ki a b c=true:=by
 have hs:=Ta ha hb hc;have ha:=vJ ha;have hb:=vJ hb;unfold Ki;rw[n9 (by exact au [] [_] (.li (.o (.k 10000000)) .v0) 1 [(1,.li (.o (.k 1048576)) .v0)] rfl ha.1) (by exact au [] [_] (.li .v0 (.k 10000000)) 1 [(1,.li .v0 (.k 1048576))] rfl ha.2),n9 (i:=b) (by exact au [] [_] (.li (.o (.k 10000000)) .v0) 1 [(1,.li (.o (.k 1048576)) .v0)] rfl hb.1) (by exact au [] [_] (.li .v0 (.k 10000000)) 1 [(1,.li .v0 (.k 1048576))] rfl hb.2),n9 (i:=c) (by rcases hc with rfl|rfl|rfl<;>decide) (by rcases hc with rfl|rfl|rfl<;>decide),n9 (ko (by decide) (GB hc)) hs];rcases hc with rfl|rfl|rfl
 ·rw[if_pos (by decide),n9 (by exact au [] [_] (.li (.o (.k 10000000)) (.a .v0 (.s .k1 .k1))) 1 [(1,.li (.o (.k 1048576)) .v0)] rfl hb.1) (by exact au [] [_] (.li (.a .v0 (.s .k1 .k1)) (.k 10000000)) 1 [(1,.li .v0 (.k 1048576))] rfl hb.2),CB];rfl
 ·rw[if_pos (by decide),n9 (by exact au [] [_] (.li (.o (.k 10000000)) (.a .v0 (.s (.k 2) .k1))) 1 [(1,.li (.o (.k 1048576)) .v0)] rfl hb.1) (by exact au [] [_] (.li (.a .v0 (.s (.k 2) .k1)) (.k 10000000)) 1 [(1,.li .v0 (.k 1048576))] rfl hb.2),CB];rfl
 ·rw[if_neg (by decide),n9 (by exact au [] [_] (.li (.o (.k 10000000)) (.a .v0 (.a (.o .k1) .k1))) 1 [(1,.li (.o (.k 1048576)) .v0)] rfl hb.1) (by exact au [] [_] (.li (.a .v0 (.a (.o .k1) .k1)) (.k 10000000)) 1 [(1,.li .v0 (.k 1048576))] rfl hb.2),CB];rfl
theorem PA{r:aq}{a b c:Int}{t u v:Tok}{Q:IS->ae->Prop}(G:aE B Z s.heap)(hr:IsRange s.heap r a b c t u v)(ha:eE a=true)(hb:eE b=true)(hc:c=1\/c=2\/c = -1)(q:Q (.vals (mW a b c)) Z):wpAny Md A (pyIter (.ref r)) (PI B Z s tt Q) aw s:=by
 have z:=GB (a:=a) (b:=b) hc;refine wpAny_pyIter_range hr (QI ha hb hc) (PI.push G (PG (a:=a) (step:=c) (n:=(uf a b c).toNat) rfl) (λhn k=>⟨bJ _,?_⟩) (.inr trivial) q (kc _ rfl));rw[nF z,show((0:Nat):Int)=0 from rfl,uB,pL,Int.sub_zero];exact hn
variable(C d)
def SI(it:It):Prop:=∀{A:bD}{env:Env}{gl vn:List Str}{B:aq->Prop}{J:aj}{Z:ae}{s:aB}(x:Expr){t:T}{Q:IS->ae->Prop},Ct d A env gl vn B J Z s->Bi gl vn it x=true->A4 it t=true->WI C it J Z Q ->
 wpAny Md A (eval (oZ vn it x) env) (λxv s₁=>wpAny Md A (pyIter xv) (PI B Z s (vX t) Q) aw s₁) aw s
variable{C d}
theorem HG{e:E}(ih:SE C d e):SI C d (.seq e):=by
 intro A env gl vn B J Z s x t Q c hc ht h;refine seq (ih x c hc h) λv Z' y s' f r q=>zL f.x ?_;refine ar (bj q) λis hi q2=>?_;cases v<;>try (exact nn hi;done)
 ·(injection hi with hi;subst hi);exact Uj f.g r q2
 ·exact F5 (v:=.list _) f.g r hi q2
 ·exact F5 (v:=.ref _) f.g r hi q2
theorem yM(id:String):s8 (λ_=>True) (.type id):=λ_ _=>⟨.machine,.inr (.inl rfl),.of_pure rfl⟩
set_option tactic.hygienic true in
theorem Nd{vs:List V}{ys:List ag}{ns:List Int}{l:List V}(r:aN (Fz Z B) s.heap vs ys)(en:eO vs=some ns)(el:jU ns=some l)(G:aE B Z s.heap){Q:IS->ae->Prop}(q:Q (.vals l) Z) :
  wpAny Md A (call (.type "range") ys) (λxv s₁=>wpAny Md A (pyIter xv) (PI B Z s tt Q) aw s₁) aw s:=by
 refine aT (qa r en) λhi hl=>?_;have go:∀{o:Obj}{tk:Nat}{a b c:Int}{t u v:Tok},IsRange (s.heap.push o) s.heap.objs.size a b c t u v->eE a=true->eE b=true->(c=1\/c=2\/c = -1)->mW a b c=l->wpAny Md A (pyIter (.ref s.heap.objs.size)) (PI B Z s tt Q) aw { s with heap:=s.heap.push o,toks:=tk }:=@λo tk a b c t u v hr ha hb hc e=>by
  have f:Af B Z s Z { s with heap:=s.heap.push o,toks:=tk }:=.heap G (bI.push s.heap _) _;exact zL f.x (PA f.g hr ha hb hc (e▸q))
 cases ns with
 |nil=>exact nn el
 |cons a ns=>
  cases hi
  rename_i t1 _ hi
  cases ns with
  |nil=>
   cases hi
   refine aT (iz el) λho e=>?_;exact call_range_1 (go (CO ..) (qw (by decide) (by decide)) ho (.inl rfl) e)
  |cons b ns=>
   cases hi
   rename_i t2 _ hi
   cases ns with
   |nil=>
    cases hi
    refine aT (iz el) λho e=>?_;exact call_range_2 (go (CO ..) ho.1 ho.2 (.inl rfl) e)
   |cons c ns=>
    cases hi
    rename_i t3 _ hi
    cases ns with
    |cons=>exact nn el
    |nil=>
     cases hi
     refine aT (iz el) λho e=>?_;exact call_range_3 (by rcases ho.2 with rfl|rfl<;>decide) (go (CO ..) ho.1.1 ho.1.2 (.inr ho.2) e) (.inl (by rcases ho.2 with rfl|rfl<;>exact JK (by decide)))
theorem E8(H:bF cx){es:List E}(ih:je C d es):SI C d (.range es):=by
 intro A env gl vn B J Z s x t Q c hc ht h;have h12:=av (av hc).1;refine qc (lj H c h12.1 (by decide) (show bootBuiltins "range"=some (.type "range") by kernel_rfl) (k7 (yM _) ?_));refine kJ (ih x 1 c (av hc).2 h) λvs Z' ys s' f r q=>⟨trivial,?_⟩
 refine aT q λ_ q=>?_;refine ar (bj q) λns en q=>?_;refine ar (bj q) λl el q=>?_;exact bT (Nd r en el f.g q) λxv s₁ k=>zL f.x k
theorem GA(H:bF cx){e:E}(ih:SE C d e):SI C d (.enum e):=by
 intro A env gl vn B J Z s x t Q c hc ht h;cases t with
 |v i=>exact bn ht
 |tup ts=>
 refine qc (es:=[e]) (lj H c (av hc).1 (by decide) (show bootBuiltins "enumerate"=some (.type "enumerate") by kernel_rfl) (k7 (yM _) ?_));show wpAny _ _ (spliced [(false,eval _ env)]) _ _ s;refine spliced_cons (seq (ih (ay x 1) c (av hc).2 h) λv Z' y s' f r q=>spliced_nil ⟨trivial,?_⟩);show wpAny _ _ (call (.type "enumerate") [y]) _ _ _;refine ar (bj q) λis hi q=>?_;obtain⟨la,vs,rfl,hl,S⟩:=HJ f.g r hi;refine call_enumerate_list hl λh' t1 t2 hsz k=>KW t1 (PI.lift f.x ?_);refine PI.new (tk:=s'.toks) (λa=>a=s'.heap.objs.size\/a=s'.heap.objs.size+1) f.g k (λa e=>e.elim (λe=>dA e.symm) λe=>e▸eN _) (λa e=>e.elim (λe=>e▸t2.elim λo q=>⟨o,q.1⟩) λe=>e▸⟨_,t1⟩)
  (N1 (.inr rfl) (.inl rfl) (kh _)) (λk=>⟨S.mono k,⟨_,t1⟩,t2⟩) q
theorem Ai{n i j:Nat}(h:i≠j):n+i≠n+j:=λe=>h (um e)
theorem wy{n l k:Nat}(h:l<n):l≠n+k:=gR (aQ h (aL n k))
theorem HH(H:bF cx){e e2:E}(ih:SE C d e)(ih2:SE C d e2):SI C d (.zip e e2):=by
 intro A env gl vn B J Z s x t Q c hc ht h;cases t with
 |v i=>exact bn ht
 |tup ts=>
 have h12:=av (av hc).1;refine qc (es:=[e,e2]) (lj H c h12.1 (by decide) (show bootBuiltins "zip"=some (.type "zip") by kernel_rfl) (k7 (yM _) ?_));show wpAny _ _ (spliced [(false,eval _ env),(false,eval _ env)]) _ _ s;refine spliced_cons (seq (ih (ay x 1) c h12.2 h) λv Z' y s' f r q=>?_);refine spliced_cons (seq (ih2 (ay x 2) (c.af f) (av hc).2 q) λv2 Z2 y2 s₂ f2 r2 q2=>spliced_nil ⟨trivial,?_⟩);show wpAny _ _ (call (.type "zip") [y,y2]) _ _ _;refine ar (bj q2) λl e1 q2=>?_;refine ar (bj q2) λl' e3 q2=>?_;have r:=f2.vr r;rw[lp e1]at r;rw[lp e3]at r2;obtain⟨c1,xs,rfl,hf,hp,hz,rs⟩:=r;obtain⟨c2,ys,rfl,hf2,hp2,hz2,rs2⟩:=r2;refine call_zip_2 hp.isList hp2.isList λh' z p1 p2 t1 t2 hsz k=>K6 z (PI.lift (f.trans f2).x ?_);have l1:c1<s₂.heap.objs.size:=hp.elim λn ho=>kj ho;have l2:c2<s₂.heap.objs.size:=hp2.elim λn ho=>kj ho;have D:ZipApart (s₂.heap.objs.size+4) (s₂.heap.objs.size+2) (s₂.heap.objs.size+3) s₂.heap.objs.size (s₂.heap.objs.size+1) c1 c2:=by
  constructor<;>first|exact Ai (by decide)|exact Ai (i:=0) (by decide)|exact Ai (j:=0) (by decide)|exact wy l1|exact wy l2|exact wy (k:=0) l1|exact wy (k:=0) l2
 refine PI.new (tk:=s₂.toks) (λa=>a=s₂.heap.objs.size\/a=s₂.heap.objs.size+1\/a=s₂.heap.objs.size+2\/a=s₂.heap.objs.size+3\/a=s₂.heap.objs.size+4) f2.g k (λa e=>by rcases e with rfl|rfl|rfl|rfl|rfl<;>first|exact aC _|exact aL _ _) (λa e=>?_)
  (PJ (xs:=xs) (ys:=ys) D (.inr (.inr (.inr (.inr rfl)))) (.inr (.inr (.inl rfl))) (.inr (.inr (.inr (.inl rfl)))) (.inl rfl) (.inr (.inl rfl))) (λk=>⟨⟨(iL k hf hp).1,(iL k hf2 hp2).1,(iL k hf hp).2,(iL k hf2 hp2).2,rs.mono k,rs2.mono k⟩,z,p1,⟨_,_,p2⟩,t1,t2⟩) q2
 rcases e with rfl|rfl|rfl|rfl|rfl
 ·exact t1.elim λo q=>⟨o,q.1⟩
 ·exact t2.elim λo q=>⟨o,q.1⟩
 ·exact⟨_,p1⟩
 ·exact⟨_,p2⟩
 ·exact⟨_,z⟩
end
end
section
open PySem PySem.W PyProof.Rows PySem.SeqAt PySem.Calls
theorem HO{y:Str}{r:List Str}{j:Nat}{p:Prop}(n:gX (y::r)=true)(h:j+1<(y::r).length)(e:bq r j=y):p:=by
 have m:=mJ (ff h);rw[e]at m;rw[gX,m]at n;exact bn n
theorem Tt:∀{vn:List Str}{i j:Nat},gX vn=true->i<vn.length->j<vn.length->bq vn i=bq vn j->i=j:=λ{vn}=>@(li (λ{_ _}_ h=>absurd h (dM _))
 (λy r ih{i j}n=>nz (nz (λ_ _ _=>rfl) (λj _ h e=>HO n h e.symm) j) (λi=>nz (λh _ e=>HO n h e) (λj h h2 e=>congrArg (·+1) (ih (av n).2 (ff h) (ff h2) e)) j) i) vn)
theorem Gq:∀{J:aj}{i:Nat}{v:V},i<J.length->rd (wr J i v) i=some v
 |[],_,_,h=>absurd h (dM _)
 |_::_,0,_,_=>rfl
 |_::r,i+1,_,h=>Gq (J:=r) (ff h)
theorem wz:∀{J:aj}{i j:Nat}{v:V},j≠i->rd (wr J i v) j=rd J j
 |[],_,_,_,_=>rfl
 |_::_,0,0,_,h=>absurd rfl h
 |_::_,0,_+1,_,_=>rfl
 |_::_,_+1,0,_,_=>rfl
 |_::r,i+1,j+1,_,h=>wz (J:=r) λe=>h (congrArg (·+1) e)
theorem sb:∀{J:aj}{i:Nat}{v:V},(wr J i v).length=J.length
 |[],_,_=>rfl
 |_::_,0,_=>rfl
 |_::r,i+1,v=>congrArg (·+1) (sb (J:=r))
section
variable{d:Nat}{B W L:aq->Prop}{Z Z':ae}{h h':Heap}{s s' s'':aB}{A:bD}{env:Env}{gl vn:List Str}{J:aj}
def ef(env:Env)(a:aq):Prop:=a=env.locals\/∃x,env.cells.lookup x=some a
theorem eH.ownB(K:eH env gl vn B):∀a,ef env a->B a:=λa ha=>ha.elim (λe=>e▸K.locB) λq=>q.elim λx hx=>(K.cellB x a hx).1
structure PS(B:aq->Prop)(env:Env)(vn:List Str)(Z:ae)(s:aB)(L:aq->Prop)(J:aj)(s':aB):Prop where
 g:aE B Z s'.heap
 x:bK L Z s Z s'
 l:cQ (Fz Z B) env vn J s'.heap
def qr(env:Env)(L:aq->Prop)(x:Str):Prop:=(env.kindOf x=some .local/\L env.locals)\/(env.kindOf x=some .cell/\∀a,ef env a->L a)
theorem za{a:aq}{tk:Nat}(G:aE B Z s.heap)(hL:∀a,L a->B a)(ha:L a)(hs:fK a s.heap h')(hi:∃o,h'.get? a=some o) :
  aE B Z h'/\bK L Z s Z { s with heap:=h',toks:=tk }/\Kp (Fz Z B) s.heap (Fz Z B) h':=
 have w:∀b,b=a->B b:=λb e=>e▸hL a ha;have k:∀b o,¬b=a->s.heap.get? b=some o->h'.get? b=some o:=λb o n e=>(hs.2 b n).trans e
 ⟨G.touch w k λb e=>e▸hi,⟨λb o e z n=>⟨k b o (λq=>n (q▸ha)) e,z⟩,λb hb q=>⟨(kZ (b=a)).elim (λe=>e▸hi) λn=>q.imp λo e=>k b o n e,G.none_of_blocked (hL b hb)⟩,rfl,rfl⟩,nX w k⟩
theorem vC{fz:aq->Prop}{i j:Nat}{v:V}{z:Option ag}(n:j≠i)(q:jy fz h (rd J j) z):jy fz h (rd (wr J i v) j) z:=by rw[wz n];exact q
theorem EJ{fz:aq->Prop}{i:Nat}{v:V}{y:ag}(hi:i<J.length)(r:VR fz h v y):jy fz h (rd (wr J i v) i) (some y):=by rw[Gq hi];exact λu e=>⟨y,rfl,di e▸r⟩
theorem sy{i:Nat}{v:V}{y:ag}{Q:Unit->aB->Prop}(K:eH env gl vn B)(G:aE B Z s.heap)(R:cQ (Fz Z B) env vn J s.heap)(hL:∀a,L a->B a)(hi:i<vn.length)(hk:qr env L (bq vn i))
  (r:VR (Fz Z B) s.heap v y) (h:∀s',PS B env vn Z s L (wr J i v) s'->Q () s'):wpAny Md A (storeName env (bq vn i) y) Q aw s:=by
 refine ar R.loc λm hn hv=>?_;have hl:=R.len;have hr:i<J.length:=hl▸hi;have ne:∀j,j<vn.length->j≠i->bq vn j≠bq vn i:=λj hj n e=>n (Tt K.nodup hj hi e);rcases hk with⟨hk,hl0⟩|⟨hk,hl0⟩
 ·refine wpAny_storeName_local hk hn (λh' hn' hs=>h _ ?_) (by rw[K.kind];rfl);refine g9 (za (tk:=s.toks+1) G hL hl0 hs (hn'.elim λo q=>q.elim λ_ q=>q.elim λ_ q=>⟨o,q.1⟩)) λg x k=>?_;refine⟨g,x,sb.trans hl,_,hn',λj hj=>?_⟩;by_cases q:j=i
  ·subst q;exact .inl ⟨hk,by show jy (Fz Z B) h' _ (if _ then _ else _);rw[if_pos rfl];exact EJ hr (r.mono k)⟩
  ·rcases hv j hj with z|⟨z,c,u,hc,⟨o,ho,hd⟩,p⟩
   ·exact .inl ⟨z.1,by show jy (Fz Z B) h' _ (if _ then _ else _);rw[if_neg (ne j hj q)];exact vC q (z.2.mono k)⟩
   ·exact .inr ⟨z,c,u,hc,⟨o,(hs.2 c (K.cellB _ _ hc).2).trans ho,hd⟩,vC q (p.mono k)⟩
 ·rcases hv i hi with z|⟨_,c,u,hc,hcell,_⟩
  ·rw[hk]at z;cases z.1
  ·refine wpAny_storeName_cell K.kind hk hc hcell λh' hc' hs=>h _ ?_;refine g9 (za (tk:=s.toks) G hL (hl0 c (.inr ⟨_,hc⟩)) hs (hc'.elim λo q=>⟨o,q.1⟩)) λg x k=>?_;refine⟨g,x,sb.trans hl,m,hn.sameBut hs (K.cellB _ _ hc).2.symm,λj hj=>?_⟩;by_cases q:j=i
   ·subst q;exact .inr ⟨.inl hk,c,some y,hc,hc',EJ hr (r.mono k)⟩
   ·rcases hv j hj with z|⟨z,c2,u2,hc2,hcell2,p⟩
    ·exact .inl ⟨z.1,vC q (z.2.mono k)⟩
    ·exact .inr ⟨z,c2,u2,hc2,hcell2.sameBut hs λe=>ne j hj q (K.cellI _ _ _ hc2 (e▸hc)),vC q (p.mono k)⟩
def xh(A:bD)(env:Env)(vn:List Str):List Nat->List (ag->Sem Unit)->Prop
 |[],fs=>fs=[]
 |i::is,fs=>∃f fs',fs=f::fs'/\(∀(y:ag)(P:Unit->aB->Prop)(s:aB),wpAny Md A (storeName env (bq vn i) y) P aw s->wpAny Md A (f y) P aw s)/\xh A env vn is fs'
theorem OC{x:Expr}:∀(is:List Nat)(n:Nat),xh A env vn is ((assignEach (gm vn x is n) env).map (·.2)):=λrr=>li (λ_=>rfl)
 (λ_ is ih n=>⟨_,_,rfl,λ_ _ _ h=>xX h,ih (n+1)⟩) rr
theorem QL:∀(is:List Nat),xh A env vn is ((is.map (bq vn)).map λn=>bindName env n):=λrr=>li (rfl)
 (λ_ is ih=>⟨_,_,rfl,λ_ _ _ h=>wpAny_bindName h,ih⟩) rr
theorem Eb(K:eH env gl vn B)(hL:∀a,L a->B a):∀{is:List Nat}{fs:List (ag->Sem Unit)}{vs:List V}{ys:List ag}{J:aj}{s:aB}{Q:Unit->aB->Prop},xh A env vn is fs->(∀i∈is,i<vn.length/\qr env L (bq vn i))->is.length=vs.length->aE B Z s.heap->cQ (Fz Z B) env vn J s.heap ->
   aN (Fz Z B) s.heap vs ys->(∀s',PS B env vn Z s L (f7 J is vs) s'->Q () s')->wpAny Md A (assignInOrder fs ys) Q aw s:=by
 intro is;induction is with
 |nil=>
  intro fs vs ys J s Q hf _ hl G R r h;subst hf;cases nE.mp hl.symm
  subst r;exact a9 (h s ⟨G,.refl λa ha=>G.none_of_blocked (hL a ha),R⟩)
 |cons i is ih=>
  intro fs vs ys J s Q hf hi hl G R r h;cases vs with
  |nil=>cases hl
  |cons v vs=>
   obtain⟨y,ys,rfl,rv,r⟩:=r;obtain⟨f,fs,rfl,hf1,hf⟩:=hf;refine aG (ig (hf1 _ _ _ (sy K G R hL (hi i (.head _)).1 (hi i (.head _)).2 rv λs₁ p=>?_)));exact ih hf (λj hj=>hi j (.tail _ hj)) (iI hl) p.g p.l (r.mono (p.x.kp hL)) λs' p'=>h s' ⟨p'.g,p.x.trans p'.x,p'.l⟩
theorem MW{x:Expr}:∀(is:List Nat)(n:Nat),(assignEach (gm vn x is n) env).findIdx? (·.1)=none/\(assignEach (gm vn x is n) env).length=is.length:=λrr=>li (λ_=>⟨rfl,rfl⟩)
 (λi is ih₁ n=>by
  have ih:=ih₁ (n+1);refine⟨?_,congrArg (·+1) ih.2⟩;show List.findIdx? _ ((false,assign (.Name (bq vn i) _) env)::assignEach (gm vn x is (n+1)) env)=none;rw[List.findIdx?_cons,ih.1];rfl) rr
theorem nV{n:Nat}{is:List Nat}(h:w6 n is=true):∀i∈is,i<n:=λi hi=>of_decide_eq_true (dU.mp (av h).1 i hi)
theorem Fg{x:Expr}{is:List Nat}{vs:List V}{y:ag}{k:Nat}{p:Pos}{Q:Unit->aB->Prop}(hh:A.handled=none)(K:eH env gl vn B)(hL:∀a,L a->B a)(G:aE B Z s.heap)(R:cQ (Fz Z B) env vn J s.heap)
  (hi:∀i∈is,i<vn.length/\qr env L (bq vn i)) (hl:is.length=vs.length) (r:VR (Fz Z B) s.heap (.tup vs) y) (h:∀s',PS B env vn Z s L (f7 J is vs) s'->Q () s'):wpAny Md A (assign (.Tuple (gm vn x is 0) k p) env y) Q aw s:=by
 obtain⟨a,ys,rfl,hf,ht,hz,rs⟩:=r;obtain⟨q1,q2⟩:=MW (env:=env) (vn:=vn) (x:=x) is 0;refine assign_Tuple_tuple hh ht (by rw[q2,hl,dT,rs.length]) q1 λh' he=>?_;have k:bI s.heap h':=λb o e=>he b o (gR (kj e)) e;have x0:bK L Z s Z { s with heap:=h' }:=.of_keeps (λa ha=>G.none_of_blocked (hL a ha)) k rfl rfl;exact Eb (s:={ s with heap:=h' }) K hL (OC is 0) hi hl (G.keeps k) (R.keep K (λa o _ e=>k a o e) k.kp) (rs.mono k.kp) λs' p=>h s' ⟨p.g,x0.trans p.x,p.l⟩
noncomputable def xm(t:T):List Nat:=match t with
 |.v i=>[i]
 |.tup is=>is
theorem Ee{x:Expr}{t:T}{v:V}{y:ag}{J':aj}{Q:Unit->aB->Prop}(hh:A.handled=none)(K:eH env gl vn B)(hL:∀a,L a->B a)(G:aE B Z s.heap)(R:cQ (Fz Z B) env vn J s.heap)
  (hc:tZ vn.length t=true) (hk:∀i∈xm t,qr env L (bq vn i)) (r:VR (Fz Z B) s.heap v y) (e:d8 t v J=some J') (h:∀s',PS B env vn Z s L J' s'->Q () s'):wpAny Md A (assign (nv vn t x) env y) Q aw s:=by
 cases t with
 |v i=>
  injection e with e;subst e
  exact xX (sy K G R hL (of_decide_eq_true hc) (hk i (.head _)) r h)
 |tup is=>
  refine ar (a8 e) λvs e1 e=>?_;obtain⟨hl,rfl⟩:=iz e;obtain rfl:=n5 e1;exact Fg hh K hL G R (λi hi=>⟨nV hc i hi,hk i hi⟩) hl r h
end
end
section
open PySem PySem.W PyProof.Rows PySem.SeqAt PySem.Calls
noncomputable def iC(env:Env):List (Str×k8)->List (Str×aq)->List (Str×aq)
 |[],acc=>acc
 |p::r,acc=>if p.2==.free then iC env r ((p.1,(env.cells.lookup p.1).getD 0)::acc) else iC env r acc
theorem L9(env:Env):∀(names:List (Str×k8))(acc:List (Str×aq)),(∀n,(n,ic)∈names->∃c,env.cells.lookup n=some c) ->
  (forIn names acc λx cs=>(if (x.2==ic)=true then do let c <-cellOf env x.1;pure (nL ((x.1,c)::cs)) else pure (nL cs):Sem (ForInStep (List (Str×aq)))))=(pure (iC env names acc):Sem (List (Str×aq))):=by
 intro names;induction names with
 |nil=>intro acc _;rfl
 |cons p r ih=>
  intro acc h;rw[K9,iC];by_cases hk:(p.2==ic)=true
  ·refine bA (h p.1 (eq_of_beq hk▸.head _)) λc hc=>?_;rw[if_pos hk,if_pos hk,show cellOf env p.1=pure c from by unfold cellOf;rw[hc]];simp only[pure_bind];rw[ih _ λm hm=>h m (.tail _ hm),hc];rfl
  ·rw[if_neg hk,if_neg hk];simp only[pure_bind];exact ih _ λm hm=>h m (.tail _ hm)
theorem MU{env:Env}{sc:Scope}(h:∀n,(n,ic)∈sc.names->∃c,env.cells.lookup n=some c):closureFor sc env=pure (iC env sc.names []):=by
 unfold closureFor;have:=L9 env sc.names [] h;show(forIn sc.names [] _ >>= λcs=>pure cs) = _;rw[this];rfl
theorem Rp(env:Env){x:Str}:∀(names:List (Str×k8))(acc:List (Str×aq)),((x,ic)∈names\/acc.lookup x=some ((env.cells.lookup x).getD 0))->(iC env names acc).lookup x=some ((env.cells.lookup x).getD 0):=by
 intro names;induction names with
 |nil=>intro acc h;exact h.elim (λz=>nm z) id
 |cons p r ih=>
  intro acc h;rw[iC];by_cases hk:(p.2==ic)=true
  ·rw[if_pos hk];refine ih _ ?_;by_cases hx:x=p.1
   ·right;rw[fA,hx,beq_self_eq_true]
   ·refine h.imp (λz=>(cq.mp z).elim (λe=>absurd (congrArg OS e) hx) id) λz=>?_;rw[fA,jm hx];exact z
  ·rw[if_neg hk];refine ih _ (h.imp (λz=>(cq.mp z).elim (λe=>absurd (by rw[<-e];rfl) hk) id) id)
theorem MT(env:Env){x:Str}{c:aq}:∀(names:List (Str×k8))(acc:List (Str×aq)),(iC env names acc).lookup x=some c->acc.lookup x=some c\/((x,ic)∈names/\c=(env.cells.lookup x).getD 0):=by
 intro names;induction names with
 |nil=>intro acc h;exact .inl h
 |cons p r ih=>
  intro acc h;rw[iC]at h;by_cases hk:(p.2==ic)=true
  ·rw[if_pos hk]at h;rcases ih _ h with z|z
   ·by_cases hx:x=p.1
    ·rw[fA,hx,beq_self_eq_true]at z;exact .inr ⟨by rw[hx,<-eq_of_beq hk];exact .head _,by rw[hx];exact(di z).symm⟩
    ·rw[fA,jm hx]at z;exact .inl z
   ·exact .inr ⟨.tail _ z.1,z.2⟩
  ·rw[if_neg hk]at h;exact(ih _ h).imp id λz=>⟨.tail _ z.1,z.2⟩
theorem pI{α:Type}{x:Str}{c:α}:∀{l:List (Str×α)},l.lookup x=some c->(x,c)∈l:=by
 intro l;induction l with
 |nil=>intro h;exact nn h
 |cons p l ih=>
  intro h;by_cases hx:x=p.1
  ·rw[fA,hx,beq_self_eq_true]at h;(injection h with h;subst h);rw[hx];exact .head _
  ·rw[fA,jm hx]at h;exact .tail _ (ih h)
theorem CX{env:Env}{k:k8}{x:Str}:∀{names:List (Str×k8)},names.lookup x=some k ->
  (names.map λ(n,k)=>if (k==ic&&env.scope.kind==.function&&env.kindOf n==some .cell) then(n,uz) else(n,k)).lookup x=some (if (k==ic&&env.scope.kind==.function&&env.kindOf x==some .cell)=true then .cell else k):=by
 intro names;induction names with
 |nil=>intro h;exact nn h
 |cons p r ih=>
  intro h;obtain⟨n,k'⟩:=p;rw[gy];by_cases hx:x=n
  ·rw[fA,hx,beq_self_eq_true]at h;cases h
   subst hx;show iT x ((if (k==ic&&env.scope.kind==.function&&env.kindOf x==some .cell)=true then(x,uz) else(x,k))::_) = _;by_cases hc:(k==ic&&env.scope.kind==.function&&env.kindOf x==some .cell)=true
   ·rw[if_pos hc,if_pos hc,fA,beq_self_eq_true]
   ·rw[if_neg hc,if_neg hc,fA,beq_self_eq_true]
  ·rw[fA,jm hx]at h;show iT x ((if (k'==ic&&env.scope.kind==.function&&env.kindOf n==some .cell)=true then(n,uz) else(n,k'))::_) = _;rw[<-ih h];by_cases hc:(k'==ic&&env.scope.kind==.function&&env.kindOf n==some .cell)=true
   ·rw[if_pos hc,fA,jm hx]
   ·rw[if_neg hc,fA,jm hx]
theorem yc{env:Env}{k:k8}{x:Str}{sc:Scope}(hk:(k==ic)=false)(h:sc.names.lookup x=some k):(relabel sc env).names.lookup x=some k:=by
 refine(CX (env:=env) h).trans ?_;rw[hk];rfl
theorem Mk{env:Env}{x:Str}{sc:Scope}(h:sc.names.lookup x=some .free):(relabel sc env).names.lookup x=some .cell\/(relabel sc env).names.lookup x=some .free:=by
 rw[show(relabel sc env).names.lookup x = _ from CX (env:=env) h];split
 ·exact .inl rfl
 ·exact .inr rfl
theorem CJ{vn:List Str}{it:It}{x:Expr}{env:Env}(v:ag):foldedSetIterable (oZ vn it x) env v=pure v:=by
 cases it with
 |seq e=>cases e<;>rfl
 |range es=>rfl
 |enum e=>rfl
 |zip a b=>rfl
section
variable{A:bD}{R:Result->aB->Prop}{s:aB}
theorem Ma{elt target iter:Expr}{ifs:List Expr}{scope:Scope}{pos:Pos}{it acc:ag}{env:Env}(I:Nat->aB->Prop)
  (turn:∀n s,I n s->wpAny Md A (pyNext it) (λr s₁=>match r with
   |none=>R (.ok .next) s₁
   |some v=>wpAny Md A (letOwnedTupleGo target it v) (λ_ s1'=>wpAny Md A (assign target env v) (λ_ s₂=>
     wpAny Md A (forIn ifs true λc r=>if r=true then do let ok <-isTrue c env (eval c env);pure (nL ok) else pure (nL r)) (λok s₃=>
      if ok=true then wpAny Md A (eval elt env) (λx s₄=>
       wpAny Md A (call (.builtin "list.append") [acc,x]) (λ_ s₅=>∃m,m<n/\I m s₅) aw s₄) aw s₃
      else ∃m,m<n/\I m s₃) aw s₂) aw s1') aw s₁) aw s)
  (n:Nat) (h:I n s):codeAny Md A (.compLoop (.ListComp elt [⟨target,iter,ifs,0⟩] scope pos) 0 it acc env) R s:=by
 refine codeAny_loop rfl I (λn s hI=>?_) n h;show wpAny _ A ((compTurn (.ListComp elt [⟨target,iter,ifs,0⟩] scope pos) 0 it acc env).onRaise (λx=>do noteFrame x env;theTreesLotGoes x)) _ _ s;refine wpAny_noted ?_;rw[compTurn_list];have no:∀(e:ag)(s':aB),aw e s'->notedBy Md A env (λe s'=>R (.error e) s') e s':=λ_ _ h=>h.elim;refine aG (pK (aG (jl (turn n s hI) (λr s₁ h₁=>?_) no)));cases r with
 |none=>exact a9 h₁
 |some v=>
  refine aG (jl h₁ (λ_ s1' h1'=>aG (jl h1' (λ_ s₂ h₂=>aG (jl h₂ (λok s₃ h₃=>?_) no)) no)) no);cases ok with
  |false=>exact a9 ⟨rfl,h₃⟩
  |true=>exact aG (aG (jl h₃ (λx s₄ h₄=>aG (jl h₄ (λ_ s₅ h₅=>a9 (a9 ⟨rfl,h₅⟩)) no)) no))
end
section
variable{h h':Heap}{B B':aq->Prop}{fz fz':aq->Prop}{env:Env}{gl vn own:List Str}{caps:List Nat}{J:aj}{sc:Scope}{Caa:aq}
structure tF(sc:Scope)(cs own:List Str):Prop where
 kind:sc.kind=.function
 free:∀x∈cs,sc.names.lookup x=some .free
 loc:∀x∈own,sc.names.lookup x=some .local
 nocell:∀p∈sc.names,p.2≠.cell
 frees:∀p∈sc.names,p.2=.free->cs.contains p.1=true
 glob:∀x∈kG sc,sc.names.lookup x=some .globalImplicit
 locs:∀p∈sc.names,p.2=.local->sc.names.lookup p.1=some .local
 own:∀x∈own,(x==("__debug__":Str))=false/\(x==("__classdict__":Str))=false
 gn:∀x∈kG sc,(x==("__debug__":Str))=false/\x≠"__name__"/\(x==("super":Str))=false
theorem Am{a b:Bool}(h:(!a||b)=true)(e:a=true):b=true:=by rw[e]at h;exact h
theorem gY{a:Bool}(h:(!a)=true):a=false:=by cases a<;>first|rfl|exact bn h
theorem Mb{cs:List Str}(h:Du sc cs own=true):tF sc cs own:=by
 refine aT (av h) λh _=>?_;refine aT (av h) λh _=>?_;refine aT (av h) λh h10=>?_;refine aT (av h) λh h9=>?_;refine aT (av h) λh h8=>?_;refine aT (av h) λh _=>?_;refine aT (av h) λh h6=>?_;refine aT (av h) λh h5=>?_;refine aT (av h) λh h4=>?_;refine aT (av h) λh h3=>?_;refine aT (av h) λh1 h2=>?_;exact⟨eq_of_beq h1,λx hx=>eq_of_beq (dU.mp h2 x hx),λx hx=>eq_of_beq (dU.mp h3 x hx),λp hp e=>absurd (dU.mp h4 p hp) (by rw[e];decide),
  λp hp e=>Am (dU.mp h5 p hp) (by rw[e];rfl),λx hx=>eq_of_beq (dU.mp h6 x hx),λp hp e=>eq_of_beq (Am (dU.mp h8 p hp) (by rw[e];rfl)),
  λx hx=>have z:=av (dU.mp h9 x hx);⟨gY z.1,gY z.2⟩,λx hx=>have z:=av (dU.mp h10 x hx);have y:=av z.1;⟨gY y.1,bne_iff_ne.mp y.2,gY z.2⟩⟩
theorem TM{r:aj}(hr:r.length=own.length):∀{caps:List Nat}{i:Nat},i<(d9 vn caps own).length->(∃j∈caps,bq (d9 vn caps own) i=bq vn j/\rd (caps.map (rd J)++r) i=rd J j)\/(caps.length<=i/\∃k,k<own.length/\bq (d9 vn caps own) i=bq own k/\rd (caps.map (rd J)++r) i=rd r k):=by
 intro caps;induction caps with
 |nil=>intro i h;exact .inr ⟨bJ _,i,h,rfl,rfl⟩
 |cons j caps ih=>
  intro i h;cases i with
  |zero=>exact .inl ⟨j,.head _,rfl,rfl⟩
  |succ i=>
   rcases ih (ff h) with⟨j',m,e1,e2⟩|⟨z,k,hk,e1,e2⟩
   ·exact .inl ⟨j',.tail _ m,e1,e2⟩
   ·exact .inr ⟨cK z,k,hk,e1,e2⟩
theorem we:∀{n k:Nat},rd (aR n none) k=none
 |0,_=>rfl
 |_+1,0=>rfl
 |n+1,k+1=>we (n:=n)
theorem Uy:∀{caps:List Nat}{i:Nat},caps.length<=i->rd (caps.map (rd J)++aR own.length none) i=none/\(i<(d9 vn caps own).length->bq (d9 vn caps own) i∈own)
 :=λ{caps}=>@(li (λ{i}_=>⟨we,λh=>fH.mp (mJ h)⟩) (λ_ caps ih{i}=>nz (λh=>absurd h (xI _)) (λi h=>⟨(ih (pv h)).1,λq=>(ih (pv h)).2 (ff q)⟩) i) caps)
structure qy(gl vn:List Str)(caps:List Nat):Prop where
 lt:∀j∈caps,j<vn.length
 gl:∀j∈caps,gl.contains (bq vn j)=true
theorem Et(K:eH env gl vn B)(L:cQ fz env vn J h)(O:qy gl vn caps){j:Nat}(hj:j∈caps):∃c z,env.cells.lookup (bq vn j)=some c/\h.IsCell c z/\jy fz h (rd J j) z:=by
 refine ar L.loc λm _ hv=>?_;rcases hv j (O.lt j hj) with q|⟨_,q⟩
 ·exact(K.caps _ (O.gl j hj) (mJ (O.lt j hj))).elim (λe=>nomatch q.1.symm.trans e) λe=>nomatch q.1.symm.trans e
 ·exact q
theorem C9(K:eH env gl vn B)(L:cQ fz env vn J h)(O:qy gl vn caps)(S:tF sc (caps.map (bq vn)) own):∀n,(n,ic)∈sc.names->∃c,env.cells.lookup n=some c:=λn hm=>by
 obtain⟨j,hj,rfl⟩:=ip.mp (fH.mp (S.frees _ hm rfl));obtain⟨c,_,hc,_⟩:=Et K L O hj;exact⟨c,hc⟩
theorem vk(K:eH env gl vn B)(L:cQ fz env vn J h)(O:qy gl vn caps)(S:tF sc (caps.map (bq vn)) own){x:Str}{c:aq}(e:(iC env sc.names []).lookup x=some c):env.cells.lookup x=some c:=by
 rcases MT env _ _ e with z|⟨h1,h2⟩
 ·exact nn z
 ·refine bA (C9 K L O S x h1) λc' hc=>?_;rw[hc]at h2 ⊢;rw[h2];rfl
theorem O5(K:eH env gl vn B)(L:cQ fz env vn J h)(O:qy gl vn caps)(S:tF sc (caps.map (bq vn)) own)(hnd:gX (d9 vn caps own)=true)
  (hC:B' Caa) (hB:∀a,B a->B' a) (hCc:∀x c,env.cells.lookup x=some c->c≠Caa):eH (compEnvC sc (iC env sc.names []) Caa env) (kG sc) (d9 vn caps own) B':=by
 have mg:∀{x},gv (kG sc) (d9 vn caps own) x=true->x∈kG sc:=λhx=>fH.mp (av hx).1;refine⟨S.kind,K.glob,K.blt,λx hx=>yc rfl (S.glob x (mg hx)),λx hx hv=>?_,hC,hnd,λx c hc=>?_,λx y c h1 h2=>K.cellI x y c (vk K L O S h1) (vk K L O S h2),λx hx=>?_,λx hx=>S.gn x (mg hx)⟩
 ·have h1:=S.glob x (fH.mp hx);exact(gx.mp (fH.mp hv)).elim (λz=>nomatch (S.free x z).symm.trans h1) λz=>nomatch (S.loc x z).symm.trans h1
 ·have z:=vk K L O S hc;exact⟨hB _ (K.cellB x c z).1,hCc x c z⟩
 ·refine(gx.mp (fH.mp hx)).elim (λz=>?_) (S.own x);obtain⟨j,hj,rfl⟩:=ip.mp z;exact K.names _ (mJ (O.lt j hj))
theorem O6(K:eH env gl vn B)(L:cQ fz env vn J h)(O:qy gl vn caps)(S:tF sc (caps.map (bq vn)) own){m:Str->Option ag}(hns:h'.Ns Caa m)(hc:∀x c,env.cells.lookup x=some c->∀o,h.get? c=some o->h'.get? c=some o)(k:Kp fz h fz' h') :
  cQ fz' (compEnvC sc (iC env sc.names []) Caa env) (d9 vn caps own) (caps.map (rd J)++aR own.length none) h':=by
 refine⟨by rw[d9,bB,bB,aY,aY,dw],m,hns,λi hi=>?_⟩;rcases TM (J:=J) (r:=aR own.length none) dw hi with⟨j,hj,e1,e2⟩|⟨_,q,hq,e1,e2⟩
 ·refine cp (Et K L O hj) λc z c1 pp183_ c3=>?_;obtain⟨o,ho,hd⟩:=pp183_;have hfree:=S.free _ (ip.mpr ⟨j,hj,rfl⟩);rw[e1,e2];refine .inr ⟨Mk hfree,c,z,?_,⟨o,hc _ _ c1 _ ho,hd⟩,c3.mono k⟩;show(iC env sc.names []).lookup _ = _;rw[Rp env _ _ (.inl (pI hfree)),c1];rfl
 ·rw[e1,e2,we];exact .inl ⟨yc rfl (S.loc _ (fH.mp (mJ hq))),λv hv=>nn hv⟩
end
theorem Fj{i:Nat}:∀{is:List Nat}{vs:List V}{J:aj},(f7 J is vs).length=J.length/\(i ∉ is->rd (f7 J is vs) i=rd J i):=by
 intro is;induction is with
 |nil=>intro vs J;exact⟨rfl,λ_=>rfl⟩
 |cons j is ih=>
  intro vs J;cases vs with
  |nil=>exact⟨rfl,λ_=>rfl⟩
  |cons v vs=>
   have z:=ih (vs:=vs) (J:=wr J j v);exact⟨z.1.trans sb,λn=>(z.2 λm=>n (.tail _ m)).trans (wz λe=>n (e▸.head _))⟩
theorem NA{t:T}{v:V}{J J':aj}(e:d8 t v J=some J'):J'.length=J.length/\∀i,i ∉ xm t->rd J' i=rd J i:=by
 cases t with
 |v j=>(injection e with e;subst e);exact⟨sb,λi n=>wz λe=>n (e▸.head _)⟩
 |tup js=>
  refine ar (a8 e) λvs e1 e=>?_;obtain⟨_,rfl⟩:=iz e;exact⟨(Fj (i:=0)).1,λi n=>Fj.2 n⟩
end
section
open PySem PySem.W PyProof.Rows PySem.SeqAt PySem.Calls
section
variable{C:ax}{d:Nat}{B B' W:aq->Prop}{Z Z2 Z3:ae}{h h':Heap}{s s' s₂ s₃:aB}{A:bD}{env cenv:Env}{gl vn:List Str}{J:aj}{Caa D:aq}{tt:Bool}{itA:aq}{is:IS}{I:(aq->Prop)->Heap->Nat->Prop}
theorem QQ{ifs:List E}(hl:ifs.length<=1)(ih:∀c,ifs=[c]->ST C d c){x:Expr}{n:Nat}{Q:Bool->ae->Prop}{Q0:QV}(c:Ct d A env gl vn B J Z s)(hc:fD gl vn x ifs n=true)(h:WB C true ifs J Z Q0)(hq:∀v Z,Q0 v Z->aK (kH v) λb=>Q b Z) :
  wpAny Md A (forIn (cA vn x ifs n) true λc r=>if r=true then do let ok <-isTrue c env (eval c env);pure (nL ok) else pure (nL r)) (PT B Z s Q) aw s:=by
 cases ifs with
 |nil=>exact wpAny_tests_nil ⟨Z,.refl c.G,hq _ _ h⟩
 |cons e r=>cases r with
  |nil=>
   have ihe:ST C d e:=ih e rfl;exact wpAny_tests_one (ihe (ay x n) c (av hc).1 h hq)
  |cons=>exact absurd (pv hl) (xI _)
structure CH(d:Nat)(A:bD)(cenv:Env)(gl vn:List Str)(B B' W:aq->Prop)(D Caa:aq)(Z:ae)(s:aB):Prop where
 R:eD A (d+1)
 K:eH cenv gl vn B'
 loc:cenv.locals=Caa
 cB:∀y c,cenv.cells.lookup y=some c->¬W c/\c≠D
 BB:∀a,B a->B' a
 WB:∀a,W a->B' a
 CC:B' Caa
 DD:B' D
 DC:D≠Caa
 WD:¬W D
 WC:¬W Caa
 fr:e7 (λa=>W a\/(a=D\/a=Caa)) B Z s
structure CI(I:(aq->Prop)->Heap->Nat->Prop)(cenv:Env)(vn:List Str)(B':aq->Prop)(D:aq)(Z:ae)(s:aB)(i:Nat)(acc:List V)(J:aj)(Z2:ae)(s':aB):Prop where
 g:aE B' Z2 s'.heap
 x:bK gK Z s Z2 s'
 k:I (Fz Z2 B') s'.heap i
 p:∃ys,s'.heap.PlainList D ys.toArray/\aN (Fz Z2 B') s'.heap acc ys
 z:acc.length<=aJ
 l:cQ (Fz Z2 B') cenv vn J s'.heap
theorem CI.af{i:Nat}{acc:List V}(H:CH d A cenv gl vn B B' W D Caa Z s)(it:iP W tt itA is I)(c:CI I cenv vn B' D Z s i acc J Z2 s₂)(a:Af B' Z2 s₂ Z3 s₃):CI I cenv vn B' D Z s i acc J Z3 s₃:=by
 have blk:=a.x.blk c.g;refine ar c.p λys pp01_ rs=>?_;obtain⟨n,hp⟩:=pp01_;exact⟨a.g,c.x.trans a.x,it.mono a.x.kp0 (λb o w e=>blk b o (H.WB b w) e) c.k,⟨ys,⟨n,blk D _ H.DD hp⟩,rs.mono a.x.kp0⟩,c.z,c.l.keep H.K blk a.x.kp0⟩
theorem CI.ct{i:Nat}{acc:List V}(H:CH d A cenv gl vn B B' W D Caa Z s)(c:CI I cenv vn B' D Z s i acc J Z2 s₂):Ct d A cenv gl vn B' J Z2 s₂:=⟨H.R,H.K,c.g,c.l⟩
theorem CI.stepped{i j:Nat}{acc:List V}(H:CH d A cenv gl vn B B' W D Caa Z s)(c:CI I cenv vn B' D Z s i acc J Z2 s₂)(st:jC W s₂ s₃)(tW:∀b,W b->∃o,s₃.heap.get? b=some o)(k:I (Fz Z2 B') s₃.heap j):CI I cenv vn B' D Z s j acc J Z2 s₃:=by
 have kp:=nX (Z:=Z2) H.WB st.keep;refine ar c.p λys pp11_ rs=>?_;obtain⟨n,hp⟩:=pp11_;exact⟨c.g.touch H.WB st.keep tW,c.x.step (H.fr.sub λa w=>.inl w) st,k,⟨ys,⟨n,st.keep D _ H.WD hp⟩,rs.mono kp⟩,c.z,c.l.mono (λo e=>st.keep _ o (H.loc▸H.WC) e) (λy b hb o e=>st.keep b o (H.cB y b hb).1 e) kp⟩
theorem CI.bound{i:Nat}{acc:List V}{J':aj}(H:CH d A cenv gl vn B B' W D Caa Z s)(it:iP W tt itA is I)(c:CI I cenv vn B' D Z s i acc J Z2 s₂)(p:PS B' cenv vn Z2 s₂ (λa=>a=Caa) J' s₃):CI I cenv vn B' D Z s i acc J' Z2 s₃:=by
 have kp:Kp (Fz Z2 B') s₂.heap (Fz Z2 B') s₃.heap:=p.x.kp λa e=>e▸H.CC;have blk:∀b o,b≠Caa->B' b->s₂.heap.get? b=some o->s₃.heap.get? b=some o:=λb o n hb e=>(p.x.keep b o e (c.g.none_of_blocked hb) n).1;refine ar c.p λys pp21_ rs=>?_;obtain⟨n,hp⟩:=pp21_;exact⟨p.g,c.x.fresh (H.fr.sub λa e=>.inr (.inr e)) p.x,it.mono kp (λb o w e=>blk b o (λq=>H.WC (q▸w)) (H.WB b w) e) c.k,⟨ys,⟨n,blk D _ H.DC H.DD hp⟩,rs.mono kp⟩,c.z,p.l⟩
theorem CI.push{i:Nat}{acc:List V}{v:V}{y:ag}{ys:List ag}(H:CH d A cenv gl vn B B' W D Caa Z s)(it:iP W tt itA is I)(c:CI I cenv vn B' D Z s i acc J Z2 s₂)(rs:aN (Fz Z2 B') s₂.heap acc ys)(r:VR (Fz Z2 B') s₂.heap v y)(hz:acc.length<aJ)
  (hp:h'.PlainList D (ys++[y]).toArray) (hs:fK D s₂.heap h'):CI I cenv vn B' D Z s i (acc++[v]) J Z2 { s₂ with heap:=h' }:=by
 refine g9 (za (L:=λa=>a=D) (tk:=s₂.toks) c.g (λa e=>e▸H.DD) rfl hs (hp.elim λn e=>⟨_,e⟩)) λg x kp=>?_;exact⟨g,c.x.fresh (H.fr.sub λa e=>.inr (.inl e)) x,it.mono kp (λb o w e=>(hs.2 b λq=>H.WD (q▸w)).trans e) c.k,⟨_,hp,(rs.append (.one r)).mono kp⟩,by rw[bB];exact hz,
  c.l.mono (λo e=>(hs.2 _ λq=>H.DC (q.symm.trans H.loc)).trans e) (λy b hb o e=>(hs.2 b (H.cB y b hb).2).trans e) kp⟩
structure PC(B:aq->Prop)(Z:ae)(s:aB)(Caa:aq)(Q:QV)(y:ag)(v:V)(Z':ae)(s':aB):Prop where
 g:aE (BW B λa=>a=Caa) Z' s'.heap
 x:bK gK Z s Z' s'
 r:VR (Fz Z' (BW B λa=>a=Caa)) s'.heap v y
 q:Q v Z'
 ns:∃m,s'.heap.Ns Caa m
 fr:e7 (λa=>a=Caa) B Z s
theorem CI.done{i:Nat}{acc:List V}{Q:QV}(H:CH d A cenv gl vn B B' W D Caa Z s)(c:CI I cenv vn B' D Z s i acc J Z2 s₂)(st:jC W s₂ s₃)(q:Q (.list acc) Z2):PC B Z s Caa Q (.ref D) (.list acc) Z2 s₃:=by
 refine ar c.l.loc λm hns _=>?_;rw[H.loc]at hns;refine ar c.p λys pp51_ rs=>?_;obtain⟨n,hp⟩:=pp51_;have hs:∀a,(B a\/a=Caa)->B' a:=λa z=>z.elim (H.BB a) λe=>e▸H.CC;exact⟨c.g.shrink hs H.WB (λa hb hw=>hb.elim (λhb=>absurd hb (H.fr a (.inl hw)).1) λe=>absurd (e▸hw) H.WC) st.keep,c.x.step (H.fr.sub λ_=>.inl) st,
  ⟨D,ys,rfl,⟨c.g.none_of_blocked H.DD,λz=>z.elim (H.fr D (.inr (.inl rfl))).1 H.DC⟩,⟨n,st.keep D _ H.WD hp⟩,c.z,rs.mono (sa hs H.WB st.keep)⟩,q,⟨m,hns.at λo e=>st.keep Caa o H.WC e⟩,H.fr.sub λa e=>.inr (.inr e)⟩
theorem PC.done{Q:QV}{y:ag}{v:V}(p:PC B Z s Caa Q y v Z2 s₂):∃m,s₂.heap.Ns Caa m/\∀h',fK Caa s₂.heap h'->PE B Z s Q y { s₂ with heap:=h' }:=
 p.ns.imp λm hns=>⟨hns,λh' hs=>
  have k:∀b o,¬b=Caa->s₂.heap.get? b=some o->h'.get? b=some o:=λb o n e=>(hs.2 b n).trans e
  ⟨v,Z2,⟨p.g.shrink (λa=>.inl) (λa=>.inr) (λa hb e=>absurd hb (p.fr a e).1) k,p.x.step p.fr ⟨k,rfl,rfl⟩⟩,p.r.mono (sa (λa=>.inl) (λa=>.inr) k),p.q⟩⟩
theorem NF{t:T}{ifs:List E}{elt:E}(ihT:∀c,ifs=[c]->ST C d c)(ihE:SE C d elt)(H:CH d A cenv gl vn B B' W D Caa Z s)(it:iP W tt itA is I)(x:Expr){iter:Expr}{sc:Scope}{p:Pos}{Q:QV}{RR:Result->aB->Prop}{k₀:Nat}
  (hifs:ifs.length<=1) (hT:tZ vn.length t=true) (htn:∀i∈xm t,qr cenv (λa=>a=Caa) (bq vn i)/\rd J i=none) (hIf:fD gl vn x ifs 3=true) (hElt:bQ gl vn elt (ay x 0)=true) (htt:tt=true->∃elts x1 pos,nv vn t (ay x 1)=.Tuple elts x1 pos)
  (c₀:CI I cenv vn B' D Z s 0 [] J Z2 s₂) (q₀:g5 is t (λJ Z Q=>WB C true ifs J Z Q) (λJ Z Q=>WE C elt J Z Q) J Q k₀ 0 [] Z2)
  (fin:∀v Z' s',PC B Z s Caa Q (.ref D) v Z' s'->RR (.ok .next) s') :
  codeAny Md A (.compLoop (.ListComp (aW vn elt (ay x 0)) [⟨nv vn t (ay x 1),iter,cA vn x ifs 3,0⟩] sc p) 0 (.ref itA) (.ref D) cenv) RR s₂:=by
 refine Ma (λm s'=>∃(i:Nat)(acc:List V)(Z3:ae),CI I cenv vn B' D Z s i acc J Z3 s'/\g5 is t (λJ Z Q=>WB C true ifs J Z Q) (λJ Z Q=>WE C elt J Z Q) J Q m i acc Z3) ?_ k₀ ⟨0,[],Z2,c₀,q₀⟩
 rintro m s' ⟨i,acc,Z3,c,q⟩
 cases m with
 |zero=>exact q.elim
 |succ m=>
 refine ar (bj q) λr e q=>?_;refine bT (it.step H.R.hd c.g H.WB htt (λb hb=>(c.g.blocked b (H.WB b hb)).2) c.k e) λr' s₁ h₁=>?_;cases r' with
 |none=>
  obtain⟨rfl,st⟩:=h₁;exact fin _ _ s₁ (c.done H st q)
 |some y=>
 refine bT h₁ λ_ s₂ h₂=>?_;obtain⟨v,rfl,st,tW,rv,k2⟩:=h₂;obtain⟨J',hb,q⟩:=bj q;have c2:=c.stepped H st tW k2;have bw:=NA hb;refine Ee (L:=λa=>a=Caa) H.R.hd H.K (λa e=>e▸H.CC) c2.g c2.l hT (λi hi=>(htn i hi).1) rv hb λs₃ p3=>?_;have c3:=c2.bound H it p3;have back:∀{Z3 s'' acc i},CI I cenv vn B' D Z s i acc J' Z3 s''->CI I cenv vn B' D Z s i acc J Z3 s'':=λc=>⟨c.g,c.x,c.k,c.p,c.z,c.l.weak bw.1.symm λi u hu=>(bw.2 i λhi=>nomatch hu.symm.trans (htn i hi).2).trans hu⟩
 refine bT (QQ (Q:=λb Z'=>match b with
    |false=>g5 is t (λJ Z Q=>WB C true ifs J Z Q) (λJ Z Q=>WE C elt J Z Q) J Q m (i+1) acc Z'
    |true=>acc.length<aJ/\WE C elt J' Z' λx Z''=>g5 is t (λJ Z Q=>WB C true ifs J Z Q) (λJ Z Q=>WE C elt J Z Q) J Q m (i+1) (acc++[x]) Z'') hifs ihT (c3.ct H) hIf q λv Z' hq=>hq) λok s₄ h₄=>?_
 refine ar h₄ λZ4 f4 q4=>?_;have c4:=c3.af H it f4;cases ok with
 |false=>exact⟨m,bu m,i+1,acc,Z4,back c4,q4⟩
 |true=>
 show wpAny _ _ (eval _ cenv) _ _ _;refine seq (ihE (ay x 0) (c4.ct H) hElt q4.2) λu Z5 z s₅ f5 r5 q5=>?_;have c5:=c4.af H it f5;refine ar c5.p λys hp rs=>?_;refine JF hp (λh' hp' hs=>?_) (by rw[dT,rs.length];exact gc c5.z);rw[KU]at hp';exact⟨m,bu m,i+1,acc++[u],Z5,back (c5.push H it rs r5 q4.1 hp' hs),q5⟩
theorem Dv{caps:List Nat}{own:List Str}{t:T}{it:It}{ifs:List E}{elt:E}{use:Option (ag->Sem Unit)}{pp:Pos}{Q:QV}{Q':ag->aB->Prop}(ihI:SI C d it)(ihT:∀c,ifs=[c]->ST C d c)(ihE:SE C d elt)(x:Expr)(c:Ct d A env gl vn B J Z s)(hc:bQ gl vn (.comp caps own t it ifs elt) x=true)(h:WE C (.comp caps own t it ifs elt) J Z Q)
  (fin:∀y Caa v Z' s',PC B Z s Caa Q y v Z' s'->compPost Md A aw use Q' y Caa (.ok .next) s') :
  wpAny Md A (comprehension (aW vn (.comp caps own t it ifs elt) x) (jd x) env pp (newList []) false (eval (oZ vn it (ay x 2)) env) use) Q' aw s:=by
 refine aT (av hc) λhc hElt=>?_;refine aT (av hc) λhc hIf=>?_;refine aT (av hc) λhc hIt=>?_;refine aT (av hc) λhc hifs=>?_;refine aT (av hc) λhc htt=>?_;refine aT (av hc) λhc htg=>?_;refine aT (av hc) λhc hT=>?_;refine aT (av hc) λhc hnd=>?_;refine aT (av hc) λhc hsc=>?_;refine aT (av hc) λhc hcg=>?_;have S:=Mb hsc;have O:qy gl vn caps:=⟨λj hj=>of_decide_eq_true (dU.mp hc j hj),λj hj=>dU.mp hcg _ (ip.mpr ⟨j,hj,rfl⟩)⟩
 refine wpAny_comprehension_free (use:=use) rfl CJ (MU (C9 c.K c.L O S)) S.kind S.locs ?_;refine bT (ihI (ay x 2) c hIt htt h) λxv s₁ h₁=>bT h₁ λitv s₂ h₂=>?_;obtain⟨itA,W,is,I,Z',rfl,g,fr,x0,it_ok,k0,q⟩:=h₂;obtain⟨kk,q⟩:=q;refine wpAny_newObj_type (wpAny_newFunctionEnv S.nocell (λy hy=>nm hy) (λh₁ hns1 hsb1=>?_) S.kind)
 dsimp only at hns1 hsb1 ⊢
 generalize hH2:s₂.heap.push { cls:=.type "list",dict:=none,data:=.seq ([]:List ag).toArray }=H2 at hns1 hsb1 ⊢
 have hCz:H2.objs.size=s₂.heap.objs.size+1:=by rw[<-hH2,Cn]
 have hDC:s₂.heap.objs.size≠H2.objs.size:=by rw[hCz];exact gR (bu _)
 have old:bI s₂.heap h₁:=λb o e=>hsb1.extBut b o (by rw[hCz];exact gR (eM (kj e))) (pq _ (hH2▸pq _ e));have hacc:h₁.PlainList s₂.heap.objs.size (([]:List ag).toArray):=⟨_,hsb1.extBut _ _ hDC (pq _ (hH2▸kc _ rfl))⟩
 have hnew:∀a,(a=s₂.heap.objs.size\/a=H2.objs.size)->s₂.heap.objs.size<=a:=λa ha=>ha.elim (λe=>dA e.symm) λe=>by rw[e,hCz];exact eN _
 have hex:∀a,(a=s₂.heap.objs.size\/a=H2.objs.size)->∃o,h₁.get? a=some o:=λa ha=>ha.elim (λe=>e▸hacc.elim λn ho=>⟨_,ho⟩) λe=>e▸hns1.elim λo q=>q.elim λ_ q=>q.elim λ_ q=>⟨o,q.1⟩
 have frN:e7 (λa=>a=s₂.heap.objs.size\/a=H2.objs.size) B Z s:=(e7.size g.unblock hnew).lift x0;have f1:Af (BW B W) Z' s₂ Z' { s₂ with heap:=h₁,toks:=s₂.toks+([]:List (Str×ag)).length }:=.heap g old _;have x1:=x0.trans f1.x;have frA:=fr.or frN;have key:Kp (Fz Z B) s.heap (Fz Z' (BW (BW B W) λa=>a=s₂.heap.objs.size\/a=H2.objs.size)) h₁:=λa o f e=>by
  obtain⟨e',z⟩:=x1.keep a o e f.1 λq=>q;exact⟨⟨z,λq=>q.elim (λq=>q.elim f.2 λq=>(fr a q).2 o e f.1) λq=>(frN a q).2 o e f.1⟩,e'⟩
 have cB:∀y b,env.cells.lookup y=some b->¬W b/\b≠s₂.heap.objs.size/\b≠H2.objs.size:=λy b hb=>have z:=(c.K.cellB y b hb).1;⟨λw=>(fr b w).1 z,λe=>(frN _ (.inl rfl)).1 (e▸z),λe=>(frN _ (.inr rfl)).1 (e▸z)⟩;have K':=O5 (B':=BW (BW B W) λa=>a=s₂.heap.objs.size\/a=H2.objs.size) (Caa:=H2.objs.size) c.K c.L O S hnd (.inr (.inr rfl)) (λa ha=>.inl (.inl ha)) λy b hb=>(cB y b hb).2.2;have L':=O6 (Caa:=H2.objs.size) (h':=h₁) c.K c.L O S hns1 (λy b hb o e=>(x1.keep b o e (c.G.none_of_blocked (c.K.cellB y b hb).1) λq=>q).1) key;have g1:=g.block (W:=λa=>a=s₂.heap.objs.size\/a=H2.objs.size) old hnew hex;have k1:=it_ok.mono (sf (W:=λa=>a=s₂.heap.objs.size\/a=H2.objs.size) old hnew) (λa o _ e=>old a o e) k0;have hWN:∀a,W a->¬(a=s₂.heap.objs.size\/a=H2.objs.size):=λa ha hq=>(g.blocked a (.inr ha)).2.elim λo ho=>absurd rfl (jT (hnew a hq) ho);have H:CH d A (compEnvC (jd x) (iC env (jd x).names []) H2.objs.size env) (kG (jd x)) (d9 vn caps own) B (BW (BW B W) λa=>a=s₂.heap.objs.size\/a=H2.objs.size) W s₂.heap.objs.size H2.objs.size Z s:=
  ⟨c.R,K',rfl,λy b hb=>have z:=cB y b (vk c.K c.L O S hb);⟨z.1,z.2.1⟩,λa ha=>.inl (.inl ha),λa ha=>.inl (.inr ha),.inr (.inr rfl),.inr (.inl rfl),hDC,λw=>hWN _ w (.inl rfl),λw=>hWN _ w (.inr rfl),frA⟩
 have loop:∀s₃:aB,s₃={ s₂ with heap:=h₁,toks:=s₂.toks+([]:List (Str×ag)).length }->codeAny Md A (.compLoop (.ListComp (aW (d9 vn caps own) elt (ay x 0)) [⟨nv (d9 vn caps own) t (ay x 1),oZ vn it (ay x 2),cA (d9 vn caps own) x ifs 3,0⟩] (jd x) x.pos) 0 (.ref itA) (.ref s₂.heap.objs.size) (compEnvC (jd x) (iC env (jd x).names []) H2.objs.size env))
    (compPost Md A aw use Q' (.ref s₂.heap.objs.size) H2.objs.size) s₃:=by
  rintro s₃ rfl
  refine NF ihT ihE H it_ok x (of_decide_eq_true hifs) hT (λi hi=>?_) hIf hElt (λht=>?_) ⟨g1,x1,k1,⟨[],hacc,rfl⟩,bJ _,L'⟩ q λv Z' s' hp=>fin _ _ v Z' s' hp
  ·have hle:caps.length<=i:=by
    cases t with
    |v j=>rw[cJ.mp hi];exact dA (eq_of_beq htg).symm
    |tup js=>exact of_decide_eq_true (dU.mp htg i hi)
   have hlt:i<(d9 vn caps own).length:=by
    cases t with
    |v j=>rw[cJ.mp hi];exact of_decide_eq_true hT
    |tup js=>exact nV hT i hi
   have z:=Uy (J:=J) (vn:=vn) (own:=own) hle;exact⟨.inl ⟨yc rfl (S.loc _ (z.2 hlt)),rfl⟩,z.1⟩
  ·cases t with
   |v j=>exact bn ht
   |tup js=>exact⟨_,_,_,rfl⟩
 exact codeAny_compStart_list (loop _ rfl) (jl (it_ok.self (Q:=λit' s'=>it'=.ref itA/\s'={ s₂ with heap:=h₁,toks:=s₂.toks+([]:List (Str×ag)).length }) (s:={ s₂ with heap:=h₁,toks:=s₂.toks+([]:List (Str×ag)).length }) k1 ⟨rfl,rfl⟩) (λit' s' e=>e.1▸loop s' e.2) λ_ _ e=>e.elim)
theorem S3{caps:List Nat}{own:List Str}{t:T}{it:It}{ifs:List E}{elt:E}(ihI:SI C d it)(ihT:∀c,ifs=[c]->ST C d c)(ihE:SE C d elt):SE C d (.comp caps own t it ifs elt):=by
 intro A env gl vn B J Z s x Q c hc h;show wpAny Md A (eval (.ListComp (aW (d9 vn caps own) elt (ay x 0)) [⟨nv (d9 vn caps own) t (ay x 1),oZ vn it (ay x 2),cA (d9 vn caps own) x ifs 3,0⟩] (jd x) x.pos) env) _ aw s;rw[eval_ListComp];exact Dv (use:=none) (Q:=Q) ihI ihT ihE x c hc h λy Caa v Z' s' p=>p.done
end
end
section
open PySem PySem.W PyProof.Rows PySem.SeqAt PySem.Calls
noncomputable def UB(e:E):Bool:=match e with
 |.m _ _ _=>false
 |.o _ _=>false
 |.not _=>false
 |.ite _ _ _=>false
 |_=>true
section
variable{C:ax}{d:Nat}
theorem fN{e:E}(he:UB e=true)(h:SE C d e):SE C d e/\ST C d e:=⟨h,QJ h λ{vn x env wh}=>by cases e<;>first|rfl|exact bn he⟩
def s7(C:ax)(d:Nat)(es:List E):Prop:=je C d es/\SB C d es/\tT C d es/\SD C d es/\∀e,es=[e]->SE C d e/\ST C d e
theorem UJ:SB C d []:=by
 intro A env gl vn B J Z s x n Q b p c hc he h;cases he
theorem Dr:s7 C d []:=⟨S7,UJ,SX,UK,λ_ h=>by cases h⟩
theorem C4{e:E}{r:List E}(h:SE C d e/\ST C d e)(hr:s7 C d r):s7 C d (e::r):=⟨QA h.1 hr.1,SW h.1 hr.2.1,Qx h.2 hr.2.2.1,SY h.1 hr.2.2.2.1,λe' q=>by(injection q with q;subst q);exact h⟩
theorem fP(H:bF cx)(Caa:gF C d)(e:E):SE C d e/\ST C d e:=
 E.rec (motive_1:=λe=>SE C d e/\ST C d e) (motive_2:=SI C d) (motive_3:=s7 C d)
  (λv=>fN rfl (Il v)) (λi=>fN rfl (U0 i)) (λg=>fN rfl (S4 H g)) (λe a i=>fN rfl (S0 H a i.1)) (λe k i j=>fN rfl (UP H i.1 j.1)) (λe a b i j k=>fN rfl (UY i.1 j.1 k.1))
  (λe i=>fN rfl (UX i.1)) (λe i=>fN rfl (US i.1)) (λop a b i j=>fN rfl (UL i.1 j.1)) (λm es n i j=>fN rfl (UW i.1 j.1)) (λop a b i j=>⟨UN H i.1 j.1,Vf H i.1 j.1⟩)
  (λb es i=>⟨UM i.2.1,Ve i.2.2.1⟩) (λe i=>⟨UU i.1,Vh i.2⟩) (λc a b i j k=>⟨UQ i.2 j.1 k.1,Vg i.2 j.2 k.2⟩) (λes i=>fN rfl (UZ i.1)) (λm es i=>fN rfl (UR i.1))
  (λb ks vs i=>fN rfl (UO i.2.2.2.1)) (λf es i=>fN rfl (S1 H Caa i.1)) (λfrz c es i=>fN rfl (UT H Caa i.1)) (λe m es i j=>fN rfl (S5 H Caa i.1 j.1))
  (λb es i=>fN rfl (VV H (λe q=>(i.2.2.2.2 e q).1) i.1)) (λe b es i j=>fN rfl (VW H i.1 j.1)) (λcaps own t it ifs elt i j k=>fN rfl (S3 i (λc q=>(j.2.2.2.2 c q).2) k.1))
  (λe i=>HG i.1) (λes i=>E8 H i.1) (λe i=>GA H i.1) (λa b i j=>HH H i.1 j.1) Dr (λe r i j=>C4 i j) e
theorem GR(H:bF cx)(Caa:gF C d):∀es:List E,s7 C d es:=λrr=>li (Dr)
 (λe r ih=>C4 (fP H Caa e) (ih)) rr
theorem GS(H:bF cx)(Caa:gF C d):∀it:It,SI C d it
 |.seq e=>HG (fP H Caa e).1
 |.range es=>E8 H (GR H Caa es).1
 |.enum e=>GA H (fP H Caa e).1
 |.zip a b=>HH H (fP H Caa a).1 (fP H Caa b).1
end
def FR(fz:aq->Prop)(h:Heap)(o:O)(f:Flow):Prop:=match o with
 |.next=>f=.next
 |.ret v=>∃y,f=.ret y/\VR fz h v y
def lL(env:Env)(vn:List Str):Prop:=∀i,i<vn.length->qr env (ef env) (bq vn i)
structure IX(B:aq->Prop)(env:Env)(vn:List Str)(Z:ae)(s:aB)(J':aj)(Z':ae)(s':aB):Prop where
 g:aE B Z' s'.heap
 x:bK (ef env) Z s Z' s'
 l:cQ (Fz Z' B) env vn J' s'.heap
def PO(B:aq->Prop)(env:Env)(vn:List Str)(Z:ae)(s:aB)(Q:QO):Flow->aB->Prop:=
 λf s'=>∃o J' Z',IX B env vn Z s J' Z' s'/\FR (Fz Z' B) s'.heap o f/\Q o J' Z'
section
variable{C:ax}{d:Nat}{B W:aq->Prop}{Z Z' Z2:ae}{s s' s'' s₂:aB}{A:bD}{env:Env}{gl vn:List Str}{J J':aj}{Q:QO}
theorem PO.lift{f:Flow}(x:bK (ef env) Z s Z' s')(p:PO B env vn Z' s' Q f s''):PO B env vn Z s Q f s'':=by
 refine q8 p λo J' Z2 p r=>?_;exact⟨o,J',Z2,⟨p.g,x.trans p.x,p.l⟩,r⟩
theorem zM{t:Sem Flow}(x:bK (ef env) Z s Z' s')(h:wpAny Md A t (PO B env vn Z' s' Q) aw s''):wpAny Md A t (PO B env vn Z s Q) aw s'':=bT h λ_ _ p=>p.lift x
theorem eH.none(K:eH env gl vn B)(G:aE B Z s.heap):∀a,ef env a->Z a=none:=λa ha=>G.none_of_blocked (K.ownB a ha)
theorem Ct.own(c:Ct d A env gl vn B J Z s)(a:Af B Z s Z' s'):bK (ef env) Z s Z' s':=a.x.own_mono (λ_ q=>q.elim) (c.K.none c.G)
set_option tactic.hygienic true in
theorem Ct.next(c:Ct d A env gl vn B J Z s)(a:Af B Z s Z' s')(q:Q .next J Z'):PO B env vn Z s Q .next s':=⟨.next,J,Z',⟨a.g,c.own a,(c.af a).L⟩,rfl,q⟩
set_option tactic.hygienic true in
theorem Ct.stored(p:PS B env vn Z s (ef env) J' s')(q:Q .next J' Z):PO B env vn Z s Q .next s':=⟨.next,J',Z,⟨p.g,p.x,p.l⟩,rfl,q⟩
variable(C d)
def SS(c:S):Prop:=∀{A:bD}{env:Env}{gl vn:List Str}{B:aq->Prop}{J:aj}{Z:ae}{s:aB}(x:cf){Q:QO},Ct d A env gl vn B J Z s->lL env vn->I1 gl vn c x=true->WS C c J Z Q->wpAny Md A (exec (toS vn c x) env) (PO B env vn Z s Q) aw s
def mc(cs:List S):Prop:=∀{A:bD}{env:Env}{gl vn:List Str}{B:aq->Prop}{J:aj}{Z:ae}{s:aB}(x:cf)(l:List cf){Q:QO},Ct d A env gl vn B J Z s->lL env vn->mV gl vn x cs l=true->az C cs J Z Q->wpAny Md A (execs (mY vn x cs l) env) (PO B env vn Z s Q) aw s
variable{C d}
theorem My(h:env.scope.kind=.function):interactive env=false:=by unfold interactive;rw[h];rfl
theorem C0{e:E}(h:zT e=true)(x:Expr)(t:Option Expr)(n:Nat):swapsWith (aW vn e x) t n env=pure false:=by
 cases e<;>first|rfl|exact bn h
theorem Vc{e:E}(ih:SE C d e):SS C d (.ret e):=by
 intro A env gl vn B J Z s x Q c F hc h;exact wpAny_Return_some (seq (ih (sk x 0) c hc h) λv Z' y s' f r q=>⟨.ret v,J,Z',⟨f.g,c.own f,(c.af f).L⟩,⟨y,rfl,r⟩,q⟩)
set_option tactic.hygienic true in
theorem V0{e:E}(ih:SE C d e):SS C d (.ex e):=by
 intro A env gl vn B J Z s x Q c F hc h;refine wpAny_Expr_any (seq (ih (sk x 0) c (av hc).2 h) λv Z' y s' f r q=>?_) (My c.K.kind) (C0 (av hc).1 _ _ _);refine ar (bj q) λu hu q=>?_;exact c.next f q
theorem GF:mc C d []:=by
 intro A env gl vn B J Z s x l Q c F hc h;exact Cm (c.next (.refl c.G) h)
theorem E9{a:S}{r:List S}(ih:SS C d a)(ihr:mc C d r):mc C d (a::r):=by
 intro A env gl vn B J Z s x l Q c F hc h;refine wpAny_execs_cons (bT (ih (Bd x l) c F (av hc).1 h) λf s₁ p=>?_);obtain⟨o,J',Z',p,e,q⟩:=p;cases o with
 |next=>subst e;exact zM p.x (ihr x (Bn l) ⟨c.R,c.K,p.g,p.l⟩ F (av hc).2 q)
 |ret v=>
  obtain⟨y,rfl,r⟩:=e;exact⟨.ret v,J',Z',p,⟨y,rfl,r⟩,q⟩
theorem Vb{t:E}{a b:List S}(iht:ST C d t)(ih:mc C d a)(ih2:mc C d b):SS C d (.ite t a b):=by
 intro A env gl vn B J Z s x Q c F hc h;have h12:=av (av hc).1;refine wpAny_If (lV (iht (sk x 0) (Q:=λt Z=>match t with|true=>az C a J Z Q|false=>az C b J Z Q) c h12.1 h λ_ _ q=>q) λt Z' s' f q=>?_);cases t with
 |true=>exact zM (c.own f) (ih x (lU x) (c.af f) F h12.2 q)
 |false=>exact zM (c.own f) (ih2 x (AH x) (c.af f) F (av hc).2 q)
theorem qC{α:Type}{t:Sem α}{Q:α->aB->Prop}{E:ag->aB->Prop}(h:wpAny Md A t Q aw s):wpAny Md A t Q E s:=jl h (λ_ _ h=>h) λ_ _ h=>h.elim
theorem cQ.sub(hs:Sub Z' Z)(L:cQ (Fz Z B) env vn J s.heap):cQ (Fz Z' B) env vn J s.heap:=L.mono (λ_ e=>e) (λ_ _ _ _ e=>e) (lI hs)
theorem Vd{t:E}{b:List S}(iht:ST C d t)(ih:mc C d b):SS C d (.whl t b):=by
 intro A env gl vn B J Z s x Q c F hc h;refine bA h λn₀ h=>?_;refine wpAny_While (codeAny_whileLoop (λn s'=>∃J' Z',IX B env vn Z s J' Z' s'/\ox (λJ Z Q=>WE C t J Z Q) (λJ Z Q=>az C b J Z Q) Q n J' Z') ?_ n₀ ⟨J,Z,⟨c.G,.refl (c.K.none c.G),c.L⟩,h⟩)
 rintro n s₁ ⟨J₁,Z1,p,q⟩
 cases n with
 |zero=>exact q.elim
 |succ n=>
 have c1:Ct d A env gl vn B J₁ Z1 s₁:=⟨c.R,c.K,p.g,p.l⟩
 refine qC (lV (iht (sk x 0) (Q:=λb' Z'=>match b' with
  |false=>Q .next J₁ Z'
  |true=>az C b J₁ Z' λo J'' Z''=>match o with
   |.next=>∃Z3,Sub Z3 Z''/\ox (λJ Z Q=>WE C t J Z Q) (λJ Z Q=>az C b J Z Q) Q n J'' Z3
   |.ret v=>Q (.ret v) J'' Z'') c1 (av hc).1 q λ_ _ q=>q) λt Z2 s₂ f q2=>?_)
 have x2:=p.x.trans (c1.own f);cases t with
 |false=>exact Cm ⟨.next,J₁,Z2,⟨f.g,x2,(c1.af f).L⟩,rfl,q2⟩
 |true=>
  refine jl (ih x (lU x) (c1.af f) F (av hc).2 q2) (λfl s₃ p3=>?_) λ_ _ h=>h.elim;obtain⟨o,J₃,Z3,p3,e,q3⟩:=p3;cases o with
  |next=>
   subst e;obtain⟨Z4,hs,q3⟩:=q3;exact⟨n,bu n,J₃,Z4,⟨p3.g.sub hs,(x2.trans p3.x).trans (.sub hs (c.K.none p3.g)),p3.l.sub hs⟩,q3⟩
  |ret v=>
   obtain⟨y,rfl,r⟩:=e;exact⟨.ret v,J₃,Z3,⟨p3.g,x2.trans p3.x,p3.l⟩,⟨y,rfl,r⟩,q3⟩
end
end
section
open PySem PySem.W PyProof.Rows PySem.SeqAt PySem.Calls
section
variable{C:ax}{d:Nat}{B W L:aq->Prop}{Z Z' Z2:ae}{s s' s'' s₂:aB}{A:bD}{env:Env}{gl vn:List Str}{J J':aj}{Q:QO}{tt:Bool}{itA:aq}{is:IS}{I:(aq->Prop)->Heap->Nat->Prop}
theorem bK.stepL(x:bK L Z s Z' s')(f:e7 W B Z s)(hd:∀a,L a->¬W a)(st:jC W s' s''):bK L Z s Z' s'':=
 ⟨λa o e z n=>have q:=x.keep a o e z n;⟨st.keep a o (λw=>(f a w).2 o e z) q.1,q.2⟩,λa ha e=>have q:=x.there a ha e;⟨q.1.imp λo e=>st.keep a o (hd a ha) e,q.2⟩,st.gens.trans x.gens,st.os.trans x.os⟩
theorem cQ.step{fz fz':aq->Prop}(hd:∀a,ef env a->¬W a)(st:jC W s s')(k:Kp fz s.heap fz' s'.heap)(R:cQ fz env vn J s.heap):cQ fz' env vn J s'.heap:=
 R.mono (λo e=>st.keep _ o (hd _ (.inl rfl)) e) (λy c hc o e=>st.keep c o (hd c (.inr ⟨y,hc⟩)) e) k
theorem iP.ext{i:Nat}(it:iP W tt itA is I)(G:aE B Z s.heap)(hW:∀a,W a->B a)(hL:∀a,L a->B a)(hd:∀a,L a->¬W a)(x:bK L Z s Z' s')(k:I (Fz Z B) s.heap i):I (Fz Z' B) s'.heap i:=
 it.mono (x.kp hL) (λa o w e=>(x.keep a o e (G.none_of_blocked (hW a w)) λq=>hd a q w).1) k
theorem Ui{n:Nat}{t:T}(h:tZ n t=true):∀i∈xm t,i<n:=by
 cases t with
 |v j=>intro i hi;rw[cJ.mp hi];exact of_decide_eq_true h
 |tup is=>exact nV h
theorem Va{t:T}{it:It}{b:List S}(ih:SI C d it)(ihb:mc C d b):SS C d (.for t it b):=by
 intro A env gl vn B J Z s x Q c F hc h;refine aT (av hc) λhc hb=>?_;refine aT (av hc) λhc hIt=>?_;refine aT (av hc) λhtt hT=>?_;have hnone:=c.K.none c.G;refine wpAny_For (bT (ih (sk x 1) c hIt htt h) λxv s₁ h₁=>bT h₁ λitv s₂ h₂=>?_) CJ;obtain⟨itA,W,is,I,Z0,rfl,g₀,fr,x₀,it_ok,k₀,n₀,q₀⟩:=h₂;have hO:∀a,ef env a->BW B W a:=λa ha=>.inl (c.K.ownB a ha);have hd:∀a,ef env a->¬W a:=λa ha hw=>(fr a hw).1 (c.K.ownB a ha);have hWB:∀a,W a->BW B W a:=λa ha=>.inr ha;have tgtt:vX t=true->∃elts x1 pos,nv vn t (sk x 0)=.Tuple elts x1 pos:=λht=>by
  cases t with
  |v j=>exact bn ht
  |tup js=>exact⟨_,_,_,rfl⟩
 have key:Kp (Fz Z B) s.heap (Fz Z0 (BW B W)) s₂.heap:=λa o f e=>have q:=x₀.keep a o e f.1 λq=>q;⟨⟨q.2,λz=>z.elim f.2 λz=>(fr a z).2 o e f.1⟩,q.1⟩;have L0:cQ (Fz Z0 (BW B W)) env vn J s₂.heap:=c.L.mono (λo e=>(x₀.keep _ o e (hnone _ (.inl rfl)) λq=>q).1) (λy a hc o e=>(x₀.keep a o e (hnone a (.inr ⟨y,hc⟩)) λq=>q).1) key;refine codeAny_forLoop_any (λn s'=>∃i J' Z',aE (BW B W) Z' s'.heap/\bK (ef env) Z s Z' s'/\I (Fz Z' (BW B W)) s'.heap i/\cQ (Fz Z' (BW B W)) env vn J' s'.heap/\bZ is t (λJ Z Q=>az C b J Z Q) Q n i J' Z') ?_ n₀
  ⟨0,J,Z0,g₀,x₀.own_mono (λ_ q=>q.elim) hnone,k₀,L0,q₀⟩
 rintro n s₁ ⟨i,J₁,Z1,g,x1,k,l,q⟩
 cases n with
 |zero=>exact q.elim
 |succ n=>
 obtain⟨r,e,q⟩:=bj q;refine qC (bT (it_ok.step c.R.hd g hWB tgtt (λb hb=>(g.blocked b (.inr hb)).2) k e) λr' s₂ h₁=>?_);cases r' with
 |none=>
  obtain⟨rfl,st⟩:=h₁;have g2:=g.shrink (B:=B) (W:=W) (λ_=>.inl) hWB (λa hb hw=>absurd hb (fr a hw).1) st.keep;exact Cm ⟨.next,J₁,Z1,⟨g2,x1.stepL fr hd st,l.step hd st (sa (λ_=>.inl) hWB st.keep)⟩,rfl,q⟩
 |some y=>
 refine qC (bT h₁ λ_ s₃ h₂=>?_);obtain⟨v,rfl,st,tW,rv,k2⟩:=h₂;obtain⟨J₂,hbd,q⟩:=bj q;have g2:=g.touch hWB st.keep tW;refine qC (Ee (L:=ef env) c.R.hd (c.K.block W) hO g2 (l.step hd st (nX hWB st.keep)) hT (λi hi=>F i (Ui hT i hi)) rv hbd λs₄ p=>?_);have x3:=(x1.stepL fr hd st).trans p.x;have k3:=it_ok.ext g2 hWB hO hd p.x k2;refine jl (ihb x (lU x) ⟨c.R,c.K.block W,p.g,p.l⟩ F hb q) (λf s₅ p5=>?_) λ_ _ h=>h.elim;obtain⟨o,J₃,Z3,p5,e5,q4⟩:=p5;cases o with
 |next=>
  subst e5;obtain⟨Z4,hs,q4⟩:=q4;have k4:=it_ok.ext p.g hWB hO hd p5.x k3;exact⟨n,bu n,i+1,J₃,Z4,p5.g.sub hs,(x3.trans p5.x).trans (.sub hs λa ha=>p5.g.none_of_blocked (hO a ha)),it_ok.mono (lI hs) (λ_ _ _ e=>e) k4,p5.l.sub hs,q4⟩
 |ret v=>
  obtain⟨y,rfl,r⟩:=e5;exact⟨.ret v,J₃,Z3,⟨p5.g.unblock,x3.trans p5.x,p5.l.mono (λ_ e=>e) (λ_ _ _ _ e=>e) yA⟩,⟨y,rfl,r.mono yA⟩,q4⟩
theorem Mq{o:Expr}{n:Str}{p:Pos}{v:ag}{Q:Unit->aB->Prop}(h:wpAny Md A (eval o env) (λov s₁=>wpAny Md A (setAttr ov n v) Q aw s₁) aw s):wpAny Md A (assign (.Attribute o n p) env v) Q aw s:=by
 show wpAny Md A (do let ov <-holding [v] (eval o env);standAt p.atName;holding [v,ov] (setAttr ov n v);release [v,ov] []) Q aw s;exact aG (ig (bT h λov s₁ h₁=>aG (pK (aG (ig (bT h₁ λ_ _ h₂=>LV h₂))))))
theorem LF(o i:Expr)(p:Pos)(v:ag):assign (.Subscript o i p) env v=(do
  let ov <-holding [v] (eval o env)
  let iv <-holding [v,ov] (eval i env)
  standAt p
  holding [v,ov,iv] (setItem ov iv v)
  release (match i with|.Slice _ _ none _=>[iv,v,ov]|_=>[v,ov,iv]) []):=rfl
theorem MO{o i:Expr}{p:Pos}{v:ag}{Q:Unit->aB->Prop}(h:wpAny Md A (eval o env) (λov s₁=>wpAny Md A (eval i env) (λiv s₂=>wpAny Md A (setItem ov iv v) Q aw s₂) aw s₁) aw s):wpAny Md A (assign (.Subscript o i p) env v) Q aw s:=by
 rw[LF];exact aG (ig (bT h λov s₁ h₁=>aG (ig (bT h₁ λiv s₂ h₂=>aG (pK (aG (ig (bT h₂ λ_ _ h₃=>LV h₃))))))))
theorem V1(H:bF cx)(Caa:gF C d){t:Tg}{x:Expr}{v:V}{y:ag}(c:Ct d A env gl vn B J Z s)(F:lL env vn)(hc:qR gl vn t x=true)(r:VR (Fz Z B) s.heap v y)(h:jD C t v J Z (Q .next)) :
  wpAny Md A (assign (iF vn t x) env y) (λ_=>PO B env vn Z s Q .next) aw s:=by
 cases t with
 |v i=>exact xX (sy c.K c.G c.L c.K.ownB (of_decide_eq_true hc) (F i (of_decide_eq_true hc)) r λs' p=>Ct.stored p h)
 |vs is=>
  refine cm (bj h) λvs e1 hl q=>?_;obtain rfl:=n5 e1;exact Fg c.R.hd c.K c.K.ownB c.G c.L (λi hi=>⟨nV hc i hi,F i (nV hc i hi)⟩) hl r λs' p=>Ct.stored p q
 |a e a=>
  refine Mq (seq ((fP H Caa e).1 (ay x 0) c hc h) λv Z' z s' f r' q=>?_);exact bT (E7 H f.g r' (f.vr r) q) λ_ s₂ p=>p.elim λZ2 p=>c.next (f.trans p.1) p.2
 |i e i=>
  refine MO (qS (fP H Caa e).1 (fP H Caa i).1 c (av hc).1 (av hc).2 h λv k Z' a b s' f r1 r2 q=>?_);exact bT (D7 H c.r0 f.g r1 r2 (f.vr r) q) λ_ s₂ p=>p.elim λZ2 p=>c.next (f.trans p.1) p.2
theorem zD{op:Op}{a b:V}{k:Int}{x y:ag}{P:ag->aB->Prop}(ho:IH op=true)(ra:VR (Fz Z B) s.heap a x)(rb:VR (Fz Z B) s.heap b y)(e:wG op a b=some k)(h:∀t tk,P (.int k t) { s with toks:=tk }) :
  wpAny Md A (inplaceOp (w7 op) x y) P aw s:=by
 refine ar (a8 e) λi e1 e=>?_;refine ar (a8 e) λj e2 e3=>?_;obtain rfl:=eY e1;obtain rfl:=eY e2;obtain⟨t,rfl⟩:=ra;obtain⟨u,rfl⟩:=rb;cases op<;>try (exact bn ho;done)
 ·(injection e3 with e3;subst e3);exact Yq (h _ _)
 ·(injection e3 with e3;subst e3);exact Yr (h _ _)
theorem PY(c:Ct d A env gl vn B J Z s){i:Nat}{P:ag->aB->Prop}(hi:i<vn.length){v:V}(hv:rd J i=some v)(h:∀y,VR (Fz Z B) s.heap v y->P y s):wpAny Md A (loadName env (bq vn i)) P aw s:=by
 refine ar c.L.loc λm hn hm=>?_;refine aT (c.K.names _ (mJ hi)) λn1 n2=>?_;rcases hm i hi with⟨k,q⟩|⟨k,a,z,hcl,hz,q⟩
 ·refine ar (q v hv) λy e r=>?_;exact Kh c.K.kind k hn e (h y r)
 ·obtain⟨y,rfl,r⟩:=q v hv;rcases k with k|k
  ·exact Kn c.K.kind k hcl hz (h y r)
  ·exact Ko c.K.kind k hcl hz (h y r) n2
theorem L7(e:E)(x:Expr)(ov iv new:ag):augStore (aW vn e x) ov iv new=(do holding [new,ov,iv] (setItem ov iv new);release [new,ov,iv] [];pure .next):=by
 generalize hr:(do holding [new,ov,iv] (setItem ov iv new);release [new,ov,iv] [];pure .next:Sem Flow)=r
 cases e<;>exact hr
theorem U9(H:bF cx)(Caa:gF C d){t:Tg}{op:Op}{e:E}:SS C d (.aug t op e):=by
 intro A env gl vn B J Z s x Q c F hc h;refine aT (av hc) λhc he=>?_;refine aT (av hc) λho ht=>?_;have ihe:SE C d e:=(fP H Caa e).1;cases t with
 |v i=>
  refine ar (bj h) λold hold h=>?_;refine wpAny_AugAssign_Name (PY c (of_decide_eq_true ht) hold λoy ro=>seq (ihe (sk x 0) c he h) λv Z' z s' f r q=>?_);refine ar (bj q) λk hk q=>?_;refine zD ho (f.vr ro) r hk λt tk=>?_;have f2:=f.trans (.tok f.g tk);have c2:=c.af f2;exact sy c2.K c2.G c2.L c2.K.ownB (of_decide_eq_true ht) (F i (of_decide_eq_true ht)) (v:=.int k) ⟨t,rfl⟩ λs₂ p=>PO.lift (c.own f2) (Ct.stored p q)
 |vs is=>exact h.elim
 |a o a=>
  refine wpAny_AugAssign_AttributeAny (seq ((fP H Caa o).1 (ay (sk x 1) 0) c ht h) λv Z' z s' f r q=>?_);refine ar (bj q) λold hold q=>?_;refine seq (Fu (Q:=λv Z=>v=old/\Z=Z') H f.g r hold ⟨rfl,rfl⟩) λ_ _ oy s₁ f1 ro e1=>?_;obtain⟨rfl,rfl⟩:=e1;refine seq (ihe (sk x 0) (c.af (f.trans f1)) he q) λu Z2 z2 s₂ f2 r2 q2=>?_;refine ar (bj q2) λk hk q2=>?_;refine zD ho (f2.vr ro) r2 hk λt tk=>?_;have f3:Af B Z s Z2 { s₂ with toks:=tk }:=((f.trans f1).trans f2).trans (.tok f2.g tk);exact bT (E7 (s:={ s₂ with toks:=tk }) (x:=.int k) H f3.g (f2.vr (f1.vr r)) ⟨t,rfl⟩ q2) λ_ s₃ p=>p.elim λZ3 p=>c.next (f3.trans p.1) p.2
 |i o i=>
  refine wpAny_AugAssign_SubscriptAny (qS (fP H Caa o).1 (fP H Caa i).1 c (av ht).1 (av ht).2 h λv k Z' a b s' f r r1 q=>?_) (L7 _ _);refine ar (bj q) λold hold q=>?_;refine seq (Hl (Q:=λv Z=>v=old/\Z=Z') H c.r0 f.g r r1 hold ⟨rfl,rfl⟩) λ_ _ oy s₁ f1 ro e1=>?_;obtain⟨rfl,rfl⟩:=e1;refine seq (ihe (sk x 0) (c.af (f.trans f1)) he q) λu Z2 z2 s₂ f2 r2 q2=>?_;refine ar (bj q2) λn hk q2=>?_;refine zD ho (f2.vr ro) r2 hk λt tk=>?_;have f3:Af B Z s Z2 { s₂ with toks:=tk }:=((f.trans f1).trans f2).trans (.tok f2.g tk);exact bT (D7 (s:={ s₂ with toks:=tk }) (x:=.int n) H c.r0 f3.g (f2.vr (f1.vr r)) (f2.vr (f1.vr r1)) ⟨t,rfl⟩ q2) λ_ s₃ p=>p.elim λZ3 p=>c.next (f3.trans p.1) p.2
end
end
section
open PySem PySem.W PyProof.Rows PySem.SeqAt PySem.Calls
theorem GO:∀{J:aj}{i j:Nat}{u v:V},i≠j->wr (wr J i u) j v=wr (wr J j v) i u
 |[],_,_,_,_,_=>rfl
 |_::_,0,0,_,_,h=>absurd rfl h
 |_::_,0,_+1,_,_,_=>rfl
 |_::_,_+1,0,_,_,_=>rfl
 |x::r,i+1,j+1,_,_,h=>congrArg (yC x) (GO λe=>h (congrArg (·+1) e))
theorem Vp:∀{is:List Nat}{vs:List V}{J:aj}{i:Nat}{v:V},i ∉ is->f7 (wr J i v) is vs=wr (f7 J is vs) i v:=by
 intro is;induction is with
 |nil=>intro vs J i v _;rfl
 |cons j is ih=>
  intro vs J i v h;cases vs with
  |nil=>rfl
  |cons u vs=>
   show f7 (wr (wr J i v) j u) is vs=wr (f7 (wr J j u) is vs) i v;rw[GO (show i≠j from λe=>h (e▸.head _)),ih λm=>h (.tail _ m)]
theorem Q1:∀{is:List Nat}{vs:List V}{J:aj}{i:Nat}{v:V},is.length=vs.length->f7 J (is++[i]) (vs++[v])=wr (f7 J is vs) i v:=by
 intro is;induction is with
 |nil=>intro vs J i v h;cases nE.mp h.symm;rfl
 |cons j is ih=>
  intro vs J i v h;cases vs with
  |nil=>cases h
  |cons u vs=>exact ih (iI h)
theorem Tz:∀{is:List Nat}{vs:List V}{J:aj},Aj is=true->is.length=vs.length->f7 J is.reverse vs.reverse=f7 J is vs:=by
 intro is;induction is with
 |nil=>intro vs J _ h;cases nE.mp h.symm;rfl
 |cons j is ih=>
  intro vs J hn h;cases vs with
  |nil=>cases h
  |cons u vs=>
   have h:=iI h;rw[rG,rG,Q1 (by rw[my,my];exact h),ih (av hn).2 h,<-Vp]
   ·rfl
   ·intro m;have:=gY (av hn).1;rw[fH.mpr m]at this;exact nb this
section
variable{C:ax}{d:Nat}{B W L:aq->Prop}{Z Z' Z2:ae}{s s' s'' s₂:aB}{A:bD}{env:Env}{gl vn:List Str}{is:List Nat}{J J':aj}{Q:QO}
theorem M9{x:Expr}:∀(is:List Nat)(n:Nat),(gm vn x is n).length=is.length:=λrr=>li (λ_=>rfl)
 (λ_ is ih n=>congrArg (·+1) (ih (n+1))) rr
theorem Mh{x:Expr}{f:Expr->Option Str}(hf:∀x p,f (.Name x p)=some x\/f (.Name x p)=none):∀(is:List Nat)(n:Nat),((gm vn x is n).filterMap f).length<=is.length/\(((gm vn x is n).filterMap f).length=is.length->(gm vn x is n).filterMap f=is.map (bq vn)):=λrr=>li (λ_=>⟨aC _,λ_=>rfl⟩)
 (λi is ih₁ n=>by
  have ih:=ih₁ (n+1);show((Dp (bq vn i) (ay x n).pos::gm vn x is (n+1)).filterMap f).length<=_/\(((Dp (bq vn i) (ay x n).pos::gm vn x is (n+1)).filterMap f).length = _->(Dp (bq vn i) (ay x n).pos::gm vn x is (n+1)).filterMap f = _)
  rw[xK];rcases hf (bq vn i) (ay x n).pos with e|e
  ·rw[e];exact⟨cK ih.1,λq=>congrArg (yC _) (ih.2 (iI q))⟩
  ·rw[e];exact⟨fy ih.1,λq=>absurd (dA q.symm) (Kc _∘λz=>ai z ih.1)⟩) rr
theorem vZ{α:Type}{c:Prop}[Decidable c]{a b z:α}(h:¬c->b=a\/b=z):(if c then a else b)=a\/(if c then a else b)=z:=by
 by_cases k:c
 ·rw[if_pos k];exact .inl rfl
 ·rw[if_neg k];exact h k
theorem PB{α:Type}{c:Prop}[Decidable c]{a:α}:(if c then some a else none)=some a\/(if c then some a else none)=none:=by
 by_cases k:c
 ·exact .inl (if_pos k)
 ·exact .inr (if_neg k)
theorem LQ{x:Expr}{is:List Nat}{vs:List Expr}{k k':Nat}{p p':Pos}(hc:GH (.Tuple vs k' p')=true) :
  swappedStores [.Tuple (gm vn x is 0) k p] (.Tuple vs k' p') env=pure none\/swappedStores [.Tuple (gm vn x is 0) k p] (.Tuple vs k' p') env=pure (some (is.map (bq vn))):=by
 refine vZ λ_=>vZ λ_=>vZ λh3=>vZ λh4=>?_;by_cases h5:vs.all (constantsAlone 8)=true
 ·exact absurd (Am (a:=vs.all (constantsAlone 8)) hc h5) h4
 ·rw[if_neg h5];refine .inr (congrArg (λz=>(pure (some z):Sem (Option (List Str)))) ((Mh (λ_ _=>PB) is 0).2 ?_));rw[<-M9 (vn:=vn) (x:=x) is 0];exact pd λz=>h3 (uk.2 (.inl (bne_iff_ne.2 z)))
theorem NH(t:Tg)(x:Expr):(assignEach [iF vn t x] env).map (·.2)=[assign (iF vn t x) env]:=by cases t<;>rfl
theorem Fq{tg value:Expr}{pos:Pos}{Q:Flow->aB->Prop}{o:Option (List Str)}(hs:swapsWithSole [tg] value pos.line env=pure false)(hw:swappedStores [tg] value env=pure o)
  (h:wpAny Md A (eval value env) (λv s₁=>wpAny Md A (assignStores env v o ((assignEach [tg] env).map (·.2))) Q aw s₁) aw s):wpAny Md A (exec (.Assign [tg] value pos) env) Q aw s:=by
 rw[exec_Assign];refine aG (pK ?_);rw[hs];refine aG (a9 ?_);rw[if_neg (by decide)];refine aG (bT h λv s₁ h₁=>?_);rw[hw];exact aG (a9 h₁)
theorem pU(H:bF cx)(Caa:gF C d){t:Tg}{e:E}{x:cf}(c:Ct d A env gl vn B J Z s)(F:lL env vn)(ht:qR gl vn t (sk x 1)=true)(he:bQ gl vn e (sk x 0)=true)(h:WS C (.s t e) J Z Q)
  (hs:swapsWithSole [iF vn t (sk x 1)] (aW vn e (sk x 0)) x.pos.line env=pure false) (hw:swappedStores [iF vn t (sk x 1)] (aW vn e (sk x 0)) env=pure none):wpAny Md A (exec (toS vn (.s t e) x) env) (PO B env vn Z s Q) aw s:=by
 refine Fq (o:=none) hs hw (seq ((fP H Caa e).1 (sk x 0) c he h) λv Z' z s' f r q=>?_);rw[NH];show wpAny Md A (do assignAll z [assign (iF vn t (sk x 1)) env];pure Np) _ _ s';exact aG (bT (V1 H Caa (c.af f) F ht r q) λ_ _ p=>a9 (p.lift (c.own f)))
theorem Mp(H:bF cx)(Caa:gF C d){is:List Nat}{e:E}{x:cf}(c:Ct d A env gl vn B J Z s)(F:lL env vn)(ht:w6 vn.length is=true)(he:bQ gl vn e (sk x 0)=true)(h:WS C (.s (.vs is) e) J Z Q)
  (hs:swapsWithSole [iF vn (.vs is) (sk x 1)] (aW vn e (sk x 0)) x.pos.line env=pure false) (hw:swappedStores [iF vn (.vs is) (sk x 1)] (aW vn e (sk x 0)) env=pure (some (is.map (bq vn)))):wpAny Md A (exec (toS vn (.s (.vs is) e) x) env) (PO B env vn Z s Q) aw s:=by
 refine Fq hs hw (seq ((fP H Caa e).1 (sk x 0) c he h) λv Z' z s' f r q=>?_);refine cm (bj q) λvs e1 hl q=>?_;rw[n5 e1]at r;obtain⟨a,ys,rfl,hf,ha,hz,rs⟩:=r;show wpAny Md A (do rule "assign.swapped-stores";let items <-unpackItems (.ref a) (is.map (bq vn)).length none;assignInOrder ((is.map (bq vn)).reverse.map λn=>bindName env n) items.reverse;pure Np) _ aw s';refine aG (pT (aG ?_));rw[aY,hl,<-rs.length,<-dT,<-B7];refine unpackItems_tuple c.R.hd ha λh' hx=>aG ?_;have k:bI s'.heap h':=λb o e=>hx b o (gR (kj e)) e;have f2:Af B Z s Z' { s' with heap:=h' }:=f.trans (.keeps f.g k rfl rfl);have c2:=c.af f2;refine Eb (s:={ s' with heap:=h' }) c.K c.K.ownB (QL is.reverse) (λi hi=>have m:=List.mem_reverse.mp hi;⟨nV ht i m,F i (nV ht i m)⟩) (by rw[my,my];exact hl) c2.G c2.L (rs.mono k.kp).reverse λs₂ p=>a9 ?_;rw[Tz (av ht).2 hl]at p;exact PO.lift (c.own f2) (Ct.stored p q)
set_option tactic.hygienic true in
theorem OW(H:bF cx)(Caa:gF C d){i:Nat}{caps:List Nat}{own:List Str}{t:T}{it:It}{ifs:List E}{elt:E}{x:cf}(c:Ct d A env gl vn B J Z s)(F:lL env vn)(hi:i<vn.length)(he:bQ gl vn (.comp caps own t it ifs elt) (sk x 0)=true)
  (h:WS C (.s (.v i) (.comp caps own t it ifs elt)) J Z Q) (hb:swapsWith (aW vn (.comp caps own t it ifs elt) (sk x 0)) (some (iF vn (.v i) (sk x 1))) x.pos.line env=pure true):wpAny Md A (exec (toS vn (.s (.v i) (.comp caps own t it ifs elt)) x) env) (PO B env vn Z s Q) aw s:=by
 show wpAny Md A (exec (.Assign [.Name (bq vn i) (sk x 1).pos] (aW vn (.comp caps own t it ifs elt) (sk x 0)) x.pos) env) _ aw s;rw[exec_Assign_Name_used _ _ _ _ hb];show wpAny Md A (do standAt x.pos;evalThenUse (.ListComp (aW (d9 vn caps own) elt (ay (sk x 0) 0)) _ (jd (sk x 0)) (sk x 0).pos) env (assign (.Name (bq vn i) (sk x 1).pos) env);pure _) _ aw s;rw[arm_evalThenUse_ListComp];refine aG (pK (aG ?_));refine aG (bT (Dv (use:=some (assign (.Name (bq vn i) (sk x 1).pos) env)) (Q':=λ_ s'=>PO B env vn Z s Q .next s') (GS H Caa it) (λc hc=>((GR H Caa ifs).2.2.2.2 c hc).2) (fP H Caa elt).1 (sk x 0) c he h λy D v Z' s' p=>?_) λ_ _ p=>a9 (a9 p));refine bA p.ns λm hns=>?_;have hO:∀a,ef env a->¬a=D:=λa ha e=>(p.fr a e).1 (c.K.ownB a ha);have key:Kp (Fz Z B) s.heap (Fz Z' (BW B λa=>a=D)) s'.heap:=λa o f e=>have q:=p.x.keep a o e f.1 λq=>q;⟨⟨q.2,λz=>z.elim f.2 λz=>(p.fr a z).2 o e f.1⟩,q.1⟩;have L':cQ (Fz Z' (BW B λa=>a=D)) env vn J s'.heap:=c.L.mono (λo e=>(p.x.keep _ o e (c.K.none c.G _ (.inl rfl)) λq=>q).1) (λy a hc o e=>(p.x.keep a o e (c.K.none c.G a (.inr ⟨y,hc⟩)) λq=>q).1) key;refine xX (sy (L:=ef env) (c.K.block _) p.g L' (λa ha=>.inl (c.K.ownB a ha)) hi (F i hi) p.r λs₂ p2=>?_);refine⟨m,hns.at λo e=>(p2.x.keep D o e (p.g.none_of_blocked (.inr rfl)) λho=>hO D ho rfl).1,λh' hs=>?_⟩;have k:∀b o,¬(b=D)->s₂.heap.get? b=some o->h'.get? b=some o:=λb o n e=>(hs.2 b n).trans e;have st:jC (λa=>a=D) s₂ { s₂ with heap:=h' }:=⟨k,rfl,rfl⟩
 exact⟨.next,wr J i v,Z',⟨p2.g.shrink (λa=>.inl) (λa=>.inr) (λa hb e=>absurd hb (p.fr a e).1) k,((p.x.own_mono (λ_ q=>q.elim) (c.K.none c.G)).trans p2.x).stepL p.fr hO st,p2.l.step hO st (sa (λa=>.inl) (λa=>.inr) k)⟩,rfl,p.q⟩
theorem AI{t:Expr}{n:Nat}(h:∀x p,t≠.Name x p)(v:Expr):swapsWithSole [t] v n env=pure false:=by
 show swapsWith v (some t) n env=pure false;cases v<;>first
  |rfl
  |(cases t<;>first
   |rfl
   |exact absurd rfl (h _ _))
theorem Vm(e:E)(x:Expr):(∃es,e=.tup es)\/∀(y:Expr)k p,swappedStores [.Tuple (gm vn y is 0) k p] (aW vn e x) env=pure none:=by cases e<;>first|exact .inl ⟨_,rfl⟩|exact .inr λ_ _ _=>rfl
theorem Rq(e:E):zT e=true\/∃caps own t it ifs elt,e=.comp caps own t it ifs elt:=by cases e<;>first|exact .inl rfl|exact .inr ⟨_,_,_,_,_,_,rfl⟩
theorem OU(H:bF cx)(Caa:gF C d){i:Nat}{caps:List Nat}{own:List Str}{t:T}{it:It}{ifs:List E}{elt:E}{x:cf}(c:Ct d A env gl vn B J Z s)(F:lL env vn)(ht:qR gl vn (.v i) (sk x 1)=true)(he:bQ gl vn (.comp caps own t it ifs elt) (sk x 0)=true)(h:WS C (.s (.v i) (.comp caps own t it ifs elt)) J Z Q) :
  ∀b,swapsWith (aW vn (.comp caps own t it ifs elt) (sk x 0)) (some (iF vn (.v i) (sk x 1))) x.pos.line env=pure b->wpAny Md A (exec (toS vn (.s (.v i) (.comp caps own t it ifs elt)) x) env) (PO B env vn Z s Q) aw s
 |false,hb=>pU H Caa c F ht he h hb rfl
 |true,hb=>OW H Caa c F (of_decide_eq_true ht) he h hb
theorem TC(H:bF cx)(Caa:gF C d){is:List Nat}{es:List E}{x:cf}(c:Ct d A env gl vn B J Z s)(F:lL env vn)(hk:HM (.vs is) (aW vn (.tup es) (sk x 0))=true)(ht:qR gl vn (.vs is) (sk x 1)=true)(he:bQ gl vn (.tup es) (sk x 0)=true)(h:WS C (.s (.vs is) (.tup es)) J Z Q)(hs:swapsWithSole [iF vn (.vs is) (sk x 1)] (aW vn (.tup es) (sk x 0)) x.pos.line env=pure false) :
  wpAny Md A (exec (toS vn (.s (.vs is) (.tup es)) x) env) (PO B env vn Z s Q) aw s:=
 (LQ (vn:=vn) (x:=sk x 1) (is:=is) (k:=mn (sk x 1)) (p:=(sk x 1).pos) (env:=env) hk).elim (pU H Caa c F ht he h hs) (Mp H Caa c F ht he h hs)
theorem U8(H:bF cx)(Caa:gF C d){t:Tg}{e:E}:SS C d (.s t e):=by
 intro A env gl vn B J Z s x Q c F hc h;have hc:=av hc;have hk:=av hc.1;cases t with
 |v i=>
  rcases Rq e with hn|⟨caps,own,t,it,ifs,elt,q⟩
  ·exact pU H Caa c F hk.2 hc.2 h (show swapsWith (aW vn e (sk x 0)) (some (iF vn (.v i) (sk x 1))) x.pos.line env=pure false from C0 hn _ _ _) rfl
  ·subst q;exact OU H Caa c F hk.2 hc.2 h _ rfl
 |vs is=>
  have hs:=AI (t:=iF vn (.vs is) (sk x 1)) (n:=x.pos.line) (env:=env) (λ_ _ z=>B5 z) (aW vn e (sk x 0));rcases Vm (vn:=vn) (is:=is) (env:=env) e (sk x 0) with⟨es,q⟩|q
  ·subst q;exact TC H Caa c F hk.1 hk.2 hc.2 h hs
  ·exact pU H Caa c F hk.2 hc.2 h hs (q ..)
 |a o a=>exact pU H Caa c F hk.2 hc.2 h (AI (λ_ _ z=>B5 z) _) rfl
 |i o i=>exact pU H Caa c F hk.2 hc.2 h (AI (λ_ _ z=>B5 z) _) rfl
theorem Vq(H:bF cx)(Caa:gF C d)(a:S):SS C d a:=
 S.rec (motive_1:=SS C d) (motive_2:=mc C d) (λt e=>U8 H Caa) (λt op e=>U9 H Caa) (λe=>V0 (fP H Caa e).1) (λt a b i j=>Vb (fP H Caa t).2 i j) (λt b i=>Vd (fP H Caa t).2 i)
  (λt it b i=>Va (GS H Caa it) i) (λe=>Vc (fP H Caa e).1) (λ{A env gl vn B J Z s}x{Q}c F hc h=>h.elim) GF (λa r i j=>E9 i j) a
theorem GU(H:bF cx)(Caa:gF C d):∀cs:List S,mc C d cs
 |[]=>GF
 |a::r=>E9 (Vq H Caa a) (GU H Caa r)
end
end
section
open PySem PySem.W PyProof.Rows PySem.SeqAt PySem.Calls
theorem Dg{n:Str}:∀{k:Nat}{names:List Str}{xs:List ag},n∈names.take k->k<=xs.length->((names.zip xs).lookup n).isSome=true:=by
 intro k;induction k with
 |zero=>intro names xs h;rw[List.take_zero]at h;exact nm h
 |succ k ih=>
  intro names xs h hk;cases names with
  |nil=>exact nm h
  |cons m names=>
   cases xs with
   |nil=>exact absurd hk (xI _)
   |cons x xs=>
    rw[xS];by_cases q:n=m
    ·rw[fA,q,beq_self_eq_true];rfl
    ·rw[fA,jm q];exact ih ((cq.mp h).elim (λe=>absurd e q) id) (pv hk)
theorem M6{n:Str}:∀{names:List Str}{xs:List ag},names.contains n=false->(names.zip xs).lookup n=none:=by
 intro names;induction names with
 |nil=>intro xs _;rfl
 |cons m names ih=>
  intro xs h;cases xs with
  |nil=>rfl
  |cons x xs=>
   rw[xP,J3]at h;rw[xS,fA,h.1];exact ih h.2
theorem Pm{α β:Type}{f g:α->Option β}:∀{l:List α},(∀n∈l,f n=g n)->l.filterMap f=l.filterMap g:=@λrr=>li (@λ_=>rfl)
 (@λa l ih h=>by rw[xK,xK,h a (.head _),ih λn m=>h n (.tail _ m)]) rr
theorem OZ:∀{names:List Str}{ys:List ag},gX names=true->ys.length=names.length->(names.filterMap λn=>((names.zip ys).lookup n).map (n,·))=names.zip ys:=by
 intro names;induction names with
 |nil=>intro ys _ _;rfl
 |cons m names ih=>
  intro ys hn hl;cases ys with
  |nil=>cases hl
  |cons y ys=>
   rw[xS,xK,fA,beq_self_eq_true];refine congrArg (yC _) ((Pm λn hm=>?_).trans (ih (av hn).2 (iI hl)));have q:n≠m:=λe=>by
    have z:=gY (av hn).1;rw[fH.mpr (e▸hm)]at z;cases z
   rw[fA,jm q]
theorem NG:∀(l:List (Str×ag))(slots:List (Str×ag)),
  (forIn l slots λx __s=>if (iT x.1 __s).isNone=true then(pure (nL (__s++[(x.1,x.2)])):Sem (ForInStep (List (Str×ag)))) else pure (nL __s))=pure (l.foldl (λsl x=>if (sl.lookup x.1).isNone=true then sl++[x] else sl) slots):=by
 intro l;induction l with
 |nil=>intro slots;rfl
 |cons x l ih=>
  intro slots;rw[K9,x6];by_cases h:(iT x.1 slots).isNone=true
  ·rw[if_pos h,if_pos h];exact ih _
  ·rw[if_neg h,if_neg h];exact ih _
theorem Ls:∀{ns:List Str}{z:Str},gX (ns++[z])=true->ns.contains z=false:=by
 intro ns;induction ns with
 |nil=>intro z _;rfl
 |cons m ns ih=>
  intro z h;rw[xP,ih (av h).2,Bool.or_false];have q:=gY (av h).1;refine beq_eq_false_iff_ne.mpr λe=>?_;rw[show(ns.append [z]).contains m=true from fH.mpr (gx.mpr (.inr (cJ.mpr e.symm)))]at q;exact nb q
theorem NP:∀(l sl:List (Str×ag)),(∀x∈l,(iT x.1 sl).isSome=true)->l.foldl (λsl x=>if (iT x.1 sl).isNone=true then sl++[x] else sl) sl=sl:=λrr=>li (λ_ _=>rfl)
 (λx l ih sl h=>by
  have hx:=h x (.head _);rw[x6,if_neg (by rw[Bu];intro q;rw[q]at hx;exact bn hx)];exact ih sl λy hy=>h y (.tail _ hy)) rr
theorem QH{names:List Str}{xs D:List ag}(hn:gX names=true)(hD:D.length<=1\/xs.length=names.length)(h1:xs.length<=names.length)(h2:names.length<=xs.length+D.length) :
  ((names.drop (names.length-D.length)).zip D).foldl (λsl x=>if (iT x.1 sl).isNone=true then sl++[x] else sl) (names.zip xs)=names.zip (xs++D.drop (D.length+xs.length-names.length)):=by
 by_cases e:xs.length=names.length
 ·rw[NP _ _ λx hx=>Dg (k:=names.length) (by rw[nJ];exact BG (Cf (show(x.1,x.2)∈_ from hx)).1) (dA e.symm),e,BP,kX,gP]
 ·cases D with
  |nil=>exact absurd (cX h1 h2) e
  |cons d D=>
   cases D with
   |cons=>exact absurd (hD.resolve_right e) (Kc _∘λz=>ai (cK (cK (bJ _))) z)
   |nil=>
    rcases JR names with rfl|⟨ns,z,e2⟩
    ·exact absurd (cX h1 (bJ _)) e
    ·have e2:names=ns++[z]:=by rw[e2,JP]
     subst e2;have hl:(ns++[z]).length=ns.length+1:=bB;rw[hl]at h1 h2 e ⊢;have e:ns.length=xs.length:=cX (pv h2) (eV (hM h1 e));rw[show ns.length+1 - [d].length=ns.length from rfl,Co];show(if (iT z ((ns++[z]).zip xs)).isNone=true then _ else _) = _;rw[show(ns++[z]).zip xs=ns.zip xs by rw[<-gP xs,Ld e,gP];exact gP _];rw[M6 (Ls hn),if_pos (show(none:Option ag).isNone=true from rfl),show [d].length+xs.length-(ns.length+1)=0 by rw[e];show 1+xs.length-(xs.length+1)=0;rw[cb,CG],x8,Ld e];rfl
theorem Ol{p:Arguments}(h:p.posonlyargs=[])(k:p.kwonlyargs=[])(v:p.vararg=none)(w:p.kwarg=none):p=⟨[],p.args,none,[],p.kw_defaults,none,p.defaults⟩:=by
 have z:∀{a b c d},p.posonlyargs=a->p.kwonlyargs=b->p.vararg=c->p.kwarg=d->p=⟨a,p.args,c,b,p.kw_defaults,d,p.defaults⟩:=λh k v w=>by subst h k v w;cases p;rfl
 exact z h k v w
theorem AM{M:Model}{A:bD}{α:Type}{c:Prop}[Decidable c]{x y:Sem α}{Q:α->aB->Prop}{E:ag->aB->Prop}{s:aB}(n:¬c)(h:wpAny M A y Q E s):wpAny M A (if c then x else y) Q E s:=by rw[if_neg n];exact h
theorem Wc{M:Model}{A:bD}{α:Type}{x:Sem α}{v:α}{Q:α->aB->Prop}{E:ag->aB->Prop}{s:aB}(e:x=pure v)(h:Q v s):wpAny M A x Q E s:=by rw[e];exact a9 h
theorem Nz{fd:FuncData}{names:List Str}{xs D:List ag}{ds:Option (Array ag)}{M:Model}{A:bD}{E:ag->aB->Prop}{s:aB}{Q:List (Str×ag)->aB->Prop}
  (h1:fd.params.posonlyargs=[]) (h2:fd.params.kwonlyargs=[]) (h3:fd.params.vararg=none) (h4:fd.params.kwarg=none) (h5:fd.params.args.map (·.arg)=names)
  (hd:∀Q:Option (Array ag)->aB->Prop,Q ds s->wpAny M A (seqItems? fd.defaults) Q E s) (hD:(ds.getD #[]).toList=D) (hn:gX names=true) (hD1:D.length<=1\/xs.length=names.length) (hdn:D.length<=names.length) (hx:xs.length<=names.length) (hx2:names.length<=xs.length+D.length)
  (h:Q (names.zip (xs++D.drop (D.length+xs.length-names.length))) s):wpAny M A (bindArgs fd ⟨xs,[]⟩) Q E s:=by
 subst h5;have hdr:D.drop (D.length-(fd.params.args.map (·.arg)).length)=D:=by rw[BD hdn,x8]
 have hm:¬(!(List.filter (λn=>(iT n ((fd.params.args.map (·.arg)).zip xs)).isNone) ((fd.params.args.map (·.arg)).take ((fd.params.args.map (·.arg)).length-(D.drop (D.length-(fd.params.args.map (·.arg)).length)).length))).isEmpty)=true:=by
  rw[hdr,Bw.mpr λn hm=>by
   have:=Dg (xs:=xs) hm (Nat.sub_le_of_le_add hx2);rw[Bu];intro q;rw[q]at this;exact bn this]
  exact kW
 have len:(xs++D.drop (D.length+xs.length-(fd.params.args.map (·.arg)).length)).length=(fd.params.args.map (·.arg)).length:=by
  rw[bB,hV];exact bE [_,_,_,_,_] [] (.a .v0 .v1) .v2 [(1,.en (.a .v3 .v2) (.a .v4 .v0)),(-1,.en (.a .v1 .v3) .v4)] rfl (aZ (au [_,_,_] [] (.ln .v0 (.a .v1 .v2)) 1 [(1,.ln .v0 (.a .v2 .v1))] rfl hx2)) (aZ (au [_,_,_,_] [] (.ln .v0 .v1) 1 [(1,.ln .v2 .v3),(1,.en (.a .v0 .v3) (.a .v1 .v2))] rfl hx (aZ (au [_,_,_] [] (.ln .v0 (.a .v1 .v2)) 1 [(1,.ln .v0 (.a .v2 .v1))] rfl hx2))))
 have bz:=OZ hn len;have sl:(((fd.params.args.map (·.arg)).drop ((fd.params.args.map (·.arg)).length-(D.drop (D.length-(fd.params.args.map (·.arg)).length)).length)).zip (D.drop (D.length-(fd.params.args.map (·.arg)).length))).foldl (λsl x=>if (iT x.1 sl).isNone=true then sl++[x] else sl) ((fd.params.args.map (·.arg)).zip xs)=(fd.params.args.map (·.arg)).zip (xs++D.drop (D.length+xs.length-(fd.params.args.map (·.arg)).length)):=by
  rw[hdr];exact QH hn hD1 hx hx2
 have nl:¬(decide (xs.length > (fd.params.args.map (·.arg)).length)&&true)=true:=by rw[decide_eq_false (bc.mpr hx)];exact kW
 refine(congrArg (λp=>wpAny M A (bindArgs { fd with params:=p } ⟨xs,[]⟩) Q E s) (Ol h1 h2 h3 h4)).mpr ?_;refine aG (a9 (aG (hd _ ?_)));subst hD;refine AM nl (AM hm ?_);exact aG (Wc (NG ..) (aG (a9 (AM kW (a9 ((congrArg (λz=>Q z s) ((congrArg (λz=>(fd.params.args.map Arg.arg++[]).filterMap λn=>(iT n z).map (n,·)) sl).trans (by rw[gP];exact bz))).mpr h))))))
end
section
open PySem PySem.W PyProof.Rows PySem.SeqAt PySem.Calls
theorem Dt{x:Str}:∀{names:List (Str×k8)}{n:Nat}{acc:List (Str×aq)},((x,uz)∈names\/(acc.lookup x).isSome=true)->((cellsFrom n names acc).lookup x).isSome=true:=by
 intro names;induction names with
 |nil=>intro n acc h;exact h.elim (λz=>nm z) id
 |cons p r ih=>
  intro n acc h;obtain⟨m,k⟩:=p;rw[cellsFrom];by_cases hk:(k==uz)=true
  ·rw[if_pos hk];refine ih ?_;by_cases hx:x=m
   ·right;rw[fA,hx,beq_self_eq_true];rfl
   ·refine h.imp (λz=>(cq.mp z).elim (λe=>absurd (congrArg OS e) hx) id) λz=>?_;rw[fA,jm hx];exact z
  ·rw[if_neg hk];exact ih (h.imp (λz=>(cq.mp z).elim (λe=>absurd ((nO e).2▸rfl) hk) id) id)
theorem Ds{k:Str->Option k8}{x:Str}:∀{names:List Str}{ys:List ag}{m:Str->Option ag},names.contains x=false->bindL k (names.zip ys) m x=m x/\bindC k (names.zip ys) m x=m x:=by
 intro names;induction names with
 |nil=>intro ys m _;exact⟨rfl,rfl⟩
 |cons n names ih=>
  intro ys m h;cases ys with
  |nil=>exact⟨rfl,rfl⟩
  |cons y ys=>
   rw[xP,J3]at h;have hx:x≠n:=beq_eq_false_iff_ne.mp h.1;rw[xS,bindL,bindC,(ih h.2).1,(ih h.2).2];by_cases q:k n=some .local
   ·rw[if_pos q,if_pos q];exact⟨if_neg hx,rfl⟩
   ·rw[if_neg q,if_neg q];exact⟨rfl,if_neg hx⟩
theorem Rb{k:Str->Option k8}:∀{names:List Str}{ys:List ag}{m:Str->Option ag}{i:Nat}{y:ag},gX names=true->i<names.length->ys[i]?=some y ->
  (k (bq names i)=some .local->bindL k (names.zip ys) m (bq names i)=some y)/\(k (bq names i)≠some .local->bindC k (names.zip ys) m (bq names i)=some y):=by
 intro names;induction names with
 |nil=>intro ys m i y _ h;exact absurd h (dM _)
 |cons n names ih=>
  intro ys m i y hn hi hy;cases ys with
  |nil=>exact nn hy
  |cons z ys=>
   cases i with
   |zero=>
    injection hy with hy;subst hy
    have hk:=gY (av hn).1;refine⟨λq=>?_,λq=>?_⟩
    ·show bindL k (names.zip ys) (if k n=some .local then _ else _) n = _;rw[if_pos (show k n = _ from q),(Ds hk).1];exact if_pos rfl
    ·show bindC k (names.zip ys) (if k n=some .local then _ else _) n = _;rw[if_neg (show ¬k n = _ from q),(Ds hk).2];exact if_pos rfl
   |succ i=>exact⟨(ih (av hn).2 (ff hi) hy).1,(ih (av hn).2 (ff hi) hy).2⟩
theorem zo:∀{vn:List Str}{n i:Nat},i<n->bq (vn.take n) i=bq vn i
 |[],_,_,_=>by rw[ya]
 |_::_,0,_,h=>absurd h (dM _)
 |_::_,_+1,0,_=>rfl
 |_::vn,n+1,i+1,h=>zo (vn:=vn) (ff h)
theorem Vn:∀{vn:List Str}{x:Str},vn.contains x=true->∃i,i<vn.length/\bq vn i=x:=by
 intro vn;induction vn with
 |nil=>intro x h;exact bn h
 |cons y vn ih=>
  intro x h;rw[xP,Bool.or_eq_true]at h;rcases h with h|h
  ·exact⟨0,fi _,(eq_of_beq h).symm⟩
  ·refine ar (ih h) λi hi e=>?_;exact⟨i+1,nK hi,e⟩
theorem yt:∀{vn:List Str}{n:Nat},gX vn=true->gX (vn.take n)=true
 |[],_,_=>by rw[ya];rfl
 |_::_,0,_=>rfl
 |x::vn,n+1,h=>by
  refine f9.mpr ⟨?_,yt (av h).2⟩;cases q:(vn.take n).contains x with
  |false=>rfl
  |true=>
   have z:=gY (av h).1;rw[fH.mpr (rt (fH.mp q))]at z;exact nb z
theorem Qk{vs:List V}{n:Nat}:∀{i:Nat}{v:V},rd (vs.map some++aR n none) i=some v->vs[i]?=some v:=by
 induction vs with
 |nil=>intro i v h;rw[L4,uu,we]at h;exact nn h
 |cons u vs ih=>
  intro i v h;cases i with
  |zero=>exact h
  |succ i=>exact ih h
section
variable{d:Nat}{B:aq->Prop}{Z Z':ae}{s s' s₁:aB}{A:bD}{f:Nat}{o:Obj}{fd:FuncData}{l:List cf}{D:List ag}
structure WL(fd:FuncData)(vn:List Str):Prop where
 kind:fd.scope.kind=.function
 gen:fd.scope.isGenerator=false
 cor:fd.scope.isCoroutine=false
 vns:∀i,i<vn.length->(fd.scope.names.lookup (bq vn i)=some .local\/fd.scope.names.lookup (bq vn i)=some .cell)
 vno:∀x,vn.contains x=true->(x==("__debug__":Str))=false/\(x==("__classdict__":Str))=false
 nodup:gX vn=true
 gl:∀x,gv (nf fd.scope) vn x=true->fd.scope.names.lookup x=some .globalImplicit/\(x==("__debug__":Str))=false/\x≠"__name__"/\(x==("super":Str))=false
 cell:∀x,(nf fd.scope).contains x=true->vn.contains x=true->fd.scope.names.lookup x=some .cell
theorem HF{vn:List Str}(h:Bm fd.scope vn=true):WL fd vn:=by
 refine aT (av h) λh h6=>?_;refine aT (av h) λh h5=>?_;refine aT (av h) λh h4=>?_;refine aT (av h) λh h3=>?_;refine aT (av h) λh1 h2=>?_;have v:=λx(hx:x∈vn)=>dU.mp h4 x hx;have g:=λx(hx:(nf fd.scope).contains x=true)=>dU.mp h6 x (fH.mp hx);refine⟨eq_of_beq h1,gY h2,gY h3,λi hi=>?_,λx hx=>?_,h5,λx hx=>?_,λx hx hv=>?_⟩
 ·exact(uk.mp (av (av (v _ (fH.mp (mJ hi)))).1).1).imp eq_of_beq eq_of_beq
 ·have z:=v x (fH.mp hx);exact⟨gY (av (av z).1).2,gY (av z).2⟩
 ·have z:=g x (av hx).1;rw[gY (av hx).2]at z;have y:=av (av z).1;exact⟨eq_of_beq (av y.1).1,gY (av y.1).2,bne_iff_ne.mp y.2,gY (av z).2⟩
 ·have z:=g x hx;rw[hv]at z;exact eq_of_beq z
theorem MS(G:aE B Z s.heap)(F:Iq K₀ f o fd l D){a:aq}{env:Env}{vs:List V}{ys:List ag}{J:aj}(he:env=newEnv fd.scope s.heap.objs.size fd.globals (cellsFrom (s.heap.objs.size+1) fd.scope.names []) (fd.qualname++".<locals>.") (some a) fd.code none fd.builtins)
  (x:InCallC s env.locals (bindL env.kindOf (((pV f).take (pF f).par).zip ys) λ_=>none) env.cells (bindC env.kindOf (((pV f).take (pF f).par).zip ys) λ_=>none) s₁)
  (rs:aN (Fz Z B) s.heap vs ys) (hl:vs.length=(pF f).par) (hJ:J=vs.map some++aR (pF f).loc none) (R:eD A (2*d+2)) :
  Ct (2*d) (A.deeper env) env (nf fd.scope) (pV f) (BW B (ef env)) J Z s₁/\lL env (pV f)/\Af B Z s Z s₁/\∀b,ef env b->s.heap.objs.size<=b:=by
 have S:=HF F.sc;have kd:∀y,env.kindOf y=fd.scope.names.lookup y:=λy=>by rw[he];rfl
 obtain⟨h₁,tk,rfl,hk⟩:=x.done;have f1:Af B Z s Z { s with heap:=h₁,toks:=tk }:=.heap G hk tk;have hloc:env.locals=s.heap.objs.size:=by rw[he];rfl
 have above:∀y c,env.cells.lookup y=some c->s.heap.objs.size<c:=λy c hc=>hloc▸x.above y c (pI hc);have big:∀b,ef env b->s.heap.objs.size<=b:=λb hb=>hb.elim (λe=>dA (e.trans hloc).symm) λq=>q.elim λy hc=>cv (above y b hc);have there:∀b,ef env b->∃o,h₁.get? b=some o:=λb hb=>hb.elim (λe=>e▸x.toInCall.ns.elim λo q=>q.elim λ_ q=>q.elim λ_ q=>⟨o,q.1⟩) λq=>q.elim λy hc=>(x.cell y b hc).elim λo q=>⟨o,q.1⟩
 have G1:aE (BW B (ef env)) Z h₁:=G.block hk big there;have kp:Kp (Fz Z B) s.heap (Fz Z (BW B (ef env))) h₁:=sf hk big;have cellOf:∀i,i<(pV f).length->fd.scope.names.lookup (bq (pV f) i)=some .cell->∃c,env.cells.lookup (bq (pV f) i)=some c:=λi hi q=>by
  refine ue.mp ?_;rw[he];exact Dt (.inl (pI q))
 have K:eH env (nf fd.scope) (pV f) (BW B (ef env)):=by
  refine⟨by rw[he];exact S.kind,by rw[he];exact F.glob,by rw[he];exact F.blt,λy hy=>(kd y).trans (S.gl y hy).1,λy h1 h2=>.inl ((kd y).trans (S.cell y h1 h2)),.inr (.inl rfl),S.nodup,λy c hc=>⟨.inr (.inr ⟨y,hc⟩),?_⟩,λy z c h1 h2=>?_,S.vno,λy hy=>(S.gl y hy).2⟩
  ·rw[hloc];exact iq (above y c hc)
  ·exact name_of_addr x.apart (pI h1) (pI h2)
 have hlen:vs.length<=(pV f).length:=by rw[hl,F.len];exact aL _ _
 refine⟨⟨⟨R.hd,?_,?_⟩,K,G1,⟨?_,_,x.toInCall.ns,λi hi=>?_⟩⟩,λi hi=>?_,f1,big⟩
 ·have:=R.depth;show A.depth+1+4*(2*d+1)+10<=900;exact au [_,_] [] (.ln (.a (.a (.a .v0 .k1) (.m 4 (.a (.m 2 .v1) .k1))) (.k 10)) (.k 900)) 1 [(1,.ln (.a (.a .v0 (.m 4 (.a (.m 2 .v1) (.k 2)))) (.k 10)) (.k 900))] rfl this
 ·have:=R.units;show A.units+3+40*(2*d+1)+100<=9000;exact au [_,_] [] (.ln (.a (.a (.a .v0 (.k 3)) (.m 40 (.a (.m 2 .v1) .k1))) (.k 100)) (.k 9000)) 1 [(1,.ln (.a (.a .v0 (.m 40 (.a (.m 2 .v1) (.k 2)))) (.k 100)) (.k 9000))] rfl this
 ·rw[hJ,bB,aY,dw,hl,F.len]
 ·have held:∀{z:Option ag},(∀y,ys[i]?=some y->i<(pF f).par->z=some y)->jy (Fz Z (BW B (ef env))) h₁ (rd J i) z:=λhz v hv=>by
   rw[hJ]at hv;have hv:=Qk hv;obtain⟨y,hy,ry⟩:=rs.get hv;exact⟨y,hz y hy (hl▸(iR.mp hv).1),ry.mono kp⟩
  have e9:=λy hy(hp:i<(pF f).par)=>Rb (k:=env.kindOf) (m:=λ_=>none) (yt (n:=(pF f).par) S.nodup) (i:=i) (by rw[eW];exact MM.mpr ⟨hp,hi⟩) (show ys[i]?=some y from hy);rcases S.vns i hi with q|q
  ·exact .inl ⟨(kd _).trans q,held λy hy hp=>by
    have z:=(e9 y hy hp).1;rw[zo hp]at z;exact z ((kd _).trans q)⟩
  ·obtain⟨c,hc⟩:=cellOf i hi q;refine .inr ⟨.inl ((kd _).trans q),c,_,hc,x.cell _ c hc,held λy hy hp=>?_⟩;have z:=(e9 y hy hp).2;rw[zo hp]at z;exact z (by rw[kd,q];nofun)
 ·rcases S.vns i hi with q|q
  ·exact .inl ⟨(kd _).trans q,.inl rfl⟩
  ·exact .inr ⟨(kd _).trans q,λa ha=>ha⟩
theorem Wb{v v':V}{y:ag}{Z'':ae}{Q:QV}(G:aE B Z s.heap)(r:VR (Fz Z B) s.heap v y)(wk:Wk v Z v' Z'')(q:Q v' Z''):PE B Z s Q y s:=by
 rcases wk with⟨rfl,hs⟩|⟨a,l,rfl,hc,rfl,hn,hs⟩
 ·exact⟨v',Z'',⟨G.sub hs,.sub hs iU⟩,r.mono (lI hs),q⟩
 ·obtain⟨_,hb,vs,hp,hz,rs⟩:=G.cells _ _ hc;exact⟨.list l,Z'',⟨G.sub hs,.sub hs iU⟩,⟨a,vs,r,⟨hn,hb⟩,hp,hz,rs.mono (lI hs)⟩,q⟩
theorem O2(H:bF cx):∀n,gF (Ph pF n) (2*n):=by
 intro n;induction n with
 |zero=>intro f vs xs Q B Z s A R G r h;exact h.elim
 |succ n ih=>
  intro f vs xs Q B Z s A R G r h;refine ar (bj h) λJ e h=>?_;obtain⟨hle,rfl⟩:=iz e;rcases H.fns f with⟨o,fd,l,D,F⟩|hb
  ·have S:=HF F.sc;have X:=H.X.keeps G.base;have hxl:=r.length;have hpar:((pV f).take (pF f).par).length=(pF f).par:=by rw[eW,F.len];exact jh (aL _ _)
   have hlen:(vs++(pF f).dfl.drop ((pF f).dfl.length+vs.length-(pF f).par)).length=(pF f).par:=by
    rw[bB,hV];exact bE [_,_,_,_,_] [] (.a .v0 .v1) .v2 [(1,.en (.a .v3 .v2) (.a .v4 .v0)),(-1,.en (.a .v1 .v3) .v4)] rfl (aZ (au [_,_,_] [] (.ln .v0 (.a .v1 .v2)) 1 [(1,.ln .v0 (.a .v2 .v1))] rfl hle.2)) (aZ (au [_,_,_,_] [] (.ln .v0 .v1) 1 [(1,.ln .v2 .v3),(1,.en (.a .v0 .v3) (.a .v1 .v2))] rfl hle.1 (aZ (au [_,_,_] [] (.ln .v0 (.a .v1 .v2)) 1 [(1,.ln .v0 (.a .v2 .v1))] rfl hle.2))))
   have hdd:(D.length<=1\/xs.length=((pV f).take (pF f).par).length)/\((pV f).take (pF f).par).length<=xs.length+D.length/\aN (Fz Z B) s.heap (vs++(pF f).dfl.drop ((pF f).dfl.length+vs.length-(pF f).par)) (xs++D.drop (D.length+xs.length-((pV f).take (pF f).par).length)):=by
    rw[hpar,hxl];rcases F.dv with⟨h1,h2⟩|h2
    ·have hDl:D.length=(pF f).dfl.length:=(h2 (λ_=>True) s.heap).length;rw[hDl];exact⟨.inl (hDl▸h1),hle.2,r.append ((h2 _ _).drop _)⟩
    ·rw[h2]at hle ⊢;have e:vs.length=(pF f).par:=cX hle.1 hle.2;refine⟨.inr e,e▸aL _ _,?_⟩;rw[e,uy,gP,show D.length+(pF f).par-(pF f).par=D.length from BP ..,kX,gP];exact r
   have main:∀ds:Option (Array ag),(ds.getD #[]).toList=D->(∀Q:Option (Array ag)->aB->Prop,Q ds s->wpAny Md A.in1 (seqItems? fd.defaults) Q aw s)->codeAny Md A (.call (.ref (fa f)) ⟨xs,[]⟩) (wants (PE B Z s Q) aw) s:=λds hds hq=>by
    refine codeAny_call_function R.lim (X _ _ F.get) F.data S.cor S.gen F.body (codeRec_of X F.code) ?_;refine qC (Nz F.p1 F.p2 F.p3 F.p4 F.p5 hq hds (yt S.nodup) hdd.1 (by rw[hpar];exact F.dn) (by rw[hpar,hxl];exact hle.1) hdd.2.1 ?_);rw[F.clo];refine qC (wpAny_newFunctionEnv_cells S.kind (λp hp=>?_) λenv he s₁ x=>?_)
    ·have hm:=fH.mpr (rt (Cf (show(p.1,p.2)∈_ from hp)).1);have:∃i,i<(pV f).length/\bq (pV f) i=p.1:=Vn hm;refine ar this λi hi e=>?_;rw[<-e];exact(S.vns i hi).imp id λq=>⟨q,Dt (.inl (pI q))⟩
    ·obtain⟨c,Fe,f1,big⟩:=MS (d:=n) G F he x hdd.2.2 hlen rfl R;rw[dy]at c;have hf:e7 (ef env) B Z s:=e7.size G big;refine⟨H.nolimit.keeps f1.g.base,codeAny_func ?_⟩;rw[<-F.tree];refine jl (GU H ih (pF f).body sx l c Fe F.ok h) (λfl s' p=>?_) λ_ _ z=>z.elim;obtain⟨o',J',Z',p,e,v',Z'',wk,q⟩:=p;have f2:Af B Z s Z' s':=⟨p.g.unblock,f1.x.fresh hf p.x⟩
     have fin:∀{y:ag},VR (Fz Z' (BW B (ef env))) s'.heap (jc o') y->PE B Z s Q y s':=λrv=>PE.lift f2 (Wb f2.g (rv.mono yA) wk q);cases o' with
     |next=>subst e;exact fin (y:=.none) rfl
     |ret v=>obtain⟨y,rfl,ry⟩:=e;exact fin ry
   rcases F.dfl with⟨e1,e2⟩|⟨T,oT,m,e1,e2,e3⟩
   ·exact main none (by rw[e2];rfl) λQ q=>by rw[e1];exact a9 q
   ·exact main (some D.toArray) rfl λQ q=>by rw[e1];exact ux (X _ _ e2) e3 q
  ·rw[hb]at h;exact h.elim
end
end
section
set_option maxRecDepth 100000
open PySem PySem.W PyProof.Rows
noncomputable def XE(n:Str):Bool:=n==("_wall":Str)
noncomputable def uP:List cf->List (List cf)
 |[]=>[]
 |s::r=>match s with
  |.FunctionDef n _ b _ _ _ _ _ _ _=>(match XE n with
   |true=>uP r
   |false=>b::uP r)
  |_=>uP r
noncomputable def uJ:List cf->List (List cf)
 |[]=>[]
 |s::r=>match s with
  |.FunctionDef _ _ b _ _ _ _ _ _ _=>b::uJ r
  |_=>uJ r
noncomputable def rZ:List cf->List (List cf)
 |[]=>[]
 |s::r=>match s with
  |.ClassDef n _ _ b _ _ _ _ _ _ _=>(match tK.contains n with
   |true=>(match n==("Hunk":Str) with
    |true=>(uJ b).take 1++rZ r
    |false=>uJ b++rZ r)
   |false=>rZ r)
  |_=>rZ r
noncomputable def g6:List (List cf):=uP cz.main.body++rZ cz.main.body
noncomputable def iH:Nat->Nat->List Nat
 |0,_=>[]
 |n+1,i=>i::iH n (i+1)
noncomputable def t6(f:Nat):List cf:=mY (pV f) sx (pF f).body (cS g6 f [])
theorem OA:(iH 55 0).map t6=g6:=by kernel_rfl
end
section
set_option maxRecDepth 100000
open PySem PySem.W PyProof.Rows
noncomputable def mU(h:Heap):Nat->Nat->Frag
 |0,_=>[]
 |n+1,a=>match h.get? a with
  |some o=>(a,o)::mU h n (a+1)
  |none=>mU h n (a+1)
noncomputable def IA(o:Obj):Option FuncData:=match o.data with
 |.func fd=>some fd
 |_=>none
noncomputable def Bb(K:Frag)(f:Nat):Option FuncData:=(K.lookup (fa f)).bind IA
noncomputable def qF(b:FuncBody):List cf:=match b with
 |.stmts l=>l
 |_=>[]
noncomputable def H9(b:FuncBody):Bool:=match b with
 |.stmts _=>true
 |_=>false
noncomputable def lN(K:Frag)(f:Nat):List cf:=match Bb K f with
 |some fd=>qF fd.body
 |none=>[]
noncomputable def A1(K:Frag)(v:ag):Option (List ag):=match v with
 |.ref T=>(match K.lookup T with
  |some oT=>(match oT.data with
   |.seq a _=>some a.toList
   |_=>none)
  |none=>none)
 |_=>none
noncomputable def zE(v:ag):Bool:=match v with
 |.none=>true
 |_=>false
noncomputable def wJ(K:Frag)(f:Nat)(v:ag):Bool:=match zE v with
 |true=>(pF f).dfl.isEmpty
 |false=>(match A1 K v with
  |none=>false
  |some D=>decide (D.length<=(pF f).par)&&(match (pF f).dfl with
   |[]=>true
   |d::r=>r.isEmpty&&(match eK d with
    |none=>false
    |some i=>(match D with
     |[]=>false
     |x::D=>D.isEmpty&&x.isInt i))))
noncomputable def Bc(K:Frag)(f:Nat):Bool:=match Bb K f with
 |some fd=>H9 fd.body&&mV (nf fd.scope) (pV f) sx (pF f).body (qF fd.body)&&Bm fd.scope (pV f)&&fd.globals==mainGlobals&&fd.builtins==builtinsNs&&fd.closure.isEmpty&&codeIn K fd.code fd.qualname &&
   fd.params.posonlyargs.isEmpty&&fd.params.kwonlyargs.isEmpty&&fd.params.vararg.isNone&&fd.params.kwarg.isNone&&fd.params.args.map (·.arg)==(pV f).take (pF f).par&&(pV f).length==(pF f).par+(pF f).loc&&wJ K f fd.defaults
 |none=>false
noncomputable def Iy(K:Frag)(c:Nat):Bool:=
 plainGet K (ca c) ""&&hasDictIn K (ca c)&&plainOver K (ca c)&&findIn K (.ref (ca c)) "__setattr__"==some (some (.builtin "object.__setattr__"))&&(dH c).all (λa=>findIn K (.ref (ca c)) (an a)==some none) &&
 (dH c).all (λa=>(dH c).all λb=>a==b||an a != an b)&&(cS tu c []).all (λp=>findIn K (.ref (ca c)) (an p.1)==some (some (.ref (fa p.2)))&&isFn K (.ref (fa p.2))&&(dH c).all λa=>an a != an p.1) &&
 makesIn K (ca c)&&findIn K (.ref (ca c)) "__init__"==some (some (.ref (fa (initF c))))&&isFn K (.ref (fa (initF c)))&&keepIn K (.ref (ca c))&&decide ((dH c).length<=100)
noncomputable def G7(o:Option (Option ag)):Option (List UInt8×Tok):=match o with
 |some o=>(match o with
  |some y=>(match y with
   |.bytes a t=>some (a.toList,t)
   |_=>none)
  |none=>none)
 |none=>none
noncomputable def ID(K:Frag)(g:Nat):Bool:=match (qA g).bind fW with
 |some b=>(match G7 (nsIn K mainGlobals (cS qM g "")) with
  |some p=>decide (b.length<=aJ)&&p.1==b
  |none=>false)
 |none=>false
noncomputable def Wf:List Str:=["len","isinstance","int","max","min","sum","bytes","str","range","enumerate","zip"]
noncomputable def tO(K:Frag):Bool:=
 (K.lookup sysModules).isSome&&(iH 26 0).all (λf=>nsIn K mainGlobals (cS wO f "")==some (some (.ref (fa f)))&&keepIn K (.ref (fa f)))&&tu.all (λl=>l.all λp=>keepIn K (.ref (fa p.2))) &&
 (iH 5 0).all (λc=>nsIn K mainGlobals (cS tK c "")==some (some (.ref (ca c)))&&Iy K c)&&(iH 4 0).all (ID K)&&Wf.all (λx=>nsIn K mainGlobals x==some none&&x != "__name__")&&(iH 55 0).all (Bc K)
theorem Pn(h:Heap):∀(n a:Nat),(mU h n a).In h:=by
 intro n;induction n with
 |zero=>intro a b o e;exact nn e
 |succ n ih=>
  intro a b o e;rw[mU]at e;cases q:h.get? a with
  |none=>rw[q]at e;exact ih _ b o e
  |some p=>
   rw[q]at e;by_cases hb:b=a
   ·subst hb;rw[show iT b ((b,p)::mU h n (b+1))=some p from by rw[fA,beq_self_eq_true]]at e
    (injection e with e;subst e);exact q
   ·rw[show iT b ((a,p)::mU h n (a+1))=iT b (mU h n (a+1)) from by rw[fA,beq_eq_false_iff_ne.mpr hb]]at e;exact ih _ b o e
theorem GK:∀{n i k:Nat},k<n->i+k∈iH n i
 |0,_,_,h=>absurd h (dM _)
 |n+1,i,0,_=>.head _
 |n+1,i,k+1,h=>by
  exact .tail _ (cH i k▸GK (i:=i+1) (ff h))
theorem vQ{n k:Nat}{p:Nat->Bool}(h:(iH n 0).all p=true)(hk:k<n):p k=true:=dU.mp h k (aU k▸GK hk)
theorem EX{α:Type}{d:α}:∀{l:List α}{n:Nat},n<l.length->cS l n d∈l
 |[],_,h=>absurd h (dM _)
 |_::_,0,_=>.head _
 |_::_,n+1,h=>.tail _ (EX (n:=n) (ff h))
theorem DQ{m f:Nat}:∀{l:List (Nat×Nat)},wx l m=some f->(m,f)∈l:=by
 intro l;induction l with
 |nil=>intro h;exact nn h
 |cons p l ih=>
  intro h;rw[wx]at h;by_cases q:p.1=m
  ·rw[if_pos q]at h;(injection h with h;subst h);rw[<-q];exact .head _
  ·rw[if_neg q]at h;exact .tail _ (ih h)
theorem pO{α:Type}{l:List α}(h:l.isEmpty=true):l=[]:=List.isEmpty_iff.mp h
theorem Dc{α:Type}{o:Option α}(h:o.isNone=true):o=none:=Bu.mp h
theorem Mz{v:ag}(h:zE v=true):v=.none:=by cases v<;>first|rfl|exact bn h
theorem NY{v:ag}{i:Int}(h:v.isInt i=true):∃t,v=.int i t:=by
 cases v<;>first|exact bn h|exact⟨_,by rw[show _ = i from eq_of_beq h]⟩
set_option tactic.hygienic true in
theorem Qz{K:Frag}{v:ag}{D:List ag}(h:A1 K v=some D):∃T oT n,v=.ref T/\K.lookup T=some oT/\oT.data=.seq D.toArray n:=by
 cases v<;>try (exact nn h;done)
 rename_i T
 replace h:(match K.lookup T with|some oT=>(match oT.data with|.seq a _=>some a.toList|_=>none)|none=>none)=some D:=h;cases q:K.lookup T with
 |none=>rw[q]at h;exact nn h
 |some oT=>
  rw[q]at h;obtain⟨cls,dict,data,slots⟩:=oT;cases data<;>try (exact nn h;done)
  injection h with h;subst h
  exact⟨T,_,_,rfl,q,rfl⟩
theorem Vz{K:Frag}{f:Nat}{y:ag}(hdf:wJ K f y=true):∃D,((y=.none/\D=[])\/∃T oT n,y=.ref T/\K.lookup T=some oT/\oT.data=.seq D.toArray n)/\D.length<=(pF f).par/\((D.length<=1/\∀fz h,aN fz h (pF f).dfl D)\/(pF f).dfl=[]):=by
  unfold wJ at hdf;cases hn:zE y with
  |true=>rw[hn]at hdf;exact⟨[],.inl ⟨Mz hn,rfl⟩,bJ _,.inr (pO hdf)⟩
  |false=>
   rw[hn]at hdf;cases hq:A1 K y with
   |none=>rw[hq]at hdf;exact bn hdf
   |some D=>
    rw[hq]at hdf;refine aT (av hdf) λd1 d2=>?_;refine⟨D,.inr (Qz hq),of_decide_eq_true d1,?_⟩;cases hl:(pF f).dfl with
    |nil=>exact .inr rfl
    |cons d r=>
     rw[hl]at d2;refine aT (av d2) λd3 d4=>?_;cases pO d3
     cases hi:eK d with
     |none=>rw[hi]at d4;exact bn d4
     |some i=>
      rw[hi]at d4;cases D with
      |nil=>exact bn d4
      |cons x D=>
       refine aT (av d4) λd5 d6=>?_;cases pO d5
       obtain⟨t,rfl⟩:=NY d6;obtain rfl:=eY hi;exact .inl ⟨aC _,λfz h=>⟨_,[],rfl,⟨t,rfl⟩,rfl⟩⟩
theorem Pj{o:Obj}{fd:FuncData}(hd:IA o=some fd):o.data=.func fd:=by
 obtain⟨cls,dict,data,slots⟩:=o;cases data<;>first|exact nn hd|exact congrArg Data.func (di hd)
theorem Pg{b:FuncBody}(h:H9 b=true):b=.stmts (qF b):=by cases b<;>first|rfl|exact bn h
theorem VE{K:Frag}{f:Nat}(h:Bc K f=true)(hb:t6 f=cS g6 f [])(hs:lN K f=cS g6 f []):Ir K f:=by
 unfold Bc at h;unfold lN at hs;cases q:Bb K f with
 |none=>rw[q]at h;exact bn h
 |some fd=>
  rw[q]at h hs;refine ar (a8 q) λo ho hd=>?_;replace h:(_&&wJ K f fd.defaults)=true:=h;replace hs:qF fd.body=cS g6 f []:=hs;have c0:=av h;have c13:=av c0.1;have c12:=av c13.1;have c11:=av c12.1;have c10:=av c11.1;have c9:=av c10.1;have c8:=av c9.1;have c7:=av c8.1;have c6:=av c7.1;have c5:=av c6.1;have c4:=av c5.1;have c3:=av c4.1;have c2:=av c3.1;have hbody:fd.body=.stmts (qF fd.body):=Pg c2.1;refine cm (Vz c0.2) λD dd1 dd2 dd3=>?_;exact⟨o,fd,qF fd.body,D,ho,Pj hd,hbody,by rw[hs];exact hb,c2.2,c3.2,eq_of_beq c4.2,eq_of_beq c5.2,pO c6.2,c7.2,pO c8.2,pO c9.2,Dc c10.2,Dc c11.2,eq_of_beq c12.2,eq_of_beq c13.2,dd1,dd2,dd3⟩
theorem yQ{a b:Str}(h:(a != b)=true):a≠b:=bne_iff_ne.mp h
theorem TN{K:Frag}{c:Nat}(h:Iy K c=true):Aq K c:=by
 have c12:=av h;have c11:=av c12.1;have c10:=av c11.1;have c9:=av c10.1;have c8:=av c9.1;have c7:=av c8.1;have c6:=av c7.1;have c5:=av c6.1;have c4:=av c5.1;have c3:=av c4.1;have c2:=av c3.1;have mem:∀{a},(dH c).contains a=true->a∈dH c:=fH.mp;refine⟨c2.1,c2.2,c3.2,eq_of_beq c4.2,λa ha=>eq_of_beq (dU.mp c5.2 a (mem ha)),λa b ha hb e=>?_,λm f hm=>?_,c8.2,eq_of_beq c9.2,c10.2,c11.2,of_decide_eq_true c12.2⟩
 ·rcases uk.mp (dU.mp (dU.mp c6.2 a (mem ha)) b (mem hb)) with q|q
  ·exact eq_of_beq q
  ·exact absurd e (yQ q)
 ·refine aT (av (dU.mp c7.2 _ (DQ hm))) λq q3=>?_;refine aT (av q) λq1 q2=>?_;exact⟨eq_of_beq q1,q2,λa ha=>yQ (dU.mp q3 a (mem ha))⟩
theorem WG(f:Nat)(hf:f<55):t6 f=cS g6 f []:=by
 have key:∀(n i f:Nat)(l:List (List cf)),(iH n i).map t6=l->f<n->t6 (i+f)=cS l f []:=by
  intro n;induction n with
  |zero=>intro i f l _ h;exact absurd h (dM _)
  |succ n ih=>
   intro i f l e h;cases l with
   |nil=>exact nc e
   |cons x l=>
    refine aT (mA e) λe1 e2=>?_;cases f with
    |zero=>exact e1
    |succ f=>rw[<-cH];exact ih (i+1) f l e2 (ff h)
 have:=key 55 0 f g6 OA hf;rw[aU]at this;exact this
theorem Sx{K:Frag}:∀(n i f:Nat)(l:List (List cf)),(iH n i).map (lN K)=l->f<n->lN K (i+f)=cS l f []:=by
 intro n;induction n with
 |zero=>intro i f l _ h;exact absurd h (dM _)
 |succ n ih=>
  intro i f l e h;cases l with
  |nil=>exact nc e
  |cons x l=>
   refine aT (mA e) λe1 e2=>?_;cases f with
   |zero=>exact e1
   |succ f=>rw[<-cH];exact ih (i+1) f l e2 (ff h)
theorem UE{w:iA}{h:Heap}{mg mb:Str->Option ag}{K:Frag}(X:K.In h)(hK:tO K=true)(hb:(iH 55 0).map (lN K)=g6)(hg:h.Ns mainGlobals mg)(hbl:h.Ns builtinsNs mb)(hlim:h.NoLimit)(hboot:∀x:Str,x≠"__name__"->mb x=bootBuiltins x):bF ⟨w,h,mg,mb,K⟩:=by
 refine aT (av hK) λhK h7=>?_;refine aT (av hK) λhK h6=>?_;refine aT (av hK) λhK h5=>?_;refine aT (av hK) λhK h4=>?_;refine aT (av hK) λhK h3=>?_;refine aT (av hK) λh1 h2=>?_;refine⟨X,λe=>?_,λf hf=>?_,λk m f hm=>?_,λk hk=>?_,λk hk=>?_,λg hg=>?_,λx hx=>?_,hg,hbl,hlim,hboot,λf=>?_⟩
 ·refine bA (ue.mp h1) λo ho=>?_;rw[X _ _ ho]at e;exact sn e
 ·have z:=av (vQ h2 hf);exact⟨eq_of_beq z.1,z.2⟩
 ·refine dU.mp (dU.mp h3 (cS tu k []) ?_) _ (DQ hm);rcases nN k tu.length with q|q
  ·exact EX q
  ·exfalso;obtain⟨j,rfl⟩:=xA q;exact nn hm
 ·have z:=av (vQ h4 hk);exact⟨eq_of_beq z.1,TN z.2⟩
 ·obtain⟨j,rfl⟩:=xA (x5 hk);exact⟨rfl,λm=>rfl⟩
 ·have z:=vQ h5 hg;unfold ID at z;cases q1:(qA g).bind fW with
  |none=>rw[q1]at z;exact bn z
  |some b=>
   rw[q1]at z;cases q2:G7 (nsIn K mainGlobals (cS qM g "")) with
   |none=>rw[q2]at z;exact bn z
   |some p=>
    rw[q2]at z;refine ar (a8 q1) λv q3 q4=>?_;refine aT (av z) λz1 z2=>?_;refine⟨b,p.2,by rw[q3,gW q4],of_decide_eq_true z1,?_⟩;generalize nsIn K mainGlobals (cS qM g "")=o at q2
    rcases o with _|_|y
    ·exact nn q2
    ·exact nn q2
    ·cases y<;>try (exact nn q2;done)
     injection q2 with q2;subst q2
     rw[<-show _ = b from eq_of_beq z2,J2]
 ·have z:=av (dU.mp h6 x hx);exact⟨eq_of_beq z.1,yQ z.2⟩
 ·rcases nN f 55 with q|q
  ·have z:=Sx 55 0 f g6 hb q;rw[aU]at z;exact .inl (VE (vQ h7 q) (WG f q) z)
  ·obtain⟨j,rfl⟩:=xA q;exact .inr rfl
end
section
set_option maxRecDepth 100000
set_option maxHeartbeats 8000000
noncomputable section
open PySem PySem.W PyProof.Rows
open PySem.W.Fast
def tU:Option ag:=some (.ref 6)
def tP(p:Program)(w:iA):Nat->SharedT->Thread->Option SharedT
 |0,_,_=>none
 |n+1,s,t=>match through t with
  |true=>some s
  |false=>match tw6613529449190102663 11 tU t with
   |false=>none
   |true=>match tw10156331382660048174 (tw11892475500146522536 tw14364793385576792824) p w s t with
    |some (s',t')=>tP p w n s' t'
    |none=>none
theorem Qu{p:Program}{w:iA}:∀{n:Nat}{s s':SharedT}{t:Thread},tP p w n s t=some s'->topRun treeTable p w 11 tU n s.abs t=some s'.abs:=λ{n}=>@(ni (λ{_ _ _}h=>nn h) (λn ih{s s' t}h=>by
  unfold tP at h;unfold topRun;cases ht:through t with
  |true=>rw[ht]at h;exact congrArg (λx:Option SharedT=>x.map (·.abs)) h
  |false=>
   rw[ht]at h;rw[<-te6613529449190102663,<-te10156331382660048174,<-te11892475500146522536,<-te14364793385576792824]at h;cases hk:stepOk 11 tU t with
   |false=>rw[hk]at h;exact nn h
   |true=>
    rw[hk]at h;cases hs:stepT (denote treeTable) p w s t with
    |none=>rw[hs]at h;exact nn h
    |some r=>
     obtain⟨s2,t2⟩:=r;rw[hs]at h;rw[stepT_spec hs];exact ih h) n)
def pw:Program:=fu
def mO:List Str:=[("_wall":Str),("GitError":Str),("BadState":Str),("lines_of":Str),("BLANKS":Str),("Change":Str),("LineNumbers":Str),("LineSheet":Str),("line_further":Str),("line_rising":Str),("myers":Str),("patience":Str),("histogram":Str),("by":Str),("distance":Str),("LineGaps":Str),("slid":Str),("KEPT":Str),("OUT":Str),("IN":Str),("Hunk":Str),("heading_of":Str),("hunk_around":Str),("hunks_of":Str),("_law_lines":Str),("_law_once":Str),("_law_other":Str),("_law_fewest":Str),("_law_leads":Str),("_law_counts":Str),("_law_places":Str),("_law_ways_right":Str),("_law_front":Str),("_law_runs":Str),("_law_hunk_right":Str),("_law_hunks_right":Str),("_law_moved_right":Str)]
def vw:Program:=view fu [41]
abbrev qO:List Str:=importedModules fu.main.body
def V2(P:Params):BT:=((iK P).objs.toList.foldl (λ(x:BT×Nat)o=>(x.1.ins x.2 o,x.2+1)) (BT.nil,0)).1
def s0(w:iA)(os:OsState):SharedT:=⟨V2 w.params,11,(iK w.params).life,#[],uE,uH,os⟩
theorem UI(w:iA)(os:OsState):(s0 w os).abs=⟨iK w.params,#[],uE,uH,os⟩:=by kernel_rfl
def Xt(s:aB):Bool:=xlAt vw [] s&&recOk (RowW.records Br.row.toRowW) s
def AG(w:iA)(S:aB):Bool×Bool:=(staticsOk qO (iK w.params) S.heap&&namesBound fu S.heap&&gensDone S&&laidKept (iK w.params) S.heap,Xt S)
set_option profiler true
def KQ(S:aB):Frag:=mU S.heap S.heap.objs.size 0
theorem VT:∀w os,(tP fu w 7000 (s0 w os) (topStub fu)).map (λS=>(AG w S.abs,openSeen vw mO qO Xt true S.abs,tO (KQ S.abs),(iH 55 0).map (lN (KQ S.abs))))=some ((true,true),openGood vw mO,true,g6):=by
 intro w os;kernel_rfl
theorem ws:Br.wellSaid=true:=by
 rw[te9446332074065402090];kernel_rfl
end
end
section
set_option maxRecDepth 100000
set_option maxHeartbeats 8000000
noncomputable section
open PySem PySem.W PyProof.Rows
theorem MQ:∀P:Params,((iK P).isNs mainGlobals&&(Eh []:Array GenState).size==0)=true/\(iK P).objs.size=11/\(iK P).nsMap mainGlobals "__annotations__"=tU:=λP=>⟨by kernel_rfl,by kernel_rfl,by kernel_rfl⟩
theorem XG:opening fu=plainProg fu.main.scope.names:=by kernel_rfl
theorem XH:∀s,fenceModules? fu s=some s:=by intro s;kernel_rfl
theorem bo(w:iA):∃oo,fencedOpening treeTable fu w 7000=some ⟨iK w.params,Eh [],uE,uH,oo⟩:=by
 obtain⟨s,hs,e⟩:=JJ.mp (boot_open (p:=fu) (N:=7000) XG (by decide) XH w);obtain⟨hh,gg,dd,tt,oo⟩:=s;obtain⟨e1,e⟩:=nO e;obtain⟨e2,e⟩:=nO e;obtain⟨e3,e4⟩:=nO e
 dsimp only at e1 e2 e3 e4
 subst e1 e2 e3 e4;exact⟨oo,hs⟩
theorem Qv(w:iA)(oo:OsState):∃S,tP fu w 7000 (s0 w oo) (topStub fu)=some S/\(AG w S.abs,openSeen vw mO qO Xt true S.abs,tO (KQ S.abs),(iH 55 0).map (lN (KQ S.abs)))=((true,true),openGood vw mO,true,g6):=
 JJ.mp (VT w oo)
theorem Qy{w:iA}{S:aB}{a b:Bool}(e:AG w S=(a,b)):(staticsOk qO (iK w.params) S.heap&&namesBound fu S.heap&&gensDone S&&laidKept (iK w.params) S.heap)=a:=(nO e).1
theorem QR{w:iA}{oo:OsState}{S:SharedT}(hr:topRun treeTable fu w 11 tU 7000 ⟨iK w.params,#[],uE,uH,oo⟩ (topStub fu)=some S.abs)
  (hq:(staticsOk qO (iK w.params) S.abs.heap&&namesBound fu S.abs.heap&&gensDone S.abs&&laidKept (iK w.params) S.abs.heap)=true):topFrom treeTable fu w 7000 ⟨iK w.params,Eh [],uE,uH,oo⟩=some S.abs:=by
 obtain⟨b1,b2,b3⟩:=MQ w.params;unfold topFrom
 dsimp only
 rw[b1,b2,b3]
 dsimp only
 rw[hr,Ca,hq]
def Yf(s:aB):Bool×List (List cf):=(tO (KQ s),(iH 55 0).map (lN (KQ s)))
theorem Uo(w:iA):(openEnds treeTable fu w 7000).map (λs=>(openSeen vw mO qO Xt true s,Yf s))=some (openGood vw mO,(true,g6)):=by
 obtain⟨oo,hs⟩:=bo w;obtain⟨S,hS,e⟩:=Qv w oo;have hr:=Qu hS;rw[UI]at hr;obtain⟨q1,q2⟩:=nO e;unfold openEnds;rw[hs,Ca,QR hr (Qy q1),Option.map_some];exact congrArg some q2
theorem left:LeftO fu vw mO Xt Yf (λ_=>(true,g6)) 7000:=Uo
def YP(_:iA)(h:Heap):Prop:=∃K:Frag,K.In h/\tO K=true/\(iH 55 0).map (lN K)=g6
theorem Wd(w:iA)(s:aB)(e:Yf s=(true,g6)):YP w s.heap:=⟨KQ s,Pn _ _ _,(nO e).1,(nO e).2⟩
theorem Q2(w:iA)(h h':Heap)(y:YP w h)(k:∀b o,h.get? b=some o->h'.get? b=some o):YP w h':=y.elim λK q=>⟨K,q.1.keeps k,q.2⟩
end
end
section
set_option maxRecDepth 100000
open PySem PySem.W PyProof.Rows
def AN:Prop:=∀ns:List Int,ns.length<=63->Ph pF 12 25 [.list (ns.map .int)] (λ_=>none) λv _=>v=.bool true
theorem Pw{fz:aq->Prop}{h:Heap}:∀{vs:List ag}{ns:List Int},IntsAre vs ns->aN fz h (ns.map .int) vs:=by
 intro vs ns hi;induction hi with
 |nil=>rfl
 |cons n t _ ih=>exact⟨_,_,rfl,⟨t,rfl⟩,ih⟩
theorem TQ(L:AN)(H:bF cx):tR cx:=by
 intro s l ns vs hh hz hp hi;have G:aE (λ_=>False) (λ_=>none) s.heap:=⟨λa o e=>hh▸e,λa m e=>(nn e),λa e=>e.elim⟩
 have R:eD callerA (2*12):=⟨rfl,by decide,by decide⟩
 have hv:aN (Fz (λ_=>none) λ_=>False) s.heap [.list (ns.map .int)] [.ref l]:=⟨_,[],rfl,⟨l,vs,rfl,⟨rfl,id⟩,hh▸hp,by rw[aY];exact ai hz (by decide),Pw hi⟩,rfl⟩
 refine codeAny_mono (O2 H 12 25 _ _ _ _ _ s callerA R G hv (L ns hz)) λr s' hr=>?_
 ·rcases r with e|(_|_|_|v)
  ·exact hr.elim
  ·exact hr.elim
  ·exact hr.elim
  ·exact hr.elim
  ·obtain⟨u,Z',a,rv,rfl⟩:=hr;exact⟨rv,λb o e=>(a.x.keep b o (hh▸e) rfl λq=>q).1,a.x.gens,a.x.os⟩
theorem N0:∀{xs:List WData},Lg [] xs .int=true->∃ns:List Int,xs=ns.map .int:=by
 intro xs;induction xs with
 |nil=>intro _;exact⟨[],rfl⟩
 |cons x xs ih=>
  intro h;rw[Lg]at h;refine aT (av h) λh1 h2=>?_;obtain⟨i,rfl⟩:=hasW_int h1;obtain⟨ns,rfl⟩:=ih h2;exact⟨i::ns,rfl⟩
theorem OQ{P:Params}{h:Heap}{v:ag}{xs:List WData}(w:Well P h v (.list xs)):∃a vs,v=.ref a/\h.get? a=some { cls:=.type "list",data:=.seq vs.toArray }/\WellAll P h vs xs:=by
 cases w with
 |list a b=>exact⟨_,_,rfl,a,b⟩
theorem Eg{P:Params}{h:Heap}{vs:List ag}{d:WData}{ds:List WData}(w:WellAll P h vs (d::ds)):∃v vs',vs=v::vs'/\Well P h v d/\WellAll P h vs' ds:=by
 cases w with
 |cons a b=>exact⟨_,_,rfl,a,b⟩
theorem Fi{P:Params}{h:Heap}{vs:List ag}(w:WellAll P h vs []):vs=[]:=by
 cases w;rfl
theorem QY{P:Params}{h:Heap}{v:ag}{i:Int}(w:Well P h v (.int i)):∃t,v=.int i t:=by
 cases w;exact⟨_,rfl⟩
theorem OP{P:Params}{h:Heap}:∀{ns:List Int}{vs:List ag},WellAll P h vs (ns.map .int)->IntsAre vs ns:=λ{ns}=>@(li (λ{_}w=>by rw[Fi w];exact .nil) (λn ns ih{_}w=>cp (Eg w) λv vs' e a b=>(QY a).elim λt et=>by rw[e,et];exact .cons n t (ih b)) ns)
theorem SN(args ds:List WData):(WShape.has [] (.bool true) .bool&&(WTm.eq .res (.lit (.bool true))).holds [] { args:=args,res:=some (.bool true),after:=ds })=true:=by
 kernel_rfl
theorem SO(ns:List Int)(hpr:(WTm.and (.not (.lt (.lit (.int 63)) (.len (.arg 0)))) (.lit (.bool true))).holds [] { args:=[.list (ns.map .int)] }=true):ns.length<=63:=by
 have key:∀b:Bool,(WTm.and (.not (WTm.var 0)) (.lit (.bool true))).holds [] { args:=[.list (ns.map .int)],vars:=[.bool b] }=true->b=false:=λb=>Ei (λ_=>rfl) (λh=>bn h) b;have z:=of_decide_eq_false (key (decide ((63:Int)<((ns.map WData.int).length:Nat))) hpr);rw[aY]at z;exact gB.1 (jM.1 z)
set_option tactic.hygienic true in
theorem Yv(L:AN):Br.Holds:=by
 refine holds_law ws λsaid=>holds_open (q:=vw) (loose:=mO) (Xt:=Xt) (XP:=XL vw []) (Yf:=Yf) (Ya:=λ_=>(true,g6)) (YP:=YP) (N:=7000) left Wd Q2 (λs e=>xl_of s (f9.mp e).1) XL.keeps (by rfl) (by rfl) (by rfl) (λs e=>recFacts_of (f9.mp e).2) (by rfl) said (by decide +kernel) ⟨rfl,rfl,rfl,rfl,rfl,by decide +kernel⟩ ?hw ?call
 case hw=>w_witness2
 case call=>
  intro w s₀ s₁ mg mb G Y a o pm cd doc dV kV ho hd hcd hD hmg hg args vals as hpre hlay hrd hwl hlo;refine aT (pre_splitW hpre) λhsh hpr=>?_;obtain⟨d,rest,rfl,hd1,hd2⟩:=hasAllW_cons hsh;obtain rfl:=hasAllW_nil hd2;obtain⟨xs,rfl,hxs⟩:=hasW_list hd1;obtain⟨ns,rfl⟩:=N0 hxs;obtain⟨K,X,hK,hb⟩:=Y;have T:=topRead_of G.T;have P:bF ⟨w,s₁.heap,mg,mb,K⟩:=UE X hK hb T.g T.b T.nolimit T.builtins;have ha:a=fa 25:=by
   have h1:=mg_of X T.g (P.fn 25 (by decide)).1;have h2:mg ("law":Str)=some (.ref a):=hmg;have h3:mg ("law":Str)=some (.ref (fa 25)):=h1;exact Value.ref.inj (di (h2.symm.trans h3))
  have hlen:ns.length<=63:=SO ns hpr;refine cp (Eg hwl) λv1 vs1 e1 hw1 hw2=>?_;refine cp (OQ hw1) λl vs e2 hl hw=>?_;rw[e1,e2,Fi hw2];have c:=TP (TQ L) _ P s₁ l ns vs rfl hlen ⟨_,hl⟩ (OP hw);rw[ha];refine jl (yB c) (λv s' hv=>?_) λ_ _ e=>e.elim;obtain⟨rfl,hk,hg',hos⟩:=hv;exact⟨.inl ⟨.bool true,.bool true,[],rfl,λcls=>rfl,.bool true,SN _ _,λ_=>⟨Cp,λa h=>nm h⟩⟩,.of_keep hk,hos,.of_eq (hg'.trans hg)⟩
end
section
noncomputable def mK(m:M):Nat:=match m with
 |.list _=>0
 |.attrs _ _=>1
 |.dI _ _=>2
 |.dB _ _=>3
 |.dS _ _=>4
theorem kO{Z:ae}{d g:Nat}{m m':M}(h:Z d=some m)(k:Z g=some m')(n:Nat.beq (mK m) (mK m')=false):d≠g:=λe=>bn (n.symm.trans (by rw[di (h.symm.trans ((congrArg Z e).trans k))];exact Nat.beq_refl _))
section
variable{C:ax}
def jV(C:ax):Prop:=∀f vs Z(Q Q':QV),(∀v Z,Q v Z->Q' v Z)->C f vs Z Q->C f vs Z Q'
def Mo{α β:Type}(t:α->ae->(β->ae->Prop)->Prop):Prop:=∀a Z(Q Q':β->ae->Prop),(∀v Z,Q v Z->Q' v Z)->t a Z Q->t a Z Q'
theorem DT{m:Bool}{l:List V}{Z:ae}{Q Q':QV}(k:∀v Z,Q v Z->Q' v Z)(h:qP m l Z Q):qP m l Z Q':=by
 cases m with
 |false=>exact k _ _ h
 |true=>exact λa e=>k _ _ (h a e)
theorem M7{frz:Bool}{c d:Nat}{r:V}{Z:ae}{Q Q':QV}(k:∀v Z,Q v Z->Q' v Z)(h:lQ frz c d r Z Q):lQ frz c d r Z Q':=a0 h λ_ h=>by
 cases frz with
 |false=>exact k _ _ h
 |true=>exact a0 h λ_ h=>⟨h.1,h.2.1,k _ _ h.2.2⟩
theorem O0{Z:ae}{v:V}{b:BM}{vs:List V}{Q Q':QV}(k:∀v Z,Q v Z->Q' v Z)(h:qY Z v b vs Q):qY Z v b vs Q':=by
 cases b<;>first
  |exact a0 h λ_ h=>a0 h λ_ h=>⟨h.1,k _ _ h.2⟩
  |exact a0 h λ_ h=>a0 h λ_ h=>a0 h λ_ h=>k _ _ h
  |exact a0 h λ_ h=>a0 h λ_ h=>a0 h λ_ h=>⟨h.1,k _ _ h.2⟩
  |exact a0 h λ_ h=>a0 h λ_ h=>k _ _ h
  |exact a0 h λ_ h=>k _ _ h
  |skip
 refine a0 h λp h=>a0 h λq h=>a0 h λi h=>⟨h.1,?_⟩
 cases e:p.2.2 i with
 |none=>rw[e]at h;exact k _ _ h.2
 |some x=>rw[e]at h;exact k _ _ h.2
theorem MV{is:IS}{t:T}{test elt:aj->ae->QV->Prop}(ht:Mo test)(he:Mo elt){J:aj}{Q Q':QV}(k:∀v Z,Q v Z->Q' v Z):∀{n i:Nat}{acc:List V}{Z:ae},g5 is t test elt J Q n i acc Z->g5 is t test elt J Q' n i acc Z:=by
 intro n;induction n with
 |zero=>intro i acc Z h;exact h
 |succ n ih=>
  intro i acc Z h;refine a0 h λr h=>?_;cases r with
  |none=>exact k _ _ h
  |some v=>exact a0 h λJ' h=>ht _ _ _ _ (λb Z' h=>a0 h λb h=>by
    cases b with
    |false=>exact ih h
    |true=>exact⟨h.1,he _ _ _ _ (λx Z h=>ih h) h.2⟩) h
def IV(C:ax)(it:It):Prop:=∀J Z(Q Q':IS->ae->Prop),(∀v Z,Q v Z->Q' v Z)->WI C it J Z Q->WI C it J Z Q'
def WK(C:ax)(es:List E):Prop:=Mo (eh C es)/\∀b,Mo (WB C b es)
theorem eX(M:jV C)(e:E):Mo (WE C e):=
 E.rec (motive_1:=λe=>Mo (WE C e)) (motive_2:=IV C) (motive_3:=WK C)
  (λv J Z Q Q' k h=>k _ _ h) (λi J Z Q Q' k h=>a0 h λ_ h=>k _ _ h) (λg J Z Q Q' k h=>a0 h λ_ h=>k _ _ h)
  (λe a i J Z Q Q' k h=>i _ _ _ _ (λ_ _ h=>a0 h λ_ h=>k _ _ h) h) (λe x i j J Z Q Q' k h=>i _ _ _ _ (λ_ _ h=>j _ _ _ _ (λ_ _ h=>a0 h λ_ h=>k _ _ h) h) h)
  (λe a b i j l J Z Q Q' k h=>i _ _ _ _ (λ_ _ h=>j _ _ _ _ (λ_ _ h=>l _ _ _ _ (λ_ _ h=>a0 h λ_ h=>k _ _ h) h) h) h)
  (λe i J Z Q Q' k h=>i _ _ _ _ (λ_ _ h=>a0 h λ_ h=>k _ _ h) h) (λe i J Z Q Q' k h=>i _ _ _ _ (λ_ _ h=>a0 h λ_ h=>k _ _ h) h)
  (λop a b i j J Z Q Q' k h=>i _ _ _ _ (λ_ _ h=>j _ _ _ _ (λ_ _ h=>a0 h λ_ h=>k _ _ h) h) h)
  (λm es n i j J Z Q Q' k h=>i.1 _ _ _ _ (λ_ _ h=>j _ _ _ _ (λ_ _ h=>a0 h λ_ h=>⟨h.1,h.2.1,h.2.2.1,DT k h.2.2.2⟩) h) h)
  (λop a b i j J Z Q Q' k h=>i _ _ _ _ (λ_ _ h=>j _ _ _ _ (λ_ _ h=>a0 h λ_ h=>k _ _ h) h) h)
  (λb es i J Z Q Q' k h=>i.2 b _ _ _ _ k h) (λe i J Z Q Q' k h=>i _ _ _ _ (λ_ _ h=>a0 h λ_ h=>k _ _ h) h)
  (λc a b i j l J Z Q Q' k h=>i _ _ _ _ (λ_ _ h=>a0 h λt h=>by
   cases t with
   |true=>exact j _ _ _ _ k h
   |false=>exact l _ _ _ _ k h) h)
  (λes i J Z Q Q' k h=>i.1 _ _ _ _ (λ_ _ h=>k _ _ h) h) (λm es i J Z Q Q' k h=>i.1 _ _ _ _ (λ_ _ h=>DT k h) h)
  (λb ks vs i J Z Q Q' k h=>i.1 _ _ _ _ (λ_ _ h=>a0 h λ_ h a e=>k _ _ (h a e)) h) (λf es i J Z Q Q' k h=>i.1 _ _ _ _ (λ_ _ h=>M _ _ _ _ _ k h) h)
  (λfrz c es i J Z Q Q' k h=>i.1 _ _ _ _ (λ_ _ h d e=>M _ _ _ _ _ (λ_ _ h=>M7 k h) (h d e)) h)
  (λe m es i j J Z Q Q' k h=>i _ _ _ _ (λ_ _ h=>a0 h λ_ h=>j.1 _ _ _ _ (λ_ _ h=>M _ _ _ _ _ k h) h) h)
  (λb es i J Z Q Q' k h=>i.1 _ _ _ _ (λ_ _ h=>a0 h λ_ h=>k _ _ h) h)
  (λe b es i j J Z Q Q' k h=>i _ _ _ _ (λ_ _ h=>⟨h.1,j.1 _ _ _ _ (λ_ _ h=>O0 k h) h.2⟩) h)
  (λcaps own t it ifs elt i j l J Z Q Q' k h=>i _ _ _ _ (λ_ _ h=>h.imp λn h=>MV (test:=WB C true ifs) (elt:=WE C elt) (j.2 true) l k h) h)
  (λe i J Z Q Q' k h=>i _ _ _ _ (λ_ _ h=>a0 h λ_ h=>k _ _ h) h) (λes i J Z Q Q' k h=>i.1 _ _ _ _ (λ_ _ h=>a0 h λ_ h=>a0 h λ_ h=>k _ _ h) h)
  (λe i J Z Q Q' k h=>i _ _ _ _ (λ_ _ h=>a0 h λ_ h=>k _ _ h) h) (λa b i j J Z Q Q' k h=>i _ _ _ _ (λ_ _ h=>j _ _ _ _ (λ_ _ h=>a0 h λ_ h=>a0 h λ_ h=>k _ _ h) h) h)
  ⟨λJ Z Q Q' k h=>k _ _ h,λb J Z Q Q' k h=>k _ _ h⟩
  (λe r i j=>⟨λJ Z Q Q' k h=>i _ _ _ _ (λ_ _ h=>j.1 _ _ _ _ (λ_ _ h=>k _ _ h) h) h,λb J Z Q Q' k h=>i _ _ _ _ (λv Z h=>by
   cases r with
   |nil=>exact k _ _ h
   |cons e2 r=>
    refine a0 h λt h=>?_;by_cases q:t=b
    ·rw[if_pos q]at h ⊢;exact j.2 b _ _ _ _ k h
    ·rw[if_neg q]at h ⊢;exact k _ _ h) h⟩) e
def m5(t:aj->ae->QO->Prop):Prop:=∀J Z(Q Q':QO),(∀o J Z,Q o J Z->Q' o J Z)->t J Z Q->t J Z Q'
theorem Dk{Z:ae}{v x:V}{a:bG}{Q Q':ae->Prop}(k:∀Z,Q Z->Q' Z)(h:qE Z v a x Q):qE Z v a x Q':=a0 h λ_ h=>a0 h λ_ h=>⟨h.1,h.2.1,h.2.2.1,k _ h.2.2.2⟩
theorem CY{Z:ae}{v x y:V}{Q Q':ae->Prop}(k:∀Z,Q Z->Q' Z)(h:jx Z v x y Q):jx Z v x y Q':=a0 h λ_ h=>a0 h λm h=>by
 cases m with
 |list l=>exact a0 h λi h=>h.imp (λh=>⟨h.1,h.2.1,k _ h.2.2⟩) λh=>⟨h.1,h.2.1,k _ h.2.2⟩
 |attrs=>exact h
 |dI=>exact a0 h λi h=>⟨h.1,k _ h.2⟩
 |dB=>exact a0 h λi h=>⟨h.1,k _ h.2⟩
 |dS=>exact h
theorem Nv(M:jV C){t:Tg}{x:V}{J:aj}{Z:ae}{Q Q':aj->ae->Prop}(k:∀J Z,Q J Z->Q' J Z)(h:jD C t x J Z Q):jD C t x J Z Q':=by
 cases t with
 |v i=>exact k _ _ h
 |vs is=>exact a0 h λ_ h=>⟨h.1,k _ _ h.2⟩
 |a e a=>exact eX M e _ _ _ _ (λ_ _ h=>Dk (λ_ h=>k _ _ h) h) h
 |i e i=>exact eX M e _ _ _ _ (λ_ _ h=>eX M i _ _ _ _ (λ_ _ h=>CY (λ_ h=>k _ _ h) h) h) h
theorem Nw(M:jV C){t:Tg}{op:Op}{e:E}{J:aj}{Z:ae}{Q Q':aj->ae->Prop}(k:∀J Z,Q J Z->Q' J Z)(h:AQ C t op e J Z Q):AQ C t op e J Z Q':=by
 cases t with
 |v i=>exact a0 h λ_ h=>eX M e _ _ _ _ (λ_ _ h=>a0 h λ_ h=>k _ _ h) h
 |vs is=>exact h
 |a o a=>exact eX M o _ _ _ _ (λ_ _ h=>a0 h λ_ h=>eX M e _ _ _ _ (λ_ _ h=>a0 h λ_ h=>Dk (λ_ h=>k _ _ h) h) h) h
 |i o i=>exact eX M o _ _ _ _ (λ_ _ h=>eX M i _ _ _ _ (λ_ _ h=>a0 h λ_ h=>eX M e _ _ _ _ (λ_ _ h=>a0 h λ_ h=>CY (λ_ h=>k _ _ h) h) h) h) h
theorem NQ{is:IS}{t:T}{body:aj->ae->QO->Prop}(hb:m5 body){Q Q':QO}(k:∀o J Z,Q o J Z->Q' o J Z):∀{n i:Nat}{J:aj}{Z:ae},bZ is t body Q n i J Z->bZ is t body Q' n i J Z:=by
 intro n;induction n with
 |zero=>intro i J Z h;exact h
 |succ n ih=>
  intro i J Z h;refine a0 h λr h=>?_;cases r with
  |none=>exact k _ _ _ h
  |some v=>exact a0 h λJ' h=>hb _ _ _ _ (λo J Z h=>by
    cases o with
    |next=>exact h.imp λZ3 h=>⟨h.1,ih h.2⟩
    |ret v=>exact k _ _ _ h) h
theorem MK{test:aj->ae->QV->Prop}{body:aj->ae->QO->Prop}(ht:Mo test)(hb:m5 body){Q Q':QO}(k:∀o J Z,Q o J Z->Q' o J Z):∀{n:Nat}{J:aj}{Z:ae},ox test body Q n J Z->ox test body Q' n J Z:=by
 intro n;induction n with
 |zero=>intro J Z h;exact h
 |succ n ih=>
  intro J Z h;refine ht _ _ _ _ (λv Z h=>a0 h λb h=>?_) h;cases b with
  |false=>exact k _ _ _ h
  |true=>exact hb _ _ _ _ (λo J Z h=>by
    cases o with
    |next=>exact h.imp λZ3 h=>⟨h.1,ih h.2⟩
    |ret v=>exact k _ _ _ h) h
theorem vg(M:jV C)(s:S):m5 (WS C s):=
 S.rec (motive_1:=λs=>m5 (WS C s)) (motive_2:=λl=>m5 (az C l))
  (λt e J Z Q Q' k h=>eX M e _ _ _ _ (λ_ _ h=>Nv M (k _) h) h) (λt op e J Z Q Q' k h=>Nw M (k _) h) (λe J Z Q Q' k h=>eX M e _ _ _ _ (λ_ _ h=>a0 h λ_ h=>k _ _ _ h) h)
  (λc a b i j J Z Q Q' k h=>eX M c _ _ _ _ (λ_ _ h=>a0 h λt h=>by
   cases t with
   |true=>exact i _ _ _ _ k h
   |false=>exact j _ _ _ _ k h) h)
  (λc b i J Z Q Q' k h=>h.imp λn h=>MK (test:=WE C c) (body:=az C b) (eX M c) i k h)
  (λt it b i J Z Q Q' k h=>by
   have mi:IV C it:=by
    cases it with
    |seq e=>exact λJ Z Q Q' k h=>eX M e _ _ _ _ (λ_ _ h=>a0 h λ_ h=>k _ _ h) h
    |range es=>exact λJ Z Q Q' k h=>eX M (.tup es) J Z (λv Z=>aK (mh v) λvs=>aK (eO vs) λns=>aK (jU ns) λl=>Q (.vals l) Z) (λv Z=>aK (mh v) λvs=>aK (eO vs) λns=>aK (jU ns) λl=>Q' (.vals l) Z) (λ_ _ h=>a0 h λ_ h=>a0 h λ_ h=>a0 h λ_ h=>k _ _ h) h
    |enum e=>exact λJ Z Q Q' k h=>eX M e _ _ _ _ (λ_ _ h=>a0 h λ_ h=>k _ _ h) h
    |zip a b=>exact λJ Z Q Q' k h=>eX M a _ _ _ _ (λ_ _ h=>eX M b _ _ _ _ (λ_ _ h=>a0 h λ_ h=>a0 h λ_ h=>k _ _ h) h) h
   exact mi _ _ _ _ (λ_ _ h=>h.imp λn h=>NQ (body:=az C b) i k h) h)
  (λe J Z Q Q' k h=>eX M e _ _ _ _ (λ_ _ h=>k _ _ _ h) h) (λJ Z Q Q' k h=>h) (λJ Z Q Q' k h=>k _ _ _ h)
  (λs r i j J Z Q Q' k h=>i _ _ _ _ (λo J Z h=>by
   cases o with
   |next=>exact j _ _ _ _ k h
   |ret v=>exact k _ _ _ h) h) s
theorem mG(M:jV C):∀l:List S,m5 (az C l):=λrr=>li (λJ Z Q Q' k h=>k _ _ _ h)
 (λs r ih=>λJ Z Q Q' k h=>vg M s _ _ _ _ (λo J Z h=>by
   cases o with
   |next=>exact ih _ _ _ _ k h
   |ret v=>exact k _ _ _ h) h) rr
end
theorem cE(P:Nat->Fn):∀n,jV (Ph P n):=λrr=>ni (λ_ _ _ _ _ _ h=>h)
 (λn ih=>λf vs Z Q Q' k h=>a0 h λJ h=>mG (ih) _ _ _ _ _ (λo J Z h=>h.imp λv h=>h.imp λZ' h=>⟨h.1,k _ _ h.2⟩) h) rr
end
section
section
variable{C:ax}{is:IS}{t:T}{body:aj->ae->QO->Prop}{test elt:aj->ae->QV->Prop}{Q:QO}{J:aj}{Z:ae}{l:List V}
theorem ql(hb:m5 body)(I:Nat->aj->ae->Prop)(hI:I 0 J Z)(hn:∀i J Z,I i J Z->fq Z is i=some l[i]?)
  (step:∀i v J Z,l[i]?=some v->I i J Z->aK (d8 t v J) λJ'=>body J' Z λo J'' Z''=>match o with
   |.next=>∃Z3,Sub Z3 Z''/\I (i+1) J'' Z3
   |.ret u=>Q (.ret u) J'' Z'') (fin:∀J Z,I l.length J Z->Q .next J Z):∃n,bZ is t body Q n 0 J Z:=by
 have key:∀k i J Z,i+k=l.length->I i J Z->bZ is t body Q (k+1) i J Z:=by
  intro k;induction k with
  |zero=>
   intro i J Z e h;replace e:i=l.length:=e;exact ao (hn _ _ _ h) (by rw[fI (dA e.symm)];exact fin _ _ (e▸h))
  |succ k ih=>
   intro i J Z e h;have hi:i<l.length:=e▸hF (fi k);have hv:=bL hi;refine ao (hn _ _ _ h) ?_;rw[hv];refine a0 (step i _ J Z hv h) λJ' h=>hb _ _ _ _ (λo J Z h=>?_) h;cases o with
   |next=>exact h.imp λZ3 h=>⟨h.1,ih _ _ _ ((cH i k).trans e) h.2⟩
   |ret u=>exact h
 exact⟨_,key l.length 0 J Z (aU _) hI⟩
end
end
section
noncomputable abbrev Ch(w x y z:Int):V:=.obj 0 [.int w,.int x,.int y,.int z]
variable{n:Nat}{Z:ae}{Q:QV}{w x y z:Int}
theorem Sub.refl'(Z:ae):Sub Z Z:=λ_ _ h=>h
theorem bX{v:V}(h:Q v Z):∃v' Z'',Wk v Z v' Z''/\Q v' Z'':=⟨v,Z,.inl ⟨rfl,λ_ _ h=>h⟩,h⟩
theorem j9{v:V}{Z':ae}(s:Sub Z' Z)(h:Q v Z'):∃v' Z'',Wk v Z v' Z''/\Q v' Z'':=⟨v,Z',.inl ⟨rfl,s⟩,h⟩
theorem t7{a:Nat}{l:List V}{Z':ae}(e:Z a=some (.list l))(n:Z' a=none)(s:Sub Z' Z)(h:Q (.list l) Z'):∃v' Z'',Wk (.ref a) Z v' Z''/\Q v' Z'':=⟨_,Z',.inr ⟨a,l,rfl,e,rfl,n,s⟩,h⟩
theorem P7:Q (.int (x-w)) Z->Ph pF (n+1) 27 [Ch w x y z] Z Q:=λh=>bX h
theorem So:Q (.int (z-y)) Z->Ph pF (n+1) 28 [Ch w x y z] Z Q:=λh=>bX h
theorem UA:Q (.tup [.int w,.int x,.int y,.int z]) Z->Ph pF (n+1) 29 [Ch w x y z] Z Q:=λh=>bX h
theorem gU{c d:Nat}{fs:List (bG×V)}{a:bG}{v:V}{k:ae->Prop}(e:Z d=some (.attrs c fs))(h:(dH c).contains a=true)(l:fs.length<=100)(q:k (ak Z d (.attrs c (setA fs a v)))):qE Z (.inst c d) a v k:=
 ao (a:=(c,d)) rfl (ao (show gJ Z d=some (c,fs) by unfold gJ;rw[e];rfl) ⟨rfl,h,l,q⟩)
theorem aP(Z:ae)(a:Nat)(m:M):ak Z a m a=some m:=if_pos rfl
theorem G8{d:Nat}(e:Z d=none)(h:Q (Ch w x y z) Z):Ph pF (n+1) 26 [.inst 0 d,.int w,.int x,.int y,.int z] (ak Z d (.attrs 0 [])) λr Z=>lQ true 0 d r Z Q:=by
 refine gU (aP ..) rfl (dR rfl) ?_;refine gU (aP ..) rfl (dR rfl) ?_;refine gU (aP ..) rfl (dR rfl) ?_;refine gU (aP ..) rfl (dR rfl) ?_;have zz:∀m₁ m₂ m₃ m₄ m₅:M,fX (ak (ak (ak (ak (ak Z d m₁) d m₂) d m₃) d m₄) d m₅) d=Z:=λ_ _ _ _ _=>funext λb=>by
  unfold fX ak;by_cases h:b=d
  ·rw[if_pos h,h,e]
  ·repeat rw[if_neg h]
 refine bX (ao rfl (ao (a:=(0,[(0,.int w),(1,.int x),(2,.int y),(3,.int z)])) (show gJ _ d = _ by unfold gJ;rw[aP];rfl) ⟨rfl,rfl,?_⟩));show Q (Ch w x y z) (fX _ d);rw[zz];exact h
end
section
section
variable{ι S:Type}{C:ι->ax}{c:E}{b:List Internal.S}{t:T}
theorem Vo(Caa:ι->S->aj->ae->Prop)(I:S->Prop)(μ:S->Nat)(fin:S->Prop)
  (step:∀s,I s->(fin s/\∀i J Z,Caa i s J Z->∀Q:QV,Q (.bool false) Z->WE (C i) c J Z Q) \/
   ∃s',I s'/\μ s' < μ s/\∀i J Z,Caa i s J Z->(∀Q:QV,Q (.bool true) Z->WE (C i) c J Z Q) /\
    ∀Q:QO,(∀J' Z' Z'',Sub Z' Z''->Caa i s' J' Z'->Q .next J' Z'')->az (C i) b J Z Q) :
  ∀s,I s->∃s',I s'/\fin s'/\∀i J Z,Caa i s J Z->∀Q:QO,(∀J' Z',Caa i s' J' Z'->Q .next J' Z')->WS (C i) (.whl c b) J Z Q:=by
 have key:∀m s,μ s<m->I s->∃s' n,I s'/\fin s'/\∀i J Z,Caa i s J Z->∀Q:QO,(∀J' Z',Caa i s' J' Z'->Q .next J' Z') ->
   ox (λJ Z Q=>WE (C i) c J Z Q) (λJ Z Q=>az (C i) b J Z Q) Q n J Z:=by
  intro m;induction m with
  |zero=>intro s h;exact absurd h (dM _)
  |succ m ih=>
   intro s hm h;rcases step s h with f|⟨s₁,h1,lt,f⟩
   ·exact⟨s,1,h,f.1,λi J Z e Q q=>f.2 i J Z e _ (q _ _ e)⟩
   ·refine cp (ih s₁ (aQ lt (eV hm)) h1) λs' n h2 f2 k=>?_;exact⟨s',n+1,h2,f2,λi J Z e Q q=>(f i J Z e).1 _ ((f i J Z e).2 _ λJ' Z' Z'' u e'=>⟨Z',u,k i J' Z' e' Q q⟩)⟩
 intro s h;refine cp (key _ s (bu _) h) λs' n h1 h2 k=>?_;exact⟨s',h1,h2,λi J Z e Q q=>⟨n,k i J Z e Q q⟩⟩
theorem Wm(l:List V)(is:ι->IS)(Caa:ι->Nat->S->aj->ae->Prop)(I:Nat->S->Prop)(B:ι->QV)(R:V->Prop)(hn:∀i k s J Z,Caa i k s J Z->fq Z (is i) k=some l[k]?)
  (step:∀k v s,l[k]?=some v->I k s ->
   (∃s',I (k+1) s'/\∀i J Z,Caa i k s J Z->aK (d8 t v J) λJ'=>
    ∀Q:QO,(∀J' Z' Z'',Sub Z' Z''->Caa i (k+1) s' J' Z'->Q .next J' Z'')->az (C i) b J' Z Q) \/
   ∃r,R r/\∀i J Z,Caa i k s J Z->aK (d8 t v J) λJ'=>
    ∀Q:QO,(∀J' Z',B i r Z'->Q (.ret r) J' Z')->az (C i) b J' Z Q) :
  ∀s,I 0 s->(∃s',I l.length s'/\∀i J Z,Caa i 0 s J Z->∀Q:QO,(∀J' Z',Caa i l.length s' J' Z'->Q .next J' Z') ->
    ∃n,bZ (is i) t (λJ Z Q=>az (C i) b J Z Q) Q n 0 J Z) \/
   ∃r,R r/\∀i J Z,Caa i 0 s J Z->∀Q:QO,(∀J' Z',B i r Z'->Q (.ret r) J' Z') ->
    ∃n,bZ (is i) t (λJ Z Q=>az (C i) b J Z Q) Q n 0 J Z:=by
 have key:∀m k s,k+m=l.length->I k s->(∃s',I l.length s'/\∀i J Z,Caa i k s J Z->∀Q:QO,(∀J' Z',Caa i l.length s' J' Z'->Q .next J' Z') ->
    bZ (is i) t (λJ Z Q=>az (C i) b J Z Q) Q (m+1) k J Z) \/
   ∃r,R r/\∀i J Z,Caa i k s J Z->∀Q:QO,(∀J' Z',B i r Z'->Q (.ret r) J' Z') ->
    bZ (is i) t (λJ Z Q=>az (C i) b J Z Q) Q (m+1) k J Z:=by
  intro m;induction m with
  |zero=>
   intro k s e h;have e:k=l.length:=e;subst e;refine .inl ⟨s,h,λi J Z c Q q=>ao (hn _ _ _ _ _ c) ?_⟩;rw[fI (aC _)];exact q _ _ c
  |succ m ih=>
   intro k s e h;have hk:k<l.length:=e▸hF (fi m);have hv:=bL hk;rcases step k _ s hv h with⟨s₁,h1,f⟩|⟨r,hr,f⟩
   ·rcases ih (k+1) s₁ ((cH k m).trans e) h1 with⟨s',h2,g⟩|⟨r,hr,g⟩
    ·refine .inl ⟨s',h2,λi J Z c Q q=>ao (hn _ _ _ _ _ c) ?_⟩;rw[hv];exact a0 (f i J Z c) λJ' w=>w _ λJ' Z' Z'' u c'=>⟨Z',u,g i J' Z' c' Q q⟩
    ·refine .inr ⟨r,hr,λi J Z c Q q=>ao (hn _ _ _ _ _ c) ?_⟩;rw[hv];exact a0 (f i J Z c) λJ' w=>w _ λJ' Z' Z'' u c'=>⟨Z',u,g i J' Z' c' Q q⟩
   ·refine .inr ⟨r,hr,λi J Z c Q q=>ao (hn _ _ _ _ _ c) ?_⟩;rw[hv];exact a0 (f i J Z c) λJ' w=>w _ λJ' Z'=>q J' Z'
 intro s h;rcases key l.length 0 s (aU _) h with⟨s',h1,g⟩|⟨r,hr,g⟩
 ·exact .inl ⟨s',h1,λi J Z c Q q=>⟨_,g i J Z c Q q⟩⟩
 ·exact .inr ⟨r,hr,λi J Z c Q q=>⟨_,g i J Z c Q q⟩⟩
end
theorem qL{α ι Jaa:Type}{C:ax}(M:jV C){t:T}{b:List S}{is:IS}{l:List α}{f:α->V}(R:ι->Jaa->aj)(T:ι->ae)(I:Nat->ι->Prop){Q:QO}
  (hn:∀s k i,I k s->fq (T s) is i=some (l.map f)[i]?)
  (step:∀i(hi:i<l.length)s j,I i s->aK (d8 t (f l[i]) (R s j)) λJ'=>∀Q:QO,(∀s' j',I (i+1) s'->Q .next (R s' j') (T s'))->az C b J' (T s) Q)
  (fin:∀s j,I l.length s->Q .next (R s j) (T s)) {s:ι} {j:Jaa} (h:I 0 s):∃n,bZ is t (λJ Z Q=>az C b J Z Q) Q n 0 (R s j) (T s):=
 ql (l:=l.map f) (mG M b) (λi J Z=>∃s j,J=R s j/\Z=T s/\I i s) ⟨s,j,rfl,rfl,h⟩ (λi J Z z_=>cp z_ λs j e e' h=>e'▸hn s i i h)
  (λi v J Z hv zz=>cp zz λs j e e' h=>by
   clear zz;subst e;subst e';obtain⟨hi,rfl⟩:=iR.1 hv;rw[aY]at hi;rw[KY];exact a0 (step i hi s j h) λJ' w=>w _ λs' j' h'=>⟨_,Sub.refl' _,s',j',rfl,rfl,h'⟩)
  (λJ Z z_=>cp z_ λs j e e' h=>by subst e;subst e';rw[aY]at h;exact fin s j h)
end
section
noncomputable abbrev vI(l:List Int):List V:=l.map .int
noncomputable abbrev vB(l:List Bool):List V:=l.map .bool
noncomputable abbrev nI(x:Nat):V:=.int (x:Int)
noncomputable abbrev pt(x X y Y:Nat):V:=.tup [nI x,nI X,nI y,nI Y]
structure Sh where
 A:List Int
 B:List Int
 d:Nat
 g:Nat
 h:Nat
structure gI(s:Sh)(G H:List Bool)(Z:ae):Prop where
 at_d:Z s.d=some (.attrs 2 [(7,.list (vI s.A)),(8,.list (vI s.B)),(9,.ref s.g),(10,.ref s.h)])
 at_g:Z s.g=some (.list (vB G))
 at_h:Z s.h=some (.list (vB H))
 gh:s.g≠s.h
theorem dC{c d:Nat}{fs:List (bG×V)}{Z:ae}{a:bG}{v:V}(e:Z d=some (.attrs c fs))(h:(dH c).contains a=true)(l:tm fs a=some v):jF Z (.inst c d) a=some v:=by
 show(gJ Z d).bind _ = _;rw[show gJ Z d=some (c,fs) by unfold gJ;rw[e];rfl];exact(if_pos ⟨rfl,h⟩).trans l
theorem p9{Z:ae}{l:List Int}{i:Nat}{x:Int}(e:l[i]?=some x):eQ Z (.list (vI l)) (nI i)=some (.int x):=by
 show fF (vI l) (i:Int) = _;unfold fF;rw[if_pos (eL i),hU,cO,e];rfl
theorem sr(x:Nat):((x+1:Nat):Int)-1=x:=xN x 1
def Ev(C:ax)(e:E)(J:aj)(Z:ae)(v:V):Prop:=∀Q:QV,Q v Z->WE C e J Z Q
section
variable{C:ax}{J:aj}{Z:ae}{a b c:E}{x y v:V}
theorem aa{i:Nat}(h:rd J i=some v):Ev C (.x i) J Z v:=λQ q=>ao h q
theorem dj{op:mZ}{r:Bool}(h:Ev C a J Z x)(k:Ev C b J Z y)(e:wI Z op x y=some r):Ev C (.m op a b) J Z (.bool r):=λQ q=>h _ (k _ (ao e q))
theorem fO{op:Op}(h:Ev C a J Z x)(k:Ev C b J Z y)(e:tH op x y=some v):Ev C (.b op a b) J Z v:=λQ q=>h _ (k _ (ao e q))
theorem br{n:bG}(h:Ev C a J Z x)(e:jF Z x n=some v):Ev C (.a a n) J Z v:=λQ q=>h _ (ao e q)
theorem bW(h:Ev C a J Z x)(k:Ev C b J Z y)(e:eQ Z x y=some v):Ev C (.i a b) J Z v:=λQ q=>h _ (k _ (ao e q))
end
def aI(C:ax)(e:E)(J:aj)(Z:ae)(p:Prop):Prop:=∃b:Bool,(b=true↔p)/\Ev C e J Z (.bool b)
section
variable{C:ax}{J:aj}{Z:ae}{a b c d:E}{x y v:V}{p q r s:Prop}
theorem Ev.cn:Ev C (.c v) J Z v:=λQ q=>q
theorem iu(h:aI C a J Z p)(k:p↔q):aI C a J Z q:=h.imp λb h=>⟨h.1.trans k,h.2⟩
theorem sS{i j:Int}(h:Ev C a J Z (.int i))(k:Ev C b J Z (.int j)):aI C (.m .lt a b) J Z (i<j):=⟨_,decide_eq_true_iff,dj h k rfl⟩
theorem Ab{i j:Int}(h:Ev C a J Z (.int i))(k:Ev C b J Z (.int j)):aI C (.m .gt a b) J Z (j<i):=⟨_,decide_eq_true_iff,dj h k rfl⟩
theorem Hh{i j:Int}(h:Ev C a J Z (.int i))(k:Ev C b J Z (.int j)):aI C (.m .le a b) J Z (i<=j):=⟨_,decide_eq_true_iff,dj h k rfl⟩
theorem qu{i j:Int}(h:Ev C a J Z (.int i))(k:Ev C b J Z (.int j)):aI C (.m .ge a b) J Z (j<=i):=⟨_,decide_eq_true_iff,dj h k rfl⟩
theorem kC{i j:Int}(h:Ev C a J Z (.int i))(k:Ev C b J Z (.int j)):aI C (.m .eq a b) J Z (i=j):=⟨i==j,beq_iff_eq,dj h k rfl⟩
theorem vH{b:Bool}(h:b=true↔p):(!b)=true↔¬p:=by cases b<;>simp_all
theorem qv{i j:Int}(h:Ev C a J Z (.int i))(k:Ev C b J Z (.int j)):aI C (.m .ne a b) J Z (i≠j):=⟨!(i==j),vH beq_iff_eq,dj h k rfl⟩
theorem vv(h:aI C a J Z p):aI C (.not a) J Z (¬p):=h.elim λb h=>⟨!b,vH h.1,λQ q=>h.2 _ q⟩
theorem eZ{i j:Nat}(h:Ev C a J Z (nI i))(k:Ev C b J Z (nI j)):aI C (.m .lt a b) J Z (i<j):=iu (sS h k) dN
theorem iW{i j:Nat}(h:Ev C a J Z (nI i))(k:Ev C b J Z (nI j)):aI C (.m .gt a b) J Z (j<i):=iu (Ab h k) dN
theorem lq{i j:Nat}(h:Ev C a J Z (nI i))(k:Ev C b J Z (nI j)):aI C (.m .eq a b) J Z (i=j):=iu (kC h k) kY
theorem sT{k:Bool}{es:List E}(h:aI C a J Z p)(hp:¬(p↔k=true)->(q↔p))(hk:(p↔k=true)->∃b:Bool,(b=true↔q)/\∀Q:QV,Q (.bool b) Z->WB C k (b'::es) J Z Q) :
  aI C (.o k (a::b'::es)) J Z q:=h.elim λx h=>by
 by_cases e:x=k
 ·refine ar (hk (h.1.symm.trans (iff_of_eq (congrArg (·=true) e)))) λy h1 h2=>?_;exact⟨y,h1,λQ w=>h.2 _ (ao rfl (by rw[if_pos e];exact h2 Q w))⟩
 ·have f:¬(p↔k=true):=λz=>e (by have:=h.1.trans z;cases x<;>cases k<;>simp_all);exact⟨x,h.1.trans (hp f).symm,λQ w=>h.2 _ (ao rfl (by rw[if_neg e];exact w))⟩
theorem iV(h:aI C a J Z p)(k:p->aI C b J Z q):aI C (.o true [a,b]) J Z (p/\q):=
 sT h (λn=>⟨And.left,λz=>absurd (iff_of_true z rfl) n⟩) λe=>(k (e.2 rfl)).imp λx k=>⟨k.1.trans (and_iff_right (e.2 rfl)).symm,k.2⟩
theorem nU(h:aI C a J Z p)(k:p->aI C b J Z q)(l:p->q->aI C c J Z r):aI C (.o true [a,b,c]) J Z (p/\q/\r):=
 sT h (λn=>⟨And.left,λz=>absurd (iff_of_true z rfl) n⟩) λe=>(iV (k (e.2 rfl)) (l (e.2 rfl))).imp λx k=>⟨k.1.trans (and_iff_right (e.2 rfl)).symm,k.2⟩
theorem iX(h:aI C a J Z p)(k:¬p->aI C b J Z q):aI C (.o false [a,b]) J Z (p\/q):=
 have f:(p↔false=true)->¬p:=λe z=>kg (e.1 z)
 sT h (λn=>⟨λ_=>pd λz=>n (iff_of_false z (λh=>kg h)),GQ⟩) λe=>(k (f e)).imp λx k=>⟨k.1.trans (or_iff_right (f e)).symm,k.2⟩
theorem vx(h:aI C a J Z p)(k:¬p->aI C b J Z q)(l:¬p->¬q->aI C c J Z r):aI C (.o false [a,b,c]) J Z (p\/q\/r):=
 have f:(p↔false=true)->¬p:=λe z=>kg (e.1 z)
 sT h (λn=>⟨λ_=>pd λz=>n (iff_of_false z (λh=>kg h)),GQ⟩) λe=>(iX (k (f e)) (l (f e))).imp λx k=>⟨k.1.trans (or_iff_right (f e)).symm,k.2⟩
theorem RN(h:aI C a J Z p)(k:¬p->aI C b J Z q)(l:¬p->¬q->aI C c J Z r)(m:¬p->¬q->¬r->aI C d J Z s):aI C (.o false [a,b,c,d]) J Z (p\/q\/r\/s):=
 have f:(p↔false=true)->¬p:=λe z=>kg (e.1 z)
 sT h (λn=>⟨λ_=>pd λz=>n (iff_of_false z (λh=>kg h)),GQ⟩) λe=>(vx (k (f e)) (l (f e)) (m (f e))).imp λx k=>⟨k.1.trans (or_iff_right (f e)).symm,k.2⟩
theorem dF{t f:List Internal.S}{Q:QO}(h:aI C a J Z p)(hp:p)(q:az C t J Z Q):WS C (.ite a t f) J Z Q:=h.elim λb h=>h.2 _ (ao rfl (by rw[h.1.2 hp];exact q))
theorem bH{t f:List Internal.S}{Q:QO}(h:aI C a J Z p)(hp:¬p)(q:az C f J Z Q):WS C (.ite a t f) J Z Q:=h.elim λb h=>h.2 _ (ao rfl (by
 cases b with
 |true=>exact absurd (h.1.1 rfl) hp
 |false=>exact q))
theorem iZ{Q:QV}(h:aI C a J Z p)(hp:p)(q:WE C b J Z Q):WE C (.ite a b c) J Z Q:=h.elim λb h=>h.2 _ (ao rfl (by rw[h.1.2 hp];exact q))
theorem iy{Q:QV}(h:aI C a J Z p)(hp:¬p)(q:WE C c J Z Q):WE C (.ite a b c) J Z Q:=h.elim λb h=>h.2 _ (ao rfl (by
 cases b with
 |true=>exact absurd (h.1.1 rfl) hp
 |false=>exact q))
end
section
variable{ι S Jaa:Type}{C:ι->ax}{c:E}{b:List Internal.S}
theorem fj(R:ι->S->Jaa->aj)(T:ι->S->ae)(I:S->Prop)(μ:S->Nat)(t:S->Prop)
  (ev:∀s,I s->∀i j,aI (C i) c (R i s j) (T i s) (t s))
  (step:∀s,I s->t s->∃s',I s'/\μ s' < μ s/\∀i j(Q:QO),(∀j' Z,Sub (T i s') Z->Q .next (R i s' j') Z)->az (C i) b (R i s j) (T i s) Q) :
  ∀s,I s->∃s',I s'/\¬t s'/\∀i j(Q:QO),(∀j',Q .next (R i s' j') (T i s'))->WS (C i) (.whl c b) (R i s j) (T i s) Q:=λs h=>by
 obtain⟨s',h1,h2,h3⟩:=Vo (C:=C) (c:=c) (b:=b) (λi s J Z=>∃j,J=R i s j/\Z=T i s) I μ (λs=>¬t s) (λs h=>by
  by_cases e:t s
  ·refine cm (step s h e) λs' h1 h2 h3=>?_;exact .inr ⟨s',h1,h2,λi J Z z=>ar z λj k1 k2=>k1▸k2▸⟨λQ q=>(ev s h i j).elim λb w=>w.2 _ (w.1.2 e▸q),λQ q=>h3 i j Q λj' Z u=>q _ _ _ u ⟨j',rfl,rfl⟩⟩⟩
  ·exact .inl ⟨e,λi J Z z Q q=>ar z λj k1 k2=>(ev s h i j).elim λb w=>k1▸k2▸w.2 _ (by
    cases b with
    |true=>exact absurd (w.1.1 rfl) e
    |false=>exact k2▸q)⟩) s h
 exact⟨s',h1,h2,λi j Q q=>h3 i _ _ ⟨j,rfl,rfl⟩ Q λJ' Z' z=>ar z λj k1 k2=>k1▸k2▸q j⟩
end
theorem oe{l:List Int}{i:Nat}(h:i<l.length):l.getD i 0=l[i]:=by rw[fe,bL h];rfl
def jY(s:Sh)(Z:ae):Prop:=Z s.d=some (.attrs 2 [(7,.list (vI s.A)),(8,.list (vI s.B)),(9,.ref s.g),(10,.ref s.h)])
theorem oF{s:Sh}{Z:ae}(h:jY s Z):jF Z (.inst 2 s.d) 7=some (.list (vI s.A)):=dC h rfl rfl
theorem tw{s:Sh}{Z:ae}(h:jY s Z):jF Z (.inst 2 s.d) 8=some (.list (vI s.B)):=dC h rfl rfl
section
variable{C:ax}{J:aj}{Z:ae}{a b u v:E}{x y:Nat}{A B:List Int}
theorem p8(ha:Ev C a J Z (.list (vI A)))(hb:Ev C b J Z (.list (vI B)))(hu:Ev C u J Z (nI x))(hv:Ev C v J Z (nI y))(hx:x<A.length)(hy:y<B.length) :
  aI C (.m .eq (.i a u) (.i b v)) J Z (A[x]?=B[y]?):=
 iu (kC (bW ha hu (p9 (bL hx))) (bW hb hv (p9 (bL hy)))) (by
  rw[bL hx,bL hy];exact⟨congrArg some,di⟩)
theorem vq(hu:Ev C u J Z (nI (x+1))):Ev C (.b .sub u (.c (.int 1))) J Z (nI x):=fO hu Ev.cn (congrArg (λz=>some (V.int z)) (sr x))
end
theorem jv{C:ax}{e:E}{J:aj}{Z:ae}{p:Prop}{t:Bool}(h:aI C e J Z p)(k:t=true↔p):Ev C e J Z (.bool t):=h.elim λb h=>by
 have e:b=t:=Bool.eq_iff_iff.2 (h.1.trans k.symm);exact e▸h.2
end
section
theorem Qi{x:Nat}(h:0<x):((x:Nat):Int)-1=((x-1:Nat):Int):=match x,h with
 |x+1,_=>sr x
theorem jP{C:ax}{J:aj}{Z:ae}{u:E}{x:Nat}(h:0<x)(hu:Ev C u J Z (nI x)):Ev C (.b .sub u (.c (.int 1))) J Z (nI (x-1)):=fO hu Ev.cn (congrArg (λz=>some (V.int z)) (Qi h))
structure dQ(A B:List Int)where
 n:Nat
 Z:ae
 s:Sh
 hA:s.A=A
 hB:s.B=B
 on:jY s Z
noncomputable abbrev dQ.C{A B:List Int}(r:dQ A B):ax:=Ph pF r.n
theorem dQ.a{A B:List Int}(r:dQ A B){e:E}{J:aj}(h:Ev r.C e J r.Z (.inst 2 r.s.d)):Ev r.C (.a e 7) J r.Z (.list (vI A)):=br h ((oF r.on).trans (congrArg (λl=>some (V.list (vI l))) r.hA))
theorem dQ.b{A B:List Int}(r:dQ A B){e:E}{J:aj}(h:Ev r.C e J r.Z (.inst 2 r.s.d)):Ev r.C (.a e 8) J r.Z (.list (vI B)):=br h ((tw r.on).trans (congrArg (λl=>some (V.list (vI l))) r.hB))
section
variable{A B:List Int}{x X y Y:Nat}
theorem V3(hx:x<=X)(hX:X<=A.length)(hy:y<=Y)(hY:Y<=B.length)(p:V) :
  ∃k,(x+k<=X/\y+k<=Y/\∀t,t<k->A[x+t]?=B[y+t]?)/\¬(x+k<X/\y+k<Y/\A[x+k]?=B[y+k]?) /\
   ∀(i:dQ A B)(j:Unit)(Q:QO),(∀j:Unit,Q .next [some (.inst 2 i.s.d),some p,some (nI (x+k)),some (nI X),some (nI (y+k)),some (nI Y)] i.Z) ->
   WS i.C (.whl (.o true [.m .lt (.x 2) (.x 3),.m .lt (.x 4) (.x 5),.m .eq (.i (.a (.x 0) 7) (.x 2)) (.i (.a (.x 0) 8) (.x 4))])
    [.aug (.v 2) .add (.c (.int 1)),.aug (.v 4) .add (.c (.int 1))]) [some (.inst 2 i.s.d),some p,some (nI (x+0)),some (nI X),some (nI (y+0)),some (nI Y)] i.Z Q:=
 fj (C:=dQ.C) (λ(i:dQ A B)(k:Nat)_=>[some (.inst 2 i.s.d),some p,some (nI (x+k)),some (nI X),some (nI (y+k)),some (nI Y)]) (λi _=>i.Z)
  (λk=>x+k<=X/\y+k<=Y/\∀t,t<k->A[x+t]?=B[y+t]?) (λk=>X-(x+k)) (λk=>x+k<X/\y+k<Y/\A[x+k]?=B[y+k]?)
  (λk hk i _=>nU (eZ (aa rfl) (aa rfl)) (λ_=>eZ (aa rfl) (aa rfl)) λh1 h2=>
    p8 (i.a (aa rfl)) (i.b (aa rfl)) (aa rfl) (aa rfl) (aQ h1 hX) (aQ h2 hY))
  (λk hk ht=>⟨k+1,⟨ht.1,ht.2.1,λt h=>(ka.1 h).elim (hk.2.2 t) λz=>z▸ht.2.2⟩,kf ht.1 (bu _),λi _ Q q=>by exact q () i.Z (Sub.refl' _)⟩) 0 ⟨hx,hy,λt h=>absurd h (dM t)⟩
theorem V4(hX:X<=A.length)(hY:Y<=B.length)(hx:x<=X)(hy:y<=Y)(p:V) :
  ∃u:Nat×Nat,(x<=u.1/\y<=u.2/\∃j,X=u.1+j/\Y=u.2+j/\∀t,t<j->A[u.1+t]?=B[u.2+t]?)/\¬(x<u.1/\y<u.2/\A[u.1-1]?=B[u.2-1]?) /\
   ∀(i:dQ A B)(j:Unit)(Q:QO),(∀j:Unit,Q .next [some (.inst 2 i.s.d),some p,some (nI x),some (nI u.1),some (nI y),some (nI u.2)] i.Z) ->
   WS i.C (.whl (.o true [.m .lt (.x 2) (.x 3),.m .lt (.x 4) (.x 5),.m .eq (.i (.a (.x 0) 7) (.b .sub (.x 3) (.c (.int 1)))) (.i (.a (.x 0) 8) (.b .sub (.x 5) (.c (.int 1))))])
    [.aug (.v 3) .sub (.c (.int 1)),.aug (.v 5) .sub (.c (.int 1))]) [some (.inst 2 i.s.d),some p,some (nI x),some (nI X),some (nI y),some (nI Y)] i.Z Q:=by
 refine fj (C:=dQ.C) (λ(i:dQ A B)(u:Nat×Nat)_=>[some (.inst 2 i.s.d),some p,some (nI x),some (nI u.1),some (nI y),some (nI u.2)]) (λi _=>i.Z)
  (λu=>x<=u.1/\y<=u.2/\∃j,X=u.1+j/\Y=u.2+j/\∀t,t<j->A[u.1+t]?=B[u.2+t]?) (λu=>u.1) (λu=>x<u.1/\y<u.2/\A[u.1-1]?=B[u.2-1]?)
  (λu hu i _=>?_) (λu hu ht=>?_) (X,Y) ⟨hx,hy,0,rfl,rfl,λt h=>absurd h (dM t)⟩
 ·have c{v w z:Nat}(h:v<w)(k:w<=z):w-1<z:=aQ (nP (jK h) mD) k;exact hu.2.2.elim λj h=>nU (eZ (aa rfl) (aa rfl)) (λ_=>eZ (aa rfl) (aa rfl)) λb1 b2=>
    p8 (i.a (aa rfl)) (i.b (aa rfl)) (jP (jK b1) (aa rfl)) (jP (jK b2) (aa rfl)) (c b1 (ai (h.1▸aL ..) hX)) (c b2 (ai (h.2.1▸aL ..) hY))
 ·have key:∀u v:Nat,x<u+1->y<v+1->A[u]?=B[v]?->(∃j,X=u+1+j/\Y=v+1+j/\∀t,t<j->A[u+1+t]?=B[v+1+t]?)->x<=u/\y<=v/\∃j,X=u+j/\Y=v+j/\∀t,t<j->A[u+t]?=B[v+t]?:=
   λu v b1 b2 b3 z=>cm z λj h1 h2 h3=>⟨eV b1,eV b2,j+1,h1.trans (cH u j),h2.trans (cH v j),λt=>nz (λ_=>b3)
    (λt ht=>(cH u t)▸(cH v t)▸h3 t (ff ht)) t⟩
  obtain⟨u,v⟩:=u;revert hu ht;refine nz (λ_ ht=>absurd ht.1 (dM x)) (λu=>nz (λ_ ht=>absurd ht.2.1 (dM y)) (λv hu ht=>?_) v) u
  ·refine⟨(u,v),key u v ht.1 ht.2.1 ht.2.2 hu.2.2,bu u,λi _ Q q=>?_⟩;have q:=q () i.Z (Sub.refl' _);show Q .next [_,_,_,some (V.int (((u+1:Nat):Int)-1)),_,some (V.int (((v+1:Nat):Int)-1))] _;rw[sr,sr];exact q
structure qI(A B:List Int)(x X y Y x' X' y' Y':Nat):Prop where
 i:∃i,x'=x+i/\y'=y+i/\∀t,t<i->A[x+t]?=B[y+t]?
 j:∃j,X=X'+j/\Y=Y'+j/\∀t,t<j->A[X'+t]?=B[Y'+t]?
 x:x'<=X'
 y:y'<=Y'
 no:x'<X'->y'<Y'->A[x']?≠B[y']?/\A[X'-1]?≠B[Y'-1]?
theorem Tj(hx:x<=X)(hX:X<=A.length)(hy:y<=Y)(hY:Y<=B.length) :
  ∃x' X' y' Y',qI A B x X y Y x' X' y' Y'/\∀(r:dQ A B)Q,Q (pt x' X' y' Y') r.Z->Ph pF (r.n+1) 35 [.inst 2 r.s.d,pt x X y Y] r.Z Q:=by
 refine cm (V3 hx hX hy hY (pt x X y Y)) λi pp11_ a4 a5=>?_;obtain⟨a1,a2,a3⟩:=pp11_;refine cm (V4 hX hY a1 a2 (pt x X y Y)) λu pp21_ b4 b5=>?_;obtain⟨b1,b2,b3⟩:=pp21_;refine⟨x+i,u.1,y+i,u.2,⟨⟨i,rfl,rfl,a3⟩,b3,b1,b2,λh k=>⟨λe=>a4 ⟨?_,?_,e⟩,λe=>b4 ⟨h,k,e⟩⟩⟩,λr Q q=>?_⟩
 ·obtain⟨j,h1,_⟩:=b3;exact h1▸aQ h (aL ..)
 ·obtain⟨j,_,h2,_⟩:=b3;exact h2▸aQ k (aL ..)
 ·exact⟨rfl,a5 r () _ λ_=>b5 r () _ λ_=>bX q⟩
end
end
theorem GC(x k:Nat):mu x ((x+k:Nat):Int) 1=k:=by
 unfold mu;rw[if_pos (by decide)];cases k with
 |zero=>exact if_neg (Int.lt_irrefl _)
 |succ k=>rw[if_pos (dN.2 (hF (fi k))),LX,Int.sub_add_cancel,hZ,nM,xN]
theorem zU{x:Nat}(h:x<=1000):eE x=true:=qw (ko (by decide) (eL x)) (ko (gB.2 h) (by decide))
theorem su{x k:Nat}(h:x+k<=1000):jU [(x:Int),((x+k:Nat):Int)]=some (cC x 1 k):=by
 show(if eE x=true/\eE ((x+k:Nat):Int)=true then some (cC x 1 (mu x ((x+k:Nat):Int) 1).toNat) else none) = _;rw[if_pos ⟨zU (ai (aL x k) h),zU h⟩,GC];rfl
theorem UH{x k j:Nat}:(cC x 1 k)[j]?=if j<k then some (nI (x+j)) else none:=by
 rw[zW,pN];rfl
noncomputable def cU:List Bool->Nat->Nat->List Bool
 |G,_,0=>G
 |G,x,k+1=>(cU G x k).set (x+k) true
theorem nW(G:List Bool)(x:Nat):∀k,(cU G x k).length=G.length:=λrr=>ni (rfl)
 (λk ih=>(Ce ..).trans (ih)) rr
theorem qf(G:List Bool)(x i:Nat):∀k,(cU G x k)[i]?=if x<=i/\i<x+k then(G[i]?).map λ_=>true else G[i]?:=λrr=>ni (by rw[if_neg λh=>absurd h.2 (bc.2 h.1)];rfl)
 (λk ih=>by
  show((cU G x k).set (x+k) true)[i]? = _;rw[KL,ih,nW];by_cases h:x+k=i
  ·rw[if_pos h,if_pos (c:=x<=i/\_) ⟨h▸aL x k,h▸bu _⟩];by_cases g:x+k<G.length
   ·rw[if_pos g,<-h,bL g];rfl
   ·rw[if_neg g,<-h,fI (bc.1 g)];rfl
  ·rw[if_neg h];by_cases g:x<=i/\i<x+k
   ·rw[if_pos g,if_pos ⟨g.1,eM g.2⟩]
   ·rw[if_neg g,if_neg λz=>g ⟨z.1,hM (eV z.2) λw=>h w.symm⟩]) rr
theorem oj(x:Int)(k:Nat):(cC x 1 k).length=k:=by
 induction k generalizing x with
 |zero=>rfl
 |succ k ih=>exact congrArg (·+1) (ih _)
theorem S9(l:List Bool)(i:Nat)(b:Bool):(vB l).set i (.bool b)=vB (l.set i b):=(L5 ..).symm
theorem dX(Z:ae)(a:Nat)(m m':M):ak (ak Z a m) a m'=ak Z a m':=funext λb=>by unfold ak;by_cases h:b=a<;>simp only[if_pos,if_neg,h,not_false_eq_true]
theorem aA{Z:ae}{a b:Nat}{m:M}(n:b≠a):ak Z a m b=Z b:=if_neg n
theorem QD{Z:ae}{g:Nat}{G:List Bool}{i:Nat}{b:Bool}{Q:ae->Prop}(e:Z g=some (.list (vB G)))(h:i<G.length)(q:Q (ak Z g (.list (vB (G.set i b))))):jx Z (.ref g) (nI i) (.bool b) Q:=
 ao (a:=g) rfl (ao e (ao (a:=(i:Int)) rfl (.inl ⟨eL i,by rw[aY];exact dN.2 h,by rw[hU,S9];exact q⟩)))
theorem DS{n:Nat}{Z:ae}{d g x k:Nat}{fs:List (bG×V)}{a:bG}{G:List Bool}{r2 r3 r4 r5:V}{r6:Option V}{p:V}{Q:QO}(ha:(dH 2).contains a=true)(hl:tm fs a=some (.ref g))
  (hd:Z d=some (.attrs 2 fs)) (hg:Z g=some (.list (vB G))) (dg:d≠g) (hk:x+k<=G.length)
  (q:∀r,Q .next [some (.inst 2 d),some p,some r2,some r3,some r4,some r5,r] (ak Z g (.list (vB (cU G x k))))) :
  ∃m,bZ (.vals (cC x 1 k)) (.v 6) (λJ Z Q=>az (Ph pF n) [.s (.i (.a (.x 0) a) (.x 6)) (.c (.bool true))] J Z Q) Q m 0 [some (.inst 2 d),some p,some r2,some r3,some r4,some r5,r6] Z:=by
 have e0:ak Z g (.list (vB G))=Z:=funext λb=>by
  by_cases h:b=g
  ·rw[h,aP,hg]
  ·exact aA h
 refine ql (mG (cE pF n) _) (λi J Z'=>(∃r,J=[some (.inst 2 d),some p,some r2,some r3,some r4,some r5,r])/\Z'=ak Z g (.list (vB (cU G x i)))) ⟨⟨r6,rfl⟩,e0.symm⟩ (λ_ _ _ _=>rfl) ?_ ?_
 ·intro i v J Z' hv zz;refine aT zz λz e'=>bA z λr e=>?_;clear zz z;subst e;subst e';rw[UH]at hv;by_cases h:i<k
  ·rw[if_pos h]at hv;injection hv with hv;subst hv
   refine ao rfl (ao (dC ((aA dg).trans hd) ha hl) (QD (aP ..) (by rw[nW];exact aQ (eF h x) hk) ⟨_,Sub.refl' _,⟨_,rfl⟩,?_⟩));rw[dX];rfl
  ·rw[if_neg h]at hv;exact nn hv
 ·intro J Z' zz;refine aT zz λz e'=>bA z λr e=>?_;clear zz z;subst e;subst e';rw[oj];exact q _
theorem mark{n:Nat}{s:Sh}{G H:List Bool}{Z:ae}(hs:gI s G H Z){x k y l:Nat}(hx:x+k<=G.length)(hy:y+l<=H.length)(hG:G.length<=1000)(hH:H.length<=1000){Q:QV}
  (q:Q .none (ak (ak Z s.g (.list (vB (cU G x k)))) s.h (.list (vB (cU H y l))))):Ph pF (n+1) 36 [.inst 2 s.d,pt x (x+k) y (y+l)] Z Q:=by
 have dg:s.d≠s.g:=kO hs.at_d hs.at_g rfl;have dh:s.d≠s.h:=kO hs.at_d hs.at_h rfl;refine ao rfl (ao rfl ⟨rfl,ao (su (ai hx hG)) ?_⟩);refine DS rfl rfl hs.at_d hs.at_g dg hx λr=>?_;refine ao (su (ai hy hH)) ?_;refine DS rfl rfl ((aA dg).trans hs.at_d) ((aA hs.gh.symm).trans hs.at_h) dh hy λr=>?_;exact bX q
theorem Ip{n:Nat}{s:Sh}{Z:ae}(h:jY s Z){Q:QV}(q:Q (pt 0 s.A.length 0 s.B.length) Z):Ph pF (n+1) 34 [.inst 2 s.d] Z Q:=by
 have q:Q (pt 0 (vI s.A).length 0 (vI s.B).length) Z:=by rw[aY,aY];exact q
 exact ao rfl (ao (dC h rfl rfl) (ao (dC h rfl rfl) (bX q)))
structure mS(d k:Nat)(K:List (List UInt8))(Z:ae):Prop where
 at_d:Z d=some (.attrs 1 [(4,.ref k),(5,.list []),(6,nI K.length)])
 at_k:∃f,Z k=some (.dB K.length f)/\∀b,f b=if b∈K then some (nI (K.idxOf b)) else none
noncomputable def iB(K:List (List UInt8))(b:List UInt8):List (List UInt8):=if b∈K then K else K++[b]
theorem FW{Z:ae}{k m:Nat}{f:List UInt8->Option V}{b:List UInt8}{v:V}(h:Z k=some (.dB m f))(e:f b=some v):eQ Z (.ref k) (.tup [.bool false,.bytes b])=some v:=by
 have a:cc Z k=none:=by unfold cc;rw[h];rfl
 have c:dD Z k (.tup [.bool false,.bytes b])=some (f b):=by unfold dD;rw[h];rfl
 show(match cc Z k with|some l=>_|none=>(dD Z k (.tup [.bool false,.bytes b])).bind λo=>o) = _;rw[a,c];exact e
theorem Oi{n d k:Nat}{K:List (List UInt8)}{Z:ae}(hs:mS d k K Z)(hK:K.length<1000){b:List UInt8}{Q:QV}
  (q:∀Z',mS d k (iB K b) Z'->(∀x,x≠d->x≠k->Z' x=Z x)->Q (nI ((iB K b).idxOf b)) Z'):Ph pF (n+1) 31 [.inst 1 d,.bytes b] Z Q:=by
 obtain⟨h1,f,h2,h3⟩:=hs;have dk:d≠k:=kO h1 h2 rfl;have e4:jF Z (.inst 1 d) 4=some (.ref k):=dC h1 rfl rfl;have ein:dD Z k (.tup [.bool false,.bytes b])=some (f b):=by unfold dD;rw[h2];rfl
 refine ao rfl (ao e4 (ao (a:=!(f b).isSome) (show rU _ (rU _ (dD Z k _)) = _ by rw[ein];rfl) ?_));by_cases hb:b∈K
 ·have fb:f b=some (nI (K.idxOf b)):=(h3 b).trans (if_pos hb);rw[fb];refine ao rfl (ao e4 (ao rfl (ao (FW h2 fb) (bX ?_))));have w:=q Z (by rw[iB,if_pos hb];exact⟨h1,f,h2,h3⟩) λ_ _ _=>rfl;rw[iB,if_pos hb]at w;exact w
 ·have fb:f b=none:=(h3 b).trans (if_neg hb);rw[fb];have e6:jF Z (.inst 1 d) 6=some (nI K.length):=dC h1 rfl rfl;have hl:K.length<aJ:=fL hK (by decide);refine ao rfl (ao e6 (ao e4 (ao rfl (ao (a:=k) rfl (ao h2 (ao (a:=b) rfl ⟨hl,?_⟩))))));have g1:ak Z k (.dB (K.length+1) λj=>if j=b then some (nI K.length) else f j) d = _:=(aA dk).trans h1;refine ao (dC g1 rfl rfl) (gU g1 rfl (dR rfl) ?_);have kk:(iB K b)=K++[b]:=if_neg hb;have il:(K++[b]).idxOf b=K.length:=by rw[B0,if_neg hb,List.idxOf_cons_self];exact aU _
  have N:mS d k (K++[b]) (ak (ak Z k (.dB (K.length+1) λj=>if j=b then some (nI K.length) else f j)) d (.attrs 1 [(4,.ref k),(5,.list []),(6,nI (K.length+1))])):=by
   refine⟨by rw[bB];exact aP ..,_,by rw[bB,aA dk.symm];exact aP ..,λj=>?_⟩;by_cases e:j=b
   ·rw[if_pos e,if_pos (by rw[e];exact rh _ (cJ.2 rfl)),e,il]
   ·rw[if_neg e,h3];by_cases m:j∈K
    ·rw[if_pos m,if_pos (rq _ m),B0,if_pos m]
    ·rw[if_neg m,if_neg λz=>(gx.1 z).elim m λy=>e (cJ.1 y)]
  have w:=q _ (kk▸N) λx a c=>(aA a).trans (aA c);rw[kk,il]at w;exact ao (dC (aP ..) rfl rfl) (ao rfl (ao (FW ((aA dk.symm).trans (aP ..)) (if_pos rfl)) (bX w)))
theorem FF{is:IS}{t:T}{elt:aj->ae->QV->Prop}{J:aj}{C:ax}{Z:ae}{l:List V}{Q:QV}(hz:l.length<=aJ)(I:Nat->List V->ae->Prop)
  (hn:∀i r Z,I i r Z->fq Z is i=some l[i]?) (h:∀i v r Z,l[i]?=some v->I i r Z->aK (d8 t v J) λJ'=>elt J' Z λx Z'=>I (i+1) (r++[x]) Z') (he:Mo elt)
  (h0:I 0 [] Z) (hq:∀r Z',I l.length r Z'->Q (.list r) Z'):∃n,g5 is t (λJ Z Q=>WB C true [] J Z Q) elt J Q n 0 [] Z:=by
 have key:∀k i acc Z,i+k=l.length->acc.length=i->I i acc Z->g5 is t (λJ Z Q=>WB C true [] J Z Q) elt J Q (k+1) i acc Z:=by
  intro k;induction k with
  |zero=>
   intro i acc Z e _ q;refine ao (hn _ _ _ q) ?_;replace e:i=l.length:=e;rw[fI (dA e.symm)];exact hq _ _ (e▸q)
  |succ k ih=>
   intro i acc Z e ha q;have hi:i<l.length:=e▸hF (fi k);refine ao (hn _ _ _ q) ?_;have w:=h i l[i] acc Z (bL hi) q;rw[bL hi];refine a0 w λJ' w=>(show acc.length<aJ/\_ from⟨aQ (ha▸hi) hz,he _ _ _ _ (λx Z' w=>?_) w⟩)
   exact ih (i+1) _ _ ((cH i k).trans e) (by rw[bB,ha];rfl) w
 exact⟨_,key l.length 0 [] Z (aU _) rfl h0⟩
noncomputable abbrev vY(l:List (List UInt8)):List V:=l.map .bytes
theorem N6{K:List (List UInt8)}{b u:List UInt8}(h:u∈K):(iB K b).idxOf u=K.idxOf u:=by
 unfold iB;by_cases e:b∈K
 ·rw[if_pos e]
 ·rw[if_neg e,B0,if_pos h]
theorem EN{K:List (List UInt8)}{b u:List UInt8}(h:u∈K):u∈iB K b:=by
 unfold iB;by_cases e:b∈K
 ·rw[if_pos e];exact h
 ·rw[if_neg e];exact rq _ h
theorem Dd{K:List (List UInt8)}{b:List UInt8}:b∈iB K b:=by
 unfold iB;by_cases e:b∈K
 ·rw[if_pos e];exact e
 ·rw[if_neg e];exact rh _ (cJ.2 rfl)
theorem N7{K:List (List UInt8)}{b:List UInt8}:(iB K b).length<=K.length+1:=by
 unfold iB;by_cases e:b∈K
 ·rw[if_pos e];exact eN _
 ·rw[if_neg e,bB];exact aC _
noncomputable def cy(K:List (List UInt8))(l:List (List UInt8)):List (List UInt8):=l.foldl iB K
theorem pS{u:List UInt8}:∀(l:List (List UInt8)){K:List (List UInt8)},u∈K->u∈cy K l/\(cy K l).idxOf u=K.idxOf u:=λrr=>@(li (λ{_}h=>⟨h,rfl⟩)
 (λb l ih{_}h=>⟨(ih (EN h)).1,(ih (EN h)).2.trans (N6 h)⟩) rr)
theorem mE{u:List UInt8}:∀(l:List (List UInt8)){K:List (List UInt8)},u∈l->u∈cy K l
 |b::l,K,h=>(cq.1 h).elim (λe=>(pS l (e▸Dd)).1) λh=>mE l h
theorem De:∀(l:List (List UInt8)){K:List (List UInt8)},(cy K l).length<=K.length+l.length:=λrr=>@(li (λ{_}=>aC _)
 (λb l ih{K}=>ai (ih) (ai (kS N7 _) (dA (by rw[nH,cu,cb 1])))) rr)
theorem ym(K l:List (List UInt8))(b:List UInt8):cy K (l++[b])=iB (cy K l) b:=BY ..
theorem cY{c d m f:Nat}{fs:List (bG×V)}{Z:ae}(e:Z d=some (.attrs c fs))(h:lR c m=some f):oq Z (.inst c d) m=some f:=by
 show(gJ Z d).bind _ = _;rw[show gJ Z d=some (c,fs) by unfold gJ;rw[e];rfl];exact(if_pos rfl).trans h
theorem Dh{n d k:Nat}{K l:List (List UInt8)}{Z:ae}(hs:mS d k K Z)(hK:K.length+l.length<1000){Q:QV}
  (q:∀Z',mS d k (cy K l) Z'->(∀x,x≠d->x≠k->Z' x=Z x)->Q (.list (l.map λu=>nI ((cy K l).idxOf u))) Z'):Ph pF (n+2) 32 [.inst 1 d,.list (vY l)] Z Q:=by
 have hl:(vY l).length=l.length:=aY ..;refine ao rfl (FF (l:=vY l) (by rw[hl];exact ai (df ..) (ai (cv hK) (by decide)))
  (λi r Z'=>mS d k (cy K (l.take i)) Z'/\(∀x,x≠d->x≠k->Z' x=Z x)/\r=(l.take i).map λu=>nI ((cy K l).idxOf u)) (λ_ _ _ _=>rfl) ?_ (eX (cE pF _) _) ⟨hs,λ_ _ _=>rfl,rfl⟩ ?_)
 ·intro i v r Z' hv zz;refine g9 zz λN F e=>?_;clear zz;subst e;rw[cO]at hv;have hi:i<l.length:=pB λh=>by rw[fI h]at hv;exact nn hv
  rw[bL hi]at hv;injection hv with hv;subst hv
  have tk:l.take (i+1)=l.take i++[l[i]]:=by rw[xU,bL hi];rfl
  refine ao rfl (ao (cY N.at_d rfl) (Oi N (bC (De _) (bC (kU ((J9 ..)) _) hK)) λZ2 N2 F2=>⟨?_,λx a b=>(F2 x a b).trans (F x a b),?_⟩))
  ·rw[tk,ym];exact N2
  ·have w:=(pS (l.drop (i+1)) (Dd (K:=cy K (l.take i)) (b:=l[i]))).2;rw[<-ym,<-tk,show cy (cy K (l.take (i+1))) (l.drop (i+1))=cy K l by unfold cy;rw[<-BY,BC],tk,ym]at w;rw[tk,dy,<-w];rfl
 ·intro r Z' zz;refine g9 zz λN F e=>?_;clear zz;rw[hl,nJ]at N e;subst e;exact bX (q Z' N F)
theorem ME{n d:Nat}{Z:ae}(hd:Z d=none){Q:QV}(q:∀k Z',mS d k [] Z'->Z k=none->k≠d->(∀x,x≠d->x≠k->Z' x=Z x)->Q .none Z'):Ph pF (n+1) 30 [.inst 1 d] (ak Z d (.attrs 1 [])) Q:=by
 refine ao rfl (ao rfl λk hk=>?_);have kd:k≠d:=λe=>by rw[e,aP]at hk;cases hk
 have hk':Z k=none:=(aA kd).symm.trans hk;refine gU ((aA kd.symm).trans (aP ..)) rfl (dR rfl) ?_;refine gU (aP ..) rfl (dR rfl) ?_;refine gU (aP ..) rfl (dR rfl) (bX ?_);refine q k _ ⟨aP ..,λ_=>none,?_,λb=>rfl⟩ hk' kd λx a b=>?_
 ·rw[dX,dX,aA kd];exact aP ..
 ·rw[dX,dX,aA a,aA b,aA a]
noncomputable abbrev iE(K l:List (List UInt8)):List Int:=l.map λu=>((K.idxOf u:Nat):Int)
theorem Hy(K l:List (List UInt8)):(l.map λu=>nI (K.idxOf u))=vI (iE K l):=(ik ..).symm
theorem IQ(k:Nat)(b:Bool):(aR k [V.bool b]).flatten=vB (aR k b):=by
 induction k with
 |zero=>rfl
 |succ k ih=>exact congrArg (V.bool b::·) ih
theorem DV{n d:Nat}{Z:ae}(hd:Z d=none){a b:List (List UInt8)}(hl:a.length+b.length<1000){Q:QV}
  (q:∀s Z',s.d=d->s.A=iE (cy (cy [] a) b) a->s.B=iE (cy (cy [] a) b) b->gI s (aR a.length false) (aR b.length false) Z' ->
   Z s.g=none->Z s.h=none->Sub Z Z'->Q .none Z'):Ph pF (n+3) 33 [.inst 2 d,.list (vY a),.list (vY b)] (ak Z d (.attrs 2 [])) Q:=by
 refine ao rfl λe he=>ME he λk Z1 N hk ke F=>?_;have ed:e≠d:=λz=>by rw[z,aP]at he;cases he
 have kd:k≠d:=λz=>by rw[z,aP]at hk;cases hk
 refine ao rfl (ao (cY N.at_d rfl) (Dh N (bC (ai (dA (aU _)) (aL ..)) hl) λZ2 N2 F2=>?_));have d2:Z2 d=some (.attrs 2 []):=(F2 d ed.symm kd.symm).trans ((F d ed.symm kd.symm).trans (aP ..));refine gU d2 rfl (dR rfl) ?_;have N3:∀m,mS e k (cy [] a) (ak Z2 d m):=λm=>⟨(aA ed).trans N2.at_d,N2.at_k.imp λf h=>⟨(aA kd).trans h.1,h.2⟩⟩
 refine ao (cY (N3 _).at_d rfl) (Dh (N3 _) (bC (kS (ai (De a) (dA (aU _))) _) hl) λZ4 N4 F4=>?_);have d4:=(F4 d ed.symm kd.symm).trans (aP ..);refine gU d4 rfl (dR rfl) ?_;have la:((vY a).length:Int).toNat=a.length:=(hU _).trans (aY ..);have lb:((vY b).length:Int).toNat=b.length:=(hU _).trans (aY ..);have ba:a.length<=1000:=ai (aL ..) (cv hl);have bb:b.length<=1000:=ai (df ..) (cv hl);have w{z:Nat}(h:z<=1000):1*z<=aJ/\(z:Int)<=aJ/\-(2 ^ 63:Int)<=z:=⟨by rw[CP];exact ai h (by decide),gB.2 (ai h (by decide)),ko (by decide) (eL z)⟩
 have wa:=w ba;have wb:=w bb;refine ao rfl ⟨by rw[la];exact wa.1,by rw[aY];exact wa.2.1,by rw[aY];exact wa.2.2,λg hg=>?_⟩;have gd:g≠d:=λz=>by rw[z,aP]at hg;cases hg
 refine gU ((aA gd.symm).trans (aP ..)) rfl (dR rfl) ?_;refine ao rfl ⟨by rw[lb];exact wb.1,by rw[aY];exact wb.2.1,by rw[aY];exact wb.2.2,λh hh=>?_⟩;have hd':h≠d:=λz=>by rw[z,aP]at hh;cases hh
 refine gU ((aA hd'.symm).trans (aP ..)) rfl (dR rfl) ?_;have gh:g≠h:=λz=>by rw[<-z,aA gd,aP]at hh;cases hh
 have o:∀{z:Nat},z≠d->Z4 z=none->Z z=none:=λ{z}zd h4=>by
  by_cases ze:z=e
  ·rw[ze]at h4;exact absurd (h4.symm.trans N4.at_d) (by intro w;exact nn w)
  by_cases zk:z=k
  ·rw[zk]at h4;obtain⟨f,hf,_⟩:=N4.at_k;exact absurd (h4.symm.trans hf) (by intro w;exact nn w)
  rw[F4 z ze zk,aA zd,F2 z ze zk,F z ze zk,aA zd]at h4;exact h4
 have og:Z g=none:=o gd ((aA gd).symm.trans hg);have oh:Z h=none:=by
  rw[aA hd',aA gh.symm,aA hd']at hh;exact o hd' hh
 have eA:V.list (nS (λu=>nI (yp u (cy [] a))) a)=.list (vI (iE (cy (cy [] a) b) a)):=
  congrArg V.list ((List.map_congr_left λu hu=>congrArg nI (pS b (mE a hu)).2.symm).trans (Hy ..))
 have eB:V.list (nS (λu=>nI (yp u (cy (cy [] a) b))) b)=.list (vI (iE (cy (cy [] a) b) b)):=congrArg V.list (Hy ..);refine bX (q ⟨_,_,d,g,h⟩ _ rfl rfl rfl ⟨?_,?_,?_,gh⟩ og oh λx m hx=>?_)
 ·rw[aP,eA,eB];rfl
 ·rw[aA gd,aA gh,aA gd,aP,la,IQ]
 ·rw[aA hd',aP,lb,IQ]
 ·have nx{z:Nat}(hz:Z z=none):x≠z:=λw=>by rw[w,hz]at hx;exact nn hx
  have xd:=nx hd;have xe:=nx ((aA ed).symm.trans he);have xk:=nx ((aA kd).symm.trans hk);rw[aA xd,aA (nx oh),aA xd,aA (nx og),aA xd,F4 x xe xk,aA xd,F2 x xe xk,F x xe xk,aA xd];exact hx
section
inductive bg(A B:List Int)(G H:List Bool):Nat->Nat->Nat->Nat->Nat->Nat->Prop where
 |nil {x y}:bg A B G H x y x y 0 0
 |keep {x y X Y c d}:A[x]?=B[y]?->G[x]?=some false->H[y]?=some false->bg A B G H (x+1) (y+1) X Y c d->bg A B G H x y X Y c d
 |out {x y X Y c d}:G[x]?=some true->bg A B G H (x+1) y X Y c d->bg A B G H x y X Y (c+1) d
 |inn {x y X Y c d}:H[y]?=some true->bg A B G H x (y+1) X Y c d->bg A B G H x y X Y c (d+1)
inductive g7(G H:List Bool):Nat->Nat->List (Nat×Nat×Nat×Nat)->Prop where
 |fin:g7 G H G.length H.length []
 |skip {x y cs}:G[x]?=some false->H[y]?=some false->g7 G H (x+1) (y+1) cs->g7 G H x y cs
 |run {x y x' y' cs}:x<=x'->y<=y'->(∀i,x<=i->i<x'->G[i]?=some true)->(∀i,y<=i->i<y'->H[i]?=some true)->G[x']?≠some true->H[y']?≠some true->(x<x'\/y<y')->g7 G H x' y' cs->g7 G H x y ((x,x',y,y')::cs)
section
variable{A B:List Int}{G H:List Bool}
theorem bg.le{x y X Y c d:Nat}(h:bg A B G H x y X Y c d):x<=X/\y<=Y:=by
 induction h with
 |nil=>exact⟨aC _,aC _⟩
 |keep _ _ _ _ ih=>exact⟨cL ih.1,cL ih.2⟩
 |out _ _ ih=>exact⟨cL ih.1,ih.2⟩
 |inn _ _ ih=>exact⟨ih.1,cL ih.2⟩
theorem bg.outs{x y Y c d:Nat}(h:bg A B G H x y G.length Y c d):G[x]?=some true->∃c',bg A B G H (x+1) y G.length Y c' d:=by
 generalize e:G.length=X at h
 induction h with
 |nil=>intro g;rw[<-e,fI (aC _)]at g;exact nn g
 |keep _ g _ _ _=>intro g';rw[g]at g';cases g'
 |out _ h _=>exact λ_=>⟨_,h⟩
 |inn a _ ih=>exact λg=>(ih e g).imp λc' w=>.inn a w
theorem bg.inns{x y X c d:Nat}(h:bg A B G H x y X H.length c d):H[y]?=some true->∃d',bg A B G H x (y+1) X H.length c d':=by
 generalize e:H.length=Y at h
 induction h with
 |nil=>intro g;rw[<-e,fI (aC _)]at g;exact nn g
 |keep _ _ g _ _=>intro g';rw[g]at g';cases g'
 |inn _ h _=>exact λ_=>⟨_,h⟩
 |out a _ ih=>exact λg=>(ih e g).imp λc' w=>.out a w
theorem bg.keeps{x y X Y c d:Nat}(h:bg A B G H x y X Y c d)(hg:G[x]?≠some true)(hh:H[y]?≠some true):(x=X/\y=Y)\/(A[x]?=B[y]?/\G[x]?=some false/\H[y]?=some false/\bg A B G H (x+1) (y+1) X Y c d):=by
 cases h with
 |nil=>exact .inl ⟨rfl,rfl⟩
 |keep a b e h=>exact .inr ⟨a,b,e,h⟩
 |out g _=>exact absurd g hg
 |inn g _=>exact absurd g hh
end
section
variable{C:ax}{J:aj}{Z:ae}{a b:E}{v:V}{i:Nat}{l:List V}
theorem gV{g:Nat}(h:Z g=some (.list l)):cc Z g=some l:=by unfold cc;rw[h];rfl
theorem yS{g:Nat}(h:Z g=some (.list l)):lS Z (.ref g)=some l:=gV h
theorem kr{g:Nat}(h:Z g=some (.list l))(e:l[i]?=some v):eQ Z (.ref g) (nI i)=some v:=by
 unfold eQ;rw[yS h];show fF l (i:Int) = _;unfold fF;rw[if_pos (eL i),hU,e]
theorem qt(h:Ev C a J Z (.list l)):Ev C (.bi .len [a]) J Z (nI l.length):=λQ q=>h _ (ao rfl q)
theorem FO{l:List Int}(h:Ev C a J Z (.list (vI l))):Ev C (.bi .len [a]) J Z (nI l.length):=λQ q=>qt h Q (by rw[aY];exact q)
theorem vL{g:Nat}(h:Z g=some (.list l)):jG Z (.ref g)=some (g,l):=by
 show(cc Z g).map _ = _;rw[gV h];rfl
theorem ky{g:Nat}{x:V}{Q:QV}(h:Z g=some (.list l))(hl:l.length<aJ)(q:Q .none (ak Z g (.list (l++[x])))):qY Z (.ref g) .append [x] Q:=
 ao (vL h) (ao rfl ⟨hl,q⟩)
theorem i7{g:Nat}{b:BM}(h:Z g=some (.list l))(e:tA Z (.ref g) b=(jG Z (.ref g)).isSome):tA Z (.ref g) b=true:=by rw[e,vL h];rfl
end
end
section
def kK(Z:ae)(u:V)(G:List Bool):Prop:=u=.list (vB G)\/∃g,u=.ref g/\Z g=some (.list (vB G))
structure eP(A B:List Int)(G H:List Bool)where
 n:Nat
 Z:ae
 d:Nat
 u:V
 v:V
 f:Nat
 hd:Z d=some (.attrs 2 [(7,.list (vI A)),(8,.list (vI B)),(9,u),(10,v)])
 hu:kK Z u G
 hv:kK Z v H
 hf:Z f=none
noncomputable abbrev aV(c:Nat×Nat×Nat×Nat):V:=Ch c.1 c.2.1 c.2.2.1 c.2.2.2
noncomputable abbrev eP.st{A B:List Int}{G H:List Bool}(r:eP A B G H)(cs:List (Nat×Nat×Nat×Nat)):ae:=ak r.Z r.f (.list (cs.map aV))
noncomputable abbrev eP.C{A B:List Int}{G H:List Bool}(r:eP A B G H):ax:=Ph pF (r.n+1)
section
variable{A B:List Int}{G H:List Bool}(r:eP A B G H){cs:List (Nat×Nat×Nat×Nat)}{e u:E}{J:aj}{i:Nat}
theorem eP.nd{z:Nat}{m:M}(h:r.Z z=some m):z≠r.f:=λe=>sn (h.symm.trans ((congrArg r.Z e).trans r.hf))
theorem eP.off{z:Nat}{m:M}(h:r.Z z=some m):r.st cs z=some m:=(aA (r.nd h)).trans h
theorem eP.a(h:Ev r.C e J (r.st cs) (.inst 2 r.d)):Ev r.C (.bi .len [.a e 7]) J (r.st cs) (nI A.length):=FO (br h (dC (r.off r.hd) rfl rfl))
theorem eP.b(h:Ev r.C e J (r.st cs) (.inst 2 r.d)):Ev r.C (.bi .len [.a e 8]) J (r.st cs) (nI B.length):=FO (br h (dC (r.off r.hd) rfl rfl))
theorem RY{Z:ae}{l:List V}{i:Nat}{v:V}(e:l[i]?=some v):eQ Z (.list l) (nI i)=some v:=by
 show fF l (i:Int) = _;unfold fF;rw[if_pos (eL i),hU,e]
theorem kK.get{Z:ae}{w:V}{G:List Bool}{x:V}(h:kK Z w G)(e:(vB G)[i]?=some x):eQ Z w (nI i)=some x:=by
 rcases h with rfl|⟨g,rfl,hg⟩
 ·exact RY e
 ·exact kr hg e
theorem kK.off{Z:ae}{w:V}{G:List Bool}{f:Nat}{m:M}(h:kK Z w G)(hf:Z f=none):kK (ak Z f m) w G:=h.imp id λz_=>ar z_ λg e k=>⟨g,e,(aA λz=>by rw[z,hf]at k;exact nn k).trans k⟩
theorem Gg{G:List Bool}{C:ax}{Z:ae}{w:V}{a:E}(ha:Ev C a J Z w)(hw:kK Z w G)(hu:Ev C u J Z (nI i))(hi:i<G.length):aI C (.i a u) J Z (G[i]?=some true):=
 ⟨G[i],by rw[bL hi,Yt],bW ha hu (hw.get (by rw[cO,bL hi];rfl))⟩
theorem eP.g(h:Ev r.C e J (r.st cs) (.inst 2 r.d))(hu:Ev r.C u J (r.st cs) (nI i))(hi:i<G.length):aI r.C (.i (.a e 9) u) J (r.st cs) (G[i]?=some true):=
 Gg (br h (dC (r.off r.hd) rfl rfl)) (r.hu.off r.hf) hu hi
theorem eP.h(h:Ev r.C e J (r.st cs) (.inst 2 r.d))(hu:Ev r.C u J (r.st cs) (nI i))(hi:i<H.length):aI r.C (.i (.a e 10) u) J (r.st cs) (H[i]?=some true):=
 Gg (br h (dC (r.off r.hd) rfl rfl)) (r.hv.off r.hf) hu hi
end
section
variable{A B:List Int}{G H:List Bool}
theorem VQ(hn:A.length=G.length)(x y:Nat)(cs:List (Nat×Nat×Nat×Nat)) :
  ∃x',(x<=x'/\∀i,x<=i->i<x'->G[i]?=some true)/\¬(x'<G.length/\G[x']?=some true)/\∀(r:eP A B G H)(j:Unit)(Q:QO),
   (∀j:Unit,Q .next [some (.inst 2 r.d),some (.ref r.f),some (nI x'),some (nI y),some (nI x),some (nI y)] (r.st cs)) ->
   WS r.C (.whl (.o true [.m .lt (.x 2) (.bi .len [.a (.x 0) 7]),.i (.a (.x 0) 9) (.x 2)]) [.aug (.v 2) .add (.c (.int 1))]) [some (.inst 2 r.d),some (.ref r.f),some (nI x),some (nI y),some (nI x),some (nI y)] (r.st cs) Q:=
 fj (C:=eP.C) (λ(r:eP A B G H)(k:Nat)_=>[some (.inst 2 r.d),some (.ref r.f),some (nI k),some (nI y),some (nI x),some (nI y)]) (λr _=>r.st cs)
  (λk=>x<=k/\∀i,x<=i->i<k->G[i]?=some true) (λk=>G.length-k) (λk=>k<G.length/\G[k]?=some true)
  (λk hk r _=>iV (hn▸eZ (aa rfl) (r.a (aa rfl))) λh=>r.g (aa rfl) (aa rfl) h)
  (λk hk ht=>⟨k+1,⟨fy hk.1,λi a b=>(ka.1 b).elim (hk.2 i a) λz=>z▸ht.2⟩,kf ht.1 (bu _),λr _ Q q=>by exact q () _ (Sub.refl' _)⟩) x ⟨aC _,λi a b=>absurd b (bc.2 a)⟩
theorem VS(hm:B.length=H.length)(x x' y:Nat)(cs:List (Nat×Nat×Nat×Nat)) :
  ∃y',(y<=y'/\∀i,y<=i->i<y'->H[i]?=some true)/\¬(y'<H.length/\H[y']?=some true)/\∀(r:eP A B G H)(j:Unit)(Q:QO),
   (∀j:Unit,Q .next [some (.inst 2 r.d),some (.ref r.f),some (nI x'),some (nI y'),some (nI x),some (nI y)] (r.st cs)) ->
   WS r.C (.whl (.o true [.m .lt (.x 3) (.bi .len [.a (.x 0) 8]),.i (.a (.x 0) 10) (.x 3)]) [.aug (.v 3) .add (.c (.int 1))]) [some (.inst 2 r.d),some (.ref r.f),some (nI x'),some (nI y),some (nI x),some (nI y)] (r.st cs) Q:=
 fj (C:=eP.C) (λ(r:eP A B G H)(k:Nat)_=>[some (.inst 2 r.d),some (.ref r.f),some (nI x'),some (nI k),some (nI x),some (nI y)]) (λr _=>r.st cs)
  (λk=>y<=k/\∀i,y<=i->i<k->H[i]?=some true) (λk=>H.length-k) (λk=>k<H.length/\H[k]?=some true)
  (λk hk r _=>iV (hm▸eZ (aa rfl) (r.b (aa rfl))) λh=>r.h (aa rfl) (aa rfl) h)
  (λk hk ht=>⟨k+1,⟨fy hk.1,λi a b=>(ka.1 b).elim (hk.2 i a) λz=>z▸ht.2⟩,kf ht.1 (bu _),λr _ Q q=>by exact q () _ (Sub.refl' _)⟩) y ⟨aC _,λi a b=>absurd b (bc.2 a)⟩
end
end
section
section
variable{A B:List Int}{G H:List Bool}
theorem bg.outsN{x y Y d:Nat}:∀{k c:Nat},bg A B G H x y G.length Y c d->(∀i,x<=i->i<x+k->G[i]?=some true)->∃c',bg A B G H (x+k) y G.length Y c' d
 :=λ{k}=>@(ni (λ{c}h _=>⟨c,h⟩) (λk ih{c}h g=>(ih h λi a b=>g i a (eM b)).elim λc' h=>h.outs (g _ (aL ..) (bu _))) k)
theorem bg.innsN{x y X c:Nat}:∀{k d:Nat},bg A B G H x y X H.length c d->(∀i,y<=i->i<y+k->H[i]?=some true)->∃d',bg A B G H x (y+k) X H.length c d'
 :=λ{k}=>@(ni (λ{d}h _=>⟨d,h⟩) (λk ih{d}h g=>(ih h λi a b=>g i a (eM b)).elim λc' h=>h.inns (g _ (aL ..) (bu _))) k)
theorem gj{C:ax}{J:aj}{Z:ae}{Q:List V->ae->Prop}(h:Q [] Z):eh C [] J Z Q:=h
theorem u0{x:Nat}(h:¬(x<G.length/\G[x]?=some true)):G[x]?≠some true:=λe=>h ⟨pB λz=>(by rw[fI z]at e;exact nn e),e⟩
abbrev Ba:=Nat×Nat×List (Nat×Nat×Nat×Nat)
def cI(A B:List Int)(G H:List Bool)(s:Ba):Prop:=(∃c d,bg A B G H s.1 s.2.1 G.length H.length c d)/\s.2.2.length<=s.1+s.2.1/\∀cs',g7 G H s.1 s.2.1 cs'->g7 G H 0 0 (s.2.2++cs')
noncomputable def cR(r:eP A B G H)(s:Ba)(j:Option V×Option V):aj:=[some (.inst 2 r.d),some (.ref r.f),some (nI s.1),some (nI s.2.1),j.1,j.2]
noncomputable def cB:List S:=[.s (.vs [4,5]) (.tup [.x 2,.x 3]),.whl (.o true [.m .lt (.x 2) (.bi .len [.a (.x 0) 7]),.i (.a (.x 0) 9) (.x 2)]) [.aug (.v 2) .add (.c (.int 1))],
   .whl (.o true [.m .lt (.x 3) (.bi .len [.a (.x 0) 8]),.i (.a (.x 0) 10) (.x 3)]) [.aug (.v 3) .add (.c (.int 1))],
   .ite (.o false [.m .gt (.x 2) (.x 4),.m .gt (.x 3) (.x 5)])
    [.ex (.bm (.x 1) .append [.new true 0 [.x 4,.x 2,.x 5,.x 3]])] [.aug (.v 2) .add (.c (.int 1)),.aug (.v 3) .add (.c (.int 1))]]
theorem L8(hn:A.length=G.length)(hm:B.length=H.length)(hz:G.length+H.length<=1000)(x y:Nat)(cs:List (Nat×Nat×Nat×Nat))(hs:cI A B G H (x,y,cs))(ht:x<G.length\/y<H.length) :
  ∃s':Ba,cI A B G H s'/\G.length+H.length-(s'.1+s'.2.1)<G.length+H.length-(x+y)/\∀(r:eP A B G H)j(Q:QO),(∀j' Z,Sub (r.st s'.2.2) Z->Q .next (cR r s' j') Z)->az r.C cB (cR r (x,y,cs) j) (r.st cs) Q:=by
 refine g9 hs λpp00_ hk hc=>?_;obtain⟨c,d,hl⟩:=pp00_;refine cm (VQ (B:=B) (H:=H) hn x y cs) λx' pp11_ a3 a4=>?_;obtain⟨a1,a2⟩:=pp11_;refine cm (VS (A:=A) (G:=G) hm x x' y cs) λy' pp21_ b3 b4=>?_;obtain⟨b1,b2⟩:=pp21_;have le:=hl.le;have hlt:x+y<G.length+H.length:=ht.elim (λh=>Jn h le.2) λh=>Jm le.1 h;have hr:∀(r:eP A B G H)j(Q:QO),WS r.C (.ite (.o false [.m .gt (.x 2) (.x 4),.m .gt (.x 3) (.x 5)])
    [.ex (.bm (.x 1) .append [.new true 0 [.x 4,.x 2,.x 5,.x 3]])] [.aug (.v 2) .add (.c (.int 1)),.aug (.v 3) .add (.c (.int 1))]) [some (.inst 2 r.d),some (.ref r.f),some (nI x'),some (nI y'),some (nI x),some (nI y)] (r.st cs) Q->az r.C cB (cR r (x,y,cs) j) (r.st cs) Q:=
  λr j Q q=>⟨rfl,a4 r () _ λ_=>b4 r () _ λ_=>vg (cE pF _) _ _ _ _ _ (λo J Z w=>by
   cases o with
   |next=>exact w
   |ret v=>exact w) q⟩
 clear a4 b4;have tv:∀r:eP A B G H,aI r.C (.o false [.m .gt (.x 2) (.x 4),.m .gt (.x 3) (.x 5)]) [some (.inst 2 r.d),some (.ref r.f),some (nI x'),some (nI y'),some (nI x),some (nI y)] (r.st cs) (x<x'\/y<y'):=
  λr=>iX (iW (aa rfl) (aa rfl)) λ_=>iW (aa rfl) (aa rfl)
 by_cases e:x<x'\/y<y'
 ·obtain⟨j,rfl⟩:=bS a1;obtain⟨k,rfl⟩:=bS b1;have lt:x+y<x+j+(y+k):=e.elim (λh=>Jn h b1) λh=>Jm a1 h;refine⟨(x+j,y+k,cs++[(x,x+j,y,y+k)]),⟨(hl.outsN a2).elim λc hl=>(hl.innsN b2).elim λd hl=>⟨c,d,hl⟩,?_,λcs' h=>?_⟩,kf hlt lt,λr j' Q q=>hr r _ _ (dF (tv r) e ?_)⟩
  ·rw[bB];exact ai (cK hk) lt
  ·rw[eU];exact hc _ (.run a1 b1 a2 b2 (u0 a3) (u0 b3) e h)
  ·have len:(cs.map aV).length<aJ:=by rw[aY];exact bC hk (fL hlt (bC hz (by decide)))
   refine⟨i7 (aP ..) rfl,λz hd=>G8 hd (gj (ky (l:=cs.map aV) (aP ..) len (ao rfl ?_)))⟩;have q:=q (some (nI x),some (nI y)) _ (Sub.refl' _);rw[eP.st,dy]at q;rw[dX];exact q
 ·have ex:x'=x:=cX (bc.1 λh=>e (.inl h)) a1;have ey:y'=y:=cX (bc.1 λh=>e (.inr h)) b1;subst ex;subst ey;rcases hl.keeps (u0 a3) (u0 b3) with h|⟨h1,h2,h3,h4⟩
  ·exact absurd hlt (bc.2 (dA (congr (congrArg HAdd.hAdd h.1.symm) h.2.symm)))
  ·exact⟨(x'+1,y'+1,cs),⟨⟨c,d,h4⟩,ai hk (fh (eN _) (eN _)),λcs' h=>hc _ (.skip h2 h3 h)⟩,kf hlt (Nat.add_lt_add (bu _) (bu _)),
    λr j Q q=>hr r _ _ (bH (tv r) e (q (some (nI x'),some (nI y')) _ (Sub.refl' _)))⟩
theorem C6(hn:A.length=G.length)(hm:B.length=H.length)(hz:G.length+H.length<=1000){c d:Nat}(hl:bg A B G H 0 0 G.length H.length c d) :
  ∃cs,g7 G H 0 0 cs/\∀n Z d u v,Z d=some (.attrs 2 [(7,.list (vI A)),(8,.list (vI B)),(9,u),(10,v)])->kK Z u G->kK Z v H->∀Q:QV,Q (.list (cs.map aV)) Z->Ph pF (n+2) 37 [.inst 2 d] Z Q:=by
 obtain⟨⟨x,y,cs⟩,⟨⟨c',d',hl'⟩,_,hc⟩,ht,run⟩:=fj (C:=eP.C) (c:=.o false [.m .lt (.x 2) (.bi .len [.a (.x 0) 7]),.m .lt (.x 3) (.bi .len [.a (.x 0) 8])]) (b:=cB) (cR (A:=A) (B:=B) (G:=G) (H:=H)) (λr s=>r.st s.2.2) (cI A B G H)
  (λs=>G.length+H.length-(s.1+s.2.1)) (λs=>s.1<G.length\/s.2.1<H.length)
  (λs hs r j=>iX (hn▸eZ (aa rfl) (r.a (aa rfl))) λ_=>hm▸eZ (aa rfl) (r.b (aa rfl)))
  (λs hs ht=>L8 hn hm hz s.1 s.2.1 s.2.2 hs ht)
  (0,0,[]) ⟨⟨c,d,hl⟩,aC _,λ_ h=>h⟩
 have le:=hl'.le;have ex:x=G.length:=cX le.1 (bc.1 λh=>ht (.inl h));have ey:y=H.length:=cX le.2 (bc.1 λh=>ht (.inr h));subst ex;subst ey;exact⟨cs,gP cs▸hc [] .fin,λn Z d u v hd hu hv Q q f hf=>⟨rfl,run ⟨n,Z,d,u,v,f,hd,hu,hv,hf⟩ (none,none) _ λj=>
  t7 (aP ..) hf (λz m h=>(aA λe=>by rw[e,hf]at h;exact nn h).trans h) q⟩⟩
end
end
section
inductive aD(e:Nat->Nat->Prop):Nat->Nat->Nat->Nat->Nat->Prop where
 |nil {x y}:aD e x y x y 0
 |keep {x y X Y c}:e x y->aD e (x+1) (y+1) X Y c->aD e x y X Y c
 |out {x y X Y c}:aD e (x+1) y X Y c->aD e x y X Y (c+1)
 |inn {x y X Y c}:aD e x (y+1) X Y c->aD e x y X Y (c+1)
section
variable{e e':Nat->Nat->Prop}{x y X Y c d:Nat}
theorem aD.le(h:aD e x y X Y c):x<=X/\y<=Y:=by
 induction h with
 |nil=>exact⟨aC _,aC _⟩
 |keep _ _ ih=>exact⟨cL ih.1,cL ih.2⟩
 |out _ ih=>exact⟨cL ih.1,ih.2⟩
 |inn _ ih=>exact⟨ih.1,cL ih.2⟩
theorem aD.append{X' Y' c':Nat}(h:aD e x y X Y c)(k:aD e X Y X' Y' c'):aD e x y X' Y' (c'+c):=by
 induction h with
 |nil=>exact k
 |keep a _ ih=>exact .keep a (ih k)
 |out _ ih=>exact .out (ih k)
 |inn _ ih=>exact .inn (ih k)
theorem aD.kept(h:aD e x y X Y c):∃k i j,X=x+k+i/\Y=y+k+j/\c=i+j:=by
 induction h with
 |nil=>exact⟨0,0,0,rfl,rfl,rfl⟩
 |keep _ _ ih=>obtain⟨k,i,j,h,h1,h2⟩:=ih;exact⟨k+1,i,j,h.trans (congrArg (·+i) (cH _ k)),h1.trans (congrArg (·+j) (cH _ k)),h2⟩
 |out _ ih=>obtain⟨k,i,j,h,h1,h2⟩:=ih;exact⟨k,i+1,j,h.trans (by rw[dK _ 1 k,dK _ 1 i];rfl),h1,h2▸(mB i j).symm⟩
 |inn _ ih=>obtain⟨k,i,j,h,h1,h2⟩:=ih;exact⟨k,i,j+1,h,h1.trans (by rw[dK _ 1 k,dK _ 1 j];rfl),h2▸rfl⟩
theorem aD.inns(x y:Nat):∀j,aD e x y x (y+j) j
 |0=>.nil
 |j+1=>.inn ((cH y j)▸aD.inns x (y+1) j)
theorem aD.all(x y j:Nat):∀i,aD e x y (x+i) (y+j) (j+i)
 |0=>aD.inns x y j
 |i+1=>(cH x i)▸.out (aD.all (x+1) y j i)
theorem aD.edits(h:x<=X)(k:y<=Y):aD e x y X Y (Y-y+(X-x)):=by
 obtain⟨i,rfl⟩:=bS h;obtain⟨j,rfl⟩:=bS k;rw[cD,cD];exact aD.all x y j i
theorem aD.flip(h:aD e x y X Y c):aD (λi j=>e j i) y x Y X c:=by
 induction h with
 |nil=>exact .nil
 |keep a _ ih=>exact .keep a ih
 |out _ ih=>exact .inn ih
 |inn _ ih=>exact .out ih
theorem aD.mono(m:∀i j,e i j->x<=i->y<=j->i<X->j<Y->e' i j)(h:aD e x y X Y c):aD e' x y X Y c:=by
 induction h with
 |nil=>exact .nil
 |keep a h ih=>exact .keep (m _ _ a (aC _) (aC _) h.le.1 h.le.2) (ih λi j a b c=>m i j a (cL b) (cL c))
 |out _ ih=>exact .out (ih λi j a b c=>m i j a (cL b) c)
 |inn _ ih=>exact .inn (ih λi j a b c=>m i j a b (cL c))
theorem aD.down(h:aD e x y X Y c):y<Y->∃c',c'<=c+1/\aD e x (y+1) X Y c':=by
 induction h with
 |nil=>exact λh=>absurd h (gQ _)
 |keep a h _=>exact λ_=>⟨_,aC _,.out h⟩
 |out _ ih=>exact λk=>(ih k).elim λc' h=>⟨c'+1,cK h.1,.out h.2⟩
 |inn h _=>exact λ_=>⟨_,ai (eN _) (eN _),h⟩
theorem aD.right(h:aD e x y X Y c)(k:x<X):∃c',c'<=c+1/\aD e (x+1) y X Y c':=(h.flip.down k).imp λc' h=>⟨h.1,h.2.flip⟩
theorem aD.diag(h:aD e x y X Y c)(k:x<X)(l:y<Y):∃c',c'<=c/\aD e (x+1) (y+1) X Y c':=by
 cases h with
 |nil=>exact absurd k (gQ _)
 |keep a h=>exact⟨c,aC _,h⟩
 |out h=>exact h.down l
 |inn h=>exact h.right k
theorem aD.diags:∀{m c:Nat},aD e x y X Y c->x+m<=X->y+m<=Y->∃c',c'<=c/\aD e (x+m) (y+m) X Y c'
 :=λ{m}=>@(ni (λ{c}h _ _=>⟨c,aC _,h⟩) (λm ih{c}h k l=>(ih h (cL k) (cL l)).elim λc' h=>(h.2.diag k l).imp λc'' h'=>⟨ai h'.1 h.1,h'.2⟩) m)
theorem uG{x x' X X' w:Nat}(p:x+x'=w)(r:X+X'=w)(l:x+1<=X):∃z,x'=z+1/\x+1+z=w:=⟨x'-1,by exact⟨bE [_,_] [] .v0 (.a .v1 .k1) [(1,.en (.a .v1 .k1) .v0)] rfl (aZ (au [_,_,_,_,_] [] (.ln .k1 .v0) 1 [(-1,.en (.a .v1 .v0) .v2),(1,.en (.a .v3 .v4) .v2),(1,.ln (.a .v1 .k1) .v3)] rfl p r l)),bE [_,_,_,_] [] (.a (.a .v0 .k1) .v1) .v2 [(-1,.en (.a .v0 .v3) .v2),(-1,.en (.a .v1 .k1) .v3)] rfl p (aZ (au [_,_,_,_,_] [] (.ln .k1 .v0) 1 [(-1,.en (.a .v1 .v0) .v2),(1,.en (.a .v3 .v4) .v2),(1,.ln (.a .v1 .k1) .v3)] rfl p r l))⟩⟩
theorem aD.back{w t:Nat}(m:∀i j i' j',i+i'+1=w->j+j'+1=t->e i j->e' i' j')(h:aD e x y X Y c):∀{x' y' X' Y'},x+x'=w->y+y'=t->X+X'=w->Y+Y'=t->aD e' X' Y' x' y' c:=by
 induction h with
 |nil=>intro x' y' X' Y' a b c d;cases um (a.trans c.symm);cases um (b.trans d.symm);exact .nil
 |keep a h ih=>
  intro x' y' X' Y' p q r s;obtain⟨x'',rfl,p'⟩:=uG p r h.le.1;obtain⟨y'',rfl,q'⟩:=uG q s h.le.2;have z:=(ih p' q' r s).append (.keep (m _ _ x'' y'' p q a) .nil);rw[aU]at z;exact z
 |@out x y X Y c h ih=>
  intro x' y' X' Y' p q r s;obtain⟨x'',rfl,p'⟩:=uG p r h.le.1;exact cb 1 c▸(ih p' q r s).append (.out .nil)
 |@inn x y X Y c h ih=>
  intro x' y' X' Y' p q r s;obtain⟨y'',rfl,q'⟩:=uG q s h.le.2;exact cb 1 c▸(ih p q' r s).append (.inn .nil)
theorem Ao{i i' w:Nat}(h:i+i'+1=w):w-1-i'=i:=by rw[<-h];exact BP i i'
theorem GG{i i' w:Nat}(h:i+i'+1=w):w-1-i=i':=Ao (cb i i'▸h)
theorem aD.diagsE{m p q:Nat}(h:aD e x y (x+p+m) (y+q+m) c):∃c',c'<=c/\aD e x y (x+p) (y+q) c':=by
 have z:=h.back (w:=x+p+m) (t:=y+q+m) (e':=λi j=>e (x+p+m-1-i) (y+q+m-1-j)) (λi j i' j' a b q=>by rw[Ao a,Ao b];exact q)
  (x':=p+m) (y':=q+m) (X':=0) (Y':=0) (cu x p m).symm (cu y q m).symm rfl rfl
 refine ar (z.diags (m:=m) (ai (dA (aU m)) (df m p)) (ai (dA (aU m)) (df m q))) λc' h1 h2=>?_;rw[aU]at h2;exact⟨c',h1,h2.back (w:=x+p+m) (t:=y+q+m) (λi j i' j' a b q=>by rw[GG a,GG b]at q;exact q) (cb ..) (cb ..) ((cb ..).trans (cu x p m).symm) ((cb ..).trans (cu y q m).symm)⟩
end
end
section
section
variable{e e':Nat->Nat->Prop}{x y X Y c d w t:Nat}
theorem aD.nokeep(b:∀i j,e i j->i<w)(h:aD e x y X Y c):w<=x->∃i j,X=x+i/\Y=y+j/\c=i+j:=by
 induction h with
 |nil=>exact λ_=>⟨0,0,rfl,rfl,rfl⟩
 |keep a _ _=>exact λl=>absurd (b _ _ a) (bc.2 l)
 |out _ ih=>exact λl=>(ih (fy l)).elim λi h=>h.elim λj h=>⟨i+1,j,h.1.trans (cH _ i),h.2.1,h.2.2▸(mB i j).symm⟩
 |inn _ ih=>exact λl=>(ih l).elim λi h=>h.elim λj h=>⟨i,j+1,h.1,h.2.1.trans (cH _ j),h.2.2▸rfl⟩
theorem aD.cut(b:∀i j,e i j->i<w)(h:aD e x y X Y c):∀{s},X=w+s->x<=w->∃c',c'+s<=c/\aD e x y w Y c':=by
 induction h with
 |@nil x y=>
  intro s h l;have z:s=0:=yh.1 (Jv (h▸l));subst z;exact⟨0,aC _,h▸.nil⟩
 |keep a _ ih=>exact λh l=>(ih h (b _ _ a)).imp λc' h=>⟨h.1,.keep a h.2⟩
 |@out x y X Y c k ih=>
  intro s h l;rcases jg l with q|q
  ·exact(ih h q).elim λc' h=>⟨c'+1,mB c' s▸cK h.1,.out h.2⟩
  ·refine cp (k.nokeep b (q▸eN _)) λi j h1 h2 h3=>?_;subst q;subst h2;subst h3;exact⟨j,by exact au [_,_,_,_,_] [] (.ln (.a .v0 .v1) (.a (.a .v2 .v0) .k1)) 1 [(1,.en .v3 (.a (.a .v4 .k1) .v2)),(-1,.en .v3 (.a .v4 .v1))] rfl h1 h,aD.inns x y j⟩
 |inn _ ih=>exact λh l=>(ih h l).elim λc' h=>⟨c'+1,mB c' _▸cK h.1,.inn h.2⟩
theorem aD.cutY(b:∀i j,e i j->j<t)(h:aD e x y X Y c){s}(k:Y=t+s)(l:y<=t):∃c',c'+s<=c/\aD e x y X t c':=
 (h.flip.cut (λi j=>b j i) k l).imp λc' h=>⟨h.1,h.2.flip⟩
theorem aD.split{a b:Nat}(h:aD e x y X Y c):c=a+b->∃i j,aD e x y i j a/\aD e i j X Y b:=by
 induction h generalizing a with
 |nil=>intro h;obtain⟨rfl,rfl⟩:=Kk.1 h.symm;exact⟨_,_,.nil,.nil⟩
 |keep q h ih=>exact λk=>(ih k).elim λi z=>z.elim λj z=>⟨i,j,.keep q z.1,z.2⟩
 |out h ih=>
  intro k
  match a,k with
  |0,k=>exact⟨_,_,.nil,(k.trans (aU b))▸.out h⟩
  |a+1,k=>exact(ih (iI (k.trans (mB a b)))).elim λi z=>z.elim λj z=>⟨i,j,.out z.1,z.2⟩
 |inn h ih=>
  intro k
  match a,k with
  |0,k=>exact⟨_,_,.nil,(k.trans (aU b))▸.inn h⟩
  |a+1,k=>exact(ih (iI (k.trans (mB a b)))).elim λi z=>z.elim λj z=>⟨i,j,.inn z.1,z.2⟩
theorem SJ{D x j u v d₁ d₂:Nat}(bw:∀i j,e i j->i<w)(bt:∀i j,e i j->j<t)(m:∀i j i' j',i+i'+1=w->j+j'+1=t->e' i' j'->e i j)(least:∀c,aD e 0 0 w t c->D<=c)(hD:d₁+d₂<=D)
  (h:aD e 0 0 x j d₁) (k:aD e' 0 0 u v d₂) (hw:w<=x+u) (ht:x+u+t=w+j+v):x<=w/\j<=t/\∃c,c<=d₂/\aD e x j w t c:=by
 refine kR k.kept λz p q k1 k2 k3=>?_;by_cases hx:x<=w
 ·by_cases hj:j<=t
  ·refine⟨hx,hj,?_⟩;obtain⟨x',rfl⟩:=bS hx;obtain⟨j',rfl⟩:=bS hj;obtain⟨r,hr⟩:=bS (Jv hw);have hv:v=j'+r:=by exact bE [_,_,_,_,_,_,_] [] .v0 (.a .v1 .v2) [(1,.en (.a (.a .v3 .v4) (.a .v5 .v1)) (.a (.a (.a .v3 .v6) .v5) .v0)),(-1,.en .v4 (.a .v6 .v2))] rfl ht hr
   subst hr;subst hv;have k':aD e' 0 0 (0+x'+r) (0+j'+r) d₂:=by rw[aU,aU];exact k
   refine ar k'.diagsE λc c1 c2=>?_;rw[aU,aU]at c2;exact⟨c,c1,c2.back (λi j i' j' a b q=>m i' j' i j (cb i i'▸a) (cb j j'▸b) q) (aU _) (aU _) (cb ..) (cb ..)⟩
  ·obtain⟨r,rfl⟩:=bS (xZ hj);obtain⟨c,c1,c2⟩:=h.cutY bt rfl (bJ _);have tq:=least _ (c2.append (aD.edits hx (aC t)));exfalso;exact fS [_,_,_,_,_,_,_,_,_,_,_,_,_,_,_] [] [(1,.ln (.a .v0 .v1) .v2),(1,.en .v3 (.a (.a .k0 .v4) .v5)),(-1,.en .v6 (.a (.a .k0 .v4) .v7)),(-1,.en .v1 (.a .v5 .v7)),(-1,.en (.a (.a .v8 .v3) .v9) (.a (.a (.v 10) (.a .v9 (.v 11))) .v6)),(2,.tn .v9 (.a .v9 (.v 11))),(1,.ln (.a (.v 12) (.v 11)) .v0),(1,.ln .v2 (.a (.a (.v 13) (.v 14)) (.v 12))),(1,.en (.a (.v 13) .v9) .v9),(1,.en (.a (.v 14) .v8) (.v 10))] rfl hD k1 k2 k3 ht (gT.1 hj) c1 tq (aZ (au [_] [] (.ln .v0 .v0) 1 [] rfl)) (aZ hx)
 ·obtain⟨s,rfl⟩:=bS (xZ hx);obtain⟨c,c1,c2⟩:=h.cut bw rfl (bJ _);by_cases hj:j<=t
  ·have tq:=least _ (c2.append (aD.edits (aC w) hj));exfalso;exact fS [_,_,_,_,_,_,_,_,_,_,_,_,_,_,_] [] [(1,.ln (.a .v0 .v1) .v2),(-1,.en .v3 (.a (.a .k0 .v4) .v5)),(1,.en .v6 (.a (.a .k0 .v4) .v7)),(-1,.en .v1 (.a .v5 .v7)),(1,.en (.a (.a (.a .v8 .v9) .v3) (.v 10)) (.a (.a .v8 (.v 11)) .v6)),(2,.tn .v8 (.a .v8 .v9)),(1,.ln (.a (.v 12) .v9) .v0),(1,.ln .v2 (.a (.a (.v 13) (.v 14)) (.v 12))),(1,.en (.a (.v 13) (.v 11)) (.v 10)),(1,.en (.a (.v 14) .v8) .v8)] rfl hD k1 k2 k3 ht (gT.1 hx) c1 tq (aZ hj) (aZ (au [_] [] (.ln .v0 .v0) 1 [] rfl))
  ·obtain⟨r,rfl⟩:=bS (xZ hj);obtain⟨c',c3,c4⟩:=c2.cutY bt rfl (bJ _);have tq:=least _ c4;exfalso;exact fS [_,_,_,_,_,_,_,_,_] [] [(1,.ln (.a .v0 .v1) .v2),(1,.tn .v3 (.a .v3 .v4)),(1,.ln (.a .v5 .v4) .v0),(1,.tn .v6 (.a .v6 .v7)),(1,.ln (.a .v8 .v7) .v5),(1,.ln .v2 .v8)] rfl hD (gT.1 hx) c1 (gT.1 hj) c3 tq
theorem aD.last(h:aD e x y X Y c):(∃m,X=x+m/\Y=y+m/\c=0/\∀t,t<m->e (x+t) (y+t)) \/
  ∃x₁ y₁ x₂ y₂ m c',c=c'+1/\aD e x y x₁ y₁ c'/\((x₂=x₁+1/\y₂=y₁)\/(x₂=x₁/\y₂=y₁+1))/\X=x₂+m/\Y=y₂+m/\∀t,t<m->e (x₂+t) (y₂+t):=by
 have key:∀{x y x' y' X Y c},((x'=x+1/\y'=y)\/(x'=x/\y'=y+1))->(∀{X Y c},aD e x' y' X Y c->aD e x y X Y (c+1))->((∃m,X=x'+m/\Y=y'+m/\c=0/\∀t,t<m->e (x'+t) (y'+t)) \/
   ∃x₁ y₁ x₂ y₂ m c',c=c'+1/\aD e x' y' x₁ y₁ c'/\((x₂=x₁+1/\y₂=y₁)\/(x₂=x₁/\y₂=y₁+1))/\X=x₂+m/\Y=y₂+m/\∀t,t<m->e (x₂+t) (y₂+t)) ->
   ∃x₁ y₁ x₂ y₂ m c',c+1=c'+1/\aD e x y x₁ y₁ c'/\((x₂=x₁+1/\y₂=y₁)\/(x₂=x₁/\y₂=y₁+1))/\X=x₂+m/\Y=y₂+m/\∀t,t<m->e (x₂+t) (y₂+t):=by
  intro x y x' y' X Y c s f h;rcases h with⟨m,h1,h2,h3,h4⟩|⟨x₁,y₁,x₂,y₂,m,c',h1,h2,h3,h4⟩
  ·exact⟨x,y,x',y',m,0,congrArg (·+1) h3,.nil,s,h1,h2,h4⟩
  ·exact⟨x₁,y₁,x₂,y₂,m,c'+1,congrArg (·+1) h1,f h2,h3,h4⟩
 induction h with
 |nil=>exact .inl ⟨0,rfl,rfl,rfl,λt h=>absurd h (dM t)⟩
 |@keep x y X Y c a _ ih=>
  rcases ih with⟨m,h1,h2,h3,h4⟩|⟨x₁,y₁,x₂,y₂,m,c',h1,h2,h3⟩
  ·refine .inl ⟨m+1,h1.trans (cH x m),h2.trans (cH y m),h3,λt ht=>?_⟩
   match t,ht with
   |0,_=>exact a
   |t+1,ht=>exact cH x t▸cH y t▸h4 t (ff ht)
  ·exact .inr ⟨x₁,y₁,x₂,y₂,m,c',h1,.keep a h2,h3⟩
 |out _ ih=>exact .inr (key (.inl ⟨rfl,rfl⟩) (λh=>.out h) ih)
 |inn _ ih=>exact .inr (key (.inr ⟨rfl,rfl⟩) (λh=>.inn h) ih)
def Gd(e:Nat->Nat->Prop)(d:Nat)(k:Int)(o:Option Nat):Prop:=
 (∀x,o=some x->∃j:Nat,(x:Int)=j+k/\aD e 0 0 x j d)/\∀x j c:Nat,(x:Int)=j+k->aD e 0 0 x j c->c<=d->∃z,o=some z/\x<=z
theorem RW{f:Int->Option Nat}{k:Int}(h0:¬e 0 0)(hl:Gd e d (k-1) (f (k-1)))(hr:Gd e d (k+1) (f (k+1))){z:Nat}
  (z1:∀a,f (k-1)=some a->a+1<=z) (z2:∀a,f (k+1)=some a->a<=z) (z3:(∃a,f (k-1)=some a/\z=a+1)\/f (k+1)=some z) :
  ∃j:Nat,(z:Int)=j+k/\∀m,(∀t,t<m->e (z+t) (j+t))->¬e (z+m) (j+m)->Gd e (d+1) k (some (z+m)):=by
 have hz:∃j:Nat,(z:Int)=j+k/\aD e 0 0 z j (d+1):=by
  rcases z3 with⟨a,h1,h2⟩|h1
  ·refine ar (hl.1 a h1) λj h3 h4=>?_;exact⟨j,by exact bR [_,_,_] [_] .c0 (.a .c1 .v0) [(-1,.en .v0 (.a .v2 .k1)),(-1,.ei .c2 (.a .c1 (.s .v0 .k1)))] rfl h2 h3,cb 1 d▸h2▸h4.append (.out .nil)⟩
  ·refine ar (hr.1 z h1) λj h3 h4=>?_;exact⟨j+1,by exact bR [_,_] [_] .c0 (.a (.c (.a .v1 .k1)) .v0) [(-1,.ei .c0 (.a .c1 (.a .v0 .k1)))] rfl h3,cb 1 d▸h4.append (.inn .nil)⟩
 refine ar hz λj hj hw=>?_;refine⟨j,hj,λm hm hn=>⟨λx hx=>?_,λx y c hx h hc=>⟨_,rfl,?_⟩⟩⟩
 ·injection hx with hx;subst hx
  have K:∀m,(∀t,t<m->e (z+t) (j+t))->aD e z j (z+m) (j+m) 0:=by
   intro m;induction m with
   |zero=>exact λ_=>.nil
   |succ m ih=>exact λh=>(ih λt ht=>h t (eM ht)).append (.keep (h m (bu m)) .nil)
  exact⟨j+m,by exact bR [_,_,_] [_] (.c (.a .v0 .v1)) (.a (.c (.a .v2 .v1)) .v0) [(-1,.ei .c0 (.a .c2 .v0))] rfl hj,aU (d+1)▸hw.append (K m hm)⟩
 ·rcases h.last with⟨i,h1,h2,h3,h4⟩|⟨x₁,y₁,x₂,y₂,i,c',h1,h2,h3,h4,h5,h6⟩
  ·match i,h4 with
   |0,_=>exact h1▸bJ _
   |i+1,h4=>exact absurd (h4 0 (fi i)) h0
  ·have hx2:x₂<=z:=by
    rcases h3 with⟨h3,h3'⟩|⟨h3,h3'⟩
    ·refine ar (hl.2 x₁ y₁ c' (by exact bR [_,_,_,_,_,_,_] [_] .c0 (.a .c1 (.s .v0 .k1)) [(-1,.ei .c2 (.a .c3 .v0)),(1,.en .v2 (.a .v4 .v5)),(-1,.en .v3 (.a .v6 .v5)),(1,.en .v4 (.a .v0 .k1)),(-1,.en .v6 .v1)] rfl hx h4 h5 h3 h3') h2 (by exact au [_,_,_] [] (.ln .v0 .v1) 1 [(1,.ln .v2 (.a .v1 .k1)),(-1,.en .v2 (.a .v0 .k1))] rfl hc h1)) λa a1 a2=>?_;exact h3▸ai (cK a2) (z1 a a1)
    ·refine ar (hr.2 x₁ y₁ c' (by exact bR [_,_,_,_,_,_,_] [_] .c0 (.a .c1 (.a .v0 .k1)) [(-1,.ei .c2 (.a .c3 .v0)),(1,.en .v2 (.a .v4 .v5)),(-1,.en .v3 (.a .v6 .v5)),(1,.en .v4 .v0),(-1,.en .v6 (.a .v1 .k1))] rfl hx h4 h5 h3 h3') h2 (by exact au [_,_,_] [] (.ln .v0 .v1) 1 [(1,.ln .v2 (.a .v1 .k1)),(-1,.en .v2 (.a .v0 .k1))] rfl hc h1)) λa a1 a2=>?_;exact h3▸ai a2 (z2 a a1)
   refine x5 λlt=>hn ?_;have:=h6 (z+m-x₂) (by exact au [_,_,_,_,_,_] [] (.tn .v0 .v1) 1 [(1,.en .v2 (.a .v3 .v1)),(1,.tn (.a .v4 .v5) .v2),(1,.en (.a .v0 .v3) (.a .v4 .v5))] rfl h4 lt (aZ (au [_,_,_] [] (.ln .v0 (.a .v1 .v2)) 1 [(1,.ln .v0 .v1)] rfl hx2)));rw[show x₂+(z+m-x₂)=z+m by exact bE [_,_,_,_] [] (.a .v0 .v1) (.a .v2 .v3) [(-1,.en (.a .v1 .v0) (.a .v2 .v3))] rfl (aZ (au [_,_,_] [] (.ln .v0 (.a .v1 .v2)) 1 [(1,.ln .v0 .v1)] rfl hx2)),show y₂+(z+m-x₂)=j+m by exact bE [_,_,_,_,_,_,_,_,_] [_] (.a .v0 .v1) (.a .v2 .v3) [(-1,.ei .c4 (.a .c2 .v0)),(1,.ei .c5 (.a .c6 .v0)),(-1,.en .v5 (.a .v7 .v8)),(1,.en .v6 (.a .v0 .v8)),(-1,.en (.a .v1 .v7) (.a .v4 .v3))] rfl hj hx h4 h5 (aZ (au [_,_,_] [] (.ln .v0 (.a .v1 .v2)) 1 [(1,.ln .v0 .v1)] rfl hx2))]at this;exact this
end
end
section
section
variable{ι S Jaa:Type}{C:ι->ax}{b:List Internal.S}{t:T}
theorem HY(l:List V)(is:ι->IS)(R:ι->S->Jaa->aj)(T:ι->S->ae)(I:Nat->S->Prop)(P:V->Prop)(U:ι->ae)(hn:∀i s k,fq (T i s) (is i) k=some l[k]?)
  (step:∀k v s,l[k]?=some v->I k s ->
   (∃s',I (k+1) s'/\∀i j,aK (d8 t v (R i s j)) λJ'=>∀Q:QO,(∀j' Z,Sub (T i s') Z->Q .next (R i s' j') Z)->az (C i) b J' (T i s) Q) \/
   ∃r,P r/\∀i j,aK (d8 t v (R i s j)) λJ'=>∀Q:QO,(∀J' Z,Sub (U i) Z->Q (.ret r) J' Z)->az (C i) b J' (T i s) Q) :
  ∀s,I 0 s->(∃s',I l.length s'/\∀i j(Q:QO),(∀j',Q .next (R i s' j') (T i s'))->∃n,bZ (is i) t (λJ Z Q=>az (C i) b J Z Q) Q n 0 (R i s j) (T i s)) \/
   ∃r,P r/\∀i j(Q:QO),(∀J' Z,Sub (U i) Z->Q (.ret r) J' Z)->∃n,bZ (is i) t (λJ Z Q=>az (C i) b J Z Q) Q n 0 (R i s j) (T i s):=λs h=>by
 rcases Wm (C:=C) (b:=b) (t:=t) l is (λi _ s J Z=>∃j,J=R i s j/\Z=T i s) I (λi _ Z=>Sub (U i) Z) P (λi k s J Z z=>ar z λj _ k2=>k2▸hn i s k) (λk v s hv h=>by
  rcases step k v s hv h with⟨s',h1,h2⟩|⟨r,h1,h2⟩
  ·exact .inl ⟨s',h1,λi J Z z=>ar z λj k1 k2=>k1▸k2▸a0 (h2 i j) λJ' w Q q=>w Q λj' Z u=>q _ _ _ u ⟨j',rfl,rfl⟩⟩
  ·exact .inr ⟨r,h1,λi J Z z=>ar z λj k1 k2=>k1▸k2▸h2 i j⟩) s h with⟨s',h1,h2⟩|⟨r,h1,h2⟩
 ·exact .inl ⟨s',h1,λi j Q q=>h2 i _ _ ⟨j,rfl,rfl⟩ Q λJ' Z' z=>ar z λj k1 k2=>k1▸k2▸q j⟩
 ·exact .inr ⟨r,h1,λi j Q q=>h2 i _ _ ⟨j,rfl,rfl⟩ Q q⟩
theorem IB(l:List V)(R:ι->S->Jaa->aj)(T:ι->S->ae)(I:Nat->S->Prop)(P:V->Prop)(U:ι->ae)
  (step:∀k v s,l[k]?=some v->I k s ->
   (∃s',I (k+1) s'/\∀i j,aK (d8 t v (R i s j)) λJ'=>∀Q:QO,(∀j' Z,Sub (T i s') Z->Q .next (R i s' j') Z)->az (C i) b J' (T i s) Q) \/
   ∃r,P r/\∀i j,aK (d8 t v (R i s j)) λJ'=>∀Q:QO,(∀J' Z,Sub (U i) Z->Q (.ret r) J' Z)->az (C i) b J' (T i s) Q) :
  ∀s,I 0 s->(∃s',I l.length s'/\∀i j(Q:QO),(∀j',Q .next (R i s' j') (T i s'))->∃n,bZ (.vals l) t (λJ Z Q=>az (C i) b J Z Q) Q n 0 (R i s j) (T i s)) \/
   ∃r,P r/\∀i j(Q:QO),(∀J' Z,Sub (U i) Z->Q (.ret r) J' Z)->∃n,bZ (.vals l) t (λJ Z Q=>az (C i) b J Z Q) Q n 0 (R i s j) (T i s):=
 HY (C:=C) l (λ_=>.vals l) R T I P U (λ_ _ _=>rfl) step
theorem Ac(l:List V)(is:ι->IS)(R:ι->S->Jaa->aj)(T:ι->S->ae)(I:Nat->S->Prop)(hn:∀i s k,fq (T i s) (is i) k=some l[k]?)
  (step:∀k v s,l[k]?=some v->I k s->∃s',I (k+1) s'/\∀i j,aK (d8 t v (R i s j)) λJ'=>∀Q:QO,(∀j' Z,Sub (T i s') Z->Q .next (R i s' j') Z)->az (C i) b J' (T i s) Q) :
  ∀s,I 0 s->∃s',I l.length s'/\∀i j(Q:QO),(∀j',Q .next (R i s' j') (T i s'))->∃n,bZ (is i) t (λJ Z Q=>az (C i) b J Z Q) Q n 0 (R i s j) (T i s):=λs h=>
 (HY (C:=C) l is R T I (λ_=>False) (λ_ _=>none) hn (λk v s a b=>.inl (step k v s a b)) s h).elim id λh=>h.elim λ_ h=>h.1.elim
theorem te(l:List V)(R:ι->S->Jaa->aj)(T:ι->S->ae)(I:Nat->S->Prop)
  (step:∀k v s,l[k]?=some v->I k s->∃s',I (k+1) s'/\∀i j,aK (d8 t v (R i s j)) λJ'=>∀Q:QO,(∀j' Z,Sub (T i s') Z->Q .next (R i s' j') Z)->az (C i) b J' (T i s) Q) :
  ∀s,I 0 s->∃s',I l.length s'/\∀i j(Q:QO),(∀j',Q .next (R i s' j') (T i s'))->∃n,bZ (.vals l) t (λJ Z Q=>az (C i) b J Z Q) Q n 0 (R i s j) (T i s):=
 Ac (C:=C) l (λ_=>.vals l) R T I (λ_ _ _=>rfl) step
end
noncomputable abbrev dP(m:Nat)(f:Int->Option Nat):M:=.dI m λk=>(f k).map nI
noncomputable def put(f:Int->Option Nat)(k:Int)(z:Nat):Int->Option Nat:=λj=>if j=k then some z else f j
section
variable{Z:ae}{r m:Nat}{f:Int->Option Nat}{k:Int}{z:Nat}
theorem yK(h:Z r=some (dP m f)):dD Z r (.int k)=some ((f k).map nI):=by unfold dD;rw[h];rfl
theorem sJ(h:Z r=some (dP m f))(e:f k=some z):eQ Z (.ref r) (.int k)=some (nI z):=by
 have a:cc Z r=none:=by unfold cc;rw[h];rfl
 show(match cc Z r with|some l=>_|none=>(dD Z r (.int k)).bind λo=>o) = _;rw[a,yK h,e];rfl
theorem U1{Q:ae->Prop}(h:Z r=some (dP m f))(hm:m<aJ)(q:Q (ak Z r (dP (m+1) (put f k z)))):jx Z (.ref r) (.int k) (nI z) Q:=by
 refine ao (a:=r) rfl (ao h (ao (a:=k) rfl ⟨hm,?_⟩));have e:(λj=>((put f k z) j).map nI)=λj=>if j=k then some (nI z) else(f j).map nI:=funext λj=>by
  unfold put;by_cases c:j=k
  ·rw[if_pos c,if_pos c];rfl
  ·rw[if_neg c,if_neg c]
 exact e▸q
theorem T9{C:ax}{J:aj}{a b:E}(h:Z r=some (dP m f))(ha:Ev C a J Z (.int k))(hb:Ev C b J Z (.ref r)):aI C (.m .isin a b) J Z (f k≠none):=
 ⟨(f k).isSome,Option.isSome_iff_ne_none,dj ha hb (show(dD Z r (.int k)).map _ = _ by rw[yK h];cases f k<;>rfl)⟩
theorem Dz{C:ax}{J:aj}{a b:E}(h:Z r=some (dP m f))(ha:Ev C a J Z (.int k))(hb:Ev C b J Z (.ref r)):aI C (.m .notin a b) J Z (f k=none):=
 ⟨!(f k).isSome,by cases f k<;>simp,dj ha hb (show rU _ ((dD Z r (.int k)).map _) = _ by rw[yK h];cases f k<;>rfl)⟩
end
theorem bN{n f:Nat}{vs:List V}{Z:ae}{Q:QV}{J:aj}(e:HV (pF f) vs=some J)(h:az (Ph pF n) (pF f).body J Z λo _ Z'=>∃v' Z'',Wk (jc o) Z' v' Z''/\Q v' Z''):Ph pF (n+1) f vs Z Q:=ao e h
theorem aO{C:ax}{s:S}{r:List S}{J:aj}{Z:ae}{Q:QO}(h:WS C s J Z λo J Z=>match o with
  |.next=>az C r J Z Q
  |.ret v=>Q (.ret v) J Z):az C (s::r) J Z Q:=h
theorem Mf{f:Int->Option Nat}{k:Int}(h:f (k-1)≠none\/f (k+1)≠none) :
  ∃z:Nat,(∀a,f (k-1)=some a->a+1<=z)/\(∀a,f (k+1)=some a->a<=z)/\((∃a,f (k-1)=some a/\z=a+1)\/f (k+1)=some z) /\
   ∀n Z r m(Q:QV),Z r=some (dP m f)->Q (nI z) Z->Ph pF (n+1) 1 [.ref r,.int k] Z Q:=by
 have t1:∀n Z r m,Z r=some (dP m f)->aI (Ph pF n) (.m .notin (.b .sub (.x 1) (.c (.int 1))) (.x 0)) [some (.ref r),some (.int k)] Z (f (k-1)=none):=λn Z r m hd=>Dz hd (fO (aa rfl) Ev.cn rfl) (aa rfl);have t2:∀n Z r m,Z r=some (dP m f)->aI (Ph pF n) (.m .notin (.b .add (.x 1) (.c (.int 1))) (.x 0)) [some (.ref r),some (.int k)] Z (f (k+1)=none):=λn Z r m hd=>Dz hd (fO (aa rfl) Ev.cn rfl) (aa rfl);cases e1:f (k-1) with
 |none=>
  cases e2:f (k+1) with
  |none=>exact(h.elim (λh=>h e1) λh=>h e2).elim
  |some b=>
   refine⟨b,λ_ h=>(nn h),λa h=>by(injection h with h;subst h);exact aC _,.inr rfl,λn Z r m Q hd q=>bN rfl (aO (dF (t1 n Z r m hd) e1 ?_))⟩;exact ao (sJ hd e2) (bX q)
 |some a=>
  have n1:f (k-1)≠none:=λz=>by rw[e1]at z;cases z
  cases e2:f (k+1) with
  |none=>
   refine⟨a+1,λ_ h=>by(injection h with h;subst h);exact aC _,λ_ h=>(nn h),.inl ⟨a,rfl,rfl⟩,λn Z r m Q hd q=>bN rfl (aO (bH (t1 n Z r m hd) n1 (aO (dF (t2 n Z r m hd) e2 ?_))))⟩;exact ao (sJ hd e1) (bX q)
  |some b=>
   have n2:f (k+1)≠none:=λz=>by rw[e2]at z;cases z
   have w:∃z:Nat,a+1<=z/\b<=z/\(z=a+1\/b=z)/\(if ((a+1:Nat):Int)<b then(b:Int) else((a+1:Nat):Int))=z:=by
    by_cases c:a+1<b
    ·exact⟨b,cv c,aC _,.inr rfl,if_pos (dN.2 c)⟩
    ·exact⟨a+1,aC _,x5 c,.inl rfl,if_neg λh=>c (dN.1 h)⟩
   refine o7 w λz w1 w2 w3 w4=>?_;refine⟨z,λ_ h=>by(injection h with h;subst h);exact w1,λ_ h=>by(injection h with h;subst h);exact w2,w3.imp (λh=>⟨a,rfl,h⟩) (congrArg some),λn Z r m Q hd q=>bN rfl (aO (bH (t1 n Z r m hd) n1 (aO (bH (t2 n Z r m hd) n2 ?_))))⟩;exact ao (sJ hd e1) (ao (sJ hd e2) (bX (show Q (.int (if ((a+1:Nat):Int)<b then(b:Int) else((a+1:Nat):Int))) Z from w4.symm▸q)))
end
section
structure LR(A B:List Int)(g:Int->Option Nat)where
 n:Nat
 U:ae
 s:Sh
 hA:s.A=A
 hB:s.B=B
 on:jY s U
 p:V
 pa:Nat
 pb:Nat
 nb:Nat
 hb:U pb=some (dP nb g)
 ne:pb≠pa
 nd:s.d≠pa
 hp:U pa=none
section
variable{C:ax}{J:aj}{Z:ae}{a b:E}{i j r:Int}
theorem cw(h:Ev C a J Z (.int i))(k:Ev C b J Z (.int j))(e:i-j=r):Ev C (.b .sub a b) J Z (.int r):=fO h k (congrArg (λz=>some (V.int z)) e)
theorem bh(h:Ev C a J Z (.int i))(k:Ev C b J Z (.int j))(e:i+j=r):Ev C (.b .add a b) J Z (.int r):=fO h k (congrArg (λz=>some (V.int z)) e)
end
section
variable{A B:List Int}{g:Int->Option Nat}
noncomputable abbrev LR.C(i:LR A B g):ax:=Ph pF (i.n+1)
noncomputable abbrev LR.T(i:LR A B g)(f:Int->Option Nat)(m:Nat):ae:=ak i.U i.pa (dP m f)
noncomputable abbrev LR.R(i:LR A B g)(fw:Bool)(x w y t m:Nat)(l a:Option V):aj:=
 [some (.inst 2 i.s.d),some i.p,some (nI x),some (nI (x+w)),some (nI y),some (nI (y+t)),some (nI w),some (nI t),some (.int ((w:Int)-t)),some (.ref (bif fw then i.pa else i.pb)),some (.ref (bif fw then i.pb else i.pa)),some (nI m),l,a]
abbrev bx(w t:Nat)(E:Nat->Nat->Prop):Nat->Nat->Prop:=λi j=>i<w/\j<t/\E i j
noncomputable abbrev An(c3:E):S:=.whl (.o true [.m .lt (.x 13) (.x 6),.m .lt (.b .sub (.x 13) (.x 12)) (.x 7),c3]) [.aug (.v 13) .add (.c (.int 1))]
variable{fw:Bool}{x w y t:Nat}{E3:Nat->Nat->Prop}{c3:E}{k:Int}
theorem Sd{z j:Nat}(h:(z:Int)=j+k):(z:Int)-k=j:=by rw[h];exact xN _ _
theorem zJ{z j:Nat}(h:(z:Int)=j+k)(m:Nat):((z+m:Nat):Int)=((j+m:Nat):Int)+k:=by exact bR [_,_,_] [_] (.c (.a .v0 .v1)) (.a (.c (.a .v2 .v1)) .v0) [(-1,.ei .c0 (.a .c2 .v0))] rfl h
theorem VY{z j:Nat}(hz:(z:Int)=j+k)(mm:Nat)(f:Int->Option Nat)(na:Nat)
  (hc:∀(i:LR A B g)(z j:Nat),(z:Int)=j+k->z<w->j<t->aI i.C c3 (i.R fw x w y t mm (some (.int k)) (some (nI z))) (i.T f na) (E3 z j)) :
  ∃m,(∀q,q<m->bx w t E3 (z+q) (j+q))/\¬bx w t E3 (z+m) (j+m)/\∀(i:LR A B g)(u:Unit)(Q:QO),(∀u:Unit,Q .next (i.R fw x w y t mm (some (.int k)) (some (nI (z+m)))) (i.T f na)) ->
   WS i.C (An c3) (i.R fw x w y t mm (some (.int k)) (some (nI (z+0)))) (i.T f na) Q:=
 fj (C:=LR.C) (λ(i:LR A B g)(m:Nat)(_:Unit)=>i.R fw x w y t mm (some (.int k)) (some (nI (z+m)))) (λi _=>i.T f na) (λm=>∀q,q<m->bx w t E3 (z+q) (j+q)) (λm=>w-(z+m)) (λm=>bx w t E3 (z+m) (j+m))
  (λm hm i _=>nU (eZ (aa rfl) (aa rfl)) (λ_=>eZ (cw (aa rfl) (aa rfl) (Sd (zJ hz m))) (aa rfl)) λa b=>hc i _ _ (zJ hz m) a b)
  (λm hm ht=>⟨m+1,λq hq=>(ka.1 hq).elim (hm q) λe=>e▸ht,kf ht.1 (bu _),λi _ Q q=>by exact q () _ (Sub.refl' _)⟩)
  0 λq h=>absurd h (dM q)
theorem N8{d:Nat}{f:Int->Option Nat}(mm na:Nat)(rv:Nat)(rest:List S)(hr:∀(i:LR A B g) l a,rd (i.R fw x w y t mm l a) rv=some (.ref i.pa))
  (hc:∀f na(i:LR A B g)(z j:Nat),(z:Int)=j+k->z<w->j<t->aI i.C c3 (i.R fw x w y t mm (some (.int k)) (some (nI z))) (i.T f na) (E3 z j))
  (h0:¬bx w t E3 0 0) (hl:Gd (bx w t E3) d (k-1) (f (k-1))) (hr':Gd (bx w t E3) d (k+1) (f (k+1))) (hk:f (k-1)≠none\/f (k+1)≠none) (hna:na<aJ) :
  ∃z j:Nat,(z:Int)=j+k/\Gd (bx w t E3) (d+1) k (some z)/\∀(i:LR A B g)a(Q:QO),az i.C rest (i.R fw x w y t mm (some (.int k)) (some (nI z))) (i.T (put f k z) (na+1)) Q ->
   az i.C (.s (.v 13) (.call 1 [.x rv,.x 12])::An c3::.s (.i (.x rv) (.x 12)) (.x 13)::rest) (i.R fw x w y t mm (some (.int k)) a) (i.T f na) Q:=by
 refine o7 (Mf hk) λz z1 z2 z3 z4=>?_;refine ar (RW h0 hl hr' z1 z2 z3) λj hj hg=>?_;refine cm (VY hj mm f na (hc f na)) λm m1 m2 m3=>?_;refine⟨z+m,j+m,zJ hj m,hg m m1 m2,λi a Q q=>ao (hr i _ _) (z4 i.n _ _ _ _ (aP ..) (m3 i () _ λ_=>?_))⟩;refine ao (hr i _ _) (U1 (aP ..) hna ?_);rw[dX];exact q
end
end
section
section
variable{e:Nat->Nat->Prop}{d:Nat}{k:Int}
structure Rd(e:Nat->Nat->Prop)(d:Nat)(f:Int->Option Nat):Prop where
 g:∀k:Int,(k+d)%2=0->Gd e d k (f k)
 dom:∀(k:Int)z,f k=some z->-(d:Int)<=k/\k<=d
theorem aD.lane{x j c:Nat}(h:aD e 0 0 x j c)(q:(x:Int)=j+k):-(c:Int)<=k/\k<=c:=by
 refine kR h.kept λz a b h1 h2 h3=>?_;exact⟨au [_,_,_,_,_,_] [_] (.li (.o .c0) .v0) 1 [(1,.ei .c1 (.a .c2 .v0)),(-1,.en .v1 (.a (.a .k0 .v3) .v4)),(1,.en .v2 (.a (.a .k0 .v3) .v5)),(-1,.en .v0 (.a .v4 .v5))] rfl q h1 h2 h3,au [_,_,_,_,_,_] [_] (.li .v0 .c0) 1 [(-1,.ei .c1 (.a .c2 .v0)),(1,.en .v1 (.a (.a .k0 .v3) .v4)),(-1,.en .v2 (.a (.a .k0 .v3) .v5)),(-1,.en .v0 (.a .v4 .v5))] rfl q h1 h2 h3⟩
theorem Wy{d q:Nat}{k:Int}(h:-((d:Int)+1)+(q:Int)*2=k):(k-1+d)%2=0/\(k+1+d)%2=0:=⟨(congrArg (·%2) (bR [_,_] [_] (.a (.s .v0 .k1) .c0) (.r (.s .c1 .k1) 2) [(1,.ei (.a (.o (.a .c0 .k1)) (.r .c1 2)) .v0)] rfl h)).trans (BX ..),
 (congrArg (·%2) (bR [_,_] [_] (.a (.a .v0 .k1) .c0) (.r .c1 2) [(1,.ei (.a (.o (.a .c0 .k1)) (.r .c1 2)) .v0)] rfl h)).trans (BX ..)⟩
theorem Uz{a d:Int}(h:(a-1+d)%2=0)(g:(a+d)%2=0):False:=absurd (yg (pg g) (pg h)) (by rw[show a+d-(a-1+d)=1 from bR [] [_,_] (.s (.a .v0 .v1) (.a (.s .v0 .k1) .v1)) .k1 [] rfl];decide)
theorem zI{d:Nat}{k:Int}(hk:(k+(d+1))%2=0)(h1:-((d:Int)+1)<=k)(h2:k<=d+1):∃i:Nat,i<d+2/\-((d:Int)+1)+(i:Int)*2=k:=(pg hk).elim λm hm=>
 (ph (show 0<=m from au [_] [_,_] (.li .k0 .v1) 2 [(1,.ei (.a .v0 (.a .c0 .k1)) (.m 2 .v1)),(1,.li (.o (.a .c0 .k1)) .v0)] rfl hm h1)).elim λi e=>by
  rw[e]at hm;exact⟨i,au [_,_] [_] (.tn .v1 (.a .v0 (.k 2))) 2 [(-1,.ei (.a .v0 (.a .c0 .k1)) (.m 2 .c1)),(1,.li .v0 (.a .c0 .k1))] rfl hm h2,bR [_,_] [_] (.a (.o (.a .c0 .k1)) (.r .c1 2)) .v0 [(1,.ei (.a .v0 (.a .c0 .k1)) (.m 2 .c1))] rfl hm⟩
theorem TF{f:Int->Option Nat}(hl:Gd e d (k-1) (f (k-1)))(hr:Gd e d (k+1) (f (k+1)))(h1:-((d:Int)+1)<=k)(h2:k<=d+1)(hp:(k-1+d)%2=0):f (k-1)≠none\/f (k+1)≠none:=by
 rcases Int.lt_trichotomy k 0 with h|h|h
 ·refine bA (ph (show 0<=-(k+1) from Int.neg_nonneg_of_nonpos h)) λn en=>?_;refine ar (hr.2 0 n n (bR [_] [_] (.c .k0) (.a .c0 (.a .v0 .k1)) [(-1,.ei (.o (.a .v0 .k1)) .c0)] rfl en) (by have w:=aD.inns (e:=e) 0 0 n;rw[aU]at w;exact w) (au [_,_] [_] (.ln .v0 .v1) 1 [(-1,.ei (.o (.a .v0 .k1)) .c0),(1,.li (.o (.a .c1 .k1)) .v0)] rfl en h1)) λz h3 _=>?_;exact .inr (by rw[h3];exact λe=>nomatch e)
 ·refine ar (hr.2 1 0 1 (by exact bR [] [_] (.c .k1) (.a (.c .k0) (.a .v0 .k1)) [(1,.ei .v0 .k0)] rfl h) (.out .nil) (pz λz=>by rw[h,z]at hp;exact absurd hp (by decide))) λz h3 _=>?_;exact .inr (by rw[h3];exact λe=>nomatch e)
 ·refine bA (ph (show 0<=k-1 from rn h)) λn en=>?_;refine ar (hl.2 n 0 n (bR [_] [_] .c0 (.a (.c .k0) (.s .v0 .k1)) [(1,.ei (.s .v0 .k1) .c0)] rfl en) (by have w:=aD.all (e:=e) 0 0 0 n;rw[aU,aU]at w;exact w) (au [_,_] [_] (.ln .v0 .v1) 1 [(-1,.ei (.s .v0 .k1) .c0),(1,.li .v0 (.a .c1 .k1))] rfl en h2)) λz h3 _=>?_;exact .inl (by rw[h3];exact λe=>nomatch e)
end
section
variable{A B:List Int}{g:Int->Option Nat}{fw:Bool}{x w y t:Nat}{E3:Nat->Nat->Prop}{c3 ret:E}{par:Int}
def l0(w t:Nat)(g:Int->Option Nat)(par k:Int)(z:Nat):Prop:=((w:Int)-t)%2=par/\g (w-t-k)≠none/\∃u,g (w-t-k)=some u/\w<=z+u
noncomputable abbrev AW(par:Int)(ov:Nat):E:=.o true [.m .eq (.b .mod (.x 8) (.c (.int 2))) (.c (.int par)),.m .isin (.b .sub (.x 8) (.x 12)) (.x ov),.m .ge (.b .add (.x 13) (.i (.x ov) (.b .sub (.x 8) (.x 12)))) (.x 6)]
noncomputable abbrev jX(rv ov:Nat)(c3:E)(par:Int)(ret:E):List S:=[.s (.v 13) (.call 1 [.x rv,.x 12]),An c3,.s (.i (.x rv) (.x 12)) (.x 13),.ite (AW par ov) [.ret ret] []]
theorem Ho(mm ov:Nat)(ho:∀(i:LR A B g) l a,rd (i.R fw x w y t mm l a) ov=some (.ref i.pb))(k:Int)(z:Nat)(i:LR A B g)(f:Int->Option Nat)(na:Nat) :
  aI i.C (AW par ov) (i.R fw x w y t mm (some (.int k)) (some (nI z))) (i.T f na) (l0 w t g par k z):=by
 have hb:i.T f na i.pb=some (dP i.nb g):=(aA i.ne).trans i.hb;refine nU (kC (fO (aa rfl) Ev.cn rfl) Ev.cn) (λ_=>T9 hb (cw (aa rfl) (aa rfl) rfl) (aa (ho i _ _))) λ_ h=>?_;cases e:g (w-t-k) with
 |none=>exact absurd e h
 |some u=>exact iu (qu (bh (aa rfl) (bW (aa (ho i _ _)) (cw (aa rfl) (aa rfl) rfl) (sJ hb e)) rfl) (aa rfl)) ⟨λh=>⟨u,rfl,gB.1 h⟩,λh=>ar h λv h1 h2=>gB.2 (di h1▸h2)⟩
structure LI(E3:Nat->Nat->Prop)(par:Int)(g:Int->Option Nat)(w t d na q:Nat)(s:(Int->Option Nat)×Nat):Prop where
 n:s.2<=na+q
 old:∀k:Int,(k+d)%2=0->Gd (bx w t E3) d k (s.1 k)
 new:∀i:Nat,i<q->Gd (bx w t E3) (d+1) (-((d:Int)+1)+i*2) (s.1 (-((d:Int)+1)+i*2))/\∀z,s.1 (-((d:Int)+1)+i*2)=some z->¬l0 w t g par (-((d:Int)+1)+i*2) z
 dom:∀(k:Int)z,s.1 k=some z->-((d:Int)+1)<=k/\k<=d+1
theorem qx{lo step:Int}{n q:Nat}{v:V}(h:(cC lo step n)[q]?=some v):q<n/\v=.int (lo+q*step):=by
 rw[zW]at h;by_cases c:q<n
 ·rw[if_pos c]at h;exact⟨c,(di h).symm⟩
 ·rw[if_neg c]at h;exact nn h
theorem Qp(x s:Int)(k:Nat):(cC x s k).length=k:=by
 induction k generalizing x with
 |zero=>rfl
 |succ k ih=>exact congrArg (·+1) (ih _)
theorem Ic{d:Nat}{f:Int->Option Nat}(mm na rv ov:Nat)(rvl:Nat->Nat->V)(hr:∀(i:LR A B g) l a,rd (i.R fw x w y t mm l a) rv=some (.ref i.pa))(ho:∀(i:LR A B g) l a,rd (i.R fw x w y t mm l a) ov=some (.ref i.pb))
  (hc:∀(k:Int)f na(i:LR A B g)(z j:Nat),(z:Int)=j+k->z<w->j<t->aI i.C c3 (i.R fw x w y t mm (some (.int k)) (some (nI z))) (i.T f na) (E3 z j))
  (hret:∀(k:Int)f na(i:LR A B g)(z j:Nat),(z:Int)=j+k->Ev i.C ret (i.R fw x w y t mm (some (.int k)) (some (nI z))) (i.T f na) (rvl z j))
  (h0:¬bx w t E3 0 0) (H:Rd (bx w t E3) d f) (hna:na+d+2<=aJ) :
  (∃s:(Int->Option Nat)×Nat,(s.2<=na+(d+2)/\Rd (bx w t E3) (d+1) s.1/\∀(k:Int)z,(k+(d+1))%2=0->s.1 k=some z->¬l0 w t g par k z)/\∀(i:LR A B g)(j:Option V×Option V)(Q:QO),(∀j:Option V×Option V,Q .next (i.R fw x w y t mm j.1 j.2) (i.T s.1 s.2)) ->
    ∃n,bZ (.vals (cC (-((d:Int)+1)) 2 (d+2))) (.v 12) (λJ Z Q=>az i.C (jX rv ov c3 par ret) J Z Q) Q n 0 (i.R fw x w y t mm j.1 j.2) (i.T f na)) \/
  ∃r,(∃(z j:Nat)(k:Int),r=rvl z j/\(z:Int)=j+k/\Gd (bx w t E3) (d+1) k (some z)/\l0 w t g par k z)/\∀(i:LR A B g)(j:Option V×Option V)(Q:QO),(∀J' Z,Sub i.U Z->Q (.ret r) J' Z) ->
    ∃n,bZ (.vals (cC (-((d:Int)+1)) 2 (d+2))) (.v 12) (λJ Z Q=>az i.C (jX rv ov c3 par ret) J Z Q) Q n 0 (i.R fw x w y t mm j.1 j.2) (i.T f na):=by
 have key:∀(q:Nat)(v:V)(s:(Int->Option Nat)×Nat),(cC (-((d:Int)+1)) 2 (d+2))[q]?=some v->LI E3 par g w t d na q s ->
   (∃s',LI E3 par g w t d na (q+1) s'/\∀(i:LR A B g)(j:Option V×Option V),aK (d8 (.v 12) v (i.R fw x w y t mm j.1 j.2)) λJ'=>∀Q:QO,(∀(j':Option V×Option V)Z,Sub (i.T s'.1 s'.2) Z->Q .next (i.R fw x w y t mm j'.1 j'.2) Z)->az i.C (jX rv ov c3 par ret) J' (i.T s.1 s.2) Q) \/
   ∃r,(∃(z j:Nat)(k:Int),r=rvl z j/\(z:Int)=j+k/\Gd (bx w t E3) (d+1) k (some z)/\l0 w t g par k z)/\∀(i:LR A B g)(j:Option V×Option V),aK (d8 (.v 12) v (i.R fw x w y t mm j.1 j.2)) λJ'=>∀Q:QO,(∀J' Z,Sub i.U Z->Q (.ret r) J' Z)->az i.C (jX rv ov c3 par ret) J' (i.T s.1 s.2) Q:=by
  intro q v s hv hI;obtain⟨hq,rfl⟩:=qx hv;generalize hk:-((d:Int)+1)+(q:Int)*2=k
  have pr:=Wy hk;have hl:=hI.old (k-1) pr.1;have hr':=hI.old (k+1) pr.2;obtain⟨z,j,hz,hg,run⟩:=N8 (A:=A) (B:=B) (g:=g) (x:=x) (y:=y) mm s.2 rv [.ite (AW par ov) [.ret ret] []] (d:=d) (k:=k) (f:=s.1) hr (hc k) h0 hl hr' (TF hl hr' (by exact au [_,_] [_] (.li (.o (.a .c0 .k1)) .v0) 1 [(1,.ei (.a (.o (.a .c0 .k1)) (.r .c1 2)) .v0)] rfl hk) (by exact au [_,_] [_] (.li .v0 (.a .c0 .k1)) 1 [(2,.tn .v1 (.a .v0 (.k 2))),(-1,.ei (.a (.o (.a .c0 .k1)) (.r .c1 2)) .v0)] rfl hq hk) pr.1) (aQ (bC hI.n (eF hq na)) hna);by_cases hh:l0 w t g par k z
  ·refine .inr ⟨rvl z j,⟨z,j,k,rfl,hz,hg,hh⟩,λi j Q q'=>run i _ _ (aO (dF (Ho mm ov ho k z i _ _) hh (hret k _ _ i z _ hz _ (q' _ _ ?_))))⟩;exact λa m h=>(aA λe=>by rw[e,i.hp]at h;exact nn h).trans h
  ·refine .inl ⟨(put s.1 k z,s.2+1),?_,λi j Q q'=>run i _ _ (aO (bH (Ho mm ov ho k z i _ _) hh (q' (_,_) _ (Sub.refl' _))))⟩;have pk:put s.1 k z k=some z:=if_pos rfl;have pn:∀k',k'≠k->put s.1 k z k'=s.1 k':=λk' h=>if_neg h;refine⟨cK hI.n,λk' h=>(show Gd _ _ _ (put s.1 k z k') from(pn k' λe=>Uz pr.1 (e▸h)).symm▸hI.old k' h),λi hi=>?_,λk' z' h=>?_⟩
   ·show Gd _ _ _ (put s.1 k z _)/\∀z',put s.1 k z _ = some z'->_;rcases jg (eV hi) with h|h
    ·have ne:-((d:Int)+1)+(i:Int)*2≠k:=by exact λzz=>fS [_,_,_] [_] [(-1,.ei (.a (.o (.a .c0 .k1)) (.r .c1 2)) .v0),(1,.ei (.a (.o (.a .c0 .k1)) (.r .c2 2)) .v0),(2,.tn .v1 .v2)] rfl zz hk h
     rw[pn _ ne];exact hI.new i h
    ·rw[h,hk,pk];exact⟨hg,λz' e=>by(injection e with e;subst e);exact hh⟩
   ·by_cases c:k'=k
    ·exact⟨au [_,_] [_,_] (.li (.o (.a .c0 .k1)) .v0) 1 [(1,.ei (.a (.o (.a .c0 .k1)) (.r .c1 2)) .v1),(-1,.ei .v0 .v1)] rfl hk c,au [_,_] [_,_] (.li .v0 (.a .c0 .k1)) 1 [(2,.tn .v1 (.a .v0 (.k 2))),(-1,.ei (.a (.o (.a .c0 .k1)) (.r .c1 2)) .v1),(1,.ei .v0 .v1)] rfl hq hk c⟩
    ·exact hI.dom k' z' ((pn k' c).symm.trans h)
 rcases IB (C:=LR.C) (b:=jX rv ov c3 par ret) (t:=.v 12) (cC (-((d:Int)+1)) 2 (d+2)) (λ(i:LR A B g)_(j:Option V×Option V)=>i.R fw x w y t mm j.1 j.2) (λi s=>i.T s.1 s.2) (LI E3 par g w t d na)
  (λr=>∃(z j:Nat)(k:Int),r=rvl z j/\(z:Int)=j+k/\Gd (bx w t E3) (d+1) k (some z)/\l0 w t g par k z) (λi=>i.U) key (f,na)
  ⟨aC _,H.g,λi h=>absurd h (dM i),λk z h=>by have:=H.dom k z h;exact⟨au [_] [_] (.li (.o (.a .c0 .k1)) .v0) 1 [(1,.li (.o .c0) .v0)] rfl this.1,au [_] [_] (.li .v0 (.a .c0 .k1)) 1 [(1,.li .v0 .c0)] rfl this.2⟩⟩ with⟨s,hI,run⟩|⟨r,hr,run⟩
 ·rw[Qp]at hI;refine .inl ⟨s,⟨hI.n,⟨λk hk=>?_,hI.dom⟩,λk z hk e=>?_⟩,run⟩
  ·cases e:s.1 k with
   |some z=>
    refine ar (zI hk (hI.dom k z e).1 (hI.dom k z e).2) λi hi ei=>?_;have:=(hI.new i hi).1;rw[ei,e]at this;exact this
   |none=>
    refine⟨λx h=>(nn h),λx j c h w l=>?_⟩;have wl:=w.lane h;refine ar (zI hk (au [_,_] [_] (.li (.o (.a .c0 .k1)) .v0) 1 [(1,.li (.o .c1) .v0),(1,.ln .v1 (.a .v0 .k1))] rfl wl.1 l) (au [_,_] [_] (.li .v0 (.a .c0 .k1)) 1 [(1,.li .v0 .c1),(1,.ln .v1 (.a .v0 .k1))] rfl wl.2 l)) λi hi ei=>?_;have:=(hI.new i hi).1;rw[ei,e]at this;exact this.2 x j c h w l
  ·refine ar (zI hk (hI.dom k z e).1 (hI.dom k z e).2) λi hi ei=>?_;have:=(hI.new i hi).2;rw[ei]at this;exact this z e
 ·exact .inr ⟨r,hr,run⟩
end
end
section
def xg(w t:Nat)(e e':Nat->Nat->Prop):Prop:=∀i j i' j',i+i'+1=w->j+j'+1=t->e i j->e' i' j'
section
variable{e e':Nat->Nat->Prop}{w t d₁ d₂ D:Nat}{f g:Int->Option Nat}{par:Int}
theorem aD.pty{x j c:Nat}{k:Int}(h:aD e 0 0 x j c)(q:(x:Int)=j+k):(k+c)%2=0:=by
 exact kR h.kept λz a b h1 h2 h3=>(congrArg (·%2) (bR [_,_,_,_,_,_] [_] (.a .v0 .c0) (.r .c4 2) [(1,.ei .c1 (.a .c2 .v0)),(-1,.en .v1 (.a (.a .k0 .v3) .v4)),(1,.en .v2 (.a (.a .k0 .v3) .v5)),(-1,.en .v0 (.a .v4 .v5))] rfl q h1 h2 h3)).trans (BX ..)
theorem SK{a b c e:Int}(h:a%2=b%2)(p:c%2=0)(q:e=a-b-c+2*b):e%2=0:=by
 rw[q];exact Int.emod_eq_zero_of_dvd (Int.dvd_add (yg (pg (Int.emod_eq_emod_iff_emod_sub_eq_zero.1 h)) (pg p)) (KD 2 b))
theorem Gn{a:Int}{q:Nat}(h:a%2=0)(p:(a+((2*q+1:Nat):Int))%2=0):False:=absurd (yg (yg (pg p) (pg h)) (KD 2 (q:Int)))
 (by rw[show a+((2*q+1:Nat):Int)-a-2*(q:Int)=1 from bR [_] [_] (.s (.s (.a .v0 (.c (.a (.m 2 .v0) .k1))) .v0) (.m 2 .c0)) .k1 [] rfl];decide)
theorem Hp(m:xg w t e' e)(bw:∀i j,e i j->i<w)(bt:∀i j,e i j->j<t)(least:∀c,aD e 0 0 w t c->D<=c)(hD:d₁+d₂<=D)(G:Rd e' d₂ g)(hp:((d₁+d₂:Nat):Int)%2=par)
  {z j:Nat} {k:Int} (hz:(z:Int)=j+k) (h:Gd e d₁ k (some z)) (hh:l0 w t g par k z):aD e 0 0 z j d₁/\z<=w/\j<=t/\∃c,c<=d₂/\aD e z j w t c:=by
 refine ar (h.1 z rfl) λj' h1 h2=>?_;have ej:j'=j:=by exact bE [_,_,_] [_] .v0 .v1 [(-1,.ei .c2 (.a .c1 .v0)),(1,.ei .c2 (.a .c0 .v0))] rfl hz h1
 subst ej;obtain⟨s,_,u,hu,hw⟩:=hh;have pk:=h2.pty h1;have Gu:=G.g (w-t-k) (SK (s.trans hp.symm) pk (bR [_,_,_,_] [_] (.a (.s (.s .c0 .c1) .v0) .c3) (.a (.s (.s (.s .c0 .c1) (.c (.a .v2 .v3))) (.a .v0 .c2)) (.m 2 (.c (.a .v2 .v3)))) [] rfl));refine ar (Gu.1 u hu) λv h3 h4=>?_;exact⟨h2,SJ bw bt (λi j i' j' a b h=>m i' j' i j (cb i i'▸a) (cb j j'▸b) h) least hD h2 h4 hw (by exact bE [_,_,_,_,_,_] [_] (.a (.a .v0 .v1) .v2) (.a (.a .v3 .v4) .v5) [(-1,.ei .c0 (.a .c4 .v0)),(-1,.ei .c1 (.a .c5 (.s (.s .c3 .c2) .v0)))] rfl h1 h3)⟩
theorem Ih(m:xg w t e e')(F:Rd e d₁ f)(G:Rd e' d₂ g)(hp:((w:Int)-t)%2=par)(no:∀(k:Int) z,(k+d₁)%2=0->f k=some z->¬l0 w t g par k z):¬aD e 0 0 w t (d₁+d₂):=λh=>by
 refine hE (h.split rfl) λi j h1 h2=>?_;have l:=h2.le;have p1:=h1.pty (k:=(i:Int)-j) (by exact bR [_,_] [] .c0 (.a .c1 (.s .c0 .c1)) [] rfl);refine ar ((F.g ((i:Int)-j) p1).2 i j d₁ (by exact bR [_,_] [] .c0 (.a .c1 (.s .c0 .c1)) [] rfl) h1 (aC _)) λz z1 z2=>?_;have h3:=h2.back m (x':=w-i) (y':=t-j) (X':=0) (Y':=0) (fv l.1) (fv l.2) (jL _) (jL _);have q2:((w-i:Nat):Int)=((t-j:Nat):Int)+((w:Int)-t-((i:Int)-j)):=by exact bR [_,_,_,_,_,_] [] .c0 (.a .c1 (.s (.s .c2 .c3) (.s .c4 .c5))) [(-1,.en (.a .v0 .v4) .v2),(1,.en (.a .v1 .v5) .v3)] rfl (aZ l.1) (aZ l.2)
 refine ar ((G.g _ (h3.pty q2)).2 _ _ d₂ q2 h3 (aC _)) λu u1 u2=>?_;exact no _ z p1 z1 ⟨hp,by rw[u1];exact(λe=>(nomatch e)),u,u1,by exact au [_,_,_,_,_] [] (.ln .v0 (.a .v1 .v2)) 1 [(1,.ln .v3 .v1),(1,.ln .v4 .v2),(1,.ln .v0 (.a .v4 .v3))] rfl z2 u2 cW⟩
theorem aD.zero{x y c:Nat}(h:aD e x y x y c):c=0:=by
 refine kR h.kept λz a b h1 h2 h3=>?_;exact cX (au [_,_,_,_,_,_] [] (.ln .v0 .k0) 1 [(-1,.en .v1 (.a (.a .v1 .v2) .v3)),(-1,.en .v4 (.a (.a .v4 .v2) .v5)),(1,.en .v0 (.a .v3 .v5))] rfl h1 h2 h3) (au [_] [] (.ln .k0 .v0) 1 [] rfl)
theorem OK(h0:¬e 0 0)(h1:¬e (w-1) (t-1))(hw:0<w)(ht:0<t)(h:aD e 0 0 w t D):2<=D:=by
 have low:∀{x y},aD e 0 0 x y 0->x=0/\y=0:=λh=>by
  rcases h.last with⟨m,a,b,_,z⟩|⟨_,_,_,_,_,_,z,_⟩
  ·cases m with
   |zero=>exact⟨a,b⟩
   |succ m=>exact absurd (z 0 (fi m)) h0
  ·cases z
 rcases h.last with⟨m,a,b,rfl,z⟩|⟨x₁,y₁,x₂,y₂,m,c,rfl,q,s,a,b,z⟩
 ·exact absurd (low h).1 (iq hw)
 ·cases m with
  |succ m=>rw[a,b]at h1;exact absurd (z m (bu m)) h1
  |zero=>
   cases c with
   |succ c=>exact cK (cK (bJ c))
   |zero=>
    obtain⟨rfl,rfl⟩:=low q;rcases s with⟨rfl,rfl⟩|⟨rfl,rfl⟩
    ·exact absurd b (iq ht)
    ·exact absurd a (iq hw)
end
end
section
theorem Nf{q:Nat}(h:q<=1000):jU [-((q+1:Nat):Int),((q+1:Nat):Int)+1,2]=some (cC (-((q:Int)+1)) 2 (q+2)):=by
 have h1:eE (-((q+1:Nat):Int))=true:=qw (by exact au [_] [] (.li (.o (.k 1048576)) (.o (.c (.a .v0 .k1)))) 1 [(1,.ln .v0 (.k 1000))] rfl h) (by exact au [_] [] (.li (.o (.c (.a .v0 .k1))) (.k 1048576)) 1 [] rfl);have h2:eE (((q+1:Nat):Int)+1)=true:=qw (by exact au [_] [] (.li (.o (.k 1048576)) (.a (.c (.a .v0 .k1)) .k1)) 1 [] rfl) (by exact au [_] [] (.li (.a (.c (.a .v0 .k1)) .k1) (.k 1048576)) 1 [(1,.ln .v0 (.k 1000))] rfl h);have h3:(mu (-((q+1:Nat):Int)) (((q+1:Nat):Int)+1) 2).toNat=q+2:=by
  unfold mu;rw[if_pos (by decide),if_pos (by exact au [_] [] (.ti (.o (.c (.a .v0 .k1))) (.a (.c (.a .v0 .k1)) .k1)) 1 [] rfl)];rw[show((q+1:Nat):Int)+1 - -((q+1:Nat):Int)-1=2*((q+1:Nat):Int) from bR [_] [] (.s (.s (.a (.c (.a .v0 .k1)) .k1) (.o (.c (.a .v0 .k1)))) .k1) (.m 2 (.c (.a .v0 .k1))) [] rfl,Int.mul_ediv_cancel_left _ (by decide)];rfl
 show(if (eE (-((q+1:Nat):Int))=true/\eE (((q+1:Nat):Int)+1)=true)/\((2:Int)=2\/(2:Int) = -1) then some (mW (-((q+1:Nat):Int)) (((q+1:Nat):Int)+1) 2) else none) = _;rw[if_pos ⟨⟨h1,h2⟩,.inl rfl⟩];unfold mW;rw[h3,hZ];rfl
section
variable{C:ax}{J:aj}{Z:ae}{a b:E}{u v:V}
theorem n8(h:Ev C a J Z u)(k:Ev C b J Z v):Ev C (.tup [a,b]) J Z (.tup [u,v]):=λQ q=>h _ (k _ q)
theorem jR{Z:ae}{a b:Nat}{m m':M}(n:a≠b):ak (ak Z a m) b m'=ak (ak Z b m') a m:=funext λc=>by
 by_cases h:c=a
 ·rw[h,aP,aA n,aP]
 ·by_cases k:c=b
  ·rw[k,aP,aA n.symm,aP]
  ·rw[aA k,aA h,aA h,aA k]
theorem z5{Z Z':ae}{a:Nat}{m:M}(n:Z a=none)(h:Sub (ak Z a m) Z'):Sub Z Z':=λc m' k=>h c m' ((aA λe=>by rw[e,n]at k;exact nn k).trans k)
end
section
variable{A B:List Int}{g:Int->Option Nat}{fw:Bool}{x w y t:Nat}
abbrev EF(A B:List Int)(x y:Nat):Nat->Nat->Prop:=λi j=>A[x+i]?=B[y+j]?
abbrev EB(A B:List Int)(x w y t:Nat):Nat->Nat->Prop:=λi j=>A[x+w-1-i]?=B[y+t-1-j]?
noncomputable abbrev cF:E:=.m .eq (.i (.a (.x 0) 7) (.b .add (.x 2) (.x 13))) (.i (.a (.x 0) 8) (.b .sub (.b .add (.x 4) (.x 13)) (.x 12)))
noncomputable abbrev m8:E:=.m .eq (.i (.a (.x 0) 7) (.b .sub (.b .sub (.x 3) (.c (.int 1))) (.x 13))) (.i (.a (.x 0) 8) (.b .add (.b .sub (.b .sub (.x 5) (.c (.int 1))) (.x 13)) (.x 12)))
theorem LR.a(i:LR A B g){f:Int->Option Nat}{na:Nat}{e:E}{J:aj}(h:Ev i.C e J (i.T f na) (.inst 2 i.s.d)):Ev i.C (.a e 7) J (i.T f na) (.list (vI A)):=
 br h ((oF ((aA i.nd).trans i.on)).trans (congrArg (λl=>some (V.list (vI l))) i.hA))
theorem LR.b(i:LR A B g){f:Int->Option Nat}{na:Nat}{e:E}{J:aj}(h:Ev i.C e J (i.T f na) (.inst 2 i.s.d)):Ev i.C (.a e 8) J (i.T f na) (.list (vI B)):=
 br h ((tw ((aA i.nd).trans i.on)).trans (congrArg (λl=>some (V.list (vI l))) i.hB))
theorem Vx(hX:x+w<=A.length)(hY:y+t<=B.length)(mm:Nat)(k:Int)(f:Int->Option Nat)(na:Nat)(i:LR A B g)(z j:Nat)(h:(z:Int)=j+k)(hz:z<w)(hj:j<t) :
  aI i.C cF (i.R fw x w y t mm (some (.int k)) (some (nI z))) (i.T f na) (EF A B x y z j):=
 p8 (i.a (aa rfl)) (i.b (aa rfl)) (bh (aa rfl) (aa rfl) rfl) (cw (bh (aa rfl) (aa rfl) rfl) (aa rfl) (by exact bR [_,_,_] [_] (.s (.a .c0 .c1) .v0) (.c (.a .v0 .v2)) [(-1,.ei .c1 (.a .c2 .v0))] rfl h)) (aQ (eF hz x) hX) (aQ (eF hj y) hY)
theorem Fw{x w z:Nat}(h:z<w):((x+w:Nat):Int)-1-z=((x+w-1-z:Nat):Int):=by exact bR [_,_,_,_,_] [] (.s (.s (.c (.a .v0 .v1)) .k1) .c2) .c3 [(1,.en (.a .v3 .v2) .v4),(1,.en (.a .v4 .k1) (.a .v0 .v1))] rfl (aZ (au [_,_,_,_] [] (.ln .v0 .v1) 1 [(1,.tn .v0 .v2),(1,.ln (.a .v3 .v2) (.a .v1 .k1))] rfl h cW)) (aZ (au [_,_,_] [] (.ln .k1 (.a .v0 .v1)) 1 [(1,.tn .v2 .v1)] rfl h))
theorem Vw(hX:x+w<=A.length)(hY:y+t<=B.length)(mm:Nat)(k:Int)(f:Int->Option Nat)(na:Nat)(i:LR A B g)(z j:Nat)(h:(z:Int)=j+k)(hz:z<w)(hj:j<t) :
  aI i.C m8 (i.R fw x w y t mm (some (.int k)) (some (nI z))) (i.T f na) (EB A B x w y t z j):=
 have l{a b c X:Nat}(p:a<b)(q:c+b<=X):c+b-1-a<X:=aQ (bC (ez ..) (nP (aQ (jK p) (df ..)) mD)) q
 p8 (i.a (aa rfl)) (i.b (aa rfl)) (cw (cw (aa rfl) Ev.cn rfl) (aa rfl) (Fw hz)) (bh (cw (cw (aa rfl) Ev.cn rfl) (aa rfl) rfl) (aa rfl) (by rw[<-Fw hj,h];exact bR [_,_,_] [_] (.a (.s (.s (.c (.a .v0 .v1)) .k1) (.a .c2 .v0)) .v0) (.s (.s (.c (.a .v0 .v1)) .k1) .c2) [] rfl)) (l hz hX) (l hj hY)
theorem VO(mm:Nat)(k:Int)(f:Int->Option Nat)(na:Nat)(i:LR A B g)(z j:Nat)(h:(z:Int)=j+k) :
  Ev i.C (.tup [.b .add (.x 2) (.x 13),.b .sub (.b .add (.x 4) (.x 13)) (.x 12)]) (i.R fw x w y t mm (some (.int k)) (some (nI z))) (i.T f na) (.tup [nI (x+z),nI (y+j)]):=
 n8 (bh (aa rfl) (aa rfl) rfl) (cw (bh (aa rfl) (aa rfl) rfl) (aa rfl) (by exact bR [_,_,_] [_] (.s (.a .c0 .c1) .v0) (.c (.a .v0 .v2)) [(-1,.ei .c1 (.a .c2 .v0))] rfl h))
theorem VN(mm:Nat)(k:Int)(f:Int->Option Nat)(na:Nat)(i:LR A B g)(z j:Nat)(h:(z:Int)=j+k) :
  Ev i.C (.tup [.b .sub (.x 3) (.x 13),.b .add (.b .sub (.x 5) (.x 13)) (.x 12)]) (i.R fw x w y t mm (some (.int k)) (some (nI z))) (i.T f na) (.tup [.int ((x+w:Nat)-(z:Int)),.int ((y+t:Nat)-(j:Int))]):=
 n8 (cw (aa rfl) (aa rfl) rfl) (bh (cw (aa rfl) (aa rfl) rfl) (aa rfl) (by exact bR [_,_,_,_] [_] (.a (.s (.c (.a .v0 .v1)) .c2) .v0) (.s (.c (.a .v0 .v1)) .c3) [(1,.ei .c2 (.a .c3 .v0))] rfl h))
theorem Ah:xg w t (bx w t (EF A B x y)) (bx w t (EB A B x w y t)):=λi j i' j' a b h=>⟨by exact au [_,_,_] [] (.tn .v0 .v1) 1 [(1,.en (.a (.a .v2 .v0) .k1) .v1)] rfl a,by exact au [_,_,_] [] (.tn .v0 .v1) 1 [(1,.en (.a (.a .v2 .v0) .k1) .v1)] rfl b,by
 show A[x+w-1-i']?=B[y+t-1-j']?;rw[show x+w-1-i'=x+i by exact bE [_,_,_,_,_,_] [] .v0 (.a .v1 .v2) [(1,.en (.a (.a .v2 .v3) .k1) .v4),(-1,.en (.a .v0 .v3) .v5),(-1,.en (.a .v5 .k1) (.a .v1 .v4))] rfl a (aZ (au [_,_,_,_,_] [] (.ln .v0 .v1) 1 [(1,.en (.a (.a .v2 .v0) .k1) .v3),(1,.ln (.a .v4 .v3) (.a .v1 .k1))] rfl a cW)) (aZ (au [_,_,_,_] [] (.ln .k1 (.a .v0 .v1)) 1 [(1,.en (.a (.a .v2 .v3) .k1) .v1)] rfl a)),show y+t-1-j'=y+j by exact bE [_,_,_,_,_,_] [] .v0 (.a .v1 .v2) [(1,.en (.a (.a .v2 .v3) .k1) .v4),(-1,.en (.a .v0 .v3) .v5),(-1,.en (.a .v5 .k1) (.a .v1 .v4))] rfl b (aZ (au [_,_,_,_,_] [] (.ln .v0 .v1) 1 [(1,.en (.a (.a .v2 .v0) .k1) .v3),(1,.ln (.a .v4 .v3) (.a .v1 .k1))] rfl b cW)) (aZ (au [_,_,_,_] [] (.ln .k1 (.a .v0 .v1)) 1 [(1,.en (.a (.a .v2 .v3) .k1) .v1)] rfl b))];exact h.2.2⟩
theorem sY:xg w t (bx w t (EB A B x w y t)) (bx w t (EF A B x y)):=λi j i' j' a b h=>⟨by exact au [_,_,_] [] (.tn .v0 .v1) 1 [(1,.en (.a (.a .v2 .v0) .k1) .v1)] rfl a,by exact au [_,_,_] [] (.tn .v0 .v1) 1 [(1,.en (.a (.a .v2 .v0) .k1) .v1)] rfl b,by
 have h:A[x+w-1-i]?=B[y+t-1-j]?:=h.2.2;rw[show x+w-1-i=x+i' by exact bE [_,_,_,_,_,_] [] .v0 (.a .v1 .v2) [(1,.en (.a (.a .v3 .v2) .k1) .v4),(-1,.en (.a .v0 .v3) .v5),(-1,.en (.a .v5 .k1) (.a .v1 .v4))] rfl a (aZ (au [_,_,_,_,_] [] (.ln .v0 .v1) 1 [(1,.en (.a (.a .v0 .v2) .k1) .v3),(1,.ln (.a .v4 .v3) (.a .v1 .k1))] rfl a cW)) (aZ (au [_,_,_,_] [] (.ln .k1 (.a .v0 .v1)) 1 [(1,.en (.a (.a .v2 .v3) .k1) .v1)] rfl a)),show y+t-1-j=y+j' by exact bE [_,_,_,_,_,_] [] .v0 (.a .v1 .v2) [(1,.en (.a (.a .v3 .v2) .k1) .v4),(-1,.en (.a .v0 .v3) .v5),(-1,.en (.a .v5 .k1) (.a .v1 .v4))] rfl b (aZ (au [_,_,_,_,_] [] (.ln .v0 .v1) 1 [(1,.en (.a (.a .v0 .v2) .k1) .v3),(1,.ln (.a .v4 .v3) (.a .v1 .k1))] rfl b cW)) (aZ (au [_,_,_,_] [] (.ln .k1 (.a .v0 .v1)) 1 [(1,.en (.a (.a .v2 .v3) .k1) .v1)] rfl b))]at h;exact h⟩
end
end
section
set_option maxRecDepth 8000
theorem qb:∀ns:List Int,eO (vI ns)=some ns:=λrr=>li (rfl)
 (λn ns ih=>by show(eO (vI ns)).map _ = _;rw[ih];rfl) rr
theorem sI{C:ax}{es:List E}{t:T}{b:List S}{J:aj}{Z:ae}{Q:QO}(ns:List Int){l:List V}(he:∀Q:List V->ae->Prop,Q (vI ns) Z->eh C es J Z Q)(hl:jU ns=some l)
  (h:∃n,bZ (.vals l) t (λJ Z Q=>az C b J Z Q) Q n 0 J Z):WS C (.for t (.range es) b) J Z Q:=he _ (ao (qb ns) (ao hl h))
structure HR(A B:List Int)where
 r:dQ A B
 ra:Nat
 rb:Nat
 ha:r.Z ra=none
 hb:r.Z rb=none
 ne:ra≠rb
abbrev HS:=((Int->Option Nat)×Nat)×((Int->Option Nat)×Nat)
section
variable{A B:List Int}{x w y t:Nat}
noncomputable abbrev HR.T(i:HR A B)(s:HS):ae:=ak (ak i.r.Z i.rb (dP s.2.2 s.2.1)) i.ra (dP s.1.2 s.1.1)
noncomputable abbrev HR.R(i:HR A B)(x w y t:Nat)(m l a:Option V):aj:=
 [some (.inst 2 i.r.s.d),some (pt x (x+w) y (y+t)),some (nI x),some (nI (x+w)),some (nI y),some (nI (y+t)),some (nI w),some (nI t),some (.int ((w:Int)-t)),some (.ref i.ra),some (.ref i.rb),m,l,a]
theorem HR.off(i:HR A B){z:Nat}(h:i.r.Z z=none):i.r.s.d≠z:=λe=>by have:=i.r.on;rw[jY,e,h]at this;exact nn this
noncomputable def HR.fw(i:HR A B)(x w y t:Nat)(g:Int->Option Nat)(nb:Nat):LR A B g:=
 ⟨i.r.n,ak i.r.Z i.rb (dP nb g),i.r.s,i.r.hA,i.r.hB,(aA (i.off i.hb)).trans i.r.on,pt x (x+w) y (y+t),i.ra,i.rb,nb,aP ..,i.ne.symm,i.off i.ha,(aA i.ne).trans i.ha⟩
noncomputable def HR.bw(i:HR A B)(x w y t:Nat)(f:Int->Option Nat)(na:Nat):LR A B f:=
 ⟨i.r.n,ak i.r.Z i.ra (dP na f),i.r.s,i.r.hA,i.r.hB,(aA (i.off i.ha)).trans i.r.on,pt x (x+w) y (y+t),i.rb,i.ra,na,aP ..,i.ne,i.off i.hb,(aA i.ne.symm).trans i.hb⟩
def wD(A B:List Int)(x w y t D i j:Nat):Prop:=i<=w/\j<=t/\0<i+j/\i+j<w+t/\∃d₁ d₂,aD (bx w t (EF A B x y)) 0 0 i j d₁/\aD (bx w t (EF A B x y)) i j w t d₂/\d₁+d₂=D
theorem FZ{e:Nat->Nat->Prop}{i j w t D d₁ d₂:Nat}(hi:i<=w)(hj:j<=t)(h1:aD e 0 0 i j d₁)(h2:aD e i j w t d₂)(p1:0<d₁)(p2:0<d₂):0<i+j/\i+j<w+t:=by
 refine⟨pz λh=>?_,hM (fh hi hj) λh=>?_⟩
 ·obtain⟨rfl,rfl⟩:=Kk.1 h;exact absurd h1.zero (iq p1)
 ·have e1:i=w:=by exact cX (au [_,_] [] (.ln .v0 .v1) 1 [(1,.ln .v0 .v1)] rfl hi) (au [_,_,_,_] [] (.ln .v0 .v1) 1 [(1,.ln .v2 .v3),(-1,.en (.a .v1 .v2) (.a .v0 .v3))] rfl hj h)
  have e2:j=t:=by exact bE [_,_,_,_] [] .v0 .v1 [(-1,.en (.a .v2 .v0) (.a .v3 .v1)),(1,.en .v2 .v3)] rfl h e1
  subst e1;subst e2;exact absurd h2.zero (iq p2)
structure HI(e e':Nat->Nat->Prop)(D q:Nat)(s:HS):Prop where
 f:Rd e q s.1.1
 g:Rd e' q s.2.1
 na:s.1.2<=1+q*1000
 nb:s.2.2<=1+q*1000
 d:2*q<D
noncomputable abbrev lP(rv ov:Nat)(c3:E)(par:Int)(ret:E):S:=.for (.v 12) (.range [.neg (.x 11),.b .add (.x 11) (.c (.int 1)),.c (.int 2)]) (jX rv ov c3 par ret)
noncomputable abbrev oN:E:=.tup [.b .add (.x 2) (.x 13),.b .sub (.b .add (.x 4) (.x 13)) (.x 12)]
noncomputable abbrev oM:E:=.tup [.b .sub (.x 3) (.x 13),.b .add (.b .sub (.x 5) (.x 13)) (.x 12)]
theorem EO{C:ax}{rv ov:Nat}{c3 ret:E}{par:Int}{q:Nat}{J:aj}{Z:ae}{Q:QO}(hq:q<=500)(hJ:rd J 11=some (nI (q+1)))
  (h:∃n,bZ (.vals (cC (-((q:Int)+1)) 2 (q+2))) (.v 12) (λJ Z Q=>az C (jX rv ov c3 par ret) J Z Q) Q n 0 J Z):WS C (lP rv ov c3 par ret) J Z Q:=
 sI [-((q+1:Nat):Int),((q+1:Nat):Int)+1,2] (λQ qq=>by
  refine ao hJ ?_;refine ao rfl ?_;refine ao hJ ?_;exact qq) (Nf (ai hq (dR rfl))) h
theorem IP(i:HR A B){m:V}{l a:Option V}:rd (i.R x w y t (some m) l a) 11=some m:=rfl
theorem Ad(i:HR A B){f g:Int->Option Nat}{na nb q:Nat}{l a:Option V}{Q:QO}(hq:q<=500)(h:∃n,bZ (.vals (cC (-((q:Int)+1)) 2 (q+2))) (.v 12) (λJ Z Q=>az (i.fw x w y t g nb).C (jX 9 10 cF 1 oN) J Z Q) Q n 0 ((i.fw x w y t g nb).R true x w y t (q+1) l a) ((i.fw x w y t g nb).T f na)) :
  WS (Ph pF (i.r.n+1)) (lP 9 10 cF 1 oN) (i.R x w y t (some (nI (q+1))) l a) (i.T ((f,na),(g,nb))) Q:=by
 have k:∃n,bZ (.vals (cC (-((q:Int)+1)) 2 (q+2))) (.v 12) (λJ Z Q=>az (Ph pF (i.r.n+1)) (jX 9 10 cF 1 oN) J Z Q) Q n 0 (i.R x w y t (some (nI (q+1))) l a) (i.T ((f,na),(g,nb))):=h;exact EO hq (IP i) k
theorem G0(i:HR A B){f g:Int->Option Nat}{na nb q:Nat}{l a:Option V}{Q:QO}(hq:q<=500)(h:∃n,bZ (.vals (cC (-((q:Int)+1)) 2 (q+2))) (.v 12) (λJ Z Q=>az (i.bw x w y t f na).C (jX 10 9 m8 0 oM) J Z Q) Q n 0 ((i.bw x w y t f na).R false x w y t (q+1) l a) ((i.bw x w y t f na).T g nb)) :
  WS (Ph pF (i.r.n+1)) (lP 10 9 m8 0 oM) (i.R x w y t (some (nI (q+1))) l a) (i.T ((f,na),(g,nb))) Q:=by
 have k:∃n,bZ (.vals (cC (-((q:Int)+1)) 2 (q+2))) (.v 12) (λJ Z Q=>az (Ph pF (i.r.n+1)) (jX 10 9 m8 0 oM) J Z Q) Q n 0 (i.R x w y t (some (nI (q+1))) l a) (ak (ak i.r.Z i.ra (dP na f)) i.rb (dP nb g)):=h;rw[jR i.ne]at k;exact EO hq (IP i) k
theorem Mc(hX:x+w<=A.length)(hY:y+t<=B.length){D:Nat}(h0:¬bx w t (EF A B x y) 0 0)(h0':¬bx w t (EB A B x w y t) 0 0)(h2:2<=D)(hD:aD (bx w t (EF A B x y)) 0 0 w t D)(least:∀c,aD (bx w t (EF A B x y)) 0 0 w t c->D<=c)
  (q:Nat) (s:HS) (hq:q<=500) (hs:HI (bx w t (EF A B x y)) (bx w t (EB A B x w y t)) D q s) :
  (∃s',HI (bx w t (EF A B x y)) (bx w t (EB A B x w y t)) D (q+1) s'/\∀(i:HR A B)(j:Option V×Option V)(Q:QO),(∀(j:Option V×Option V),Q .next (i.R x w y t (some (nI (q+1))) j.1 j.2) (i.T s')) ->
   az (Ph pF (i.r.n+1)) [lP 9 10 cF 1 oN,lP 10 9 m8 0 oM] (i.R x w y t (some (nI (q+1))) j.1 j.2) (i.T s) Q) \/
  ∃r,(∃i j,r=.tup [nI (x+i),nI (y+j)]/\wD A B x w y t D i j)/\∀(i:HR A B)(j:Option V×Option V)(Q:QO),(∀J' Z,Sub i.r.Z Z->Q (.ret r) J' Z) ->
   az (Ph pF (i.r.n+1)) [lP 9 10 cF 1 oN,lP 10 9 m8 0 oM] (i.R x w y t (some (nI (q+1))) j.1 j.2) (i.T s) Q:=by
 obtain⟨⟨f,na⟩,⟨g,nb⟩⟩:=s;obtain⟨hf,hg,hna,hnb,hd⟩:=hs;replace hna:na<=1+q*1000:=hna;replace hnb:nb<=1+q*1000:=hnb;have pty:=hD.pty (k:=(w:Int)-t) (by exact bR [_,_] [] .c0 (.a .c1 (.s .c0 .c1)) [] rfl);have bw:∀{E:Nat->Nat->Prop}(i j),bx w t E i j->i<w:=λi j h=>h.1;have bt:∀{E:Nat->Nat->Prop}(i j),bx w t E i j->j<t:=λi j h=>h.2.1;rcases Ic (A:=A) (B:=B) (fw:=true) (g:=g) (x:=x) (w:=w) (y:=y) (t:=t) (c3:=cF) (ret:=oN) (par:=1) (q+1) na 9 10 (λz j=>.tup [nI (x+z),nI (y+j)]) (λ_ _ _=>rfl) (λ_ _ _=>rfl) (λk f na=>Vx hX hY (q+1) k f na) (λk f na=>VO (q+1) k f na) h0 hf (by have:aJ=1048576:=rfl;exact au [_,_,_] [] (.ln (.a (.a .v0 .v1) (.k 2)) .v2) 1 [(1001,.ln .v1 (.k 500)),(1,.ln .v0 (.a .k1 (.r .v1 1000))),(-1,.en .v2 (.k 1048576))] rfl hq hna this) with⟨⟨f',na'⟩,⟨f1,f2,f3⟩,run1⟩|⟨r,⟨z,j,k,rfl,r1,r2,r3⟩,run1⟩
 ·have lt:((w:Int)-t)%2=1->2*q+1<D:=λh=>hM hd λe=>Ih Ah f2 hg h f3 (by rw[show q+1+q=D by exact bE [_,_] [] (.a (.a .v0 .k1) .v0) .v1 [(-1,.en (.a (.m 2 .v0) .k1) .v1)] rfl e];exact hD);rcases Ic (A:=A) (B:=B) (fw:=false) (g:=f') (x:=x) (w:=w) (y:=y) (t:=t) (c3:=m8) (ret:=oM) (par:=0) (q+1) nb 10 9 (λz j=>.tup [.int ((x+w:Nat)-(z:Int)),.int ((y+t:Nat)-(j:Int))]) (λ_ _ _=>rfl) (λ_ _ _=>rfl) (λk f na=>Vw hX hY (q+1) k f na) (λk f na=>VN (q+1) k f na) h0' hg (by have:aJ=1048576:=rfl;exact au [_,_,_] [] (.ln (.a (.a .v0 .v1) (.k 2)) .v2) 1 [(1001,.ln .v1 (.k 500)),(1,.ln .v0 (.a .k1 (.r .v1 1000))),(-1,.en .v2 (.k 1048576))] rfl hq hnb this) with⟨⟨g',nb'⟩,⟨g1,g2,g3⟩,run2⟩|⟨r,⟨z,j,k,rfl,r1,r2,r3⟩,run2⟩
  ·refine .inl ⟨((f',na'),(g',nb')),⟨f2,g2,by have h:na'<=na+(q+2):=f1;show na'<=_;exact au [_,_,_] [] (.ln .v0 (.a .k1 (.r (.a .v1 .k1) 1000))) 1 [(1,.ln .v1 (.k 500)),(1,.ln .v2 (.a .k1 (.r .v1 1000))),(1,.ln .v0 (.a .v2 (.a .v1 (.k 2))))] rfl hq hna h,by have h:nb'<=nb+(q+2):=g1;show nb'<=_;exact au [_,_,_] [] (.ln .v0 (.a .k1 (.r (.a .v1 .k1) 1000))) 1 [(1,.ln .v1 (.k 500)),(1,.ln .v2 (.a .k1 (.r .v1 1000))),(1,.ln .v0 (.a .v2 (.a .v1 (.k 2))))] rfl hq hnb h,?_⟩,λi j Q qq=>?_⟩
   ·by_cases h:((w:Int)-t)%2=1
    ·exact hM (lt h) λe=>absurd (h.symm.trans ((Jl _ 2 ((q+1:Nat):Int)).symm.trans (e▸pty))) (by decide)
    ·have h:=(Int.emod_two_eq _).resolve_right h;have ne:¬aD (bx w t (EB A B x w y t)) 0 0 w t (q+1+(q+1)):=Ih sY g2 f2 h g3;have:D≠q+1+(q+1):=λe=>ne (e▸hD.back Ah (aU w) (aU t) (jL w) (jL t));exact hM (hM hd λe=>Gn h (e▸pty)) λe=>this (e.symm.trans (CQ _))
   ·refine aO (Ad i hq (run1 (i.fw x w y t g nb) j _ λj'=>aO (G0 i hq (run2 (i.bw x w y t f' na') j' _ λj''=>?_))));show Q _ _ (ak (ak i.r.Z i.ra (dP na' f')) i.rb (dP nb' g'));rw[jR i.ne];exact qq j''
  ·have leastB:∀c,aD (bx w t (EB A B x w y t)) 0 0 w t c->D<=c:=λc h=>least c (h.back sY (aU w) (aU t) (jL w) (jL t));have le2:q+1+(q+1)<=D:=CQ (q+1)▸hM hd λe=>Gn r3.1 (e▸pty);refine nD (Hp Ah bw bt leastB (d₁:=q+1) (d₂:=q+1) le2 f2 ((congrArg (λn:Nat=>(n:Int)%2) (CQ (q+1)).symm).trans (Int.mul_emod_right 2 ((q+1:Nat):Int))) r1 r2 r3) λk1 k2 k3 kk=>ar kk λc k4 k5=>?_;have e1:=k5.back sY (x':=w-z) (y':=t-j) (X':=0) (Y':=0) (fv k2) (fv k3) (jL w) (jL t);have e2:=k1.back sY (x':=w) (y':=t) (X':=w-z) (Y':=t-j) (aU w) (aU t) (fv k2) (fv k3);have le:=least _ (e1.append e2);have hlf:wD A B x w y t D (w-z) (t-j):=by
    have:=FZ (ez w z) (ez t j) (D:=D) e1 e2 (by exact au [_,_,_] [] (.tn .k0 .v0) 2 [(1,.ln (.k 2) .v1),(1,.tn (.m 2 .v2) .v1),(2,.ln .v1 (.a (.a .v2 .k1) .v0))] rfl h2 hd le) (fi q);exact⟨ez w z,ez t j,this.1,this.2,_,_,e1,e2,cX (ai (kS k4 _) le2) (cb (q+1) c▸le)⟩
   have er:V.tup [.int ((x+w:Nat)-(z:Int)),.int ((y+t:Nat)-(j:Int))]=.tup [nI (x+(w-z)),nI (y+(t-j))]:=by
    rw[show((x+w:Nat)-(z:Int))=((x+(w-z):Nat):Int) by exact bR [_,_,_,_] [] (.s (.c (.a .v0 .v1)) .c2) (.c (.a .v0 .v3)) [(1,.en (.a .v3 .v2) .v1)] rfl (aZ k2),show((y+t:Nat)-(j:Int))=((y+(t-j):Nat):Int) by exact bR [_,_,_,_] [] (.s (.c (.a .v0 .v1)) .c2) (.c (.a .v0 .v3)) [(1,.en (.a .v3 .v2) .v1)] rfl (aZ k3)]
   refine .inr ⟨.tup [.int ((x+w:Nat)-(z:Int)),.int ((y+t:Nat)-(j:Int))],⟨w-z,t-j,er,hlf⟩,λi j Q qq=>?_⟩
   ·exact aO (Ad i hq (run1 (i.fw x w y t g nb) j _ λj'=>aO (G0 i hq (run2 (i.bw x w y t f' na') j' _ λJ' Z h=>qq _ _ (z5 i.ha h)))))
 ·refine nD (Hp sY bw bt least (d₁:=q+1) (d₂:=q) (by exact au [_,_] [] (.ln (.a (.a .v0 .k1) .v0) .v1) 1 [(1,.tn (.m 2 .v0) .v1)] rfl hd) hg ((congrArg (·%2) (bR [_] [] (.c (.a (.a .v0 .k1) .v0)) (.a .k1 (.m 2 .c0)) [] rfl)).trans (Jl 1 2 (q:Int))) r1 r2 r3) λk1 k2 k3 kk=>ar kk λc k4 k5=>?_;have le:=least _ (k1.append k5);have hlf:=FZ k2 k3 (D:=D) k1 k5 (fi q) (by exact au [_,_,_] [] (.tn .k0 .v0) 2 [(1,.ln (.k 2) .v1),(1,.tn (.m 2 .v2) .v1),(2,.ln .v1 (.a .v0 (.a .v2 .k1)))] rfl h2 hd le);exact .inr ⟨.tup [nI (x+z),nI (y+j)],⟨z,j,rfl,k2,k3,hlf.1,hlf.2,_,_,k1,k5,by exact cX (au [_,_,_] [] (.ln (.a (.a .v0 .k1) .v1) .v2) 1 [(1,.tn (.m 2 .v0) .v2),(1,.ln .v1 .v0)] rfl hd k4) (au [_,_,_] [] (.ln .v0 (.a (.a .v1 .k1) .v2)) 1 [(1,.ln .v0 (.a .v2 (.a .v1 .k1)))] rfl le)⟩,λi jj Q qq=>aO (Ad i hq (run1 (i.fw x w y t g nb) jj _ λJ' Z h=>qq _ _ (z5 i.hb h)))⟩
end
end
section
theorem FV{e:Nat->Nat->Prop}(h0:¬e 0 0):Rd e 0 (λk=>if k=0 then some 0 else none):=by
 refine⟨λk _=>⟨λx h=>?_,λx j c hx h hc=>?_⟩,λk z h=>?_⟩
 ·by_cases c:k=0
  ·rw[if_pos c]at h;(injection h with h;subst h);exact⟨0,by rw[c];rfl,.nil⟩
  ·rw[if_neg c]at h;exact nn h
 ·cases yh.1 hc
  rcases h.last with⟨m,a,b,_,z⟩|⟨_,_,_,_,_,_,z,_⟩
  ·cases m with
   |zero=>subst a;subst b;exact⟨0,if_pos (by exact bR [] [_] .v0 .k0 [(1,.ei (.c (.a .k0 .k0)) (.a (.c (.a .k0 .k0)) .v0))] rfl hx),aC _⟩
   |succ m=>exact absurd (z 0 (fi m)) h0
  ·cases z
 ·by_cases c:k=0
  ·rw[c];exact⟨mC _,mC _⟩
  ·rw[if_neg c]at h;exact nn h
theorem O7:(λj:Int=>if j=0 then some (V.int 0) else none)=λk=>((if k=0 then some 0 else none:Option Nat)).map nI:=funext λk=>by
 by_cases c:k=0
 ·rw[if_pos c,if_pos c];rfl
 ·rw[if_neg c,if_neg c];rfl
section
variable{A B:List Int}{x w y t:Nat}
theorem fM{C:ax}{J J':aj}{Z:ae}{a b:E}{u v:V}{i j:Nat}{rest:List S}{Q:QO}(h:Ev C a J Z u)(k:Ev C b J Z v)(e:f7 J [i,j] [u,v]=J')(q:az C rest J' Z Q):az C (.s (.vs [i,j]) (.tup [a,b])::rest) J Z Q:=
 h _ (k _ ⟨rfl,e.symm▸q⟩)
theorem Ni{C:ax}{b:List S}{J:aj}{Z:ae}{Q:QO}{R:Nat}(h6:rd J 6=some (nI w))(h7:rd J 7=some (nI t))(hR:(w+t+1)/2=R)(hz:w+t<=900)(h:∃n,bZ (.vals (cC 1 1 R)) (.v 11) (λJ Z Q=>az C b J Z Q) Q n 0 J Z) :
  WS C (.for (.v 11) (.range [.c (.int 1),.b .add (.b .fdiv (.b .add (.b .add (.x 6) (.x 7)) (.c (.int 1))) (.c (.int 2))) (.c (.int 1))]) b) J Z Q:=
 sI [1,((1+R:Nat):Int)] (λQ q=>bh (fO (op:=.fdiv) (bh (bh (aa h6) (aa h7) rfl) Ev.cn rfl) Ev.cn rfl) Ev.cn (by subst hR;exact nM _ _) _ q) (su (x:=1) (hR▸ai (kU (ai (Nat.div_le_self ..) (cK hz)) 1) (by decide))) h
theorem Ud(hX:x+w<=A.length)(hY:y+t<=B.length)(hz:w+t<=900)(hw:0<w)(ht:0<t)(h0:A[x]?≠B[y]?)(h1:A[x+w-1]?≠B[y+t-1]?){D:Nat}(hD:aD (bx w t (EF A B x y)) 0 0 w t D)(least:∀c,aD (bx w t (EF A B x y)) 0 0 w t c->D<=c) :
  ∃i j,wD A B x w y t D i j/\∀(r:dQ A B)Q,Q (.tup [nI (x+i),nI (y+j)]) r.Z->Ph pF (r.n+2) 38 [.inst 2 r.s.d,pt x (x+w) y (y+t)] r.Z Q:=by
 have n0:¬bx w t (EF A B x y) 0 0:=λh=>h0 h.2.2;have n1:¬bx w t (EB A B x w y t) 0 0:=λh=>h1 h.2.2;have D2:2<=D:=OK n0 (λh=>h1 (by have h:=h.2.2;simp only[EF]at h;rw[xV hw,xV ht];exact h)) hw ht hD;generalize hR:(w+t+1)/2=R
 rcases IB (C:=λi:HR A B=>Ph pF (i.r.n+1)) (b:=[lP 9 10 cF 1 oN,lP 10 9 m8 0 oM]) (t:=.v 11) (cC 1 1 R) (λ(i:HR A B)_(j:Option V×Option V×Option V)=>i.R x w y t j.1 j.2.1 j.2.2) (λi s=>i.T s) (λq s=>HI (bx w t (EF A B x y)) (bx w t (EB A B x w y t)) D q s)
  (λr=>∃i j,r=.tup [nI (x+i),nI (y+j)]/\wD A B x w y t D i j) (λi=>i.r.Z) (λq v s hv hs=>by
   obtain⟨hq,rfl⟩:=qx hv;have hv:(1:Int)+(q:Int)*1=((q+1:Nat):Int):=by exact bR [_] [] (.a .k1 (.r .c0 1)) (.c (.a .v0 .k1)) [] rfl
   rw[hv];rcases Mc hX hY n0 n1 D2 hD least q s (ai (cv hq) (hR▸ai (Kb (cK hz)) (by decide))) hs with⟨s',h1,h2⟩|⟨r,h1,h2⟩
   ·exact .inl ⟨s',h1,λi j Q qq=>h2 i j.2 Q λj'=>qq (_,j') _ (Sub.refl' _)⟩
   ·exact .inr ⟨r,h1,λi j Q qq=>h2 i j.2 Q qq⟩) ((λk=>if k=0 then some 0 else none,1),(λk=>if k=0 then some 0 else none,1))
   ⟨FV n0,FV n1,aC _,aC _,by exact au [_] [] (.tn (.m 2 .k0) .v0) 1 [(1,.ln (.k 2) .v0)] rfl D2⟩ with⟨s',hs,_⟩|⟨r,⟨i,j,rfl,hh⟩,run⟩
 ·have e1:=hs.d;rw[oj,<-hR]at e1;have e2:D<=t+w:=least _ (aD.edits (bJ w) (bJ t));exact pR (fS [_,_,_,_] [] [(1,.tn (.m 2 .v0) .v1),(1,.ln .v1 (.a .v2 .v3)),(1,.tn (.a (.a .v3 .v2) .k1) (.m 2 (.a .v0 .k1)))] rfl e1 e2 (Nat.lt_mul_div_succ (w+t+1) (by decide:0<2)))
 ·refine⟨i,j,hh,λr Q q=>bN rfl ?_⟩;refine⟨rfl,?_⟩;refine fM (u:=nI w) (v:=nI t) (cw (aa rfl) (aa rfl) (by exact bR [_,_] [] (.s (.c (.a .v0 .v1)) .c0) .c1 [] rfl)) (cw (aa rfl) (aa rfl) (by exact bR [_,_] [] (.s (.c (.a .v0 .v1)) .c0) .c1 [] rfl)) rfl ?_;intro ra hra rb hrb;have ne:ra≠rb:=λe=>by rw[<-e,aP]at hrb;exact sn hrb
  have hrb':r.Z rb=none:=(aA ne.symm).symm.trans hrb;have z:=run ⟨r,ra,rb,hra,hrb',ne⟩ (none,none,none) (λo J Z=>match o with
   |.next=>az (Ph pF (r.n+1)) [.stop] J Z λo _ Z'=>∃v' Z'',Wk (jc o) Z' v' Z''/\Q v' Z''
   |.ret v=>∃v' Z'',Wk v Z v' Z''/\Q v' Z'') λJ' Z h=>j9 h q
  refine⟨rfl,?_⟩;have d0:dP 1 (λk=>if k=0 then some 0 else none)=.dI 1 (λj=>if j=0 then some (V.int 0) else none):=congrArg (M.dI 1) O7.symm;have z2:=Ni (J:=(HR.mk r ra rb hra hrb' ne).R x w y t none none none) rfl rfl hR hz z
  dsimp only [HR.T]at z2
  rw[<-jR ne,d0]at z2;exact z2
end
end
section
def gE(A B:List Int)(i j:Nat):Prop:=A[i]?=B[j]?/\i<A.length/\j<B.length
def dO(A B:List Int)(x X y Y m:Nat):Prop:=aD (gE A B) x y X Y m/\∀c,aD (gE A B) x y X Y c->m<=c
abbrev Pt:=Nat×Nat×Nat×Nat
structure oz(G H:List Bool)(p:Pt):Prop where
 x:p.1<=p.2.1
 y:p.2.2.1<=p.2.2.2
 g:∀i,p.1<=i->i<p.2.1->G[i]?=some false
 h:∀i,p.2.2.1<=i->i<p.2.2.2->H[i]?=some false
def Jr(A B:List Int)(G H:List Bool)(x₀ y₀:Nat):List Pt->Nat->Nat->Nat->Prop
 |[],u,v,n=>∃c d,bg A B G H x₀ y₀ u v c d/\n=c+d
 |p::W,u,v,n=>oz G H p/\∃c d m n',bg A B G H p.2.1 p.2.2.2 u v c d/\dO A B p.1 p.2.1 p.2.2.1 p.2.2.2 m/\Jr A B G H x₀ y₀ W p.1 p.2.2.1 n'/\n=n'+m+(c+d)
section
variable{A B:List Int}{G H G' H':List Bool}
theorem bg.append{x y X Y X' Y' c d c' d':Nat}(h:bg A B G H x y X Y c d)(k:bg A B G H X Y X' Y' c' d'):bg A B G H x y X' Y' (c'+c) (d'+d):=by
 induction h with
 |nil=>exact k
 |keep a b e _ ih=>exact .keep a b e (ih k)
 |out g _ ih=>exact .out g (ih k)
 |inn g _ ih=>exact .inn g (ih k)
theorem bg.congr{x y X Y c d:Nat}(h:bg A B G H x y X Y c d)(g:∀i,x<=i->i<X->G'[i]?=G[i]?)(k:∀i,y<=i->i<Y->H'[i]?=H[i]?):bg A B G' H' x y X Y c d:=by
 induction h with
 |nil=>exact .nil
 |keep a b e h ih=>exact .keep a ((g _ (aC _) h.le.1).trans b) ((k _ (aC _) h.le.2).trans e) (ih (λi a=>g i (cL a)) λi a=>k i (cL a))
 |out b h ih=>exact .out ((g _ (aC _) h.le.1).trans b) (ih (λi a=>g i (cL a)) k)
 |inn e h ih=>exact .inn ((k _ (aC _) h.le.2).trans e) (ih g λi a=>k i (cL a))
theorem bg.way{x y X Y c d:Nat}(h:bg A B G H x y X Y c d)(hA:A.length=G.length)(hB:B.length=H.length):aD (gE A B) x y X Y (c+d):=by
 have lt{l:List Bool}{i:Nat}{b:Bool}(h:l[i]?=some b):i<l.length:=pB λz=>by rw[fI z]at h;exact nn h
 induction h with
 |nil=>exact .nil
 |keep a b e _ ih=>exact .keep ⟨a,hA▸lt b,hB▸lt e⟩ ih
 |@out x y X Y c d b h ih=>exact(mB c d)▸.out ih
 |inn e _ ih=>exact .inn ih
theorem bg.run{x y:Nat}(hg:∀t,A[x+t]?=B[y+t]?->True):∀{k:Nat},(∀t,t<k->A[x+t]?=B[y+t]?/\G[x+t]?=some false/\H[y+t]?=some false)->bg A B G H x y (x+k) (y+k) 0 0:=@λrr=>ni (@λ_=>.nil)
 (@λk ih h=>(ih λt ht=>h t (eM ht)).append (.keep (h k (bu k)).1 (h k (bu k)).2.1 (h k (bu k)).2.2 .nil)) rr
theorem bg.marks{x y:Nat}{k l:Nat}(g:∀i,x<=i->i<x+k->G[i]?=some true)(h:∀i,y<=i->i<y+l->H[i]?=some true):bg A B G H x y (x+k) (y+l) k l:=by
 have a:∀k,(∀i,x<=i->i<x+k->G[i]?=some true)->bg A B G H x y (x+k) y k 0:=by
  intro k;induction k with
  |zero=>exact λ_=>.nil
  |succ k ih=>
   intro g;have z:=(ih λi a b=>g i a (eM b)).append (.out (g _ (aL ..) (bu _)) .nil);rw[aU,cb 1 k]at z;exact z
 have b:∀l,(∀i,y<=i->i<y+l->H[i]?=some true)->bg A B G H (x+k) y (x+k) (y+l) 0 l:=by
  intro l;induction l with
  |zero=>exact λ_=>.nil
  |succ l ih=>
   intro g;have z:=(ih λi a b=>g i a (eM b)).append (.inn (g _ (aL ..) (bu _)) .nil);rw[aU,cb 1 l]at z;exact z
 have z:=(a k g).append (b l h);rw[aU]at z;exact z
theorem PW{P:Nat->Prop}:∀{n:Nat},P n->∃m,P m/\∀c,P c->m<=c:=by
 have key:∀n,(∃m,P m/\∀c,P c->m<=c)\/∀m,m<n->¬P m:=by
  intro n;induction n with
  |zero=>exact .inr λm h=>absurd h (dM m)
  |succ n ih=>
   rcases ih with h|h
   ·exact .inl h
   ·by_cases q:P n
    ·exact .inl ⟨n,q,λc hc=>x5 λl=>h c l hc⟩
    ·exact .inr λm hm=>(ka.1 hm).elim (h m) λe=>e▸q
 exact λ{n}h=>(key (n+1)).elim id λk=>absurd h (k n (bu n))
theorem lC{x X y Y:Nat}(h:x<=X)(k:y<=Y):∃m,dO A B x X y Y m:=PW (aD.edits h k)
theorem dO.uniq{x X y Y m n:Nat}(h:dO A B x X y Y m)(k:dO A B x X y Y n):m=n:=cX (h.2 _ k.1) (k.2 _ h.1)
section
variable{x₀ y₀:Nat}
theorem Jr.extend{u v u' v' c d:Nat}(k:bg A B G H u v u' v' c d){W:List Pt}{n:Nat}:Jr A B G H x₀ y₀ W u v n->Jr A B G H x₀ y₀ W u' v' (n+(c+d)):=li (λh=>hE h λc' d' h e=>⟨_,_,h.append k,by rw[e,cb c c',cb d d',Ka]⟩)
 (λp W _ h=>xw h.2 λc' d' m n' h' l j e=>⟨h.1,_,_,m,n',h'.append k,l,j,by rw[e,cb c c',cb d d',cu,Ka c' d' c d]⟩) W
theorem Jr.congr:∀{W:List Pt}{u v n:Nat},Jr A B G H x₀ y₀ W u v n->(∀i,i<u->G'[i]?=G[i]?)->(∀i,i<v->H'[i]?=H[i]?)->Jr A B G' H' x₀ y₀ W u v n
 :=λ{W}=>@(li (λ{u v n}h g k=>hE h λc d h e=>⟨c,d,h.congr (λi _=>g i) λi _=>k i,e⟩)
 (λp W ih{u v n}h g k=>xw h.2 λc d m n' h' l j e=>
  have b:=h.1;have hu:=λi(q:i<p.2.1)=>g i (aQ q h'.le.1);have hv:=λi(q:i<p.2.2.2)=>k i (aQ q h'.le.2)
  ⟨⟨b.x,b.y,λi q r=>(hu i r).trans (b.g i q r),λi q r=>(hv i r).trans (b.h i q r)⟩,c,d,m,n',h'.congr (λi _=>g i) λi _=>k i,l,ih j (λi q=>hu i (aQ q b.x)) λi q=>hv i (aQ q b.y),e⟩) W)
theorem Jr.lay{p:Pt}{W:List Pt}{u v n c d:Nat}(h:Jr A B G H x₀ y₀ (p::W) u v n)(g:∀i,i<p.1\/p.2.1<=i->G'[i]?=G[i]?)(k:∀i,i<p.2.2.1\/p.2.2.2<=i->H'[i]?=H[i]?)(l:bg A B G' H' p.1 p.2.2.1 p.2.1 p.2.2.2 c d) :
  ∃m n',dO A B p.1 p.2.1 p.2.2.1 p.2.2.2 m/\n'+m=n+(c+d)/\Jr A B G' H' x₀ y₀ W u v n':=by
 obtain⟨b,c',d',m,n',h1,h2,h3,rfl⟩:=h;refine⟨m,_,h2,?_,((h3.congr (λi q=>g i (.inl q)) λi q=>k i (.inl q)).extend l).extend (h1.congr (λi q _=>g i (.inr q)) λi q _=>k i (.inr q))⟩;rw[dK (n'+(c+d)) (c'+d') m,dK n' (c+d) m,dK]
theorem Jr.split{x X y Y a b s:Nat}{W:List Pt}{u v n:Nat}(h:Jr A B G H x₀ y₀ ((x,X,y,Y)::W) u v n)(h1:x<=a)(h2:a+s<=X)(h3:y<=b)(h4:b+s<=Y)(hs:∀t,t<s->A[a+t]?=B[b+t]?) :
  ∃m m₁ m₂ n',dO A B x X y Y m/\dO A B x a y b m₁/\dO A B (a+s) X (b+s) Y m₂/\n'+m=n+(m₁+m₂)/\Jr A B G H x₀ y₀ ((a+s,X,b+s,Y)::(x,a,y,b)::W) u v n':=by
 obtain⟨bl,c',d',m,n',k1,k2,k3,rfl⟩:=h;refine bA (lC (A:=A) (B:=B) h1 h3) λm₁ l1=>?_;refine bA (lC (A:=A) (B:=B) h2 h4) λm₂ l2=>?_;have aX:a<=X:=ai (aL ..) h2;have bY:b<=Y:=ai (aL ..) h4;have r:bg A B G H a b (a+s) (b+s) 0 0:=bg.run (λ_ _=>trivial) λt ht=>⟨hs t ht,bl.g _ (ai h1 (aL ..)) (aQ (eF ht a) h2),bl.h _ (ai h3 (aL ..)) (aQ (eF ht b) h4)⟩
 refine⟨m,m₁,m₂,n'+m₁+m₂+(c'+d'),k2,l1,l2,?_,⟨h2,h4,λi q r=>bl.g i (ai (ai h1 (aL ..)) q) r,λi q r=>bl.h i (ai (ai h3 (aL ..)) q) r⟩,c',d',m₂,_,k1,l2,
  ⟨⟨h1,h3,λi q r=>bl.g i q (aQ r aX),λi q r=>bl.h i q (aQ r bY)⟩,0,0,m₁,n',r,l1,k3,rfl⟩,rfl⟩
 exact bE [_,_,_,_,_,_] [] (.a (.a (.a (.a .v0 .v1) .v2) (.a .v3 .v4)) .v5) (.a (.a (.a .v0 .v5) (.a .v3 .v4)) (.a .v1 .v2)) [] rfl
end
end
end
section
section
variable{A B:List Int}{G H:List Bool}{x X y Y x' X' y' Y':Nat}
theorem aD.run{e:Nat->Nat->Prop}{x y:Nat}:∀{k:Nat},(∀t,t<k->e (x+t) (y+t))->aD e x y (x+k) (y+k) 0:=@λrr=>ni (@λ_=>.nil)
 (@λk ih h=>(ih λt ht=>h t (eM ht)).append (.keep (h k (bu k)) .nil)) rr
theorem dO.trim{m:Nat}(hX:X<=A.length)(hY:Y<=B.length)(T:qI A B x X y Y x' X' y' Y')(h:dO A B x X y Y m):dO A B x' X' y' Y' m:=by
 obtain⟨⟨i,rfl,rfl,hi⟩,⟨j,rfl,rfl,hj⟩,hx,hy,_⟩:=T;obtain⟨p,rfl⟩:=bS hx;obtain⟨q,rfl⟩:=bS hy;have r1:aD (gE A B) x y (x+i) (y+i) 0:=aD.run λt ht=>⟨hi t ht,aQ (eF ht x) (ai (ai (aL _ p) (aL _ j)) hX),aQ (eF ht y) (ai (ai (aL _ q) (aL _ j)) hY)⟩
 have r2:aD (gE A B) (x+i+p) (y+i+q) (x+i+p+j) (y+i+q+j) 0:=aD.run λt ht=>⟨hj t ht,aQ (eF ht _) hX,aQ (eF ht _) hY⟩
 have up:∀{c},aD (gE A B) (x+i) (y+i) (x+i+p) (y+i+q) c->aD (gE A B) x y (x+i+p+j) (y+i+q+j) c:=λ{c}w=>by
  have z:=(r1.append w).append r2;rw[jL,aU]at z;exact z
 obtain⟨c,c1,c2⟩:=h.1.diags (m:=i) (ai (aL _ p) (aL _ j)) (ai (aL _ q) (aL _ j));refine ar c2.diagsE λc' c3 c4=>?_;have e:c'=m:=cX (ai c3 c1) (h.2 _ (up c4));exact⟨e▸c4,λc w=>h.2 c (up w)⟩
theorem Jr.trim{x₀ y₀ u v n:Nat}{W:List Pt}(hX:X<=A.length)(hY:Y<=B.length)(T:qI A B x X y Y x' X' y' Y')(h:Jr A B G H x₀ y₀ ((x,X,y,Y)::W) u v n):Jr A B G H x₀ y₀ ((x',X',y',Y')::W) u v n:=by
 obtain⟨bl,c,d,m,n',k1,k2,k3,rfl⟩:=h;have l2:=k2.trim hX hY T;obtain⟨⟨i,rfl,rfl,hi⟩,⟨j,rfl,rfl,hj⟩,hx,hy,_⟩:=T;have a1{a b c d:Nat}(h:a+b<=c):a+b<=c+d:=ai h (aL _ _);have r1:bg A B G H x y (x+i) (y+i) 0 0:=bg.run (λ_ _=>trivial) λt ht=>⟨hi t ht,bl.g _ (aL ..) (aQ (eF ht x) (a1 hx)),bl.h _ (aL ..) (aQ (eF ht y) (a1 hy))⟩
 have xx:x<=X':=ai (aL x i) hx;have yy:y<=Y':=ai (aL y i) hy;have r2:bg A B G H X' Y' (X'+j) (Y'+j) 0 0:=bg.run (λ_ _=>trivial) λt ht=>⟨hj t ht,bl.g _ (ai xx (aL ..)) (eF ht X'),bl.h _ (ai yy (aL ..)) (eF ht Y')⟩
 exact⟨⟨hx,hy,λt q r=>bl.g t (ai (aL x i) q) (aQ r (aL X' j)),λt q r=>bl.h t (ai (aL y i) q) (aQ r (aL Y' j))⟩,c,d,m,n',r2.append k1,l2,k3.extend r1,rfl⟩
structure MI(A B:List Int)(G₀ H₀:List Bool)(P:Pt)(W:List Pt)(G H:List Bool)(n:Nat):Prop where
 lg:G.length=A.length
 lh:H.length=B.length
 og:∀i,i<P.1\/P.2.1<=i->G[i]?=G₀[i]?
 oh:∀i,i<P.2.2.1\/P.2.2.2<=i->H[i]?=H₀[i]?
 j:Jr A B G H P.1 P.2.2.1 W P.2.1 P.2.2.2 n
theorem Jr.base{x₀ y₀:Nat}:∀{W:List Pt}{u v n:Nat},Jr A B G H x₀ y₀ W u v n->x₀<=u/\y₀<=v:=λ{W}=>@(li (λ{_ _ _}h=>hE h λ_ _ h _=>h.le)
 (λp W ih{_ _ _}h=>xw h.2 λ_ _ _ _ h' _ j _=>⟨ai (ih j).1 (ai h.1.x h'.le.1),ai (ih j).2 (ai h.1.y h'.le.2)⟩) W)
theorem Jr.top{x₀ y₀ u v n:Nat}{p:Pt}{W:List Pt}(h:Jr A B G H x₀ y₀ (p::W) u v n):oz G H p/\x₀<=p.1/\p.2.1<=u/\y₀<=p.2.2.1/\p.2.2.2<=v:=by
 obtain⟨b,_,_,_,_,k,_,j,_⟩:=h;exact⟨b,j.base.1,k.le.1,j.base.2,k.le.2⟩
theorem MI.mark{G₀ H₀:List Bool}{P:Pt}{W:List Pt}{n k l:Nat}(h:MI A B G₀ H₀ P ((x,x+k,y,y+l)::W) G H n) :
  ∃m n',dO A B x (x+k) y (y+l) m/\n'+m=n+(k+l)/\MI A B G₀ H₀ P W (cU G x k) (cU H y l) n':=by
 have out{G:List Bool}{x k i:Nat}(h:i<x\/x+k<=i):(cU G x k)[i]?=G[i]?:=by
  rw[qf,if_neg λq=>h.elim (λz=>bc.2 q.1 z) λz=>bc.2 z q.2]
 have ins{G:List Bool}{x k i:Nat}(hG:∀i,x<=i->i<x+k->G[i]?=some false)(h1:x<=i)(h2:i<x+k):(cU G x k)[i]?=some true:=by
  rw[qf,if_pos ⟨h1,h2⟩,hG i h1 h2];rfl
 refine I9 h.j.top λbl b1 b2 b3 b4=>?_;refine cp (h.j.lay (G':=cU G x k) (H':=cU H y l) (λi q=>out q) (λi q=>out q) (bg.marks (λi=>ins bl.g) λi=>ins bl.h)) λm n' h1 h2 h3=>?_;exact⟨m,n',h1,h2,(nW ..).trans h.lg,(nW ..).trans h.lh,λi q=>(out (q.imp (λz=>aQ z b1) λz=>ai b2 z)).trans (h.og i q),λi q=>(out (q.imp (λz=>aQ z b3) λz=>ai b4 z)).trans (h.oh i q),h3⟩
noncomputable def wN:Nat->Nat
 |0=>1
 |n+1=>2*n+1
theorem HP:∀n,1<=wN n:=λrr=>ni (aC 1)
 (λn _=>df ..) rr
theorem AL:∀n,wN n<=2*n+1:=λrr=>ni (aC 1)
 (λn _=>kS (rD 2 (eN n)) 1) rr
theorem Tu:∀{m n:Nat},m<=n->wN m<=wN n
 |0,n,_=>HP n
 |m+1,n+1,h=>kS (rD 2 (pv h)) 1
theorem tB:∀{n:Nat},0<n->wN n+1=2*n
 |n+1,_=>rfl
noncomputable def wt(p:Pt):Nat:=wN (p.2.1-p.1+(p.2.2.2-p.2.2.1))
noncomputable def dq:List Pt->Nat
 |[]=>0
 |p::W=>wt p+dq W
end
end
section
noncomputable abbrev dG(p:Pt):V:=pt p.1 p.2.1 p.2.2.1 p.2.2.2
structure KR(A B:List Int)(G₀ H₀:List Bool)where
 n:Nat
 Z:ae
 s:Sh
 a:Nat
 hA:s.A=A
 hB:s.B=B
 hs:gI s G₀ H₀ Z
 ha:Z a=none
abbrev KS:=List Pt×List Bool×List Bool
section
variable{A B:List Int}{G₀ H₀ G H:List Bool}
noncomputable def KR.T(r:KR A B G₀ H₀)(s:KS):ae:=ak (ak (ak r.Z r.s.g (.list (vB s.2.1))) r.s.h (.list (vB s.2.2))) r.a (.list (s.1.reverse.map dG))
section
variable(r:KR A B G₀ H₀){W:List Pt}{p p':Pt}
theorem KR.na{z:Nat}{m:M}(h:r.Z z=some m):z≠r.a:=λe=>sn (h.symm.trans ((congrArg r.Z e).trans r.ha))
theorem KR.dg:r.s.d≠r.s.g:=kO r.hs.at_d r.hs.at_g rfl
theorem KR.dh:r.s.d≠r.s.h:=kO r.hs.at_d r.hs.at_h rfl
theorem KR.on(s:KS):jY r.s (r.T s):=(aA (r.na r.hs.at_d)).trans ((aA r.dh).trans ((aA r.dg).trans r.hs.at_d))
theorem KR.sheet:gI r.s G H (r.T (W,G,H)):=
 ⟨r.on _,(aA (r.na r.hs.at_g)).trans ((aA r.hs.gh).trans (aP ..)),(aA (r.na r.hs.at_h)).trans (aP ..),r.hs.gh⟩
theorem KR.top(s:KS):r.T s r.a=some (.list (s.1.reverse.map dG)):=aP ..
theorem KR.set{W':List Pt}{l:List V}(h:W'.reverse.map dG=l):ak (r.T (W,G,H)) r.a (.list l)=r.T (W',G,H):=by
 unfold KR.T;rw[dX,h]
theorem KR.marked{G' H':List Bool}:ak (ak (r.T (W,G,H)) r.s.g (.list (vB G'))) r.s.h (.list (vB H'))=r.T (W,G',H'):=by
 unfold KR.T;rw[<-jR (r.na r.hs.at_g),<-jR (r.na r.hs.at_h),jR r.hs.gh.symm,dX,dX]
theorem KR.init:ak r.Z r.a (.list [dG p])=r.T ([p],G₀,H₀):=by
 have same:∀{Z:ae}{g:Nat}{m:M},Z g=some m->ak Z g m=Z:=λ{Z g m}h=>funext λc=>by
  by_cases e:c=g
  ·rw[e,aP,h]
  ·exact aA e
 unfold KR.T;rw[same r.hs.at_g,same r.hs.at_h];rfl
noncomputable abbrev KR.run(m:Nat)(s:KS):dQ A B:=⟨m,r.T s,r.s,r.hA,r.hB,r.on s⟩
theorem pH:(p::W).reverse.map dG=W.reverse.map dG++[dG p]:=by rw[rG,dy];rfl
theorem zg{m sv:Nat}{J:aj}(h0:rd J 0=some (.inst 2 r.s.d))(hs:rd J sv=some (.ref r.a))(ht:∀(r:dQ A B) Q,Q (dG p') r.Z->Ph pF (r.n+1) 35 [.inst 2 r.s.d,dG p] r.Z Q){Q:QV}(q:Q (dG p') (r.T (W,G,H))) :
  WE (Ph pF (m+1)) (.h (.x 0) 26 [.bm (.x sv) .pop []]) J (r.T (p::W,G,H)) Q:=by
 refine ao h0 (ao (cY (r.on _) rfl) (ao hs ⟨i7 (r.top _) rfl,ao (vL (r.top _)) (ao rfl (ao (a:=dG p) ?_ ?_))⟩))
 ·show((p::W).reverse.map dG).getLast? = _;rw[pH,BE]
 ·rw[r.set (W':=W) (by show _ = ((p::W).reverse.map dG).dropLast;rw[pH,List.dropLast_concat])];exact ht (r.run m (W,G,H)) Q q
theorem yP{m x k y l:Nat}(hx:x+k<=G.length)(hy:y+l<=H.length)(hG:G.length<=1000)(hH:H.length<=1000){Q:QV}(q:Q .none (r.T (W,cU G x k,cU H y l))):Ph pF (m+1) 36 [.inst 2 r.s.d,pt x (x+k) y (y+l)] (r.T (W,G,H)) Q:=
 mark r.sheet hx hy hG hH (r.marked.symm▸q)
theorem push{C:ax}{sv:Nat}{J:aj}{e:E}{rest:List S}{Q:QO}(hs:rd J sv=some (.ref r.a))(he:Ev C e J (r.T (W,G,H)) (dG p))(hl:W.length<1000)(q:az C rest J (r.T (p::W,G,H)) Q) :
  az C (.ex (.bm (.x sv) .append [e])::rest) J (r.T (W,G,H)) Q:=by
 refine ao hs ⟨i7 (r.top _) rfl,he _ (gj (ky (r.top _) ?_ ?_))⟩
 ·show(W.reverse.map dG).length<aJ;rw[aY,my];exact fL hl (by decide)
 ·rw[r.set (W':=p::W) pH];exact q
end
theorem aD.shift{e e':Nat->Nat->Prop}{x y w t a b c d n:Nat}(m:∀i j,e (x+i) (y+j)->i<w->j<t->e' i j)(h:aD e a b c d n):∀{i j I Jaa},a=x+i->b=y+j->c=x+I->d=y+Jaa->I<=w->Jaa<=t->aD e' i j I Jaa n:=by
 induction h with
 |nil=>intro i j I Jaa h1 h2 h3 h4 _ _;cases um (h1.symm.trans h3);cases um (h2.symm.trans h4);exact .nil
 |keep q k ih=>
  intro i j I Jaa h1 h2 h3 h4 h5 h6;subst h1;subst h2;subst h3;subst h4;exact .keep (m i j q (aQ (ub k.le.1) h5) (aQ (ub k.le.2) h6)) (ih rfl rfl rfl rfl h5 h6)
 |out _ ih=>exact λh1 h2 h3 h4 h5 h6=>.out (ih (congrArg (·+1) h1) h2 h3 h4 h5 h6)
 |inn _ ih=>exact λh1 h2 h3 h4 h5 h6=>.inn (ih h1 (congrArg (·+1) h2) h3 h4 h5 h6)
theorem aD.unshift{e e':Nat->Nat->Prop}{x y i j I Jaa n:Nat}(m:∀i j,e' i j->e (x+i) (y+j))(h:aD e' i j I Jaa n):aD e (x+i) (y+j) (x+I) (y+Jaa) n:=by
 induction h with
 |nil=>exact .nil
 |keep q _ ih=>exact .keep (m _ _ q) ih
 |out _ ih=>exact .out ih
 |inn _ ih=>exact .inn ih
section
variable{x w y t m:Nat}(hX:x+w<=A.length)(hY:y+t<=B.length)
include hX hY
theorem Av(i j:Nat)(h:bx w t (EF A B x y) i j):gE A B (x+i) (y+j):=⟨h.2.2,aQ (eF h.1 x) hX,aQ (eF h.2.1 y) hY⟩
theorem Uq(h:dO A B x (x+w) y (y+t) m):aD (bx w t (EF A B x y)) 0 0 w t m/\∀c,aD (bx w t (EF A B x y)) 0 0 w t c->m<=c:=
 ⟨h.1.shift (λi j q a b=>⟨a,b,q.1⟩) rfl rfl rfl rfl (aC w) (aC t),λc k=>h.2 c (k.unshift (Av hX hY))⟩
end
end
end
section
theorem p7{C:ax}{J:aj}{Z:ae}{a:Nat}{l:List V}{e:E}(h:Ev C e J Z (.ref a))(hl:Z a=some (.list l)):aI C (.m .ne e (.lst false [])) J Z (l≠[]):=by
 have d:iM Z (.ref a)=.list l:=by unfold iM;simp only[gV hl]
 refine⟨!l.isEmpty,by cases l<;>simp,dj h (λQ q=>q) ?_⟩;show(gO 4 (iM Z (.ref a)) (.list [])).map _ = _;rw[d];cases l<;>rfl
structure oI(A B:List Int)(G₀ H₀:List Bool)(P:Pt)(G H:List Bool)(n:Nat):Prop where
 lg:G.length=A.length
 lh:H.length=B.length
 og:∀i,i<P.1\/P.2.1<=i->G[i]?=G₀[i]?
 oh:∀i,i<P.2.2.1\/P.2.2.2<=i->H[i]?=H₀[i]?
 lay:∃c d,bg A B G H P.1 P.2.2.1 P.2.1 P.2.2.2 c d/\n=c+d
section
variable{A B:List Int}{G₀ H₀ G H:List Bool}{P p:Pt}{W:List Pt}{n:Nat}
theorem MI.laid(h:MI A B G₀ H₀ P [] G H n):oI A B G₀ H₀ P G H n:=⟨h.lg,h.lh,h.og,h.oh,h.j⟩
theorem oI.in(h:oI A B G₀ H₀ p G H n){G₁ H₁:List Bool}{n₁:Nat}(h₁:MI A B G₁ H₁ P (p::W) G₀ H₀ n₁):∃m n',dO A B p.1 p.2.1 p.2.2.1 p.2.2.2 m/\n'+m=n₁+n/\MI A B G₁ H₁ P W G H n':=by
 obtain⟨c,d,l,rfl⟩:=h.lay;obtain⟨bl,b1,b2,b3,b4⟩:=h₁.j.top;obtain⟨m,n',k1,k2,k3⟩:=h₁.j.lay h.og h.oh l;exact⟨m,n',k1,k2,h.lg,h.lh,λi q=>(h.og i (q.imp (λz=>aQ z b1) λz=>ai b2 z)).trans (h₁.og i q),λi q=>(h.oh i (q.imp (λz=>aQ z b3) λz=>ai b4 z)).trans (h₁.oh i q),k3⟩
theorem MI.first{m:Nat}(hA:G₀.length=A.length)(hB:H₀.length=B.length)(b:oz G₀ H₀ P)(h:dO A B P.1 P.2.1 P.2.2.1 P.2.2.2 m):MI A B G₀ H₀ P [P] G₀ H₀ m:=
 ⟨hA,hB,λ_ _=>rfl,λ_ _=>rfl,b,0,0,m,0,.nil,h,⟨0,0,.nil,rfl⟩,(aU m).symm⟩
theorem MI.trim{p':Pt}(hX:P.2.1<=A.length)(hY:P.2.2.2<=B.length)(h:MI A B G₀ H₀ P (p::W) G H n)(T:qI A B p.1 p.2.1 p.2.2.1 p.2.2.2 p'.1 p'.2.1 p'.2.2.1 p'.2.2.2):MI A B G₀ H₀ P (p'::W) G H n:=
 have b:=h.j.top
 ⟨h.lg,h.lh,h.og,h.oh,h.j.trim (ai b.2.2.1 hX) (ai b.2.2.2.2 hY) T⟩
theorem dO.edge{x X y Y m:Nat}(h:dO A B x X y Y m)(e:x=X\/y=Y):m=X-x+(Y-y):=by
 have l:=h.1.le;refine kR h.1.kept λk i j h1 h2 h3=>?_;rcases e with e|e
 ·subst e;exact cX (au [_,_,_,_,_,_,_,_,_] [] (.ln .v0 (.a .v1 .v2)) 1 [(-1,.en .v3 (.a (.a .v4 .v5) .v6)),(1,.en .v0 (.a .v7 .v6)),(-1,.en .v8 (.a (.a .v8 .v5) .v7)),(1,.ln .v3 (.a .v2 .v4))] rfl h2 h3 h1 cW) (au [_,_,_,_,_,_,_,_,_] [] (.ln (.a .v0 .v1) .v2) 1 [(1,.en .v3 (.a (.a .v4 .v5) .v6)),(-1,.en .v2 (.a .v7 .v6)),(-1,.en .v8 (.a (.a .v8 .v5) .v7)),(1,.en (.a .v0 .v8) .v8),(1,.en (.a .v1 .v4) .v3)] rfl h2 h3 h1 (aZ l.1) (aZ l.2))
 ·subst e;exact cX (au [_,_,_,_,_,_,_,_,_] [] (.ln .v0 (.a .v1 .v2)) 1 [(-1,.en .v3 (.a (.a .v4 .v5) .v6)),(1,.en .v0 (.a .v6 .v7)),(-1,.en .v8 (.a (.a .v8 .v5) .v7)),(1,.ln .v3 (.a .v1 .v4))] rfl h1 h3 h2 cW) (au [_,_,_,_,_,_,_,_,_] [] (.ln (.a .v0 .v1) .v2) 1 [(1,.en .v3 (.a (.a .v4 .v5) .v6)),(-1,.en .v2 (.a .v6 .v7)),(-1,.en .v8 (.a (.a .v8 .v5) .v7)),(1,.en (.a .v0 .v4) .v3),(1,.en (.a .v1 .v8) .v8)] rfl h1 h3 h2 (aZ l.1) (aZ l.2))
theorem wi(p:Pt):1<=wt p:=HP _
theorem vP:∀W:List Pt,W.length<=dq W:=λrr=>li (aC _)
 (λp W ih=>ai (dA (cb W.length 1)) (fh (wi p) (ih))) rr
theorem z6{p p':Pt}(T:qI A B p.1 p.2.1 p.2.2.1 p.2.2.2 p'.1 p'.2.1 p'.2.2.1 p'.2.2.2):wt p'<=wt p:=by
 have h1:=T.i.elim λi h=>(h.1▸aL ..:p.1<=p'.1)
 have h2:=T.i.elim λi h=>(h.2.1▸aL ..:p.2.2.1<=p'.2.2.1)
 have h3:=T.j.elim λj h=>(h.1▸aL ..:p'.2.1<=p.2.1)
 have h4:=T.j.elim λj h=>(h.2.1▸aL ..:p'.2.2.2<=p.2.2.2)
 exact Tu (fh (ai (rA h3 _) (Kl h1 _)) (ai (rA h4 _) (Kl h2 _)))
theorem yx(hX:P.2.1<=A.length)(hY:P.2.2.2<=B.length)(h:MI A B G₀ H₀ P (p::W) G H n) :
  ∃p':Pt,qI A B p.1 p.2.1 p.2.2.1 p.2.2.2 p'.1 p'.2.1 p'.2.2.1 p'.2.2.2/\∀(r:dQ A B)Q,Q (dG p') r.Z->Ph pF (r.n+1) 35 [.inst 2 r.s.d,dG p] r.Z Q:=by
 have b:=h.j.top;refine Jc (Tj b.1.x (ai b.2.2.1 hX) b.1.y (ai b.2.2.2.2 hY)) λx' X' y' Y' T h=>?_;exact⟨(x',X',y',Y'),T,h⟩
end
end
section
section
variable{A B:List Int}{G₀ H₀ G H:List Bool}{P p:Pt}{W:List Pt}{n:Nat}
abbrev KJ:=Option V×Option V×Option V×Option V×Option V×Option V
noncomputable abbrev KR.R(r:KR A B G₀ H₀)(P:Pt)(j:KJ):aj:=[some (.inst 2 r.s.d),some (dG P),some (.ref r.a),j.1,j.2.1,j.2.2.1,j.2.2.2.1,j.2.2.2.2.1,j.2.2.2.2.2]
noncomputable abbrev AS:List S:=[.s (.vs [3,4,5,6]) (.h (.x 0) 26 [.bm (.x 2) .pop []]),
   .ite (.o false [.m .eq (.x 3) (.x 4),.m .eq (.x 5) (.x 6)])
   [.ex (.h (.x 0) 27 [.tup [.x 3,.x 4,.x 5,.x 6]])]
   [.s (.vs [7,8]) (.h (.x 0) 29 [.tup [.x 3,.x 4,.x 5,.x 6]]),
    .ex (.bm (.x 2) .append [.tup [.x 3,.x 7,.x 5,.x 8]]),
    .ex (.bm (.x 2) .append [.tup [.x 7,.x 4,.x 8,.x 6]])]]
theorem jq{C:ax}{J:aj}{Z:ae}{a b c d:E}{u v w x:V}(h:Ev C a J Z u)(k:Ev C b J Z v)(l:Ev C c J Z w)(m:Ev C d J Z x):Ev C (.tup [a,b,c,d]) J Z (.tup [u,v,w,x]):=λQ q=>h _ (k _ (l _ (m _ q)))
theorem zq{C:ax}{J:aj}{Z:ae}{e:E}{i j k l:Nat}{u v w x:V}{rest:List S}{Q:QO}(h:WE C e J Z λy Z'=>y=.tup [u,v,w,x]/\az C rest (f7 J [i,j,k,l] [u,v,w,x]) Z' Q)(M:jV C):az C (.s (.vs [i,j,k,l]) e::rest) J Z Q:=
 eX M e _ _ _ _ (λy Z' z=>by obtain⟨rfl,z⟩:=z;exact⟨rfl,z⟩) h
theorem iY{C:ax}(M:jV C){s:S}{J:aj}{Z:ae}{Q:QO}(h:WS C s J Z Q):az C [s] J Z Q:=vg M s _ _ _ _ (λo J Z w=>by
 cases o with
 |next=>exact w
 |ret v=>exact w) h
theorem Mt(hX:P.2.1<=A.length)(hY:P.2.2.2<=B.length)(hz:A.length+B.length<=400)(hwt:wt P<=900){D:Nat}(h:MI A B G₀ H₀ P (p::W) G H D)(hw:dq (p::W)<=wt P) :
  ∃s':KS,MI A B G₀ H₀ P s'.1 s'.2.1 s'.2.2 D/\dq s'.1<dq (p::W)/\∀(r:KR A B G₀ H₀)(j:KJ)(Q:QO),(∀(j:KJ)Z,Sub (r.T s') Z->Q .next (r.R P j) Z)->az (Ph pF (r.n+2)) AS (r.R P j) (r.T (p::W,G,H)) Q:=by
 refine ar (yx hX hY h) λpp10_ T tr=>?_;obtain⟨x,X,y,Y⟩:=pp10_;have h2:=h.trim hX hY T;have b:=h2.j.top;have lX:X<=A.length:=ai b.2.2.1 hX;have lY:Y<=B.length:=ai b.2.2.2.2 hY;obtain⟨k,rfl⟩:=bS (show x<=X from b.1.x);obtain⟨l,rfl⟩:=bS (show y<=Y from b.1.y);have fst:∀(r:KR A B G₀ H₀)(j:KJ)(Q:QO),WS (Ph pF (r.n+2)) (.ite (.o false [.m .eq (.x 3) (.x 4),.m .eq (.x 5) (.x 6)])
   [.ex (.h (.x 0) 27 [.tup [.x 3,.x 4,.x 5,.x 6]])]
   [.s (.vs [7,8]) (.h (.x 0) 29 [.tup [.x 3,.x 4,.x 5,.x 6]]),
    .ex (.bm (.x 2) .append [.tup [.x 3,.x 7,.x 5,.x 8]]),
    .ex (.bm (.x 2) .append [.tup [.x 7,.x 4,.x 8,.x 6]])]) (r.R P (some (nI x),some (nI (x+k)),some (nI y),some (nI (y+l)),j.2.2.2.2)) (r.T (W,G,H)) Q->az (Ph pF (r.n+2)) AS (r.R P j) (r.T (p::W,G,H)) Q:=
  λr j Q q=>zq (u:=nI x) (v:=nI (x+k)) (w:=nI y) (x:=nI (y+l)) (zg r rfl rfl tr ⟨rfl,iY (cE pF _) q⟩) (cE pF _)
 have tv:∀(r:KR A B G₀ H₀)j,aI (Ph pF (r.n+2)) (.o false [.m .eq (.x 3) (.x 4),.m .eq (.x 5) (.x 6)]) (r.R P (some (nI x),some (nI (x+k)),some (nI y),some (nI (y+l)),j)) (r.T (W,G,H)) (x=x+k\/y=y+l):=
  λr j=>iX (lq (aa rfl) (aa rfl)) λ_=>lq (aa rfl) (aa rfl)
 have wtt:=z6 T;have lens:G.length<=400/\H.length<=400:=⟨h.lg▸ai (aL ..) hz,h.lh▸ai (df ..) hz⟩
 by_cases e:x=x+k\/y=y+l
 ·obtain⟨m,n',h3,h4,h5⟩:=h2.mark;have:=h3.edge e;refine⟨(W,cU G x k,cU H y l),(show n'=D by exact bE [_,_,_,_,_,_,_,_,_] [] .v0 .v1 [(-1,.en (.a .v0 .v2) (.a .v1 (.a .v3 .v4))),(1,.en .v2 (.a .v5 .v6)),(1,.en (.a .v5 .v7) (.a .v7 .v3)),(1,.en (.a .v6 .v8) (.a .v8 .v4))] rfl h4 this (aZ (au [_,_] [] (.ln .v0 (.a .v0 .v1)) 1 [] rfl)) (aZ (au [_,_] [] (.ln .v0 (.a .v0 .v1)) 1 [] rfl)))▸h5,xD (wi p),λr j Q q=>fst r j Q (dF (tv r _) e ?_)⟩;exact ao (cY (r.on _) rfl) (yP r (h.lg▸lX) (h.lh▸lY) (ai lens.1 (by decide)) (ai lens.2 (by decide)) (ao rfl (q _ _ (Sub.refl' _))))
 ·have hk:0<k:=pz λz=>e (.inl (by rw[z];rfl));have hl:0<l:=pz λz=>e (.inr (by rw[z];rfl));have no:=T.no (hF hk) (hF hl);refine bA (lC (A:=A) (B:=B) (aL x k) (aL y l)) λm hm=>?_;refine aT (Uq lX lY hm) λhm1 hm2=>?_;refine hE (Ud lX lY (by exact au [_,_,_,_,_,_] [] (.ln (.a .v0 .v1) (.k 900)) 1 [(1,.ln (.a .v2 .v3) (.k 400)),(1,.ln (.a .v4 .v0) .v2),(1,.ln (.a .v5 .v1) .v3)] rfl hz lX lY) hk hl no.1 no.2 hm1 hm2) λi j pp72_ run=>?_;obtain⟨hi,hj,p1,p2,d₁,d₂,w1,w2,hd⟩:=pp72_;refine Jd (h2.j.split (a:=x+i) (b:=y+j) (s:=0) (aL x i) (kU hi x) (aL y j) (kU hj y) λt h=>absurd h (dM t)) λm' m₁ m₂ n' s1 s2 s3 s4 s5=>?_;have u1:=s2.2 _ (w1.unshift (Av lX lY));have u2:=s3.2 _ (w2.unshift (Av lX lY));have u3:=hm.2 _ (s2.1.append s3.1);have u4:=s1.uniq hm;have hW:W.length+1<=900:=ai (vP (p::W)) (ai hw hwt);refine⟨((x+i,x+k,y+j,y+l)::(x,x+i,y,y+j)::W,G,H),⟨h.lg,h.lh,h.og,h.oh,(show n'=D by exact cX (au [_,_,_,_,_,_,_,_] [] (.ln .v0 .v1) 1 [(1,.en (.a .v2 .v3) .v4),(1,.en (.a .v0 .v5) (.a .v1 (.a .v6 .v7))),(1,.ln .v6 .v2),(1,.ln .v7 .v3),(-1,.en .v5 .v4)] rfl hd s4 u1 u2 u4) (au [_,_,_,_,_,_] [] (.ln .v0 .v1) 1 [(-1,.en (.a .v1 .v2) (.a .v0 (.a .v3 .v4))),(1,.ln .v5 (.a .v4 .v3)),(1,.en .v2 .v5)] rfl s4 u3 u4))▸s5⟩,?_,λr jj Q q=>fst r jj Q (bH (tv r _) e ?_)⟩
  ·have:wt (x+i,x+k,y+j,y+l)+wt (x,x+i,y,y+j)<wt (x,x+k,y,y+l):=by
    have z1:=tB (n:=x+k-(x+i)+(y+l-(y+j))) (by rw[px,px];exact(au [_,_,_,_,_,_] [] (.tn .k0 (.a .v0 .v1)) 1 [(1,.tn (.a .v2 .v3) (.a .v4 .v5)),(1,.ln .v4 (.a .v0 .v2)),(1,.ln .v5 (.a .v1 .v3))] rfl p2 cW cW));have z2:=tB (n:=x+i-x+(y+j-y)) (by rw[cD,cD];exact p1);have z3:=tB (n:=x+k-x+(y+l-y)) (by rw[cD,cD];exact aQ p1 (fh hi hj));rw[px,px]at z1;rw[cD,cD]at z2 z3;unfold wt
    dsimp only
    rw[cD,cD,cD,cD,px,px];exact au [_,_,_,_,_,_,_,_,_] [] (.tn (.a .v0 .v1) .v2) 1 [(1,.en (.a .v0 .k1) (.m 2 (.a .v3 .v4))),(1,.en (.a .v1 .k1) (.m 2 (.a .v5 .v6))),(-1,.en (.a .v2 .k1) (.m 2 (.a .v7 .v8))),(2,.en (.a .v3 .v5) .v7),(2,.en (.a .v4 .v6) .v8)] rfl z1 z2 z3 (aZ hi) (aZ hj)
   show wt _+(wt _+dq W)<wt p+dq W;rw[<-cu];exact uj (aQ this wtt) _
  ·refine ao (cY (r.on _) rfl) (run (r.run r.n (W,G,H)) _ ⟨rfl,?_⟩);refine push r (p:=(x,x+i,y,y+j)) rfl (jq (aa rfl) (aa rfl) (aa rfl) (aa rfl)) (aQ hW (by decide)) ?_;exact push r (p:=(x+i,x+k,y+j,y+l)) rfl (jq (aa rfl) (aa rfl) (aa rfl) (aa rfl)) (bC hW (by decide)) (q (some (nI x),some (nI (x+k)),some (nI y),some (nI (y+l)),some (nI (x+i)),some (nI (y+j))) _ (Sub.refl' _))
theorem yn(hX:P.2.1<=A.length)(hY:P.2.2.2<=B.length)(hz:A.length+B.length<=400)(hA:G₀.length=A.length)(hB:H₀.length=B.length)(b:oz G₀ H₀ P){D:Nat}(hD:dO A B P.1 P.2.1 P.2.2.1 P.2.2.2 D) :
  ∃G H,oI A B G₀ H₀ P G H D/\∀n Z(s:Sh),s.A=A->s.B=B->gI s G₀ H₀ Z->∀Q:QV,Q .none (ak (ak Z s.g (.list (vB G))) s.h (.list (vB H)))->Ph pF (n+3) 39 [.inst 2 s.d,dG P] Z Q:=by
 have hwt:wt P<=900:=by
  have h1:P.2.1-P.1<=A.length:=ai (ez ..) hX;have h2:P.2.2.2-P.2.2.1<=B.length:=ai (ez ..) hY;exact ai (AL _) (by exact au [_,_,_,_] [] (.ln (.a (.m 2 (.a .v0 .v1)) .k1) (.k 900)) 1 [(2,.ln (.a .v2 .v3) (.k 400)),(2,.ln .v0 .v2),(2,.ln .v1 .v3)] rfl hz h1 h2)
 obtain⟨⟨W,G,H⟩,⟨hI,_⟩,ht,run⟩:=fj (C:=λr:KR A B G₀ H₀=>Ph pF (r.n+2)) (c:=.m .ne (.x 2) (.lst false [])) (b:=AS) (λr(_:KS)(j:KJ)=>r.R P j) (λr s=>r.T s)
  (λs=>MI A B G₀ H₀ P s.1 s.2.1 s.2.2 D/\dq s.1<=wt P) (λs=>dq s.1) (λs=>s.1.reverse.map dG≠[]) (λs hs r j=>p7 (aa rfl) (r.top s))
  (λs=>oX (λW G H=>lz (λhs ht=>absurd rfl ht) (λp W hs _=>
    cm (Mt hX hY hz hwt hs.1 hs.2) λs' h1 h2 h3=>⟨s',⟨h1,ai (cv h2) hs.2⟩,h2,h3⟩) W) s) ([P],G₀,H₀) ⟨MI.first hA hB b hD,aC _⟩
 have hW:W=[]:=by
  cases W with
  |nil=>rfl
  |cons p W=>exact absurd (λz=>by rw[pH]at z;exact absurd z (by simp)) ht
 subst hW;refine⟨G,H,hI.laid,λn Z s sA sB hs Q q=>bN rfl ?_⟩;intro a ha;have z:=run ⟨n,Z,s,a,sA,sB,hs,ha⟩ (none,none,none,none,none,none) (λo J Z=>∃v' Z'',Wk (jc o) Z v' Z''/\Q v' Z'') λj=>j9 (Z':=ak (ak Z s.g (.list (vB G))) s.h (.list (vB H))) (λz m h=>(aA λe=>?_).trans h) q
 ·rw[<-KR.init]at z;exact iY (cE pF _) z
 ·have ng:a≠s.g:=λz=>by rw[z,hs.at_g]at ha;cases ha
  have nh:a≠s.h:=λz=>by rw[z,hs.at_h]at ha;cases ha
  rw[e,aA nh,aA ng,ha]at h;exact nn h
end
end
abbrev Ln:=List UInt8
noncomputable def nA(a b:List Ln):List Int:=iE (cy (cy [] a) b) a
noncomputable def nB(a b:List Ln):List Int:=iE (cy (cy [] a) b) b
theorem dY(a b:List Ln):(nA a b).length=a.length:=aY ..
theorem d7(a b:List Ln):(nB a b).length=b.length:=aY ..
structure gq(a b:List Ln)(cs:List (Nat×Nat×Nat×Nat))(G H:List Bool)(c d:Nat):Prop where
 lg:G.length=a.length
 lh:H.length=b.length
 lay:bg (nA a b) (nB a b) G H 0 0 a.length b.length c d
 chg:g7 G H 0 0 cs
theorem vM{n i:Nat}(h:i<n):(aR n false)[i]?=some false:=by rw[pj,if_pos h]
theorem Ea{n:Nat}{a b:List Ln}{i:Nat}{rest:List S}{J:aj}{Z:ae}{Q:QO}(hz:a.length+b.length<1000)(he:rd J 0=some (.list (vY a)))(hf:rd J 1=some (.list (vY b)))
  (q:∀(s:Sh)Z',s.A=nA a b->s.B=nB a b->gI s (aR a.length false) (aR b.length false) Z'->Sub Z Z'->Z s.g=none->Z s.h=none->az (Ph pF (n+3)) rest (wr J i (.inst 2 s.d)) Z' Q) :
  az (Ph pF (n+3)) (.s (.v i) (.new false 2 [.x 0,.x 1])::rest) J Z Q:=
 ao he (ao hf λd hd=>DV hd hz λs Z' s1 s2 s3 s4 hg hh hs=>ao rfl (s1▸q s Z' s2 s3 s4 hs hg hh))
theorem yU{Z Z':ae}{g h:Nat}{m m':M}(s:Sub Z Z')(hg:Z g=none)(hh:Z h=none):Sub Z (ak (ak Z' g m) h m'):=λz k e=>
 (aA λq=>by rw[q,hh]at e;exact nn e).trans ((aA λq=>by rw[q,hg]at e;exact nn e).trans (s z k e))
theorem pQ{s:Sh}{Z:ae}{G H G' H':List Bool}(h:gI s G H Z):gI s G' H' (ak (ak Z s.g (.list (vB G'))) s.h (.list (vB H'))):=by
 have dg:s.d≠s.g:=kO h.at_d h.at_g rfl;have dh:s.d≠s.h:=kO h.at_d h.at_h rfl;exact⟨(aA dh).trans ((aA dg).trans h.at_d),(aA h.gh).trans (aP ..),aP ..,h.gh⟩
theorem Ap{a b:List Ln}(hz:a.length+b.length<=400){G H:List Bool}{D:Nat}(L:oI (nA a b) (nB a b) (aR a.length false) (aR b.length false) (0,a.length,0,b.length) G H D) :
  ∃cs c d,D=c+d/\gq a b cs G H c d/\∀n Z(s:Sh),s.A=nA a b->s.B=nB a b->gI s G H Z->∀Q:QV,Q (.list (cs.map aV)) Z->Ph pF (n+2) 37 [.inst 2 s.d] Z Q:=by
 refine hE L.lay λc d lay e=>?_;have lg:=L.lg;have lh:=L.lh;rw[dY]at lg;rw[d7]at lh;refine ar (C6 (A:=nA a b) (B:=nB a b) (G:=G) (H:=H) L.lg.symm L.lh.symm (by rw[lg,lh];exact ai hz (by decide)) (c:=c) (d:=d) (by rw[lg,lh];exact lay)) λcs h1 h2=>?_;exact⟨cs,c,d,e,⟨lg,lh,lay,h1⟩,λn Z s sA sB hs Q q=>h2 n Z s.d (.ref s.g) (.ref s.h) (by rw[hs.at_d,sA,sB]) (.inr ⟨s.g,rfl,hs.at_g⟩) (.inr ⟨s.h,rfl,hs.at_h⟩) Q q⟩
section
section
variable{a b:List Ln}
theorem GN{m f K:Nat}(hm:lR 2 m=some f){G H:List Bool}{cs:List (Nat×Nat×Nat×Nat)}(hz:a.length+b.length<1000)(hK:3<=K)
  (run:∀n Z(s:Sh),s.A=nA a b->s.B=nB a b->gI s (aR a.length false) (aR b.length false) Z->∀Q:QV,Q .none (ak (ak Z s.g (.list (vB G))) s.h (.list (vB H)))->Ph pF (n+K) f [.inst 2 s.d,pt 0 a.length 0 b.length] Z Q)
  (chg:∀n Z(s:Sh),s.A=nA a b->s.B=nB a b->gI s G H Z->∀Q:QV,Q (.list (cs.map aV)) Z->Ph pF (n+2) 37 [.inst 2 s.d] Z Q)
  {n:Nat} {Z:ae} {Q:QV} (q:Q (.list (cs.map aV)) Z) :
  az (Ph pF (n+K)) [.s (.v 2) (.new false 2 [.x 0,.x 1]),.ex (.h (.x 2) m [.h (.x 2) 25 []]),.ret (.h (.x 2) 28 [])] [some (.list (vY a)),some (.list (vY b)),none] Z λo _ Z'=>∃v' Z'',Wk (jc o) Z' v' Z''/\Q v' Z'':=by
 obtain⟨k,rfl⟩:=bS hK;have e3:n+(3+k)=n+k+3:=by rw[cb 3 k,cu]
 have r:=run n;rw[e3]at r ⊢;refine Ea hz rfl rfl λs Z' sA sB hs sub hg hh=>ao (cY hs.at_d hm) (ao (cY hs.at_d rfl) (Ip hs.at_d ?_));have lA:s.A.length=a.length:=by rw[sA,dY]
 have lB:s.B.length=b.length:=by rw[sB,d7]
 rw[lA,lB];refine r Z' s sA sB hs _ (ao rfl (ao (cY (pQ hs).at_d rfl) (chg (n+k+1) _ s sA sB (pQ hs) _ (j9 (yU sub hg hh) q))))
theorem yD:oz (aR a.length false) (aR b.length false) (0,a.length,0,b.length):=⟨bJ _,bJ _,λ_ _ h=>vM h,λ_ _ h=>vM h⟩
theorem jt(n:Nat):(aR n false).length=n:=dw
theorem AF(hz:a.length+b.length<=400):∃cs G H c d,gq a b cs G H c d/\dO (nA a b) (nB a b) 0 a.length 0 b.length (c+d)/\∀n Z(Q:QV),Q (.list (cs.map aV)) Z->Ph pF (n+4) 3 [.list (vY a),.list (vY b)] Z Q:=by
 refine bA (lC (A:=nA a b) (B:=nB a b) (bJ a.length) (bJ b.length)) λD hD=>?_;refine hE (yn (A:=nA a b) (B:=nB a b) (P:=(0,a.length,0,b.length)) (dA (dY a b).symm) (dA (d7 a b).symm) (by rw[dY,d7];exact hz) ((jt _).trans (dY a b).symm) ((jt _).trans (d7 a b).symm) yD hD) λG H L run=>?_;obtain⟨cs,c,d,rfl,T,chg⟩:=Ap hz L;exact⟨cs,G,H,c,d,T,hD,λn Z Q q=>bN rfl (GN (K:=3) rfl (bC hz (by decide)) (aC 3) run chg q)⟩
end
end
section
noncomputable abbrev dZ(m:Nat)(f:Int->Option Int):M:=.dI m λk=>(f k).map .int
section
variable{Z:ae}{r m:Nat}{f:Int->Option Int}{k z:Int}
theorem yL(h:Z r=some (dZ m f)):dD Z r (.int k)=some ((f k).map .int):=by unfold dD;rw[h];rfl
theorem FX(h:Z r=some (dZ m f))(e:f k=some z):eQ Z (.ref r) (.int k)=some (.int z):=by
 have a:cc Z r=none:=by unfold cc;rw[h];rfl
 show(match cc Z r with|some l=>_|none=>(dD Z r (.int k)).bind λo=>o) = _;rw[a,yL h,e];rfl
noncomputable def xa(f:Int->Option Int)(k z:Int):Int->Option Int:=λj=>if j=k then some z else f j
theorem U2{Q:ae->Prop}(h:Z r=some (dZ m f))(hm:m<aJ)(q:Q (ak Z r (dZ (m+1) (xa f k z)))):jx Z (.ref r) (.int k) (.int z) Q:=by
 refine ao (a:=r) rfl (ao h (ao (a:=k) rfl ⟨hm,?_⟩));have e:(λj=>((xa f k z) j).map V.int)=λj=>if j=k then some (.int z) else(f j).map .int:=funext λj=>by
  unfold xa;by_cases c:j=k
  ·rw[if_pos c,if_pos c];rfl
  ·rw[if_neg c,if_neg c]
 exact e▸q
theorem C7{C:ax}{J:aj}{a b:E}(h:Z r=some (dZ m f))(ha:Ev C a J Z (.int k))(hb:Ev C b J Z (.ref r)):aI C (.m .notin a b) J Z (f k=none):=
 ⟨!(f k).isSome,by cases f k<;>simp,dj ha hb (show rU _ ((dD Z r (.int k)).map _) = _ by rw[yL h];cases f k<;>rfl)⟩
end
noncomputable def cT(A:List Int)(x:Nat):Nat->Int->Option Int
 |0=>λ_=>none
 |k+1=>xa (cT A x k) (A.getD (x+k) 0) (if cT A x k (A.getD (x+k) 0)=none then((x+k:Nat):Int) else -1)
section
variable{A:List Int}{x:Nat}
theorem DO{v z:Int}:∀{k:Nat},cT A x k v=some z->∃p:Nat,(z = -1\/z=p)/\x<=p/\p<x+k/\A.getD p 0=v:=@λrr=>ni (@λh=>nn h)
 (@λk ih h=>by
  by_cases c:v=A.getD (x+k) 0
  ·replace h:=(show cT A x (k+1) v = _ from if_pos c).symm.trans h;refine⟨x+k,?_,aL ..,bu _,c.symm⟩;by_cases d:cT A x k (A.getD (x+k) 0)=none
   ·rw[if_pos d]at h;(injection h with h;subst h);exact .inr rfl
   ·rw[if_neg d]at h;(injection h with h;subst h);exact .inl rfl
  ·exact(ih ((show cT A x (k+1) v = _ from if_neg c).symm.trans h)).imp λp h=>⟨h.1,h.2.1,eM h.2.2.1,h.2.2.2⟩) rr
theorem Sl{p:Nat}(hx:x<=p):∀{k:Nat},p<x+k->cT A x k (A.getD p 0)≠none:=@λrr=>ni (@λh=>absurd h (bc.2 hx))
 (@λk ih h=>by
  by_cases c:A.getD p 0=A.getD (x+k) 0
  ·rw[show cT A x (k+1) (A.getD p 0) = _ from if_pos c];exact λe=>sn e
  ·rw[show cT A x (k+1) (A.getD p 0) = _ from if_neg c];exact ih ((ka.1 h).resolve_right λe=>c (e▸rfl))) rr
theorem DN{p:Nat}(hx:x<=p):∀{k:Nat},p<x+k->(∀q,x<=q->q<x+k->A.getD q 0=A.getD p 0->q=p)->cT A x k (A.getD p 0)=some (p:Int):=@λrr=>ni (@λh _=>absurd h (bc.2 hx))
 (@λk ih h u=>by
  by_cases c:A.getD p 0=A.getD (x+k) 0
  ·have e:=u (x+k) (aL ..) (bu _) c.symm;have n:cT A x k (A.getD (x+k) 0)=none:=by
    cases w:cT A x k (A.getD (x+k) 0) with
    |none=>rfl
    |some z=>
     refine o7 (DO w) λq _ h1 h2 h3=>?_;have:=u q h1 (eM h2) (h3.trans c.symm);rw[this,<-e]at h2;exact absurd h2 (gQ _)
   rw[show cT A x (k+1) (A.getD p 0) = _ from if_pos c,if_pos n,e]
  ·rw[show cT A x (k+1) (A.getD p 0) = _ from if_neg c];exact ih ((ka.1 h).resolve_right λe=>c (e▸rfl)) λq a b=>u q a (eM b)) rr
end
end
section
structure DR(L:List Int)(at':bG)(dv:Nat)where
 n:Nat
 U:ae
 d:Nat
 r:Nat
 l1:Option V
 l2:Option V
 l3:Option V
 l4:Option V
 l5:Option V
 l6:Option V
 l7:Option V
 hr:∀j,rd [some (.inst 2 d),l1,l2,l3,l4,l5,l6,l7,j,none] dv=some (.ref r)
 hL:∀m f,jF (ak U r (dZ m f)) (.inst 2 d) at'=some (.list (vI L))
section
variable{L:List Int}{at':bG}{dv:Nat}
noncomputable def DR.R(i:DR L at' dv)(j:Option V):aj:=[some (.inst 2 i.d),i.l1,i.l2,i.l3,i.l4,i.l5,i.l6,i.l7,j,none]
noncomputable def DR.T(i:DR L at' dv)(x k:Nat):ae:=ak i.U i.r (dZ k (cT L x k))
noncomputable abbrev AB(at':bG)(dv:Nat):List S:=[.s (.i (.x dv) (.i (.a (.x 0) at') (.x 8))) (.ite (.m .notin (.i (.a (.x 0) at') (.x 8)) (.x dv)) (.x 8) (.neg (.c (.int 1))))]
theorem vh{C:ax}{J:aj}{Z:ae}{a b:E}{u v x:V}{Q:aj->ae->Prop}(h:Ev C a J Z u)(k:Ev C b J Z v)(q:jx Z u v x λZ=>Q J Z):jD C (.i a b) x J Z Q:=h _ (k _ q)
theorem Of(i:DR L at' dv){x k:Nat}(h:x+k<L.length)(hk:k<1000){Q:QO}(q:Q .next (i.R (some (nI (x+k)))) (i.T x (k+1))):az (Ph pF i.n) (AB at' dv) (i.R (some (nI (x+k)))) (i.T x k) Q:=by
 have hT:i.T x k i.r=some (dZ k (cT L x k)):=aP ..;have ev:Ev (Ph pF i.n) (.i (.a (.x 0) at') (.x 8)) (i.R (some (nI (x+k)))) (i.T x k) (.int (L.getD (x+k) 0)):=
  bW (br (aa rfl) (i.hL _ _)) (aa rfl) (by rw[oe h];exact p9 (bL h))
 have dvE:Ev (Ph pF i.n) (.x dv) (i.R (some (nI (x+k)))) (i.T x k) (.ref i.r):=aa (i.hr _);have tl:∀z,z=(if cT L x k (L.getD (x+k) 0)=none then((x+k:Nat):Int) else -1)->jD (Ph pF i.n) (.i (.x dv) (.i (.a (.x 0) at') (.x 8))) (.int z) (i.R (some (nI (x+k)))) (i.T x k) (Q .next):=λz e=>
  vh dvE ev (U2 hT (fL hk (by decide)) (by subst e;rw[DR.T,dX];exact q))
 by_cases c:cT L x k (L.getD (x+k) 0)=none
 ·exact iZ (C7 hT ev dvE) c (tl _ (if_pos c).symm)
 ·exact iy (C7 hT ev dvE) c (tl (-1) (if_neg c).symm)
theorem DM(x k:Nat)(h:x+k<=L.length)(hk:k<1000):∀(i:DR L at' dv)(j:Option V)(Q:QO),(∀j,Q .next (i.R j) (i.T x k))->∃n,bZ (.vals (cC x 1 k)) (.v 8) (λJ Z Q=>az (Ph pF i.n) (AB at' dv) J Z Q) Q n 0 (i.R j) (i.T x 0):=by
 obtain⟨s,hs,run⟩:=te (C:=λi:DR L at' dv=>Ph pF i.n) (b:=AB at' dv) (t:=.v 8) (cC x 1 k) (λi(_:Nat)j=>i.R j) (λi s=>i.T x s) (λq s=>s=q) (λq v s hv hs=>by
  obtain⟨hq,rfl⟩:=qx hv;subst hs;have e:(x:Int)+(s:Int)*1=((x+s:Nat):Int):=by rw[pN];rfl
  rw[e];exact⟨s+1,rfl,λi j Q q=>Of i (aQ (eF hq x) h) (fL hq hk) (q _ _ (Sub.refl' _))⟩) 0 rfl
 rw[oj]at hs;subst hs;exact run
end
end
section
theorem TV{C:ax}{J:aj}{Z:ae}{a b c:E}{r m:Nat}{f:Int->Option Int}{k d:Int}(h:Z r=some (dZ m f))(ha:Ev C a J Z (.ref r))(hb:Ev C b J Z (.int k))(hc:Ev C c J Z (.int d)):Ev C (.bm a .get [b,c]) J Z (.int ((f k).getD d)):=λQ q=>by
 have e1:tA Z (.ref r) .get=true:=by show mN Z r=true;unfold mN;rw[h]
 have e2:wo Z (.ref r) (.int k) (.int d)=some (.int ((f k).getD d)):=by
  show(dD Z r (.int k)).map _ = _;rw[yL h];cases f k<;>rfl
 exact ha _ ⟨e1,hb _ (hc _ (gj (ao e2 q)))⟩
noncomputable abbrev de(e:Nat×Nat):V:=.tup [nI e.1,nI e.2]
structure PR(A B:List Int)where
 r:dQ A B
 pa:Nat
 pb:Nat
 pf:Nat
 ha:r.Z pa=none
 hb:r.Z pb=none
 hf:r.Z pf=none
 ab:pa≠pb
 af:pa≠pf
 bf:pb≠pf
section
variable{A B:List Int}{x k y l:Nat}
noncomputable def PR.T(i:PR A B)(x k y l:Nat)(ps:List (Nat×Nat)):ae:=ak (ak (ak i.r.Z i.pa (dZ k (cT A x k))) i.pb (dZ l (cT B y l))) i.pf (.list (ps.map de))
noncomputable def PR.R(i:PR A B)(x k y l:Nat)(j:Option V):aj:=[some (.inst 2 i.r.s.d),some (pt x (x+k) y (y+l)),some (nI x),some (nI (x+k)),some (nI y),some (nI (y+l)),some (.ref i.pa),some (.ref i.pb),j,some (.ref i.pf)]
structure LP(A B:List Int)(x k y l q:Nat)(ps:List (Nat×Nat)):Prop where
 a:∀e,e∈ps->x<=e.1/\e.1<x+q/\y<=e.2/\e.2<y+l/\A.getD e.1 0=B.getD e.2 0
 b:ps.Pairwise λe e'=>e.1<e'.1
 c:∀i j:Nat,x<=i->i<x+q->cT A x k (A.getD i 0)=some (i:Int)->cT B y l (A.getD i 0)=some (j:Int)->(i,j)∈ps
 n:ps.length<=q
noncomputable abbrev Ie:E:=.o true [.m .eq (.i (.x 6) (.i (.a (.x 0) 7) (.x 8))) (.x 8),.m .ge (.bm (.x 7) .get [.i (.a (.x 0) 7) (.x 8),.neg (.c (.int 1))]) (.c (.int 0))]
noncomputable abbrev AD:List S:=[.ite Ie [.ex (.bm (.x 9) .append [.tup [.x 8,.i (.x 7) (.i (.a (.x 0) 7) (.x 8))]])] []]
theorem Oj(hX:x+k<=A.length)(hk:k<1000){q:Nat}{ps:List (Nat×Nat)}(hq:q<k)(h:LP A B x k y l q ps):∃ps',LP A B x k y l (q+1) ps'/\∀(i:PR A B)(Q:QO),Q .next (i.R x k y l (some (nI (x+q)))) (i.T x k y l ps') ->
  az (Ph pF i.r.n) AD (i.R x k y l (some (nI (x+q)))) (i.T x k y l ps) Q:=by
 have lt:x+q<A.length:=aQ (eF hq x) hX;generalize hv:A.getD (x+q) 0=v
 have fa:cT A x k v≠none:=hv▸Sl (aL x q) (eF hq x);have ev:∀i:PR A B,Ev (Ph pF i.r.n) (.i (.a (.x 0) 7) (.x 8)) (i.R x k y l (some (nI (x+q)))) (i.T x k y l ps) (.int v):=λi=>by
  refine bW (br (aa rfl) ((oF ?_).trans (congrArg (λl=>some (V.list (vI l))) i.r.hA))) (aa rfl) (by rw[<-hv,oe lt];exact p9 (bL lt));have nd{z:Nat}(h:i.r.Z z=none):i.r.s.d≠z:=λe=>by have:=i.r.on;rw[jY,e,h]at this;exact nn this
  exact(aA (nd i.hf)).trans ((aA (nd i.hb)).trans ((aA (nd i.ha)).trans i.r.on))
 have ta:∀i:PR A B,i.T x k y l ps i.pa=some (dZ k (cT A x k)):=λi=>(aA i.af).trans ((aA i.ab).trans (aP ..));have tb:∀i:PR A B,i.T x k y l ps i.pb=some (dZ l (cT B y l)):=λi=>(aA i.bf).trans (aP ..);have tv:∀i:PR A B,aI (Ph pF i.r.n) Ie (i.R x k y l (some (nI (x+q)))) (i.T x k y l ps) (cT A x k v=some ((x+q:Nat):Int)/\0<=(cT B y l v).getD (-1)):=λi=>by
  refine iV ?_ λ_=>qu (TV (tb i) (aa rfl) (ev i) (λQ q=>q)) Ev.cn;cases e:cT A x k v with
  |none=>exact absurd e fa
  |some z=>exact iu (kC (bW (aa rfl) (ev i) (FX (ta i) e)) (aa rfl)) ⟨congrArg some,di⟩
 by_cases c:cT A x k v=some ((x+q:Nat):Int)/\0<=(cT B y l v).getD (-1)
 ·obtain⟨j,hj,j1,j2,j3⟩:∃j:Nat,cT B y l v=some (j:Int)/\y<=j/\j<y+l/\B.getD j 0=v:=by
   cases e:cT B y l v with
   |none=>rw[e]at c;exact absurd c.2 (by decide)
   |some z=>
    refine ar (DO e) λp h1 h2=>?_;rcases h1 with h1|h1
    ·rw[e,h1]at c;exact absurd c.2 (by decide)
    ·exact⟨p,by rw[h1],h2⟩
  refine⟨ps++[(x+q,j)],⟨λe he=>?_,?_,λi j' h1 h2 h3 h4=>?_,?_⟩,λi Q qq=>dF (tv i) c ?_⟩
  ·rcases gx.1 he with he|he
   ·exact⟨(h.a e he).1,eM (h.a e he).2.1,(h.a e he).2.2⟩
   ·cases cJ.1 he
    exact⟨aL ..,bu _,j1,j2,hv.trans j3.symm⟩
  ·exact xH.2 ⟨h.b,ug ..,λe he e' he'=>cJ.1 he'▸(h.a e he).2.1⟩
  ·rcases ka.1 h2 with h2|h2
   ·exact rq _ (h.c i j' h1 h2 h3 h4)
   ·obtain rfl:i=x+q:=h2;rw[hv,hj]at h4;exact rh _ (cJ.2 (by rw[kY.1 (di h4)]))
  ·rw[bB];exact cK h.n
  ·have tf:i.T x k y l ps i.pf=some (.list (ps.map de)):=aP ..;have z:=bW (aa (i:=7) (C:=Ph pF i.r.n) (J:=i.R x k y l (some (nI (x+q)))) rfl) (ev i) (FX (tb i) hj);refine⟨i7 tf rfl,n8 (aa rfl) z _ (gj (ky tf ?_ (ao rfl ?_)))⟩
   ·rw[aY];exact bC h.n (fL hq (fL hk (by decide)))
   ·rw[PR.T,dX];rw[PR.T,dy]at qq;exact qq
 ·refine⟨ps,⟨λe he=>⟨(h.a e he).1,eM (h.a e he).2.1,(h.a e he).2.2⟩,h.b,λi j h1 h2 h3 h4=>?_,fy h.n⟩,λi Q qq=>bH (tv i) c qq⟩;rcases ka.1 h2 with h2|h2
  ·exact h.c i j h1 h2 h3 h4
  ·obtain rfl:i=x+q:=h2;rw[hv]at h3 h4;exact absurd ⟨h3,by rw[h4];exact eL j⟩ c
end
end
section
theorem sU{C:ax}{a b c x k:Nat}{body:List S}{J:aj}{Z:ae}{Q:QO}(ha:rd J a=some (nI x))(hb:rd J b=some (nI (x+k)))(hz:x+k<=1000)
  (h:∃n,bZ (.vals (cC x 1 k)) (.v c) (λJ Z Q=>az C body J Z Q) Q n 0 J Z):WS C (.for (.v c) (.range [.x a,.x b]) body) J Z Q:=
 sI [(x:Int),((x+k:Nat):Int)] (λQ q=>aa ha _ (aa hb _ q)) (su hz) h
section
variable{A B:List Int}{x k y l:Nat}
theorem Nc(hX:x+k<=A.length)(hk:k<1000):∃ps,LP A B x k y l k ps/\∀(i:PR A B)(j:Option V)(Q:QO),(∀j,Q .next (i.R x k y l j) (i.T x k y l ps))->∃n,bZ (.vals (cC x 1 k)) (.v 8) (λJ Z Q=>az (Ph pF i.r.n) AD J Z Q) Q n 0 (i.R x k y l j) (i.T x k y l []):=by
 obtain⟨s,hs,run⟩:=te (C:=λi:PR A B=>Ph pF i.r.n) (b:=AD) (t:=.v 8) (cC x 1 k) (λi(_:List (Nat×Nat))j=>i.R x k y l j) (λi s=>i.T x k y l s) (λq s=>LP A B x k y l q s) (λq v s hv hs=>by
  obtain⟨hq,rfl⟩:=qx hv;have e:(x:Int)+(q:Int)*1=((x+q:Nat):Int):=by rw[pN];rfl
  rw[e];refine ar (Oj hX hk hq hs) λps' h1 h2=>?_;exact⟨ps',h1,λi j Q q=>h2 i Q (q _ _ (Sub.refl' _))⟩) [] ⟨λ_ h=>(nm h),.nil,λi j h1 h2=>absurd h2 (bc.2 h1),aC _⟩
 rw[oj]at hs;exact⟨s,hs,run⟩
theorem M5(hX:x+k<=A.length)(hY:y+l<=B.length)(hz:A.length+B.length<=400):∃ps,LP A B x k y l k ps/\∀(r:dQ A B)(Q:QV),Q (.list (ps.map de)) r.Z->Ph pF (r.n+1) 40 [.inst 2 r.s.d,pt x (x+k) y (y+l)] r.Z Q:=by
 have k1:x+k<=400:=ai hX (ai (aL ..) hz);have k2:y+l<=400:=ai hY (ai (df ..) hz);have k3:k<1000:=bC (df k x) (bC k1 (by decide));have k4:l<1000:=bC (df l y) (bC k2 (by decide));refine ar (Nc (A:=A) (B:=B) (x:=x) (k:=k) (y:=y) (l:=l) hX k3) λps hp run=>?_;refine⟨ps,hp,λr Q q=>bN rfl ⟨rfl,λpa ha pb hb=>⟨rfl,?_⟩⟩⟩;have ab:pa≠pb:=λe=>by rw[<-e,aP]at hb;cases hb
 have hb':r.Z pb=none:=(aA ab.symm).symm.trans hb;have nd{z:Nat}(h:r.Z z=none):r.s.d≠z:=λe=>by have:=r.on;rw[jY,e,h]at this;exact nn this
 have l1:=DM (L:=A) (at':=7) (dv:=6) x k hX k3 ⟨r.n,ak r.Z pb (dZ 0 λ_=>none),r.s.d,pa,some (pt x (x+k) y (y+l)),some (nI x),some (nI (x+k)),some (nI y),some (nI (y+l)),some (.ref pa),some (.ref pb),λ_=>rfl,λm f=>
  (oF ((aA (nd ha)).trans ((aA (nd hb')).trans r.on))).trans (congrArg (λl=>some (V.list (vI l))) r.hA)⟩ none
 have l2:=DM (L:=B) (at':=8) (dv:=7) y l hY k4 ⟨r.n,ak r.Z pa (dZ k (cT A x k)),r.s.d,pb,some (pt x (x+k) y (y+l)),some (nI x),some (nI (x+k)),some (nI y),some (nI (y+l)),some (.ref pa),some (.ref pb),λ_=>rfl,λm f=>
  (tw ((aA (nd hb')).trans ((aA (nd ha)).trans r.on))).trans (congrArg (λl=>some (V.list (vI l))) r.hB)⟩
 dsimp only [DR.T,DR.R]at l1 l2
 rw[show ak (ak r.Z pb (dZ 0 λ_=>none)) pa (dZ 0 (cT A x 0))=ak (ak r.Z pa (dZ 0 λ_=>none)) pb (dZ 0 λ_=>none) from(jR ab).symm]at l1;refine aO (sU rfl rfl (ai k1 (by decide)) (l1 _ λj=>?_));rw[<-jR ab];refine aO (sU rfl rfl (ai k2 (by decide)) (l2 _ _ λj'=>?_));intro pf hf;have bf:pb≠pf:=λe=>by rw[<-e,aP]at hf;cases hf
 have af:pa≠pf:=λe=>by rw[<-e,aA ab,aP]at hf;cases hf
 have hf':r.Z pf=none:=by rw[aA bf.symm,aA af.symm]at hf;exact hf
 refine aO (sU rfl rfl (ai k1 (by decide)) (run ⟨r,pa,pb,pf,ha,hb',hf',ab,af,bf⟩ _ _ λj''=>?_));refine t7 (aP ..) hf' (λz m h=>?_) q;have n{w:Nat}(hw:r.Z w=none):z≠w:=λe=>by rw[e,hw]at h;exact nn h
 exact(aA (n hf')).trans ((aA (n hb')).trans ((aA (n ha)).trans h))
end
end
noncomputable def oQ(js piles:List Nat)(v:Nat):Nat->Nat->Nat->Option Nat
 |0,_,_=>none
 |f+1,low,high=>if low<high then(piles[(low+high)/2]?).bind λp=>(js[p]?).bind λj=>if j<v then oQ js piles v f ((low+high)/2+1) high else oQ js piles v f low ((low+high)/2) else some low
noncomputable def Ik(js:List Nat)(num v:Nat)(s:List Nat×List Int):Option (List Nat×List Int):=
 (oQ js s.1 v 9 0 s.1.length).bind λlow=>(if 0<low then(s.1[low-1]?).map gC else some (-1)).bind λa=>
  if low=s.1.length then some (s.1++[num],s.2++[a]) else if low<s.1.length then some (s.1.set low num,s.2++[a]) else none
noncomputable def xb(js:List Nat):Nat->List Nat->List Nat×List Int->Option (List Nat×List Int)
 |_,[],s=>some s
 |q,v::r,s=>(Ik js q v s).bind (xb js (q+1) r)
noncomputable def oG(ahead:List Int):Nat->Int->Option (List Nat)
 |0,_=>none
 |f+1,n=>if 0<=n then(ahead[n.toNat]?).bind λm=>(oG ahead f m).map (n.toNat::·) else some []
noncomputable def wB(piles:List Nat):Int:=match piles.getLast? with
 |some p=>p
 |none=>-1
noncomputable def s6(js:List Nat):Option (List Nat):=(xb js 0 js ([],[])).bind λs=>if s.2.length=js.length then(oG s.2 9 (wB s.1)).map List.reverse else none
noncomputable def jW:Nat->List V->List V
 |_,[]=>[]
 |k,v::r=>.tup [nI k,v]::jW (k+1) r
theorem pX:∀(l:List V)(k i:Nat),(jW k l)[i]?=(l[i]?).map λv=>.tup [nI (k+i),v]
 |[],k,i=>rfl
 |v::r,k,0=>rfl
 |v::r,k,i+1=>(pX r (k+1) i).trans (by rw[cH];rfl)
theorem yE:∀(l:List V)(k:Nat),(jW k l).length=l.length:=λrr=>li (λ_=>rfl)
 (λ_ r ih k=>congrArg (·+1) (ih (k+1))) rr
theorem RT{is:IS}{l:List V}{t:T}{body:aj->ae->QO->Prop}(hb:m5 body)(hn:∀Z i,fq Z is i=some l[i]?){Q:QO}:∀{n i:Nat}{J:aj}{Z:ae},bZ (.vals l) t body Q n i J Z->bZ is t body Q n i J Z:=by
 intro n;induction n with
 |zero=>intro i J Z h;exact h
 |succ n ih=>
  intro i J Z h;refine ao (hn Z i) ?_;have h:match l[i]? with
   |none=>Q .next J Z
   |some v=>aK (d8 t v J) λJ'=>body J' Z λo J'' Z''=>match o with
    |.next=>∃Z3,Sub Z3 Z''/\bZ (.vals l) t body Q n (i+1) J'' Z3
    |.ret v=>Q (.ret v) J'' Z'':=h
  cases e:l[i]? with
  |none=>rw[e]at h;exact h
  |some v=>
   rw[e]at h;exact a0 h λJ' h=>hb _ _ _ _ (λo J Z h=>by
    cases o with
    |next=>exact h.imp λZ3 h=>⟨h.1,ih h.2⟩
    |ret v=>exact h) h
theorem y9(l:List V)(Z:ae)(i:Nat):fq Z (.enum (.vals l)) i=some (jW 0 l)[i]?:=by
 rw[pX,aU];rfl
theorem uV{C:ax}(M:jV C){e:E}{t:T}{b:List S}{J:aj}{Z:ae}{Q:QO}{l:List V}(he:Ev C e J Z (.list l))(h:∃n,bZ (.vals (jW 0 l)) t (λJ Z Q=>az C b J Z Q) Q n 0 J Z):WS C (.for t (.enum e) b) J Z Q:=
 he _ (h.imp λn h=>RT (mG M b) (y9 l) h)
theorem jO{Z:ae}{l:List V}{i:Nat}{v:V}(e:l[i]?=some v):eQ Z (.list l) (nI i)=some v:=by
 show fF l (i:Int) = _;unfold fF;rw[if_pos (eL i),hU,e]
theorem qk{C:ax}{J:aj}{Z:ae}{a:E}{g:Nat}{l:List V}(h:Ev C a J Z (.ref g))(e:Z g=some (.list l)):Ev C (.bi .len [a]) J Z (nI l.length):=λQ q=>h _ (ao (a:=nI l.length) (by show(cc Z g).map _ = _;rw[gV e];rfl) q)
theorem AU{α ι Jaa:Type}{C:ax}(M:jV C){t:T}{b:List Internal.S}{l:List α}{f:α->V}(R:ι->Jaa->aj)(T:ι->ae)(I:Nat->ι->Prop){Q:QO}
  (step:∀i(hi:i<l.length)s j,I i s->aK (d8 t (.tup [nI i,f l[i]]) (R s j)) λJ'=>∀Q:QO,(∀s' j',I (i+1) s'->Q .next (R s' j') (T s'))->az C b J' (T s) Q)
  (fin:∀s j,I l.length s->Q .next (R s j) (T s)) {s:ι} {j:Jaa} (h:I 0 s):∃n,bZ (.vals (jW 0 (l.map f))) t (λJ Z Q=>az C b J Z Q) Q n 0 (R s j) (T s):=
 ql (l:=jW 0 (l.map f)) (mG M b) (λi J Z=>∃s j,J=R s j/\Z=T s/\I i s) ⟨s,j,rfl,rfl,h⟩ (λ_ _ _ _=>rfl)
  (λi v J Z hv z_=>cp z_ λs j e e' h=>by
   subst e;subst e';rw[pX,aU,cO]at hv;cases w:l[i]? with
   |none=>rw[w]at hv;exact nn hv
   |some x=>
    obtain⟨hi,rfl⟩:=iR.1 w;rw[w]at hv;rw[<-di hv];exact a0 (step i hi s j h) λJ' w=>w _ λs' j' h'=>⟨_,Sub.refl' _,s',j',rfl,rfl,h'⟩)
  (λJ Z z_=>cp z_ λs j e e' h=>by subst e;subst e';rw[yE,aY]at h;exact fin s j h)
section
structure RR where
 n:Nat
 Z:ae
 pi:Nat
 ah:Nat
 ne:pi≠ah
abbrev RS:=List Nat×List Int
noncomputable def RR.T(r:RR)(s:RS):ae:=ak (ak r.Z r.pi (.list (s.1.map nI))) r.ah (.list (vI s.2))
theorem RR.tp(r:RR)(s:RS):r.T s r.pi=some (.list (s.1.map nI)):=(aA r.ne).trans (aP ..)
theorem RR.ta(r:RR)(s:RS):r.T s r.ah=some (.list (vI s.2)):=aP ..
abbrev RJ:=Option V×Option V×Option V×Option V×Option V
noncomputable def RR.R(r:RR)(ps:List (Nat×Nat))(j:RJ):aj:=[some (.list (ps.map de)),some (.ref r.pi),some (.ref r.ah),j.1,j.2.1,j.2.2.1,j.2.2.2.1,j.2.2.2.2,none]
noncomputable abbrev Io:S:=.whl (.m .lt (.x 5) (.x 6)) [.s (.v 7) (.b .fdiv (.b .add (.x 5) (.x 6)) (.c (.int 2))),
    .ite (.m .lt (.i (.i (.x 0) (.i (.x 1) (.x 7))) (.c (.int 1))) (.i (.x 4) (.c (.int 1))))
    [.s (.v 5) (.b .add (.x 7) (.c (.int 1)))]
    [.s (.v 6) (.x 7)]]
theorem oE{α β:Type}{o:Option α}{f:α->Option β}{b:β}(h:o.bind f=some b):∃a,o=some a/\f a=some b:=match o,h with
 |some a,h=>⟨a,rfl,h⟩
section
variable{ps:List (Nat×Nat)}
theorem OB{s:RS}{q:Nat}{e:Nat×Nat}{res:Nat}(h:oQ (ps.map (·.2)) s.1 e.2 9 0 s.1.length=some res) :
  ∀(r:RR)(j:Option V)(Q:QO),(∀hi j,Q .next (r.R ps (some (nI q),some (de e),some (nI res),hi,j)) (r.T s)) ->
   WS (Ph pF r.n) Io (r.R ps (some (nI q),some (de e),some (nI 0),some (nI s.1.length),j)) (r.T s) Q:=by
 have key:=fj (C:=λr:RR=>Ph pF r.n) (c:=.m .lt (.x 5) (.x 6)) (b:=[.s (.v 7) (.b .fdiv (.b .add (.x 5) (.x 6)) (.c (.int 2))),
    .ite (.m .lt (.i (.i (.x 0) (.i (.x 1) (.x 7))) (.c (.int 1))) (.i (.x 4) (.c (.int 1)))) [.s (.v 5) (.b .add (.x 7) (.c (.int 1)))] [.s (.v 6) (.x 7)]])
  (λ(r:RR)(t:Nat×Nat×Nat)(j:Option V)=>r.R ps (some (nI q),some (de e),some (nI t.2.1),some (nI t.2.2),j)) (λr _=>r.T s) (λt=>oQ (ps.map (·.2)) s.1 e.2 t.1 t.2.1 t.2.2=some res) (λt=>t.1) (λt=>t.2.1<t.2.2)
  (λt _ r j=>eZ (aa rfl) (aa rfl))
  (λs'=>oX (λf low high=>nz (λht _=>nn ht) (λf ht hlt=>by
    have ht:(if low<high then(s.1[(low+high)/2]?).bind λp=>((ps.map (·.2))[p]?).bind λj=>if j<e.2 then oQ (ps.map (·.2)) s.1 e.2 f ((low+high)/2+1) high else oQ (ps.map (·.2)) s.1 e.2 f low ((low+high)/2) else some low)=some res:=ht;rw[if_pos hlt]at ht;refine ar (oE ht) λp hp ht=>?_;refine ar (oE ht) λj hj ht=>?_;rw[cO]at hj;obtain⟨e',he,rfl⟩:∃e',ps[p]?=some e'/\e'.2=j:=by
     cases w:ps[p]? with
     |none=>rw[w]at hj;exact nn hj
     |some e'=>rw[w]at hj;exact⟨e',rfl,di hj⟩
    have tv:∀(r:RR),aI (Ph pF r.n) (.m .lt (.i (.i (.x 0) (.i (.x 1) (.x 7))) (.c (.int 1))) (.i (.x 4) (.c (.int 1)))) (r.R ps (some (nI q),some (de e),some (nI low),some (nI high),some (nI ((low+high)/2)))) (r.T s) (e'.2<e.2):=λr=>
     eZ (bW (bW (aa rfl) (bW (aa rfl) (aa rfl) (kr (r.tp s) (by rw[cO,hp];rfl))) (jO (by rw[cO,he];rfl))) Ev.cn rfl) (bW (aa rfl) Ev.cn rfl)
    by_cases c:e'.2<e.2
    ·rw[if_pos c]at ht;exact⟨(f,(low+high)/2+1,high),ht,bu f,λr j Q q'=>aO (dF (tv r) c (q' (some (nI ((low+high)/2))) _ (Sub.refl' _)))⟩
    ·rw[if_neg c]at ht;exact⟨(f,low,(low+high)/2),ht,bu f,λr j Q q'=>aO (bH (tv r) c (q' (some (nI ((low+high)/2))) _ (Sub.refl' _)))⟩) f) s')
  (9,0,s.1.length) h
 refine cm key λpp20_ h1 h2 run=>?_;obtain⟨f,low,high⟩:=pp20_;intro r j Q q';refine run r j Q λj'=>?_;cases f with
 |zero=>exact nn h1
 |succ f=>
  have h1:(if low<high then _ else some low)=some res:=h1;rw[if_neg h2]at h1;injection h1 with h1;subst h1
  exact q' _ j'
end
end
section
theorem u9{Z:ae}{g:Nat}{l:List V}{i:Nat}{v:V}{Q:ae->Prop}(e:Z g=some (.list l))(h:i<l.length)(q:Q (ak Z g (.list (l.set i v)))):jx Z (.ref g) (nI i) v Q:=
 ao (a:=g) rfl (ao e (ao (a:=(i:Int)) rfl (.inl ⟨eL i,dN.2 h,by rw[hU];exact q⟩)))
theorem bM{C:ax}{t:Tg}{e:E}{v:V}{rest:List S}{J:aj}{Z:ae}{Q:QO}(h:Ev C e J Z v)(q:jD C t v J Z λJ Z=>az C rest J Z Q):az C (.s t e::rest) J Z Q:=h _ q
theorem RR.setP(r:RR){s:RS}{l:List Nat}{L:List V}(h:L=l.map nI):ak (r.T s) r.pi (.list L)=r.T (l,s.2):=by
 rw[h,RR.T,<-jR r.ne,dX];rfl
theorem RR.setA(r:RR){s:RS}{l:List Int}{L:List V}(h:L=vI l):ak (r.T s) r.ah (.list L)=r.T (s.1,l):=by
 rw[h,RR.T,dX];rfl
section
variable{ps:List (Nat×Nat)}
noncomputable abbrev wA:List S:=[.s (.vs [5,6]) (.tup [.c (.int 0),.bi .len [.x 1]]),Io,
   .ex (.bm (.x 2) .append [.ite (.m .gt (.x 5) (.c (.int 0))) (.i (.x 1) (.b .sub (.x 5) (.c (.int 1)))) (.neg (.c (.int 1)))]),
   .ite (.m .eq (.x 5) (.bi .len [.x 1]))
   [.ex (.bm (.x 1) .append [.x 3])]
   [.s (.i (.x 1) (.x 5)) (.x 3)]]
theorem Ou{s s':RS}{q:Nat}{e:Nat×Nat}(h:Ik (ps.map (·.2)) q e.2 s=some s')(h1:s.1.length<=q)(h2:s.2.length<=q)(hq:q<1000) :
  s'.1.length<=q+1/\s'.2.length<=q+1/\∀(r:RR)(j:Option V×Option V×Option V)(Q:QO),(∀j,Q .next (r.R ps j) (r.T s'))->az (Ph pF r.n) wA (r.R ps (some (nI q),some (de e),j)) (r.T s) Q:=by
 refine ar (oE h) λlow hs h=>?_;refine ar (oE h) λa ha h=>?_;have lenE:∀(r:RR)(s:RS)j,Ev (Ph pF r.n) (.bi .len [.x 1]) (r.R ps j) (r.T s) (nI s.1.length):=λr s j Q q'=>qk (aa rfl) (r.tp s) Q (by rw[aY];exact q');have small:∀{n:Nat},n<=q->n<aJ:=λh=>bC h (fL hq (by decide));have go:∀(r:RR)(j:Option V×Option V×Option V)(Q:QO),(∀hi j,az (Ph pF r.n) [.ite (.m .eq (.x 5) (.bi .len [.x 1])) [.ex (.bm (.x 1) .append [.x 3])] [.s (.i (.x 1) (.x 5)) (.x 3)]] (r.R ps (some (nI q),some (de e),some (nI low),hi,j)) (r.T (s.1,s.2++[a])) Q) ->
   az (Ph pF r.n) wA (r.R ps (some (nI q),some (de e),j)) (r.T s) Q:=λr j Q q'=>by
  refine fM Ev.cn (lenE r s _) rfl (aO (OB hs r j.2.2 _ λhi j=>?_));have fin:qY (r.T s) (.ref r.ah) .append [.int a] λv Z=>aK (mf v) λ_=>az (Ph pF r.n) [.ite (.m .eq (.x 5) (.bi .len [.x 1])) [.ex (.bm (.x 1) .append [.x 3])] [.s (.i (.x 1) (.x 5)) (.x 3)]] (r.R ps (some (nI q),some (de e),some (nI low),hi,j)) Z Q:=by
   refine ky (r.ta s) (by rw[aY];exact small h2) (ao rfl ?_);rw[r.setA (l:=s.2++[a]) (by show _ = nS V.int (s.2++[a]);rw[dy];rfl)];exact q' hi j
  have tv:aI (Ph pF r.n) (.m .gt (.x 5) (.c (.int 0))) (r.R ps (some (nI q),some (de e),some (nI low),hi,j)) (r.T s) (0<low):=iW (i:=low) (j:=0) (aa rfl) Ev.cn;refine⟨i7 (r.ta s) rfl,?_⟩;by_cases c:0<low
  ·rw[if_pos c]at ha;cases w:s.1[low-1]? with
   |none=>rw[w]at ha;exact nn ha
   |some p=>
    rw[w]at ha;injection ha with ha;subst ha
    exact iZ tv c (bW (v:=nI p) (aa rfl) (jP c (aa rfl)) (kr (r.tp s) (by rw[cO,w];rfl)) _ fin)
  ·rw[if_neg c]at ha;injection ha with ha;subst ha
   exact iy tv c fin
 have tv:∀(r:RR)hi j,aI (Ph pF r.n) (.m .eq (.x 5) (.bi .len [.x 1])) (r.R ps (some (nI q),some (de e),some (nI low),hi,j)) (r.T (s.1,s.2++[a])) (low=s.1.length):=λr hi j=>lq (aa rfl) (lenE r (s.1,s.2++[a]) _);have l2:(s.2++[a]).length<=q+1:=by rw[bB];exact cK h2
 by_cases c:low=s.1.length
 ·rw[if_pos c]at h;injection h with h;subst h
  refine⟨by rw[bB];exact cK h1,l2,λr j Q q'=>go r j Q λhi j=>aO (dF (tv r hi j) c ⟨i7 (r.tp _) rfl,aa (i:=3) (v:=nI q) rfl _ (gj (ky (r.tp _) (by rw[aY];exact small h1) (ao rfl ?_)))⟩)⟩;rw[r.setP (l:=s.1++[q]) (by show _ = nS nI (s.1++[q]);rw[dy];rfl)];exact q' (some (nI q),some (de e),some (nI low),hi,j)
 ·rw[if_neg c]at h;by_cases d:low<s.1.length
  ·rw[if_pos d]at h;injection h with h;subst h
   refine⟨by rw[Ce];exact fy h1,l2,λr j Q q'=>go r j Q λhi j=>aO (bH (tv r hi j) c ?_)⟩;refine bM (aa (i:=3) (v:=nI q) rfl) (vh (aa rfl) (aa rfl) (u9 (r.tp _) (by rw[aY];exact d) ?_));rw[r.setP (l:=s.1.set low q) (L5 ..).symm];exact q' (some (nI q),some (de e),some (nI low),hi,j)
  ·rw[if_neg d]at h;cases h
theorem Ot{fin:RS}(h:xb (ps.map (·.2)) 0 (ps.map (·.2)) ([],[])=some fin)(hz:ps.length<1000) :
  fin.1.length<=ps.length/\∀(r:RR)(j:RJ)(Q:QO),(∀j,Q .next (r.R ps j) (r.T fin))->∃n,bZ (.vals (jW 0 (ps.map de))) (.tup [3,4]) (λJ Z Q=>az (Ph pF r.n) wA J Z Q) Q n 0 (r.R ps j) (r.T ([],[])):=by
 obtain⟨s,⟨h1,h2,h3⟩,run⟩:=te (C:=λr:RR=>Ph pF r.n) (b:=wA) (t:=.tup [3,4]) (jW 0 (ps.map de)) (λr(_:RS)j=>r.R ps j) (λr s=>r.T s) (λq s=>xb (ps.map (·.2)) q ((ps.map (·.2)).drop q) s=some fin/\s.1.length<=q/\s.2.length<=q) (λq v s hv z_=>g9 z_ λh1 h2 h3=>by
  rw[pX,aU,cO]at hv;cases w:ps[q]? with
  |none=>rw[w]at hv;cases hv
  |some e=>
   rw[w]at hv;injection hv with hv;subst hv
   obtain⟨hq,rfl⟩:=iR.1 w;rw[jJ (by rw[aY];exact hq)]at h1;refine ar (oE h1) λs' k1 k2=>?_;rw[KY]at k1;refine g9 (Ou k1 h2 h3 (fL hq hz)) λl1 l2 run=>?_;exact⟨s',⟨k2,l1,l2⟩,λi j=>λQ q'=>run i j.2.2 Q λj'=>q' j' _ (Sub.refl' _)⟩) ([],[]) ⟨h,aC _,aC _⟩
 rw[yE,aY]at h1 h2;rw[xC (by rw[aY];exact aC _)]at h1;injection h1 with h1;subst h1
 exact⟨h2,run⟩
end
end
section
theorem r7{Z:ae}{g:Nat}{l:List V}{v:V}(h:Z g=some (.list l))(e:l.getLast?=some v):eQ Z (.ref g) (.int (-1))=some v:=by
 unfold eQ;rw[yS h];show fF l (-1) = _;have n:l≠[]:=λz=>by rw[z]at e;exact nn e
 have p:0<l.length:=mx.2 n;unfold fF;rw[if_neg (by decide),if_pos (by exact au [_] [] (.li .k0 (.a (.o .k1) .c0)) 1 [(1,.tn .k0 .v0)] rfl p),<-e,Bt];refine bA (Bq (iq p)) λn e=>?_;rw[e];exact congrArg (λi:Nat=>l[i]?) n1
section
variable{ps:List (Nat×Nat)}
noncomputable def kD(r:RR)(s:RS)(f:Nat)(acc:List Nat):ae:=ak (r.T s) f (.list (acc.map λi=>de (ps.getD i (0,0))))
structure BR(s:RS)where
 r:RR
 f:Nat
 fp:f≠r.pi
 fa:f≠r.ah
noncomputable def BR.R{s:RS}(r:BR s)(ps:List (Nat×Nat))(n:Int)(j:Option V×Option V×Option V×Option V):aj:=[some (.list (ps.map de)),some (.ref r.r.pi),some (.ref r.r.ah),some (.int n),j.1,j.2.1,j.2.2.1,j.2.2.2,some (.ref r.f)]
theorem Nx{s:RS}{n:Int}{all:List Nat}(h:oG s.2 9 n=some all)(hs:s.2.length=ps.length)(hz:ps.length<1000) :
  ∃n',∀(r:BR s)j(Q:QO),(∀j,Q .next (r.R ps n' j) (kD (ps:=ps) r.r s r.f all))->WS (Ph pF r.r.n) (.whl (.m .ge (.x 3) (.c (.int 0))) [.ex (.bm (.x 8) .append [.i (.x 0) (.x 3)]),.s (.v 3) (.i (.x 2) (.x 3))]) (r.R ps n j) (kD (ps:=ps) r.r s r.f []) Q:=by
 obtain⟨⟨f,n',acc⟩,⟨rest,h1,h2,h3⟩,h4,run⟩:=fj (C:=λr:BR s=>Ph pF r.r.n) (c:=.m .ge (.x 3) (.c (.int 0))) (b:=[.ex (.bm (.x 8) .append [.i (.x 0) (.x 3)]),.s (.v 3) (.i (.x 2) (.x 3))])
  (λ(r:BR s)(t:Nat×Int×List Nat)j=>r.R ps t.2.1 j) (λr t=>kD (ps:=ps) r.r s r.f t.2.2) (λt=>∃rest,oG s.2 t.1 t.2.1=some rest/\t.2.2++rest=all/\t.2.2.length+t.1=9) (λt=>t.1) (λt=>0<=t.2.1)
  (λt _ r j=>qu (aa rfl) Ev.cn)
  (λs'=>oX (λf n acc=>nz (λh _=>cm h λ_ h1 _ _=>nn h1) (λf h ht=>by
    refine cm h λrest h1 h2 h3=>?_;replace ht:0<=n:=ht;have h1:(if 0<=n then(s.2[n.toNat]?).bind λm=>(oG s.2 f m).map (n.toNat::·) else some [])=some rest:=h1;rw[if_pos ht]at h1;refine ar (oE h1) λm hm h1=>?_;cases w:oG s.2 f m with
    |none=>rw[w]at h1;exact nn h1
    |some rest'=>
     rw[w]at h1;injection h1 with h1;subst h1
     obtain⟨k,rfl⟩:=ph ht;rw[hU]at hm h2;have hk:k<ps.length:=hs▸(iR.1 hm).1;refine⟨(f,m,acc++[k]),⟨rest',w,by rw[eU];exact h2,by
      show(acc++[k]).length+f=9;rw[bB];exact(cH acc.length f).trans h3⟩,bu f,λr j Q q=>?_⟩
     have tf:kD (ps:=ps) r.r s r.f acc r.f=some (.list (acc.map λi=>de (ps.getD i (0,0)))):=aP ..;have ev:Ev (Ph pF r.r.n) (.i (.x 0) (.x 3)) (r.R ps (k:Int) j) (kD (ps:=ps) r.r s r.f acc) (de (ps.getD k (0,0))):=bW (aa rfl) (aa rfl) (jO (by rw[cO,fe,bL hk];rfl));have hl:(acc.map λi=>de (ps.getD i (0,0))).length<aJ:=by
      rw[aY];exact bC (ai (aL ..) (dA h3)) (by decide)
     refine⟨i7 tf rfl,ev _ (gj (ky tf hl (ao rfl ?_)))⟩;rw[show ak (kD (ps:=ps) r.r s r.f acc) r.f (.list ((acc.map λi=>de (ps.getD i (0,0)))++[de (ps.getD k (0,0))]))=kD (ps:=ps) r.r s r.f (acc++[k]) by unfold kD;rw[dX,dy];rfl];refine bM (bW (v:=.int m) (aa rfl) (aa rfl) (kr ((aA r.fa.symm).trans (r.r.ta s)) (by rw[cO,hm];rfl))) ?_;exact q j _ (Sub.refl' _)) f) s')
  (9,n,[]) ⟨all,h,rfl,rfl⟩
 refine⟨n',λr j Q q=>run r j Q λj'=>?_⟩;cases f with
 |zero=>exact nn h1
 |succ f=>
  have h1:(if 0<=n' then _ else some [])=some rest:=h1;rw[if_neg h4]at h1;injection h1 with h1;subst h1
  rw[gP]at h2;have h2:acc=all:=h2;subst h2;exact q j'
end
end
theorem Qo{C:ax}{J:aj}{Z:ae}{g:Nat}{piles:List Nat}(h1:rd J 1=some (.ref g))(hg:Z g=some (.list (piles.map nI))):∀Q:QV,Q (.int (wB piles)) Z->WE C (.ite (.m .ne (.x 1) (.lst false [])) (.i (.x 1) (.neg (.c (.int 1)))) (.neg (.c (.int 1)))) J Z Q:=λQ q=>by
 have tv:=p7 (C:=C) (aa h1) hg;unfold wB at q;cases e:piles.getLast? with
 |none=>
  rw[e]at q;have e:piles=[]:=List.getLast?_eq_none_iff.1 e;subst e;have z:WE C (.neg (.c (.int 1))) J Z Q:=q;exact iy tv (λn=>n rfl) z
 |some p=>
  rw[e]at q;have z:WE C (.i (.x 1) (.neg (.c (.int 1)))) J Z Q:=bW (b:=.neg (.c (.int 1))) (y:=.int (-1)) (v:=nI p) (aa h1) (λQ q=>q) (r7 hg (by rw[BZ,e];rfl)) _ q;refine iZ tv (λz=>?_) z;rw[xM]at z;rw[z]at e;exact nn e
theorem MB{ps:List (Nat×Nat)}{r:List Nat}(h:s6 (ps.map (·.2))=some r)(hz:ps.length<1000){n:Nat}{Z:ae}{Q:QV}(q:Q (.list (r.map λi=>de (ps.getD i (0,0)))) Z):Ph pF (n+1) 2 [.list (ps.map de)] Z Q:=by
 refine ar (oE h) λfin h1 h2=>?_;by_cases c:fin.2.length=(ps.map (·.2)).length
 ·rw[if_pos c]at h2;rw[aY]at c;cases w:oG fin.2 9 (wB fin.1) with
  |none=>rw[w]at h2;exact nn h2
  |some all=>
   rw[w]at h2;injection h2 with h2;subst h2
   refine aT (Ot h1 hz) λhl run=>?_;refine bA (Nx (ps:=ps) w c hz) λn' back=>?_;refine bN rfl λpi hpi ah hah=>⟨rfl,?_⟩
   have ne:pi≠ah:=λe=>by rw[<-e,aP]at hah;cases hah
   have hah':Z ah=none:=(aA ne.symm).symm.trans hah;refine aO (uV (cE pF n) (aa rfl) (run ⟨n,Z,pi,ah,ne⟩ (none,none,none,none,none) _ λj=>?_));intro f hf;have fa:f≠ah:=λe=>by rw[e,RR.ta]at hf;cases hf
   have fp:f≠pi:=λe=>by rw[e,RR.tp]at hf;cases hf
   have hf':Z f=none:=by rw[RR.T,aA fa,aA fp]at hf;exact hf
   have tp:kD (ps:=ps) ⟨n,Z,pi,ah,ne⟩ fin f [] pi=some (.list (fin.1.map nI)):=(aA fp.symm).trans (RR.tp _ _);refine bM (Qo rfl tp) ?_;refine(aO (back ⟨⟨n,Z,pi,ah,ne⟩,f,fp,fa⟩ (j.2.1,j.2.2.1,j.2.2.2.1,j.2.2.2.2) _ λj'=>?_));have tf:kD (ps:=ps) ⟨n,Z,pi,ah,ne⟩ fin f all f=some (.list (all.map λi=>de (ps.getD i (0,0)))):=aP ..;refine⟨i7 tf rfl,ao (vL tf) (ao rfl ?_)⟩;refine t7 (aP ..) hf' (λz m k=>?_) (by rw[<-B7];exact q);have nn{w:Nat}(hw:Z w=none):z≠w:=λe=>by rw[e,hw]at k;exact nn k
   exact(aA (nn hf')).trans ((aA (nn hf')).trans ((aA (nn hah')).trans ((aA (nn hpi)).trans k)))
 ·rw[if_neg c]at h2;exact nn h2
noncomputable def xc:List Nat->List (List Nat)
 |[]=>[[]]
 |a::r=>xc r++(xc r).map (a::·)
noncomputable def tL:List Nat->Bool
 |[]=>true
 |a::r=>match r with
  |[]=>true
  |b::_=>Nat.blt a b&&tL r
noncomputable def Ij(js:List Nat):Bool:=match s6 js with
 |none=>false
 |some r=>tL r&&(r.all λi=>Nat.blt i js.length)&&tL (r.map λi=>js.getD i 0)&&(xc js).all λs=>!tL s||Nat.ble s.length r.length
noncomputable def lists(m:Nat):Nat->List (List Nat)
 |0=>[[]]
 |n+1=>[]::(lists m n).flatMap λr=>(jN m).map λa=>a::r
theorem Qn:(lists 6 4).all Ij=true:=by decide +kernel
theorem Oe{m:Nat}:∀{n:Nat}{l:List Nat},l.length<=n->(∀a,a∈l->a<m)->l∈lists m n
 :=λ{n}=>@(ni (λ{l}=>lz (λ_ _=>cJ.2 rfl) (λ_ _ h _=>absurd h (xI _)) l) (λn ih{l}=>lz (λ_ _=>fJ)
  (λa r h k=>kb _ (List.mem_flatMap.2 ⟨r,ih (pv h) λb hb=>k b (kb _ hb),ip.2 ⟨a,uw.2 (k a fJ),rfl⟩⟩)) l) n)
theorem QM{l s:List Nat}(h:s.Sublist l):s∈xc l:=by
 induction h with
 |slnil=>exact cJ.2 rfl
 |cons a _ ih=>exact rq _ ih
 |cons_cons a _ ih=>exact rh _ (ip.2 ⟨_,ih,rfl⟩)
theorem R9{l:List Nat}(h:l.Pairwise (· < ·)):tL l=true:=by
 induction h with
 |nil=>rfl
 |@cons a r h _ ih=>
  cases r with
  |nil=>rfl
  |cons b r=>exact f9.2 ⟨Nat.ble_eq_true_of_le (h b fJ),ih⟩
theorem zC:∀{l:List Nat},tL l=true->l.Pairwise (· < ·)
 |[],_=>.nil
 |[a],_=>ug ..
 |a::b::r,h=>by
  have h:=f9.1 h;have w:=zC (l:=b::r) h.2;have ab:a<b:=dR h.1;exact .cons (λc hc=>(cq.1 hc).elim (λe=>e▸ab) λhc=>fL ab ((xR.1 w).1 c hc)) w
theorem SQ{js:List Nat}(h:js.length<=4)(k:∀a,a∈js->a<6):∃r,s6 js=some r/\r.Pairwise (· < ·)/\(∀i,i∈r->i<js.length)/\(r.map λi=>js.getD i 0).Pairwise (· < ·)/\∀s:List Nat,s.Sublist js->s.Pairwise (· < ·)->s.length<=r.length:=by
 have w:=dU.1 Qn js (Oe h k);unfold Ij at w;cases e:s6 js with
 |none=>rw[e]at w;exact bn w
 |some r=>
  rw[e]at w;have w:=f9.1 w;have w1:=f9.1 w.1;have w2:=f9.1 w1.1;refine⟨r,rfl,zC w2.1,λi hi=>dR (dU.1 w2.2 i hi),zC w1.2,λs hs hp=>?_⟩;have z:=dU.1 w.2 s (QM hs);rw[R9 hp]at z;exact dR z
theorem LO{f:Nat×Nat->Nat}:∀{l c:List (Nat×Nat)},l.Pairwise (λe e'=>f e<f e')->c.Pairwise (λe e'=>f e<f e')->(∀e,e∈c->e∈l)->c.Sublist l
 :=λ{l}=>@(li (λ{c}_ _ h=>by rw[List.eq_nil_iff_forall_not_mem.2 λa m=>nm (h a m)];exact .slnil) (λb l ih{c}hl=>lz (λ_ _=>List.nil_sublist _) (λa c hc h=>by
  have hl':=xR.1 hl;have hc':=xR.1 hc;rcases cq.1 (h a fJ) with e|e
  ·subst e;refine .cons_cons a (ih hl'.2 hc'.2 λe he=>(cq.1 (h e (kb _ he))).resolve_left λw=>?_);subst w;exact gQ _ (hc'.1 _ he)
  ·refine .cons b (ih hl'.2 hc λe' he=>(cq.1 (h e' he)).resolve_left λw=>?_);subst w;rcases cq.1 he with z|z
   ·subst z;exact gQ _ (hl'.1 _ e)
   ·exact Nat.lt_asymm (hl'.1 _ e) (hc'.1 _ z)) c) l)
abbrev oU(e e':Nat×Nat):Prop:=e.1<e'.1/\e.2<e'.2
theorem R1{ps:List (Nat×Nat)}(hs:ps.Pairwise λe e'=>e.1<e'.1)(h:ps.length<=4)(k:∀e,e∈ps->e.2<6) :
  ∃r,s6 (ps.map (·.2))=some r/\(r.map λi=>ps.getD i (0,0)).Pairwise oU/\(∀e,e∈(r.map λi=>ps.getD i (0,0))->e∈ps)/\∀c:List (Nat×Nat),c.Pairwise oU->(∀e,e∈c->e∈ps)->c.length<=r.length:=by
 obtain⟨r,r1,r2,r3,r4,r5⟩:=SQ (js:=ps.map (·.2)) (by rw[aY];exact h) λa ha=>by
  obtain⟨e,he,rfl⟩:=ip.1 ha;exact k e he
 rw[aY]at r3;have at_:∀i,i<ps.length->(ps.map (·.2)).getD i 0=(ps.getD i (0,0)).2:=λi hi=>by
  rw[fe,fe,cO,bL hi];rfl
 refine⟨r,r1,?_,λe he=>?_,λc hc hm=>?_⟩
 ·rw[KO]at r4 ⊢;refine(r2.and r4).imp_of_mem λ{i j}hi hj w=>⟨?_,?_⟩
  ·have z:=(List.pairwise_iff_getElem.1 hs) i j (r3 i hi) (r3 j hj) w.1;rw[fe,fe,bL (r3 i hi),bL (r3 j hj)];exact z
  ·have z:=w.2;rw[at_ i (r3 i hi),at_ j (r3 j hj)]at z;exact z
 ·obtain⟨i,hi,rfl⟩:=ip.1 he;rw[fe,bL (r3 i hi)];exact iS (r3 i hi)
 ·have sub:=(LO (f:=(·.1)) hs (hc.imp λw=>w.1) hm).map (·.2);have z:=r5 _ sub (by rw[KO];exact hc.imp λw=>w.2);rw[aY]at z;exact z
theorem aD.pairs{e:Nat->Nat->Prop}{x y X Y c:Nat}(h:aD e x y X Y c):∃l:List (Nat×Nat),l.Pairwise oU/\(∀p,p∈l->e p.1 p.2/\x<=p.1/\p.1<X/\y<=p.2/\p.2<Y)/\X+Y=x+y+c+2*l.length:=by
 induction h with
 |nil=>exact⟨[],.nil,λ_ h=>(nm h),rfl⟩
 |@keep x y X Y c a k ih=>
  refine cm ih λl h1 h2 h3=>?_;have le:=k.le;refine⟨(x,y)::l,.cons (λp hp=>⟨(h2 p hp).2.1,(h2 p hp).2.2.2.1⟩) h1,λp hp=>?_,?_⟩
  ·rcases cq.1 hp with rfl|hp
   ·exact⟨a,aC _,le.1,aC _,le.2⟩
   ·have z:=h2 p hp;exact⟨z.1,cL z.2.1,z.2.2.1,cL z.2.2.2.1,z.2.2.2.2⟩
  ·rw[nH];exact bE [_,_,_,_,_,_] [] (.a .v0 .v1) (.a (.a (.a .v2 .v3) .v4) (.m 2 (.a .v5 .k1))) [(-1,.en (.a .v0 .v1) (.a (.a (.a (.a .v2 .k1) (.a .v3 .k1)) .v4) (.m 2 .v5)))] rfl h3
 |out _ ih=>
  refine cm ih λl h1 h2 h3=>?_;exact⟨l,h1,λp hp=>⟨(h2 p hp).1,cL (h2 p hp).2.1,(h2 p hp).2.2⟩,by exact bE [_,_,_,_,_,_] [] (.a .v0 .v1) (.a (.a (.a .v2 .v3) (.a .v4 .k1)) (.m 2 .v5)) [(-1,.en (.a .v0 .v1) (.a (.a (.a (.a .v2 .k1) .v3) .v4) (.m 2 .v5)))] rfl h3⟩
 |inn _ ih=>
  refine cm ih λl h1 h2 h3=>?_;exact⟨l,h1,λp hp=>⟨(h2 p hp).1,(h2 p hp).2.1,(h2 p hp).2.2.1,cL (h2 p hp).2.2.2.1,(h2 p hp).2.2.2.2⟩,by exact bE [_,_,_,_,_,_] [] (.a .v0 .v1) (.a (.a (.a .v2 .v3) (.a .v4 .k1)) (.m 2 .v5)) [(-1,.en (.a .v0 .v1) (.a (.a (.a .v2 (.a .v3 .k1)) .v4) (.m 2 .v5)))] rfl h3⟩
section
theorem Dy{C:ax}{J:aj}{Z:ae}{l:List V}{e:E}(h:Ev C e J Z (.list l)):aI C (.m .eq e (.lst false [])) J Z (l=[]):=by
 refine⟨l.isEmpty,by cases l<;>simp,dj h (λQ q=>q) ?_⟩;show gO 4 (.list l) (.list []) = _;cases l<;>rfl
section
variable{A B:List Int}{G₀ H₀ G H:List Bool}{P:Pt}{nd:Prop}{D:Nat}
abbrev pJ:=Option V×Option V
noncomputable def KR.R2(r:KR A B G₀ H₀)(P:Pt)(v3 v4 v5 v6 v7 v8 v9:Option V):aj:=[some (.inst 2 r.s.d),some (dG P),some (.ref r.a),v3,v4,v5,v6,v7,v8,v9]
structure tS(A B:List Int)(G₀ H₀ G H:List Bool)(P:Pt)(nd:Prop)(D X Y bd q:Nat)(held:List (Nat×Nat))(x y:Nat)(W:List Pt):Prop where
 mi:∃n m,MI A B G₀ H₀ P ((x,X,y,Y)::W) G H n/\dO A B x X y Y m/\(nd->n+(X-x+(Y-y))<=D+m+2*(held.length-q))
 low:∀e,e∈held.drop q->x<=e.1/\y<=e.2
 wt:dq W+2*(X-x+(Y-y))+3*q<=bd
noncomputable abbrev tj:List S:=[.ex (.bm (.x 2) .append [.tup [.x 3,.x 8,.x 5,.x 9]]),.s (.vs [3,5]) (.tup [.b .add (.x 8) (.c (.int 1)),.b .add (.x 9) (.c (.int 1))])]
theorem wC(p:Pt):wt p<=2*(p.2.1-p.1+(p.2.2.2-p.2.2.1))+1:=AL _
theorem NU{X Y bd:Nat}{held:List (Nat×Nat)}(hbd:bd<=901)(hin:∀e,e∈held->e.1<X/\e.2<Y/\A[e.1]?=B[e.2]?)(hup:held.Pairwise oU){q x y:Nat}{W:List Pt}{e:Nat×Nat}(he:held[q]?=some e)(h:tS A B G₀ H₀ G H P nd D X Y bd q held x y W) :
  tS A B G₀ H₀ G H P nd D X Y bd (q+1) held (e.1+1) (e.2+1) ((x,e.1,y,e.2)::W)/\∀(r:KR A B G₀ H₀)v7(Q:QO),Q .next (r.R2 P (some (nI (e.1+1))) (some (nI X)) (some (nI (e.2+1))) (some (nI Y)) v7 (some (nI e.1)) (some (nI e.2))) (r.T ((x,e.1,y,e.2)::W,G,H)) ->
   az (Ph pF (r.n+3)) tj (r.R2 P (some (nI x)) (some (nI X)) (some (nI y)) (some (nI Y)) v7 (some (nI e.1)) (some (nI e.2))) (r.T (W,G,H)) Q:=by
 obtain⟨⟨n,m,mi,lm,hn⟩,low,hw⟩:=h;obtain⟨hq,rfl⟩:=iR.1 he;have dr:held.drop q=held[q]::held.drop (q+1):=jJ hq;have lo:=low held[q] (dr▸fJ);refine g9 (hin held[q] (iS hq)) λi1 i2 i3=>?_;obtain⟨m',m₁,m₂,n',s1,s2,s3,s4,s5⟩:=mi.j.split (a:=held[q].1) (b:=held[q].2) (s:=1) lo.1 i1 lo.2 i2 λt ht=>by
  cases Nat.lt_one_iff.1 ht;exact i3
 have e1:=s1.uniq lm;have u1:=s2.2 _ (aD.edits lo.1 lo.2);have wl:=wC (x,held[q].1,y,held[q].2)
 dsimp only at wl
 refine⟨⟨⟨n',m₂,⟨mi.lg,mi.lh,mi.og,mi.oh,s5⟩,s3,λd=>?_⟩,λe he=>?_,?_⟩,λr v7 Q qq=>?_⟩
 ·have:=hn d;exact au [_,_,_,_,_,_,_,_,_,_,_,_,_,_,_,_,_,_,_,_,_,_,_] [] (.ln (.a .v0 (.a .v1 .v2)) (.a (.a .v3 .v4) (.m 2 .v5))) 1 [(1,.en (.a .v0 .v6) (.a .v7 (.a .v8 .v4))),(-1,.en .v6 .v9),(1,.ln .v8 (.a (.v 10) (.v 11))),(1,.ln (.a .v7 (.a (.v 12) (.v 13))) (.a (.a .v3 .v9) (.m 2 (.v 14)))),(2,.ln (.v 15) (.a .v5 (.a (.v 16) .k1))),(1,.ln (.v 17) (.a (.v 12) (.v 18))),(1,.ln (.v 19) (.a (.v 13) (.v 20))),(1,.en (.a .v1 (.a (.v 21) .k1)) (.v 17)),(1,.en (.a .v2 (.a (.v 22) .k1)) (.v 19)),(1,.en (.a (.v 10) (.v 20)) (.v 22)),(1,.en (.a (.v 11) (.v 18)) (.v 21)),(2,.en (.a (.v 14) (.v 16)) (.v 15))] rfl s4 e1 u1 this cW cW cW (aZ (au [_,_] [] (.ln (.a .v0 .k1) .v1) 1 [(1,.tn .v0 .v1)] rfl i1)) (aZ (au [_,_] [] (.ln (.a .v0 .k1) .v1) 1 [(1,.tn .v0 .v1)] rfl i2)) (aZ lo.2) (aZ lo.1) (aZ (au [_,_] [] (.ln .v0 .v1) 1 [(1,.tn .v0 .v1)] rfl hq))
 ·have p:(held.drop q).Pairwise oU:=Yg (List.drop_sublist q held) hup;rw[dr]at p;exact(xR.1 p).1 e he
 ·show wt _+dq W+_+_<=bd;exact au [_,_,_,_,_,_,_,_,_,_,_,_,_,_,_,_] [] (.ln (.a (.a (.a .v0 .v1) (.m 2 (.a .v2 .v3))) (.m 3 (.a .v4 .k1))) .v5) 1 [(1,.ln (.a (.a .v1 (.m 2 (.a .v6 .v7))) (.m 3 .v4)) .v5),(1,.ln .v0 (.a (.m 2 (.a .v8 .v9)) .k1)),(2,.ln (.v 10) (.a .v6 (.v 11))),(2,.ln (.v 12) (.a .v7 (.v 13))),(2,.en (.a .v2 (.a (.v 14) .k1)) (.v 10)),(2,.en (.a .v3 (.a (.v 15) .k1)) (.v 12)),(2,.en (.a .v9 (.v 13)) (.v 15)),(2,.en (.a .v8 (.v 11)) (.v 14))] rfl hw wl cW cW (aZ (au [_,_] [] (.ln (.a .v0 .k1) .v1) 1 [(1,.tn .v0 .v1)] rfl i1)) (aZ (au [_,_] [] (.ln (.a .v0 .k1) .v1) 1 [(1,.tn .v0 .v1)] rfl i2)) (aZ lo.2) (aZ lo.1)
 ·have hl:W.length<1000:=bC (vP W) (by exact au [_,_,_,_,_] [] (.tn .v0 (.k 1000)) 1 [(1,.ln .v1 (.k 901)),(1,.ln (.a (.a .v0 (.m 2 (.a .v2 .v3))) (.m 3 .v4)) .v1)] rfl hbd hw);exact push r (p:=(x,held[q].1,y,held[q].2)) rfl (jq (aa rfl) (aa rfl) (aa rfl) (aa rfl)) hl (fM (u:=nI (held[q].1+1)) (v:=nI (held[q].2+1)) (bh (aa rfl) Ev.cn rfl) (bh (aa rfl) Ev.cn rfl) rfl qq)
end
end
section
section
variable{A B:List Int}{G₀ H₀ G H:List Bool}{P:Pt}{nd:Prop}{D:Nat}
theorem NT{X Y bd:Nat}{held:List (Nat×Nat)}(hbd:bd<=901)(hin:∀e,e∈held->e.1<X/\e.2<Y/\A[e.1]?=B[e.2]?)(hup:held.Pairwise oU){x y:Nat}{W:List Pt}(h:tS A B G₀ H₀ G H P nd D X Y bd 0 held x y W) :
  ∃x' y' W',tS A B G₀ H₀ G H P nd D X Y bd held.length held x' y' W'/\∀(r:KR A B G₀ H₀)v7(j:pJ)(Q:QO),(∀j:pJ,Q .next (r.R2 P (some (nI x')) (some (nI X)) (some (nI y')) (some (nI Y)) v7 j.1 j.2) (r.T (W',G,H))) ->
   ∃n,bZ (.vals (held.map de)) (.tup [8,9]) (λJ Z Q=>az (Ph pF (r.n+3)) tj J Z Q) Q n 0 (r.R2 P (some (nI x)) (some (nI X)) (some (nI y)) (some (nI Y)) v7 j.1 j.2) (r.T (W,G,H)):=by
 obtain⟨s,hs,run⟩:=te (C:=λi:KR A B G₀ H₀×Option V=>Ph pF (i.1.n+3)) (b:=tj) (t:=.tup [8,9]) (held.map de) (λi(s:Nat×Nat×List Pt)(j:pJ)=>i.1.R2 P (some (nI s.1)) (some (nI X)) (some (nI s.2.1)) (some (nI Y)) i.2 j.1 j.2) (λi s=>i.1.T (s.2.2,G,H)) (λq s=>tS A B G₀ H₀ G H P nd D X Y bd q held s.1 s.2.1 s.2.2)
  (λq v s hv hs=>by
   rw[cO]at hv;cases w:held[q]? with
   |none=>rw[w]at hv;exact nn hv
   |some e=>
    rw[w]at hv;injection hv with hv;subst hv
    refine aT (NU hbd hin hup w hs) λh1 h2=>?_;exact⟨(e.1+1,e.2+1,(s.1,e.1,s.2.1,e.2)::s.2.2),h1,λi j Q qq=>h2 i.1 i.2 Q (qq (some (nI e.1),some (nI e.2)) _ (Sub.refl' _))⟩) (x,y,W) h
 rw[aY]at hs;exact⟨s.1,s.2.1,s.2.2,hs,λr v7 j Q qq=>run (r,v7) j Q qq⟩
def tD(A:List Int):Prop:=∀i j,i<A.length->j<A.length->A.getD i 0=A.getD j 0->i=j
theorem vA{A B:List Int}{i j:Nat}(hi:i<A.length)(hj:j<B.length):(A.getD i 0=B.getD j 0)↔A[i]?=B[j]?:=by
 rw[oe hi,oe hj,bL hi,bL hj];exact⟨congrArg some,di⟩
theorem R0(hz:A.length+B.length<=400)(hA:A.length<=4)(hB:B.length<=6){x k y l m:Nat}(hX:x+k<=A.length)(hY:y+l<=B.length)(hm:dO A B x (x+k) y (y+l) m) :
  ∃held:List (Nat×Nat),(∀e,e∈held->e.1<x+k/\e.2<y+l/\A[e.1]?=B[e.2]?)/\held.Pairwise oU/\(∀e,e∈held->x<=e.1/\y<=e.2)/\(tD A/\tD B->k+l<=m+2*held.length) /\
   ∀(r:dQ A B)(J:aj)(Q:QV),rd J 0=some (.inst 2 r.s.d)->(∀Q:QV,Q (pt x (x+k) y (y+l)) r.Z->WE (Ph pF (r.n+1)) (.tup [.x 3,.x 4,.x 5,.x 6]) J r.Z Q)->Q (.list (held.map de)) r.Z ->
    WE (Ph pF (r.n+1)) (.call 2 [.h (.x 0) 31 [.tup [.x 3,.x 4,.x 5,.x 6]]]) J r.Z Q:=by
 refine ar (M5 (A:=A) (B:=B) hX hY hz) λps hp run=>?_;have k4:k<=4:=ai (df k x) (ai hX hA);refine o7 (R1 hp.b (ai hp.n k4) λe he=>aQ (hp.a e he).2.2.2.1 (ai hY hB)) λrs r1 r2 r3 r4=>?_;refine⟨rs.map λi=>ps.getD i (0,0),λe he=>?_,r2,λe he=>⟨(hp.a e (r3 e he)).1,(hp.a e (r3 e he)).2.2.1⟩,λz_=>aT z_ λoA oB=>?_,λr J Q h0 ht q=>?_⟩
 ·have z:=hp.a e (r3 e he);exact⟨z.2.1,z.2.2.2.1,(vA (aQ z.2.1 hX) (aQ z.2.2.2.1 hY)).1 z.2.2.2.2⟩
 ·refine cm hm.1.pairs λc c1 c2 c3=>?_;have len:=r4 c c1 λe he=>by
   refine I9 (c2 e he) λpp50_ b1 b2 b3 b4=>?_;obtain⟨g1,g2,g3⟩:=pp50_;have ge:=(vA g2 g3).2 g1;refine hp.c e.1 e.2 b1 b2 (DN b1 b2 λq p1 p2 pe=>oA q e.1 (aQ p2 hX) g2 pe) ?_;rw[ge];exact DN b3 b4 λq p1 p2 pe=>oB q e.2 (aQ p2 hY) g3 pe
  rw[aY];exact au [_,_,_,_,_,_,_] [] (.ln (.a .v0 .v1) (.a .v2 (.m 2 .v3))) 1 [(1,.en (.a (.a .v4 .v0) (.a .v5 .v1)) (.a (.a (.a .v4 .v5) .v2) (.m 2 .v6))),(2,.ln .v6 .v3)] rfl c3 len
 ·refine ao h0 (ao (cY r.on rfl) (ht _ (run r _ ?_)));refine MB r1 (bC (ai hp.n k4) (by decide)) ?_;rw[ik]at q;exact q
end
end
section
section
variable{A B:List Int}{G₀ H₀ G H:List Bool}{P p:Pt}{W:List Pt}{D:Nat}
abbrev nd(A B:List Int):Prop:=tD A/\tD B
noncomputable abbrev IM:S:=.ite (.o false [.m .eq (.x 3) (.x 4),.m .eq (.x 5) (.x 6)])
   [.ex (.h (.x 0) 27 [.tup [.x 3,.x 4,.x 5,.x 6]])]
   [.s (.v 7) (.call 2 [.h (.x 0) 31 [.tup [.x 3,.x 4,.x 5,.x 6]]]),
    .ite (.m .eq (.x 7) (.lst false []))
    [.ex (.h (.x 0) 30 [.tup [.x 3,.x 4,.x 5,.x 6]])]
    [.for (.tup [8,9]) (.seq (.x 7)) tj,
     .ex (.bm (.x 2) .append [.tup [.x 3,.x 4,.x 5,.x 6]])]]
noncomputable abbrev w9:List S:=[.s (.vs [3,4,5,6]) (.h (.x 0) 26 [.bm (.x 2) .pop []]),IM]
abbrev qJ:=Option V×Option V×Option V×Option V×Option V×Option V×Option V
noncomputable abbrev KR.R3(r:KR A B G₀ H₀)(P:Pt)(j:qJ):aj:=r.R2 P j.1 j.2.1 j.2.2.1 j.2.2.2.1 j.2.2.2.2.1 j.2.2.2.2.2.1 j.2.2.2.2.2.2
theorem oc{C:ax}{e:E}{t:T}{b:List S}{J:aj}{Z:ae}{Q:QO}{l:List V}(he:Ev C e J Z (.list l))(h:∃n,bZ (.vals l) t (λJ Z Q=>az C b J Z Q) Q n 0 J Z):WS C (.for t (.seq e) b) J Z Q:=he _ (ao rfl h)
theorem DZ(r:KR A B G₀ H₀){x X y Y:Nat}(tr:∀(r:dQ A B) Q,Q (dG (x,X,y,Y)) r.Z->Ph pF (r.n+1) 35 [.inst 2 r.s.d,dG p] r.Z Q)(j:qJ)(Q:QO)(q:WS (Ph pF (r.n+3)) IM (r.R2 P (some (nI x)) (some (nI X)) (some (nI y)) (some (nI Y)) j.2.2.2.2.1 j.2.2.2.2.2.1 j.2.2.2.2.2.2) (r.T (W,G,H)) Q) :
  az (Ph pF (r.n+3)) w9 (r.R3 P j) (r.T (p::W,G,H)) Q:=
 zq (u:=nI x) (v:=nI X) (w:=nI y) (x:=nI Y) (zg r rfl rfl tr ⟨rfl,iY (cE pF _) q⟩) (cE pF _)
theorem LK(hX:P.2.1<=A.length)(hY:P.2.2.2<=B.length)(hz:A.length+B.length<=400)(hA:A.length<=4)(hB:B.length<=6)(hwt:wt P<=900){n:Nat}(h:MI A B G₀ H₀ P (p::W) G H n)(hn:nd A B->n<=D)(hw:dq (p::W)<=wt P) :
  ∃s':KS,(∃n,MI A B G₀ H₀ P s'.1 s'.2.1 s'.2.2 n/\(nd A B->n<=D))/\dq s'.1<dq (p::W)/\∀(r:KR A B G₀ H₀)(j:qJ)(Q:QO),(∀(j:qJ)Z,Sub (r.T s') Z->Q .next (r.R3 P j) Z)->az (Ph pF (r.n+3)) w9 (r.R3 P j) (r.T (p::W,G,H)) Q:=by
 refine ar (yx hX hY h) λpp00_ T tr=>?_;obtain⟨x,X,y,Y⟩:=pp00_;have h2:=h.trim hX hY T;have b:=h2.j.top;have lX:X<=A.length:=ai b.2.2.1 hX;have lY:Y<=B.length:=ai b.2.2.2.2 hY;obtain⟨k,rfl⟩:=bS (show x<=X from b.1.x);obtain⟨l,rfl⟩:=bS (show y<=Y from b.1.y);have tv:∀(r:KR A B G₀ H₀)v7 v8 v9,aI (Ph pF (r.n+3)) (.o false [.m .eq (.x 3) (.x 4),.m .eq (.x 5) (.x 6)]) (r.R2 P (some (nI x)) (some (nI (x+k))) (some (nI y)) (some (nI (y+l))) v7 v8 v9) (r.T (W,G,H)) (x=x+k\/y=y+l):=
  λr _ _ _=>iX (lq (aa rfl) (aa rfl)) λ_=>lq (aa rfl) (aa rfl)
 have wtt:=z6 T;have wlt:dq W<dq (p::W):=xD (wi p);obtain⟨m,hm⟩:=lC (A:=A) (B:=B) (aL x k) (aL y l);by_cases e:x=x+k\/y=y+l
 ·obtain⟨m',n',h3,h4,h5⟩:=h2.mark;have:=h3.edge e;refine⟨(W,cU G x k,cU H y l),⟨n',h5,λd=>by have t2_:=hn d;exact au [_,_,_,_,_,_,_,_,_,_] [] (.ln .v0 .v1) 1 [(1,.en (.a .v0 .v2) (.a .v3 (.a .v4 .v5))),(-1,.en .v2 (.a .v6 .v7)),(1,.ln .v3 .v1),(1,.ln (.a .v8 .v4) (.a .v6 .v8)),(1,.ln (.a .v9 .v5) (.a .v7 .v9))] rfl h4 this t2_ cW cW⟩,wlt,λr j Q q=>DZ r tr j Q (dF (tv r _ _ _) e ?_)⟩;have lens:G.length<=400/\H.length<=400:=⟨h.lg▸ai (aL ..) hz,h.lh▸ai (df ..) hz⟩
  exact ao (cY (r.on _) rfl) (yP r (h.lg▸lX) (h.lh▸lY) (ai lens.1 (by decide)) (ai lens.2 (by decide)) (ao rfl (q (_,_,_,_,_,_,_) _ (Sub.refl' _))))
 ·obtain⟨held,g1,g2,g3,g4,run⟩:=R0 hz hA hB lX lY hm;have lo:∀(r:KR A B G₀ H₀)j(Q:QO),WS (Ph pF (r.n+3)) (.ite (.m .eq (.x 7) (.lst false []))
    [.ex (.h (.x 0) 30 [.tup [.x 3,.x 4,.x 5,.x 6]])]
    [.for (.tup [8,9]) (.seq (.x 7)) tj,.ex (.bm (.x 2) .append [.tup [.x 3,.x 4,.x 5,.x 6]])]) (r.R2 P (some (nI x)) (some (nI (x+k))) (some (nI y)) (some (nI (y+l))) (some (.list (held.map de))) j.2.2.2.2.2.1 j.2.2.2.2.2.2) (r.T (W,G,H)) Q->az (Ph pF (r.n+3)) w9 (r.R3 P j) (r.T (p::W,G,H)) Q:=λr j Q q=>
   DZ r tr j Q (bH (tv r _ _ _) e (run (r.run (r.n+2) (W,G,H)) _ _ rfl (λQ q=>jq (aa rfl) (aa rfl) (aa rfl) (aa rfl) Q q) (iY (cE pF _) q)))
  by_cases c:held=[]
  ·subst c;refine hE (yn (A:=A) (B:=B) (G₀:=G) (H₀:=H) (P:=(x,x+k,y,y+l)) lX lY hz h.lg h.lh b.1 hm) λG' H' L runF=>?_;refine cp (L.in h2) λm' n' u1 u2 u3=>?_;have:=u1.uniq hm;refine⟨(W,G',H'),⟨n',u3,λd=>by have t4_:=hn d;exact au [_,_,_,_,_] [] (.ln .v0 .v1) 1 [(1,.en (.a .v0 .v2) (.a .v3 .v4)),(-1,.en .v2 .v4),(1,.ln .v3 .v1)] rfl u2 this t4_⟩,wlt,λr j Q q=>lo r j Q (dF (Dy (aa rfl)) rfl ?_)⟩;refine ao (cY (r.on _) rfl) (runF r.n _ r.s r.hA r.hB r.sheet _ (ao rfl ?_));rw[r.marked];exact q (_,_,_,_,_,_,_) _ (Sub.refl' _)
  ·have hk:0<k:=pz λz=>e (.inl (by rw[z];rfl));have hp:wt (x,x+k,y,y+l)=2*(k+l)-1:=by
    have z:=tB (n:=x+k-x+(y+l-y)) (by rw[cD];exact K0 hk _);have z:wt (x,x+k,y,y+l)+1=2*(x+k-x+(y+l-y)):=z;rw[cD,cD]at z;rw[<-z];rfl
   have hw':wt p+dq W<=wt P:=hw;have hlen:0<held.length:=mx.2 c;obtain⟨x',y',W',⟨⟨n₁,m₁,mi,lm,hn1⟩,_,hwt1⟩,runL⟩:=NT (nd:=nd A B) (D:=D) (bd:=dq W+2*(k+l)) (by exact au [_,_,_,_,_,_,_] [] (.ln (.a .v0 (.m 2 (.a .v1 .v2))) (.k 901)) 1 [(1,.ln .v3 (.k 900)),(1,.ln .v4 .v5),(-1,.en .v4 .v6),(1,.ln (.a .v5 .v0) .v3),(1,.ln (.m 2 (.a .v1 .v2)) (.a .v6 .k1))] rfl hwt wtt hp hw' cW) g1 g2 (x:=x) (y:=y) (W:=W) ⟨⟨n,m,h2,hm,λd=>by
    have t5_:=hn d;have t6_:=g4 d;rw[cD,cD];exact au [_,_,_,_,_,_,_] [] (.ln (.a .v0 (.a .v1 .v2)) (.a (.a .v3 .v4) (.m 2 .v5))) 1 [(1,.ln .v0 .v3),(1,.ln (.a .v1 .v2) (.a .v4 (.m 2 .v6))),(2,.ln .v6 (.a .v5 .k0))] rfl t5_ t6_ cW⟩,g3,by rw[cD,cD];exact aC _⟩
   have bl:=mi.j.top.1;have le:=lm.2 _ (aD.edits bl.x bl.y);have wl:=wC (x',x+k,y',y+l)
   dsimp only at wl le
   have hW:W'.length<1000:=bC (vP W') (by exact au [_,_,_,_,_,_,_,_,_,_,_] [] (.tn .v0 (.k 1000)) 1 [(1,.ln .v1 (.k 900)),(1,.ln .v2 .v3),(-1,.en .v2 .v4),(1,.ln (.a .v3 .v5) .v1),(1,.ln (.a (.a .v0 (.m 2 (.a .v6 .v7))) (.m 3 .v8)) (.a .v5 (.m 2 (.a .v9 (.v 10))))),(1,.ln (.m 2 (.a .v9 (.v 10))) (.a .v4 .k1))] rfl hwt wtt hp hw' hwt1 cW);refine⟨((x',x+k,y',y+l)::W',G,H),⟨n₁,mi,λd=>by have:=hn1 d;exact au [_,_,_,_,_,_,_] [] (.ln .v0 .v1) 1 [(1,.ln .v2 (.a .v3 .v4)),(1,.ln (.a .v0 (.a .v4 .v3)) (.a (.a .v1 .v2) (.m 2 .v5))),(2,.en (.a .v5 .v6) .v6)] rfl le this (aZ (au [_] [] (.ln .v0 .v0) 1 [] rfl))⟩,?_,λr j Q q=>lo r j Q (bH (Dy (aa rfl)) (λz=>c (xM.1 z)) (aO (oc (aa rfl) (runL r _ (j.2.2.2.2.2.1,j.2.2.2.2.2.2) _ λj'=>?_))))⟩
   ·show wt _+dq W'<wt p+dq W;exact au [_,_,_,_,_,_,_,_,_,_,_] [] (.tn (.a .v0 .v1) (.a .v2 .v3)) 1 [(1,.ln .v4 .v2),(-1,.en .v4 .v5),(3,.tn .k0 .v6),(1,.ln (.a (.a .v1 (.m 2 (.a .v7 .v8))) (.m 3 .v6)) (.a .v3 (.m 2 (.a .v9 (.v 10))))),(1,.ln .v0 (.a (.m 2 (.a .v7 .v8)) .k1)),(1,.ln (.m 2 (.a .v9 (.v 10))) (.a .v5 .k1))] rfl wtt hp hlen hwt1 wl cW
   ·exact push r (p:=(x',x+k,y',y+l)) rfl (jq (aa rfl) (aa rfl) (aa rfl) (aa rfl)) hW (q (_,_,_,_,_,_,_) _ (Sub.refl' _))
end
end
section
section
variable{A B:List Int}{G₀ H₀:List Bool}{P:Pt}{D:Nat}
theorem Fl(hX:P.2.1<=A.length)(hY:P.2.2.2<=B.length)(hz:A.length+B.length<=400):wt P<=900:=by
 have h1:P.2.1-P.1<=A.length:=ai (ez ..) hX;have h2:P.2.2.2-P.2.2.1<=B.length:=ai (ez ..) hY;exact ai (AL _) (by exact au [_,_,_,_] [] (.ln (.a (.m 2 (.a .v0 .v1)) .k1) (.k 900)) 1 [(2,.ln (.a .v2 .v3) (.k 400)),(2,.ln .v0 .v2),(2,.ln .v1 .v3)] rfl hz h1 h2)
theorem Fc{Z:ae}{s:Sh}{a:Nat}{l:List V}{G H:List Bool}(hs:gI s G₀ H₀ Z)(ha:Z a=none):Sub (ak (ak Z s.g (.list (vB G))) s.h (.list (vB H))) (ak (ak (ak Z s.g (.list (vB G))) s.h (.list (vB H))) a (.list l)):=λz m h=>(aA λe=>by
 have ng:a≠s.g:=λz=>by rw[z,hs.at_g]at ha;cases ha
 have nh:a≠s.h:=λz=>by rw[z,hs.at_h]at ha;cases ha
 rw[e,aA nh,aA ng,ha]at h;exact nn h).trans h
theorem LJ(hX:P.2.1<=A.length)(hY:P.2.2.2<=B.length)(hA4:A.length<=4)(hB6:B.length<=6)(hA:G₀.length=A.length)(hB:H₀.length=B.length)(b:oz G₀ H₀ P)(hD:dO A B P.1 P.2.1 P.2.2.1 P.2.2.2 D) :
  ∃G H n,oI A B G₀ H₀ P G H n/\(nd A B->n<=D)/\∀m Z(s:Sh),s.A=A->s.B=B->gI s G₀ H₀ Z->∀Q:QV,Q .none (ak (ak Z s.g (.list (vB G))) s.h (.list (vB H)))->Ph pF (m+4) 41 [.inst 2 s.d,dG P] Z Q:=by
 have hz:A.length+B.length<=400:=ai (fh hA4 hB6) (by decide);have hwt:=Fl hX hY hz;obtain⟨⟨W,G,H⟩,⟨⟨n,hI,hn⟩,_⟩,ht,run⟩:=fj (C:=λr:KR A B G₀ H₀=>Ph pF (r.n+3)) (c:=.m .ne (.x 2) (.lst false [])) (b:=w9) (λr(_:KS)(j:qJ)=>r.R3 P j) (λr s=>r.T s)
  (λs=>(∃n,MI A B G₀ H₀ P s.1 s.2.1 s.2.2 n/\(nd A B->n<=D))/\dq s.1<=wt P) (λs=>dq s.1) (λs=>s.1.reverse.map dG≠[]) (λs hs r j=>p7 (aa rfl) (r.top s))
  (λs=>oX (λW G H=>lz (λhs ht=>absurd rfl ht) (λp W hs _=>ar hs.1 λn hI hn=>
    cm (LK hX hY hz hA4 hB6 hwt hI hn hs.2) λs' h1 h2 h3=>⟨s',⟨h1,ai (cv h2) hs.2⟩,h2,h3⟩) W) s) ([P],G₀,H₀) ⟨⟨D,MI.first hA hB b hD,λ_=>aC _⟩,aC _⟩
 have hW:W=[]:=by
  cases W with
  |nil=>rfl
  |cons p W=>exact absurd (λz=>by rw[pH]at z;exact absurd z (Jf _ (rI _ _))) ht
 subst hW;refine⟨G,H,n,hI.laid,hn,λm Z s sA sB hs Q q=>bN rfl λa ha=>?_⟩;have z:=run ⟨m,Z,s,a,sA,sB,hs,ha⟩ (none,none,none,none,none,none,none) (λo J Z=>∃v' Z'',Wk (jc o) Z v' Z''/\Q v' Z'') λj=>j9 (Fc hs ha) q;rw[<-KR.init]at z;exact iY (cE pF _) z
theorem E4{a b:List Ln}(ha:a.length<=4)(hb:b.length<=6):∃cs G H c d,gq a b cs G H c d/\(nd (nA a b) (nB a b)->∀D,dO (nA a b) (nB a b) 0 a.length 0 b.length D->c+d=D)/\∀n Z(Q:QV),Q (.list (cs.map aV)) Z->Ph pF (n+5) 4 [.list (vY a),.list (vY b)] Z Q:=by
 have hz:a.length+b.length<=400:=ai (fh ha hb) (by decide);refine bA (lC (A:=nA a b) (B:=nB a b) (bJ a.length) (bJ b.length)) λD hD=>?_;refine kR (LJ (A:=nA a b) (B:=nB a b) (P:=(0,a.length,0,b.length)) (dA (dY a b).symm) (dA (d7 a b).symm) (by rw[dY];exact ha) (by rw[d7];exact hb) ((jt _).trans (dY a b).symm) ((jt _).trans (d7 a b).symm) yD hD) λG H n L hn run=>?_;obtain⟨cs,c,d,rfl,T,chg⟩:=Ap hz L;refine⟨cs,G,H,c,d,T,λw D' hD'=>?_,λn Z Q q=>bN rfl (GN (K:=4) rfl (bC hz (by decide)) (by decide) run chg q)⟩;rw[<-hD.uniq hD'];exact cX (hn w) (hD.2 _ (T.lay.way ((dY a b).trans T.lg.symm) ((d7 a b).trans T.lh.symm)))
end
end
section
noncomputable def dm(A:List Int)(x:Nat):Nat->Int->List Nat
 |0,_=>[]
 |k+1,v=>if v=A.getD (x+k) 0 then dm A x k v++[x+k] else dm A x k v
theorem SU{A:List Int}{x p:Nat}{v:Int}:∀{k:Nat},p∈dm A x k v->x<=p/\p<x+k/\A.getD p 0=v:=@λrr=>ni (@λh=>nm h)
 (@λk ih h=>by
  unfold dm at h;by_cases c:v=A.getD (x+k) 0
  ·rw[if_pos c]at h;rcases gx.1 h with h|h
   ·have z:=ih h;exact⟨z.1,eM z.2.1,z.2.2⟩
   ·cases cJ.1 h;exact⟨aL ..,bu _,c.symm⟩
  ·rw[if_neg c]at h;have z:=ih h;exact⟨z.1,eM z.2.1,z.2.2⟩) rr
theorem Gx{A:List Int}{x p:Nat}(hx:x<=p):∀{k:Nat},p<x+k->dm A x k (A.getD p 0)≠[]:=@λrr=>ni (@λh=>absurd h (bc.2 hx))
 (@λk ih h=>by
  unfold dm;by_cases c:A.getD p 0=A.getD (x+k) 0
  ·rw[if_pos c];exact λe=>(nc (rg.1 e).2)
  ·rw[if_neg c];exact ih ((ka.1 h).resolve_right λe=>c (by rw[e];rfl))) rr
theorem Qr{A:List Int}{x:Nat}{v:Int}:∀k:Nat,(dm A x k v).length<=k:=λrr=>ni (aC _)
 (λk ih=>by
  unfold dm;by_cases c:v=A.getD (x+k) 0
  ·rw[if_pos c,bB];exact cK (ih)
  ·rw[if_neg c];exact fy (ih)) rr
structure ju(rows:Int->List Nat)(U:ae)(d m:Nat)(f:Int->Option V)(loc:Int->Nat)(Z:ae):Prop where
 hd:Z d=some (.dI m f)
 hf:∀v,rows v≠[]->f v=some (.ref (loc v))
 hn:∀v,rows v=[]->f v=none
 hl:∀v,rows v≠[]->Z (loc v)=some (.list ((rows v).map nI))
 inj:∀v w,rows v≠[]->rows w≠[]->loc v=loc w->v=w
 sub:Sub U Z
 ud:U d=none
 ul:∀v,rows v≠[]->U (loc v)=none
section
variable{rows:Int->List Nat}{U Z:ae}{d m:Nat}{f:Int->Option V}{loc:Int->Nat}
theorem ju.ld(h:ju rows U d m f loc Z){v:Int}(n:rows v≠[]):loc v≠d:=kO (h.hl v n) h.hd rfl
theorem ju.old(h:ju rows U d m f loc Z){v:Int}(n:rows v≠[])(p:Nat):ju (λw=>if w=v then rows w++[p] else rows w) U d m f loc (ak Z (loc v) (.list ((rows v++[p]).map nI))):=by
 have e:∀w,(if w=v then rows w++[p] else rows w)≠[]->rows w≠[]:=λw k=>by
  by_cases c:w=v
  ·rw[c];exact n
  ·rw[if_neg c]at k;exact k
 refine⟨(aA (h.ld n).symm).trans h.hd,λw k=>h.hf w (e w k),λw k=>?_,λw k=>?_,λw u k l=>h.inj w u (e w k) (e u l),λz m' k=>?_,h.ud,λw k=>h.ul w (e w k)⟩
 ·by_cases c:w=v
  ·rw[if_pos c]at k;exact(nc (rg.1 k).2)
  ·rw[if_neg c]at k;exact h.hn w k
 ·by_cases c:w=v
  ·subst c;rw[if_pos rfl,aP]
  ·rw[if_neg c,aA λz=>c (h.inj w v (e w k) n z)];exact h.hl w (e w k)
 ·exact(aA λz'=>by rw[z',h.ul v n]at k;exact nn k).trans (h.sub z m' k)
theorem ju.new(h:ju rows U d m f loc Z){v:Int}(n:rows v=[])(p:Nat){c:Nat}(hc:Z c=none) :
  ju (λw=>if w=v then rows w++[p] else rows w) U d (m+1) (λj=>if j=v then some (.ref c) else f j) (λw=>if w=v then c else loc w) (ak (ak (ak Z c (.list [])) d (.dI (m+1) λj=>if j=v then some (.ref c) else f j)) c (.list [nI p])):=by
 have cd:c≠d:=λe=>by rw[e,h.hd]at hc;cases hc
 have cl:∀w,rows w≠[]->loc w≠c:=λw k e=>by have:=h.hl w k;rw[e,hc]at this;exact nn this
 have uc:U c=none:=by
  cases e:U c with
  |none=>rfl
  |some m'=>have:=h.sub c m' e;rw[hc]at this;exact nn this
 have e:∀w,w≠v->(if w=v then rows w++[p] else rows w)≠[]->rows w≠[]:=λw c k=>by rw[if_neg c]at k;exact k
 refine⟨(aA cd.symm).trans (aP ..),λw k=>?_,λw k=>?_,λw k=>?_,λw u k l z=>?_,λz m' k=>?_,h.ud,λw k=>?_⟩
 ·by_cases q:w=v
  ·rw[if_pos q,if_pos q]
  ·rw[if_neg q,if_neg q];exact h.hf w (e w q k)
 ·by_cases q:w=v
  ·rw[if_pos q]at k;exact(nc (rg.1 k).2)
  ·rw[if_neg q]at k ⊢;exact h.hn w k
 ·by_cases q:w=v
  ·subst q;rw[if_pos rfl,if_pos rfl,aP,n];rfl
  ·rw[if_neg q,if_neg q,aA (cl w (e w q k)),aA (h.ld (e w q k)),aA (cl w (e w q k))];exact h.hl w (e w q k)
 ·by_cases q:w=v
  ·by_cases t:u=v
   ·rw[q,t]
   ·rw[if_pos q,if_neg t]at z;exact absurd z.symm (cl u (e u t l))
  ·by_cases t:u=v
   ·rw[if_neg q,if_pos t]at z;exact absurd z (cl w (e w q k))
   ·rw[if_neg q,if_neg t]at z;exact h.inj w u (e w q k) (e u t l) z
 ·have z1:z≠c:=λz'=>by rw[z',uc]at k;exact nn k
  exact(aA z1).trans ((aA λz'=>by rw[z',h.ud]at k;exact nn k).trans ((aA z1).trans (h.sub z m' k)))
 ·by_cases q:w=v
  ·rw[if_pos q];exact uc
  ·rw[if_neg q];exact h.ul w (e w q k)
end
end
section
section
variable{A B:List Int}{x k y l:Nat}
noncomputable def rR(r:dQ A B)(d x k y l:Nat)(mo:Int)(j:Option V×Option V):aj:=
 [some (.inst 2 r.s.d),some (pt x (x+k) y (y+l)),some (.int mo),some (nI x),some (nI (x+k)),some (nI y),some (nI (y+l)),some (.ref d),j.1,j.2,none,none,none,none,none,none,none]
noncomputable abbrev VC:List S:=[.s (.v 9) (.bm (.x 7) .setdefault [.i (.a (.x 0) 7) (.x 8),.lst true []]),.ex (.bm (.x 9) .append [.x 8])]
theorem DH{Z:ae}{d m:Nat}{f:Int->Option V}(h:Z d=some (.dI m f)):mN Z d=true:=by unfold mN;rw[h]
theorem NN(r:dQ A B){d q m:Nat}{f:Int->Option V}{loc:Int->Nat}{Z:ae}(hX:x+q<A.length)(hm:m<=q)(hq:q<1000)(h:ju (dm A x q) r.Z d m f loc Z)(mo:Int){j:Option V}{Q:QO}
  (qq:∀(a:Option V)(row:V)Z' Z'' m f loc,Sub Z' Z''->m<=q+1->ju (dm A x (q+1)) r.Z d m f loc Z'->Q .next (rR r d x k y l mo (a,some row)) Z''):az (Ph pF r.n) VC (rR r d x k y l mo (some (nI (x+q)),j)) Z Q:=by
 generalize hv:A.getD (x+q) 0=v
 have rs:dm A x (q+1)=λw=>if w=v then dm A x q w++[x+q] else dm A x q w:=by rw[<-hv];rfl
 have ev:Ev (Ph pF r.n) (.i (.a (.x 0) 7) (.x 8)) (rR r d x k y l mo (some (nI (x+q)),j)) Z (.int v):=
  bW (br (aa rfl) ((oF (h.sub _ _ r.on)).trans (congrArg (λl=>some (V.list (vI l))) r.hA))) (aa rfl) (by rw[<-hv,oe hX];exact p9 (bL hX))
 refine⟨DH h.hd,ev _ λc hc=>?_⟩;have cd:d≠c:=λe=>by rw[<-e,h.hd]at hc;cases hc
 have hd:ak Z c (.list []) d=some (.dI m f):=(aA cd).trans h.hd;have ri:AZ (ak Z c (.list [])) (.ref d)=some (d,m,f):=by show((ak Z c (.list [])) d).bind _ = _;rw[hd];rfl
 refine gj (ao ri (ao rfl (ao (a:=v) rfl ⟨bC hm (fL hq (by decide)),?_⟩)));by_cases n:dm A x q v=[]
 ·have w:=h.new n (x+q) hc;rw[<-rs]at w;show match f v with|some x=>_|none=>_
  rw[h.hn v n];have e:ak (ak Z c (.list [])) d (.dI (m+1) λj=>if j=v then some (.ref c) else f j) c=some (.list []):=(aA cd.symm).trans (aP ..);refine⟨i7 e rfl,aa (i:=8) (v:=nI (x+q)) rfl _ (gj (ky e (by decide) (ao rfl ?_)))⟩;exact qq (some (nI (x+q))) (.ref c) _ _ _ _ _ (Sub.refl' _) (cK hm) w
 ·have w:=h.old n (x+q);rw[<-rs]at w;show match f v with|some x=>_|none=>_
  rw[h.hf v n];have lc:loc v≠c:=λe=>by have:=h.hl v n;rw[e,hc]at this;exact nn this
  have e:ak Z c (.list []) (loc v)=some (.list ((dm A x q v).map nI)):=(aA lc).trans (h.hl v n);refine⟨i7 e rfl,aa (i:=8) (v:=nI (x+q)) rfl _ (gj (ky e ?_ (ao rfl ?_)))⟩
  ·rw[aY];exact bC (Qr q) (fL hq (by decide))
  ·have z:=qq (some (nI (x+q))) (.ref (loc v)) _ (ak (ak Z c (.list [])) (loc v) (.list ((dm A x q v).map nI++[nI (x+q)]))) _ _ _ (λz m' k=>?_) (fy hm) w
   ·exact z
   ·by_cases zl:z=loc v
    ·rw[zl,aP]at k ⊢;rw[dy]at k;exact k
    ·rw[aA zl]at k ⊢;exact(aA λzc=>by rw[zc,hc]at k;exact nn k).trans k
end
end
section
structure SR(A B:List Int)(x k:Nat)where
 r:dQ A B
 d:Nat
 m:Nat
 f:Int->Option V
 loc:Int->Nat
 Z:ae
 h:ju (dm A x k) r.Z d m f loc Z
section
variable{A B:List Int}{x k:Nat}
section
variable(i:SR A B x k){C:ax}{J:aj}{e g u:E}{p:Nat}{v:Int}
theorem SR.on:jY i.r.s i.Z:=i.h.sub _ _ i.r.on
theorem SR.a(h:Ev C e J i.Z (.inst 2 i.r.s.d)):Ev C (.a e 7) J i.Z (.list (vI A)):=br h ((oF i.on).trans (congrArg (λl=>some (V.list (vI l))) i.r.hA))
theorem SR.b(h:Ev C e J i.Z (.inst 2 i.r.s.d)):Ev C (.a e 8) J i.Z (.list (vI B)):=br h ((tw i.on).trans (congrArg (λl=>some (V.list (vI l))) i.r.hB))
theorem SR.len(hb:Ev C g J i.Z (.ref i.d))(hu:Ev C u J i.Z (.int v))(n:dm A x k v≠[]):Ev C (.bi .len [.i g u]) J i.Z (nI (dm A x k v).length):=by
 have e:eQ i.Z (.ref i.d) (.int v)=some (.ref (i.loc v)):=by
  have a:cc i.Z i.d=none:=by unfold cc;rw[i.h.hd];rfl
  have c:dD i.Z i.d (.int v)=some (i.f v):=by unfold dD;rw[i.h.hd];rfl
  show(match cc i.Z i.d with|some l=>_|none=>(dD i.Z i.d (.int v)).bind λo=>o) = _;rw[a,c,i.h.hf v n];rfl
 have z:=qk (bW hb hu e) (i.h.hl v n);rw[aY]at z;exact z
end
theorem mM{C:ax}{J:aj}{Z:ae}{a u:E}{p:Nat}{L:List Int}(ha:Ev C a J Z (.list (vI L)))(hu:Ev C u J Z (nI p))(hp:p<L.length):Ev C (.i a u) J Z (.int (L.getD p 0)):=
 bW ha hu (by rw[oe hp];exact p9 (bL hp))
theorem eG{C:ax}{e:E}{v:V}{rest:List S}{J:aj}{Z:ae}{Q:QO}(h:Ev C e J Z v)(q:Q (.ret v) J Z):az C (.ret e::rest) J Z Q:=h _ q
theorem Un{y l at' far:Nat}(mo:Int)(hX:x+k<=A.length)(hY:y+l<=B.length)(h1:x<=at')(h2:at'<x+k)(h3:y<=far)(h4:far<y+l) :
  ∃t:Bool,∀(i:SR A B x k)n(Q:QV),Q (.bool t) i.Z->Ph pF (n+1) 43 [.inst 2 i.r.s.d,nI at',nI far,nI x,nI y,.ref i.d,.int mo] i.Z Q:=by
 have ps{p:Nat}(h:0<p):p-1<p:=nP h mD;have tv:∀(i:SR A B x k)n,aI (Ph pF n) (.o false [.m .eq (.x 1) (.x 3),.m .eq (.x 2) (.x 4),.m .ne (.i (.a (.x 0) 7) (.b .sub (.x 1) (.c (.int 1)))) (.i (.a (.x 0) 8) (.b .sub (.x 2) (.c (.int 1))))]) [some (.inst 2 i.r.s.d),some (nI at'),some (nI far),some (nI x),some (nI y),some (.ref i.d),some (.int mo)] i.Z
   (at'=x\/far=y\/A.getD (at'-1) 0≠B.getD (far-1) 0):=λi n=>vx (lq (aa rfl) (aa rfl)) (λ_=>lq (aa rfl) (aa rfl)) λe1 e2=>by
  have p1:0<at':=jK (hM h1 (nY e1));have p2:0<far:=jK (hM h3 (nY e2));exact qv (mM (i.a (aa rfl)) (jP p1 (aa rfl)) (fL (ps p1) (aQ h2 hX))) (mM (i.b (aa rfl)) (jP p2 (aa rfl)) (fL (ps p2) (aQ h4 hY)))
 by_cases c:at'=x\/far=y\/A.getD (at'-1) 0≠B.getD (far-1) 0
 ·exact⟨false,λi n Q q=>bN rfl (aO (dF (tv i n) c (bX q)))⟩
 ·have ne:at'≠x:=λe=>c (.inl e);have p1:0<at':=jK (hM h1 (nY ne));have p2:=fL (ps p1) h2;have n:dm A x k (A.getD (at'-1) 0)≠[]:=Gx (Nat.le_sub_one_of_lt (hM h1 (nY ne))) p2;refine⟨decide (((dm A x k (A.getD (at'-1) 0)).length:Int)<=mo),λi n' Q q=>bN rfl (aO (bH (tv i n') c ?_))⟩;exact eG (dj (op:=.le) (i.len (aa rfl) (mM (i.a (aa rfl)) (jP p1 (aa rfl)) (aQ p2 hX)) n) (aa (v:=.int mo) rfl) rfl) (bX q)
end
end
section
abbrev jH:=Option (Nat×Nat×Nat×Nat)
noncomputable def bV:jH->V
 |none=>.none
 |some (r,z,a,f)=>.tup [nI r,.int (-(z:Int)),nI a,nI f]
def lK(A B:List Int)(x k y l:Nat):jH->Prop
 |none=>True
 |some (_,z,a,f)=>0<z/\x<=a/\a+z<=x+k/\y<=f/\f+z<=y+l/\∀t,t<z->A[a+t]?=B[f+t]?
section
variable{A B:List Int}{x k y l:Nat}
abbrev tJ:=Option V×Option V×Option V
noncomputable def SR.R(i:SR A B x k)(y l:Nat)(mo:Int)(v8:Option V)(row:V)(b:jH)(al:Bool)(far at':Option V)(j:tJ):aj:=
 [some (.inst 2 i.r.s.d),some (pt x (x+k) y (y+l)),some (.int mo),some (nI x),some (nI (x+k)),some (nI y),some (nI (y+l)),some (.ref i.d),v8,some row,some (bV b),some (.bool al),far,at',j.1,j.2.1,j.2.2]
noncomputable def fT(u v:Nat):Nat:=if v<u then v else u
theorem vT{C:ax}{J:aj}{Z:ae}{a b:E}{u v:Nat}(h:Ev C a J Z (nI u))(k:Ev C b J Z (nI v)):Ev C (.bi .min [a,b]) J Z (nI (fT u v)):=λQ q=>h _ (k _ (show Q (V.int (if (v:Int)<u then(v:Int) else(u:Int))) Z by
 have e:(if (v:Int)<u then(v:Int) else(u:Int))=(fT u v:Nat):=by
  unfold fT;by_cases c:v<u
  ·rw[if_pos c,if_pos (dN.2 c)]
  ·rw[if_neg c,if_neg λz=>c (dN.1 z)]
 rw[e];exact q))
noncomputable abbrev Im:S:=.whl (.o true [.m .lt (.b .add (.x 13) (.x 14)) (.x 4),.m .lt (.b .add (.x 12) (.x 14)) (.x 6),.m .eq (.i (.a (.x 0) 7) (.b .add (.x 13) (.x 14))) (.i (.a (.x 0) 8) (.b .add (.x 12) (.x 14)))])
     [.s (.v 15) (.bi .min [.x 15,.bi .len [.i (.x 7) (.i (.a (.x 0) 7) (.b .add (.x 13) (.x 14)))]]),.aug (.v 14) .add (.c (.int 1))]
theorem Oy(hX:x+k<=A.length)(hY:y+l<=B.length){at' far n0:Nat}(mo:Int)(b:jH)(al:Bool)(h1:x<=at')(h2:at'<x+k)(h4:far<y+l)(he:A[at']?=B[far]?) :
  ∃z rar,0<z/\at'+z<=x+k/\far+z<=y+l/\(∀t,t<z->A[at'+t]?=B[far+t]?)/\∀(i:SR A B x k)v8(row:V)v16(Q:QO),Q .next (i.R y l mo v8 row b al (some (nI far)) (some (nI at')) (some (nI z),some (nI rar),v16)) i.Z ->
   WS (Ph pF (i.r.n+1)) Im (i.R y l mo v8 row b al (some (nI far)) (some (nI at')) (some (nI 0),some (nI n0),v16)) i.Z Q:=by
 obtain⟨⟨z,rar⟩,⟨a1,a2,a3⟩,ht,run⟩:=fj (C:=λi:SR A B x k×Option V×V×Option V=>Ph pF (i.1.r.n+1)) (c:=.o true [.m .lt (.b .add (.x 13) (.x 14)) (.x 4),.m .lt (.b .add (.x 12) (.x 14)) (.x 6),.m .eq (.i (.a (.x 0) 7) (.b .add (.x 13) (.x 14))) (.i (.a (.x 0) 8) (.b .add (.x 12) (.x 14)))])
  (b:=[.s (.v 15) (.bi .min [.x 15,.bi .len [.i (.x 7) (.i (.a (.x 0) 7) (.b .add (.x 13) (.x 14)))]]),.aug (.v 14) .add (.c (.int 1))])
  (λi(s:Nat×Nat)(_:Unit)=>i.1.R y l mo i.2.1 i.2.2.1 b al (some (nI far)) (some (nI at')) (some (nI s.1),some (nI s.2),i.2.2.2)) (λi _=>i.1.Z)
  (λs=>at'+s.1<=x+k/\far+s.1<=y+l/\∀t,t<s.1->A[at'+t]?=B[far+t]?) (λs=>x+k-(at'+s.1)) (λs=>at'+s.1<x+k/\far+s.1<y+l/\A[at'+s.1]?=B[far+s.1]?)
  (λs hs i _=>nU (eZ (i:=at'+s.1) (bh (aa rfl) (aa rfl) rfl) (aa rfl)) (λ_=>eZ (i:=far+s.1) (bh (aa rfl) (aa rfl) rfl) (aa rfl)) λc1 c2=>
   p8 (i.1.a (aa rfl)) (i.1.b (aa rfl)) (bh (aa rfl) (aa rfl) rfl) (bh (aa rfl) (aa rfl) rfl) (aQ c1 hX) (aQ c2 hY))
  (λs=>q7 (λz rar a c=>g9 a λa1 a2 a3=>g9 c λc1 c2 c3=>⟨(z+1,fT rar (dm A x k (A.getD (at'+z) 0)).length),⟨c1,c2,λt ht=>(ka.1 ht).elim (a3 t) λe=>e▸c3⟩,kf c1 (bu _),λi _ Q q=>
   bM (vT (aa rfl) (i.1.len (aa rfl) (mM (p:=at'+z) (i.1.a (aa rfl)) (bh (aa rfl) (aa rfl) rfl) (aQ c1 hX)) (Gx (ai h1 (aL ..)) c1))) (q () _ (Sub.refl' _))⟩) s)
  (0,n0) ⟨cv h2,cv h4,λt h=>absurd h (dM t)⟩
 refine⟨z,rar,pz λe=>ht ?_,a1,a2,a3,λi v8 row v16 Q q=>run (i,v8,row,v16) () Q λ_=>q⟩;have e:z=0:=e;subst e;exact⟨h2,h4,he⟩
end
end
section
section
variable{A B:List Int}{x k y l:Nat}
noncomputable abbrev Vv:List S:=[.s (.vs [14,15]) (.tup [.c (.int 0),.bi .len [.x 9]]),Im,.s (.v 16) (.tup [.x 15,.neg (.x 14),.x 13,.x 12]),
     .ite (.o false [.m .is (.x 10) (.c .none),.m .lt (.x 16) (.x 10)]) [.s (.v 10) (.x 16)] []]
noncomputable abbrev qz:List S:=[.ite (.not (.h (.x 0) 34 [.x 13,.x 12,.x 3,.x 5,.x 7,.x 2])) Vv []]
theorem Ny{C:ax}{J:aj}{Z:ae}{r z a f:Nat}(b:jH):∃p:Prop,∀(C:ax)(J:aj)(Z:ae),rd J 10=some (bV b)->rd J 16=some (bV (some (r,z,a,f)))->aI C (.o false [.m .is (.x 10) (.c .none),.m .lt (.x 16) (.x 10)]) J Z p:=by
 cases b with
 |none=>exact⟨True\/True,λC J Z h1 h2=>iX (p:=True) ⟨true,by simp,dj (aa h1) Ev.cn rfl⟩ λh=>absurd trivial h⟩
 |some b=>
  obtain⟨r',z',a',f'⟩:=b;refine⟨False\/lD [(r:Int),-(z:Int),(a:Int),(f:Int)] [(r':Int),-(z':Int),(a':Int),(f':Int)]=true,λC J Z h1 h2=>iX ⟨false,by simp,dj (aa h1) Ev.cn rfl⟩ λ_=>⟨_,sD,dj (aa h2) (aa h1) rfl⟩⟩
theorem Wg(hX:x+k<=A.length)(hY:y+l<=B.length){at' far n0:Nat}(mo:Int){b:jH}(al:Bool)(hb:lK A B x k y l b)(h1:x<=at')(h2:at'<x+k)(h3:y<=far)(h4:far<y+l)(he:A[at']?=B[far]?) :
  ∃b',lK A B x k y l b'/\∀(i:SR A B x k)v8(row:V)(j:tJ)(Q:QO),wW i.Z row=some (nI n0)->(∀j,Q .next (i.R y l mo v8 row b' al (some (nI far)) (some (nI at')) j) i.Z) ->
   az (Ph pF (i.r.n+1)) qz (i.R y l mo v8 row b al (some (nI far)) (some (nI at')) j) i.Z Q:=by
 refine bA (Un (A:=A) (B:=B) mo hX hY h1 h2 h3 h4) λt led=>?_;have tv:∀(i:SR A B x k)v8(row:V)(j:tJ),aI (Ph pF (i.r.n+1)) (.not (.h (.x 0) 34 [.x 13,.x 12,.x 3,.x 5,.x 7,.x 2])) (i.R y l mo v8 row b al (some (nI far)) (some (nI at')) j) i.Z (¬t=true):=λi v8 row j=>
  vv ⟨t,sD,λQ q=>ao (cY i.on rfl) (led i i.r.n Q q)⟩
 cases t with
 |true=>exact⟨b,hb,λi v8 row j Q _ q=>aO (bH (tv i v8 row j) (λh=>h rfl) (q j))⟩
 |false=>
  refine o8 (Oy (n0:=n0) hX hY mo b al h1 h2 h4 he) λz rar z0 z1 z2 z3 run=>?_;refine bA (Ny (C:=Ph pF 0) (J:=[]) (Z:=λ_=>none) (r:=rar) (z:=z) (a:=at') (f:=far) b) λp bet=>?_;have go:∀(i:SR A B x k)v8(row:V)(j:tJ)(Q:QO),wW i.Z row=some (nI n0)->WS (Ph pF (i.r.n+1)) (.ite (.o false [.m .is (.x 10) (.c .none),.m .lt (.x 16) (.x 10)]) [.s (.v 10) (.x 16)] []) (i.R y l mo v8 row b al (some (nI far)) (some (nI at')) (some (nI z),some (nI rar),some (bV (some (rar,z,at',far))))) i.Z Q ->
    az (Ph pF (i.r.n+1)) qz (i.R y l mo v8 row b al (some (nI far)) (some (nI at')) j) i.Z Q:=λi v8 row j Q hl q=>
   aO (dF (tv i v8 row j) (λh=>bn h) (fM (u:=nI 0) (v:=nI n0) Ev.cn (λQ q=>ao hl q) rfl (aO (run i v8 row j.2.2 _ (bM (jq (aa rfl) (λQ q=>by exact q) (aa rfl) (aa rfl)) (iY (cE pF _) (vg (cE pF _) _ _ _ _ _ (λo J Z w=>by
    cases o with
    |next=>exact w
    |ret v=>exact w) q)))))))
  by_cases c:p
  ·exact⟨some (rar,z,at',far),⟨z0,h1,z1,h3,z2,z3⟩,λi v8 row j Q hl q=>go i v8 row j Q hl (dF (bet _ _ _ rfl rfl) c (q _))⟩
  ·exact⟨b,hb,λi v8 row j Q hl q=>go i v8 row j Q hl (bH (bet _ _ _ rfl rfl) c (q _))⟩
end
end
section
section
variable{A B:List Int}{x k y l:Nat}
theorem yG{C:ax}{J:aj}{Z:ae}{l:List V}{e:E}(h:Ev C e J Z (.list l)):aI C (.m .ne e (.lst false [])) J Z (l≠[]):=by
 refine⟨!l.isEmpty,by cases l<;>simp,dj h (λQ q=>q) ?_⟩;show(gO 4 (.list l) (.list [])).map _ = _;cases l<;>rfl
theorem FL{C:ax}{J:aj}{Z:ae}{a b c:E}{r m:Nat}{f:Int->Option V}{v:Int}{d:V}(h:Z r=some (.dI m f))(ha:Ev C a J Z (.ref r))(hb:Ev C b J Z (.int v))(hc:Ev C c J Z d):Ev C (.bm a .get [b,c]) J Z ((f v).getD d):=λQ q=>by
 have e2:wo Z (.ref r) (.int v) d=some ((f v).getD d):=by
  have c:dD Z r (.int v)=some (f v):=by unfold dD;rw[h];rfl
  show(dD Z r (.int v)).map _ = _;rw[c];rfl
 exact ha _ ⟨DH h,hb _ (hc _ (gj (ao e2 q)))⟩
noncomputable abbrev Iz:List S:=[.s (.v 9) (.bm (.x 7) .get [.i (.a (.x 0) 8) (.x 12),.lst false []]),
   .s (.v 11) (.o false [.x 11,.m .ne (.x 9) (.lst false [])]),
   .ite (.m .gt (.bi .len [.x 9]) (.x 2))
   [.s (.v 9) (.lst false [])]
   [],
   .for (.v 13) (.seq (.x 9)) qz]
theorem Qq(hX:x+k<=A.length)(hY:y+l<=B.length){far:Nat}(mo:Int){b:jH}(al:Bool)(hb:lK A B x k y l b)(h3:y<=far)(h4:far<y+l)(hn:dm A x k (B.getD far 0)≠[]) :
  ∃b',lK A B x k y l b'/\∀(i:SR A B x k)v8(j:Option V×tJ)(Q:QO),(∀j:Option V×tJ,Q .next (i.R y l mo v8 (.ref (i.loc (B.getD far 0))) b' al (some (nI far)) j.1 j.2) i.Z) ->
   WS (Ph pF (i.r.n+1)) (.for (.v 13) (.seq (.x 9)) qz) (i.R y l mo v8 (.ref (i.loc (B.getD far 0))) b al (some (nI far)) j.1 j.2) i.Z Q:=by
 obtain⟨b',h1,run⟩:=Ac (C:=λi:SR A B x k×Option V=>Ph pF (i.1.r.n+1)) (b:=qz) (t:=.v 13) ((dm A x k (B.getD far 0)).map nI) (λi=>.live (i.1.loc (B.getD far 0))) (λi(b:jH)(j:Option V×tJ)=>i.1.R y l mo i.2 (.ref (i.1.loc (B.getD far 0))) b al (some (nI far)) j.1 j.2) (λi _=>i.1.Z) (λ_ b=>lK A B x k y l b)
  (λi _ k=>by show(cc i.1.Z _).map _ = _;rw[gV (i.1.h.hl _ hn)];rfl)
  (λq v b hv hb=>by
   rw[cO]at hv;cases w:(dm A x k (B.getD far 0))[q]? with
   |none=>rw[w]at hv;exact nn hv
   |some p=>
    rw[w]at hv;injection hv with hv;subst hv
    have z:=SU (BF w);refine ar (Wg (n0:=(dm A x k (B.getD far 0)).length) hX hY mo al hb z.1 z.2.1 h3 h4 ((vA (aQ z.2.1 hX) (aQ h4 hY)).1 z.2.2)) λb' g1 g2=>?_;exact⟨b',g1,λi j Q q=>g2 i.1 i.2 _ j.2 Q (by show(lS i.1.Z _).map _ = _;rw[yS (i.1.h.hl _ hn)];show some (V.int (((dm A x k (B.getD far 0)).map nI).length:Int)) = _;rw[aY]) λj'=>q (some (nI p),j') _ (Sub.refl' _)⟩) b hb
 refine⟨b',h1,λi v8 j Q q=>?_⟩;have e:wV i.Z (.ref (i.loc (B.getD far 0)))=some (.live (i.loc (B.getD far 0))):=by show(cc i.Z _).map _ = _;rw[gV (i.h.hl _ hn)];rfl
 exact ao e (run (i,v8) j Q q)
theorem Pf(hX:x+k<=A.length)(hY:y+l<=B.length){far:Nat}(mo:Int){b:jH}(al:Bool)(hb:lK A B x k y l b)(h3:y<=far)(h4:far<y+l) :
  ∃b' al',lK A B x k y l b'/\∀(i:SR A B x k)v8(row:V)(j:Option V×tJ)(Q:QO),(∀(row:V)(j:Option V×tJ),Q .next (i.R y l mo v8 row b' al' (some (nI far)) j.1 j.2) i.Z) ->
   az (Ph pF (i.r.n+1)) Iz (i.R y l mo v8 row b al (some (nI far)) j.1 j.2) i.Z Q:=by
 have hB:far<B.length:=aQ h4 hY;have none_:∀(i:SR A B x k)v8 b al(j:Option V×tJ)(Q:QO),(∀(row:V)(j:Option V×tJ),Q .next (i.R y l mo v8 row b al (some (nI far)) j.1 j.2) i.Z)->az (Ph pF (i.r.n+1)) [.for (.v 13) (.seq (.x 9)) qz] (i.R y l mo v8 (.list []) b al (some (nI far)) j.1 j.2) i.Z Q:=λi v8 b al j Q q=>
  aO (oc (l:=[]) (aa rfl) ⟨1,ao rfl (q _ j)⟩)
 by_cases n:dm A x k (B.getD far 0)=[]
 ·refine⟨b,al||false,hb,λi v8 row j Q q=>bM (FL i.h.hd (aa rfl) (mM (i.b (aa rfl)) (aa rfl) hB) (λQ q=>by exact q)) ?_⟩;rw[i.h.hn _ n];have e2:Ev (Ph pF (i.r.n+1)) (.o false [.x 11,.m .ne (.x 9) (.lst false [])]) (i.R y l mo v8 (.list []) b al (some (nI far)) j.1 j.2) i.Z (.bool (al||false)):=λQ q=>by
   cases al with
   |true=>exact q
   |false=>exact q
  refine bM e2 ?_;have tv:aI (Ph pF (i.r.n+1)) (.m .gt (.bi .len [.x 9]) (.x 2)) (i.R y l mo v8 (.list []) b (al||false) (some (nI far)) j.1 j.2) i.Z (mo<((0:Nat):Int)):=Ab (qt (l:=[]) (aa rfl)) (aa rfl);by_cases c:mo<((0:Nat):Int)
  ·exact aO (dF tv c (none_ i v8 b _ j Q q))
  ·exact aO (bH tv c (none_ i v8 b _ j Q q))
 ·have e1:∀(i:SR A B x k)v8 row(j:Option V×tJ),Ev (Ph pF (i.r.n+1)) (.bm (.x 7) .get [.i (.a (.x 0) 8) (.x 12),.lst false []]) (i.R y l mo v8 row b al (some (nI far)) j.1 j.2) i.Z (.ref (i.loc (B.getD far 0))):=λi v8 row j=>by
   have z:=FL (c:=.lst false []) (d:=.list []) i.h.hd (aa (C:=Ph pF (i.r.n+1)) (J:=i.R y l mo v8 row b al (some (nI far)) j.1 j.2) (i:=7) rfl) (mM (i.b (aa (i:=0) rfl)) (aa (i:=12) rfl) hB) (λQ q=>q);rw[i.h.hf _ n]at z;exact z
  have e2:∀(i:SR A B x k)v8(j:Option V×tJ),Ev (Ph pF (i.r.n+1)) (.o false [.x 11,.m .ne (.x 9) (.lst false [])]) (i.R y l mo v8 (.ref (i.loc (B.getD far 0))) b al (some (nI far)) j.1 j.2) i.Z (.bool true):=λi v8 j=>by
   refine ar (p7 (C:=Ph pF (i.r.n+1)) (J:=i.R y l mo v8 (.ref (i.loc (B.getD far 0))) b al (some (nI far)) j.1 j.2) (aa (i:=9) rfl) (i.h.hl _ n)) λt t1 t2=>?_;have tt:t=true:=t1.2 λz=>n (xM.1 z);subst tt;intro Q q;cases al with
   |true=>exact q
   |false=>exact t2 Q q
  have tv:∀(i:SR A B x k)v8(j:Option V×tJ),aI (Ph pF (i.r.n+1)) (.m .gt (.bi .len [.x 9]) (.x 2)) (i.R y l mo v8 (.ref (i.loc (B.getD far 0))) b true (some (nI far)) j.1 j.2) i.Z (mo<(((dm A x k (B.getD far 0)).map nI).length:Int)):=λi v8 j=>Ab (qk (aa rfl) (i.h.hl _ n)) (aa rfl);by_cases c:mo<(((dm A x k (B.getD far 0)).map nI).length:Int)
  ·exact⟨b,true,hb,λi v8 row j Q q=>bM (e1 i v8 row j) (bM (e2 i v8 j) (aO (dF (tv i v8 j) c (none_ i v8 b _ j Q q))))⟩
  ·refine ar (Qq hX hY mo true hb h3 h4 n) λb' g1 g2=>?_;exact⟨b',true,g1,λi v8 row j Q q=>bM (e1 i v8 row j) (bM (e2 i v8 j) (aO (bH (tv i v8 j) c (iY (cE pF _) (g2 i v8 j Q (q _))))))⟩
end
end
section
noncomputable def qT:jH->V
 |none=>.none
 |some (_,z,a,f)=>.tup [nI a,nI f,nI z]
section
variable{A B:List Int}{x k y l:Nat}
theorem Vi{C:ax}{J:aj}{Z:ae}(b:jH)(al:Bool)(h1:rd J 10=some (bV b))(h2:rd J 11=some (.bool al)):Ev C (.ite (.m .is (.x 10) (.c .none)) (.tup [.c .none,.x 11]) (.tup [.tup [.i (.x 10) (.c (.int 2)),.i (.x 10) (.c (.int 3)),.neg (.i (.x 10) (.c (.int 1)))],.x 11])) J Z (.tup [qT b,.bool al]):=λQ q=>by
 cases b with
 |none=>exact iZ (p:=True) ⟨true,by simp,dj (aa h1) Ev.cn rfl⟩ trivial (n8 Ev.cn (aa h2) Q q)
 |some b=>
  obtain⟨r,z,a,f⟩:=b;have n:Ev C (.neg (.i (.x 10) (.c (.int 1)))) J Z (nI z):=λQ q=>bW (v:=.int (-(z:Int))) (aa h1) Ev.cn rfl _ (ao rfl (by rw[Int.neg_neg];exact q));have t:Ev C (.tup [.i (.x 10) (.c (.int 2)),.i (.x 10) (.c (.int 3)),.neg (.i (.x 10) (.c (.int 1)))]) J Z (.tup [nI a,nI f,nI z]):=λQ q=>bW (aa h1) Ev.cn rfl _ (bW (aa h1) Ev.cn rfl _ (n _ q));exact iy (p:=False) ⟨false,by simp,dj (aa h1) Ev.cn rfl⟩ id (n8 t (aa h2) Q q)
theorem Mj(hX:x+k<=A.length)(hY:y+l<=B.length)(hz:A.length+B.length<=400)(hk:0<k)(mo:Int) :
  ∃b al,lK A B x k y l b/\∀(r:dQ A B)(Q:QV),Q (.tup [qT b,.bool al]) r.Z->Ph pF (r.n+2) 42 [.inst 2 r.s.d,pt x (x+k) y (y+l),.int mo] r.Z Q:=by
 have k1:x+k<=400:=ai hX (ai (aL ..) hz);have k2:y+l<=400:=ai hY (ai (df ..) hz);obtain⟨⟨b,al⟩,hb,run⟩:=te (C:=λi:SR A B x k=>Ph pF (i.r.n+1)) (b:=Iz) (t:=.v 12) (cC y 1 l) (λi(s:jH×Bool)(j:Option V×V×Option V×Option V×tJ)=>i.R y l mo j.1 j.2.1 s.1 s.2 j.2.2.1 j.2.2.2.1 j.2.2.2.2) (λi _=>i.Z) (λ_ s=>lK A B x k y l s.1)
  (λq v s hv hs=>by
   obtain⟨hq,rfl⟩:=qx hv;have e:(y:Int)+(q:Int)*1=((y+q:Nat):Int):=by rw[pN];rfl
   rw[e];refine hE (Pf hX hY mo s.2 hs (aL y q) (eF hq y)) λb' al' h1 h2=>?_;exact⟨(b',al'),h1,λi j Q qq=>h2 i j.1 j.2.1 (j.2.2.2.1,j.2.2.2.2) Q λrow j'=>qq (j.1,row,some (nI (y+q)),j'.1,j'.2) _ (Sub.refl' _)⟩) (none,false) trivial
 refine⟨b,al,hb,λr Q q=>bN rfl ⟨rfl,λd hd=>aO (sU rfl rfl (ai k1 (by decide)) ?_)⟩⟩;have nd:r.s.d≠d:=λe=>by have:=r.on;rw[jY,e,hd]at this;exact nn this
 refine ql (mG (cE pF _) _) (λq J Z=>∃a row m f loc,(0<q->∃v,row=some v)/\m<=q/\J=rR r d x k y l mo (a,row)/\ju (dm A x q) r.Z d m f loc Z) ⟨none,none,0,λ_=>none,λ_=>0,λh=>absurd h (gQ 0),aC _,rfl,aP ..,λv h=>absurd rfl h,λv _=>rfl,λv h=>absurd rfl h,λv w h=>absurd rfl h,λz m h=>(aA λe=>by rw[e,hd]at h;exact nn h).trans h,hd,λv h=>absurd rfl h⟩ (λ_ _ _ _=>rfl) ?_ ?_
 ·intro q v J Z hv zz;refine o9 zz λa row m f loc _ hm e h=>?_;clear zz;subst e;obtain⟨hq,rfl⟩:=qx hv;have e:(x:Int)+(q:Int)*1=((x+q:Nat):Int):=by rw[pN];rfl
  rw[e];have lk:q<1000:=aQ hq (ai (df k x) (ai k1 (by decide)));exact NN ⟨r.n+1,r.Z,r.s,r.hA,r.hB,r.on⟩ (aQ (eF hq x) hX) hm lk h mo λa row Z' Z'' m f loc s hm h=>⟨Z',s,a,some row,m,f,loc,λ_=>⟨row,rfl⟩,hm,rfl,h⟩
 ·intro J Z zz;refine o9 zz λa row m f loc hr hm e h=>?_;clear zz;subst e;rw[oj]at h hr;obtain⟨v,rfl⟩:=hr hk;refine⟨rfl,aO (sU rfl rfl (ai k2 (by decide)) (run ⟨r,d,m,f,loc,Z,h⟩ (a,v,none,none,none,none,none) _ λj=>?_))⟩;exact eG (Vi b al rfl rfl) (j9 h.sub q)
end
end
section
section
variable{A B:List Int}{G₀ H₀ G H:List Bool}{P p:Pt}{W:List Pt}
noncomputable abbrev zA:S:=.whl (.o true [.m .gt (.x 10) (.x 4),.m .gt (.x 11) (.x 6),.m .eq (.i (.a (.x 0) 7) (.b .sub (.x 10) (.c (.int 1)))) (.i (.a (.x 0) 8) (.b .sub (.x 11) (.c (.int 1))))])
     [.s (.vs [10,11,12]) (.tup [.b .sub (.x 10) (.c (.int 1)),.b .sub (.x 11) (.c (.int 1)),.b .add (.x 12) (.c (.int 1))])]
noncomputable abbrev IG:S:=.ite (.o false [.m .eq (.x 4) (.x 5),.m .eq (.x 6) (.x 7)])
   [.ex (.h (.x 0) 27 [.tup [.x 4,.x 5,.x 6,.x 7]])]
   [.s (.vs [8,9]) (.h (.x 0) 33 [.tup [.x 4,.x 5,.x 6,.x 7],.x 2]),
    .ite (.m .isnot (.x 8) (.c .none))
    [.s (.vs [10,11,12]) (.x 8),zA,
     .ex (.bm (.x 3) .append [.tup [.x 4,.x 10,.x 6,.x 11]]),
     .ex (.bm (.x 3) .append [.tup [.b .add (.x 10) (.x 12),.x 5,.b .add (.x 11) (.x 12),.x 7]])]
    [.ite (.x 9)
     [.ex (.h (.x 0) 30 [.tup [.x 4,.x 5,.x 6,.x 7]])]
     [.ex (.h (.x 0) 27 [.tup [.x 4,.x 5,.x 6,.x 7]])]]]
noncomputable abbrev wQ:List S:=[.s (.vs [4,5,6,7]) (.h (.x 0) 26 [.bm (.x 3) .pop []]),IG]
abbrev hJ:=Option V×Option V×Option V×Option V×Option V
noncomputable def KR.R4(r:KR A B G₀ H₀)(P:Pt)(mo:Int)(v4 v5 v6 v7:Option V)(j:hJ):aj:=[some (.inst 2 r.s.d),some (dG P),some (.int mo),some (.ref r.a),v4,v5,v6,v7,j.1,j.2.1,j.2.2.1,j.2.2.2.1,j.2.2.2.2]
theorem sF{C:ax}{J:aj}{Z:ae}{e:E}{i j k:Nat}{u v w:V}{rest:List S}{Q:QO}(h:Ev C e J Z (.tup [u,v,w]))(q:az C rest (f7 J [i,j,k] [u,v,w]) Z Q):az C (.s (.vs [i,j,k]) e::rest) J Z Q:=h _ ⟨rfl,q⟩
theorem sG{C:ax}{J:aj}{Z:ae}{a b c:E}{u v w:V}(h:Ev C a J Z u)(k:Ev C b J Z v)(l:Ev C c J Z w):Ev C (.tup [a,b,c]) J Z (.tup [u,v,w]):=λQ q=>h _ (k _ (l _ q))
def oK(A B:List Int)(x X y Y z a f:Nat):Prop:=0<z/\x<=a/\a+z<=X/\y<=f/\f+z<=Y/\∀t,t<z->A[a+t]?=B[f+t]?
theorem OE{x X y Y z a f:Nat}(h:oK A B x X y Y z (a+1) (f+1))(ha:x<a+1)(hf:y<f+1)(e:A[a]?=B[f]?):oK A B x X y Y (z+1) a f:=
 ⟨fi z,eV ha,(cH a z)▸h.2.2.1,eV hf,(cH f z)▸h.2.2.2.2.1,λt ht=>match t,ht with
  |0,_=>e
  |t+1,ht=>cH a t▸cH f t▸h.2.2.2.2.2 t (ff ht)⟩
theorem MP{x X y Y z a f:Nat}(lX:X<=A.length)(lY:Y<=B.length)(h:oK A B x X y Y z a f)(mo:Int) :
  ∃z' a' f',oK A B x X y Y z' a' f'/\∀(r:KR A B G₀ H₀)v8 v9(Q:QO),Q .next (r.R4 P mo (some (nI x)) (some (nI X)) (some (nI y)) (some (nI Y)) (v8,v9,some (nI a'),some (nI f'),some (nI z'))) (r.T (W,G,H)) ->
   WS (Ph pF (r.n+3)) zA (r.R4 P mo (some (nI x)) (some (nI X)) (some (nI y)) (some (nI Y)) (v8,v9,some (nI a),some (nI f),some (nI z))) (r.T (W,G,H)) Q:=by
 obtain⟨⟨z',a',f'⟩,h1,_,run⟩:=fj (C:=λi:KR A B G₀ H₀×Option V×Option V=>Ph pF (i.1.n+3)) (c:=.o true [.m .gt (.x 10) (.x 4),.m .gt (.x 11) (.x 6),.m .eq (.i (.a (.x 0) 7) (.b .sub (.x 10) (.c (.int 1)))) (.i (.a (.x 0) 8) (.b .sub (.x 11) (.c (.int 1))))])
  (b:=[.s (.vs [10,11,12]) (.tup [.b .sub (.x 10) (.c (.int 1)),.b .sub (.x 11) (.c (.int 1)),.b .add (.x 12) (.c (.int 1))])])
  (λi(s:Nat×Nat×Nat)(_:Unit)=>i.1.R4 P mo (some (nI x)) (some (nI X)) (some (nI y)) (some (nI Y)) (i.2.1,i.2.2,some (nI s.2.1),some (nI s.2.2),some (nI s.1))) (λi _=>i.1.T (W,G,H))
  (λs=>oK A B x X y Y s.1 s.2.1 s.2.2) (λs=>s.2.1) (λs=>x<s.2.1/\y<s.2.2/\A[s.2.1-1]?=B[s.2.2-1]?)
  (λs hs i _=>nU (iW (aa rfl) (aa rfl)) (λ_=>iW (aa rfl) (aa rfl)) λc1 c2=>by
   have p1:s.2.1-1<A.length:=aQ (aQ (nP (jK c1) mD) (ai (aL ..) hs.2.2.1)) lX;have p2:s.2.2-1<B.length:=aQ (aQ (nP (jK c2) mD) (ai (aL ..) hs.2.2.2.2.1)) lY;have oa:=i.1.on (W,G,H);exact p8 (br (aa rfl) ((oF oa).trans (congrArg (λl=>some (V.list (vI l))) i.1.hA))) (br (aa rfl) ((tw oa).trans (congrArg (λl=>some (V.list (vI l))) i.1.hB))) (jP (jK c1) (aa rfl)) (jP (jK c2) (aa rfl)) p1 p2)
  (λs=>oX (λz a=>nz (λf _ c=>absurd c.1 (dM x)) (λa f=>nz (λ_ c=>absurd c.2.1 (dM y)) (λf hs c=>⟨(z+1,a,f),OE hs c.1 c.2.1 c.2.2,bu a,λi _ Q q=>
     sF (u:=nI a) (v:=nI f) (w:=nI (z+1)) (sG (vq (aa rfl)) (vq (aa rfl)) (bh (aa rfl) Ev.cn rfl)) (q () _ (Sub.refl' _))⟩) f) a) s)
  (z,a,f) h
 exact⟨z',a',f',h1,λr v8 v9 Q q=>run (r,v8,v9) () Q λ_=>q⟩
end
end
section
section
variable{A B:List Int}{G₀ H₀ G H:List Bool}{P p:Pt}{W:List Pt}
theorem DF(r:KR A B G₀ H₀){x X y Y:Nat}{mo:Int}(tr:∀(r:dQ A B) Q,Q (dG (x,X,y,Y)) r.Z->Ph pF (r.n+1) 35 [.inst 2 r.s.d,dG p] r.Z Q){v4 v5 v6 v7:Option V}{j:hJ}{Q:QO}(q:WS (Ph pF (r.n+3)) IG (r.R4 P mo (some (nI x)) (some (nI X)) (some (nI y)) (some (nI Y)) j) (r.T (W,G,H)) Q) :
  az (Ph pF (r.n+3)) wQ (r.R4 P mo v4 v5 v6 v7 j) (r.T (p::W,G,H)) Q:=
 zq (u:=nI x) (v:=nI X) (w:=nI y) (x:=nI Y) (zg r rfl rfl tr ⟨rfl,iY (cE pF _) q⟩) (cE pF _)
abbrev iJ:=Option V×Option V×Option V×Option V×hJ
noncomputable abbrev KR.R5(r:KR A B G₀ H₀)(P:Pt)(mo:Int)(j:iJ):aj:=r.R4 P mo j.1 j.2.1 j.2.2.1 j.2.2.2.1 j.2.2.2.2
theorem TA{x X y Y:Nat}(h:0<X-x+(Y-y)):wt (x,X,y,Y)=2*(X-x+(Y-y))-1:=by rw[<-tB h];rfl
theorem Ug{x k y l a f z:Nat}(h:oK A B x (x+k) y (y+l) z a f):wt (a+z,x+k,f+z,y+l)+wt (x,a,y,f)<wt (x,x+k,y,y+l):=by
 refine XO h λz0 h1 h2 h3 h4 _=>?_;have a1:=wC (a+z,x+k,f+z,y+l);have a2:=wC (x,a,y,f)
 dsimp only at a1 a2
 have hp:=TA (x:=x) (X:=x+k) (y:=y) (Y:=y+l) (by exact au [_,_,_,_,_,_,_,_,_] [] (.tn .k0 (.a .v0 .v1)) 1 [(2,.tn .k0 .v2),(1,.ln .v3 .v4),(1,.ln (.a .v4 .v2) (.a .v3 .v5)),(1,.ln .v6 .v7),(1,.ln (.a .v7 .v2) (.a .v6 .v8)),(1,.ln (.a .v3 .v5) (.a .v0 .v3)),(1,.ln (.a .v6 .v8) (.a .v1 .v6))] rfl z0 h1 h2 h3 h4 cW cW);exact au [_,_,_,_,_,_,_,_,_,_,_,_,_,_,_,_,_] [] (.tn (.a .v0 .v1) .v2) 1 [(4,.tn .k0 .v3),(1,.ln .v0 (.a (.m 2 (.a .v4 .v5)) .k1)),(1,.ln .v1 (.a (.m 2 (.a .v6 .v7)) .k1)),(-1,.en .v2 .v8),(1,.ln (.m 2 (.a .v9 (.v 10))) (.a .v8 .k1)),(2,.ln (.a (.v 11) (.v 12)) (.a .v9 (.v 11))),(2,.ln (.a (.v 13) (.v 14)) (.a (.v 10) (.v 13))),(2,.en (.a .v4 (.a (.v 15) .v3)) (.a (.v 11) (.v 12))),(2,.en (.a .v5 (.a (.v 16) .v3)) (.a (.v 13) (.v 14))),(2,.en (.a .v6 (.v 11)) (.v 15)),(2,.en (.a .v7 (.v 13)) (.v 16))] rfl z0 a1 a2 hp cW cW cW (aZ h2) (aZ h4) (aZ h1) (aZ h3)
theorem NV(hX:P.2.1<=A.length)(hY:P.2.2.2<=B.length)(hz:A.length+B.length<=400)(hwt:wt P<=900)(mo:Int){n:Nat}(h:MI A B G₀ H₀ P (p::W) G H n)(hw:dq (p::W)<=wt P) :
  ∃s':KS,(∃n,MI A B G₀ H₀ P s'.1 s'.2.1 s'.2.2 n)/\dq s'.1<dq (p::W)/\∀(r:KR A B G₀ H₀)(j:iJ)(Q:QO),(∀(j:iJ)Z,Sub (r.T s') Z->Q .next (r.R5 P mo j) Z)->az (Ph pF (r.n+3)) wQ (r.R5 P mo j) (r.T (p::W,G,H)) Q:=by
 refine ar (yx hX hY h) λpp10_ T tr=>?_;obtain⟨x,X,y,Y⟩:=pp10_;have h2:=h.trim hX hY T;have b:=h2.j.top;have lX:X<=A.length:=ai b.2.2.1 hX;have lY:Y<=B.length:=ai b.2.2.2.2 hY;obtain⟨k,rfl⟩:=bS (show x<=X from b.1.x);obtain⟨l,rfl⟩:=bS (show y<=Y from b.1.y);have tv:∀(r:KR A B G₀ H₀)j,aI (Ph pF (r.n+3)) (.o false [.m .eq (.x 4) (.x 5),.m .eq (.x 6) (.x 7)]) (r.R4 P mo (some (nI x)) (some (nI (x+k))) (some (nI y)) (some (nI (y+l))) j) (r.T (W,G,H)) (x=x+k\/y=y+l):=
  λr _=>iX (lq (aa rfl) (aa rfl)) λ_=>lq (aa rfl) (aa rfl)
 have wtt:=z6 T;have wlt:dq W<dq (p::W):=xD (wi p);have lens:G.length<=1000/\H.length<=1000:=⟨h.lg▸ai (aL ..) (ai hz (by decide)),h.lh▸ai (df ..) (ai hz (by decide))⟩
 obtain⟨m',n',_,_,hmk⟩:=h2.mark;have mkd:∀(r:KR A B G₀ H₀)j(Q:QO),(∀(j:iJ)Z,Sub (r.T (W,cU G x k,cU H y l)) Z->Q .next (r.R5 P mo j) Z)->az (Ph pF (r.n+3)) [.ex (.h (.x 0) 27 [.tup [.x 4,.x 5,.x 6,.x 7]])] (r.R4 P mo (some (nI x)) (some (nI (x+k))) (some (nI y)) (some (nI (y+l))) j) (r.T (W,G,H)) Q:=λr j Q q=>
  ao (cY (r.on _) rfl) (yP r (h.lg▸lX) (h.lh▸lY) lens.1 lens.2 (ao rfl (q (_,_,_,_,_) _ (Sub.refl' _))))
 by_cases e:x=x+k\/y=y+l
 ·exact⟨(W,cU G x k,cU H y l),⟨n',hmk⟩,wlt,λr j Q q=>DF r tr (dF (tv r _) e (mkd r _ Q q))⟩
 ·have hk:0<k:=pz λz=>e (.inl (by rw[z];rfl));refine hE (Mj (A:=A) (B:=B) lX lY hz hk mo) λbs al hb run=>?_;have lo:∀(r:KR A B G₀ H₀)(j:iJ)(Q:QO),WS (Ph pF (r.n+3)) (.ite (.m .isnot (.x 8) (.c .none))
    [.s (.vs [10,11,12]) (.x 8),zA,.ex (.bm (.x 3) .append [.tup [.x 4,.x 10,.x 6,.x 11]]),.ex (.bm (.x 3) .append [.tup [.b .add (.x 10) (.x 12),.x 5,.b .add (.x 11) (.x 12),.x 7]])]
    [.ite (.x 9) [.ex (.h (.x 0) 30 [.tup [.x 4,.x 5,.x 6,.x 7]])] [.ex (.h (.x 0) 27 [.tup [.x 4,.x 5,.x 6,.x 7]])]]) (r.R4 P mo (some (nI x)) (some (nI (x+k))) (some (nI y)) (some (nI (y+l))) (some (qT bs),some (.bool al),j.2.2.2.2.2.2)) (r.T (W,G,H)) Q->az (Ph pF (r.n+3)) wQ (r.R5 P mo j) (r.T (p::W,G,H)) Q:=λr j Q q=>
   DF r tr (bH (tv r _) e (ao (cY (r.on _) rfl) (run (r.run (r.n+1) (W,G,H)) _ ⟨rfl,iY (cE pF _) q⟩)))
  cases bs with
  |none=>
   have ti:∀(r:KR A B G₀ H₀)j,aI (Ph pF (r.n+3)) (.m .isnot (.x 8) (.c .none)) (r.R4 P mo (some (nI x)) (some (nI (x+k))) (some (nI y)) (some (nI (y+l))) (some (qT none),some (.bool al),j)) (r.T (W,G,H)) False:=λr j=>⟨false,by simp,dj (aa rfl) Ev.cn rfl⟩
   have ta:∀(r:KR A B G₀ H₀)j,aI (Ph pF (r.n+3)) (.x 9) (r.R4 P mo (some (nI x)) (some (nI (x+k))) (some (nI y)) (some (nI (y+l))) (some (qT none),some (.bool al),j)) (r.T (W,G,H)) (al=true):=λr j=>⟨al,sD,aa rfl⟩
   by_cases c:al=true
   ·refine bA (lC (A:=A) (B:=B) (aL x k) (aL y l)) λm hm=>?_;refine hE (yn (A:=A) (B:=B) (G₀:=G) (H₀:=H) (P:=(x,x+k,y,y+l)) lX lY hz h.lg h.lh b.1 hm) λG' H' L runF=>?_;refine cp (L.in h2) λ_ n'' _ _ u3=>?_;refine⟨(W,G',H'),⟨n'',u3⟩,wlt,λr j Q q=>lo r j Q (bH (ti r _) id (aO (dF (ta r _) c ?_)))⟩;refine ao (cY (r.on _) rfl) (runF r.n _ r.s r.hA r.hB r.sheet _ (ao rfl ?_));rw[r.marked];exact q (_,_,_,_,_) _ (Sub.refl' _)
   ·exact⟨(W,cU G x k,cU H y l),⟨n',hmk⟩,wlt,λr j Q q=>lo r j Q (bH (ti r _) id (aO (bH (ta r _) c (mkd r _ _ λj Z s=>q j Z s))))⟩
  |some bs=>
   obtain⟨rr,z,a,f⟩:=bs;have ti:∀(r:KR A B G₀ H₀)j,aI (Ph pF (r.n+3)) (.m .isnot (.x 8) (.c .none)) (r.R4 P mo (some (nI x)) (some (nI (x+k))) (some (nI y)) (some (nI (y+l))) (some (qT (some (rr,z,a,f))),some (.bool al),j)) (r.T (W,G,H)) True:=λr j=>⟨true,by simp,dj (aa rfl) Ev.cn rfl⟩
   refine q8 (MP (G₀:=G₀) (H₀:=H₀) (G:=G) (H:=H) (P:=P) (W:=W) lX lY (show oK A B x (x+k) y (y+l) z a f from hb) mo) λz' a' f' hs A0=>?_;refine Jd (h2.j.split (a:=a') (b:=f') (s:=z') hs.2.1 hs.2.2.1 hs.2.2.2.1 hs.2.2.2.2.1 hs.2.2.2.2.2) λm m₁ m₂ n'' _ _ _ _ s5=>?_;have hW:W.length+1<=900:=ai (vP (p::W)) (ai hw hwt);refine⟨((a'+z',x+k,f'+z',y+l)::(x,a',y,f')::W,G,H),⟨n'',h.lg,h.lh,h.og,h.oh,s5⟩,?_,λr j Q q=>lo r j Q (dF (ti r _) trivial (sF (aa rfl) (aO (A0 r _ _ _ ?_))))⟩
   ·show wt _+(wt _+dq W)<wt p+dq W;rw[<-cu];exact uj (aQ (Ug hs) wtt) _
   ·refine push r (p:=(x,a',y,f')) rfl (jq (aa rfl) (aa rfl) (aa rfl) (aa rfl)) (aQ hW (by decide)) ?_;exact push r (p:=(a'+z',x+k,f'+z',y+l)) rfl (jq (bh (aa rfl) (aa rfl) rfl) (aa rfl) (bh (aa rfl) (aa rfl) rfl) (aa rfl)) (bC hW (by decide)) (q (some (nI x),some (nI (x+k)),some (nI y),some (nI (y+l)),(_,_,_,_,_)) _ (Sub.refl' _))
end
end
section
section
variable{A B:List Int}{G₀ H₀:List Bool}{P:Pt}
theorem Lv(hX:P.2.1<=A.length)(hY:P.2.2.2<=B.length)(hz:A.length+B.length<=400)(hA:G₀.length=A.length)(hB:H₀.length=B.length)(b:oz G₀ H₀ P)(mo:Int) :
  ∃G H n,oI A B G₀ H₀ P G H n/\∀m Z(s:Sh),s.A=A->s.B=B->gI s G₀ H₀ Z->∀Q:QV,Q .none (ak (ak Z s.g (.list (vB G))) s.h (.list (vB H)))->Ph pF (m+4) 44 [.inst 2 s.d,dG P,.int mo] Z Q:=by
 have hwt:=Fl hX hY hz;refine bA (lC (A:=A) (B:=B) b.x b.y) λD hD=>?_;obtain⟨⟨W,G,H⟩,⟨⟨n,hI⟩,_⟩,ht,run⟩:=fj (C:=λr:KR A B G₀ H₀=>Ph pF (r.n+3)) (c:=.m .ne (.x 3) (.lst false [])) (b:=wQ) (λr(_:KS)(j:iJ)=>r.R5 P mo j) (λr s=>r.T s)
  (λs=>(∃n,MI A B G₀ H₀ P s.1 s.2.1 s.2.2 n)/\dq s.1<=wt P) (λs=>dq s.1) (λs=>s.1.reverse.map dG≠[]) (λs hs r j=>p7 (aa rfl) (r.top s))
  (λs=>oX (λW G H=>lz (λhs ht=>absurd rfl ht) (λp W hs _=>bA hs.1 λn hI=>
    cm (NV hX hY hz hwt mo hI hs.2) λs' h1 h2 h3=>⟨s',⟨h1,ai (cv h2) hs.2⟩,h2,h3⟩) W) s) ([P],G₀,H₀) ⟨⟨D,MI.first hA hB b hD⟩,aC _⟩
 have hW:W=[]:=by
  cases W with
  |nil=>rfl
  |cons p W=>exact absurd (λz=>by rw[pH]at z;exact absurd z (by simp)) ht
 subst hW;refine⟨G,H,n,hI.laid,λm Z s sA sB hs Q q=>bN rfl λa ha=>?_⟩;have z:=run ⟨m,Z,s,a,sA,sB,hs,ha⟩ (none,none,none,none,(none,none,none,none,none)) (λo J Z=>∃v' Z'',Wk (jc o) Z v' Z''/\Q v' Z'') λj=>j9 (Fc hs ha) q;rw[<-KR.init]at z;exact iY (cE pF _) z
end
theorem yJ{a b:List Ln}(hz:a.length+b.length<=400)(mo:Int):∃cs G H c d,gq a b cs G H c d/\∀n Z(Q:QV),Q (.list (cs.map aV)) Z->az (Ph pF (n+4)) b5 [some (.list (vY a)),some (.list (vY b)),some (.int mo),none] Z λo _ Z'=>∃v' Z'',Wk (jc o) Z' v' Z''/\Q v' Z'':=by
 refine q8 (Lv (A:=nA a b) (B:=nB a b) (P:=(0,a.length,0,b.length)) (dA (dY a b).symm) (dA (d7 a b).symm) (by rw[dY,d7];exact hz) ((jt _).trans (dY a b).symm) ((jt _).trans (d7 a b).symm) yD mo) λG H m L run=>?_;refine kR (Ap hz L) λcs c d e T chg=>?_;refine⟨cs,G,H,c,d,T,λn Z Q q=>?_⟩;refine Ea (n:=n+1) (bC hz (by decide)) rfl rfl λs Z' sA sB hs sub hg hh=>ao (cY hs.at_d rfl) (ao (cY hs.at_d rfl) (Ip hs.at_d ?_));have lA:s.A.length=a.length:=by rw[sA,dY]
 have lB:s.B.length=b.length:=by rw[sB,d7]
 rw[lA,lB];exact run n Z' s sA sB hs _ (ao rfl (ao (cY (pQ hs).at_d rfl) (chg (n+2) _ s sA sB (pQ hs) _ (j9 (yU sub hg hh) q))))
theorem nT{α:Type}{is:IS}{t:T}{test elt:aj->ae->QV->Prop}{J:aj}{Z:ae}{Q:QV}(xs:List α)(g h:α->V)(p:α->Bool)(hz:xs.length<=aJ)(hn:∀i,fq Z is i=some (xs.map g)[i]?)
  (H:∀a,a∈xs->∃J',d8 t (g a) J=some J'/\(∀Q,Q (.bool (p a)) Z->test J' Z Q)/\(p a=true->∀Q,Q (h a) Z->elt J' Z Q)) (q:Q (.list ((xs.filter p).map h)) Z):∃n,g5 is t test elt J Q n 0 [] Z:=by
 have key:∀(suf:List α)i acc,(∀j,fq Z is (i+j)=some (suf.map g)[j]?)->(∀a,a∈suf->a∈xs)->acc.length+suf.length<=aJ->Q (.list (acc++(suf.filter p).map h)) Z->g5 is t test elt J Q (suf.length+1) i acc Z:=by
  intro suf;induction suf with
  |nil=>exact λi acc hn _ _ q=>ao (hn 0) (gP acc▸(show Q (.list (acc++[])) Z from q))
  |cons a suf ih=>
   intro i acc hn hm hz q;refine cm (H a (hm a fJ)) λJ' h1 h2 h3=>?_;refine ao (hn 0) (ao h1 (h2 _ ?_));have hn':∀j,fq Z is (i+1+j)=some (suf.map g)[j]?:=λj=>(congrArg (fq Z is) (cH i j)).trans (hn (j+1));have hm':∀a,a∈suf->a∈xs:=λa h=>hm a (kb _ h);have hz':acc.length+1+suf.length<=aJ:=ai (dA (cH acc.length suf.length)) hz;rw[List.filter_cons]at q;cases c:p a with
   |false=>
    rw[c]at q;exact ih (i+1) acc hn' hm' (ai (kS (eN _) _) hz') q
   |true=>
    rw[c]at q;refine⟨aQ (aQ (bu _) (aL ..)) hz',h3 c _ (ih (i+1) _ hn' hm' (by rw[bB];exact hz') ?_)⟩;rw[eU];exact q
 exact⟨_,key xs 0 [] (λj=>(congrArg (fq Z is) (aU j)).trans (hn j)) (λ_ h=>h) ((aU xs.length).symm▸hz) q⟩
end
theorem uQ{α:Type}{is:IS}{t:T}{C:ax}{elt:aj->ae->QV->Prop}{J:aj}{Z:ae}{Q:QV}(xs:List α)(g h:α->V)(hz:xs.length<=aJ)(hn:∀i,fq Z is i=some (xs.map g)[i]?)
  (H:∀a,a∈xs->∃J',d8 t (g a) J=some J'/\∀Q,Q (h a) Z->elt J' Z Q) (q:Q (.list (xs.map h)) Z):∃n,g5 is t (λJ Z Q=>WB C true [] J Z Q) elt J Q n 0 [] Z:=
 nT xs g h (λ_=>true) hz hn (λa ha=>(H a ha).imp λJ' w=>⟨w.1,λQ q=>q,λ_=>w.2⟩) (by rw[List.filter_eq_self.2 λ_ _=>rfl];exact q)
noncomputable def cP:Nat->cM
 |0=>"myers"
 |1=>"patience"
 |_=>"histogram"
noncomputable def oW(c:Nat×Nat×Nat×Nat):Int:=((c.2.1:Int)-c.1)+((c.2.2.2:Int)-c.2.2.1)
theorem Rm{n:Nat}{c:Nat×Nat×Nat×Nat}{Z:ae}{Q:QV}(q:Q (.int (oW c)) Z):WE (Ph pF (n+1)) (.b .add (.h (.x 0) 20 []) (.h (.x 0) 21 [])) [some (aV c)] Z Q:=by
 refine ao rfl (ao rfl ?_);refine P7 (n:=n) (w:=c.1) (x:=c.2.1) (y:=c.2.2.1) (z:=c.2.2.2) ?_;refine ao rfl (ao rfl ?_);refine So (n:=n) (w:=c.1) (x:=c.2.1) (y:=c.2.2.1) (z:=c.2.2.2) ?_;exact q
theorem Sa{cs:List (Nat×Nat×Nat×Nat)}(f:Nat×Nat×Nat×Nat->Int):eO (cs.map λc=>V.int (f c))=some (cs.map f):=by
 have e:(cs.map λc=>V.int (f c))=vI (cs.map f):=(ik ..).symm;rw[e,qb]
theorem Aw{C:ax}{a b:E}{u v:V}{f:Nat}{J:aj}{Z:ae}{Q:QV}(ha:Ev C a J Z u)(hb:Ev C b J Z v)(h:C f [u,v] Z Q):WE C (.call f [a,b]) J Z Q:=ha _ (hb _ h)
theorem pZ{C:ax}{e elt:E}{caps:List Nat}{own:List cM}{t:T}{ifs:List E}{J:aj}{Z:ae}{Q:QV}(h:WE C e J Z λv Z'=>aK (wV Z' v) λis=>∃k,g5 is t (λJ Z Q=>WB C true ifs J Z Q) (λJ Z Q=>WE C elt J Z Q) (caps.map (rd J)++aR own.length none) Q k 0 [] Z'):WE C (.comp caps own t (.seq e) ifs elt) J Z Q:=h
theorem kA{C:ax}{e:E}{b:BI}{J:aj}{Z:ae}{Q:QV}(h:WE C e J Z λv Z'=>aK (oV Z' b [v]) λr=>Q r Z'):WE C (.bi b [e]) J Z Q:=h
theorem lF{C:ax}{e:E}{rest:List S}{J:aj}{Z:ae}{Q:QO}(h:WE C e J Z λv Z'=>Q (.ret v) J Z'):az C (.ret e::rest) J Z Q:=h
theorem HL{cs:List (Nat×Nat×Nat×Nat)}{Z:ae}(f:Nat×Nat×Nat×Nat->Int):oV Z .sum [.list (cs.map λc=>V.int (f c))]=some (.int (cj (cs.map f))):=by
 show(eO _).map _ = _;rw[Sa];rfl
theorem Rx{cs:List (Nat×Nat×Nat×Nat)}{a b:V}(hz:cs.length<=aJ)(run:∀n Z (Q:QV),Q (.list (cs.map aV)) Z->Ph pF (n+4) 3 [a,b] Z Q){n:Nat}{Z:ae}{Q:QV}(q:Q (.int (cj (cs.map oW))) Z):Ph pF (n+5) 7 [a,b] Z Q:=
 bN (J:=[some a,some b]) rfl (lF (kA (pZ (Aw (aa rfl) (aa rfl) (run n Z _ (ao rfl (uQ cs aV (λc=>.int (oW c)) hz (λ_=>rfl) (λc _=>⟨_,rfl,λQ q=>Rm q⟩) (ao (HL oW) (bX q)))))))))
theorem FT{C:ax}{J:aj}{Z:ae}{a b:E}{s t:cM}(ha:Ev C a J Z (.str s))(hb:Ev C b J Z (.str t)):aI C (.m .eq a b) J Z ((s==t)=true):=⟨s==t,sD,dj ha hb rfl⟩
theorem I6:(cP 0=="myers")=true:=by decide +kernel
theorem I7:¬(cP 1=="myers")=true:=by decide +kernel
theorem XK:(cP 1=="patience")=true:=by decide +kernel
theorem I8:¬(cP 2=="myers")=true:=by decide +kernel
theorem XM:¬(cP 2=="patience")=true:=by decide +kernel
theorem XN:(cP 2=="histogram")=true:=by decide +kernel
noncomputable def xf:Nat->Nat
 |0=>3
 |1=>4
 |_=>5
theorem HQ{w:Nat}(hw:w<3){u v res:V}{n:Nat}{Z:ae}{Q:QV}(h:∀Q:QV,Q res Z->Ph pF (n+1) (xf w) [u,v] Z Q)(q:Q res Z):Ph pF (n+2) 6 [.str (cP w),u,v] Z Q:=by
 have t:∀s,aI (Ph pF (n+1)) (.m .eq (.x 0) (.c (.str s))) [some (.str (cP w)),some u,some v] Z ((cP w==s)=true):=λs=>FT (aa rfl) Ev.cn;have c':∀f,f=xf w->∀K:aj->ae->Prop,az (Ph pF (n+1)) [.ret (.call f [.x 1,.x 2])] [some (.str (cP w)),some u,some v] Z λo J Z=>match o with
  |.next=>K J Z
  |.ret v=>∃v' Z'',Wk v Z v' Z''/\Q v' Z'':=λf e K=>lF (Aw (aa rfl) (aa rfl) (e▸h _ (bX q)))
 refine bN (J:=[some (.str (cP w)),some u,some v]) rfl ?_;clear h;revert t c';exact l3 hw (λt c=>aO (dF (t "myers") I6 (c 3 rfl _))) (λt c=>aO (bH (t "myers") I7 (aO (dF (t "patience") XK (c 4 rfl _)))))
  λt c=>aO (bH (t "myers") I8 (aO (bH (t "patience") XM (aO (dF (t "histogram") XN (c 5 rfl _))))))
section
theorem Nr{α:Type}{g:α->V}{f:V->V->Option Bool}{eq:α->α->Bool}(h:∀a b,f (g a) (g b)=some (eq a b))(hq:∀a b,eq a b=true↔a=b):∀{p q:List α},p.length=q.length->∃t,jb f (p.map g) (q.map g)=some t/\(t=true↔p=q)
 :=λ{p}=>@(li (λ{q}e=>by rw[nE.1 e.symm];exact⟨true,rfl,iff_of_true rfl rfl⟩) (λa p ih{q}=>lz (λe=>absurd e (B9 _)) (λb q e=>by
  refine ar (ih (q:=q) (iI e)) λt h1 h2=>?_;refine⟨eq a b&&t,?_,?_⟩
  ·show(f (g a) (g b)).bind (λx=>(jb f (p.map g) (q.map g)).map λy=>x&&y) = _;rw[h,h1];rfl
  ·rw[Bool.and_eq_true,hq,h2,List.cons.injEq]) q) p)
theorem A5{α:Type}{g:α->V}{n:Nat}{eq:α->α->Bool}(h:∀a b,gO n (g a) (g b)=some (eq a b))(hq:∀a b,eq a b=true↔a=b)(p q:List α):∃t,gO (n+1) (.list (p.map g)) (.list (q.map g))=some t/\(t=true↔p=q):=by
 show ∃t,(if (p.map g).length=(q.map g).length then jb (gO n) (p.map g) (q.map g) else some false)=some t/\_;rw[aY,aY];by_cases c:p.length=q.length
 ·rw[if_pos c];exact Nr h hq c
 ·rw[if_neg c];exact⟨false,rfl,by simp;exact λe=>c (e▸rfl)⟩
section
variable{C:ax}{J:aj}{Z:ae}{a b c:E}{i j:Nat}{l:List V}
theorem uT{α:Type}{g:α->V}{eq:α->α->Bool}(h:∀a b,gO 3 (g a) (g b)=some (eq a b))(hq:∀a b,eq a b=true↔a=b){p q:List α}(ha:Ev C a J Z (.list (p.map g)))(hb:Ev C b J Z (.list (q.map g))):aI C (.m .eq a b) J Z (p=q):=
 (A5 h hq p q).elim λt w=>⟨t,w.2,dj ha hb w.1⟩
theorem y0{α:Type}{g:α->V}{eq:α->α->Bool}(h:∀a b,gO 3 (g a) (g b)=some (eq a b))(hq:∀a b,eq a b=true↔a=b){p q:List α}(ha:Ev C a J Z (.list (p.map g)))(hb:Ev C b J Z (.list (q.map g))):aI C (.m .ne a b) J Z (p≠q):=
 (A5 h hq p q).elim λt w=>⟨!t,vH w.2,dj ha hb (congrArg (rU λb=>!b) w.1)⟩
theorem vu{p q:List Ln}(ha:Ev C a J Z (.list (vY p)))(hb:Ev C b J Z (.list (vY q))):aI C (.m .eq a b) J Z (p=q):=uT (eq:=λa b=>a==b) (λ_ _=>rfl) (λ_ _=>beq_iff_eq) ha hb
theorem sH{p q:List Ln}(ha:Ev C a J Z (.list (vY p)))(hb:Ev C b J Z (.list (vY q))):aI C (.m .ne a b) J Z (p≠q):=y0 (eq:=λa b=>a==b) (λ_ _=>rfl) (λ_ _=>beq_iff_eq) ha hb
theorem n6(d i:Nat):e9 d (nI i)=some i:=by
 show(if 0<=(i:Int) then some (i:Int).toNat else none) = _;rw[if_pos (eL i),hU]
theorem zj{lo hi:V}(h:e9 0 lo=some i)(k:e9 l.length hi=some j):oP Z (.list l) lo hi=some (.list (aH l i j)):=by
 show(e9 0 lo).bind (λi=>(e9 l.length hi).map λj=>V.list (aH l i j)) = _;rw[h,k];rfl
theorem T8(h:Ev C a J Z (.list l))(k:Ev C b J Z (nI i))(m:Ev C c J Z (nI j)):Ev C (.l a b c) J Z (.list (aH l i j)):=λQ q=>h _ (k _ (m _ (ao (zj (n6 ..) (n6 ..)) q)))
theorem zu(h:Ev C a J Z (.list l))(m:Ev C c J Z (nI j)):Ev C (.l a (.c .none) c) J Z (.list (aH l 0 j)):=λQ q=>h _ (m _ (ao (zj rfl (n6 ..)) q))
theorem zw(h:Ev C a J Z (.list l))(k:Ev C b J Z (nI i)):Ev C (.l a b (.c .none)) J Z (.list (l.drop i)):=λQ q=>h _ (k _ (Ev.cn _ (ao (zj (hi:=.none) (j:=l.length) (n6 ..) rfl) (by unfold aH;rw[nJ];exact q))))
theorem zb{α β:Type}(f:α->β)(l:List α)(i j:Nat):aH (l.map f) i j=(aH l i j).map f:=by unfold aH;rw[<-Cv,<-x9]
theorem uO{α:Type}(l:List α)(j:Nat):aH l 0 j=l.take j:=rfl
theorem uN{α:Type}(l:List α)(i:Nat):aH l i i=[]:=by
 unfold aH;exact xC (List.length_take_le i l)
theorem u7{α:Type}(l:List α)(i:Nat):aH l i l.length=l.drop i:=by unfold aH;rw[nJ]
theorem DY{α:Type}{l:List α}{i j:Nat}(h:i<=j)(k:j<l.length):aH l i (j+1)=aH l i j++[l[j]]:=by
 unfold aH;rw[xU,bL k];show(l.take j++[l[j]]).drop i = _;rw[List.drop_append_of_le_length (by rw[eW,jh (cv k)];exact h)]
theorem jo{p:List Ln}(h:Ev C a J Z (.list (vY p)))(k:Ev C b J Z (nI i))(m:Ev C c J Z (nI j)):Ev C (.l a b c) J Z (.list (vY (aH p i j))):=λQ q=>T8 h k m Q (by rw[zb];exact q)
theorem p6{p:List Ln}(h:Ev C a J Z (.list (vY p)))(k:Ev C b J Z (nI i)):Ev C (.l a b (.c .none)) J Z (.list (vY (p.drop i))):=λQ q=>zw h k Q (by rw[<-x9];exact q)
end
end
abbrev Cg:=Nat×Nat×Nat×Nat
structure Lc(a b:List Ln)(f:Bool)(x y:Nat)(c:Cg):Prop where
 l:x<=c.1
 m:y+c.1=x+c.2.2.1
 g:f=false->x<c.1
 o:c.1<=c.2.1
 i:c.2.2.1<=c.2.2.2
 ha:c.2.1<=a.length
 hb:c.2.2.2<=b.length
 n:c.1<c.2.1\/c.2.2.1<c.2.2.2
 p:aH a x c.1=aH b y c.2.2.1
def ee(a b:List Ln):Bool->Nat->Nat->List Cg->Prop
 |_,at',to,[]=>a.drop at'=b.drop to
 |fst,at',to,c::cs=>Lc a b fst at' to c/\ee a b false c.2.1 c.2.2.2 cs
theorem Lc.yy{a b:List Ln}{f:Bool}{x y:Nat}{c:Cg}(h:Lc a b f x y c):y<=c.2.2.1:=au [_,_,_,_] [] (.ln .v0 .v1) 1 [(1,.en (.a .v0 .v2) (.a .v3 .v1)),(1,.ln .v3 .v2)] rfl h.m h.l
theorem DW{a b:List Ln}{i j:Nat}(hi:i<a.length)(hj:j<b.length)(h:(nA a b)[i]?=(nB a b)[j]?):a[i]=b[j]:=by
 unfold nA nB iE at h;rw[cO,cO,bL hi,bL hj]at h;have h:((yp a[i] (cy (cy [] a) b):Nat):Int)=(yp b[j] (cy (cy [] a) b):Nat):=di h;have h:=kY.1 h;have ma:a[i]∈cy (cy [] a) b:=(pS b (mE a (iS hi))).1;have mb:b[j]∈cy (cy [] a) b:=mE b (iS hj);have e1:=rE (q9 ma);have e2:=rE (q9 mb);rw[<-e1,<-e2]
 congr 1
theorem Hu{l:List Bool}{i:Nat}{b:Bool}(h:l[i]?=some b):i<l.length:=(iR.1 h).1
theorem Um{a b:List Ln}{G H:List Bool}(lg:G.length=a.length)(lh:H.length=b.length){x y:Nat}{cs:List Cg}(h:g7 G H x y cs):∀{at' to g c d:Nat}{fst:Bool},x=at'+g->y=to+g->bg (nA a b) (nB a b) G H x y G.length H.length c d->aH a at' x=aH b to y->(fst=false->0<g\/(G[x]?≠some true/\H[y]?≠some true))->ee a b fst at' to cs:=by
 induction h with
 |fin=>
  intro at' to g c d fst _ _ _ hp _;rw[lg,u7,lh,u7]at hp;exact hp
 |@skip x y cs h1 h2 _ ih=>
  intro at' to g c d fst hx hy hl hp _;have lx:x<a.length:=lg▸Hu h1;have ly:y<b.length:=lh▸Hu h2;rcases hl.keeps (by rw[h1];exact λe=>nomatch e) (by rw[h2];exact λe=>nomatch e) with h|⟨e,_,_,k⟩
  ·exact absurd lx (by rw[h.1,lg];exact gQ _)
  ·refine ih (g:=g+1) (congrArg (·+1) hx) (congrArg (·+1) hy) k ?_ (λ_=>.inl (fi g));rw[DY (hx▸aL ..) lx,DY (hy▸aL ..) ly,hp,DW lx ly e]
 |@run x y x' y' cs h1 h2 h3 h4 h5 h6 h7 _ ih=>
  intro at' to g c d fst hx hy hl hp hg;obtain⟨j,rfl⟩:=bS h1;obtain⟨k,rfl⟩:=bS h2;obtain⟨c',hl'⟩:=hl.outsN h3;refine bA (hl'.innsN h4) λd' hl'=>?_;have le:=hl'.le;refine⟨⟨hx▸aL ..,by rw[hx,hy];exact bE [_,_,_] [] (.a .v0 (.a .v1 .v2)) (.a .v1 (.a .v0 .v2)) [] rfl,λf=>hx▸hF ((hg f).resolve_right λn=>?_),h1,h2,lg▸le.1,lh▸le.2,h7,hp⟩,ih (g:=0) rfl rfl hl' (by rw[uN,uN]) λ_=>.inr ⟨h5,h6⟩⟩;exact h7.elim (λz=>n.1 (h3 x (aC _) z)) λz=>n.2 (h4 y (aC _) z)
theorem gq.lds{a b:List Ln}{cs:List Cg}{G H:List Bool}{c d:Nat}(h:gq a b cs G H c d):ee a b true 0 0 cs:=
 Um h.lg h.lh h.chg (g:=0) rfl rfl (by rw[h.lg,h.lh];exact h.lay) (by rw[uN,uN]) λe=>nomatch e
section
section
variable{a b:List Ln}
noncomputable abbrev VK:List S:=[.s (.v 7) (.b .sub (.a (.x 6) 0) (.x 3)),
   .ite (.o false [.m .lt (.x 7) (.bi .int [.m .gt (.x 5) (.c (.int 0))]),.m .ne (.b .sub (.a (.x 6) 2) (.x 4)) (.x 7),.m .lt (.a (.x 6) 1) (.a (.x 6) 0),.m .lt (.a (.x 6) 3) (.a (.x 6) 2)])
   [.ret (.c (.bool false))]
   [],
   .ite (.o false [.m .gt (.a (.x 6) 1) (.bi .len [.x 1]),.m .gt (.a (.x 6) 3) (.bi .len [.x 2]),.m .eq (.b .sub (.b .add (.b .sub (.a (.x 6) 1) (.a (.x 6) 0)) (.a (.x 6) 3)) (.a (.x 6) 2)) (.c (.int 0))])
   [.ret (.c (.bool false))]
   [],
   .ite (.m .ne (.l (.x 1) (.x 3) (.a (.x 6) 0)) (.l (.x 2) (.x 4) (.a (.x 6) 2)))
   [.ret (.c (.bool false))]
   [],
   .s (.vs [3,4]) (.tup [.a (.x 6) 1,.a (.x 6) 3])]
theorem ir{C:ax}{J:aj}{Z:ae}{e:E}{p:List Ln}(h:Ev C e J Z (.list (vY p))):Ev C (.bi .len [e]) J Z (nI p.length):=λQ q=>qt h Q (by rw[aY];exact q)
noncomputable def tX(cs:List Cg)(a b:List Ln)(s:Nat×Nat)(j:Option V×Option V×Option V):aj:=[some (.list (cs.map aV)),some (.list (vY a)),some (.list (vY b)),some (nI s.1),some (nI s.2),j.1,j.2.1,j.2.2]
theorem Oc{n:Nat}{Z:ae}{cs:List Cg}{q at' to:Nat}{c:Cg}{r:List Cg}{j:Option V}(h:ee a b (q==0) at' to (c::r)){Q:QO}(qq:∀j,Q .next (tX cs a b (c.2.1,c.2.2.2) j) Z):az (Ph pF n) VK (tX cs a b (at',to) (some (nI q),some (aV c),j)) Z Q:=by
 have h:=h.1;obtain⟨x,x',y,y'⟩:=c;have A:∀{f:Nat}{v:V},jF Z (aV (x,x',y,y')) f=some v->Ev (Ph pF n) (.a (.x 6) f) (tX cs a b (at',to) (some (nI q),some (aV (x,x',y,y')),some (.int ((x:Int)-at')))) Z v:=λk=>br (aa rfl) k;have hx:(x:Int)-at'=((x-at':Nat):Int):=(ji h.l).symm;have hy:(y:Int)-to=(x:Int)-at':=bR [_,_,_,_] [] (.s .c0 .c1) (.s .c2 .c3) [(1,.en (.a .v1 .v2) (.a .v3 .v0))] rfl h.m;have hg:(if (decide (((0:Nat):Int)<(q:Int)))=true then(1:Int) else 0)<=(x:Int)-at':=by
  rw[hx];cases q with
  |zero=>exact eL _
  |succ q=>
   rw[if_pos (decide_eq_true (dN.2 (fi q)))];exact gB.2 (xW (h.g rfl))
 have lt0:¬(((x:Int)-at'<(if (decide (((0:Nat):Int)<(q:Int)))=true then 1 else 0))\/((y:Int)-to≠(x:Int)-at')\/x'<x\/y'<y):=λz=>z.elim (jM.2 hg) λz=>z.elim (λz=>z hy) λz=>z.elim (bc.2 h.o) (bc.2 h.i);have lt1:¬(a.length<x'\/b.length<y'\/((x':Int)-x+y'-y=0)):=λz=>z.elim (bc.2 h.ha) λz=>z.elim (bc.2 h.hb) λz=>h.n.elim
  (λn:x<x'=>fS [_,_,_,_] [] [(1,.ei (.s (.a (.s .c0 .c1) .c2) .c3) .k0),(1,.tn .v1 .v0),(1,.ln .v3 .v2)] rfl z n h.i)
  λn:y<y'=>fS [_,_,_,_] [] [(1,.ei (.s (.a (.s .c0 .c1) .c2) .c3) .k0),(1,.tn .v3 .v2),(1,.ln .v1 .v0)] rfl z n h.o
 refine bM (cw (br (aa rfl) rfl) (aa rfl) rfl) (aO (bH (RN (sS (aa rfl) (j:=if (decide (((0:Nat):Int)<(q:Int)))=true then 1 else 0) (λQ q=>by exact q)) (λ_=>qv (cw (A rfl) (aa rfl) rfl) (aa rfl)) (λ_ _=>eZ (A rfl) (A rfl)) (λ_ _ _=>eZ (A rfl) (A rfl))) lt0 (aO (bH (vx (iW (A rfl) (ir (aa rfl))) (λ_=>iW (A rfl) (ir (aa rfl))) (λ_ _=>kC (cw (bh (cw (A rfl) (A rfl) rfl) (A rfl) rfl) (A rfl) rfl) Ev.cn)) lt1 (aO (bH (sH (jo (aa rfl) (aa rfl) (A rfl)) (jo (aa rfl) (aa rfl) (A rfl))) (λz=>z h.p) (fM (A rfl) (A rfl) rfl (qq (some (nI q),some (aV (x,x',y,y')),some (.int ((x:Int)-at')))))))))))
theorem Oa{cs:List Cg}(h:ee a b true 0 0 cs){n:Nat}{Z:ae}{Q:QV}(q:Q (.bool true) Z):Ph pF (n+1) 16 [.list (cs.map aV),.list (vY a),.list (vY b)] Z Q:=by
 refine bN rfl ⟨rfl,aO (uV (cE pF n) (aa rfl) (AU (cE pF n) (λ(s:Nat×Nat)(j:Option V×Option V×Option V)=>tX cs a b s j) (λ_=>Z) (λq s=>ee a b (q==0) s.1 s.2 (cs.drop q)) (λq hq s j h=>ao (a:=tX cs a b s (some (nI q),some (aV cs[q]),j.2.2)) rfl λQ qq=>?_) (λs j h=>?_) (s:=(0,0)) (j:=(none,none,none)) h))⟩
 ·rw[jJ hq]at h;exact Oc h λj=>qq (cs[q].2.1,cs[q].2.2.2) j h.2
 ·rw[kX]at h;exact eG (jv (t:=true) (vu (p6 (aa rfl) (aa rfl)) (p6 (aa rfl) (aa rfl))) (iff_of_true rfl h)) (bX q)
end
end
section
theorem MG(f:Nat->Int):∀n,pM f (n+1)=f 0+pM (λi=>f (i+1)) n:=λrr=>ni ((nM _ _))
 (λn ih=>by
  show pM f (n+1)+f (n+1)=f 0+(pM (λi=>f (i+1)) n+f (n+1));rw[ih,mz]) rr
theorem jQ(a:Int)(l:List Int):cj (a::l)=a+cj l:=MG _ _
noncomputable def iD(G:List Bool)(x:Nat):Nat:=(G.drop x).count true
section
variable{A B:List Int}{G H:List Bool}
theorem yW{x:Nat}(h:G[x]?=some true):iD G x=iD G (x+1)+1:=by
 obtain⟨hx,e⟩:=iR.1 h;unfold iD;rw[jJ hx,e,J8]
theorem uI{x:Nat}(h:G[x]?=some false):iD G x=iD G (x+1):=by
 obtain⟨hx,e⟩:=iR.1 h;unfold iD;rw[jJ hx,e];exact JQ (by decide)
theorem vl:iD G G.length=0:=by unfold iD;rw[kX];rfl
theorem FE{x:Nat}:∀{j:Nat},(∀i,x<=i->i<x+j->G[i]?=some true)->iD G x=j+iD G (x+j):=@λrr=>ni (@λ_=>(aU _).symm)
 (@λj ih h=>by
  rw[ih λi a b=>h i a (eM b),yW (h (x+j) (aL ..) (bu _)),cb (iD G (x+j+1)) 1,<-cu];rfl) rr
theorem F8{x y X Y c d:Nat}(h:bg A B G H x y X Y c d):X=G.length->Y=H.length->c=iD G x/\d=iD H y:=by
 induction h with
 |nil=>rintro rfl rfl;exact⟨vl.symm,vl.symm⟩
 |keep _ g h _ ih=>exact λa b=>⟨(ih a b).1.trans (uI g).symm,(ih a b).2.trans (uI h).symm⟩
 |out g _ ih=>exact λa b=>⟨(congrArg (·+1) (ih a b).1).trans (yW g).symm,(ih a b).2⟩
 |inn h _ ih=>exact λa b=>⟨(ih a b).1,(congrArg (·+1) (ih a b).2).trans (yW h).symm⟩
noncomputable def gu(c:Cg):Int:=(c.2.1:Int)-c.1
noncomputable def fG(c:Cg):Int:=(c.2.2.2:Int)-c.2.2.1
theorem Rl{x y:Nat}{cs:List Cg}(h:g7 G H x y cs):cj (cs.map gu)=iD G x/\cj (cs.map fG)=iD H y:=by
 induction h with
 |fin=>rw[vl,vl];exact⟨rfl,rfl⟩
 |skip h1 h2 _ ih=>rw[uI h1,uI h2];exact ih
 |@run x y x' y' cs h1 h2 h3 h4 _ _ _ _ ih=>
  obtain⟨j,rfl⟩:=bS h1;obtain⟨k,rfl⟩:=bS h2;rw[FE h3,FE h4,gy,jQ,gy,jQ,ih.1,ih.2,hZ,hZ];have e{x j:Nat}:((x+j:Nat):Int)-x=j:=by exact bR [_,_] [] (.s (.c (.a .v0 .v1)) .c0) .c1 [] rfl
  exact⟨congrArg (·+_) e,congrArg (·+_) e⟩
end
theorem gq.counts{a b:List Ln}{cs:List Cg}{G H:List Bool}{c d:Nat}(h:gq a b cs G H c d):cj (cs.map gu)=c/\cj (cs.map fG)=d:=by
 have l:=F8 h.lay h.lg.symm h.lh.symm;rw[l.1,l.2];exact Rl h.chg
theorem QN(cs:List Cg):cj (cs.map oW)=cj (cs.map gu)+cj (cs.map fG):=by
 induction cs with
 |nil=>rfl
 |cons c cs ih=>
  rw[gy,jQ,gy,jQ,gy,jQ,ih];show gu c+fG c+_ = _;rw[mz,mz,<-mz (fG c),nM (fG c),mz]
theorem mI{α:Type}{C:ax}{e elt:E}{caps:List Nat}{own:List cM}{t:T}{J:aj}{Z:ae}(xs:List α)(g h:α->V)(hz:xs.length<=aJ)(he:Ev C e J Z (.list (xs.map g)))
  (H:∀a,a∈xs->∃J',d8 t (g a) (caps.map (rd J)++aR own.length none)=some J'/\Ev C elt J' Z (h a)):Ev C (.comp caps own t (.seq e) [] elt) J Z (.list (xs.map h)):=λQ q=>
 pZ (he _ (ao rfl (uQ xs g h hz (λ_=>rfl) H q)))
theorem Hg{C:ax}{c:E}{J:aj}{Z:ae}{cs:List Cg}{f:Cg->Int}(h:Ev C c J Z (.list (cs.map λc=>V.int (f c)))):Ev C (.bi .sum [c]) J Z (.int (cj (cs.map f))):=λQ q=>kA (h _ (ao (HL f) q))
theorem n7{C:ax}{a b:E}{u v:V}{J:aj}{Z:ae}(h:Ev C a J Z u)(k:Ev C b J Z v):Ev C (.lst false [a,b]) J Z (.list [u,v]):=λQ q=>h _ (k _ q)
theorem M4{cs:List Cg}(hz:cs.length<=aJ){n:Nat}{Z:ae}{Q:QV}(q:Q (.list [.int (cj (cs.map gu)),.int (cj (cs.map fG))]) Z):Ph pF (n+1) 17 [.list (cs.map aV)] Z Q:=
 bN (J:=[some (.list (cs.map aV))]) rfl (lF (n7 (Hg (f:=gu) (mI cs aV (λc=>.int (gu c)) hz (aa rfl) λc _=>⟨[some (aV c)],rfl,cw (br (aa rfl) rfl) (br (aa rfl) rfl) rfl⟩))
  (Hg (f:=fG) (mI cs aV (λc=>.int (fG c)) hz (aa rfl) λc _=>⟨[some (aV c)],rfl,cw (br (aa rfl) rfl) (br (aa rfl) rfl) rfl⟩)) _ (bX q)))
noncomputable def kP(c:Cg):V:=.tup [nI c.1,nI c.2.1,nI c.2.2.1,nI c.2.2.2]
theorem uF{cs:List Cg}(hz:cs.length<=aJ){n:Nat}{Z:ae}{Q:QV}(q:Q (.list (cs.map kP)) Z):Ph pF (n+1) 18 [.list (cs.map aV)] Z Q:=
 bN (J:=[some (.list (cs.map aV))]) rfl (lF (mI cs aV kP hz (aa rfl) (λc _=>⟨[some (aV c)],rfl,jq (br (aa rfl) rfl) (br (aa rfl) rfl) (br (aa rfl) rfl) (br (aa rfl) rfl)⟩) _ (bX q)))
end
section
noncomputable def IK(e:Nat->Bool)(prev:Nat->Nat):Nat->Nat
 |0=>0
 |j+1=>if e j=true then prev j+1 else max (prev (j+1)) (IK e prev j)
noncomputable def dc(e:Nat->Nat->Bool):Nat->Nat->Nat
 |0=>λ_=>0
 |i+1=>IK (e i) (dc e i)
section
variable{e:Nat->Nat->Bool}
theorem qm{i j:Nat}(h:e i j=true):dc e (i+1) (j+1)=dc e i j+1:=if_pos h
theorem sX{i j:Nat}(h:¬e i j=true):dc e (i+1) (j+1)=max (dc e i (j+1)) (dc e (i+1) j):=if_neg h
theorem ES:∀i j,(dc e i j<=dc e i (j+1)/\dc e i (j+1)<=dc e i j+1)/\(dc e i j<=dc e (i+1) j/\dc e (i+1) j<=dc e i j+1):=by
 intro i;induction i with
 |zero=>
  intro j;refine⟨⟨aC _,eN _⟩,bJ _,?_⟩;induction j with
  |zero=>exact bJ _
  |succ j ih=>
   by_cases h:e 0 j=true
   ·rw[qm h];exact aC _
   ·rw[sX h];exact C1.2 ⟨bJ _,ih⟩
 |succ i ihi=>
  have row:∀j,dc e (i+1) j<=dc e (i+1) (j+1)/\dc e (i+1) (j+1)<=dc e (i+1) j+1:=λj=>by
   have a:=ihi j;have b:=ihi (j+1);by_cases h:e i j=true
   ·rw[qm h];exact⟨a.2.2,cK a.2.1⟩
   ·rw[sX h];exact⟨Nat.le_max_right ..,C1.2 ⟨ai a.1.2 (cK a.2.1),eN _⟩⟩
  intro j;refine⟨row j,?_⟩;induction j with
  |zero=>exact⟨aC _,bJ _⟩
  |succ j ih=>
   by_cases h:e (i+1) j=true
   ·rw[qm h];exact⟨(row j).2,cK (row j).1⟩
   ·rw[sX h];exact⟨Nat.le_max_left ..,C1.2 ⟨eN _,ai ih.2 (cK (row j).1)⟩⟩
theorem aD.snoc{e:Nat->Nat->Prop}{x y X Y c:Nat}(h:aD e x y X Y c):(x=X/\y=Y/\c=0)\/(∃X' Y',X=X'+1/\Y=Y'+1/\e X' Y'/\aD e x y X' Y' c)\/(∃X' c',X=X'+1/\c=c'+1/\aD e x y X' Y c')\/∃Y' c',Y=Y'+1/\c=c'+1/\aD e x y X Y' c':=by
 induction h with
 |nil=>exact .inl ⟨rfl,rfl,rfl⟩
 |keep a h ih=>
  rcases ih with⟨rfl,rfl,rfl⟩|⟨X',Y',h1,h2,h0,h3⟩|⟨X',c',h1,h2,h3⟩|⟨Y',c',h1,h2,h3⟩
  ·exact .inr (.inl ⟨_,_,rfl,rfl,a,.nil⟩)
  ·exact .inr (.inl ⟨X',Y',h1,h2,h0,.keep a h3⟩)
  ·exact .inr (.inr (.inl ⟨X',c',h1,h2,.keep a h3⟩))
  ·exact .inr (.inr (.inr ⟨Y',c',h1,h2,.keep a h3⟩))
 |out h ih=>
  rcases ih with⟨rfl,rfl,rfl⟩|⟨X',Y',h1,h2,h0,h3⟩|⟨X',c',h1,h2,h3⟩|⟨Y',c',h1,h2,h3⟩
  ·exact .inr (.inr (.inl ⟨_,_,rfl,rfl,.nil⟩))
  ·exact .inr (.inl ⟨X',Y',h1,h2,h0,.out h3⟩)
  ·exact .inr (.inr (.inl ⟨X',c'+1,h1,congrArg (·+1) h2,.out h3⟩))
  ·exact .inr (.inr (.inr ⟨Y',c'+1,h1,congrArg (·+1) h2,.out h3⟩))
 |inn h ih=>
  rcases ih with⟨rfl,rfl,rfl⟩|⟨X',Y',h1,h2,h0,h3⟩|⟨X',c',h1,h2,h3⟩|⟨Y',c',h1,h2,h3⟩
  ·exact .inr (.inr (.inr ⟨_,_,rfl,rfl,.nil⟩))
  ·exact .inr (.inl ⟨X',Y',h1,h2,h0,.inn h3⟩)
  ·exact .inr (.inr (.inl ⟨X',c'+1,h1,congrArg (·+1) h2,.inn h3⟩))
  ·exact .inr (.inr (.inr ⟨Y',c'+1,h1,congrArg (·+1) h2,.inn h3⟩))
theorem aD.snocK{e:Nat->Nat->Prop}{x y X Y c:Nat}(h:aD e x y X Y c)(k:e X Y):aD e x y (X+1) (Y+1) c:=by
 have z:=h.append (.keep k .nil);rw[aU]at z;exact z
theorem aD.snocO{e:Nat->Nat->Prop}{x y X Y c:Nat}(h:aD e x y X Y c):aD e x y (X+1) Y (c+1):=by
 have z:=h.append (.out .nil);rw[aU,cb 1 c]at z;exact z
theorem aD.snocI{e:Nat->Nat->Prop}{x y X Y c:Nat}(h:aD e x y X Y c):aD e x y X (Y+1) (c+1):=by
 have z:=h.append (.inn .nil);rw[aU,cb 1 c]at z;exact z
end
theorem Sf{e:Nat->Nat->Bool}:∀i j,∃c,aD (λi j=>e i j=true) 0 0 i j c/\c+2*dc e i j=i+j:=by
 intro i;induction i with
 |zero=>exact λj=>⟨j,by have z:=aD.inns (e:=λi j=>e i j=true) 0 0 j;rw[aU]at z;exact z,(aU j).symm⟩
 |succ i ih=>
  intro j;induction j with
  |zero=>
   refine ar (ih 0) λc h1 h2=>?_;refine⟨c+1,h1.snocO,?_⟩;have z:dc e i 0=0:=by cases i<;>rfl
   rw[z]at h2;exact congrArg (·+1) h2
  |succ j ihj=>
   by_cases h:e i j=true
   ·refine ar (ih j) λc h1 h2=>?_;exact⟨c,h1.snocK h,by rw[qm h];exact bE [_,_,_,_] [] (.a .v0 (.m 2 (.a .v1 .k1))) (.a (.a .v2 .k1) (.a .v3 .k1)) [(-1,.en (.a .v0 (.m 2 .v1)) (.a .v2 .v3))] rfl h2⟩
   ·rw[sX h];by_cases k:dc e i (j+1)<=dc e (i+1) j
    ·refine ar ihj λc h1 h2=>?_;exact⟨c+1,h1.snocI,by rw[K1 k];exact bE [_,_,_,_] [] (.a (.a .v0 .k1) (.m 2 .v1)) (.a (.a .v2 .k1) (.a .v3 .k1)) [(-1,.en (.a .v0 (.m 2 .v1)) (.a (.a .v2 .k1) .v3))] rfl h2⟩
    ·refine ar (ih (j+1)) λc h1 h2=>?_;exact⟨c+1,h1.snocO,by rw[Le (xZ k)];exact bE [_,_,_,_] [] (.a (.a .v0 .k1) (.m 2 .v1)) (.a (.a .v2 .k1) (.a .v3 .k1)) [(-1,.en (.a .v0 (.m 2 .v1)) (.a .v2 (.a .v3 .k1)))] rfl h2⟩
theorem Se{e:Nat->Nat->Bool}:∀n i j c,i+j<=n->aD (λi j=>e i j=true) 0 0 i j c->i+j<=c+2*dc e i j:=by
 intro n;induction n with
 |zero=>intro i j c hn _;exact au [_,_,_,_] [] (.ln (.a .v0 .v1) (.a .v2 (.m 2 .v3))) 1 [(1,.ln (.a .v0 .v1) .k0)] rfl hn
 |succ n ih=>
  intro i j c hn h;rcases h.snoc with⟨rfl,rfl,rfl⟩|⟨i',j',rfl,rfl,q,k⟩|⟨i',c',rfl,rfl,k⟩|⟨j',c',rfl,rfl,k⟩
  ·exact bJ _
  ·have a:=ih i' j' c (by exact au [_,_,_] [] (.ln (.a .v0 .v1) .v2) 1 [(1,.ln (.a (.a .v0 .k1) (.a .v1 .k1)) (.a .v2 .k1))] rfl hn) k;rw[qm q];exact au [_,_,_,_] [] (.ln (.a (.a .v0 .k1) (.a .v1 .k1)) (.a .v2 (.m 2 (.a .v3 .k1)))) 1 [(1,.ln (.a .v0 .v1) (.a .v2 (.m 2 .v3)))] rfl a
  ·have a:=ih i' j c' (by exact au [_,_,_] [] (.ln (.a .v0 .v1) .v2) 1 [(1,.ln (.a (.a .v0 .k1) .v1) (.a .v2 .k1))] rfl hn) k;have s:=(ES (e:=e) i' j).2.1;exact au [_,_,_,_,_] [] (.ln (.a (.a .v0 .k1) .v1) (.a (.a .v2 .k1) (.m 2 .v3))) 1 [(1,.ln (.a .v0 .v1) (.a .v2 (.m 2 .v4))),(2,.ln .v4 .v3)] rfl a s
  ·have a:=ih i j' c' (by exact au [_,_,_] [] (.ln (.a .v0 .v1) .v2) 1 [(1,.ln (.a .v0 (.a .v1 .k1)) (.a .v2 .k1))] rfl hn) k;have s:=(ES (e:=e) i j').1.1;exact au [_,_,_,_,_] [] (.ln (.a .v0 (.a .v1 .k1)) (.a (.a .v2 .k1) (.m 2 .v3))) 1 [(1,.ln (.a .v0 .v1) (.a .v2 (.m 2 .v4))),(2,.ln .v4 .v3)] rfl a s
end
section
noncomputable def fZ(a b:List Ln)(i j:Nat):Bool:=a.getD i []==b.getD j []
section
variable{a b:List Ln}{D:Nat}
theorem zK{i j:Nat}(hi:i<a.length)(hj:j<b.length):fZ a b i j=true↔a[i]=b[j]:=by
 unfold fZ;rw[fe,fe,bL hi,bL hj];exact beq_iff_eq
theorem HZ{i j:Nat}(hi:i<a.length)(hj:j<b.length):gE (nA a b) (nB a b) i j↔fZ a b i j=true:=by
 rw[zK hi hj];refine⟨λh=>DW hi hj h.1,λh=>⟨?_,(dY a b).symm▸hi,(d7 a b).symm▸hj⟩⟩;unfold nA nB iE;rw[cO,cO,bL hi,bL hj,h]
theorem yO(h:dO (nA a b) (nB a b) 0 a.length 0 b.length D):aD (λi j=>fZ a b i j=true) 0 0 a.length b.length D/\∀c,aD (λi j=>fZ a b i j=true) 0 0 a.length b.length c->D<=c:=
 ⟨h.1.mono λi j e _ _ hi hj=>(HZ hi hj).1 e,λc w=>h.2 c (w.mono λi j e _ _ hi hj=>(HZ hi hj).2 e)⟩
noncomputable def fC(a b:List Ln):Int:=((a.length+b.length:Nat):Int)-2*(dc (fZ a b) a.length b.length:Nat)
theorem Hj(h:aD (λi j=>fZ a b i j=true) 0 0 a.length b.length D)(k:∀c,aD (λi j=>fZ a b i j=true) 0 0 a.length b.length c->D<=c):(D:Int)=fC a b:=by
 refine ar (Sf (e:=fZ a b) a.length b.length) λc h1 h2=>?_;have h3:=Se (e:=fZ a b) _ _ _ _ (aC _) h;have h4:=k c h1;unfold fC;exact K8 (au [_,_,_,_,_] [] (.li .c0 (.s (.c (.a .v1 .v2)) (.m 2 .c3))) 1 [(1,.en (.a .v4 (.m 2 .v3)) (.a .v1 .v2)),(1,.ln .v0 .v4)] rfl h2 h4) (au [_,_,_,_] [] (.li (.s (.c (.a .v0 .v1)) (.m 2 .c2)) .c3) 1 [(1,.ln (.a .v0 .v1) (.a .v3 (.m 2 .v2)))] rfl h3)
theorem zN(h:dO (nA a b) (nB a b) 0 a.length 0 b.length D):(D:Int)=fC a b:=Hj (yO h).1 (yO h).2
theorem PZ(h:dO (nA b a) (nB b a) 0 b.length 0 a.length D):(D:Int)=fC a b:=by
 have z:=yO h;have fl:∀{x y:List Ln}{c},aD (λi j=>fZ x y i j=true) 0 0 x.length y.length c->aD (λi j=>fZ y x i j=true) 0 0 y.length x.length c:=λw=>w.flip.mono λi j e _ _ _ _=>beq_iff_eq.2 (beq_iff_eq.1 e).symm;exact Hj (fl z.1) λc w=>z.2 c (fl w)
theorem RO{c:Nat}(h:aD (gE (nA a b) (nB a b)) 0 0 a.length b.length c):fC a b<=c:=by
 refine bA (lC (A:=nA a b) (B:=nB a b) (bJ a.length) (bJ b.length)) λD hD=>?_;rw[<-zN hD];exact gB.2 (hD.2 c h)
theorem gq.low{cs:List Cg}{G H:List Bool}{c d:Nat}(h:gq a b cs G H c d):fC a b<=((c+d:Nat):Int):=RO (h.lay.way ((dY a b).trans h.lg.symm) ((d7 a b).trans h.lh.symm))
end
noncomputable def ck(m:Nat)(f:Nat->Nat):List V:=(jN m).map λj=>nI (f j)
theorem ku{m j:Nat}{f:Nat->Nat}(h:j<m):(ck m f)[j]?=some (nI (f j)):=by
 unfold ck;rw[cO,Kj h];rfl
theorem jn(m:Nat)(f:Nat->Nat):(ck m f).length=m:=by unfold ck;rw[aY,uo]
noncomputable def putN(f:Nat->Nat)(j v:Nat):Nat->Nat:=λi=>if i=j then v else f i
theorem zi{m j v:Nat}{f:Nat->Nat}(h:j<m):(ck m f).set j (nI v)=ck m (putN f j v):=by
 refine xT λi=>?_;rw[KL,jn];by_cases c:j=i
 ·subst c;rw[if_pos rfl,if_pos h,ku h,putN,if_pos rfl]
 ·rw[if_neg c];by_cases d:i<m
  ·rw[ku d,ku d,putN,if_neg λe=>c e.symm]
  ·rw[fI (by rw[jn];exact bc.1 d),fI (by rw[jn];exact bc.1 d)]
structure g8(m:Nat)(l:List Nat)(U Z:ae)(w:Nat->Nat->Nat):Prop where
 nd:l.Nodup
 at_:∀k(h:k<l.length),Z l[k]=some (.list (ck m (w k)))
 un:∀c,c∈l->U c=none
 sub:Sub U Z
section
variable{m:Nat}{l:List Nat}{U Z:ae}{w:Nat->Nat->Nat}
theorem g8.snoc(h:g8 m l U Z w){c:Nat}(hc:Z c=none){f:Nat->Nat}:g8 m (l++[c]) U (ak Z c (.list (ck m f))) (λk=>if k=l.length then f else w k):=by
 have nc:∀k(h':k<l.length),l[k]≠c:=λk h' e=>by have:=h.at_ k h';rw[e,hc]at this;exact nn this
 have uc:U c=none:=by
  cases e:U c with
  |none=>rfl
  |some m'=>have:=h.sub c m' e;rw[hc]at this;exact nn this
 refine⟨?_,λk hk=>?_,λz hz=>?_,λz m' k=>(aA λe=>by rw[e,uc]at k;exact nn k).trans (h.sub z m' k)⟩
 ·refine KN.2 ⟨h.nd,ug ..,λx hx y hy e=>?_⟩;obtain⟨k,hk,rfl⟩:=List.getElem_of_mem hx;exact nc k hk (e.trans (cJ.1 hy))
 ·by_cases d:k<l.length
  ·rw[List.getElem_append_left d,aA (nc k d),if_neg (gR d)];exact h.at_ k d
  ·have e:k=l.length:=cX (by rw[bB]at hk;exact eV hk) (bc.1 d);subst e;rw[List.getElem_concat_length rfl,aP,if_pos rfl]
 ·rcases gx.1 hz with hz|hz
  ·exact h.un z hz
  ·rw[cJ.1 hz];exact uc
theorem g8.put(h:g8 m l U Z w){k j v:Nat}(hk:k<l.length)(hj:j<m):g8 m l U (ak Z l[k] (.list ((ck m (w k)).set j (nI v)))) (λi=>if i=k then putN (w k) j v else w i):=by
 refine⟨h.nd,λi hi=>?_,h.un,λz m' q=>(aA λe=>by rw[e,h.un _ (iS hk)]at q;exact nn q).trans (h.sub z m' q)⟩;by_cases e:i=k
 ·subst e;rw[aP,if_pos rfl,zi hj]
 ·rw[if_neg e,aA λz=>e ((List.getElem_inj h.nd).1 z)];exact h.at_ i hi
end
end
section
section
variable{a b:List Ln}{m:Nat}{l:List Nat}{U Z:ae}{w:Nat->Nat->Nat}
theorem PQ{e:Nat->Nat->Bool}(i:Nat):dc e i 0=0:=by cases i<;>rfl
theorem TZ{C:ax}{J:aj}{Z:ae}{a b:E}{u v:Nat}(h:Ev C a J Z (nI u))(k:Ev C b J Z (nI v)):Ev C (.bi .max [a,b]) J Z (nI (max u v)):=λQ q=>h _ (k _ (show Q (V.int (if (u:Int)<v then(v:Int) else(u:Int))) Z by
 have e:(if (u:Int)<v then(v:Int) else(u:Int))=(max u v:Nat):=by
  by_cases c:u<v
  ·rw[if_pos (dN.2 c),K1 (cv c)]
  ·rw[if_neg λz=>c (dN.1 z),Le (bc.1 c)]
 rw[e];exact q))
theorem g8.ev(h:g8 m l U Z w){C:ax}{J:aj}{t u v:E}{i j:Nat}(ht:Ev C t J Z (.list (l.map .ref)))(hu:Ev C u J Z (nI i))(hv:Ev C v J Z (nI j))(hi:i<l.length)(hj:j<m):Ev C (.i (.i t u) v) J Z (nI (w i j)):=
 bW (bW ht hu (jO (by rw[cO,bL hi];rfl))) hv (kr (h.at_ i hi) (ku hj))
theorem yF{C:ax}{J:aj}{Z:ae}{a b:E}{x y:Ln}(h:Ev C a J Z (.bytes x))(k:Ev C b J Z (.bytes y)):aI C (.m .eq a b) J Z (x=y):=⟨x==y,beq_iff_eq,dj h k rfl⟩
theorem MX{C:ax}{J:aj}{Z:ae}{a b:E}{x y:Ln}(h:Ev C a J Z (.bytes x))(k:Ev C b J Z (.bytes y)):aI C (.m .ne a b) J Z (x≠y):=⟨!(x==y),vH beq_iff_eq,dj h k rfl⟩
noncomputable abbrev IU:List S:=[.s (.i (.i (.x 2) (.b .add (.x 3) (.c (.int 1)))) (.b .add (.x 5) (.c (.int 1)))) (.ite (.m .eq (.x 4) (.x 6)) (.b .add (.i (.i (.x 2) (.x 3)) (.x 5)) (.c (.int 1))) (.bi .max [.i (.i (.x 2) (.x 3)) (.b .add (.x 5) (.c (.int 1))),.i (.i (.x 2) (.b .add (.x 3) (.c (.int 1)))) (.x 5)]))]
noncomputable def fR(a b:List Ln)(l:List Nat)(v3 v4 v5 v6:Option V):aj:=[some (.list (vY a)),some (.list (vY b)),some (.list (l.map .ref)),v3,v4,v5,v6]
def qH(a b:List Ln)(k:Nat)(w:Nat->Nat->Nat):Prop:=(∀i,i<=k->∀t,t<=b.length->w i t=dc (fZ a b) i t)/\∀i,w i 0=0
theorem Pk{n k j:Nat}(hk:k<a.length)(hj:j<b.length)(hl:l.length=a.length+1)(T:g8 (b.length+1) l U Z w)(ho:qH a b k w)(hi:∀t,t<=j->w (k+1) t=dc (fZ a b) (k+1) t){Q:QO}
  (q:∀w' Z',g8 (b.length+1) l U Z' w'->qH a b k w'->(∀t,t<=j+1->w' (k+1) t=dc (fZ a b) (k+1) t)->Q .next (fR a b l (some (nI k)) (some (.bytes a[k])) (some (nI j)) (some (.bytes b[j]))) Z') :
  az (Ph pF n) IU (fR a b l (some (nI k)) (some (.bytes a[k])) (some (nI j)) (some (.bytes b[j]))) Z Q:=by
 have lk:k<l.length:=hl▸eM hk;have lk1:k+1<l.length:=hl▸nK hk;have tv:aI (Ph pF n) (.m .eq (.x 4) (.x 6)) (fR a b l (some (nI k)) (some (.bytes a[k])) (some (nI j)) (some (.bytes b[j]))) Z (a[k]=b[j]):=yF (aa rfl) (aa rfl);have k1:Ev (Ph pF n) (.b .add (.x 3) (.c (.int 1))) (fR a b l (some (nI k)) (some (.bytes a[k])) (some (nI j)) (some (.bytes b[j]))) Z (nI (k+1)):=bh (aa rfl) Ev.cn rfl;have j1:Ev (Ph pF n) (.b .add (.x 5) (.c (.int 1))) (fR a b l (some (nI k)) (some (.bytes a[k])) (some (nI j)) (some (.bytes b[j]))) Z (nI (j+1)):=bh (aa rfl) Ev.cn rfl;have fin:∀v,v=dc (fZ a b) (k+1) (j+1)->jD (Ph pF n) (.i (.i (.x 2) (.b .add (.x 3) (.c (.int 1)))) (.b .add (.x 5) (.c (.int 1)))) (nI v) (fR a b l (some (nI k)) (some (.bytes a[k])) (some (nI j)) (some (.bytes b[j]))) Z (Q .next):=λv hv=>by
  refine vh (bW (v:=.ref l[k+1]) (aa rfl) k1 (jO (by rw[cO,bL lk1];rfl))) j1 (u9 (T.at_ _ lk1) (by rw[jn];exact nK hj) ?_);refine q _ _ (T.put lk1 (nK hj)) ⟨λi hi' t ht=>?_,λi=>?_⟩ λt ht=>?_
  ·show(if i=k+1 then putN (w (k+1)) (j+1) v else w i) t = _;rw[if_neg (show ¬i=k+1 from gR (pA hi'))];exact ho.1 i hi' t ht
  ·show(if i=k+1 then putN (w (k+1)) (j+1) v else w i) 0 = _;by_cases c:i=k+1
   ·rw[if_pos c,putN,if_neg (by intro h;cases h)];exact ho.2 _
   ·rw[if_neg c];exact ho.2 i
  ·show(if k+1=k+1 then putN (w (k+1)) (j+1) v else w (k+1)) t = _;rw[if_pos rfl,putN];by_cases c:t=j+1
   ·rw[if_pos c,c];exact hv
   ·rw[if_neg c];exact hi t (eV (hM ht c))
 have tb:Ev (Ph pF n) (.x 2) (fR a b l (some (nI k)) (some (.bytes a[k])) (some (nI j)) (some (.bytes b[j]))) Z (.list (l.map .ref)):=aa rfl;by_cases c:a[k]=b[j]
 ·have e:w k j+1=dc (fZ a b) (k+1) (j+1):=by rw[qm ((zK hk hj).2 c),ho.1 k (aC _) j (cv hj)]
  exact iZ tv c (bh (r:=((w k j+1:Nat):Int)) (T.ev tb (aa rfl) (aa rfl) lk (eM hj)) Ev.cn rfl _ (fin _ e))
 ·have e:max (w k (j+1)) (w (k+1) j)=dc (fZ a b) (k+1) (j+1):=by rw[sX λz=>c ((zK hk hj).1 z),ho.1 k (aC _) (j+1) hj,hi j (aC _)]
  exact iy tv c (TZ (T.ev tb (aa rfl) j1 lk (nK hj)) (T.ev tb k1 (aa rfl) lk1 (eM hj)) _ (fin _ e))
end
end
section
theorem D5{k:Nat}(h:k<=1000):jU [((k:Nat):Int)]=some (cC 0 1 k):=by
 show(if eE ((k:Nat):Int)=true then some (cC 0 1 (mu 0 ((k:Nat):Int) 1).toNat) else none) = _;rw[if_pos (zU h)];have z:=GC 0 k;rw[aU]at z;rw[show(0:Int)=((0:Nat):Int) from rfl,z];rfl
theorem yX{C:ax}{es:List E}{elt:E}{caps:List Nat}{own:List cM}{t:T}{ifs:List E}{J:aj}{Z:ae}{Q:QV}(ns:List Int){l:List V}(he:∀Q:List V->ae->Prop,Q (vI ns) Z->eh C es J Z Q)(hl:jU ns=some l)
  (h:∃k,g5 (.vals l) t (λJ Z Q=>WB C true ifs J Z Q) (λJ Z Q=>WE C elt J Z Q) (caps.map (rd J)++aR own.length none) Q k 0 [] Z):WE C (.comp caps own t (.range es) ifs elt) J Z Q:=he _ (ao (qb ns) (ao hl h))
theorem Gr(v:V)(k:Nat):(aR k [v]).flatten=aR k v:=by
 induction k with
 |zero=>rfl
 |succ k ih=>exact congrArg (v::·) ih
theorem Ox(m:Nat):ck m (λ_=>0)=aR m (nI 0):=by
 unfold ck;rw[La,uo]
theorem SP{C:ax}{e f:E}{v:V}{k:Nat}{J:aj}{Z:ae}{Q:QV}(he:Ev C e J Z v)(hf:Ev C f J Z (nI k))(hk:k<=1000)(q:∀c,Z c=none->Q (.ref c) (ak Z c (.list (aR k v)))):WE C (.rep true [e] f) J Z Q:=
 he _ (hf _ (ao (a:=(k:Int)) rfl ⟨by rw[hU];show 1*k<=aJ;rw[CP];exact ai hk (by decide),gB.2 (ai hk (by decide)),ko (by decide) (eL k),λc hc=>by
  rw[hU,Gr];exact q c hc⟩))
section
variable{a b:List Ln}
theorem OH{n:Nat}{Z:ae}{Q:QV}(ha:a.length<=900)(hb:b.length<=900)(q:∀l Z',l.length=a.length+1->g8 (b.length+1) l Z Z' (λ_ _=>0)->Q (.list (l.map .ref)) Z'){v2 v3 v4 v5 v6:Option V} :
  WE (Ph pF n) (.comp [1] [("k":cM)] (.v 1) (.range [.b .add (.bi .len [.x 0]) (.c (.int 1))]) [] (.rep true [.c (.int 0)] (.b .add (.bi .len [.x 0]) (.c (.int 1))))) [some (.list (vY a)),some (.list (vY b)),v2,v3,v4,v5,v6] Z Q:=by
 refine yX [((a.length+1:Nat):Int)] (λQ q=>bh (r:=((a.length+1:Nat):Int)) (ir (p:=a) (aa rfl)) Ev.cn rfl _ q) (D5 (by exact au [_] [] (.ln (.a .v0 .k1) (.k 1000)) 1 [(1,.ln .v0 (.k 900))] rfl ha)) ?_;refine FF (l:=cC 0 1 (a.length+1)) (by rw[oj];exact ai (cK ha) (by decide)) (λi r Z'=>∃l:List Nat,l.length=i/\r=l.map .ref/\g8 (b.length+1) l Z Z' (λ_ _=>0)) (λ_ _ _ _=>rfl) ?_ (eX (cE pF n) _) ⟨[],rfl,rfl,.nil,λk h=>absurd h (dM k),λ_ h=>(nm h),Sub.refl' _⟩ ?_
 ·intro i v r Z' hv zz;refine cm zz λl h1 h2 h3=>?_;refine ao rfl (SP Ev.cn (bh (r:=((b.length+1:Nat):Int)) (ir (p:=b) (aa rfl)) Ev.cn rfl) (by exact au [_] [] (.ln (.a .v0 .k1) (.k 1000)) 1 [(1,.ln .v0 (.k 900))] rfl hb) λc hc=>⟨l++[c],by rw[bB,h1];rfl,by rw[h2,dy];rfl,?_⟩);have z:=h3.snoc hc (f:=λ_=>0);rw[Ox]at z;have e:(λk=>if k=l.length then(λ_=>0) else(λ_:Nat=>(λ_:Nat=>0):Nat->Nat->Nat) k)=(λ_ _=>0:Nat->Nat->Nat):=funext λk=>by
   by_cases c:k=l.length
   ·rw[if_pos c]
   ·rw[if_neg c]
  rw[e]at z;exact z
 ·intro r Z' zz;refine cm zz λl h1 h2 h3=>?_;rw[oj]at h1;rw[h2];exact q l Z' h1 h3
theorem RP{n:Nat}{l:List Nat}{U:ae}{w:Nat->Nat->Nat}{s:ae}{k:Nat}(hk:k<a.length)(hl:l.length=a.length+1)(T:g8 (b.length+1) l U s w)(ho:qH a b k w){v5 v6:Option V}{Q:QO}
  (q:∀w' s' v5 v6,g8 (b.length+1) l U s' w'->qH a b (k+1) w'->Q .next (fR a b l (some (nI k)) (some (.bytes a[k])) v5 v6) s') :
  az (Ph pF n) [.for (.tup [5,6]) (.enum (.x 1)) IU] (fR a b l (some (nI k)) (some (.bytes a[k])) v5 v6) s Q:=
 iY (cE pF n) (uV (cE pF n) (aa rfl) (AU (cE pF n) (λ(_:(Nat->Nat->Nat)×ae)(j:Option V×Option V)=>fR a b l (some (nI k)) (some (.bytes a[k])) j.1 j.2) (λs=>s.2)
  (λj s=>g8 (b.length+1) l U s.2 s.1/\qH a b k s.1/\∀t,t<=j->s.1 (k+1) t=dc (fZ a b) (k+1) t)
  (λj hj s _ h=>ao (a:=fR a b l (some (nI k)) (some (.bytes a[k])) (some (nI j)) (some (.bytes b[j]))) rfl λQ q=>Pk hk hj hl h.1 h.2.1 h.2.2 λw' Z' T ho hi=>q (w',Z') (some (nI j),some (.bytes b[j])) ⟨T,ho,hi⟩)
  (λs j h=>q s.1 s.2 j.1 j.2 h.1 ⟨λi hi t ht=>(jg hi).elim (λhi=>h.2.1.1 i (eV hi) t ht) λe=>by rw[e];exact h.2.2 t ht,h.2.1.2⟩)
  (s:=(w,s)) (j:=(v5,v6)) ⟨T,ho,λt ht=>by cases yh.1 ht;exact(ho.2 (k+1)).trans (PQ (k+1)).symm⟩))
theorem Df{n:Nat}{Z:ae}{Q:QV}(ha:a.length<=900)(hb:b.length<=900)(q:Q (.int (fC a b)) Z):Ph pF (n+1) 15 [.list (vY a),.list (vY b)] Z Q:=by
 refine bN rfl (OH ha hb λl Z' hl T=>aO (uV (cE pF n) (aa rfl) ?_));refine AU (cE pF n) (λ(_:(Nat->Nat->Nat)×ae)(j:Option V×Option V×Option V×Option V)=>fR a b l j.1 j.2.1 j.2.2.1 j.2.2.2) (λs=>s.2) (λk s=>g8 (b.length+1) l Z s.2 s.1/\qH a b k s.1)
  (λk hk s j h=>ao (a:=fR a b l (some (nI k)) (some (.bytes a[k])) j.2.2.1 j.2.2.2) rfl λQ q=>RP hk hl h.1 h.2 λw' s' v5 v6 T ho=>q (w',s') (some (nI k),some (.bytes a[k]),v5,v6) ⟨T,ho⟩) (λs j h=>?_)
  (s:=(_,Z')) (j:=(none,none,none,none)) ⟨T,λi hi t _=>by cases yh.1 hi;rfl,λ_=>rfl⟩
 have ev:=h.1.ev (C:=Ph pF n) (J:=fR a b l j.1 j.2.1 j.2.2.1 j.2.2.2) (t:=.x 2) (u:=.bi .len [.x 0]) (v:=.bi .len [.x 1]) (i:=a.length) (j:=b.length) (aa rfl) (ir (aa rfl)) (ir (aa rfl)) (by rw[hl];exact bu _) (bu _);rw[h.2.1 a.length (aC _) b.length (aC _)]at ev;exact eG (cw (bh (ir (aa rfl)) (ir (aa rfl)) rfl) (fO (op:=.mul) Ev.cn ev rfl) rfl) (j9 h.1.sub q)
end
end
section
section
variable{α:Type}[DecidableEq α]
noncomputable def fB:Nat->List α->List (Nat×α)
 |_,[]=>[]
 |k,v::r=>(k,v)::fB (k+1) r
noncomputable def jB(l:List α):List α:=((fB 0 l).filter λp=>!decide (p.2∈l.take p.1)).map (·.2)
theorem FK(g:α->V):∀(l:List α)(k:Nat),(fB k l).map (λp=>V.tup [nI p.1,g p.2])=jW k (l.map g):=λrr=>li (λ_=>rfl)
 (λv r ih k=>congrArg (V.tup [nI k,g v]::·) (ih (k+1))) rr
theorem uK:∀(l:List α)(k:Nat),(fB k l).length=l.length:=λrr=>li (λ_=>rfl)
 (λv r ih k=>congrArg (·+1) (ih (k+1))) rr
theorem NJ{p:Nat×α}:∀{l:List α}{k:Nat},p∈fB k l->k<=p.1/\p.1<k+l.length:=λ{rr}=>@(li (λ{_}h=>nm h)
 (λv r ih{k}h=>by
  rcases cq.1 h with rfl|h
  ·exact⟨aC _,hF (fi _)⟩
  ·have z:=ih h;exact⟨cL z.1,(cH k r.length)▸z.2⟩) rr)
theorem O8:∀(l:List α)(k i:Nat)(h:i<l.length),(k+i,l[i])∈fB k l
 :=λl=>li (λ_ _ h=>absurd h (dM _)) (λv r ih k i=>nz (λ_=>fJ)
 (λi h=>kb _ ((cH k i)▸ih (k+1) i (ff h))) i) l
theorem EY(l:List α):(jB l).length<=l.length:=by
 unfold jB;rw[aY];exact ai (JT ..) (dA (uK l 0))
theorem Nb{l:List α}(h:jB l=l):∀i j(hi:i<l.length)(hj:j<l.length),l[i]=l[j]->i=j:=by
 have all:∀p,p∈fB 0 l->(!decide (p.2∈l.take p.1))=true:=by
  refine List.length_filter_eq_length_iff.1 ?_;have z:=congrArg rQ h;unfold jB at z;rw[aY]at z;rw[z,uK]
 have lt:∀i j(hi:i<l.length)(hj:j<l.length),i<j->l[i]≠l[j]:=λi j hi hj ij e=>by
  have w:=all _ (O8 l 0 j hj);rw[aU,decide_eq_true]at w
  ·exact bn w
  ·show l[j]∈l.take j;rw[<-e];exact List.mem_take_iff_getElem.2 ⟨i,MM.2 ⟨ij,hi⟩,rfl⟩
 intro i j hi hj e;rcases B1 i j with h|h|h
 ·exact absurd e (lt i j hi hj h)
 ·exact h
 ·exact absurd e.symm (lt j i hj hi h)
theorem Ts{g:α->V}(hg:∀a b,oO (g a) (g b)=some (decide (a=b)))(x:α):∀l:List α,nC (g x) (l.map g)=some (decide (x∈l)):=λrr=>li (by show some false = _;rw[decide_eq_false (KZ)])
 (λy r ih=>by
  show(oO (g y) (g x)).bind (λa=>(nC (g x) (r.map g)).map λb=>a||b) = _;rw[hg,ih];show some (decide (y=x)||decide (x∈r)) = _;by_cases c:y=x
  ·subst c;rw[decide_eq_true (p:=y=y) rfl,decide_eq_true (p:=y∈y::r) fJ];rfl
  ·rw[decide_eq_false c,Lz]
   congr 1
   by_cases d:x∈r
   ·rw[decide_eq_true d,decide_eq_true (kb _ d)]
   ·rw[decide_eq_false d,decide_eq_false λz=>(cq.1 z).elim (λe=>c e.symm) d]) rr
theorem y5{g:α->V}(hg:∀a b,oO (g a) (g b)=some (decide (a=b))){l:List α}(hz:l.length<=1000){n:Nat}{Z:ae}{Q:QV}(q:Q (.list ((jB l).map g)) Z):Ph pF (n+1) 13 [.list (l.map g)] Z Q:=by
 refine bN (J:=[some (.list (l.map g))]) rfl (lF ?_);have e:∀i,fq Z (.enum (.vals (l.map g))) i=some ((fB 0 l).map λp=>V.tup [nI p.1,g p.2])[i]?:=λi=>by rw[FK];exact y9 ..
 refine ao rfl (nT (fB 0 l) (λp=>.tup [nI p.1,g p.2]) (λp=>g p.2) (λp=>!decide (p.2∈l.take p.1)) (by rw[uK];exact ai hz (by decide)) e (λp hp=>⟨[some (.list (l.map g)),some (nI p.1),some (g p.2)],rfl,λQ q=>?_,λ_ Q q=>q⟩) ?_)
 ·have s:Ev (Ph pF n) (.l (.x 0) (.c .none) (.x 1)) [some (.list (l.map g)),some (nI p.1),some (g p.2)] Z (.list ((l.take p.1).map g)):=λQ q=>zu (aa rfl) (aa rfl) Q (by rw[uO,<-Cv];exact q);exact dj (op:=.notin) (aa rfl) s (show(nC (g p.2) ((l.take p.1).map g)).map _ = _ by rw[Ts hg];rfl) _ q
 ·have z:(nS (λp:Nat×α=>g p.2) ((fB 0 l).filter λp=>!decide (p.2∈l.take p.1)))=(jB l).map g:=by unfold jB;rw[ik];rfl
  rw[z];exact bX q
end
end
section
noncomputable def pre(f:Nat->Nat):Nat->Nat
 |0=>0
 |g+1=>pre f g+f g
noncomputable def bp(f:Nat->Nat)(a b:Nat):Nat->Nat:=putN (putN f b (f b+f a)) a 0
section
variable{f g:Nat->Nat}{a b n:Nat}
theorem D1:∀{i:Nat},(∀j,j<i->f j=g j)->pre f i=pre g i:=@λrr=>ni (@λ_=>rfl)
 (@λi ih h=>by show pre f i+f i=pre g i+g i;rw[ih λj q=>h j (eM q),h i (bu i)]) rr
theorem qp:bp f a b a=0:=if_pos rfl
theorem qo(h:a≠b):bp f a b b=f b+f a:=(if_neg h.symm).trans (if_pos rfl)
theorem jr{i:Nat}(h:i≠a)(k:i≠b):bp f a b i=f i:=(if_neg h).trans (if_neg k)
theorem yv{i:Nat}(h:i<=b):pre (bp f (b+1) b) i=pre f i:=D1 λj q=>jr (by exact λzz=>fS [_,_,_] [] [(-1,.en .v0 (.a .v1 .k1)),(1,.ln .v2 .v1),(1,.tn .v0 .v2)] rfl zz h q) (by exact λzz=>fS [_,_,_] [] [(-1,.en .v0 .v1),(1,.ln .v2 .v1),(1,.tn .v0 .v2)] rfl zz h q)
theorem D4:pre (bp f (b+1) b) (b+1)=pre f (b+1)+f (b+1):=by
 show pre (bp f (b+1) b) b+bp f (b+1) b b = _;rw[yv (aC b),qo (kh b),<-cu];rfl
theorem CW:∀k,pre (bp f (b+1) b) (b+2+k)=pre f (b+2+k):=λrr=>ni (by
  show pre (bp f (b+1) b) (b+1)+bp f (b+1) b (b+1) = _;rw[D4,qp];rfl)
 (λk ih=>by
  show pre (bp f (b+1) b) (b+2+k)+bp f (b+1) b (b+2+k) = _;rw[ih,jr (by exact λzz=>fS [_,_] [] [(1,.en (.a (.a .v0 (.k 2)) .v1) (.a .v0 .k1))] rfl zz) (by exact λzz=>fS [_,_] [] [(1,.en (.a (.a .v0 (.k 2)) .v1) .v0)] rfl zz)];rfl) rr
theorem yu{i:Nat}(h:i<=a):pre (bp f a (a+1)) i=pre f i:=D1 λj q=>jr (by exact λzz=>fS [_,_,_] [] [(-1,.en .v0 .v1),(1,.ln .v2 .v1),(1,.tn .v0 .v2)] rfl zz h q) (by exact λzz=>fS [_,_,_] [] [(-1,.en .v0 (.a .v1 .k1)),(1,.ln .v2 .v1),(1,.tn .v0 .v2)] rfl zz h q)
theorem D3:pre (bp f a (a+1)) (a+1)=pre f a:=by
 show pre (bp f a (a+1)) a+bp f a (a+1) a = _;rw[yu (aC a),qp];rfl
theorem CV:∀k,pre (bp f a (a+1)) (a+2+k)=pre f (a+2+k):=λrr=>ni (by
  show pre (bp f a (a+1)) (a+1)+bp f a (a+1) (a+1)=pre f a+f a+f (a+1);rw[D3,qo (kh a).symm,cb (f (a+1)),<-cu])
 (λk ih=>by
  show pre (bp f a (a+1)) (a+2+k)+bp f a (a+1) (a+2+k) = _;rw[ih,jr (by exact λzz=>fS [_,_] [] [(1,.en (.a (.a .v0 (.k 2)) .v1) .v0)] rfl zz) (by exact λzz=>fS [_,_] [] [(1,.en (.a (.a .v0 (.k 2)) .v1) (.a .v0 .k1))] rfl zz)];rfl) rr
structure KP(N:List Int)(n:Nat)(f g:Nat->Nat):Prop where
 sum:pre f n=pre g n
 at_:∀i,i+1<n->N[i+pre f (i+1)]?=N[i+pre g (i+1)]?
theorem KP.refl{N:List Int}:KP N n f f:=⟨rfl,λ_ _=>rfl⟩
theorem KP.trans{N:List Int}{h:Nat->Nat}(p:KP N n f g)(q:KP N n g h):KP N n f h:=⟨p.sum.trans q.sum,λi k=>(p.at_ i k).trans (q.at_ i k)⟩
theorem Ib{N:List Int}(hn:b+1<n)(e:N[b+pre f (b+1)]?=N[b+pre f (b+1)+f (b+1)]?):KP N n f (bp f (b+1) b):=by
 refine⟨?_,λi hi=>?_⟩
 ·obtain⟨k,rfl⟩:=bS (show b+2<=n from hn);exact(CW k).symm
 ·rcases B1 i b with h|h|h
  ·rw[yv (show i+1<=b from h)]
  ·subst h;rw[D4,<-cu];exact e
  ·refine bA (bS (show b+2<=i+1 from cK h)) λk hk=>?_;rw[hk,CW]
theorem Ia{N:List Int}(hn:a+1<n)(e:N[a+pre f a]?=N[a+pre f (a+1)]?):KP N n f (bp f a (a+1)):=by
 refine⟨?_,λi hi=>?_⟩
 ·obtain⟨k,rfl⟩:=bS (show a+2<=n from hn);exact(CV k).symm
 ·rcases B1 i a with h|h|h
  ·rw[yu (show i+1<=a from h)]
  ·subst h;rw[D3];exact e.symm
  ·refine bA (bS (show a+2<=i+1 from cK h)) λk hk=>?_;rw[hk,CV]
end
noncomputable def gz:Nat->List Bool->List Nat
 |k,[]=>[k]
 |k,b::r=>match b with
  |true=>gz (k+1) r
  |false=>k::gz 0 r
theorem H0:∀(G:List Bool)(k:Nat),gz k G≠[]
 |[],_=>λe=>nc e
 |true::r,k=>H0 r (k+1)
 |false::r,k=>λe=>nc e
end
section
theorem U4{C:ax}{J:aj}{Z:ae}{a b c:E}{u v w r:V}(h:Ev C a J Z u)(k:Ev C b J Z v)(m:Ev C c J Z w)(e:oP Z u v w=some r):Ev C (.l a b c) J Z r:=λQ q=>h _ (k _ (m _ (ao e q)))
theorem Fv{C:ax}{J:aj}{Z:ae}{a b e:E}{u v:V}{i j:Int}{rest:List S}{Q:QO}(h:Ev C a J Z u)(k:Ev C b J Z v)(g:eQ Z u v=some (.int i))(he:Ev C e J Z (.int j))(q:jx Z u v (.int (i+j)) λZ=>az C rest J Z Q):az C (.aug (.i a b) .add e::rest) J Z Q:=
 h _ (k _ (ao g (he _ (ao rfl q))))
structure ZR(N:List Int)(L:List Ln)(n:Nat)(o:Nat->Nat)where
 m:Nat
 Z:ae
 d:Nat
 z:Nat
 d2:Nat
 z2:Nat
 u:V
 v:V
 l:List V
 hd:Z d=some (.attrs 3 [(11,.list (vI N)),(12,.list (vY L)),(13,.ref z)])
 h2:Z d2=some (.attrs 3 [(11,u),(12,v),(13,.ref z2)])
 hz:Z z=some (.list l)
 ho:Z z2=some (.list (ck n o))
 zz:z2≠z
section
variable{N:List Int}{L:List Ln}{n:Nat}{o f:Nat->Nat}{a b g:Nat}
noncomputable def ZR.T(r:ZR N L n o)(f:Nat->Nat):ae:=ak r.Z r.z (.list (ck n f))
section
variable(r:ZR N L n o)
theorem ZR.at_d:r.T f r.d=some (.attrs 3 [(11,.list (vI N)),(12,.list (vY L)),(13,.ref r.z)]):=(aA (kO r.hd r.hz rfl)).trans r.hd
theorem ZR.at_2:r.T f r.d2=some (.attrs 3 [(11,r.u),(12,r.v),(13,.ref r.z2)]):=(aA (kO r.h2 r.hz rfl)).trans r.h2
theorem ZR.at_z:r.T f r.z=some (.list (ck n f)):=aP ..
theorem ZR.at_o:r.T f r.z2=some (.list (ck n o)):=(aA r.zz).trans r.ho
theorem ZR.set{g:Nat->Nat}:ak (r.T f) r.z (.list (ck n g))=r.T g:=by unfold ZR.T;rw[dX]
theorem ZR.size{C:ax}{J:aj}{e u:E}(he:Ev C e J (r.T f) (.inst 3 r.d))(hu:Ev C u J (r.T f) (nI g))(hg:g<n):Ev C (.i (.a e 13) u) J (r.T f) (nI (f g)):=
 bW (br he (dC r.at_d rfl rfl)) hu (kr r.at_z (ku hg))
theorem ZR.other{C:ax}{J:aj}{e u:E}(he:Ev C e J (r.T f) (.inst 3 r.d2))(hu:Ev C u J (r.T f) (nI g))(hg:g<n):Ev C (.i (.a e 13) u) J (r.T f) (nI (o g)):=
 bW (br he (dC r.at_2 rfl rfl)) hu (kr r.at_o (ku hg))
theorem Ow(hg:g<=n):aH (ck n f) 0 g=vI ((jN g).map λj=>((f j:Nat):Int)):=by
 rw[uO];unfold ck;rw[<-Cv,List.take_range,jh hg];show _ = nS V.int (nS _ _);rw[ik];rfl
theorem Td:∀g,cj ((jN g).map λj=>((f j:Nat):Int))=(pre f g:Nat):=by
 intro g;unfold cj;rw[aY,uo];have key:∀k,k<=g->pM (λi=>((jN g).map λj=>((f j:Nat):Int)).getD i 0) k=(pre f k:Nat):=by
  intro k;induction k with
  |zero=>exact λ_=>rfl
  |succ k ih=>
   intro h;show pM _ k+List.getD _ k 0 = _;rw[ih (cL h),fe,cO,Kj h];rfl
 exact key g (aC g)
theorem QK(hg:g<=n){Q:QV}(q:Q (nI (g+pre f g)) (r.T f)):Ph pF (r.m+1) 46 [.inst 3 r.d,nI g] (r.T f) Q:=by
 refine bN (J:=[some (.inst 3 r.d),some (nI g)]) rfl ?_;have e:oP (r.T f) (.ref r.z) .none (nI g)=some (.list (aH (ck n f) 0 g)):=by
  show((cc (r.T f) r.z).bind λl=>(e9 0 .none).bind λi=>(e9 l.length (nI g)).map λj=>V.list (aH l i j)) = _;rw[gV r.at_z];show(e9 (ck n f).length (nI g)).map (λj=>V.list (aH (ck n f) 0 j)) = _;rw[n6];rfl
 have es:Ev (Ph pF r.m) (.l (.a (.x 0) 13) (.c .none) (.x 1)) [some (.inst 3 r.d),some (nI g)] (r.T f) (.list (vI ((jN g).map λj=>((f j:Nat):Int)))):=λQ q=>
  U4 (br (aa rfl) (dC r.at_d rfl rfl)) Ev.cn (aa (v:=nI g) rfl) e Q (by rw[Ow hg];exact q)
 have s:Ev (Ph pF r.m) (.bi .sum [.l (.a (.x 0) 13) (.c .none) (.x 1)]) [some (.inst 3 r.d),some (nI g)] (r.T f) (nI (pre f g)):=λQ q=>kA (es _ (ao (a:=nI (pre f g)) (by
  show(eO (vI ((jN g).map λj=>((f j:Nat):Int)))).map _ = _;rw[qb];show some (V.int (cj _)) = _;rw[Td]) q))
 exact eG (bh (r:=((g+pre f g:Nat):Int)) (aa rfl) s rfl) (bX q)
theorem zm{J:aj}{e u:E}(he:Ev (Ph pF (r.m+1)) e J (r.T f) (.inst 3 r.d))(hu:Ev (Ph pF (r.m+1)) u J (r.T f) (nI g))(hg:g<=n):Ev (Ph pF (r.m+1)) (.h e 36 [u]) J (r.T f) (nI (g+pre f g)):=λQ q=>
 he _ (ao (cY r.at_d rfl) (hu _ (QK r hg q)))
theorem HE(ha:a<n)(hb:b<n)(ab:a≠b){Q:QV}(q:Q (nI b) (r.T (bp f a b))):Ph pF (r.m+1) 49 [.inst 3 r.d,nI a,nI b] (r.T f) Q:=by
 refine bN (J:=[some (.inst 3 r.d),some (nI a),some (nI b)]) rfl ?_;have s1:Ev (Ph pF r.m) (.a (.x 0) 13) [some (.inst 3 r.d),some (nI a),some (nI b)] (r.T f) (.ref r.z):=br (aa rfl) (dC r.at_d rfl rfl);refine Fv s1 (aa (v:=nI b) rfl) (i:=f b) (j:=f a) (kr r.at_z (ku hb)) (r.size (aa rfl) (aa rfl) ha) ?_;refine u9 (v:=nI (f b+f a)) r.at_z (by rw[jn];exact hb) ?_;rw[zi hb,r.set];refine bM (v:=nI 0) Ev.cn (vh (br (aa rfl) (dC r.at_d rfl rfl)) (aa (v:=nI a) rfl) (u9 r.at_z (by rw[jn];exact ha) ?_));rw[zi ha,r.set];exact eG (aa rfl) (bX q)
end
end
end
section
theorem UD{f:Nat->Nat}{i:Nat}:∀k,pre f i<=pre f (i+k):=λrr=>ni (aC _)
 (λk ih=>ai (ih) (aL _ _)) rr
def fm(N:List Int)(n:Nat)(f:Nat->Nat):Prop:=N.length+1=n+pre f n
section
variable{N:List Int}{L:List Ln}{n:Nat}{o f:Nat->Nat}{g:Nat}
theorem fm.top(h:fm N n f)(hg:g<n):g+pre f (g+1)<=N.length/\(g+1<n->g+pre f (g+1)<N.length):=by
 obtain⟨k,rfl⟩:=bS (show g+1<=n from hg);have:=UD (f:=f) (i:=g+1) k;have h:N.length+1=g+1+k+pre f (g+1+k):=h;exact⟨au [_,_,_,_,_] [] (.ln (.a .v0 .v1) .v2) 1 [(1,.ln .v1 .v4),(-1,.en (.a .v2 .k1) (.a (.a (.a .v0 .k1) .v3) .v4))] rfl this h,
  λl=>au [_,_,_,_,_] [] (.tn (.a .v0 .v1) .v2) 1 [(1,.ln .v1 .v4),(-1,.en (.a .v2 .k1) (.a (.a (.a .v0 .k1) .v3) .v4)),(1,.tn (.a .v0 .k1) (.a (.a .v0 .k1) .v3))] rfl this h l⟩
def ny(N:List Int)(f:Nat->Nat)(g:Nat):Prop:=0<g/\N[g+pre f g-1]?=N[g+pre f (g+1)-1]?
def ml(N:List Int)(n:Nat)(f:Nat->Nat)(g:Nat):Prop:=g+1<n/\N[g+pre f g]?=N[g+pre f (g+1)]?
theorem EG{C:ax}{J:aj}{Z:ae}{a b u v:E}{p q:Nat}(ha:Ev C a J Z (.list (vI N)))(hb:Ev C b J Z (.list (vI N)))(hu:Ev C u J Z (nI p))(hv:Ev C v J Z (nI q))(hp:p<N.length)(hq:q<N.length):aI C (.m .eq (.i a u) (.i b v)) J Z (N[p]?=N[q]?):=
 iu (kC (mM ha hu hp) (mM hb hv hq)) (vA hp hq)
theorem V8(hN:fm N n f)(hg:g<n)(hf:0<f g){t:Bool}(ht:t=true↔ny N f g)(r:ZR N L n o){Q:QV}(q:Q (.bool t) (r.T f)):Ph pF (r.m+2) 47 [.inst 3 r.d,nI g] (r.T f) Q:=by
 refine bN (J:=[some (.inst 3 r.d),some (nI g),none]) rfl (bM (zm r (aa rfl) (aa rfl) (cv hg)) ?_);have top:=(hN.top hg).1;have e1:pre f (g+1)=pre f g+f g:=rfl;have at7:Ev (Ph pF (r.m+1)) (.a (.x 0) 11) [some (.inst 3 r.d),some (nI g),some (nI (g+pre f g))] (r.T f) (.list (vI N)):=br (aa rfl) (dC r.at_d rfl rfl);have tv:aI (Ph pF (r.m+1)) (.o true [.m .gt (.x 1) (.c (.int 0)),.m .eq (.i (.a (.x 0) 11) (.b .sub (.x 2) (.c (.int 1)))) (.i (.a (.x 0) 11) (.b .sub (.b .add (.x 2) (.i (.a (.x 0) 13) (.x 1))) (.c (.int 1))))]) [some (.inst 3 r.d),some (nI g),some (nI (g+pre f g))] (r.T f) (ny N f g):=
  iV (iW (i:=g) (j:=0) (aa rfl) Ev.cn) λh0=>EG at7 at7 (jP (by exact au [_,_] [] (.tn .k0 (.a .v0 .v1)) 1 [(1,.tn .k0 .v0)] rfl h0) (aa rfl)) (jP (x:=g+pre f (g+1)) (by exact au [_,_] [] (.tn .k0 (.a .v0 .v1)) 1 [(1,.tn .k0 .v0)] rfl h0) (bh (i:=((g+pre f g:Nat):Int)) (j:=f g) (aa rfl) (r.size (aa rfl) (aa rfl) hg) (by rw[e1];exact bR [_,_,_] [] (.a (.c (.a .v0 .v1)) .c2) (.c (.a .v0 (.a .v1 .v2))) [] rfl))) (by exact au [_,_,_,_,_,_] [] (.tn .v0 .v1) 1 [(1,.tn .k0 .v2),(1,.ln (.a .v3 .v4) .v1),(-1,.en .v4 (.a .v5 .v2)),(1,.en (.a .v0 .k1) (.a .v3 .v5))] rfl hf top e1 (aZ (au [_,_] [] (.ln .k1 (.a .v0 .v1)) 1 [(1,.tn .k0 .v0)] rfl h0))) (by exact au [_,_,_,_] [] (.tn .v0 .v1) 1 [(1,.ln (.a .v2 .v3) .v1),(1,.en (.a .v0 .k1) (.a .v2 .v3))] rfl top (aZ (au [_,_] [] (.ln .k1 (.a .v0 .v1)) 1 [(1,.tn .k0 .v0)] rfl h0)))
 exact eG (jv tv ht) (bX q)
theorem VB(hN:fm N n f)(hg:g<n){t:Bool}(ht:t=true↔ml N n f g)(r:ZR N L n o){Q:QV}(q:Q (.bool t) (r.T f)):Ph pF (r.m+2) 48 [.inst 3 r.d,nI g] (r.T f) Q:=by
 refine bN (J:=[some (.inst 3 r.d),some (nI g),none]) rfl (bM (zm r (aa rfl) (aa rfl) (cv hg)) ?_);have e1:pre f (g+1)=pre f g+f g:=rfl;have at7:Ev (Ph pF (r.m+1)) (.a (.x 0) 11) [some (.inst 3 r.d),some (nI g),some (nI (g+pre f g))] (r.T f) (.list (vI N)):=br (aa rfl) (dC r.at_d rfl rfl);have ln:Ev (Ph pF (r.m+1)) (.bi .len [.a (.x 0) 13]) [some (.inst 3 r.d),some (nI g),some (nI (g+pre f g))] (r.T f) (nI n):=λQ q=>qk (br (aa rfl) (dC r.at_d rfl rfl)) r.at_z Q (by rw[jn];exact q);have tv:aI (Ph pF (r.m+1)) (.o true [.m .lt (.b .add (.x 1) (.c (.int 1))) (.bi .len [.a (.x 0) 13]),.m .eq (.i (.a (.x 0) 11) (.x 2)) (.i (.a (.x 0) 11) (.b .add (.x 2) (.i (.a (.x 0) 13) (.x 1))))]) [some (.inst 3 r.d),some (nI g),some (nI (g+pre f g))] (r.T f) (ml N n f g):=
  iV (eZ (i:=g+1) (bh (aa rfl) Ev.cn rfl) ln) λh1=>EG at7 at7 (aa rfl) (bh (i:=((g+pre f g:Nat):Int)) (j:=f g) (r:=((g+pre f (g+1):Nat):Int)) (aa rfl) (r.size (aa rfl) (aa rfl) hg) (by rw[e1];exact bR [_,_,_] [] (.a (.c (.a .v0 .v1)) .c2) (.c (.a .v0 (.a .v1 .v2))) [] rfl)) (bC (by rw[e1];exact au [_,_,_] [] (.ln (.a .v0 .v1) (.a .v0 (.a .v1 .v2))) 1 [] rfl) ((hN.top hg).2 h1)) ((hN.top hg).2 h1)
 exact eG (jv tv ht) (bX q)
noncomputable def i9(x:Ln):Bool:=lE (LD [32,9,10,13,11,12]) (HU (LD [32,9,10,13,11,12]) x)==[]
def mj(L:List Ln)(f:Nat->Nat)(g:Nat):Prop:=i9 (L.getD (g+pre f (g+1)-1) [])=true
theorem Vt(hN:fm N n f)(hL:L.length=N.length)(hg:g<n)(hf:0<f g){t:Bool}(ht:t=true↔mj L f g)(r:ZR N L n o){Q:QV}(q:Q (.bool t) (r.T f)):Ph pF (r.m+2) 50 [.inst 3 r.d,nI g] (r.T f) Q:=by
 have top:=(hN.top hg).1;have e1:pre f (g+1)=pre f g+f g:=rfl;have lt:g+pre f (g+1)-1<L.length:=by exact au [_,_,_,_,_] [] (.tn .v0 .v1) 1 [(-1,.en .v1 .v2),(1,.ln (.a .v3 .v4) .v2),(1,.en (.a .v0 .k1) (.a .v3 .v4))] rfl hL top (aZ (au [_,_,_,_] [] (.ln .k1 (.a .v0 .v1)) 1 [(1,.tn .k0 .v2),(-1,.en .v1 (.a .v3 .v2))] rfl hf e1))
 have at12:Ev (Ph pF (r.m+1)) (.a (.x 0) 12) [some (.inst 3 r.d),some (nI g),none] (r.T f) (.list (vY L)):=br (aa rfl) (dC r.at_d rfl rfl);have ix:Ev (Ph pF (r.m+1)) (.b .sub (.b .add (.h (.x 0) 36 [.x 1]) (.i (.a (.x 0) 13) (.x 1))) (.c (.int 1))) [some (.inst 3 r.d),some (nI g),none] (r.T f) (nI (g+pre f (g+1)-1)):=
  jP (x:=g+pre f (g+1)) (by exact au [_,_,_,_] [] (.tn .k0 (.a .v0 .v1)) 1 [(1,.tn .k0 .v2),(-1,.en .v1 (.a .v3 .v2))] rfl hf e1) (bh (i:=((g+pre f g:Nat):Int)) (j:=f g) (zm r (aa rfl) (aa rfl) (cv hg)) (r.size (aa rfl) (aa rfl) hg) (by rw[e1];exact bR [_,_,_] [] (.a (.c (.a .v0 .v1)) .c2) (.c (.a .v0 (.a .v1 .v2))) [] rfl))
 refine bN (J:=[some (.inst 3 r.d),some (nI g),none]) rfl (bM (bW (v:=.bytes (L.getD (g+pre f (g+1)-1) [])) at12 ix (jO (by rw[cO,fe,bL lt];rfl))) ?_);refine eG (v:=.bool t) (λQ q=>?_) (bX q);have e:i9 (L.getD (g+pre f (g+1)-1) [])=t:=by
  unfold mj at ht;cases t<;>cases h:i9 (L.getD (g+pre f (g+1)-1) [])<;>simp_all
 rw[<-e]at q;exact⟨rfl,q⟩
end
end
section
structure iO(N:List Int)(n:Nat)(f:Nat->Nat)(g top low:Nat):Prop where
 a:top<=g
 b:g<=low
 c:low<n
 z:∀t,top<=t->t<=low->t≠g->f t=0
 e:∀i,top+i<low->N[top+pre f top+i]?=N[top+pre f top+i+f g]?
structure jZ(n:Nat)(f0:Nat->Nat)(g₀:Nat)(f:Nat->Nat)(g:Nat):Prop where
 ex:∃lo hi,(lo<=g₀/\g₀<=hi/\lo<=g/\g<=hi/\hi<n)/\(∀t,lo<=t->t<=hi->t≠g->f t=0)/\∀t,t<lo\/hi<t->f t=f0 t
section
variable{N:List Int}{n:Nat}{f f0:Nat->Nat}{g g₀ b top low:Nat}
theorem Q3{u:Nat}:∀k,(∀t,u<=t->t<u+k->f t=0)->pre f (u+k)=pre f u:=λrr=>ni (λ_=>rfl)
 (λk ih h=>by
  show pre f (u+k)+f (u+k) = _;rw[ih λt a b=>h t a (eM b),h (u+k) (aL ..) (bu _)];rfl) rr
theorem iO.pre(h:iO N n f g top low):∀u,top<=u->u<=g->Internal.pre f u=Internal.pre f top:=λu h1 h2=>by
 obtain⟨k,rfl⟩:=bS h1;exact Q3 k λt p q=>h.z t p (ai (cv (aQ q h2)) h.b) (gR (aQ q h2))
theorem iO.up(h:iO N n f (b+1) top low)(l:top<b+1):iO N n (bp f (b+1) b) b top low/\KP N n f (bp f (b+1) b)/\bp f (b+1) b b=f (b+1)/\Internal.pre (bp f (b+1) b) top=Internal.pre f top:=by
 have tb:top<=b:=eV l;have fb:f b=0:=h.z b tb (cL h.b) (gR (bu b));have e1:bp f (b+1) b b=f (b+1):=by rw[qo (kh b),fb,aU]
 have e2:Internal.pre (bp f (b+1) b) top=Internal.pre f top:=yv tb;refine⟨⟨tb,cL h.b,h.c,λt p q r=>?_,λi hi=>by rw[e2,e1];exact h.e i hi⟩,Ib (bC h.b h.c) ?_,e1,e2⟩
 ·by_cases c:t=b+1
  ·rw[c];exact qp
  ·rw[jr c r];exact h.z t p q c
 ·rw[h.pre (b+1) (cv l) (aC _)];obtain⟨i,rfl⟩:=bS tb;rw[dK top i];exact h.e i (aQ (bu _) h.b)
theorem iO.dn(h:iO N n f g top low)(l:g<low):iO N n (bp f g (g+1)) (g+1) top low/\KP N n f (bp f g (g+1))/\bp f g (g+1) (g+1)=f g/\Internal.pre (bp f g (g+1)) top=Internal.pre f top:=by
 have fg:f (g+1)=0:=h.z (g+1) (fy h.a) l (kh g);have e1:bp f g (g+1) (g+1)=f g:=by rw[qo (kh g).symm,fg,aU]
 have e2:Internal.pre (bp f g (g+1)) top=Internal.pre f top:=yu h.a;refine⟨⟨fy h.a,l,h.c,λt p q r=>?_,λi hi=>by rw[e2,e1];exact h.e i hi⟩,Ia (bC l h.c) ?_,e1,e2⟩
 ·by_cases c:t=g
  ·rw[c];exact qp
  ·rw[jr c r];exact h.z t p q c
 ·show N[g+Internal.pre f g]?=N[g+(Internal.pre f g+f g)]?;rw[h.pre g h.a (aC g)];obtain⟨i,rfl⟩:=bS h.a;rw[dK top i,<-cu,dK top i];exact h.e i l
theorem iO.grow(h:iO N n f g top g)(hn:g+1<n)(e:N[g+Internal.pre f g]?=N[g+Internal.pre f (g+1)]?)(z:f (g+1)=0):iO N n f g top (g+1):=by
 refine⟨h.a,eN g,hn,λt p q r=>?_,λi hi=>?_⟩
 ·rcases jg q with q|q
  ·exact h.z t p (eV q) r
  ·rw[q];exact z
 ·rcases jg (eV hi) with q|q
  ·exact h.e i q
  ·have e':N[g+Internal.pre f g]?=N[g+(Internal.pre f g+f g)]?:=e;rw[h.pre g h.a (aC g),<-cu]at e';rw[dK top,q];exact e'
theorem jZ.first(hg:g<n):jZ n f g f g:=⟨g,g,⟨aC _,aC _,aC _,aC _,hg⟩,λt p q r=>absurd (cX q p) r,λ_ _=>rfl⟩
theorem mQ{t lo hi b:Nat}(q:t<lo\/hi<t)(h:lo<=b)(k:b<=hi):t≠b:=λe=>q.elim (λl=>bc.2 h (e▸l)) λl=>bc.2 k (e▸l)
theorem jZ.up(h:jZ n f0 g₀ f (b+1)):jZ n f0 g₀ (bp f (b+1) b) b:=by
 obtain⟨lo,hi,⟨h1,h2,h3,h4,h5⟩,hz,ho⟩:=h;have z:∀t,lo<=t->t<=hi->t≠b->bp f (b+1) b t=0:=λt p q r=>by
  by_cases c:t=b+1
  ·rw[c];exact qp
  ·rw[jr c r];exact hz t p q c
 by_cases c:lo<=b
 ·exact⟨lo,hi,⟨h1,h2,c,cL h4,h5⟩,z,λt q=>(jr (mQ q h3 h4) (mQ q c (cL h4))).trans (ho t q)⟩
 ·exact⟨b,hi,⟨by exact au [_,_,_] [] (.ln .v0 .v1) 1 [(1,.ln .v2 .v1),(1,.tn .v0 .v2)] rfl h1 (gT.1 c),h2,aC _,cL h4,h5⟩,λt p q r=>z t (ai h3 (hM p (nY r))) q r,λt q=>(jr (mQ q (eN b) h4) (mQ q (aC b) (cL h4))).trans (ho t (q.imp_left λl=>fL l (gT.1 c)))⟩
theorem jZ.dn(h:jZ n f0 g₀ f g)(hn:g+1<n):jZ n f0 g₀ (bp f g (g+1)) (g+1):=by
 obtain⟨lo,hi,⟨h1,h2,h3,h4,h5⟩,hz,ho⟩:=h;have z:∀t,lo<=t->t<=hi->t≠g+1->bp f g (g+1) t=0:=λt p q r=>by
  by_cases c:t=g
  ·rw[c];exact qp
  ·rw[jr c r];exact hz t p q c
 by_cases c:g+1<=hi
 ·exact⟨lo,hi,⟨h1,h2,fy h3,c,h5⟩,z,λt q=>(jr (mQ q h3 h4) (mQ q (fy h3) c)).trans (ho t q)⟩
 ·exact⟨lo,g+1,⟨h1,by exact au [_,_,_] [] (.ln .v0 (.a .v1 .k1)) 1 [(1,.ln .v0 .v2),(1,.tn .v2 (.a .v1 .k1))] rfl h2 (gT.1 c),fy h3,aC _,hn⟩,λt p q r=>z t p (ai (eV (hM q r)) h4) r,λt q=>(jr (mQ q h3 (eN g)) (mQ q (fy h3) (aC _))).trans (ho t (q.imp_right λl=>fL (gT.1 c) l))⟩
theorem jZ.behind(h:jZ n f0 g₀ f g){t:Nat}(l:g<t)(k:f t≠0):g₀<t/\f t=f0 t:=by
 refine cp h.ex λlo hi pp52_ hz ho=>?_;obtain⟨h1,h2,h3,h4,h5⟩:=pp52_;by_cases c:t<=hi
 ·exact absurd (hz t (ai h3 (cv l)) c (iq l)) k
 ·exact⟨bC h2 (pB c),ho t (.inr (pB c))⟩
theorem Al:∀{n:Nat},g<n->f g<=pre f n
 |n+1,h=>by
  show f g<=pre f n+f n;rcases jg (eV h) with h|h
  ·exact ai (Al h) (aL ..)
  ·rw[h];exact df ..
end
end
section
section
variable{N:List Int}{L:List Ln}{n:Nat}{o f f0:Nat->Nat}{g g₀ b size top:Nat}{bs:Int}
noncomputable def ZR.R(r:ZR N L n o)(g size top:Nat)(bs:Int)(v6:Option V):aj:=[some (.inst 3 r.d),some (nI g),some (.inst 3 r.d2),some (nI size),some (nI top),some (.int bs),v6]
noncomputable abbrev ZR.C(r:ZR N L n o):ax:=Ph pF (r.m+2)
noncomputable abbrev kQ:S:=.s (.v 1) (.h (.x 0) 39 [.x 1,.b .sub (.x 1) (.c (.int 1))])
noncomputable abbrev m9:S:=.s (.v 1) (.h (.x 0) 39 [.x 1,.b .add (.x 1) (.c (.int 1))])
noncomputable def ZR.at'(r:ZR N L n o)(k:Nat):ZR N L n o:=⟨k,r.Z,r.d,r.z,r.d2,r.z2,r.u,r.v,r.l,r.hd,r.h2,r.hz,r.ho,r.zz⟩
theorem sd{C:ax}{i:Nat}{e:E}{rest:List S}{J:aj}{Z:ae}{Q:QO}(h:WE C e J Z λx Z'=>az C rest (wr J i x) Z' Q):az C (.s (.v i) e::rest) J Z Q:=h
theorem AE{C:ax}{e a b:E}{self u v:V}{m f:Nat}{J:aj}{Z:ae}{Q:QV}(he:Ev C e J Z self)(hm:oq Z self m=some f)(ha:Ev C a J Z u)(hb:Ev C b J Z v)(h:C f [self,u,v] Z Q):WE C (.h e m [a,b]) J Z Q:=he _ (ao hm (ha _ (hb _ h)))
theorem zS(r:ZR N L n o){v6:Option V}(h:b+1<n){rest:List S}{Q:QO}(q:az r.C rest (r.R b size top bs v6) (r.T (bp f (b+1) b)) Q):az r.C (kQ::rest) (r.R (b+1) size top bs v6) (r.T f) Q:=
 sd (AE (u:=nI (b+1)) (v:=nI b) (aa rfl) (cY r.at_d rfl) (aa rfl) (vq (aa rfl)) (HE (r.at' (r.m+1)) h (nG h) (kh b) q))
theorem zR(r:ZR N L n o){v6:Option V}(h:g+1<n){rest:List S}{Q:QO}(q:az r.C rest (r.R (g+1) size top bs v6) (r.T (bp f g (g+1))) Q):az r.C (m9::rest) (r.R g size top bs v6) (r.T f) Q:=
 sd (AE (u:=nI g) (v:=nI (g+1)) (aa rfl) (cY r.at_d rfl) (aa rfl) (bh (aa rfl) Ev.cn rfl) (HE (r.at' (r.m+1)) (nG h) h (kh g).symm q))
structure GI(N:List Int)(n:Nat)(f0:Nat->Nat)(g₀:Nat)(f:Nat->Nat)(g:Nat):Prop where
 kp:KP N n f0 f
 vis:jZ n f0 g₀ f g
 pos:0<f g
 lt:g<n
theorem GI.fit(h:GI N n f0 g₀ f g)(F:fm N n f0):fm N n f:=by unfold fm at F ⊢;rw[<-h.kp.sum];exact F
theorem V7(h:ny N f (b+1)):N[b+pre f (b+1)]?=N[b+pre f (b+1)+f (b+1)]?:=by
 have e:=h.2;rw[show b+1+pre f (b+1)-1=b+pre f (b+1) by exact bE [_,_,_] [] .v0 (.a .v1 .v2) [(-1,.en (.a .v0 .k1) (.a (.a .v1 .k1) .v2))] rfl (aZ (au [_,_] [] (.ln .k1 (.a (.a .v0 .k1) .v1)) 1 [] rfl)),show b+1+pre f (b+1+1)-1=b+pre f (b+1)+f (b+1) by show b+1+(pre f (b+1)+f (b+1))-1 = _;exact bE [_,_,_,_] [] .v0 (.a (.a .v1 .v2) .v3) [(-1,.en (.a .v0 .k1) (.a (.a .v1 .k1) (.a .v2 .v3)))] rfl (aZ (au [_,_,_] [] (.ln .k1 (.a (.a .v0 .k1) (.a .v1 .v2))) 1 [] rfl))]at e;exact e
theorem GI.up(h:GI N n f0 g₀ f (b+1))(u:ny N f (b+1)):GI N n f0 g₀ (bp f (b+1) b) b/\f (b+1)<=bp f (b+1) b b:=by
 have e:bp f (b+1) b b=f b+f (b+1):=qo (kh b);exact⟨⟨h.kp.trans (Ib h.lt (V7 u)),h.vis.up,by rw[e];exact aQ h.pos (df ..),nG h.lt⟩,by rw[e];exact df ..⟩
theorem GI.dn(h:GI N n f0 g₀ f g)(u:ml N n f g):GI N n f0 g₀ (bp f g (g+1)) (g+1)/\bp f g (g+1) (g+1)=f (g+1)+f g:=by
 have e:bp f g (g+1) (g+1)=f (g+1)+f g:=qo (kh g).symm;exact⟨⟨h.kp.trans (Ia u.1 u.2),h.vis.dn u.1,by rw[e];exact aQ h.pos (df ..),u.1⟩,e⟩
theorem A3(p:Prop):∃t:Bool,t=true↔p:=by
 by_cases c:p
 ·exact⟨true,by simp[c]⟩
 ·exact⟨false,by simp[c]⟩
theorem V5(r:ZR N L n o)(F:fm N n f)(hg:g<n)(hf:0<f g){v6:Option V}:aI r.C (.h (.x 0) 37 [.x 1]) (r.R g size top bs v6) (r.T f) (ny N f g):=
 (A3 (ny N f g)).imp λt ht=>⟨ht,λQ q=>ao (cY r.at_d rfl) (V8 F hg hf ht r q)⟩
theorem VA(r:ZR N L n o)(F:fm N n f)(hg:g<n){v6:Option V}:aI r.C (.h (.x 0) 38 [.x 1]) (r.R g size top bs v6) (r.T f) (ml N n f g):=
 (A3 (ml N n f g)).imp λt ht=>⟨ht,λQ q=>ao (cY r.at_d rfl) (VB F hg ht r q)⟩
theorem Au(r:ZR N L n o)(F:fm N n f)(hL:L.length=N.length)(hg:g<n)(hf:0<f g){v6:Option V}:aI r.C (.h (.x 0) 40 [.x 1]) (r.R g size top bs v6) (r.T f) (mj L f g):=
 (A3 (mj L f g)).imp λt ht=>⟨ht,λQ q=>ao (cY r.at_d rfl) (Vt F hL hg hf ht r q)⟩
theorem Tr(F:fm N n f0)(h:GI N n f0 g₀ f g):∃f' g',GI N n f0 g₀ f' g'/\f g<=f' g'/\¬ny N f' g'/\∀(r:ZR N L n o)(size top:Nat)(bs:Int)v6(Q:QO),Q .next (r.R g' size top bs v6) (r.T f')->WS r.C (.whl (.h (.x 0) 37 [.x 1]) [kQ]) (r.R g size top bs v6) (r.T f) Q:=by
 obtain⟨⟨f',g'⟩,⟨h1,h2⟩,h3,run⟩:=fj (C:=λi:ZR N L n o×Nat×Nat×Int×Option V=>i.1.C) (c:=.h (.x 0) 37 [.x 1]) (b:=[kQ]) (λi(s:(Nat->Nat)×Nat)(_:Unit)=>i.1.R s.2 i.2.1 i.2.2.1 i.2.2.2.1 i.2.2.2.2) (λi s=>i.1.T s.1)
  (λs=>GI N n f0 g₀ s.1 s.2/\f g<=s.1 s.2) (λs=>s.2) (λs=>ny N s.1 s.2) (λs hs i _=>V5 i.1 (hs.1.fit F) hs.1.lt hs.1.pos)
  (λs=>q7 (λf'=>nz (λhs ht=>absurd ht.1 (gQ 0)) (λb hs ht=>
    have z:=hs.1.up ht
    ⟨(bp f' (b+1) b,b),⟨z.1,ai hs.2 z.2⟩,bu b,λi _ Q q=>zS i.1 hs.1.lt (q () _ (Sub.refl' _))⟩)) s) (f,g) ⟨h,aC _⟩
 exact⟨f',g',h1,h2,h3,λr size top bs v6 Q q=>run (r,size,top,bs,v6) () Q λ_=>q⟩
structure DI(N:List Int)(n:Nat)(o f0:Nat->Nat)(g₀ size top:Nat)(f:Nat->Nat)(g:Nat)(bs:Int):Prop where
 b:GI N n f0 g₀ f g
 tg:top<=g
 ge:size<=f g
 bsd:(bs = -1/\∀t,top<=t->t<=g->o t=0)\/∃t:Nat,bs=t/\top<=t/\t<=g/\0<o t
 fr:size<f g\/(f g=size/\iO N n f g top g/\¬(0<top/\N[top+pre f top-1]?=N[top+pre f top+f g-1]?))
noncomputable abbrev xj:S:=.ite (.m .gt (.i (.a (.x 2) 13) (.x 1)) (.c (.int 0))) [.s (.v 5) (.x 1)] []
theorem u5(r:ZR N L n o)(hg:g<n){v6:Option V}:aI r.C (.m .gt (.i (.a (.x 2) 13) (.x 1)) (.c (.int 0))) (r.R g size top bs v6) (r.T f) (0<o g):=iW (i:=o g) (j:=0) (r.other (aa rfl) (aa rfl) hg) Ev.cn
theorem Rz(h:DI N n o f0 g₀ size top f g bs)(u:ml N n f g):∃bs',DI N n o f0 g₀ size top (bp f g (g+1)) (g+1) bs'/\∀(r:ZR N L n o)v6(Q:QO),Q .next (r.R (g+1) size top bs' v6) (r.T (bp f g (g+1)))->az r.C [m9,xj] (r.R g size top bs v6) (r.T f) Q:=by
 refine aT (h.b.dn u) λz1 z2=>?_;have ge:size<=bp f g (g+1) (g+1):=by rw[z2];exact ai h.ge (df ..)
 have fr:size<bp f g (g+1) (g+1)\/(bp f g (g+1) (g+1)=size/\iO N n (bp f g (g+1)) (g+1) top (g+1)/\¬(0<top/\N[top+pre (bp f g (g+1)) top-1]?=N[top+pre (bp f g (g+1)) top+bp f g (g+1) (g+1)-1]?)):=by
  rcases h.fr with q|⟨q1,q2,q3⟩
  ·exact .inl (by rw[z2];exact aQ q (df ..))
  ·rcases BQ (f (g+1)) with c|c
   ·refine nD ((q2.grow u.1 u.2 c).dn (bu g)) λk1 k2 k3 k4=>?_;exact .inr ⟨k3.trans q1,k1,by rw[k4,k3];exact q3⟩
   ·exact .inl (by rw[z2,q1];exact xD c)
 by_cases c:0<o (g+1)
 ·exact⟨((g+1:Nat):Int),⟨z1,fy h.tg,ge,.inr ⟨g+1,rfl,fy h.tg,aC _,c⟩,fr⟩,λr v6 Q q=>zR r u.1 (aO (dF (u5 r u.1) c q))⟩
 ·refine⟨bs,⟨z1,fy h.tg,ge,h.bsd.imp (λw=>⟨w.1,λt a b=>(jg b).elim (λb=>w.2 t a (eV b)) λe=>e▸JI c⟩) λw=>o7 w λt a1 a2 a3 a4=>⟨t,a1,a2,fy a3,a4⟩,fr⟩,λr v6 Q q=>zR r u.1 (aO (bH (u5 r u.1) c q))⟩
theorem Ry(F:fm N n f0)(h:DI N n o f0 g₀ size top f g bs):∃f' g' bs',DI N n o f0 g₀ size top f' g' bs'/\¬ml N n f' g'/\∀(r:ZR N L n o)v6(Q:QO),Q .next (r.R g' size top bs' v6) (r.T f')->WS r.C (.whl (.h (.x 0) 38 [.x 1]) [m9,xj]) (r.R g size top bs v6) (r.T f) Q:=by
 obtain⟨⟨f',g',bs'⟩,h1,h3,run⟩:=fj (C:=λi:ZR N L n o×Option V=>i.1.C) (c:=.h (.x 0) 38 [.x 1]) (b:=[m9,xj]) (λi(s:(Nat->Nat)×Nat×Int)(_:Unit)=>i.1.R s.2.1 size top s.2.2 i.2) (λi s=>i.1.T s.1)
  (λs=>DI N n o f0 g₀ size top s.1 s.2.1 s.2.2) (λs=>n-s.2.1) (λs=>ml N n s.1 s.2.1) (λs hs i _=>VA i.1 (hs.b.fit F) hs.b.lt)
  (λs=>oX (λf' g' bs' hs ht=>ar (Rz (L:=L) hs ht) λbs2 k1 k2=>
   ⟨(bp f' g' (g'+1),g'+1,bs2),k1,kf hs.b.lt (bu g'),λi _ Q q=>k2 i.1 i.2 Q (q () _ (Sub.refl' _))⟩) s) (f,g,bs) h
 exact⟨f',g',bs',h1,h3,λr v6 Q q=>run (r,v6) () Q λ_=>q⟩
end
end
section
structure Mv(N:List Int)(n:Nat)(f0:Nat->Nat)(g₀ top low x s:Nat)(f:Nat->Nat)(g:Nat):Prop where
 gi:GI N n f0 g₀ f g
 fr:iO N n f g top low
 ex:top+pre f top=x
 es:f g=s
section
variable{N:List Int}{L:List Ln}{n:Nat}{o f f0:Nat->Nat}{g g₀ b size top low x s:Nat}{bs:Int}
theorem Mv.up(h:Mv N n f0 g₀ top low x s f (b+1))(l:top<b+1):Mv N n f0 g₀ top low x s (bp f (b+1) b) b:=by
 refine nD (h.fr.up l) λk1 k2 k3 k4=>?_;exact⟨⟨h.gi.kp.trans k2,h.gi.vis.up,by rw[k3];exact h.gi.pos,nG h.gi.lt⟩,k1,by rw[k4];exact h.ex,k3.trans h.es⟩
theorem Mv.dn(h:Mv N n f0 g₀ top low x s f g)(l:g<low):Mv N n f0 g₀ top low x s (bp f g (g+1)) (g+1):=by
 refine nD (h.fr.dn l) λk1 k2 k3 k4=>?_;have hn:g+1<n:=bC l h.fr.c;exact⟨⟨h.gi.kp.trans k2,h.gi.vis.dn hn,by rw[k3];exact h.gi.pos,hn⟩,k1,by rw[k4];exact h.ex,k3.trans h.es⟩
def Bk(L:List Ln)(top x s t:Nat):Prop:=i9 (L.getD (x+(t-top)+s-1) [])=true
theorem Mv.bl(h:Mv N n f0 g₀ top low x s f g):mj L f g↔Bk L top x s g:=by
 have e:g+pre f (g+1)-1=x+(g-top)+s-1:=congrArg (·-1) (by
  rw[show pre f (g+1)=pre f g+f g from rfl,h.fr.pre g h.fr.a (aC g),h.es,<-h.ex,<-cu,dK top,fv h.fr.a])
 unfold mj Bk;rw[e]
structure oJ(N:List Int)(L:List Ln)(n:Nat)(o f0:Nat->Nat)(g₀:Nat)(f:Nat->Nat)(g:Nat):Prop where
 gi:GI N n f0 g₀ f g
 ex:∃top low x s,Mv N n f0 g₀ top low x s f g/\¬(0<top/\N[x-1]?=N[x+s-1]?)/\¬(low+1<n/\N[x+(low-top)]?=N[x+(low-top)+s]?) /\
  ((∃t,top<=t/\t<=low/\0<o t)\/(Bk L top x s g/\∀t,g<t->t<=low->¬Bk L top x s t)\/(g=low/\∀t,top<=t->t<=low->¬Bk L top x s t))
theorem V9{t:Nat}(h:Mv N n f0 g₀ top low x s f g)(ht:top<=t)(tg:t<=g):∃f',Mv N n f0 g₀ top low x s f' t/\∀(r:ZR N L n o)(size:Nat)v6(Q:QO),Q .next (r.R t size top t v6) (r.T f')->WS r.C (.whl (.m .gt (.x 1) (.x 5)) [kQ]) (r.R g size top t v6) (r.T f) Q:=by
 obtain⟨⟨f',g'⟩,⟨h1,h2⟩,h3,run⟩:=fj (C:=λi:ZR N L n o×Nat×Option V=>i.1.C) (c:=.m .gt (.x 1) (.x 5)) (b:=[kQ]) (λi(w:(Nat->Nat)×Nat)(_:Unit)=>i.1.R w.2 i.2.1 top t i.2.2) (λi w=>i.1.T w.1)
  (λw=>Mv N n f0 g₀ top low x s w.1 w.2/\t<=w.2) (λw=>w.2) (λw=>t<w.2) (λw hw i _=>iW (aa rfl) (aa rfl))
  (λs=>q7 (λf'=>nz (λhw hl=>absurd hl (dM t)) (λb hw hl=>⟨(bp f' (b+1) b,b),⟨hw.1.up (bC ht hl),eV hl⟩,bu b,λi _ Q q=>zS i.1 hw.1.gi.lt (q () _ (Sub.refl' _))⟩)) s) (f,g) ⟨h,tg⟩
 have e:g'=t:=cX (bc.1 h3) h2;subst e;exact⟨f',h1,λr size v6 Q q=>run (r,size,v6) () Q λ_=>q⟩
theorem RA(h:Mv N n f0 g₀ top low x s f g):∃f',Mv N n f0 g₀ top low x s f' low/\∀(r:ZR N L n o)(size:Nat)bs(Q:QO),Q .next (r.R low size top bs (some (nI low))) (r.T f')->WS r.C (.whl (.m .lt (.x 1) (.x 6)) [m9]) (r.R g size top bs (some (nI low))) (r.T f) Q:=by
 obtain⟨⟨f',g'⟩,h1,h3,run⟩:=fj (C:=λi:ZR N L n o×Nat×Int=>i.1.C) (c:=.m .lt (.x 1) (.x 6)) (b:=[m9]) (λi(w:(Nat->Nat)×Nat)(_:Unit)=>i.1.R w.2 i.2.1 top i.2.2 (some (nI low))) (λi w=>i.1.T w.1)
  (λw=>Mv N n f0 g₀ top low x s w.1 w.2) (λw=>low-w.2) (λw=>w.2<low) (λw hw i _=>eZ (aa rfl) (aa rfl))
  (λs=>q7 (λf' g' hw hl=>⟨(bp f' g' (g'+1),g'+1),hw.dn hl,kf hl (bu g'),λi _ Q q=>zR i.1 (bC hl hw.fr.c) (q () _ (Sub.refl' _))⟩) s) (f,g) h
 have e:g'=low:=cX h1.fr.b (bc.1 h3);subst e;exact⟨f',h1,λr size bs Q q=>run (r,size,bs) () Q λ_=>q⟩
theorem QU(F:fm N n f0)(hL:L.length=N.length)(h:Mv N n f0 g₀ top low x s f low):∃f' g',Mv N n f0 g₀ top low x s f' g'/\(∀t,g'<t->t<=low->¬Bk L top x s t)/\¬(top<g'/\¬mj L f' g')/\∀(r:ZR N L n o)(size:Nat)bs(Q:QO),Q .next (r.R g' size top bs (some (nI low))) (r.T f') ->
   WS r.C (.whl (.o true [.m .gt (.x 1) (.x 4),.not (.h (.x 0) 40 [.x 1])]) [kQ]) (r.R low size top bs (some (nI low))) (r.T f) Q:=by
 obtain⟨⟨f',g'⟩,⟨h1,h2⟩,h3,run⟩:=fj (C:=λi:ZR N L n o×Nat×Int=>i.1.C) (c:=.o true [.m .gt (.x 1) (.x 4),.not (.h (.x 0) 40 [.x 1])]) (b:=[kQ]) (λi(w:(Nat->Nat)×Nat)(_:Unit)=>i.1.R w.2 i.2.1 top i.2.2 (some (nI low))) (λi w=>i.1.T w.1)
  (λw=>Mv N n f0 g₀ top low x s w.1 w.2/\∀t,w.2<t->t<=low->¬Bk L top x s t) (λw=>w.2) (λw=>top<w.2/\¬mj L w.1 w.2) (λw hw i _=>iV (iW (aa rfl) (aa rfl)) λ_=>vv (Au i.1 (hw.1.gi.fit F) hL hw.1.gi.lt hw.1.gi.pos))
  (λs=>q7 (λf'=>nz (λhw hl=>absurd hl.1 (dM top)) (λb hw hl=>⟨(bp f' (b+1) b,b),⟨hw.1.up hl.1,λt p q=>(jg (show b+1<=t from p)).elim (λp=>hw.2 t p q) λe=>e▸λz=>hl.2 (hw.1.bl.2 z)⟩,bu b,λi _ Q q=>zS i.1 hw.1.gi.lt (q () _ (Sub.refl' _))⟩)) s) (f,low) ⟨h,λt p q=>absurd p (bc.2 q)⟩
 exact⟨f',g',h1,h2,h3,λr size bs Q q=>run (r,size,bs) () Q λ_=>q⟩
end
end
section
section
variable{N:List Int}{L:List Ln}{n:Nat}{o f f0:Nat->Nat}{g g₀ size top:Nat}{bs:Int}
structure OI(N:List Int)(n:Nat)(o f0:Nat->Nat)(g₀:Nat)(f:Nat->Nat)(g size top:Nat)(bs:Int):Prop where
 gi:GI N n f0 g₀ f g
 ge:size<=f g
 fin:size≠f g\/(DI N n o f0 g₀ size top f g bs/\¬ml N n f g)
noncomputable abbrev A2:List S:=[.s (.v 3) (.i (.a (.x 0) 13) (.x 1)),.whl (.h (.x 0) 37 [.x 1]) [kQ],.s (.v 4) (.x 1),
   .s (.v 5) (.ite (.m .gt (.i (.a (.x 2) 13) (.x 1)) (.c (.int 0))) (.x 1) (.neg (.c (.int 1)))),.whl (.h (.x 0) 38 [.x 1]) [m9,xj]]
theorem QE(F:fm N n f0)(h:OI N n o f0 g₀ f g size top bs)(hs:size≠f g) :
  ∃f' g' top' bs',OI N n o f0 g₀ f' g' (f g) top' bs'/\(f g=f' g'\/f g<f' g')/\∀(r:ZR N L n o)v6(Q:QO),Q .next (r.R g' (f g) top' bs' v6) (r.T f')->az r.C A2 (r.R g size top bs v6) (r.T f) Q:=by
 refine xt (Tr (L:=L) (o:=o) F h.gi) λf₁ g₁ h1 h2 h3 run1=>?_;have hd:∀b',((b' = -1/\o g₁=0)\/(b'=(g₁:Int)/\0<o g₁))->DI N n o f0 g₀ (f g) g₁ f₁ g₁ b':=λb' hb=>by
  refine⟨h1,aC _,h2,hb.imp (λw=>⟨w.1,λt p q=>cX q p▸w.2⟩) λw=>⟨g₁,w.1,aC _,aC _,w.2⟩,?_⟩;rcases jg h2 with q|q
  ·exact .inl q
  ·refine .inr ⟨q.symm,⟨aC _,aC _,h1.lt,λt p q r=>absurd (cX q p) r,λi hi=>absurd hi (bc.2 (aL ..))⟩,λw=>h3 ⟨w.1,?_⟩⟩;rw[show pre f₁ (g₁+1)=pre f₁ g₁+f₁ g₁ from rfl,<-cu];exact w.2
 have step:∀b',((b' = -1/\o g₁=0)\/(b'=(g₁:Int)/\0<o g₁))->(∀(r:ZR N L n o)v6,Ev r.C (.ite (.m .gt (.i (.a (.x 2) 13) (.x 1)) (.c (.int 0))) (.x 1) (.neg (.c (.int 1)))) (r.R g₁ (f g) g₁ bs v6) (r.T f₁) (.int b')) ->
   ∃f' g' top' bs',OI N n o f0 g₀ f' g' (f g) top' bs'/\(f g=f' g'\/f g<f' g')/\∀(r:ZR N L n o)v6(Q:QO),Q .next (r.R g' (f g) top' bs' v6) (r.T f')->az r.C A2 (r.R g size top bs v6) (r.T f) Q:=λb' hb he=>by
  refine kR (Ry (L:=L) F (hd b' hb)) λf₂ g₂ b₂ k1 k2 run2=>?_;exact⟨f₂,g₂,g₁,b₂,⟨k1.b,k1.ge,.inr ⟨k1,k2⟩⟩,Nat.eq_or_lt_of_le k1.ge,λr v6 Q q=>bM (r.size (aa rfl) (aa rfl) h.gi.lt) (aO (run1 r (f g) top bs v6 _ (bM (aa rfl) (bM (he r v6) (iY (cE pF _) (run2 r v6 Q q))))))⟩
 by_cases c:0<o g₁
 ·exact step g₁ (.inr ⟨rfl,c⟩) λr v6 Q q=>iZ (u5 r h1.lt) c (aa (v:=nI g₁) rfl Q q)
 ·exact step (-1) (.inl ⟨rfl,JI c⟩) λr v6 Q q=>iy (u5 r h1.lt) c (by exact q)
theorem kF{C:ax}{J:aj}{Z:ae}:Ev C (.neg (.c (.int 1))) J Z (.int (-1)):=λQ q=>q
theorem Sv{p u v:Nat}(le:v<=p)(k:u=v\/u<v):2*(p-v)+(if u=v then 0 else 1)<2*(p-u)+1:=k.elim (λe=>by rw[if_pos e,e];exact bu _)
 λl=>by rw[if_neg (gR l)];exact uj (Jo (kf (aQ l le) l) (by decide)) 1
theorem Nk(F:fm N n f0)(hL:L.length=N.length)(hg:g₀<n)(hp:0<f0 g₀):∃f' g',oJ N L n o f0 g₀ f' g'/\∀(r:ZR N L n o)(Q:QV),Q (nI g') (r.T f')->Ph pF (r.m+3) 52 [.inst 3 r.d,nI g₀,.inst 3 r.d2] (r.T f0) Q:=by
 obtain⟨⟨f,g,size,top,bs⟩,hO,hs,run⟩:=fj (C:=λi:ZR N L n o×Option V=>i.1.C) (c:=.m .ne (.x 3) (.i (.a (.x 0) 13) (.x 1))) (b:=A2) (λi(w:(Nat->Nat)×Nat×Nat×Nat×Int)(_:Unit)=>i.1.R w.2.1 w.2.2.1 w.2.2.2.1 w.2.2.2.2 i.2) (λi w=>i.1.T w.1)
  (λw=>OI N n o f0 g₀ w.1 w.2.1 w.2.2.1 w.2.2.2.1 w.2.2.2.2) (λw=>2*(pre f0 n-w.1 w.2.1)+(if w.2.2.1=w.1 w.2.1 then 0 else 1)) (λw=>w.2.2.1≠w.1 w.2.1)
  (λw hw i _=>iu (qv (aa rfl) (i.1.size (aa rfl) (aa rfl) hw.gi.lt)) (not_congr kY))
  (λs=>XI (λf g size top bs hw hs=>by
   refine XT (QE (L:=L) F hw hs) λf' g' top' bs' k1 k2 k3=>?_;refine⟨(f',g',f g,top',bs'),k1,?_,λi _ Q q=>k3 i.1 i.2 Q (q () _ (Sub.refl' _))⟩;have le:=Al (f:=f') k1.gi.lt;rw[<-k1.gi.kp.sum]at le;have hs:size≠f g:=hs;have k2:f g=f' g'\/f g<f' g':=k2;show 2*(pre f0 n-f' g')+(if f g=f' g' then 0 else 1)<2*(pre f0 n-f g)+(if size=f g then 0 else 1);rw[if_neg hs];exact Sv le k2) s) (f0,g₀,0,g₀,-1) ⟨⟨.refl,.first hg,hp,hg⟩,bJ _,.inl (gR hp)⟩
 have es:size=f g:=Js hs;have hO:OI N n o f0 g₀ f g size top bs:=hO;refine aT (hO.fin.resolve_left λn=>n es) λhD hdn=>?_;refine g9 (hD.fr.resolve_left λz=>absurd es (gR z)) λe1 fr nu=>?_;have mv:Mv N n f0 g₀ top g (top+pre f top) (f g) f g:=⟨hO.gi,fr,rfl,rfl⟩
 have nd:¬(g+1<n/\N[top+pre f top+(g-top)]?=N[top+pre f top+(g-top)+f g]?):=λw=>hdn ⟨w.1,by
  have e2:g+pre f g=top+pre f top+(g-top):=by
   have t1_:=fr.pre g fr.a (aC g);have t2_:=fr.a;exact bE [_,_,_,_,_] [] (.a .v0 .v1) (.a (.a .v2 .v3) .v4) [(-1,.en .v1 .v3),(1,.en (.a .v4 .v2) .v0)] rfl t1_ (aZ t2_)
  rw[show g+pre f (g+1)=g+pre f g+f g from(cu ..).symm,e2];exact w.2⟩
 have first:∀(r:ZR N L n o)(Q:QV),az r.C [.ite (.m .ge (.x 5) (.c (.int 0))) [.whl (.m .gt (.x 1) (.x 5)) [kQ],.ret (.x 1)] [],.s (.v 6) (.x 1),.whl (.o true [.m .gt (.x 1) (.x 4),.not (.h (.x 0) 40 [.x 1])]) [kQ],
   .ite (.not (.h (.x 0) 40 [.x 1])) [.whl (.m .lt (.x 1) (.x 6)) [m9]] [],.ret (.x 1)] (r.R g size top bs none) (r.T f) (λo _ Z'=>∃v' Z'',Wk (jc o) Z' v' Z''/\Q v' Z'')->Ph pF (r.m+3) 52 [.inst 3 r.d,nI g₀,.inst 3 r.d2] (r.T f0) Q:=λr Q q=>
  bN (J:=[some (.inst 3 r.d),some (nI g₀),some (.inst 3 r.d2),none,none,none,none]) rfl (by
   refine sF (u:=.int 0) (v:=nI g₀) (w:=.int (-1)) (sG Ev.cn (aa rfl) kF) ?_;exact aO (run (r,none) () _ λ_=>q))
 have gev:∀(r:ZR N L n o)f v6,aI r.C (.m .ge (.x 5) (.c (.int 0))) (r.R g size top bs v6) (r.T f) (0<=bs):=λr f v6=>qu (aa rfl) Ev.cn;rcases hD.bsd with⟨hb,hz⟩|⟨t,rfl,t1,t2,t3⟩
 ·refine xt (QU (o:=o) F hL mv) λf₁ g₁ m1 m2 m3 run1=>?_;have nb:¬(0:Int)<=bs:=by rw[hb];decide
  by_cases c:mj L f₁ g₁
  ·exact⟨f₁,g₁,⟨m1.gi,top,g,_,_,m1,nu,nd,.inr (.inl ⟨m1.bl.1 c,m2⟩)⟩,λr Q q=>first r Q (aO (bH (gev r f none) nb (bM (aa rfl) (aO (run1 r size bs _ (aO (bH (vv (Au r (m1.gi.fit F) hL m1.gi.lt m1.gi.pos)) (λz=>z c) (eG (aa rfl) (bX q)))))))))⟩
  ·have e:g₁=top:=cX (bc.1 λz=>m3 ⟨z,c⟩) m1.fr.a;refine ar (RA (L:=L) (o:=o) m1) λf₂ m4 run2=>?_;refine⟨f₂,g,⟨m4.gi,top,g,_,_,m4,nu,nd,.inr (.inr ⟨rfl,λt a b=>?_⟩)⟩,λr Q q=>first r Q (aO (bH (gev r f none) nb (bM (aa rfl) (aO (run1 r size bs _ (aO (dF (vv (Au r (m1.gi.fit F) hL m1.gi.lt m1.gi.pos)) c (aO (run2 r size bs _ (eG (aa rfl) (bX q)))))))))))⟩;rcases jg a with a|a
   ·exact m2 t (e▸a) b
   ·exact λz=>c (m1.bl.2 (by
     have z':Bk L top (top+pre f top) (f g) top:=by rw[<-a]at z;exact z
     rw[e];exact z'))
 ·refine ar (V9 (L:=L) (o:=o) mv t1 t2) λf₁ m1 run1=>?_;exact⟨f₁,t,⟨m1.gi,top,g,_,_,m1,nu,nd,.inl ⟨t,t1,t2,t3⟩⟩,λr Q q=>first r Q (aO (dF (gev r f none) (eL t) (aO (run1 r size none _ (eG (aa rfl) (bX q))))))⟩
end
end
section
noncomputable def eJ(f:Nat->Nat):Nat->Nat->Nat
 |_,0=>0
 |a,k+1=>(if f a=0 then 0 else 1)+eJ f (a+1) k
section
variable{f f':Nat->Nat}
theorem OL:∀(k a:Nat),(∀t,a<=t->f' t≠0->f t≠0)->eJ f' a k<=eJ f a k:=λrr=>ni (λ_ _=>aC _)
 (λk ih a h=>by
  refine fh ?_ (ih (a+1) λt p=>h t (cL p));by_cases c:f' a=0
  ·rw[if_pos c];exact bJ _
  ·rw[if_neg c,if_neg (h a (aC a) c)];exact aC _) rr
theorem OM:∀(j a k:Nat),eJ f (a+j) k<=eJ f a (j+k):=λrr=>ni (λa k=>by rw[aU];exact aC _)
 (λj ih a k=>by
  rw[mB j k,<-cH a j];exact ai (ih (a+1) k) (df ..)) rr
theorem ON:∀(j a k:Nat),(∀t,a<=t->t<a+j->f t=0)->eJ f a (j+k)=eJ f (a+j) k:=λrr=>ni (λa k _=>by rw[aU];rfl)
 (λj ih a k h=>by
  rw[mB j k,<-cH a j];show(if f a=0 then 0 else 1)+eJ f (a+1) (j+k) = _;rw[if_pos (h a (aC a) (hF (fi j))),aU];exact ih (a+1) k λt p q=>h t (cL p) (by exact au [_,_,_] [] (.tn .v0 (.a .v1 (.a .v2 .k1))) 1 [(1,.tn .v0 (.a (.a .v1 .k1) .v2))] rfl q)) rr
end
section
variable{N:List Int}{L:List Ln}{n:Nat}{o f f0:Nat->Nat}
theorem QW{f':Nat->Nat}{g g':Nat}(hg:g<n)(hp:0<f g)(h:GI N n f g f' g'):eJ f' (g'+1) (n-(g'+1))<eJ f g (n-g):=by
 have e:n-g=(n-(g+1))+1:=by exact bE [_,_,_,_] [] .v0 (.a .v1 .k1) [(-1,.en (.a .v0 .v2) .v3),(1,.en (.a .v1 (.a .v2 .k1)) .v3)] rfl (aZ (au [_,_] [] (.ln .v0 .v1) 1 [(1,.tn .v0 .v1)] rfl hg)) (aZ (au [_,_] [] (.ln (.a .v0 .k1) .v1) 1 [(1,.tn .v0 .v1)] rfl hg))
 rw[e];show _<(if f g=0 then 0 else 1)+eJ f (g+1) (n-(g+1));rw[if_neg (iq hp),cb 1 (eJ f (g+1) (n-(g+1)))];refine pA ?_;have mono:∀a,g'<a->∀k,eJ f' a k<=eJ f a k:=λa ha k=>OL k a λt p z=>by
  have w:=h.vis.behind (aQ ha p) z;rw[<-w.2];exact z
 rcases nN g' g with c|c
 ·obtain⟨j,rfl⟩:=bS (show g'+1<=g from c);have e2:n-(g'+1)=(j+1)+(n-(g'+1+j+1)):=by exact bE [_,_,_,_,_] [] .v0 (.a (.a .v1 .k1) .v2) [(-1,.en (.a .v0 (.a .v3 .k1)) .v4),(1,.en (.a .v2 (.a (.a (.a .v3 .k1) .v1) .k1)) .v4)] rfl (aZ (au [_,_,_] [] (.ln (.a .v0 .k1) .v1) 1 [(1,.tn (.a (.a .v0 .k1) .v2) .v1)] rfl hg)) (aZ (au [_,_,_] [] (.ln (.a (.a (.a .v0 .k1) .v1) .k1) .v2) 1 [(1,.tn (.a (.a .v0 .k1) .v1) .v2)] rfl hg))
  rw[e2,ON (j+1) (g'+1) _ λt p q=>Js λz=>by
   have w:=(h.vis.behind (aQ (bu g') p) z).1;exact fS [_,_,_] [] [(1,.tn .v0 (.a (.a .v1 .k1) (.a .v2 .k1))),(1,.tn (.a (.a .v1 .k1) .v2) .v0)] rfl q w]
  exact mono _ (by exact au [_,_] [] (.tn .v0 (.a (.a .v0 .k1) (.a .v1 .k1))) 1 [] rfl) _
 ·obtain⟨j,rfl⟩:=bS c;have l:=h.lt;have e2:n-(g+1)=j+(n-(g+j+1)):=by exact bE [_,_,_,_,_] [] .v0 (.a .v1 .v2) [(-1,.en (.a .v0 (.a .v3 .k1)) .v4),(1,.en (.a .v2 (.a (.a .v3 .v1) .k1)) .v4)] rfl (aZ (au [_,_,_] [] (.ln (.a .v0 .k1) .v1) 1 [(1,.tn (.a .v0 .v2) .v1)] rfl l)) (aZ (au [_,_,_] [] (.ln (.a (.a .v0 .v1) .k1) .v2) 1 [(1,.tn (.a .v0 .v1) .v2)] rfl l))
  rw[e2,dK g j 1];exact ai (mono _ (by exact au [_,_] [] (.tn (.a .v0 .v1) (.a (.a .v0 .k1) .v1)) 1 [] rfl) _) (OM j (g+1) _)
noncomputable def ZR.R2(r:ZR N L n o)(g:Nat):aj:=[some (.inst 3 r.d),some (.inst 3 r.d2),some (nI g)]
theorem D9(F:fm N n f0)(hL:L.length=N.length)(Jaa:Nat->(Nat->Nat)->Prop)(h0:Jaa 0 f0)(skip:∀g f,g<n->Jaa g f->f g=0->Jaa (g+1) f)(set:∀g f f' g',g<n->Jaa g f->0<f g->oJ N L n o f g f' g'->Jaa (g'+1) f') :
  ∃f',Jaa n f'/\KP N n f0 f'/\∀(r:ZR N L n o)(Q:QV),Q .none (r.T f')->Ph pF (r.m+4) 53 [.inst 3 r.d,.inst 3 r.d2] (r.T f0) Q:=by
 obtain⟨⟨f',g⟩,⟨hJ,hk,hg⟩,hs,run⟩:=fj (C:=λr:ZR N L n o=>Ph pF (r.m+3)) (c:=.m .lt (.x 2) (.bi .len [.a (.x 0) 13])) (b:=[.ite (.m .gt (.i (.a (.x 0) 13) (.x 2)) (.c (.int 0))) [.s (.v 2) (.h (.x 0) 42 [.x 2,.x 1])] [],.aug (.v 2) .add (.c (.int 1))])
  (λr(w:(Nat->Nat)×Nat)(_:Unit)=>r.R2 w.2) (λr w=>r.T w.1) (λw=>Jaa w.2 w.1/\KP N n f0 w.1/\w.2<=n) (λw=>eJ w.1 w.2 (n-w.2)*(n+1)+(n-w.2)) (λw=>w.2<n)
  (λw hw r _=>eZ (aa rfl) (λQ q=>qk (br (aa rfl) (dC r.at_d rfl rfl)) r.at_z Q (by rw[jn];exact q)))
  (λs=>q7 (λf g hw hl=>by
   refine g9 hw λhJ hk hg=>?_;have hl:g<n:=hl;have F':fm N n f:=by unfold fm at F ⊢;rw[<-show pre f0 n=pre f n from hk.sum];exact F
   have tv:∀r:ZR N L n o,aI (Ph pF (r.m+3)) (.m .gt (.i (.a (.x 0) 13) (.x 2)) (.c (.int 0))) (r.R2 g) (r.T f) (0<f g):=λr=>iW (i:=f g) (j:=0) (r.size (aa rfl) (aa rfl) hl) Ev.cn;rcases BQ (f g) with c|c
   ·refine⟨(f,g+1),⟨skip g f hl hJ c,hk,hl⟩,?_,λr _ Q q=>aO (bH (tv r) (bc.2 (dA c)) (q () _ (Sub.refl' _)))⟩;have e:n-g=(n-(g+1))+1:=by exact bE [_,_,_,_] [] .v0 (.a .v1 .k1) [(-1,.en (.a .v0 .v2) .v3),(1,.en (.a .v1 (.a .v2 .k1)) .v3)] rfl (aZ hg) (aZ (au [_,_] [] (.ln (.a .v0 .k1) .v1) 1 [(1,.tn .v0 .v1)] rfl hl))
    have u:eJ f g (n-g)=eJ f (g+1) (n-(g+1)):=by
     rw[e];show(if f g=0 then 0 else 1)+eJ f (g+1) (n-(g+1)) = _;rw[if_pos c,aU]
    show eJ f (g+1) (n-(g+1))*(n+1)+(n-(g+1))<eJ f g (n-g)*(n+1)+(n-g);rw[u,e];exact bu _
   ·refine hE (Nk (L:=L) (o:=o) F' hL hl c) λf₁ g₁ k1 k2=>?_;refine⟨(f₁,g₁+1),⟨set g f f₁ g₁ hl hJ c k1,hk.trans k1.gi.kp,k1.gi.lt⟩,?_,λr _ Q q=>aO (dF (tv r) c (sd (AE (aa rfl) (cY r.at_d rfl) (aa rfl) (aa rfl) (k2 r _ ?_))))⟩
    ·have u:=QW hl c k1.gi;show eJ f₁ (g₁+1) (n-(g₁+1))*(n+1)+(n-(g₁+1))<eJ f g (n-g)*(n+1)+(n-g);have z:=Nat.mul_le_mul_right (n+1) (show eJ f₁ (g₁+1) (n-(g₁+1))+1<=eJ f g (n-g) from u);rw[Nat.succ_mul]at z;exact au [_,_,_,_,_,_] [] (.tn (.a .v0 .v1) (.a .v2 .v3)) 1 [(1,.tn .v4 .v5),(1,.ln (.a .v0 (.a .v5 .k1)) .v2),(1,.ln .v1 .v5),(1,.ln .v5 (.a .v3 .v4))] rfl hl z XJ cW
    ·exact q () _ (Sub.refl' _)) s) (f0,0) ⟨h0,.refl,bJ n⟩
 have e:g=n:=cX hg (bc.1 hs);subst e;exact⟨f',hJ,hk,λr Q q=>bN (J:=[some (.inst 3 r.d),some (.inst 3 r.d2),none]) rfl (bM (v:=nI 0) Ev.cn (iY (cE pF _) (run r () _ λ_=>bX q)))⟩
end
end
section
noncomputable def iN:List Int->List Bool->List Int
 |[],_=>[]
 |a::A,G=>match G with
  |[]=>[]
  |b::G=>match b with
   |true=>iN A G
   |false=>a::iN A G
noncomputable def fz(s:List Nat):Nat->Nat:=λi=>s.getD i 0
theorem zh(k:Nat)(s:List Nat):∀i,pre (fz (k::s)) (i+1)=k+pre (fz s) i:=λrr=>ni (aU k)
 (λi ih=>by
  show pre (fz (k::s)) (i+1)+fz (k::s) (i+1)=k+(pre (fz s) i+fz s i);rw[ih,cu];rfl) rr
theorem F7:∀(G:List Bool)(A P:List Int),A.length=G.length->∀i,i+1<(gz P.length G).length->(iN A G)[i]?=(P++A)[i+pre (fz (gz P.length G)) (i+1)]?
 :=λG=>li (λA P _ i hi=>absurd hi (by show ¬(i+1<1);exact λzz=>fS [_] [] [(1,.tn (.a .v0 .k1) .k1)] rfl zz))
 (λb G ih A P=>lz (λh=>absurd h.symm (B9 _)) (λa A=>Ei (motive:=λb=>(a::A).length=(b::G).length->∀i,i+1<(gz P.length (b::G)).length->(iN (a::A) (b::G))[i]?=(P++(a::A))[i+pre (fz (gz P.length (b::G))) (i+1)]?) (λh i hi=>by
  show(a::iN A G)[i]?=(P++a::A)[i+pre (fz (P.length::gz 0 G)) (i+1)]?;rw[zh];cases i with
  |zero=>
   show some a=(P++a::A)[0+(P.length+0)]?;rw[aU,jL,mw (aC _),CG];rfl
  |succ i=>
   have z:=ih A [] (iI h) i (ff hi);show(iN A G)[i]? = _;rw[z,uu,mw (by exact au [_,_,_] [] (.ln .v0 (.a (.a .v1 .k1) (.a .v0 .v2))) 1 [] rfl),show i+1+(P.length+pre (fz (gz 0 G)) (i+1))-P.length=(i+pre (fz (gz 0 G)) (i+1))+1 by exact bE [_,_,_,_] [] .v0 (.a (.a .v1 .v2) .k1) [(-1,.en (.a .v0 .v3) (.a (.a .v1 .k1) (.a .v3 .v2)))] rfl (aZ (au [_,_,_] [] (.ln .v0 (.a (.a .v1 .k1) (.a .v0 .v2))) 1 [] rfl))];rfl)
 (λh i hi=>by
  have z:=ih A (P++[a]) (iI h) i;rw[bB,eU]at z;exact z hi) b) A) G
theorem vW:∀(G:List Bool)(k:Nat),k+G.length+1=(gz k G).length+pre (fz (gz k G)) (gz k G).length
 |[],k=>by show k+0+1=1+(0+k);exact bE [_] [] (.a (.a .v0 .k0) .k1) (.a .k1 (.a .k0 .v0)) [] rfl
 |true::G,k=>by
  have z:=vW G (k+1);show k+(G.length+1)+1=(gz (k+1) G).length+pre (fz (gz (k+1) G)) (gz (k+1) G).length;exact bE [_,_,_,_] [] (.a (.a .v0 (.a .v1 .k1)) .k1) (.a .v2 .v3) [(-1,.en (.a (.a (.a .v0 .k1) .v1) .k1) (.a .v2 .v3))] rfl z
 |false::G,k=>by
  have z:=vW G 0;show k+(G.length+1)+1=(gz 0 G).length+1+pre (fz (k::gz 0 G)) ((gz 0 G).length+1);rw[zh];exact bE [_,_,_,_] [] (.a (.a .v0 (.a .v1 .k1)) .k1) (.a (.a .v2 .k1) (.a .v0 .v3)) [(-1,.en (.a (.a .k0 .v1) .k1) (.a .v2 .v3))] rfl z
theorem uW:∀(G:List Bool)(A:List Int)(k:Nat),A.length=G.length->(iN A G).length+1=(gz k G).length
 :=λG=>li (λA k _=>lz rfl (λ_ _=>rfl) A) (λb G ih A k=>lz (λh=>absurd h.symm (B9 _)) (λa A=>Ei (λh=>congrArg (·+1) (ih A 0 (iI h))) (λh=>ih A (k+1) (iI h)) b) A) G
theorem ER{A B:List Int}{G H:List Bool}(lA:A.length=G.length)(lB:B.length=H.length){x y X Y c d:Nat}(h:bg A B G H x y X Y c d):X=G.length->Y=H.length->iN (A.drop x) (G.drop x)=iN (B.drop y) (H.drop y):=by
 have key:∀{A:List Int}{G:List Bool}{x:Nat}{b:Bool},A.length=G.length->G[x]?=some b->∃a,A[x]?=some a/\iN (A.drop x) (G.drop x)=if b=true then iN (A.drop (x+1)) (G.drop (x+1)) else a::iN (A.drop (x+1)) (G.drop (x+1)):=λ{A G x b}l e=>by
  obtain⟨hx,e⟩:=iR.1 e;have hA:x<A.length:=l▸hx;refine⟨A[x],bL hA,?_⟩;rw[jJ hx,jJ hA,e];cases b<;>rfl
 induction h with
 |nil=>rintro rfl rfl;rw[<-lA,kX,<-lB,kX];rfl
 |keep e g k _ ih=>
  intro a b;refine ar (key lA g) λu u1 u2=>?_;refine ar (key lB k) λv v1 v2=>?_;rw[u1,v1]at e;rw[u2,v2,if_neg (by decide),if_neg (by decide),ih a b,di e]
 |out g _ ih=>
  intro a b;refine ar (key lA g) λu u1 u2=>?_;rw[u2,if_pos rfl];exact ih a b
 |inn k _ ih=>
  intro a b;refine ar (key lB k) λv v1 v2=>?_;rw[v2,if_pos rfl];exact ih a b
noncomputable def bU(f:Nat->Nat)(n:Nat):Nat->List Bool
 |0=>[]
 |k+1=>bU f n k++aR (f k) true++if k+1<n then [false] else []
section
variable{f:Nat->Nat}{n:Nat}
theorem zP:∀k,k<n->(bU f n k).length=k+pre f k:=λrr=>ni (λ_=>rfl)
 (λk ih h=>by
  show(bU f n k++aR (f k) true++if k+1<n then [false] else []).length = _;rw[if_pos h,bB,bB,ih (nG h),dw];show k+pre f k+f k+1=k+1+(pre f k+f k);exact bE [_,_,_] [] (.a (.a (.a .v0 .v1) .v2) .k1) (.a (.a .v0 .k1) (.a .v1 .v2)) [] rfl) rr
theorem vG(h:0<n):(bU f n n).length+1=n+pre f n:=by
 obtain⟨k,rfl⟩:=xB h;rw[aU];show(bU f (k+1) k++aR (f k) true++if k+1<k+1 then [false] else []).length+1 = _;rw[if_neg (gQ _),gP,bB,zP k (bu k),dw];show k+pre f k+f k+1=k+1+(pre f k+f k);exact bE [_,_,_] [] (.a (.a (.a .v0 .v1) .v2) .k1) (.a (.a .v0 .k1) (.a .v1 .v2)) [] rfl
theorem zQ:∀m k,∃t,bU f n (k+m)=bU f n k++t:=λrr=>ni (λk=>⟨[],(gP _).symm⟩)
 (λm ih k=>(ih k).elim λt h=>⟨t++(aR (f (k+m)) true++if k+m+1<n then [false] else []),by
  show bU f n (k+m)++aR (f (k+m)) true++(if k+m+1<n then [false] else []) = _;rw[h,eU,eU]⟩) rr
theorem sq{k i:Nat}(hk:k<n)(h1:k+pre f k<=i)(h2:i<k+pre f (k+1)):(bU f n n)[i]?=some true:=by
 obtain⟨m,rfl⟩:=bS (show k+1<=n from hk);obtain⟨t,e⟩:=zQ (f:=f) (n:=k+1+m) m (k+1);rw[e];have l:=zP (f:=f) k hk;show((bU f (k+1+m) k++aR (f k) true++_)++t)[i]? = _;have h2:i<k+(pre f k+f k):=h2;rw[eU,eU,mw (by exact au [_,_,_,_] [] (.ln .v0 .v1) 1 [(1,.ln (.a .v2 .v3) .v1),(1,.en .v0 (.a .v2 .v3))] rfl h1 l),ua (by rw[dw];exact au [_,_,_,_,_,_] [] (.tn .v0 .v1) 1 [(-1,.en .v2 (.a .v3 .v4)),(1,.tn .v5 (.a .v3 (.a .v4 .v1))),(1,.en (.a .v0 .v2) .v5)] rfl l h2 (aZ (au [_,_,_,_] [] (.ln .v0 .v1) 1 [(1,.ln (.a .v2 .v3) .v1),(1,.en .v0 (.a .v2 .v3))] rfl h1 l))),pj,if_pos (by exact au [_,_,_,_,_,_] [] (.tn .v0 .v1) 1 [(-1,.en .v2 (.a .v3 .v4)),(1,.tn .v5 (.a .v3 (.a .v4 .v1))),(1,.en (.a .v0 .v2) .v5)] rfl l h2 (aZ (au [_,_,_,_] [] (.ln .v0 .v1) 1 [(1,.ln (.a .v2 .v3) .v1),(1,.en .v0 (.a .v2 .v3))] rfl h1 l)))]
theorem uM{k:Nat}(hk:k+1<n):(bU f n n)[k+pre f (k+1)]?=some false:=by
 obtain⟨m,rfl⟩:=bS (show k+1<=n from cv hk);obtain⟨t,e⟩:=zQ (f:=f) (n:=k+1+m) m (k+1);rw[e];have l:=zP (f:=f) k (nG hk);show((bU f (k+1+m) k++aR (f k) true++if k+1<k+1+m then [false] else [])++t)[k+(pre f k+f k)]? = _;rw[if_pos hk,eU,mw (by rw[bB,dw];exact au [_,_,_,_] [] (.ln (.a .v0 .v1) (.a .v2 (.a .v3 .v1))) 1 [(1,.en .v0 (.a .v2 .v3))] rfl l),bB,dw,show k+(pre f k+f k)-((bU f (k+1+m) k).length+f k)=0 by exact bE [_,_,_,_,_] [] .v0 .k0 [(1,.en .v1 (.a .v2 .v3)),(-1,.en (.a .v0 (.a .v1 .v4)) (.a .v2 (.a .v3 .v4)))] rfl l (aZ (au [_,_,_,_] [] (.ln (.a .v0 .v1) (.a .v2 (.a .v3 .v1))) 1 [(1,.en .v0 (.a .v2 .v3))] rfl l))];rfl
end
theorem PN{A B:List Int}{f h:Nat->Nat}{n:Nat}(F:∀i,i+1<n->A[i+pre f (i+1)]?=B[i+pre h (i+1)]?):∀k,k<n->bg A B (bU f n n) (bU h n n) 0 0 (k+pre f k) (k+pre h k) (pre f k) (pre h k):=λrr=>ni (λ_=>.nil)
 (λk ih hk=>by
  have kn:=nG hk;have z:=((ih kn).append (bg.marks (k:=f k) (l:=h k) (λi a b=>sq kn a (by show i<k+(pre f k+f k);exact au [_,_,_,_] [] (.tn .v0 (.a .v1 (.a .v2 .v3))) 1 [(1,.tn .v0 (.a (.a .v1 .v2) .v3))] rfl b)) λi a b=>sq kn a (by show i<k+(pre h k+h k);exact au [_,_,_,_] [] (.tn .v0 (.a .v1 (.a .v2 .v3))) 1 [(1,.tn .v0 (.a (.a .v1 .v2) .v3))] rfl b))).append
   (.keep (by have w:=F k hk;rw[show k+pre f (k+1)=k+pre f k+f k from(cu ..).symm,show k+pre h (k+1)=k+pre h k+h k from(cu ..).symm]at w;exact w) (by have w:=uM (f:=f) hk;rw[show k+pre f (k+1)=k+pre f k+f k from(cu ..).symm]at w;exact w) (by have w:=uM (f:=h) hk;rw[show k+pre h (k+1)=k+pre h k+h k from(cu ..).symm]at w;exact w) .nil)
  rw[aU,aU,cb (f k),cb (h k)]at z;rw[show k+1+pre f (k+1)=k+pre f k+f k+1 by show k+1+(pre f k+f k) = _;exact bE [_,_,_] [] (.a (.a .v0 .k1) (.a .v1 .v2)) (.a (.a (.a .v0 .v1) .v2) .k1) [] rfl,show k+1+pre h (k+1)=k+pre h k+h k+1 by show k+1+(pre h k+h k) = _;exact bE [_,_,_] [] (.a (.a .v0 .k1) (.a .v1 .v2)) (.a (.a (.a .v0 .v1) .v2) .k1) [] rfl];exact z) rr
end
theorem Ov(s:List Nat):s.map nI=ck s.length (fz s):=by
 refine xT λi=>?_;by_cases c:i<s.length
 ·rw[ku c,cO,bL c,fz,fe,bL c];rfl
 ·rw[fI (by rw[aY];exact bc.1 c),fI (by rw[jn];exact bc.1 c)]
theorem z7{C:ax}{e a:E}{g:Nat}{l:List V}{v:V}{rest:List S}{J:aj}{Z:ae}{Q:QO}(he:Ev C e J Z (.ref g))(hg:Z g=some (.list l))(ha:Ev C a J Z v)(hl:l.length<aJ)(q:az C rest J (ak Z g (.list (l++[v]))) Q):az C (.ex (.bm e .append [a])::rest) J Z Q:=
 he _ ⟨i7 hg rfl,ha _ (gj (ky hg hl (ao rfl q)))⟩
theorem QC{Z:ae}{g:Nat}{l:List V}{u v:V}{Q:ae->Prop}(e:Z g=some (.list (l++[u])))(q:Q (ak Z g (.list (l++[v])))):jx Z (.ref g) (.int (-1)) v Q:=
 ao (a:=g) rfl (ao e (ao (a:=(-1:Int)) rfl (.inr ⟨rfl,λz=>(nc (rg.1 z).2),by
  rw[bB,List.set_append_right _ _ (by show l.length<=l.length+1-1;exact au [_,_] [] (.ln .v0 .v1) 1 [(1,.ln (.a .v0 .k1) (.a .v1 .k1))] rfl cW),show l.length+[u].length-1-l.length=0 by show l.length+1-1-l.length=0;exact bE [_,_,_] [] .v0 .k0 [(-1,.en (.a .v0 .v1) .v2),(-1,.en (.a .v2 .k1) (.a .v1 .k1))] rfl (aZ (au [_,_] [] (.ln .v0 .v1) 1 [(1,.ln (.a .v0 .k1) (.a .v1 .k1))] rfl cW)) (aZ (au [_] [] (.ln .k1 (.a .v0 .k1)) 1 [] rfl))];exact q⟩)))
theorem Qb{n d g:Nat}{Z:ae}{N:List Int}{L:List Ln}{G:List Bool}(hd:Z d=none)(hg:Z g=some (.list (vB G)))(hz:G.length<=1000){Q:QV}
  (q:∀z,z≠d->Z z=none->Q .none (ak (ak Z d (.attrs 3 [(11,.list (vI N)),(12,.list (vY L)),(13,.ref z)])) z (.list ((gz 0 G).map nI)))):Ph pF (n+1) 45 [.inst 3 d,.list (vI N),.ref g,.list (vY L)] (ak Z d (.attrs 3 [])) Q:=by
 refine bN rfl (gU (aP ..) rfl (dR rfl) (gU (aP ..) rfl (dR rfl) λz hzz=>?_));have zd:z≠d:=λe=>by rw[e,aP]at hzz;cases hzz
 have z0:Z z=none:=by rw[aA zd,aA zd,aA zd]at hzz;exact hzz
 have gd:g≠d:=λe=>by rw[e,hd]at hg;exact nn hg
 have gz':g≠z:=λe=>by rw[e,z0]at hg;exact nn hg
 refine gU ((aA zd.symm).trans (aP ..)) rfl (dR rfl) ?_;have e0:ak (ak (ak (ak (ak Z d (.attrs 3 [])) d (.attrs 3 (setA [] 11 (.list (vI N))))) d (.attrs 3 (setA (setA [] 11 (.list (vI N))) 12 (.list (vY L))))) z (.list [nI 0])) d (.attrs 3 (setA (setA (setA [] 11 (.list (vI N))) 12 (.list (vY L))) 13 (.ref z)))=ak (ak Z d (.attrs 3 [(11,.list (vI N)),(12,.list (vY L)),(13,.ref z)])) z (.list [nI 0]):=by
  rw[dX,dX,jR zd,dX];rfl
 show az _ _ _ (ak _ d _) _;refine(congrArg (λs=>az (Ph pF n) [.for (.v 4) (.seq (.x 2)) [.ite (.x 4) [.aug (.i (.a (.x 0) 13) (.neg (.c (.int 1)))) .add (.c (.int 1))] [.ex (.bm (.a (.x 0) 13) .append [.c (.int 0)])]]] [some (.inst 3 d),some (.list (vI N)),some (.ref g),some (.list (vY L)),none] s λo _ Z'=>∃v' Z'',Wk (jc o) Z' v' Z''/\Q v' Z'') e0).mpr ?_;generalize hS:ak Z d (.attrs 3 [(11,.list (vI N)),(12,.list (vY L)),(13,.ref z)])=S at q ⊢
 have dS:S d=some (.attrs 3 [(11,.list (vI N)),(12,.list (vY L)),(13,.ref z)]):=by rw[<-hS];exact aP ..
 have gS:∀m,cc (ak S z m) g=some (vB G):=λm=>gV ((aA gz').trans (by rw[<-hS];exact(aA gd).trans hg));have e1:wV (ak S z (.list [nI 0])) (.ref g)=some (.live g):=by show(cc _ g).map _ = _;rw[gS];rfl
 have aS:∀{m:M}{C:ax}{J:aj},rd J 0=some (.inst 3 d)->Ev C (.a (.x 0) 13) J (ak S z m) (.ref z):=λh=>br (aa h) (dC ((aA zd.symm).trans dS) rfl rfl);refine ao e1 (qL (cE pF _) (l:=G) (f:=V.bool) (λ(_:List Nat×Nat)v4=>[some (.inst 3 d),some (.list (vI N)),some (.ref g),some (.list (vY L)),v4]) (λs=>ak S z (.list (s.1.map nI++[nI s.2]))) (λi s=>gz 0 G=s.1++gz s.2 (G.drop i)/\s.1.length<=i) (λs k i h=>?_) (λi hi s j h=>ao (a:=[some (.inst 3 d),some (.list (vI N)),some (.ref g),some (.list (vY L)),some (.bool G[i])]) rfl λQ qq=>?_) (λs j h=>?_) (s:=([],0)) (j:=none) ⟨rfl,aC _⟩)
 ·show(cc _ g).map _ = _;rw[gS];rfl
 ·have hG:=h.1;rw[jJ hi]at hG;have tv:aI (Ph pF n) (.x 4) [some (.inst 3 d),some (.list (vI N)),some (.ref g),some (.list (vY L)),some (.bool G[i])] (ak S z (.list (s.1.map nI++[nI s.2]))) (G[i]=true):=⟨_,sD,aa rfl⟩
  by_cases c:G[i]=true
  ·rw[c]at hG;refine aO (dF tv c (Fv (i:=s.2) (j:=1) (aS rfl) kF (r7 (aP ..) (BE ..)) Ev.cn (QC (aP ..) ?_)));rw[dX];exact qq (s.1,s.2+1) (some (.bool G[i])) ⟨hG,fy h.2⟩
  ·rw[Bool.not_eq_true _ |>.mp c]at hG;refine aO (bH tv c (z7 (v:=.int 0) (aS rfl) (aP ..) Ev.cn ?_ ?_))
   ·rw[bB,aY];exact bC (cK h.2) (bC (Nat.succ_le_of_lt (aQ hi hz)) (by decide))
   ·rw[dX];have z1:=qq (s.1++[s.2],0) (some (.bool G[i])) ⟨by rw[hG,eU];rfl,by rw[bB];exact cK h.2⟩;rw[dy]at z1;exact z1
 ·rw[kX]at h;refine bX ?_;have z1:=q z zd z0;rw[hS,h.1,dy]at z1;exact z1
section
section
variable{N:List Int}{L:List Ln}{n:Nat}{o f:Nat->Nat}
theorem Ek{l m:List V}(h:l.length+m.length<=aJ):tH .add (.list l) (.list m)=some (.list (l++m)):=if_pos h
theorem vV{C:ax}{e c:E}{v:V}{k:Nat}{J:aj}{Z:ae}(he:Ev C e J Z v)(hc:Ev C c J Z (nI k))(hk:k<=1000):Ev C (.rep false [e] c) J Z (.list (aR k v)):=λQ q=>
 he _ (hc _ (ao (a:=(k:Int)) rfl ⟨by rw[hU];show 1*k<=aJ;rw[CP];exact ai hk (by decide),gB.2 (ai hk (by decide)),ko (by decide) (eL k),by rw[hU,Gr];exact q⟩))
theorem HN(k:Nat)(b:Bool):aR k (V.bool b)=vB (aR k b):=(Kx ..).symm
theorem NR{C:ax}{e:E}{t:T}{b:List S}{J:aj}{Z:ae}{Q:QO}{g:Nat}{l:List V}(he:Ev C e J Z (.ref g))(hg:Z g=some (.list l))(h:∃n,bZ (.enum (.live g)) t (λJ Z Q=>az C b J Z Q) Q n 0 J Z):WS C (.for t (.enum e) b) J Z Q:=
 he _ (ao (a:=IS.live g) (by show(cc Z g).map _ = _;rw[gV hg];rfl) h)
noncomputable abbrev Ur:List S:=[.s (.v 1) (.b .add (.b .add (.x 1) (.rep false [.c (.bool true)] (.x 3))) (.rep false [.c (.bool false)] (.bi .int [.m .lt (.b .add (.x 2) (.c (.int 1))) (.bi .len [.a (.x 0) 13])])))]
theorem Us(h:n+pre f n<=1000):∀{k},k<=n->(bU f n k).length<=1000:=λ{k}hk=>by
 obtain⟨m,rfl⟩:=bS hk;obtain⟨t,e⟩:=zQ (f:=f) (n:=k+m) m k;rcases BQ (k+m) with z|z
 ·have:k=0:=by exact cX (au [_,_] [] (.ln .v0 .k0) 1 [(1,.en (.a .v0 .v1) .k0)] rfl z) (au [_] [] (.ln .k0 .v0) 1 [] rfl)
  subst this;exact bJ _
 ·have l:=vG (f:=f) z;rw[e,bB]at l;exact au [_,_,_,_,_] [] (.ln .v0 (.k 1000)) 1 [(1,.ln (.a (.a .v1 .v2) .v3) (.k 1000)),(1,.en (.a (.a .v0 .v4) .k1) (.a (.a .v1 .v2) .v3))] rfl h l
theorem EU(h:n+pre f n<=1000)(r:ZR N L n o){Q:QV}(q:Q (.list (vB (bU f n n))) (r.T f)):Ph pF (r.m+1) 51 [.inst 3 r.d] (r.T f) Q:=by
 obtain⟨s,hs,run⟩:=Ac (C:=λr:ZR N L n o=>Ph pF r.m) (b:=Ur) (t:=.tup [2,3]) (jW 0 (ck n f)) (λr=>.enum (.live r.z)) (λr(s:List Bool)(j:Option V×Option V)=>[some (.inst 3 r.d),some (.list (vB s)),j.1,j.2]) (λr _=>r.T f) (λk s=>s=bU f n k)
  (λr _ k=>by rw[pX,aU];show((cc (r.T f) r.z).map _).map _ = _;rw[gV r.at_z];rfl)
  (λk v s hv hs=>by
   rw[pX,aU]at hv;cases w:(ck n f)[k]? with
   |none=>rw[w]at hv;exact nn hv
   |some x=>
    have hk:k<n:=by have:=(iR.1 w).1;rw[jn]at this;exact this
    rw[ku hk]at w;injection w with w;subst w
    rw[ku hk]at hv;injection hv with hv;subst hv
    subst hs;refine⟨bU f n (k+1),rfl,λr j Q qq=>?_⟩;have fk:f k<=1000:=ai (Al hk) (ai (df ..) h);have l1:=Us h (cv hk);have ln:Ev (Ph pF r.m) (.bi .len [.a (.x 0) 13]) [some (.inst 3 r.d),some (.list (vB (bU f n k))),some (nI k),some (nI (f k))] (r.T f) (nI n):=λQ q=>qk (br (aa rfl) (dC r.at_d rfl rfl)) r.at_z Q (by rw[jn];exact q);have lid':aJ=1048576:=rfl;have e1:Ev (Ph pF r.m) (.b .add (.x 1) (.rep false [.c (.bool true)] (.x 3))) [some (.inst 3 r.d),some (.list (vB (bU f n k))),some (nI k),some (nI (f k))] (r.T f) (.list (vB (bU f n k++aR (f k) true))):=
     fO (aa rfl) (vV Ev.cn (aa rfl) fk) (by rw[Ek (by rw[aY,dw];exact au [_,_,_] [] (.ln (.a .v0 .v1) .v2) 1 [(1,.ln .v1 (.k 1000)),(1,.ln .v0 (.k 1000)),(-1,.en .v2 (.k 1048576))] rfl fk l1 lid'),HN,<-dy])
    have tv:aI (Ph pF r.m) (.m .lt (.b .add (.x 2) (.c (.int 1))) (.bi .len [.a (.x 0) 13])) [some (.inst 3 r.d),some (.list (vB (bU f n k))),some (nI k),some (nI (f k))] (r.T f) (k+1<n):=eZ (i:=k+1) (bh (aa rfl) Ev.cn rfl) ln;have e2:Ev (Ph pF r.m) (.bi .int [.m .lt (.b .add (.x 2) (.c (.int 1))) (.bi .len [.a (.x 0) 13])]) [some (.inst 3 r.d),some (.list (vB (bU f n k))),some (nI k),some (nI (f k))] (r.T f) (nI (if k+1<n then 1 else 0)):=tv.elim λb w Q q=>kA (w.2 _ (by
     cases b with
     |true=>rw[if_pos (w.1.1 rfl)]at q;exact q
     |false=>rw[if_neg (λz=>by have:=w.1.2 z;exact bn this)]at q;exact q))
    refine bM (fO (op:=.add) e1 (vV Ev.cn e2 (by split<;>decide)) (v:=.list (vB (bU f n (k+1)))) ?_) (qq (_,_) _ (Sub.refl' _));rw[Ek (by rw[aY,bB,dw,dw];exact ai (kU (by split<;>decide:_<=1) _) (au [_,_,_] [] (.ln (.a (.a .v0 .v1) .k1) .v2) 1 [(1,.ln .v1 (.k 1000)),(1,.ln .v0 (.k 1000)),(-1,.en .v2 (.k 1048576))] rfl fk l1 lid')),HN,<-dy];show some (V.list (vB (_++_)))=some (V.list (vB (_++_)))
    congr 4
    split<;>rfl) [] rfl
 rw[yE,jn]at hs;subst hs;refine bN (J:=[some (.inst 3 r.d),none,none,none]) rfl (bM (v:=.list []) (λQ q=>q) ?_);exact aO (NR (br (aa rfl) (dC r.at_d rfl rfl)) r.at_z (run r (none,none) _ λj=>eG (aa rfl) (bX q)))
end
end
noncomputable def tY(p:List Bool×List Bool)(c:Cg):List Bool×List Bool:=(cU p.1 c.1 (c.2.1-c.1),cU p.2 c.2.2.1 (c.2.2.2-c.2.2.1))
noncomputable def lT(cs:List Cg)(p:List Bool×List Bool):List Bool×List Bool:=cs.foldl tY p
theorem y8:∀(cs:List Cg)(p:List Bool×List Bool),(lT cs p).1.length=p.1.length/\(lT cs p).2.length=p.2.length:=λrr=>li (λ_=>⟨rfl,rfl⟩)
 (λc cs ih p=>⟨(ih (tY p c)).1.trans (nW ..),(ih (tY p c)).2.trans (nW ..)⟩) rr
def lW(G:List Bool)(n at':Nat)(cs:List Cg)(lo hi:Cg->Nat):Prop:=∀i,at'<=i->i<n->((∃c,c∈cs/\lo c<=i/\i<hi c)->G[i]?=some true)/\((¬∃c,c∈cs/\lo c<=i/\i<hi c)->G[i]?=some false)
theorem D8{G:List Bool}{x k i:Nat}{b:Bool}(h:G[i]?=some b):(cU G x k)[i]?=some (if x<=i/\i<x+k then true else b):=by
 rw[qf,h];by_cases c:x<=i/\i<x+k
 ·rw[if_pos c,if_pos c];rfl
 ·rw[if_neg c,if_neg c]
theorem EW:∀(cs:List Cg)(p:List Bool×List Bool)(i:Nat)(b b':Bool),(p.1[i]?=some b->(((∃c,c∈cs/\c.1<=i/\i<c.2.1)\/b=true)->(lT cs p).1[i]?=some true)/\(¬((∃c,c∈cs/\c.1<=i/\i<c.2.1)\/b=true)->(lT cs p).1[i]?=some false)) /\
  (p.2[i]?=some b'->(((∃c,c∈cs/\c.2.2.1<=i/\i<c.2.2.2)\/b'=true)->(lT cs p).2[i]?=some true)/\(¬((∃c,c∈cs/\c.2.2.1<=i/\i<c.2.2.2)\/b'=true)->(lT cs p).2[i]?=some false)):=λrr=>li (λp i b b'=>by
  refine⟨λh=>⟨λq=>?_,λq=>?_⟩,λh=>⟨λq=>?_,λq=>?_⟩⟩
  ·rcases q with⟨c,hc,_⟩|q
   ·exact nm hc
   ·rw[<-q];exact h
  ·cases b
   ·exact h
   ·exact absurd (.inr rfl) q
  ·rcases q with⟨c,hc,_⟩|q
   ·exact nm hc
   ·rw[<-q];exact h
  ·cases b'
   ·exact h
   ·exact absurd (.inr rfl) q)
 (λc cs ih₁ p i b b'=>by
  have ih:=ih₁ (tY p c) i (if c.1<=i/\i<c.1+(c.2.1-c.1) then true else b) (if c.2.2.1<=i/\i<c.2.2.1+(c.2.2.2-c.2.2.1) then true else b');have key:∀(lo hi:Cg->Nat)(b:Bool),((∃d,d∈c::cs/\lo d<=i/\i<hi d)\/b=true)↔((∃d,d∈cs/\lo d<=i/\i<hi d)\/(if lo c<=i/\i<lo c+(hi c-lo c) then true else b)=true):=λlo hi b=>by
   by_cases q:lo c<=i/\i<lo c+(hi c-lo c)
   ·rw[if_pos q];exact⟨λ_=>.inr rfl,λ_=>.inl ⟨c,fJ,q.1,pB λz=>gQ _ (aQ (Nat.sub_lt_left_of_lt_add q.1 q.2) (rA z _))⟩⟩
   ·rw[if_neg q];refine⟨λh=>h.imp (λz_=>ar z_ λd d1 d2=>?_) id,λh=>h.imp (λz_=>ar z_ λd d1 d2=>⟨d,kb _ d1,d2⟩) id⟩;rcases cq.1 d1 with e|d1
    ·subst e;exact absurd ⟨d2.1,by exact au [_,_,_,_] [] (.tn .v0 (.a .v1 .v2)) 1 [(1,.tn .v0 .v3),(1,.ln .v3 (.a .v2 .v1))] rfl d2.2 cW⟩ q
    ·exact⟨d,d1,d2⟩
  refine⟨λh=>?_,λh=>?_⟩
  ·have z:=ih.1 (D8 h);rw[key (λc=>c.1) (λc=>c.2.1) b];exact z
  ·have z:=ih.2 (D8 h);rw[key (λc=>c.2.2.1) (λc=>c.2.2.2) b'];exact z) rr
theorem FG(cs:List Cg)(n m:Nat):lW (lT cs (aR n false,aR m false)).1 n 0 cs (λc=>c.1) (λc=>c.2.1)/\lW (lT cs (aR n false,aR m false)).2 m 0 cs (λc=>c.2.2.1) (λc=>c.2.2.2):=by
 refine⟨λi _ hi=>?_,λi _ hi=>?_⟩
 ·have z:=(EW cs (aR n false,aR m false) i false false).1 (vM hi);exact⟨λq=>z.1 (.inl q),λq=>z.2 λw=>w.elim q λe=>bn e⟩
 ·have z:=(EW cs (aR n false,aR m false) i false false).2 (vM hi);exact⟨λq=>z.1 (.inl q),λq=>z.2 λw=>w.elim q λe=>bn e⟩
theorem Hv{a b:List Ln}:∀{cs:List Cg}{fst:Bool}{at' to:Nat},ee a b fst at' to cs->∀c,c∈cs->at'<=c.1/\to<=c.2.2.1/\c.1<=c.2.1/\c.2.2.1<=c.2.2.2/\c.2.1<=a.length/\c.2.2.2<=b.length:=λ{rr}=>@(li (λ{_}{_}{_}_ _ h=>nm h)
 (λc cs ih{fst}{at'}{to}h d hd=>(cq.1 hd).elim (λe=>by rw[e];exact⟨h.1.l,h.1.yy,h.1.o,h.1.i,h.1.ha,h.1.hb⟩) λhd=>
  have z:=ih h.2 d hd
  ⟨ai h.1.l (ai h.1.o z.1),ai h.1.yy (ai h.1.i z.2.1),z.2.2⟩) rr)
theorem Qd{a b:List Ln}{i j:Nat}(h:a[i]?=b[j]?):(nA a b)[i]?=(nB a b)[j]?:=by
 unfold nA nB iE;rw[cO,cO,h]
theorem E0{α:Type}{l:List α}{i j t:Nat}(h:i+t<j):(aH l i j)[t]?=l[i+t]?:=by
 unfold aH;rw[Kv,List.getElem?_take_of_lt h]
theorem Ex{G:List Bool}{n x y:Nat}{c:Cg}{cs:List Cg}{lo hi:Cg->Nat}(h:lW G n x (c::cs) lo hi)(le:x<=y)(hc:hi c<=y):lW G n y cs lo hi:=λi p q=>by
 have z:=h i (ai le p) q;refine⟨λw=>z.1 (w.imp λd d1=>⟨kb _ d1.1,d1.2⟩),λw=>z.2 λv=>v.elim λd d1=>?_⟩;exact(cq.1 d1.1).elim (λe=>absurd (aQ (e▸d1.2.2) hc) (bc.2 p)) λk=>w ⟨d,k,d1.2⟩
theorem Ew{G:List Bool}{n x i:Nat}{cs:List Cg}{lo hi:Cg->Nat}(h:lW G n x cs lo hi)(hx:x<=i)(hn:i<n)(k:∀c,c∈cs->i<lo c):G[i]?=some false:=(h i hx hn).2 λw=>w.elim λc hc=>absurd (k c hc.1) (bc.2 hc.2.1)
theorem E5{a b:List Ln}{G H:List Bool}{x y t:Nat}{cs:List Cg}(cg:lW G a.length x cs (λc=>c.1) (λc=>c.2.1))(ch:lW H b.length y cs (λc=>c.2.2.1) (λc=>c.2.2.2))(ha:x+t<=a.length)(hb:y+t<=b.length)(e:aH a x (x+t)=aH b y (y+t))
  (k:∀c,c∈cs->x+t<=c.1/\y+t<=c.2.2.1):bg (nA a b) (nB a b) G H x y (x+t) (y+t) 0 0:=bg.run (λ_ _=>trivial) λi hi=>by
 have e:(aH a x (x+t))[i]?=(aH b y (y+t))[i]?:=congrArg (λl:List Ln=>l[i]?) e;have xi:=eF hi x;have yi:=eF hi y;rw[E0 xi,E0 yi]at e;exact⟨Qd e,Ew cg (aL ..) (aQ xi ha) λc hc=>aQ xi (k c hc).1,Ew ch (aL ..) (aQ yi hb) λc hc=>aQ yi (k c hc).2⟩
theorem F9{a b:List Ln}{G H:List Bool}:∀{cs:List Cg}{fst:Bool}{x y:Nat},ee a b fst x y cs->x<=a.length->y<=b.length->lW G a.length x cs (λc=>c.1) (λc=>c.2.1)->lW H b.length y cs (λc=>c.2.2.1) (λc=>c.2.2.2)->∃c d,bg (nA a b) (nB a b) G H x y a.length b.length c d/\(c:Int)=cj (cs.map gu)/\(d:Int)=cj (cs.map fG):=λ{rr}=>@(li (λ{fst}{x}{y}h ha hb cg ch=>by
  have h:a.drop x=b.drop y:=h;have l:=congrArg rQ h;rw[hV,hV]at l;have ea:x+(a.length-x)=a.length:=fv ha;have eb:y+(a.length-x)=b.length:=by rw[l];exact fv hb
  have z:=E5 (t:=a.length-x) cg ch (dA ea) (dA eb) (by rw[ea,eb,u7,u7];exact h) λc hc=>nm hc;rw[ea,eb]at z;exact⟨0,0,z,rfl,rfl⟩)
 (λc cs ih{fst}{x}{y}h ha hb cg ch=>by
  have ge:=Hv h.2;have l:=h.1.l;have o:=h.1.o;have i:=h.1.i;refine bA (bS l) λt e1=>?_;have e2:c.2.2.1=y+t:=bE [_,_,_,_,_] [] .v0 (.a .v1 .v2) [(1,.en (.a .v1 .v3) (.a .v4 .v0)),(-1,.en .v3 (.a .v4 .v2))] rfl h.1.m e1;have p:=h.1.p;rw[e1,e2]at p;have r1:=E5 cg ch (e1▸ai o h.1.ha) (e2▸ai i h.1.hb) p λd hd=>(cq.1 hd).elim (λe=>by rw[e,e1,e2];exact⟨aC _,aC _⟩) λhd=>⟨e1▸ai o (ge d hd).1,e2▸ai i (ge d hd).2.1⟩
  rw[<-e1,<-e2]at r1;have r2:bg (nA a b) (nB a b) G H c.1 c.2.2.1 (c.1+(c.2.1-c.1)) (c.2.2.1+(c.2.2.2-c.2.2.1)) (c.2.1-c.1) (c.2.2.2-c.2.2.1):=bg.marks
   (λj p q=>(cg j (ai l p) (aQ q (by rw[fv o];exact h.1.ha))).1 ⟨c,fJ,p,by rw[fv o]at q;exact q⟩)
   λj p q=>(ch j (ai h.1.yy p) (aQ q (by rw[fv i];exact h.1.hb))).1 ⟨c,fJ,p,by rw[fv i]at q;exact q⟩
  rw[fv o,fv i]at r2;refine cp (ih h.2 h.1.ha h.1.hb (Ex cg (ai l o) (aC _)) (Ex ch (ai h.1.yy i) (aC _))) λm n r3 f1 f2=>?_;refine⟨_,_,(r1.append r2).append r3,?_,?_⟩
  ·rw[gy,jQ,<-f1,gu,<-ji o,<-hZ];exact congrArg gC (cb ..)
  ·rw[gy,jQ,<-f2,fG,<-ji i,<-hZ];exact congrArg gC (cb ..)) rr)
section
section
variable{a b:List Ln}{cs:List Cg}
noncomputable abbrev jI(l:List Ln):List Bool:=aR l.length false
noncomputable abbrev bP(a b:List Ln)(cs:List Cg):List Bool×List Bool:=lT cs (jI a,jI b)
theorem Oz(hc:∀c,c∈cs->c.1<=c.2.1/\c.2.2.1<=c.2.2.2/\c.2.1<=a.length/\c.2.2.2<=b.length)(ha:a.length<=400)(hb:b.length<=400){n:Nat}{s:Sh}{Z:ae}(hs:gI s (jI a) (jI b) Z){va vb v4 v5 v6:Option V}{Q:QO}
  (q:∀v4,Q .next [some (.list (cs.map aV)),va,vb,some (.inst 2 s.d),v4,v5,v6] (ak (ak Z s.g (.list (vB (bP a b cs).1))) s.h (.list (vB (bP a b cs).2)))) :
  WS (Ph pF (n+1)) (.for (.v 4) (.seq (.x 0)) [.ex (.h (.x 3) 27 [.h (.x 4) 22 []])]) [some (.list (cs.map aV)),va,vb,some (.inst 2 s.d),v4,v5,v6] Z Q:=by
 have same:∀{Z:ae}{g:Nat}{m:M},Z g=some m->ak Z g m=Z:=λ{Z g m}h=>funext λc=>by
  by_cases e:c=g
  ·rw[e,aP,h]
  ·exact aA e
 have e0:ak (ak Z s.g (.list (vB (jI a)))) s.h (.list (vB (jI b)))=Z:=by rw[same hs.at_g,same hs.at_h]
 refine oc (aa rfl) (ql (l:=cs.map aV) (mG (cE pF _) _) (λq J Z'=>(∃v4,J=[some (.list (cs.map aV)),va,vb,some (.inst 2 s.d),v4,v5,v6])/\Z'=ak (ak Z s.g (.list (vB (bP a b (cs.take q)).1))) s.h (.list (vB (bP a b (cs.take q)).2))) ⟨⟨v4,rfl⟩,e0.symm⟩ (λ_ _ _ _=>rfl) ?_ ?_)
 ·intro i v J Z' hv zz;refine aT zz λz e'=>bA z λv4 e=>?_;clear zz z;subst e;subst e';rw[cO]at hv;cases w:cs[i]? with
  |none=>rw[w]at hv;exact nn hv
  |some c=>
   rw[w]at hv;injection hv with hv;subst hv
   have hcm:=hc c (BF w);have tk:cs.take (i+1)=cs.take i++[c]:=by rw[xU,w];rfl
   have st:bP a b (cs.take (i+1))=tY (bP a b (cs.take i)) c:=by rw[tk];exact BY ..
   have ln:=y8 (cs.take i) (jI a,jI b);rw[jt,jt]at ln;have sh:gI s (bP a b (cs.take i)).1 (bP a b (cs.take i)).2 (ak (ak Z s.g (.list (vB (bP a b (cs.take i)).1))) s.h (.list (vB (bP a b (cs.take i)).2))):=pQ hs;refine ao rfl (ao (cY sh.at_d rfl) (ao rfl (UA (n:=n) (w:=c.1) (x:=c.2.1) (y:=c.2.2.1) (z:=c.2.2.2) ?_)));refine bA (bS hcm.1) λk hk=>?_;refine bA (bS hcm.2.1) λl hl=>?_;have e:V.tup [.int c.1,.int c.2.1,.int c.2.2.1,.int c.2.2.2]=pt c.1 (c.1+k) c.2.2.1 (c.2.2.1+l):=by rw[<-hk,<-hl]
   show Ph pF (n+1) 36 [.inst 2 s.d,.tup [.int c.1,.int c.2.1,.int c.2.2.1,.int c.2.2.2]] _ _;rw[e];refine mark sh (by rw[ln.1,<-hk];exact hcm.2.2.1) (by rw[ln.2,<-hl];exact hcm.2.2.2) (by rw[ln.1];exact ai ha (by decide)) (by rw[ln.2];exact ai hb (by decide)) (ao rfl ⟨_,Sub.refl' _,⟨_,rfl⟩,?_⟩);rw[st,jR hs.gh.symm,dX,dX];show _ = ak (ak Z s.g (.list (vB (cU _ c.1 (c.2.1-c.1))))) s.h (.list (vB (cU _ c.2.2.1 (c.2.2.2-c.2.2.1))));rw[show c.2.1-c.1=k by exact bE [_,_,_,_] [] .v0 .v1 [(-1,.en .v2 (.a .v3 .v1)),(-1,.en (.a .v0 .v3) .v2)] rfl hk (aZ hcm.1),show c.2.2.2-c.2.2.1=l by exact bE [_,_,_,_] [] .v0 .v1 [(-1,.en .v2 (.a .v3 .v1)),(-1,.en (.a .v0 .v3) .v2)] rfl hl (aZ hcm.2.1)]
 ·intro J Z' zz;refine aT zz λz e'=>bA z λv4 e=>?_;clear zz z;subst e;subst e';rw[aY,nJ];exact q v4
end
end
section
theorem ve{Z:ae}{g:Nat}{m:M}(h:Z g=some m):ak Z g m=Z:=funext λc=>by
 by_cases e:c=g
 ·rw[e,aP,h]
 ·exact aA e
theorem Sub.trans'{Z Z' Z'':ae}(h:Sub Z Z')(k:Sub Z' Z''):Sub Z Z'':=λc m e=>k c m (h c m e)
theorem sO{Z:ae}{c:Nat}{m:M}(h:Z c=none):Sub Z (ak Z c m):=λx m' e=>(aA λz=>by rw[z,h]at e;exact nn e).trans e
section
variable{a b:List Ln}{cs:List Cg}
noncomputable abbrev aM(G:List Bool):Nat:=(gz 0 G).length
noncomputable abbrev fQ(G:List Bool):Nat->Nat:=fz (gz 0 G)
theorem Ww{C:ax}{frz:Bool}{c:Nat}{e1 e2 e3:E}{u v w:V}{J:aj}{Z:ae}{Q:QV}(h1:Ev C e1 J Z u)(h2:Ev C e2 J Z v)(h3:Ev C e3 J Z w)(h:∀d,Z d=none->C (initF c) [.inst c d,u,v,w] (ak Z d (.attrs c [])) λr Z=>lQ frz c d r Z Q):WE C (.new frz c [e1,e2,e3]) J Z Q:=h1 _ (h2 _ (h3 _ h))
theorem Wv{C:ax}{frz:Bool}{c:Nat}{e1 e2:E}{u v:V}{J:aj}{Z:ae}{Q:QV}(h1:Ev C e1 J Z u)(h2:Ev C e2 J Z v)(h:∀d,Z d=none->C (initF c) [.inst c d,u,v] (ak Z d (.attrs c [])) λr Z=>lQ frz c d r Z Q):WE C (.new frz c [e1,e2]) J Z Q:=h1 _ (h2 _ h)
theorem Ig{C:ax}{e a:E}{self u:V}{m f:Nat}{rest:List S}{J:aj}{Z:ae}{Q:QO}(he:Ev C e J Z self)(hm:oq Z self m=some f)(ha:Ev C a J Z u)(h:C f [self,u] Z λv Z=>aK (mf v) λ_=>az C rest J Z Q):az C (.ex (.h e m [a])::rest) J Z Q:=he _ (ao hm (ha _ h))
theorem Ep{C:ax}{e:E}{self:V}{m f:Nat}{t:Tg}{rest:List S}{J:aj}{Z:ae}{Q:QO}(he:Ev C e J Z self)(hm:oq Z self m=some f)(h:C f [self] Z λx Z=>jD C t x J Z λJ Z=>az C rest J Z Q):az C (.s t (.h e m [])::rest) J Z Q:=he _ (ao hm h)
theorem yV{C:ax}{e:E}{c d:Nat}{fs:List (bG×V)}{n:bG}{x:V}{J:aj}{Z:ae}{Q:aj->ae->Prop}(he:Ev C e J Z (.inst c d))(hd:Z d=some (.attrs c fs))(hn:(dH c).contains n=true)(hl:fs.length<=100)(q:Q J (ak Z d (.attrs c (setA fs n x)))):jD C (.a e n) x J Z Q:=he _ (gU hd hn hl q)
theorem EH{n g i:Nat}{at1 kL:bG}{v1:Nat}{Z:ae}{J:aj}{N:List Int}{L:List Ln}{G:List Bool}{rest:List S}{Q:QO}(hg:Z g=some (.list (vB G)))(hz:G.length<=1000)
  (h1:Ev (Ph pF (n+1)) (.a (.x 3) at1) J Z (.list (vI N))) (h2:Ev (Ph pF (n+1)) (.a (.x 3) kL) J Z (.ref g)) (h3:Ev (Ph pF (n+1)) (.x v1) J Z (.list (vY L)))
  (q:∀d z Z',Z d=none->Z z=none->z≠d->Sub Z Z'->Z' d=some (.attrs 3 [(11,.list (vI N)),(12,.list (vY L)),(13,.ref z)])->Z' z=some (.list (ck (aM G) (fQ G)))->az (Ph pF (n+1)) rest (wr J i (.inst 3 d)) Z' Q) :
  az (Ph pF (n+1)) (.s (.v i) (.new false 3 [.a (.x 3) at1,.a (.x 3) kL,.x v1])::rest) J Z Q:=
 sd (Ww h1 h2 h3 λd hd=>Qb hd hg hz λz zd hzz=>ao rfl (q d z _ hd hzz zd (Sub.trans' (sO hd) (sO ((aA zd).trans hzz))) ((aA zd.symm).trans (aP ..)) ((aP ..).trans (congrArg (λl=>some (M.list l)) (Ov _)))))
theorem yT(hl:ee a b true 0 0 cs)(ha:a.length<=400)(hb:b.length<=400)(Jaa:Nat->(Nat->Nat)->Prop)(Jaa':(Nat->Nat)->Nat->(Nat->Nat)->Prop)
  (j0:Jaa 0 (fQ (bP a b cs).1)) (jk:∀g f,g<aM (bP a b cs).1->Jaa g f->f g=0->Jaa (g+1) f) (js:∀g f f' g',g<aM (bP a b cs).1->Jaa g f->0<f g->oJ (nA a b) a (aM (bP a b cs).1) (fQ (bP a b cs).2) f g f' g'->Jaa (g'+1) f')
  (k0:∀o,Jaa' o 0 (fQ (bP a b cs).2)) (kk:∀o g f,g<aM (bP a b cs).1->Jaa' o g f->f g=0->Jaa' o (g+1) f) (ks:∀o,Jaa (aM (bP a b cs).1) o->∀g f f' g',g<aM (bP a b cs).1->Jaa' o g f->0<f g->oJ (nB a b) b (aM (bP a b cs).1) o f g f' g'->Jaa' o (g'+1) f') :
  ∃f h cs',Jaa (aM (bP a b cs).1) f/\Jaa' f (aM (bP a b cs).1) h/\KP (nA a b) (aM (bP a b cs).1) (fQ (bP a b cs).1) f/\KP (nB a b) (aM (bP a b cs).1) (fQ (bP a b cs).2) h /\
   gq a b cs' (bU f (aM (bP a b cs).1) (aM (bP a b cs).1)) (bU h (aM (bP a b cs).1) (aM (bP a b cs).1)) (pre (fQ (bP a b cs).1) (aM (bP a b cs).1)) (pre (fQ (bP a b cs).2) (aM (bP a b cs).1)) /\
   ∀n Z(Q:QV),Q (.list (cs'.map aV)) Z->Ph pF (n+5) 8 [.list (cs.map aV),.list (vY a),.list (vY b)] Z Q:=by
 have ge:=Hv hl;refine aT (FG cs a.length b.length) λcg ch=>?_;refine cp (F9 hl (bJ _) (bJ _) cg ch) λc d lay _ _=>?_;have ln:=y8 cs (jI a,jI b);rw[jt,jt]at ln;generalize hG:(bP a b cs).1=G at *
 generalize hH:(bP a b cs).2=H at *
 have lG:G.length=a.length:=ln.1;have lH:H.length=b.length:=ln.2;have kl:=ER ((dY a b).trans lG.symm) ((d7 a b).trans lH.symm) lay lG.symm lH.symm;have k1:=uW G (nA a b) 0 ((dY a b).trans lG.symm);have k2:=uW H (nB a b) 0 ((d7 a b).trans lH.symm);have kl:iN (nA a b) G=iN (nB a b) H:=kl;have nn:aM H=aM G:=by show(gz 0 H).length=(gz 0 G).length;rw[<-k1,<-k2,kl]
 have f1:0+G.length+1=aM G+pre (fQ G) (aM G):=vW G 0;have f2:0+H.length+1=aM H+pre (fQ H) (aM H):=vW H 0;have FA:fm (nA a b) (aM G) (fQ G):=by show(nA a b).length+1 = _;rw[dY,<-lG];exact bE [_,_,_] [] (.a .v0 .k1) (.a .v1 .v2) [(-1,.en (.a (.a .k0 .v0) .k1) (.a .v1 .v2))] rfl f1
 have FB:fm (nB a b) (aM G) (fQ H):=by show(nB a b).length+1=aM G+pre (fQ H) (aM G);rw[d7,<-lH,<-nn];exact bE [_,_,_] [] (.a .v0 .k1) (.a .v1 .v2) [(-1,.en (.a (.a .k0 .v0) .k1) (.a .v1 .v2))] rfl f2
 refine cm (D9 (L:=a) (o:=fQ H) FA (dY a b).symm Jaa j0 jk js) λf e1 e2 run1=>?_;refine cm (D9 (L:=b) (o:=f) FB (d7 a b).symm (Jaa' f) (k0 f) (kk f) (ks f e1)) λh e3 e4 run2=>?_;have ng:0<aM G:=mx.2 (H0 G 0);have F1:(nA a b).length+1=aM G+pre f (aM G):=by rw[<-e2.sum];exact FA
 have F2:(nB a b).length+1=aM G+pre h (aM G):=by rw[<-e4.sum];exact FB
 have kept:∀i,i+1<aM G->(nA a b)[i+pre f (i+1)]?=(nB a b)[i+pre h (i+1)]?:=λi hi=>by
  have z1:=F7 G (nA a b) [] ((dY a b).trans lG.symm) i hi;have z2:=F7 H (nB a b) [] ((d7 a b).trans lH.symm) i (by show i+1<aM H;rw[nn];exact hi);rw[<-e2.at_ i hi,<-e4.at_ i hi];exact z1.symm.trans ((congrArg (λl:List Int=>l[i]?) kl).trans z2)
 have m1:=vG (f:=f) ng;have m2:=vG (f:=h) ng;have l1:(bU f (aM G) (aM G)).length=a.length:=by rw[dY]at F1;exact bE [_,_,_,_] [] .v0 .v1 [(1,.en (.a .v1 .k1) (.a .v2 .v3)),(-1,.en (.a .v0 .k1) (.a .v2 .v3))] rfl F1 m1
 have l2:(bU h (aM G) (aM G)).length=b.length:=by rw[d7]at F2;exact bE [_,_,_,_] [] .v0 .v1 [(1,.en (.a .v1 .k1) (.a .v2 .v3)),(-1,.en (.a .v0 .k1) (.a .v2 .v3))] rfl F2 m2
 have lay':bg (nA a b) (nB a b) (bU f (aM G) (aM G)) (bU h (aM G) (aM G)) 0 0 a.length b.length (pre f (aM G)) (pre h (aM G)):=by
  rw[dY]at F1;rw[d7]at F2;generalize aM G=n at *
  obtain⟨k,rfl⟩:=xB ng;rw[aU]at *;have z:=(PN kept k (bu k)).append (bg.marks (k:=f k) (l:=h k) (λi p q=>sq (bu k) p (by show i<k+(pre f k+f k);exact au [_,_,_,_] [] (.tn .v0 (.a .v1 (.a .v2 .v3))) 1 [(1,.tn .v0 (.a (.a .v1 .v2) .v3))] rfl q)) λi p q=>sq (bu k) p (by show i<k+(pre h k+h k);exact au [_,_,_,_] [] (.tn .v0 (.a .v1 (.a .v2 .v3))) 1 [(1,.tn .v0 (.a (.a .v1 .v2) .v3))] rfl q));have p1:pre f (k+1)=pre f k+f k:=rfl;have p2:pre h (k+1)=pre h k+h k:=rfl;rw[cb (f k),cb (h k),show k+pre f k+f k=a.length by exact bE [_,_,_,_,_] [] (.a (.a .v0 .v1) .v2) .v3 [(1,.en (.a .v3 .k1) (.a (.a .v0 .k1) .v4)),(1,.en .v4 (.a .v1 .v2))] rfl F1 p1,show k+pre h k+h k=b.length by exact bE [_,_,_,_,_] [] (.a (.a .v0 .v1) .v2) .v3 [(1,.en (.a .v3 .k1) (.a (.a .v0 .k1) .v4)),(1,.en .v4 (.a .v1 .v2))] rfl F2 p2]at z;exact z
 refine ar (C6 (A:=nA a b) (B:=nB a b) (G:=bU f (aM G) (aM G)) (H:=bU h (aM G) (aM G)) (by rw[dY,l1]) (by rw[d7,l2]) (by rw[l1,l2];exact au [_,_] [] (.ln (.a .v0 .v1) (.k 1000)) 1 [(1,.ln .v0 (.k 400)),(1,.ln .v1 (.k 400))] rfl ha hb) (c:=pre f (aM G)) (d:=pre h (aM G)) (by rw[l1,l2];exact lay')) λcs' c1 c2=>?_;refine⟨f,h,cs',e1,e3,e2,e4,⟨l1,l2,by rw[e2.sum,e4.sum];exact lay',c1⟩,λn Z Q q=>?_⟩;have l400:a.length+b.length<1000:=by exact au [_,_] [] (.tn (.a .v0 .v1) (.k 1000)) 1 [(1,.ln .v0 (.k 400)),(1,.ln .v1 (.k 400))] rfl ha hb
 have gG:G.length<=1000:=by exact au [_,_] [] (.ln .v0 (.k 1000)) 1 [(1,.ln .v1 (.k 400)),(1,.en .v0 .v1)] rfl ha lG
 have gH:H.length<=1000:=by exact au [_,_] [] (.ln .v0 (.k 1000)) 1 [(1,.ln .v1 (.k 400)),(1,.en .v0 .v1)] rfl hb lH
 refine bN (J:=[some (.list (cs.map aV)),some (.list (vY a)),some (.list (vY b)),none,none,none,none]) rfl (sd (Wv (aa rfl) (aa rfl) λd hd=>DV hd l400 λs Z1 s1 s2 s3 hs hg hh sub=>ao rfl ?_));subst s1;have s2:s.A=nA a b:=s2;have s3:s.B=nB a b:=s3;refine aO (Oz (λc hc=>⟨(ge c hc).2.2.1,(ge c hc).2.2.2.1,(ge c hc).2.2.2.2.1,(ge c hc).2.2.2.2.2⟩) ha hb hs λv4=>?_);rw[hG,hH];have S2:gI s G H (ak (ak Z1 s.g (.list (vB G))) s.h (.list (vB H))):=pQ hs;have sub2:Sub Z (ak (ak Z1 s.g (.list (vB G))) s.h (.list (vB H))):=yU sub hg hh;generalize ak (ak Z1 s.g (.list (vB G))) s.h (.list (vB H))=Z2 at S2 sub2 ⊢
 refine EH (N:=nA a b) (L:=a) S2.at_g gG (br (aa rfl) (by rw[<-s2];exact dC S2.at_d rfl rfl)) (br (aa rfl) (dC S2.at_d rfl rfl)) (aa rfl) λd3 z3 Z3 hd3 hz3 zd3 sub3 at3 az3=>?_;refine EH (N:=nB a b) (L:=b) (sub3 _ _ S2.at_h) gH (br (aa rfl) (by rw[<-s3];exact dC (sub3 _ _ S2.at_d) rfl rfl)) (br (aa rfl) (dC (sub3 _ _ S2.at_d) rfl rfl)) (aa rfl) λd4 z4 Z4 hd4 hz4 zd4 sub4 at4 az4=>?_;rw[nn]at az4;have ne{Z:ae}{x y:Nat}{m:M}(h:Z x=some m)(k:Z y=none):x≠y:=λe=>by rw[e,k]at h;cases h
 have n34:z3≠z4:=ne az3 hz4;have r1:∀Q:QV,Q .none (ak Z4 z3 (.list (ck (aM G) f)))->Ph pF (n+4) 53 [.inst 3 d3,.inst 3 d4] Z4 Q:=λQ q=>by
  have z:=run1 ⟨n,Z4,d3,z3,d4,z4,_,_,_,sub4 _ _ at3,at4,sub4 _ _ az3,az4,n34.symm⟩ Q q;have e:ZR.T (N:=nA a b) (L:=a) (o:=fQ H) ⟨n,Z4,d3,z3,d4,z4,_,_,_,sub4 _ _ at3,at4,sub4 _ _ az3,az4,n34.symm⟩ (fQ G)=Z4:=ve (sub4 _ _ az3);rw[e]at z;exact z
 refine Ig (aa rfl) (cY (sub4 _ _ at3) rfl) (aa rfl) (r1 _ (ao rfl ?_));have d3z:d3≠z3:=zd3.symm;have d4z3:d4≠z3:=(ne az3 hd4).symm;have t5d3:=(aA (m:=M.list (ck (aM G) f)) d3z).trans (sub4 _ _ at3);have t5d4:=(aA (m:=M.list (ck (aM G) f)) d4z3).trans at4;have t5z4:=(aA (m:=M.list (ck (aM G) f)) n34.symm).trans az4;have t5z3:ak Z4 z3 (.list (ck (aM G) f)) z3 = _:=aP ..;have t5s:=(aA (m:=M.list (ck (aM G) f)) (ne S2.at_d hz3)).trans (sub4 _ _ (sub3 _ _ S2.at_d));have sub5:Sub Z (ak Z4 z3 (.list (ck (aM G) f))):=λx m k=>(aA (ne (sub2 _ _ k) hz3)).trans (sub4 _ _ (sub3 _ _ (sub2 _ _ k)));generalize ak Z4 z3 (.list (ck (aM G) f))=Z5 at t5d3 t5d4 t5z4 t5z3 t5s sub5 ⊢
 have r2:∀Q:QV,Q .none (ak Z5 z4 (.list (ck (aM G) h)))->Ph pF (n+4) 53 [.inst 3 d4,.inst 3 d3] Z5 Q:=λQ q=>by
  have z:=run2 ⟨n,Z5,d4,z4,d3,z3,_,_,_,t5d4,t5d3,t5z4,t5z3,n34⟩ Q q;have e:ZR.T (N:=nB a b) (L:=b) (o:=f) ⟨n,Z5,d4,z4,d3,z3,_,_,_,t5d4,t5d3,t5z4,t5z3,n34⟩ (fQ H)=Z5:=ve t5z4;rw[e]at z;exact z
 refine Ig (aa rfl) (cY t5d4 rfl) (aa rfl) (r2 _ (ao rfl ?_));have d3z4:d3≠z4:=ne at3 hz4;have t6d3:=(aA (m:=M.list (ck (aM G) h)) d3z4).trans t5d3;have t6d4:=(aA (m:=M.list (ck (aM G) h)) zd4.symm).trans t5d4;have t6z3:=(aA (m:=M.list (ck (aM G) h)) n34).trans t5z3;have t6z4:ak Z5 z4 (.list (ck (aM G) h)) z4 = _:=aP ..;have t6s:=(aA (m:=M.list (ck (aM G) h)) (ne (sub3 _ _ S2.at_d) hz4)).trans t5s;have sub6:Sub Z (ak Z5 z4 (.list (ck (aM G) h))):=λx m k=>(aA (ne (sub3 _ _ (sub2 _ _ k)) hz4)).trans (sub5 _ _ k);generalize ak Z5 z4 (.list (ck (aM G) h))=Z6 at t6d3 t6d4 t6z3 t6z4 t6s sub6 ⊢
 have b1:aM G+pre f (aM G)<=1000:=by rw[dY]at F1;exact au [_,_,_] [] (.ln (.a .v0 .v1) (.k 1000)) 1 [(1,.ln .v2 (.k 400)),(-1,.en (.a .v2 .k1) (.a .v0 .v1))] rfl ha F1
 have b2:aM G+pre h (aM G)<=1000:=by rw[d7]at F2;exact au [_,_,_] [] (.ln (.a .v0 .v1) (.k 1000)) 1 [(1,.ln .v2 (.k 400)),(-1,.en (.a .v2 .k1) (.a .v0 .v1))] rfl hb F2
 have r3:∀Q:QV,Q (.list (vB (bU f (aM G) (aM G)))) Z6->Ph pF (n+4) 51 [.inst 3 d3] Z6 Q:=λQ q=>by
  have e:ZR.T (N:=nA a b) (L:=a) (o:=h) ⟨n+3,Z6,d3,z3,d4,z4,_,_,_,t6d3,t6d4,t6z3,t6z4,n34.symm⟩ f=Z6:=ve t6z3;have z:=EU (f:=f) b1 (⟨n+3,Z6,d3,z3,d4,z4,_,_,_,t6d3,t6d4,t6z3,t6z4,n34.symm⟩:ZR (nA a b) a (aM G) h) (Q:=Q) (by rw[e];exact q);rw[e]at z;exact z
 refine Ep (aa rfl) (cY t6d3 rfl) (r3 _ (yV (aa rfl) t6s rfl (dR rfl) ?_));have s3':s.d≠z4:=ne (sub3 _ _ S2.at_d) hz4;have s4d:d4≠s.d:=(ne (sub3 _ _ S2.at_d) hd4).symm;have s3d:d3≠s.d:=(ne S2.at_d hd3).symm;have sz3:z3≠s.d:=(ne S2.at_d hz3).symm;have t7d3:=(aA (m:=M.attrs 2 (setA [(7,.list (vI s.A)),(8,.list (vI s.B)),(9,.ref s.g),(10,.ref s.h)] 9 (.list (vB (bU f (aM G) (aM G)))))) s3d).trans t6d3;have t7d4:=(aA (m:=M.attrs 2 (setA [(7,.list (vI s.A)),(8,.list (vI s.B)),(9,.ref s.g),(10,.ref s.h)] 9 (.list (vB (bU f (aM G) (aM G)))))) s4d).trans t6d4;have t7z3:=(aA (m:=M.attrs 2 (setA [(7,.list (vI s.A)),(8,.list (vI s.B)),(9,.ref s.g),(10,.ref s.h)] 9 (.list (vB (bU f (aM G) (aM G)))))) sz3).trans t6z3;have t7z4:=(aA (m:=M.attrs 2 (setA [(7,.list (vI s.A)),(8,.list (vI s.B)),(9,.ref s.g),(10,.ref s.h)] 9 (.list (vB (bU f (aM G) (aM G)))))) s3'.symm).trans t6z4;have t7s:ak Z6 s.d (.attrs 2 (setA [(7,.list (vI s.A)),(8,.list (vI s.B)),(9,.ref s.g),(10,.ref s.h)] 9 (.list (vB (bU f (aM G) (aM G)))))) s.d = _:=aP ..;have sub7:Sub Z (ak Z6 s.d (.attrs 2 (setA [(7,.list (vI s.A)),(8,.list (vI s.B)),(9,.ref s.g),(10,.ref s.h)] 9 (.list (vB (bU f (aM G) (aM G))))))):=λx m k=>(aA (ne k hd)).trans (sub6 _ _ k);generalize ak Z6 s.d (.attrs 2 (setA [(7,.list (vI s.A)),(8,.list (vI s.B)),(9,.ref s.g),(10,.ref s.h)] 9 (.list (vB (bU f (aM G) (aM G))))))=Z7 at t7d3 t7d4 t7z3 t7z4 t7s sub7 ⊢
 have r4:∀Q:QV,Q (.list (vB (bU h (aM G) (aM G)))) Z7->Ph pF (n+4) 51 [.inst 3 d4] Z7 Q:=λQ q=>by
  have e:ZR.T (N:=nB a b) (L:=b) (o:=f) ⟨n+3,Z7,d4,z4,d3,z3,_,_,_,t7d4,t7d3,t7z4,t7z3,n34⟩ h=Z7:=ve t7z4;have z:=EU (f:=h) b2 (⟨n+3,Z7,d4,z4,d3,z3,_,_,_,t7d4,t7d3,t7z4,t7z3,n34⟩:ZR (nB a b) b (aM G) f) (Q:=Q) (by rw[e];exact q);rw[e]at z;exact z
 refine Ep (aa rfl) (cY t7d4 rfl) (r4 _ (yV (aa rfl) t7s rfl (dR rfl) ?_));refine lF (ao (cY (aP ..) rfl) (c2 (n+2) _ s.d (.list (vB (bU f (aM G) (aM G)))) (.list (vB (bU h (aM G) (aM G)))) ((aP ..).trans (by rw[s2,s3];rfl)) (.inl rfl) (.inl rfl) _ (j9 (λx m k=>(aA (ne k hd)).trans (sub7 _ _ k)) q)))
end
end
theorem wd:∀(G:List Bool)(k:Nat),pre (fz (gz k G)) (gz k G).length=k+G.count true
 |[],k=>by show 0+k=k+0;exact bE [_] [] (.a .k0 .v0) (.a .v0 .k0) [] rfl
 |true::G,k=>by
  have z:=wd G (k+1);rw[J8];show pre (fz (gz (k+1) G)) (gz (k+1) G).length = _;exact bE [_,_,_] [] .v0 (.a .v1 (.a .v2 .k1)) [(-1,.en .v0 (.a (.a .v1 .k1) .v2))] rfl z
 |false::G,k=>by
  have z:=wd G 0;rw[JQ (by decide)];show pre (fz (k::gz 0 G)) ((gz 0 G).length+1) = _;rw[zh];show k+pre (fz (gz 0 G)) (gz 0 G).length = _;exact bE [_,_,_] [] (.a .v0 .v1) (.a .v0 .v2) [(-1,.en .v1 (.a .k0 .v2))] rfl z
theorem GD{a b:List Ln}{cs:List Cg}(hl:ee a b true 0 0 cs)(ha:a.length<=400)(hb:b.length<=400) :
  ∃cs' G H c d,gq a b cs' G H c d/\(c:Int)=cj (cs.map gu)/\(d:Int)=cj (cs.map fG)/\∀n Z(Q:QV),Q (.list (cs'.map aV)) Z->Ph pF (n+5) 8 [.list (cs.map aV),.list (vY a),.list (vY b)] Z Q:=by
 refine xu (yT hl ha hb (λ_ _=>True) (λ_ _ _=>True) trivial (λ_ _ _ _ _=>trivial) (λ_ _ _ _ _ _ _ _=>trivial) (λ_=>trivial) (λ_ _ _ _ _ _=>trivial) (λ_ _ _ _ _ _ _ _ _ _=>trivial)) λf h cs' _ _ _ _ T run=>?_;refine aT (FG cs a.length b.length) λcg ch=>?_;refine cp (F9 hl (bJ _) (bJ _) cg ch) λc d lay e1 e2=>?_;have ln:=y8 cs (jI a,jI b);rw[jt,jt]at ln;have ct:=F8 lay ln.1.symm ln.2.symm;have p1:=wd (bP a b cs).1 0;have p2:=wd (bP a b cs).2 0;have kl:=ER ((dY a b).trans ln.1.symm) ((d7 a b).trans ln.2.symm) lay ln.1.symm ln.2.symm;have k1:=uW (bP a b cs).1 (nA a b) 0 ((dY a b).trans ln.1.symm);have k2:=uW (bP a b cs).2 (nB a b) 0 ((d7 a b).trans ln.2.symm);have nn:aM (bP a b cs).2=aM (bP a b cs).1:=by
  show(gz 0 _).length=(gz 0 _).length;rw[<-k1,<-k2];exact congrArg (λl:List Int=>l.length+1) kl.symm
 refine⟨cs',_,_,_,_,T,?_,?_,run⟩
 ·rw[<-e1,ct.1];exact congrArg gC (p1.trans (aU _))
 ·rw[<-e2,ct.2,<-nn];exact congrArg gC (p2.trans (aU _))
section
noncomputable def oY{α:Type}(w:Nat)(x y z:α):α:=match w with
 |0=>x
 |1=>y
 |_=>z
noncomputable def dW(x y z:V):cM->Option V:=λj=>if j="myers" then some x else if j="patience" then some y else if j="histogram" then some z else none
theorem I2:¬("patience":cM)="myers":=by decide +kernel
theorem I3:¬("histogram":cM)="myers":=by decide +kernel
theorem I4:¬("histogram":cM)="patience":=by decide +kernel
theorem Vy{w:Nat}(hw:w<3){x y z:V}:dW x y z (cP w)=some (oY w x y z):=l3 hw (if_pos rfl) ((if_neg I2).trans (if_pos rfl)) ((if_neg I3).trans ((if_neg I4).trans (if_pos rfl)))
theorem Rr{x y z:V}:gZ false [.str "myers",.str "patience",.str "histogram"] [x,y,z]=some (.dS 3 (dW x y z)):=by
 show(if ("myers":cM)≠"patience"/\("myers":cM)≠"histogram"/\("patience":cM)≠"histogram" then some (M.dS 3 (dW x y z)) else none) = _;rw[if_pos ⟨λe=>I2 e.symm,λe=>I3 e.symm,λe=>I4 e.symm⟩]
section
variable{C:ax}{J:aj}{Z:ae}{e k:E}
theorem zx{w d:Nat}(hw:w<3){x y z:V}(hd:Z d=some (.dS 3 (dW x y z)))(he:Ev C e J Z (.ref d))(hk:Ev C k J Z (.str (cP w))):Ev C (.i e k) J Z (oY w x y z):=bW he hk (by
 have a:cc Z d=none:=by unfold cc;rw[hd];rfl
 have c:dD Z d (.str (cP w))=some (dW x y z (cP w)):=by unfold dD;rw[hd];rfl
 show(match cc Z d with|some l=>_|none=>(dD Z d (.str (cP w))).bind λo=>o) = _;rw[a,c,Vy hw];rfl)
theorem gD{a:E}{u res:V}{f:Nat}(ha:Ev C a J Z u)(h:∀Q:QV,Q res Z->C f [u] Z Q):Ev C (.call f [a]) J Z res:=λQ q=>ha _ (h Q q)
theorem mH{a b:E}{u v res:V}{f:Nat}(ha:Ev C a J Z u)(hb:Ev C b J Z v)(h:∀Q:QV,Q res Z->C f [u,v] Z Q):Ev C (.call f [a,b]) J Z res:=λQ q=>ha _ (hb _ (h Q q))
theorem kq{a b c:E}{u v w res:V}{f:Nat}(ha:Ev C a J Z u)(hb:Ev C b J Z v)(hc:Ev C c J Z w)(h:∀Q:QV,Q res Z->C f [u,v,w] Z Q):Ev C (.call f [a,b,c]) J Z res:=λQ q=>ha _ (hb _ (hc _ (h Q q)))
theorem RF{a b c:E}{u v w:V}(h:Ev C a J Z u)(k:Ev C b J Z v)(l:Ev C c J Z w):Ev C (.lst false [a,b,c]) J Z (.list [u,v,w]):=λQ q=>h _ (k _ (l _ q))
theorem RG{a b c d:E}{u v w x:V}(h:Ev C a J Z u)(k:Ev C b J Z v)(l:Ev C c J Z w)(m:Ev C d J Z x):Ev C (.lst false [a,b,c,d]) J Z (.list [u,v,w,x]):=λQ q=>h _ (k _ (l _ (m _ q)))
theorem vt{c:E}{i j:Int}(h:Ev C c J Z (.list [.int i,.int j])):Ev C (.bi .sum [c]) J Z (.int (i+j)):=λQ q=>kA (h _ (ao (a:=.int (i+j)) (by
 show some (V.int (cj [i,j])) = _;rw[jQ,jQ];show some (V.int (i+(j+0))) = _;rw[pL]) q))
theorem vU{c:E}{t:Bool}(h:Ev C c J Z (.bool t)):aI C (.not c) J Z (t=false):=⟨!t,by cases t<;>simp,λQ q=>h _ q⟩
end
theorem Gb{a b:List Ln}:∀{cs:List Cg}{fst:Bool}{at' to:Nat},ee a b fst at' to cs->at'<=a.length->to<=b.length->cs.length+(at'+to)<=a.length+b.length:=λ{rr}=>@(li (λ{_}{_}{_}_ h k=>by rw[List.length_nil,aU];exact fh h k)
 (λc cs ih{fst}{at'}{to}h _ _=>by
  have z:=ih h.2 h.1.ha h.1.hb;rw[nH];have l:=h.1.l;have o:=h.1.o;have i:=h.1.i;have m:=h.1.yy;exact h.1.n.elim (λn=>au [_,_,_,_,_,_,_,_,_] [] (.ln (.a (.a .v0 .k1) (.a .v1 .v2)) (.a .v3 .v4)) 1 [(1,.ln (.a .v0 (.a .v5 .v6)) (.a .v3 .v4)),(1,.tn .v7 .v5),(1,.ln .v1 .v7),(1,.ln .v2 .v8),(1,.ln .v8 .v6)] rfl z n l m i)
   λn=>au [_,_,_,_,_,_,_,_,_] [] (.ln (.a (.a .v0 .k1) (.a .v1 .v2)) (.a .v3 .v4)) 1 [(1,.ln (.a .v0 (.a .v5 .v6)) (.a .v3 .v4)),(1,.tn .v8 .v6),(1,.ln .v1 .v7),(1,.ln .v2 .v8),(1,.ln .v7 .v5)] rfl z n l m o) rr)
theorem gq.len{a b:List Ln}{cs:List Cg}{G H:List Bool}{c d:Nat}(h:gq a b cs G H c d):cs.length<=a.length+b.length:=Gb h.lds (bJ _) (bJ _)
noncomputable def t5(a b:Cg):Bool:=((a.1:Int)==b.1)&&(((a.2.1:Int)==b.2.1)&&(((a.2.2.1:Int)==b.2.2.1)&&(((a.2.2.2:Int)==b.2.2.2)&&true)))
theorem C8{C:ax}{J:aj}{Z:ae}{a b:E}{p q:List Cg}(ha:Ev C a J Z (.list (p.map kP)))(hb:Ev C b J Z (.list (q.map kP))):aI C (.m .eq a b) J Z (p=q):=uT (eq:=t5) (λ_ _=>rfl) (λx y=>by
 obtain⟨x1,x2,x3,x4⟩:=x;obtain⟨y1,y2,y3,y4⟩:=y;unfold t5;simp[kY]) ha hb
theorem yH{C:ax}{J:aj}{Z:ae}{a b:E}{p q:List Int}(ha:Ev C a J Z (.list (vI p)))(hb:Ev C b J Z (.list (vI q))):aI C (.m .ne a b) J Z (p≠q):=y0 (eq:=λa b=>a==b) (λ_ _=>rfl) (λ_ _=>beq_iff_eq) ha hb
theorem EZ{a:List Ln}{K:List Ln}(hK:∀u,u∈a->u∈K)(h:jB a=a):tD (iE K a):=by
 intro i j hi hj e;rw[iE,aY]at hi hj;have nd:=Nb h;refine nd i j hi hj ?_;rw[iE,fe,fe,cO,cO,bL hi,bL hj]at e;have e:((K.idxOf a[i]:Nat):Int)=(K.idxOf a[j]:Nat):=e;have e:=kY.1 e;rw[<-rE (q9 (hK _ (iS hi))),<-rE (q9 (hK _ (iS hj)))]
 congr 1
theorem VM{a b:List Ln}(ha:jB a=a)(hb:jB b=b):nd (nA a b) (nB a b):=
 ⟨EZ (λu hu=>(pS b (mE a hu)).1) ha,EZ (λu hu=>mE b hu) hb⟩
end
section
noncomputable abbrev cV(c:List Cg):V:=.list (c.map aV)
theorem VX{w:Nat}{x y z:List Cg}:oY w (cV x) (cV y) (cV z)=cV (oY w x y z):=by
 match w with
 |0=>rfl
 |1=>rfl
 |_+2=>rfl
structure Iv(a b:List Ln)(w:Nat)(c:List Cg):Prop where
 t:∃G H o i,gq a b c G H o i
 run:∀n Z(Q:QV),Q (cV c) Z->Ph pF (n+5) (xf w) [.list (vY a),.list (vY b)] Z Q
section
variable{a b:List Ln}
theorem y6{n:Nat}{J:aj}{Z:ae}{e f g:E}{c:List Cg}(h:∃G H o i,gq a b c G H o i)(he:Ev (Ph pF (n+6)) e J Z (cV c))(hf:Ev (Ph pF (n+6)) f J Z (.list (vY a)))(hg:Ev (Ph pF (n+6)) g J Z (.list (vY b))):aI (Ph pF (n+6)) (.not (.call 16 [e,f,g])) J Z False:=by
 refine Jb h λG H o i T=>?_;exact iu (vU (kq he hf hg λQ q=>Oa T.lds q)) ⟨λh=>(nomatch h),pR⟩
theorem p0{n:Nat}{J:aj}{Z:ae}{e:E}{c:List Cg}(hz:c.length<=400)(he:Ev (Ph pF (n+6)) e J Z (cV c)):Ev (Ph pF (n+6)) (.call 17 [e]) J Z (.list [.int (cj (c.map gu)),.int (cj (c.map fG))]):=gD he λQ q=>M4 (ai hz (by decide)) q
noncomputable abbrev Wa:List S:=[.ite (.o false [.not (.call 16 [.x 7,.x 0,.x 1]),.m .lt (.bi .sum [.call 17 [.x 7]]) (.x 3)]) [.ret (.c (.bool false))] []]
noncomputable abbrev wR(a b:List Ln)(w:Nat)(least:Int)(v4 v5:V)(d:Nat)(v7 v8:Option V):aj:=[some (.list (vY a)),some (.list (vY b)),some (.str (cP w)),some (.int least),some v4,some v5,some (.ref d),v7,v8]
theorem OO{n w d:Nat}{Z:ae}{v4 v5:V}{v8:Option V}(hz:a.length+b.length<=400){l:List (List Cg)}(h:∀c,c∈l->∃G H o i,gq a b c G H o i){Q:QO}(q:∀v7,Q .next (wR a b w (fC a b) v4 v5 d v7 v8) Z) :
  ∃m,bZ (.vals (l.map cV)) (.v 7) (λJ Z Q=>az (Ph pF (n+6)) Wa J Z Q) Q m 0 (wR a b w (fC a b) v4 v5 d none v8) Z:=by
 refine ql (mG (cE pF _) _) (λ_ J Z'=>(∃v7,J=wR a b w (fC a b) v4 v5 d v7 v8)/\Z'=Z) ⟨⟨none,rfl⟩,rfl⟩ (λ_ _ _ _=>rfl) ?_ (λJ Z' zz=>aT zz λz e'=>bA z λv7 e=>by rw[e,e'];exact q v7);intro i v J Z' hv zz;refine aT zz λz e'=>bA z λv7 e=>?_;clear zz z;subst e;subst e';rw[cO]at hv;cases k:l[i]? with
 |none=>rw[k]at hv;exact nn hv
 |some c=>
  rw[k]at hv;injection hv with hv;subst hv
  refine Jb (h c (BF k)) λG H o i T=>?_;have ct:=T.counts;have lo:=T.low;have cl:=ai T.len hz;have tv:aI (Ph pF (n+6)) (.o false [.not (.call 16 [.x 7,.x 0,.x 1]),.m .lt (.bi .sum [.call 17 [.x 7]]) (.x 3)]) (wR a b w (fC a b) v4 v5 d (some (cV c)) v8) Z' (False\/cj (c.map gu)+cj (c.map fG)<fC a b):=
   iX (y6 ⟨G,H,o,i,T⟩ (aa rfl) (aa rfl) (aa rfl)) λ_=>sS (vt (p0 cl (aa rfl))) (aa rfl)
  refine ao rfl (aO (bH tv (λz=>z.elim id λz=>?_) ⟨_,Sub.refl' _,⟨_,rfl⟩,rfl⟩));rw[ct.1,ct.2]at z;rw[hZ]at lo;exact absurd z (jM.2 lo)
theorem Na(a b:Ln):oO (.bytes a) (.bytes b)=some (decide (a=b)):=by
 show some (a==b) = _;rw[JL]
theorem RI{C:ax}{e k:E}{x:Int}{J:aj}{Z:ae}(h:Ev C e J Z (.int x))(j:Ev C k J Z (.int 2)):Ev C (.b .mod e k) J Z (.int (x%2)):=fO h j rfl
theorem OV{C:ax}{e1 e2 e3:E}{u v w:V}{t:Tg}{rest:List S}{J:aj}{Z:ae}{Q:QO}(h1:Ev C e1 J Z u)(h2:Ev C e2 J Z v)(h3:Ev C e3 J Z w)(h:∀d,Z d=none->jD C t (.ref d) J (ak Z d (.dS 3 (dW u v w))) λJ Z=>az C rest J Z Q):az C (.s t (.dct false [.str "myers",.str "patience",.str "histogram"] [e1,e2,e3])::rest) J Z Q:=by
 have g:aK (gZ false [.str "myers",.str "patience",.str "histogram"] [u,v,w]) λm=>∀d,Z d=none->jD C t (.ref d) J (ak Z d m) λJ Z=>az C rest J Z Q:=by
  rw[Rr];exact h
 exact h1 _ (h2 _ (h3 _ g))
theorem Nn(ha:a.length<=4)(hb:b.length<=6){w:Nat}(hw:w<3){n:Nat}{Z:ae}{Q:QV}(q:Q (.bool true) Z):Ph pF (n+7) 19 [.list (vY a),.list (vY b),.str (cP w)] Z Q:=by
 have hz:a.length+b.length<=400:=by exact au [_,_] [] (.ln (.a .v0 .v1) (.k 400)) 1 [(1,.ln .v0 (.k 4)),(1,.ln .v1 (.k 6))] rfl ha hb
 refine t9 (AF (a:=a) (b:=b) hz) λc1 G1 H1 o1 i1 T1 L1 r1=>?_;refine t9 (AF (a:=b) (b:=a) (by exact au [_,_] [] (.ln (.a .v0 .v1) (.k 400)) 1 [(1,.ln .v1 (.k 4)),(1,.ln .v0 (.k 6))] rfl ha hb)) λc2 G2 H2 o2 i2 T2 L2 r2=>?_;refine t9 (E4 ha hb) λc3 G3 H3 o3 i3 T3 n3 r3=>?_;refine Bo (yJ hz 64) λc4 G4 H4 o4 i4 T4 r4=>?_;refine Bo (yJ hz (fC a b%2)) λc5 G5 H5 o5 i5 T5 r5=>?_;have W:Iv a b w (oY w c1 c3 c4):=l3 (p:=λw=>Iv a b w (oY w c1 c3 c4)) hw ⟨⟨_,_,_,_,T1⟩,λn Z Q q=>r1 (n+1) Z Q q⟩ ⟨⟨_,_,_,_,T3⟩,λn Z Q q=>r3 n Z Q q⟩ ⟨⟨_,_,_,_,T4⟩,λn Z Q q=>bN rfl (r4 n Z Q q)⟩;obtain⟨⟨Gw,Hw,ow,iw,Tw⟩,rw_⟩:=W;refine o9 (GD Tw.lds (by exact au [_] [] (.ln .v0 (.k 400)) 1 [(1,.ln .v0 (.k 4))] rfl ha) (by exact au [_] [] (.ln .v0 (.k 400)) 1 [(1,.ln .v0 (.k 6))] rfl hb)) λc6 G6 H6 o6 i6 T6 e6 f6 r6=>?_;have few1:=zN L1;have few2:=PZ L2;have ct1:=T1.counts;have ct2:=T2.counts;have ct6:=T6.counts;have ctw:=Tw.counts;have cl1:=ai T1.len hz;have cl2:c2.length<=400:=ai T2.len (by exact au [_,_] [] (.ln (.a .v0 .v1) (.k 400)) 1 [(1,.ln .v1 (.k 4)),(1,.ln .v0 (.k 6))] rfl ha hb);have cl3:=ai T3.len hz;have cl6:=ai T6.len hz;have clw:=ai Tw.len hz;have mono:=cE pF (n+6);refine bN (J:=[some (.list (vY a)),some (.list (vY b)),some (.str (cP w)),none,none,none,none,none,none]) rfl ?_;refine sF (u:=.int (fC a b)) (v:=cV c1) (w:=cV c2) (sG (mH (aa rfl) (aa rfl) λQ q=>Df (by exact au [_] [] (.ln .v0 (.k 900)) 1 [(1,.ln .v0 (.k 4))] rfl ha) (by exact au [_] [] (.ln .v0 (.k 900)) 1 [(1,.ln .v0 (.k 6))] rfl hb) q) (mH (aa rfl) (aa rfl) λQ q=>r1 (n+2) Z Q q) (mH (aa rfl) (aa rfl) λQ q=>r2 (n+2) Z Q q)) ?_;refine aO (bH (y6 ⟨_,_,_,_,T2⟩ (aa rfl) (aa rfl) (aa rfl)) id ?_);have three:[cj (c1.map gu)+cj (c1.map fG),cj (c2.map gu)+cj (c2.map fG),cj (c1.map oW)]=aR 3 (fC a b):=by
  rw[QN,ct1.1,ct1.2,ct2.1,ct2.2,<-hZ,<-hZ,few1,few2];rfl
 refine aO (bH (yH (p:=[cj (c1.map gu)+cj (c1.map fG),cj (c2.map gu)+cj (c2.map fG),cj (c1.map oW)]) (q:=aR 3 (fC a b)) (RF (vt (p0 cl1 (aa rfl))) (vt (p0 cl2 (aa rfl))) (mH (aa rfl) (aa rfl) λQ q=>Rx (n:=n+1) (ai cl1 (by decide)) r1 q)) (vV (k:=3) (aa rfl) Ev.cn (by decide))) (λz=>z three) ?_);refine OV (aa rfl) (mH (aa rfl) (aa rfl) λQ q=>r3 (n+1) Z Q q) (mH (aa rfl) (aa rfl) λQ q=>bN rfl (r4 (n+1) Z Q q)) λd hd=>?_;have dd:ak Z d (.dS 3 (dW (cV c1) (cV c3) (cV c4))) d=some (.dS 3 (dW (cV c1) (cV c3) (cV c4))):=vf;have sub:Sub Z (ak Z d (.dS 3 (dW (cV c1) (cV c3) (cV c4)))):=z5 hd (Sub.refl' _);generalize ak Z d (.dS 3 (dW (cV c1) (cV c3) (cV c4)))=Z' at dd sub
 have lw:∀{e:E}{J:aj},Ev (Ph pF (n+6)) e J Z' (.str (cP w))->∀{e':E},Ev (Ph pF (n+6)) e' J Z' (.ref d)->Ev (Ph pF (n+6)) (.i e' e) J Z' (cV (oY w c1 c3 c4)):=λk _ h=>VX▸zx hw dd h k;have l2:∀{e:E}{J:aj},Ev (Ph pF (n+6)) e J Z' (.ref d)->Ev (Ph pF (n+6)) (.i e (.c (.str "patience"))) J Z' (cV c3):=λh=>zx (w:=1) (by decide) dd h Ev.cn;have l3:∀{e:E}{J:aj},Ev (Ph pF (n+6)) e J Z' (.ref d)->Ev (Ph pF (n+6)) (.i e (.c (.str "histogram"))) J Z' (cV c4):=λh=>zx (w:=2) (by decide) dd h Ev.cn;refine aO (oc (l:=[c3,c4,c1,c5].map cV) (RG (l2 (aa rfl)) (l3 (aa rfl)) (aa rfl) (kq (aa rfl) (aa rfl) (RI (aa rfl) Ev.cn) λQ q=>bN rfl (r5 (n+1) Z' Q q))) (OO (v4:=cV c1) (v5:=cV c2) (v8:=none) hz (λc h=>?_) λv7=>?_))
 ·rcases cq.1 h with e|h
  ·subst e;exact⟨_,_,_,_,T3⟩
  rcases cq.1 h with e|h
  ·subst e;exact⟨_,_,_,_,T4⟩
  rcases cq.1 h with e|h
  ·subst e;exact⟨_,_,_,_,T1⟩
  rcases cq.1 h with e|h
  ·subst e;exact⟨_,_,_,_,T5⟩
  exact nm h
 refine bM (kq (lw (aa rfl) (aa rfl)) (aa rfl) (aa rfl) λQ q=>r6 (n+1) Z' Q q) ?_;refine aO (bH (iX (y6 ⟨_,_,_,_,T6⟩ (aa rfl) (aa rfl) (aa rfl)) λ_=>yH (p:=[_,_]) (q:=[_,_]) (p0 cl6 (aa rfl)) (p0 clw (lw (aa rfl) (aa rfl)))) (λz=>z.elim id λz=>z ?_) ?_)
 ·rw[ct6.1,ct6.2,e6,f6]
 have o13:∀{e:E}{J:aj}{l:List Ln},l.length<=1000->Ev (Ph pF (n+6)) e J Z' (.list (vY l))->Ev (Ph pF (n+6)) (.call 13 [e]) J Z' (.list (vY (jB l))):=λhl h=>gD h λQ q=>y5 (g:=V.bytes) Na hl q;refine aO (bH (nU (vu (o13 (by exact au [_] [] (.ln .v0 (.k 1000)) 1 [(1,.ln .v0 (.k 4))] rfl ha) (aa rfl)) (aa rfl)) (λ_=>vu (o13 (by exact au [_] [] (.ln .v0 (.k 1000)) 1 [(1,.ln .v0 (.k 6))] rfl hb) (aa rfl)) (aa rfl)) λ_ _=>qv (vt (p0 cl3 (l2 (aa rfl)))) (aa rfl)) (λz=>z.2.2 ?_) ?_)
 ·have e:=n3 (VM z.1 z.2.1) _ L1;rw[T3.counts.1,T3.counts.2,<-hZ,e,<-few1,hZ]
 refine eG (jv (t:=true) (C8 (gD (kq (aa rfl) (aa rfl) (aa rfl) λQ q=>HQ hw (rw_ n _) q) λQ q=>uF (ai clw (by decide)) q) (gD (lw (aa rfl) (aa rfl)) λQ q=>uF (ai clw (by decide)) q)) (iff_of_true rfl rfl)) (j9 sub q)
end
end
section
structure On(f:Nat->Nat)(n k s:Nat):Prop where
 lt:k<n
 at_:f k=s
 z:∀t,t<n->t≠k->f t=0
def Wn(N:List Int)(s k l:Nat):Prop:=∀i,k<=i->i<l->N[i]?=N[i+s]?
def Sm(N:List Int)(s k l:Nat):Prop:=Wn N s k l/\Wn N s l k
def Bl(L:List Ln)(s t:Nat):Prop:=i9 (L.getD (t+s-1) [])=true
structure lZ(N:List Int)(L:List Ln)(n s k g:Nat):Prop where
 lt:g<n
 sm:Sm N s k g
 is:(Bl L s g/\∀t,t<n->Sm N s k t->g<t->¬Bl L s t)\/∀t,t<n->Sm N s k t->t<=g/\¬Bl L s t
section
variable{N:List Int}{L:List Ln}{n s k g l:Nat}{f f' o:Nat->Nat}
theorem Wn.step(h:Wn N s k g)(j:Wn N s g l):Wn N s k l:=λi a b=>(nN i g).elim (h i a) λc=>j i c b
theorem Sm.symm(h:Sm N s k l):Sm N s l k:=⟨h.2,h.1⟩
theorem Sm.trans(h:Sm N s k g)(j:Sm N s g l):Sm N s k l:=⟨h.1.step j.1,j.2.step h.2⟩
theorem On.pre0(h:On f n k s):∀{i:Nat},i<=k->pre f i=0
 :=λ{i}=>ni (λ_=>rfl) (λi ih q=>by
  show pre f i+f i=0;rw[ih (cL q),h.z i (fL q h.lt) (gR q)]) i
theorem On.pre1(h:On f n k s):∀{i:Nat},k<i->i<=n->pre f i=s
 :=λ{i}=>ni (λq=>absurd q (dM k)) (λi ih q w=>by
  show pre f i+f i=s;exact(jg (eV q)).elim (λe=>by rw[ih e (cL w),h.z i w (iq e),jL])
   λe=>by rw[<-e,h.pre0 (aC _),h.at_,aU]) i
theorem On.kp_w(h:On f n k s)(j:On f' n l s)(e:KP N n f f'):Wn N s k l:=λi a b=>by
 have z:=e.at_ i (bC b j.lt);rw[h.pre1 (pA a) (cv (bC b j.lt)),j.pre0 b]at z;exact z.symm
theorem KP.symm(e:KP N n f f'):KP N n f' f:=⟨e.sum.symm,λi h=>(e.at_ i h).symm⟩
theorem On.sm(h:On f n k s)(j:On f' n l s)(e:KP N n f f'):Sm N s k l:=⟨h.kp_w j e,j.kp_w h e.symm⟩
theorem Gz(h:oJ N L n o f k f' g)(j:On f n k s):On f' n g s:=by
 refine cp h.gi.vis.ex λlo hi pp02_ a6 a7=>?_;obtain⟨a1,a2,_,_,_⟩:=pp02_;have w:On f' n g (f' g):=⟨h.gi.lt,rfl,λt p q=>by
  by_cases c:t<lo\/hi<t
  ·rw[a7 t c];exact j.z t p λe=>by
    subst e;exact c.elim (λc=>absurd c (bc.2 a1)) λc=>absurd c (bc.2 a2)
  ·exact a6 t (bc.1 λz=>c (.inl z)) (bc.1 λz=>c (.inr z)) q⟩
 have e:=h.gi.kp.sum;rw[j.pre1 j.lt (aC _),w.pre1 w.lt (aC _)]at e;rw[<-e]at w;exact w
theorem QF(h:oJ N L n o f k f' g)(j:On f n k s)(ho:∀t,t<n->o t=0):lZ N L n s k g:=by
 have w:=Gz h j;have sm:=j.sm w h.gi.kp;refine xw h.ex λtop low x s' m n1 n2 n3=>?_;have es:s'=s:=m.es.symm.trans w.at_;have fr:=m.fr;have ex:x=top:=by rw[<-m.ex,w.pre0 fr.a,jL]
 subst es;subst ex;have mid:∀t,t<n->Sm N s' k t->x<=t/\t<=low:=λt ht st=>by
  have gt:=sm.symm.trans st;refine⟨bc.1 λc=>n1 ⟨jK c,?_⟩,bc.1 λc=>n2 ⟨bC c ht,?_⟩⟩
  ·obtain⟨y,rfl⟩:=xB c;have z:=gt.2 (t+y) (aL ..) (aQ (bu _) fr.a);rw[show t+y+1-1=t+y from rfl,show t+y+1+s'-1=t+y+s' by rw[dK];rfl];exact z
  ·rw[uq (ai fr.a fr.b)];exact gt.1 low fr.b c
 have bk:∀t,x<=t->(Bk L x x s' t↔Bl L s' t):=λt ht=>by
  unfold Bk Bl;rw[uq ht]
 refine⟨w.lt,sm,?_⟩;rcases n3 with⟨t,_,t2,t3⟩|⟨b1,b2⟩|⟨b1,b2⟩
 ·rw[ho t (bC t2 fr.c)]at t3;exact absurd t3 (gQ 0)
 ·exact .inl ⟨(bk g fr.a).1 b1,λt ht st gt z=>b2 t gt (mid t ht st).2 ((bk t (mid t ht st).1).2 z)⟩
 ·exact .inr λt ht st=>⟨b1▸(mid t ht st).2,λz=>b2 t (mid t ht st).1 (mid t ht st).2 ((bk t (mid t ht st).1).2 z)⟩
theorem lZ.one{k' g':Nat}(h:lZ N L n s k g)(j:lZ N L n s k' g')(e:Sm N s k k'):g=g':=by
 have a1:=e.trans j.sm;have a2:=e.symm.trans h.sm;rcases h.is with⟨b1,b2⟩|b<;>rcases j.is with⟨c1,c2⟩|c
 ·exact cX (bc.1 λz=>c2 g h.lt a2 z b1) (bc.1 λz=>b2 g' j.lt a1 z c1)
 ·exact absurd b1 (c g h.lt a2).2
 ·exact absurd c1 (b g' j.lt a1).2
 ·exact cX (c g h.lt a2).1 (b g' j.lt a1).1
end
end
section
structure eT(G:List Bool)(m d s:Nat):Prop where
 len:G.length=m+s
 le:d<=m
 a:∀i,i<d->G[i]?=some false
 b:∀i,d<=i->i<d+s->G[i]?=some true
 c:∀i,d+s<=i->i<m+s->G[i]?=some false
section
variable{G H:List Bool}{f:Nat->Nat}{n m d s s' x y:Nat}{cs cs':List Cg}
theorem On.mk1(h:On f (m+1) d s):eT (bU f (m+1) (m+1)) m d s where
 len:=by
  have z:(bU f (m+1) (m+1)).length+1=(m+1)+pre f (m+1):=vG (fi m);rw[h.pre1 h.lt (aC _),dK]at z;exact iI z
 le:=eV h.lt
 a i q:=by
  have z:=uM (f:=f) (n:=m+1) (k:=i) (bC q h.lt);rw[h.pre0 q]at z;exact z
 b i q w:=sq h.lt (by rw[h.pre0 (aC _)];exact q) (by rw[h.pre1 (bu _) h.lt];exact w)
 c i q w:=by
  obtain⟨k,rfl⟩:=bS (ai (df s d) q);rw[cb s k]at q w;have w:=Nat.lt_of_add_lt_add_right w;have z:=uM (f:=f) (n:=m+1) (k:=k) (nK w);rw[h.pre1 (pA (Nat.le_of_add_le_add_right q)) (fy w)]at z;rw[cb s k];exact z
theorem Eu:∀(k:Nat){x y:Nat},(∀i,x<=i->i<x+k->G[i]?=some false)->(∀i,y<=i->i<y+k->H[i]?=some false)->g7 G H (x+k) (y+k) cs->g7 G H x y cs:=λrr=>@(ni (λ{_}{_}_ _ c=>c)
 (λk ih{x}{y}h j c=>.skip (h x (aC _) (hF (fi k))) (j y (aC _) (hF (fi k))) (ih (λi a b=>h i (cL a) (by rw[dK]at b;exact b)) (λi a b=>j i (cL a) (by rw[dK]at b;exact b)) (by rw[dK x,dK y];exact c))) rr)
theorem eT.nt(h:eT G m d s):G[d+s]?≠some true:=λe=>by
 rcases jg h.le with l|l
 ·rw[h.c (d+s) (aC _) (uj l s)]at e;cases e
 ·rw[fI (by rw[h.len,l];exact aC _)]at e;exact nn e
theorem eT.chg(h:eT G m d s)(j:eT H m d s')(p:0<s\/0<s'):g7 G H 0 0 [(d,d+s,d,d+s')]:=by
 obtain⟨k,rfl⟩:=bS h.le;refine Eu d (λi _ q=>h.a i (by rw[aU]at q;exact q)) (λi _ q=>j.a i (by rw[aU]at q;exact q)) ?_;rw[aU];refine .run (aL ..) (aL ..) h.b j.b h.nt j.nt (p.imp (λp=>hF p) λp=>hF p) ?_;refine Eu k (λi a b=>h.c i a (by rw[dK]at b;exact b)) (λi a b=>j.c i a (by rw[dK]at b;exact b)) ?_;have e1:d+s+k=G.length:=by rw[h.len,dK]
 have e2:d+s'+k=H.length:=by rw[j.len,dK]
 rw[e1,e2];exact .fin
theorem vc{x x' x'':Nat}(a:∀i,x<=i->i<x'->G[i]?=some true)(b:x<=x'')(n:G[x'']?≠some true):x'<=x'':=bc.1 λz=>n (a x'' b z)
theorem FD(h:g7 G H x y cs):∀{cs'},g7 G H x y cs'->cs=cs':=by
 have ft:∀{o:Option Bool},o=some false->o≠some true:=λe w=>by rw[e]at w;cases w
 have nt:∀{L:List Bool}{i:Nat},L.length<=i->L[i]?≠some true:=λe w=>by rw[fI e]at w;exact nn w
 have no:∀{x y x' y':Nat},x<x'\/y<y'->(∀i,x<=i->i<x'->G[i]?=some true)->(∀i,y<=i->i<y'->H[i]?=some true)->G[x]?≠some true->H[y]?≠some true->False:=λp a b c d=>p.elim (λp=>c (a _ (aC _) p)) λp=>d (b _ (aC _) p);induction h with
 |fin=>
  intro cs' j;cases j with
  |fin=>rfl
  |skip a _ _=>rw[fI (aC _)]at a;exact nn a
  |run _ _ a b _ _ p _=>exact(no p a b (nt (aC _)) (nt (aC _))).elim
 |skip a b _ ih=>
  intro cs' j;cases j with
  |fin=>rw[fI (aC _)]at a;exact nn a
  |skip _ _ c=>exact ih c
  |run _ _ c d _ _ p _=>exact(no p c d (ft a) (ft b)).elim
 |run l1 l2 a b n1 n2 p _ ih=>
  intro cs' j;cases j with
  |fin=>exact(no p a b (nt (aC _)) (nt (aC _))).elim
  |skip c d _=>exact(no p a b (ft c) (ft d)).elim
  |run l3 l4 c d n3 n4 _ r=>
   have e1:=cX (vc a l3 n3) (vc c l1 n1);have e2:=cX (vc b l4 n4) (vc d l2 n2);subst e1;subst e2;rw[ih r]
end
end
section
section
variable{G:List Bool}{m d s k:Nat}{a b:List Ln}
theorem eT.eq(h:eT G m d s):G=aR d false++(aR s true++aR (m-d) false):=xT λi=>by
 obtain⟨l,rfl⟩:=bS h.le;rw[cD];rcases nN i d with c|c
 ·rw[h.a i c,ua (by rw[dw];exact c),pj,if_pos c]
 rw[mw (by rw[dw];exact c),dw];obtain⟨j,rfl⟩:=bS c;rw[cD];rcases nN j s with w|w
 ·rw[h.b _ c (eF w d),ua (by rw[dw];exact w),pj,if_pos w]
 rw[mw (by rw[dw];exact w),dw,pj];obtain⟨t,rfl⟩:=bS w;rw[cD];by_cases q:t<l
 ·rw[if_pos q,h.c _ (kU w d) (by rw[dK,<-cu];exact eF q _)]
 ·rw[if_neg q,fI (by rw[h.len,dK,<-cu];exact kU (bc.1 q) _)]
theorem Ws:∀l j,gz j (aR l false)=j::aR l 0:=λrr=>ni (λ_=>rfl)
 (λl ih j=>by
  show j::gz 0 (aR l false)=j::0::aR l 0;rw[ih 0]) rr
theorem Wt:∀s j(R:List Bool),gz j (aR s true++R)=gz (j+s) R:=λrr=>ni (λ_ _=>rfl)
 (λs ih j R=>by
  show gz (j+1) (aR s true++R) = _;rw[ih,dK];rfl) rr
theorem Wr:∀d(R:List Bool),gz 0 (aR d false++R)=aR d 0++gz 0 R:=λrr=>ni (λ_=>rfl)
 (λd ih R=>by
  show 0::gz 0 (aR d false++R)=0::(aR d 0++gz 0 R);rw[ih]) rr
theorem eT.gz(h:eT G m d s):gz 0 G=aR d 0++s::aR (m-d) 0:=by rw[h.eq,Wr,Wt,Ws,aU]
theorem eT.gapN(h:eT G m d s):aM G=m+1:=by
 show(Internal.gz 0 G).length = _;rw[h.gz,bB,dw,nH,dw,<-cu,uq h.le]
theorem eT.on(h:eT G m d s):On (fQ G) (m+1) d s:=by
 have e:∀t,fQ G t=(aR d 0++s::aR (m-d) 0).getD t 0:=λt=>by show(Internal.gz 0 G).getD t 0 = _;rw[h.gz]
 have r:∀j t,(aR j 0).getD t 0=0:=λj t=>by
  rw[fe,pj];split<;>rfl
 refine⟨pA h.le,?_,λt _ q=>?_⟩
 ·rw[e,fe,mw (by rw[dw];exact aC _),dw,CG];rfl
 ·rw[e,fe];rcases Nat.lt_or_gt_of_ne q with c|c
  ·rw[ua (by rw[dw];exact c),<-fe,r]
  ·rw[mw (by rw[dw];exact cv c),dw];obtain⟨j,rfl⟩:=xB c;rw[cu,cD,List.getElem?_cons_succ,<-fe,r]
theorem Gi(hk:k<=m):eT (cU (aR (m+s) false) k (k+s-k)) m k s:=by
 rw[cD];have e:∀i,i<m+s->(aR (m+s) false)[i]?=some false:=λi h=>by rw[pj,if_pos h]
 refine⟨(nW ..).trans dw,hk,λi q=>?_,λi q w=>?_,λi q w=>?_⟩
 ·rw[qf,if_neg λz=>absurd z.1 (gT.2 q),e i (aQ q (ai hk (aL ..)))]
 ·rw[qf,if_pos ⟨q,w⟩,e i (aQ w (kS hk s))];rfl
 ·rw[qf,if_neg λz=>absurd z.2 (bc.2 q),e i w]
theorem Gj{s':Nat}(la:a.length=m+s)(lb:b.length=m+s')(hk:k<=m):eT (bP a b [(k,k+s,k,k+s')]).1 m k s/\eT (bP a b [(k,k+s,k,k+s')]).2 m k s':=by
 refine⟨?_,?_⟩
 ·show eT (cU (aR a.length false) k (k+s-k)) m k s;rw[la];exact Gi hk
 ·show eT (cU (aR b.length false) k (k+s'-k)) m k s';rw[lb];exact Gi hk
end
end
section
def Jg(N:List Int)(L:List Ln)(n s k g:Nat)(f:Nat->Nat):Prop:=(g<=k/\On f n k s)\/∃d,d<g/\On f n d s/\lZ N L n s k d
def Jz(n:Nat)(f:Nat->Nat):Prop:=∀t,t<n->f t=0
section
variable{N:List Int}{L:List Ln}{n s k g g' m:Nat}{f f' o:Nat->Nat}{a b:List Ln}
theorem Jg.skip(p:0<s)(h:Jg N L n s k g f)(e:f g=0):Jg N L n s k (g+1) f:=h.imp (λz_=>aT z_ λl j=>⟨(jg l).resolve_right λz=>by
 subst z;rw[j.at_]at e;exact absurd e (iq p),j⟩) λz_=>ar z_ λd l j=>⟨d,eM l,j⟩
theorem Jg.set(lt:g<n)(h:Jg N L n s k g f)(p:0<f g)(z:Jz n o)(S:oJ N L n o f g f' g'):Jg N L n s k (g'+1) f':=by
 rcases h with⟨_,j⟩|⟨d,l,j,_⟩
 ·by_cases e:g=k
  ·subst e;exact .inr ⟨g',bu _,Gz S j,QF S j z⟩
  ·rw[j.z g lt e]at p;exact absurd p (gQ 0)
 ·rw[j.z g lt (iq l)]at p;exact absurd p (gQ 0)
theorem Jg.done(h:Jg N L n s k n f):∃d,On f n d s/\lZ N L n s k d:=h.elim (λz=>absurd z.2.lt (bc.2 z.1)) λz_=>ar z_ λd _ j=>⟨d,j⟩
theorem Jz.no{P:Prop}(lt:g<n)(h:Jz n f)(p:0<f g):P:=by
 rw[h g lt]at p;exact absurd p (gQ 0)
theorem On.jz(h:On f n k 0):Jz n f:=λt q=>by
 by_cases e:t=k
 ·rw[e,h.at_]
 ·exact h.z t q e
theorem Jz.on(h:Jz n f)(lt:k<n):On f n k 0:=⟨lt,h k lt,λt q _=>h t q⟩
theorem Tb(la:a.length=m)(lb:b.length=m+s)(hz:m+s<=400)(hk:k<=m)(p:0<s)(hl:ee a b true 0 0 [(k,k,k,k+s)]) :
  ∃g,lZ (nB a b) b (m+1) s k g/\∀n Z(Q:QV),Q (.list [aV (g,g,g,g+s)]) Z->Ph pF (n+5) 8 [.list [aV (k,k,k,k+s)],.list (vY a),.list (vY b)] Z Q:=by
 have M:eT (bP a b [(k,k,k,k+s)]).1 m k 0/\eT (bP a b [(k,k,k,k+s)]).2 m k s:=Gj (s:=0) la lb hk;have e:=M.1.gapN;obtain⟨f,h,cs',j1,j2,_,_,T,run⟩:=yT hl (by rw[la];exact ai (aL ..) hz) (by rw[lb];exact hz) (λ_ f=>Jz (m+1) f) (λ_ g f=>Jg (nB a b) b (m+1) s k g f) M.1.on.jz (λ_ _ _ h _=>h) (λg f _ _ lt h q _=>h.no (e▸lt) q)
  (λ_=>.inl ⟨bJ k,M.2.on⟩) (λ_ _ _ _ h q=>h.skip p q) (λo z g f f' g' lt h q S=>h.set (e▸lt) q z (e▸S))
 rw[e]at j2 T;refine ar j2.done λd od du=>?_;have c:cs'=[(d,d,d,d+s)]:=FD T.chg ((j1.on du.lt).mk1.chg od.mk1 (.inr p));subst c;exact⟨d,du,run⟩
theorem QG(la:a.length=m+s)(lb:b.length=m)(hz:m+s<=400)(hk:k<=m)(p:0<s)(hl:ee a b true 0 0 [(k,k+s,k,k)]) :
  ∃g,lZ (nA a b) a (m+1) s k g/\∀n Z(Q:QV),Q (.list [aV (g,g+s,g,g)]) Z->Ph pF (n+5) 8 [.list [aV (k,k+s,k,k)],.list (vY a),.list (vY b)] Z Q:=by
 have M:eT (bP a b [(k,k+s,k,k)]).1 m k s/\eT (bP a b [(k,k+s,k,k)]).2 m k 0:=Gj (s':=0) la lb hk;have e:=M.1.gapN;have z0:=M.2.on.jz;obtain⟨f,h,cs',j1,j2,_,_,T,run⟩:=yT hl (by rw[la];exact hz) (by rw[lb];exact ai (aL ..) hz) (λg f=>Jg (nA a b) a (m+1) s k g f) (λ_ _ f=>Jz (m+1) f) (.inl ⟨bJ k,M.1.on⟩) (λ_ _ _ h q=>h.skip p q) (λg f f' g' lt h q S=>h.set (e▸lt) q z0 (e▸S))
  (λ_=>z0) (λ_ _ _ _ h _=>h) (λo _ g f _ _ lt h q _=>h.no (e▸lt) q)
 rw[e]at T;have j1:Jg (nA a b) a (m+1) s k (m+1) f:=e▸j1;refine ar j1.done λd od du=>?_;have c:cs'=[(d,d+s,d,d)]:=FD T.chg (od.mk1.chg (j2.on du.lt).mk1 (.inl p));subst c;exact⟨d,du,run⟩
end
end
section
noncomputable def dp(aF:List Ln)(s k:Nat):List Ln:=aF.take k++aF.drop (k+s)
def tc(N:List Int)(L:List Ln):Prop:=∀i j,i<L.length->j<L.length->(N[i]?=N[j]?↔L[i]?=L[j]?)
section
variable{N:List Int}{aF:List Ln}{m s k l:Nat}
theorem qj(hk:k<=m)(lt:aF.length=m+s){i:Nat}(hi:i<m):(dp aF s k)[i]?=if i<k then aF[i]? else aF[i+s]?:=by
 have tk:(aF.take k).length=k:=by rw[eW,lt];exact jh (ai hk (aL ..))
 unfold dp;by_cases c:i<k
 ·rw[if_pos c,ua (by rw[tk];exact c),List.getElem?_take,if_pos c]
 ·rw[if_neg c,mw (by rw[tk];exact bc.1 c),tk,Kv];obtain⟨j,rfl⟩:=bS (bc.1 c);rw[cD,dK]
theorem vm(hk:k<=m)(lt:aF.length=m+s):(dp aF s k).length=m:=by
 unfold dp;rw[bB,eW,hV,lt,jh (ai hk (aL ..)),JU,uq hk]
theorem TR(hN:tc N aF)(hk:k<=m)(hl:l<=m)(lt:aF.length=m+s):dp aF s l=dp aF s k↔Sm N s k l:=by
 have tel:∀i,i<m->(N[i]?=N[i+s]?↔aF[i]?=aF[i+s]?):=λi h=>hN i (i+s) (by rw[lt];exact aQ h (aL ..)) (by rw[lt];exact uj h s);refine⟨λe=>⟨λi a b=>?_,λi a b=>?_⟩,λw=>xT λi=>?_⟩
 ·have h:=aQ b hl;have z:(dp aF s l)[i]?=(dp aF s k)[i]?:=congrArg (λl:List Ln=>l[i]?) e;rw[qj hl lt h,qj hk lt h,if_pos b,if_neg (bc.2 a)]at z;exact(tel i h).2 z
 ·have h:=aQ b hk;have z:(dp aF s l)[i]?=(dp aF s k)[i]?:=congrArg (λl:List Ln=>l[i]?) e;rw[qj hl lt h,qj hk lt h,if_neg (bc.2 a),if_pos b]at z;exact(tel i h).2 z.symm
 ·rcases nN i m with h|h
  ·rw[qj hl lt h,qj hk lt h];by_cases a:i<l<;>by_cases b:i<k
   ·rw[if_pos a,if_pos b]
   ·rw[if_pos a,if_neg b];exact(tel i h).1 (w.1 i (bc.1 b) a)
   ·rw[if_neg a,if_pos b];exact((tel i h).1 (w.2 i (bc.1 a) b)).symm
   ·rw[if_neg a,if_neg b]
  ·rw[fI (by rw[vm hl lt];exact h),fI (by rw[vm hk lt];exact h)]
noncomputable def fc(aF:List Ln)(one:List Ln)(m s:Nat):List Nat:=(jN (m+1)).filter λk=>decide (dp aF s k=one)
noncomputable def qZ(aF:List Ln)(s:Nat)(S:List Nat):List Nat:=S.filter λk=>i9 (aF.getD (k+s-1) [])
noncomputable def jE(aF:List Ln)(one:List Ln)(m s:Nat):Nat:=if qZ aF s (fc aF one m s)=[] then(fc aF one m s).getLastD 0 else(qZ aF s (fc aF one m s)).getLastD 0
theorem N9{α:Type}:∀(l:List α)(a:α),l.getLastD a∈a::l:=λrr=>li (λ_=>fJ)
 (λb l ih a=>by rw[rF];exact kb _ (ih b)) rr
theorem uX{α:Type}{d:α}:∀{l:List α},l≠[]->l.getLastD d∈l:=@λrr=>li (@λh=>absurd rfl h)
 (@λa l _ _=>by rw[rF];exact N9 l a) rr
theorem EP{d:Nat}:∀{l:List Nat},l.Pairwise (· < ·)->∀{x},x∈l->x<=l.getLastD d:=@λrr=>li (@λ_ _ h=>nm h)
 (@λa l ih p x h=>by
  rw[rF];cases l with
  |nil=>rw[cJ.1 h];exact aC _
  |cons b l=>
   rcases cq.1 h with e|e
   ·subst e;exact cv (List.rel_of_pairwise_cons p (uX (d:=x) (rI b l)))
   ·exact ih (Ye p) e) rr
theorem Ha{one:List Ln}(hN:tc N aF)(hk:k<=m)(lt:aF.length=m+s)(e:dp aF s k=one):lZ N aF (m+1) s k (jE aF one m s):=by
 subst e;have ms:∀t,t∈fc aF (dp aF s k) m s↔t<m+1/\Sm N s k t:=λt=>by
  unfold fc;rw[rK,uw,decide_eq_true_iff];exact and_congr_right λh=>TR hN hk (eV h) lt
 have me:∀t,t∈qZ aF s (fc aF (dp aF s k) m s)↔t∈fc aF (dp aF s k) m s/\Bl aF s t:=λt=>rK;have p1:(fc aF (dp aF s k) m s).Pairwise (· < ·):=J7 _ List.pairwise_lt_range;have p2:(qZ aF s (fc aF (dp aF s k) m s)).Pairwise (· < ·):=J7 _ p1;have ne:fc aF (dp aF s k) m s≠[]:=Ky ((ms k).2 ⟨pA hk,λi a b=>absurd a (gT.2 b),λi a b=>absurd a (gT.2 b)⟩);unfold jE;by_cases c:qZ aF s (fc aF (dp aF s k) m s)=[]
 ·rw[if_pos c];have z:=(ms _).1 (uX (d:=0) ne);exact⟨z.1,z.2,.inr λt h q=>⟨EP p1 ((ms t).2 ⟨h,q⟩),λw=>by
   have y:=(me t).2 ⟨(ms t).2 ⟨h,q⟩,w⟩;rw[c]at y;cases y⟩⟩
 ·rw[if_neg c];have z:=(me _).1 (uX (d:=0) c);have y:=(ms _).1 z.1;exact⟨y.1,y.2,.inl ⟨z.2,λt h q l w=>absurd (EP (d:=0) p2 ((me t).2 ⟨(ms t).2 ⟨h,q⟩,w⟩)) (gT.2 l)⟩⟩
end
end
section
section
variable{one aF grp:List Ln}{m s k at':Nat}
theorem Ef{K a:List Ln}(hK:∀u,u∈a->u∈K):tc (iE K a) a:=by
 intro i j hi hj;rw[iE,cO,cO,bL hi,bL hj];refine⟨λe=>?_,λe=>by rw[di e]⟩;have e:((K.idxOf a[i]:Nat):Int)=(K.idxOf a[j]:Nat):=di e;have e:=kY.1 e;rw[<-rE (q9 (hK _ (iS hi))),<-rE (q9 (hK _ (iS hj)))]
 congr 2
theorem Tf(a b:List Ln):tc (nA a b) a:=Ef λu hu=>(pS b (mE a hu)).1
theorem Th(a b:List Ln):tc (nB a b) b:=Ef λu hu=>mE b hu
theorem Ey(hk:k<=m)(lt:aF.length=m+s):(dp aF s k).take k=aF.take k/\(dp aF s k).drop k=aF.drop (k+s):=by
 have tk:(aF.take k).length=k:=by rw[eW,lt];exact jh (ai hk (aL ..))
 unfold dp;exact⟨Lb tk,Cd tk⟩
theorem Ul(hk:k<=m)(lt:aF.length=m+s)(p:0<s)(e:dp aF s k=one):ee one aF true 0 0 [(k,k,k,k+s)]:=by
 subst e;have z:=Ey hk lt;exact⟨⟨bJ k,rfl,(λh=>nomatch h),aC _,aL ..,by rw[vm hk lt];exact hk,by rw[lt];exact kS hk s,.inr (hF p),z.1⟩,z.2⟩
theorem Si(hk:k<=m)(lt:aF.length=m+s)(p:0<s)(e:dp aF s k=one):ee aF one true 0 0 [(k,k+s,k,k)]:=by
 subst e;have z:=Ey hk lt;exact⟨⟨bJ k,rfl,(λh=>nomatch h),aL ..,aC _,by rw[lt];exact kS hk s,by rw[vm hk lt];exact hk,.inl (hF p),z.1.symm⟩,z.2.symm⟩
theorem Tp(h:at'<=one.length):(one.take at'++grp++one.drop at').length=one.length+grp.length:=by
 rw[bB,bB,eW,hV,jh h,dK,uq h]
theorem To(h:at'<=one.length):dp (one.take at'++grp++one.drop at') grp.length at'=one:=by
 have tk:(one.take at').length=at':=by rw[eW];exact jh h
 unfold dp;rw[eU,Lb tk,<-rN,Cd tk,Co,BC]
theorem Qa(hk:k<=m)(lo:one.length=m)(lt:aF.length=m+s)(hz:m+s<=400)(p:0<s)(e:dp aF s k=one):∀n Z(Q:QV),Q (.list [aV (jE aF one m s,jE aF one m s,jE aF one m s,jE aF one m s+s)]) Z->Ph pF (n+5) 8 [.list [aV (k,k,k,k+s)],.list (vY one),.list (vY aF)] Z Q:=by
 refine ar (Tb lo lt hz hk p (Ul hk lt p e)) λg d run=>?_;have z:=d.one (Ha (Th one aF) hk lt e) ⟨λi a b=>absurd a (gT.2 b),λi a b=>absurd a (gT.2 b)⟩;subst z;exact run
theorem Oh(hk:k<=m)(lo:one.length=m)(lt:aF.length=m+s)(hz:m+s<=400)(p:0<s)(e:dp aF s k=one):∀n Z(Q:QV),Q (.list [aV (jE aF one m s,jE aF one m s+s,jE aF one m s,jE aF one m s)]) Z->Ph pF (n+5) 8 [.list [aV (k,k+s,k,k)],.list (vY aF),.list (vY one)] Z Q:=by
 refine ar (QG lt lo hz hk p (Si hk lt p e)) λg d run=>?_;have z:=d.one (Ha (Tf aF one) hk lt e) ⟨λi a b=>absurd a (gT.2 b),λi a b=>absurd a (gT.2 b)⟩;subst z;exact run
end
end
section
section
variable{C:ax}{J:aj}{Z:ae}
theorem zt{a b:E}{l r:List V}(h:Ev C a J Z (.list l))(k:Ev C b J Z (.list r))(hz:l.length+r.length<=aJ):Ev C (.b .add a b) J Z (.list (l++r)):=fO h k (if_pos hz)
theorem vo{a b:E}{p q:List Ln}(h:Ev C a J Z (.list (vY p)))(k:Ev C b J Z (.list (vY q)))(hz:p.length+q.length<=aJ):Ev C (.b .add a b) J Z (.list (vY (p++q))):=λQ w=>zt h k (by rw[aY,aY];exact hz) Q (by rw[<-dy];exact w)
theorem yZ{a c:E}{p:List Ln}{j:Nat}(h:Ev C a J Z (.list (vY p)))(m:Ev C c J Z (nI j)):Ev C (.l a (.c .none) c) J Z (.list (vY (p.take j))):=λQ q=>zu h m Q (by rw[zb,uO];exact q)
theorem Gv:∀(k x:Nat),cC (x:Int) 1 k=(uD x k).map nI:=λrr=>ni (λ_=>rfl)
 (λk ih x=>by
  show V.int (x:Int)::cC ((x:Int)+1) 1 k=nI x::(uD (x+1) k).map nI;rw[show(x:Int)+1=((x+1:Nat):Int) from rfl,ih (x+1)]) rr
theorem RL{e t:E}{caps:List Nat}{own:List cM}{v:Nat}{k:Nat}(p:Nat->Bool)(hk:k<=1000)(he:Ev C e J Z (nI k))(H:∀i,i<k->∃J',d8 (.v v) (nI i) (caps.map (rd J)++aR own.length none)=some J'/\Ev C t J' Z (.bool (p i))/\rd J' v=some (nI i)) :
  Ev C (.comp caps own (.v v) (.range [e]) [t] (.x v)) J Z (.list (((jN k).filter p).map nI)):=λQ q=>
 yX [((k:Nat):Int)] (λQ q=>he _ q) (D5 hk) (nT (jN k) nI nI p (by rw[uo];exact ai hk (by decide)) (λi=>by rw[List.range_eq_range',<-Gv];rfl) (λi hi=>(H i (uw.1 hi)).imp λJ' w=>⟨w.1,λQ q=>w.2.1 Q q,λ_=>aa w.2.2⟩) q)
theorem RM{e t:E}{caps:List Nat}{own:List cM}{v:Nat}{l:List Nat}(p:Nat->Bool)(hk:l.length<=aJ)(he:Ev C e J Z (.list (l.map nI)))(H:∀i,i∈l->∃J',d8 (.v v) (nI i) (caps.map (rd J)++aR own.length none)=some J'/\Ev C t J' Z (.bool (p i))/\rd J' v=some (nI i)) :
  Ev C (.comp caps own (.v v) (.seq e) [t] (.x v)) J Z (.list ((l.filter p).map nI)):=λQ q=>
 pZ (he _ (ao rfl (nT l nI nI p hk (λ_=>rfl) (λi hi=>(H i hi).imp λJ' w=>⟨w.1,λQ q=>w.2.1 Q q,λ_=>aa w.2.2⟩) q)))
theorem yY{e:E}{l:List Nat}(he:Ev C e J Z (.list (l.map nI)))(n:l≠[]):Ev C (.i e (.neg (.c (.int 1)))) J Z (nI (l.getLastD 0)):=bW he kF (by
 show fF (l.map nI) (-1) = _;have p:0<(l.map nI).length:=mx.2 λz=>n (xM.1 z);have e:(l.map nI).getLast?=some (nI (l.getLastD 0)):=by
  rw[BZ];cases l with
  |nil=>exact absurd rfl n
  |cons a l=>rw[Kw,rF,Ju];rfl
 unfold fF;rw[if_neg (by decide),if_pos (by exact au [_] [] (.li .k0 (.a (.o .k1) .c0)) 1 [(1,.tn .k0 .v0)] rfl p),<-e,Bt];refine bA (Bq (iq p)) λn e=>?_;rw[e];exact congrArg (λi:Nat=>(l.map nI)[i]?) n1)
theorem Dx{n:Nat}{a b c d:E}{w x y z:Nat}(h:Ev (Ph pF (n+1)) a J Z (nI w))(i:Ev (Ph pF (n+1)) b J Z (nI x))(j:Ev (Ph pF (n+1)) c J Z (nI y))(k:Ev (Ph pF (n+1)) d J Z (nI z)):Ev (Ph pF (n+1)) (.new true 0 [a,b,c,d]) J Z (aV (w,x,y,z)):=λQ q=>h _ (i _ (j _ (k _ λd hd=>G8 hd q)))
section
variable{one aF grp:List Ln}{at' m s:Nat}
theorem TS{C:ax}{J:aj}{Z:ae}{a b k c:E}{i:Nat}(lt:aF.length<=800)(ha:Ev C a J Z (.list (vY aF)))(hk:Ev C k J Z (nI i))(hc:Ev C c J Z (nI s))(hb:Ev C b J Z (.list (vY one))):aI C (.m .eq (.b .add (.l a (.c .none) k) (.l a (.b .add k c) (.c .none))) b) J Z (dp aF s i=one):=
 vu (p:=aF.take i++aF.drop (i+s)) (vo (yZ ha hk) (p6 ha (bh hk hc rfl)) (by
  rw[eW,hV];exact ai (fh (ai (pC ..) lt) (ai (ez ..) lt)) (by decide))) hb
end
end
end
section
section
variable{one aF grp:List Ln}{at' m s:Nat}
theorem Pb{C:ax}{J:aj}{Z:ae}{e:E}{l:List Nat}(he:Ev C e J Z (.list (l.map nI)))(n:l≠[]):Ev C (.i e (.c (.int 0))) J Z (nI (l.headD 0)):=bW he Ev.cn (by
 cases l with
 |nil=>exact absurd rfl n
 |cons a l=>exact jO (i:=0) rfl)
theorem TU{C:ax}{J:aj}{Z:ae}{a b:E}{em st:List Nat}(ha:Ev C a J Z (.list (em.map nI)))(hb:Ev C b J Z (.list (st.map nI)))(n:st≠[]):Ev C (.ite (.m .ne a (.lst false [])) (.i a (.neg (.c (.int 1)))) (.i b (.neg (.c (.int 1))))) J Z (nI (if em=[] then st.getLastD 0 else em.getLastD 0)):=λQ q=>by
 have t:aI C (.m .ne a (.lst false [])) J Z (em≠[]):=y0 (g:=nI) (eq:=λa b=>(a:Int)==b) (λ_ _=>rfl) (λ_ _=>beq_iff_eq.trans kY) ha (q:=[]) λQ q=>q;by_cases c:em=[]
 ·rw[if_pos c]at q;exact iy t (λz=>z c) (yY hb n Q q)
 ·rw[if_neg c]at q;exact iZ t c (yY ha c Q q)
theorem kx{C:ax}{J:aj}{Z:ae}{a:E}{u:V}(h:Ev C a J Z u):Ev C (.lst false [a]) J Z (.list [u]):=λQ q=>h _ q
theorem Gl{α:Type}{x:α}:[x].length<=aJ:=show 1<=aJ by decide
theorem Tq{α:Type}{x y:α}:[x,y].length<=aJ:=show 2<=aJ by decide
theorem SM(x y:Cg):t5 x y=true↔x=y:=by
 obtain⟨x1,x2,x3,x4⟩:=x;obtain⟨y1,y2,y3,y4⟩:=y;unfold t5;simp[kY]
theorem Pd{C:ax}{J:aj}{Z:ae}{a b:E}{p q:List (List Cg)}(ha:Ev C a J Z (.list (p.map λc=>.list (c.map kP))))(hb:Ev C b J Z (.list (q.map λc=>.list (c.map kP)))):aI C (.m .eq a b) J Z (p=q):=
 uT (eq:=λx y=>decide (x=y)) (λx y=>(A5 (n:=2) (g:=kP) (eq:=t5) (λ_ _=>rfl) SM x y).elim λt w=>w.1.trans (congrArg some (by
  by_cases c:x=y
  ·rw[w.2.2 c,decide_eq_true c]
  ·rw[decide_eq_false c];cases t with
   |true=>exact absurd (w.2.1 rfl) c
   |false=>rfl))) (λ_ _=>decide_eq_true_iff) ha hb
theorem MD(hp:0<grp.length)(h1:one.length<=4)(h2:grp.length<=4)(ha:at'<=one.length)(hb:∀x,x∈one\/x∈grp->(i9 x=true↔x=[10])){n:Nat}{Z:ae}{Q:QV}(q:Q (.bool true) Z) :
  Ph pF (n+6) 24 [.list (vY one),.list (vY grp),nI at'] Z Q:=by
 have lt:=Tp (grp:=grp) ha;have ct:=To (grp:=grp) ha;have bt:∀x,x∈one.take at'++grp++one.drop at'->(i9 x=true↔x=[10]):=λx hx=>hb x (by
  rcases gx.1 hx with h|h
  ·rcases gx.1 h with h|h
   ·exact .inl (rt h)
   ·exact .inr h
  ·exact .inl (BG h))
 have z1:(one.take at').length+grp.length<=aJ:=by rw[eW];exact ai (fh (ai (pC ..) h1) h2) (by decide)
 have z2:(one.take at'++grp).length+(one.drop at').length<=aJ:=by rw[<-bB,lt];exact ai (fh h1 h2) (by decide)
 refine bN (J:=[some (.list (vY one)),some (.list (vY grp)),some (nI at'),none,none,none,none,none,none,none]) rfl ?_;refine fM (vo (vo (yZ (aa rfl) (aa rfl)) (aa rfl) z1) (p6 (aa rfl) (aa rfl)) z2) (ir (aa rfl)) rfl ?_;generalize one.take at'++grp++one.drop at'=aF at lt ct bt
 generalize grp.length=s at hp h2 lt ct
 have l8:aF.length<=8:=by rw[lt];exact fh h1 h2
 have lz:one.length+s<=400:=ai (fh h1 h2) (by decide);refine bM (v:=.list ((fc aF one one.length s).map nI)) (RL (k:=one.length+1) (λk=>decide (dp aF s k=one)) (ai (cK h1) (by decide)) (bh (ir (aa rfl)) Ev.cn rfl) λi hi=>⟨[some (.list (vY one)),some (.list (vY aF)),some (nI s),some (nI i)],rfl,jv (TS (ai l8 (by decide)) (aa rfl) (aa rfl) (aa rfl) (aa rfl)) decide_eq_true_iff,rfl⟩) ?_;have ms:∀t,t∈fc aF one one.length s->t<=one.length/\dp aF s t=one:=λt h=>by
  have z:=rK.1 h;exact⟨eV (uw.1 z.1),of_decide_eq_true z.2⟩
 have ne:fc aF one one.length s≠[]:=Ky (a:=at') (rK.2 ⟨uw.2 (pA ha),decide_eq_true ct⟩);have sl:(fc aF one one.length s).length<=aJ:=ai (JT ..) (by rw[uo];exact ai (cK h1) (by decide));refine bM (v:=.list ((qZ aF s (fc aF one one.length s)).map nI)) (RM (λk=>i9 (aF.getD (k+s-1) [])) sl (aa rfl) λi hi=>⟨[some (.list (vY aF)),some (nI s),some (nI i)],rfl,?_,rfl⟩) ?_
 ·have il:i+s-1<aF.length:=by
   rw[lt];exact aQ (nP (aQ hp (df ..)) mD) (kS (ms i hi).1 s)
  have ie:aF.getD (i+s-1) []=aF[i+s-1]:=by rw[fe,bL il];rfl
  rw[ie];refine jv (yF (x:=aF[i+s-1]) (bW (aa rfl) (cw (r:=((i+s-1:Nat):Int)) (bh (r:=((i+s:Nat):Int)) (aa rfl) (aa rfl) rfl) Ev.cn (by
   rw[ji (ai hp (df ..))];rfl)) (jO (by rw[cO,bL il];rfl))) Ev.cn) (bt _ (iS il))
 refine bM (v:=nI (jE aF one one.length s)) (TU (aa rfl) (aa rfl) ne) ?_;generalize hd:jE aF one one.length s=d
 refine bM (v:=.list ([(fc aF one one.length s).headD 0,(fc aF one one.length s).getLastD 0].map λ_=>.list ([((d,d,d,d+s):Cg)].map kP))) (λQ q=>pZ (n8 (Pb (aa rfl) ne) (yY (aa rfl) ne) _ (ao rfl (uQ [(fc aF one one.length s).headD 0,(fc aF one one.length s).getLastD 0] nI (λ_=>.list ([((d,d,d,d+s):Cg)].map kP)) Tq (λ_=>rfl) (λk hk=>⟨[some (.list (vY one)),some (.list (vY aF)),some (nI s),some (nI k)],rfl,?_⟩) q)))) ?_
 ·have km:k∈fc aF one one.length s:=by
   rcases cq.1 hk with e|hk
   ·subst e;generalize fc aF one one.length s=l at ne
    cases l with
    |nil=>exact absurd rfl ne
    |cons a l=>exact fJ
   ·rw[cJ.1 hk];exact uX ne
  have run:=Qa (ms k km).1 rfl lt lz hp (ms k km).2;rw[hd]at run;exact gD (kq (kx (Dx (n:=n+4) (w:=k) (x:=k) (y:=k) (z:=k+s) (aa rfl) (aa rfl) (aa rfl) (bh (aa rfl) (aa rfl) rfl))) (aa rfl) (aa rfl) λQ q=>run n Z Q q) λQ q=>uF (cs:=[(d,d,d,d+s)]) Gl q
 have run:=Oh ha rfl lt lz hp ct;rw[hd]at run;refine bM (v:=.list ([((d,d+s,d,d):Cg)].map kP)) (gD (kq (kx (Dx (n:=n+4) (w:=at') (x:=at'+s) (y:=at') (z:=at') (aa rfl) (bh (aa rfl) (aa rfl) rfl) (aa rfl) (aa rfl))) (aa rfl) (aa rfl) λQ q=>run n Z Q q) λQ q=>uF (cs:=[(d,d+s,d,d)]) Gl q) ?_;refine eG (jv (t:=true) (iV (Pd (p:=[[(d,d,d,d+s)],[(d,d,d,d+s)]]) (q:=aR 2 [(d,d,d,d+s)]) (aa rfl) (vV (k:=2) (kx (jq (aa rfl) (aa rfl) (aa rfl) (bh (aa rfl) (aa rfl) rfl))) Ev.cn (by decide))) λ_=>C8 (p:=[(d,d+s,d,d)]) (q:=[(d,d+s,d,d)]) (aa rfl) (kx (jq (aa rfl) (bh (aa rfl) (aa rfl) rfl) (aa rfl) (aa rfl)))) (iff_of_true rfl ⟨rfl,rfl⟩)) (bX q)
end
end
section
def fV(L:List Ln):Prop:=∀w,w∈L->∃k,jS k=true/\w=[k,10]
section
variable{L:List Ln}
theorem fV.tail{w:Ln}(h:fV (w::L)):fV L:=λu hu=>h u (kb _ hu)
theorem uU:∀{L:List Ln},fV L->L.flatten.length=2*L.length:=@λrr=>li (@λ_=>rfl)
 (@λw L ih h=>by
  obtain⟨k,_,rfl⟩:=h w fJ;show L.flatten.length+2=2*(L.length+1);rw[ih h.tail,Nat.mul_succ]) rr
theorem DE:∀{L:List Ln}{i:Nat},fV L->L.flatten.drop (2*i)=(L.drop i).flatten
 |[],i,_=>by rw[uy];exact uy
 |_::_,0,_=>rfl
 |w::L,i+1,h=>by
  obtain⟨k,_,rfl⟩:=h w fJ;exact DE (L:=L) (i:=i) h.tail
theorem Ge{i:Nat}(h:fV L)(hi:i<L.length):∃k,jS k=true/\L[i]=[k,10]/\L.flatten.drop (2*i)=k::10::(L.drop (i+1)).flatten:=by
 refine ar (h _ (iS hi)) λk a e=>?_;refine⟨k,a,e,?_⟩;rw[DE h,jJ hi,e];rfl
theorem Sw{k:UInt8}(h:jS k=true):k≠10:=λe=>by
 subst e;exact absurd h (by decide)
theorem RC{C:ax}{a c i:E}{b d:List UInt8}{x r:V}{J:aj}{Z:ae}(h:Ev C a J Z (.bytes b))(k:Ev C c J Z (.bytes d))(m:Ev C i J Z x)(e:m7 Z (.bytes b) .find [.bytes d,x]=some r):Ev C (.bm a .find [c,i]) J Z r:=λQ q=>h _ ⟨rfl,k _ (m _ (by exact ao e q))⟩
theorem RE{C:ax}{a:E}{b:List UInt8}{J:aj}{Z:ae}(h:Ev C a J Z (.bytes b)):Ev C (.bi .len [a]) J Z (nI b.length):=λQ q=>kA (h _ (ao rfl q))
theorem zv{C:ax}{a b c:E}{u v w x:V}{J:aj}{Z:ae}(h:Ev C a J Z u)(k:Ev C b J Z v)(m:Ev C c J Z w)(e:oP Z u v w=some x):Ev C (.l a b c) J Z x:=λQ q=>h _ (k _ (m _ (ao e q)))
noncomputable abbrev IJ:List S:=[.s (.v 3) (.bm (.x 0) .find [.c (.bytes [10]),.x 2]),
   .s (.v 3) (.ite (.m .lt (.x 3) (.c (.int 0))) (.bi .len [.x 0]) (.b .add (.x 3) (.c (.int 1)))),
   .ex (.bm (.x 1) .append [.l (.x 0) (.x 2) (.x 3)]),
   .s (.v 2) (.x 3)]
noncomputable def Bg(L:List Ln)(f i:Nat)(j:Option V):aj:=[some (.bytes L.flatten),some (.ref f),some (nI (2*i)),j]
noncomputable def mq(L:List Ln)(f:Nat)(Z:ae)(i:Nat):ae:=ak Z f (.list (vY (L.take i)))
theorem PX{i f n:Nat}{Z:ae}{j:Option V}(h:fV L)(hz:L.length<=400)(hi:i<L.length){Q:QO}(q:∀j,Q .next (Bg L f (i+1) j) (mq L f Z (i+1))):az (Ph pF n) IJ (Bg L f i j) (mq L f Z i) Q:=by
 refine cm (Ge h hi) λk a e fl=>?_;have fd:m7 (mq L f Z i) (.bytes L.flatten) .find [.bytes [10],nI (2*i)]=some (nI (2*i+1)):=by
  show(if 0<=((2*i:Nat):Int)/\((2*i:Nat):Int).toNat<=L.flatten.length then some (V.int (vz ((2*i:Nat):Int) (lO 10 (L.flatten.drop ((2*i:Nat):Int).toNat)))) else none) = _;rw[hU,if_pos ⟨eL _,by rw[uU h];exact rD 2 (cv hi)⟩,fl];show some (V.int (vz _ (if k=10 then some 0 else((if (10:UInt8)=10 then some 0 else(lO 10 _).map (·+1)):Option Nat).map (·+1)))) = _;rw[if_neg (Sw a),if_pos rfl];rfl
 have sl:oP (mq L f Z i) (.bytes L.flatten) (nI (2*i)) (nI (2*i+2))=some (.bytes L[i]):=by
  show(e9 0 (nI (2*i))).bind (λx=>(e9 L.flatten.length (nI (2*i+2))).map λy=>V.bytes (aH L.flatten x y)) = _;rw[n6,n6];show some (V.bytes (aH L.flatten (2*i) (2*i+2))) = _;unfold aH;rw[ki,cD,fl,e];rfl
 have ap:mq L f Z (i+1)=ak (mq L f Z i) f (.list (vY (L.take i)++[.bytes L[i]])):=by
  unfold mq;rw[dX,Jh hi];exact congrArg (λl=>ak Z f (M.list l)) dy
 have ln:(vY (L.take i)).length<aJ:=by
  rw[aY,eW];exact bC (ai (pC ..) hz) (by decide)
 refine bM (v:=nI (2*i+1)) (RC (aa rfl) Ev.cn (aa rfl) fd) ?_;refine bM (v:=nI (2*i+2)) (λQ q=>iy (sS (aa rfl) Ev.cn) (jM.2 (eL (2*i+1))) (bh (aa rfl) Ev.cn rfl Q q)) ?_;refine z7 (aa rfl) (aP ..) (zv (aa rfl) (aa rfl) (aa rfl) sl) ln ?_;rw[<-ap];exact bM (aa rfl) (q (some (nI (2*i+2))))
theorem ET(h:fV L)(hz:L.length<=400){n:Nat}{Z:ae}{Q:QV}(q:Q (.list (vY L)) Z):Ph pF (n+1) 0 [.bytes L.flatten] Z Q:=by
 obtain⟨i,hi,hn,run⟩:=fj (C:=λ_:Nat×ae=>Ph pF n) (c:=.m .lt (.x 2) (.bi .len [.x 0])) (b:=IJ) (λr i(j:Option V)=>Bg L r.1 i j) (λr i=>mq L r.1 r.2 i) (λi=>i<=L.length) (λi=>L.length-i) (λi=>i<L.length)
  (λi _ r j=>iu (eZ (i:=2*i) (j:=L.flatten.length) (aa rfl) (RE (aa rfl))) (by rw[uU h];exact Nat.mul_lt_mul_left (by decide)))
  (λi _ hi=>⟨i+1,hi,kf hi (bu i),λr j Q q=>PX h hz hi λj=>q j _ (Sub.refl' _)⟩) 0 (bJ _)
 have e:i=L.length:=cX hi (bc.1 hn);subst e;refine bN (J:=[some (.bytes L.flatten),none,none,none]) rfl λf hf=>?_;refine bM Ev.cn (aO (run (f,Z) none _ λj=>eG (aa rfl) (t7 (l:=vY L) ?_ hf (sO hf) q)));unfold mq;rw[aP,nJ]
end
end
section
section
variable{L:List Ln}
theorem Dj(k:Nat)(hk:k<=400):jU [(k:Int)-1,-1,-1]=some (cC ((k:Int)-1) (-1) k):=by
 show(if (eE ((k:Int)-1)=true/\eE (-1)=true)/\((-1:Int)=2\/(-1:Int) = -1) then some (mW ((k:Int)-1) (-1) (-1)) else none) = _;rw[if_pos ⟨⟨qw (by exact au [_] [] (.li (.o (.k 1048576)) (.s .c0 .k1)) 1 [] rfl) (by exact au [_] [] (.li (.s .c0 .k1) (.k 1048576)) 1 [(1,.ln .v0 (.k 400))] rfl hk),qw (by decide) (by decide)⟩,.inr rfl⟩];have e:(mu ((k:Int)-1) (-1) (-1)).toNat=k:=by
  unfold mu;rw[if_neg (by decide)];rw[show(-(-1:Int))=1 from rfl,LX];cases k with
  |zero=>rfl
  |succ k=>
   rw[if_pos (by exact au [_] [] (.ti (.o .k1) (.s (.c (.a .v0 .k1)) .k1)) 1 [] rfl),show((k+1:Nat):Int)-1 - -1-1+1=((k+1:Nat):Int) from bR [_] [] (.a (.s (.s (.s (.c (.a .v0 .k1)) .k1) (.o .k1)) .k1) .k1) (.c (.a .v0 .k1)) [] rfl];rfl
 exact congrArg (λt=>some (cC _ (-1) t)) e
theorem O9{C:ax}{a:E}{c:UInt8}{J:aj}{Z:ae}(h:Ev C a J Z (.bytes [c])):Ev C (.bm a .isalpha []) J Z (.bool (jS c)):=λQ q=>by
 have g:aK (m7 Z (.bytes [c]) .isalpha []) λr=>Q r Z:=ao (a:=V.bool (jS c)) rfl q;exact h _ ⟨rfl,g⟩
theorem NL{C:ax}{a:E}{b:List UInt8}{J:aj}{Z:ae}(h:Ev C a J Z (.bytes b)):Ev C (.bm a .rstrip []) J Z (.bytes (lE ou b)):=λQ q=>by
 have g:aK (m7 Z (.bytes b) .rstrip []) λr=>Q r Z:=ao (a:=V.bytes (lE ou b)) rfl q;exact h _ ⟨rfl,g⟩
noncomputable def tV(a:List Ln):Nat->Ln
 |0=>[]
 |k+1=>lE ou (a.getD k [])
theorem MZ(h:fV L){k:Nat}(hk:k<=L.length)(hz:L.length<=400):∀{n:Nat}{Z:ae}{Q:QV},Q (.bytes (tV L k)) Z->Ph pF (n+1) 9 [.list (vY L),nI k] Z Q:=by
 cases k with
 |zero=>exact λ{n Z Q}q=>bN (J:=[some (.list (vY L)),some (nI 0),none,none]) rfl (aO (sI [((0:Nat):Int)-1,-1,-1] (λQ q=>cw (aa rfl) Ev.cn rfl _ (kF _ (kF _ q))) (Dj 0 (bJ _)) ⟨1,ao rfl (eG Ev.cn (bX q))⟩))
 |succ k=>
  obtain⟨c,ca,e,_⟩:=Ge h hk;intro n Z Q q;have hw:tV L (k+1)=lE ou [c,10]:=by
   show lE ou (L.getD k []) = _;rw[fe,bL hk];exact congrArg (lE ou) e
  rw[hw]at q;refine bN (J:=[some (.list (vY L)),some (nI (k+1)),none,none]) rfl (aO (sI [((k+1:Nat):Int)-1,-1,-1] (λQ q=>cw (aa rfl) Ev.cn rfl _ (kF _ (kF _ q))) (Dj (k+1) (ai hk hz)) ⟨1,ao (a:=some (nI k)) ?_ (ao rfl ?_)⟩))
  ·show some (cC (((k+1:Nat):Int)-1) (-1) (k+1))[0]? = _;show some (some (V.int (((k+1:Nat):Int)-1))) = _;rw[Int.natCast_succ,xN]
  ·have ix:eQ Z (.list (vY L)) (nI k)=some (.bytes [c,10]):=jO (by rw[cO,bL hk,e];rfl);refine bM (v:=.bytes [c]) (zv (bW (aa rfl) (aa rfl) ix) Ev.cn Ev.cn rfl) ?_;refine aO (dF (p:=jS c=true\/True) (iX ⟨jS c,sD,O9 (aa rfl)⟩ λn=>absurd ca n) (.inl ca) ?_);exact eG (NL (zv (bW (aa rfl) (aa rfl) ix) Ev.cn Ev.cn rfl)) (bX q)
end
end
section
noncomputable abbrev Rw:=UInt8×Ln
noncomputable def gN(r:Rw):V:=.tup [.bytes [r.1],.bytes r.2]
noncomputable def cG(s:UInt8)(l:List Ln):List Rw:=l.map λw=>(s,w)
noncomputable def eC(a b:List Ln)(e:Nat):Nat->List Cg->List Rw
 |x,[]=>cG 32 (aH a x e)
 |x,c::g=>cG 32 (aH a x c.1)++(cG 45 (aH a c.1 c.2.1)++(cG 43 (aH b c.2.2.1 c.2.2.2)++eC a b e c.2.1 g))
section
variable{Z:ae}{J:aj}{rest:List S}{Q:QO}
theorem qg{n:Nat}{d c x:Nat}{i:Nat}{fs fs':List (bG×V)}{v:V}(h0:rd J 0=some (.inst c d))(hx:rd J i=some v)(hn:(dH c).contains x=true)(hl:fs.length<=100)(e:setA fs x v=fs')(q:az (Ph pF n) rest J (ak Z d (.attrs c fs')) Q) :
  az (Ph pF n) (.s (.a (.x 0) x) (.x i)::rest) J (ak Z d (.attrs c fs)) Q:=
 bM (aa hx) (yV (aa h0) (aP ..) hn hl (by rw[dX,e];exact q))
noncomputable abbrev H7(i j k l:V)(r:List V)(w:Ln):V:=.obj 4 [i,j,k,l,.list r,.bytes w]
theorem Qc{n d f:Nat}{i j k l:Int}{r:List V}{w:Ln}(hd:Z d=none)(hf:Z f=some (.list r)){Q:QV}(q:Q (H7 (.int i) (.int j) (.int k) (.int l) r w) (fX Z f)) :
  Ph pF (n+1) 54 [.inst 4 d,.int i,.int j,.int k,.int l,.ref f,.bytes w] (ak Z d (.attrs 4 [])) λr Z=>lQ true 4 d r Z Q:=by
 refine bN (J:=[some (.inst 4 d),some (.int i),some (.int j),some (.int k),some (.int l),some (.ref f),some (.bytes w)]) rfl ?_;refine qg rfl rfl rfl (dR rfl) rfl (qg rfl rfl rfl (dR rfl) rfl (qg rfl rfl rfl (dR rfl) rfl (qg rfl rfl rfl (dR rfl) rfl (qg rfl rfl rfl (dR rfl) rfl (qg rfl rfl rfl (dR rfl) rfl ?_)))));refine bX (ao rfl (ao (a:=(4,[(14,.int i),(15,.int j),(16,.int k),(17,.int l),(18,.ref f),(19,.bytes w)])) (by unfold gJ;rw[aP];rfl) ⟨rfl,rfl,?_⟩));have e:fX (ak Z d (.attrs 4 [(14,.int i),(15,.int j),(16,.int k),(17,.int l),(18,.ref f),(19,.bytes w)])) d=Z:=funext λb=>by
  unfold fX ak;by_cases h:b=d
  ·rw[if_pos h,h,hd]
  ·rw[if_neg h,if_neg h]
 show Q (.obj 4 (gL (fX (ak Z d (.attrs 4 [(14,.int i),(15,.int j),(16,.int k),(17,.int l),(18,.ref f),(19,.bytes w)])) d) [.int i,.int j,.int k,.int l,.ref f,.bytes w]).1) (gL (fX (ak Z d (.attrs 4 [(14,.int i),(15,.int j),(16,.int k),(17,.int l),(18,.ref f),(19,.bytes w)])) d) [.int i,.int j,.int k,.int l,.ref f,.bytes w]).2;rw[e];have g:gL Z [.ref f,.bytes w]=([.list r,.bytes w],fX Z f):=by
  have z:jG Z (.ref f)=some (f,r):=by show(cc Z f).map _ = _;rw[gV hf];rfl
  unfold gL;rw[z];rfl
 have g4:gL Z [.int i,.int j,.int k,.int l,.ref f,.bytes w]=([.int i,.int j,.int k,.int l,.list r,.bytes w],fX Z f):=by
  show(V.int i::V.int j::V.int k::V.int l::(gL Z [.ref f,.bytes w]).1,(gL Z [.ref f,.bytes w]).2) = _;rw[g]
 rw[g4];exact q
theorem Hi{C:ax}{e a:E}{g:Nat}{l r:List V}(he:Ev C e J Z (.ref g))(hg:Z g=some (.list l))(ha:Ev C a J Z (.list r))(hl:l.length+r.length<=aJ)(q:az C rest J (ak Z g (.list (l++r))) Q):az C (.ex (.bm e .extend [a])::rest) J Z Q:=
 he _ ⟨i7 hg rfl,ha _ (gj (ao (a:=(g,l)) (by show(cc Z g).map _ = _;rw[gV hg];rfl) (ao rfl (ao rfl ⟨hl,ao rfl q⟩))))⟩
theorem RD{C:ax}{g:Nat}{v:V}(h:qA g=some v):Ev C (.g g) J Z v:=λQ q=>ao h q
theorem y7{α:Type}(p q:List α):p.length<=(p++q).length:=by rw[bB];exact aL ..
theorem sP(s:UInt8)(p:List Ln):(cG s p).length=p.length:=aY ..
theorem vy{C:ax}{f gl:Nat}{s:UInt8}{own:List cM}{acc:List Rw}{p:List Ln}{e:E}(hv:rd J 6=some (.ref f))(ho:aR own.length (none:Option V)=[none])(hg:qA gl=some (.bytes [s]))(he:Ev C e J (ak Z f (.list (acc.map gN))) (.list (vY p)))(hl:(acc++cG s p).length<=aJ)(q:az C rest J (ak Z f (.list ((acc++cG s p).map gN))) Q) :
  az C (.ex (.bm (.x 6) .extend [.comp [] own (.v 0) (.seq e) [] (.tup [.g gl,.x 0])])::rest) J (ak Z f (.list (acc.map gN))) Q:=by
 have pl:p.length<=aJ:=by rw[bB,sP]at hl;exact ai (df ..) hl
 refine Hi (r:=(cG s p).map gN) (aa hv) (aP ..) (λQ q=>mI p V.bytes (λw=>gN (s,w)) pl he (λw _=>⟨[some (.bytes w)],by rw[ho];rfl,n8 (RD hg) (aa rfl)⟩) Q (by unfold cG at q;rw[ik]at q;exact q)) (by rw[aY,aY,<-bB];exact hl) ?_;rw[dX,<-dy];exact q
end
end
section
noncomputable def AV(g:List Cg):Cg:=g.headD (0,0,0,0)
noncomputable def bO(g:List Cg):Cg:=g.getLastD (0,0,0,0)
def iG(a b:List Ln)(K e e':Nat):Bool->Nat->Nat->List Cg->Prop
 |_,x,y,[]=>x<=e/\y+e=x+e'/\aH a x e=aH b y e'
 |f,x,y,c::g=>Lc a b f x y c/\(f=false->c.1<=x+K)/\iG a b K e e' false c.2.1 c.2.2.2 g
theorem DL{x y e e':Nat}(h:x<=e)(k:y+e=x+e'):y<=e':=au [_,_,_,_] [] (.ln .v0 .v1) 1 [(1,.en (.a .v0 .v2) (.a .v3 .v1)),(1,.ln .v3 .v2)] rfl k h
theorem iG.le{a b:List Ln}{K e e':Nat}:∀{g:List Cg}{f:Bool}{x y:Nat},iG a b K e e' f x y g->x<=e/\y<=e'
 :=λ{g}=>@(li (λ{_ _ _}h=>⟨h.1,DL h.1 h.2.1⟩) (λc g ih{_ _ _}h=>⟨ai h.1.l (ai h.1.o (ih h.2.2).1),ai h.1.yy (ai h.1.i (ih h.2.2).2)⟩) g)
noncomputable abbrev IZ:List S:=[.ex (.bm (.x 6) .extend [.comp [] [("line":cM)] (.v 0) (.seq (.l (.x 0) (.x 7) (.a (.x 9) 0))) [] (.tup [.g 1,.x 0])]),
   .ex (.bm (.x 6) .extend [.comp [] [("line":cM)] (.v 0) (.seq (.l (.x 0) (.a (.x 9) 0) (.a (.x 9) 1))) [] (.tup [.g 2,.x 0])]),
   .ex (.bm (.x 6) .extend [.comp [] [("line":cM)] (.v 0) (.seq (.l (.x 1) (.a (.x 9) 2) (.a (.x 9) 3))) [] (.tup [.g 3,.x 0])]),
   .aug (.v 8) .add (.b .add (.b .sub (.b .sub (.a (.x 9) 3) (.a (.x 9) 2)) (.a (.x 9) 1)) (.a (.x 9) 0)),
   .s (.v 7) (.a (.x 9) 1)]
noncomputable def nk(a b:List Ln)(gr ctx st en f x:Nat)(m:Int)(v9:Option V):aj:=[some (.list (vY a)),some (.list (vY b)),some (.ref gr),some (nI ctx),some (nI st),some (nI en),some (.ref f),some (nI x),some (.int m),v9,none,none,none]
section
variable{a b:List Ln}{gr ctx st en f x:Nat}{m:Int}{n:Nat}{Z:ae}
theorem Q9{C:ax}{i:Nat}{u v:Int}{e:E}{J:aj}{rest:List S}{Q:QO}(h:rd J i=some (.int u))(he:Ev C e J Z (.int v))(q:az C rest (wr J i (.int (u+v))) Z Q):az C (.aug (.v i) .add e::rest) J Z Q:=ao h (he _ (ao rfl q))
theorem NW{acc:List Rw}{c:Cg}{r:List Cg}(hl:(acc++eC a b en x (c::r)).length<=aJ){Q:QO}
  (q:Q .next (nk a b gr ctx st en f c.2.1 (m+((c.2.2.2:Int)-c.2.2.1-c.2.1+c.1)) (some (aV c))) (ak Z f (.list ((acc++cG 32 (aH a x c.1)++cG 45 (aH a c.1 c.2.1)++cG 43 (aH b c.2.2.1 c.2.2.2)).map gN)))) :
  az (Ph pF n) IZ (nk a b gr ctx st en f x m (some (aV c))) (ak Z f (.list (acc.map gN))) Q:=by
 have A:∀{Z:ae}{k:Nat}{v:V},jF Z (aV c) k=some v->Ev (Ph pF n) (.a (.x 9) k) (nk a b gr ctx st en f x m (some (aV c))) Z v:=λk=>br (aa rfl) k;replace hl:(acc++(cG 32 (aH a x c.1)++(cG 45 (aH a c.1 c.2.1)++(cG 43 (aH b c.2.2.1 c.2.2.2)++eC a b en c.2.1 r)))).length<=aJ:=hl;rw[<-eU,<-eU,<-eU]at hl;have l3:=ai (y7 ..) hl;have l2:=ai (y7 ..) l3;exact vy rfl rfl rfl (jo (aa rfl) (aa rfl) (A rfl)) (ai (y7 ..) l2) (vy rfl rfl rfl (jo (aa rfl) (A rfl) (A rfl)) l2 (vy rfl rfl rfl (jo (aa rfl) (A rfl) (A rfl)) l3
  (Q9 rfl (bh (cw (cw (A rfl) (A rfl) rfl) (A rfl) rfl) (A rfl) rfl) (bM (br (aa rfl) rfl) q))))
noncomputable def i0(n:Nat):Nat:=if 0<n then 1 else 0
theorem HX{C:ax}{J:aj}{e:E}{u:Nat}(h:Ev C e J Z (nI u)):Ev C (.bi .int [.m .gt e (.c (.int 0))]) J Z (nI (i0 u)):=λQ q=>kA (dj (op:=.gt) h Ev.cn (r:=decide ((0:Int)<(u:Int))) rfl _ (ao (a:=nI (i0 u)) (by
 have e:(if decide ((0:Int)<(u:Int))=true then(1:Int) else 0)=(i0 u:Nat):=by
  unfold i0;by_cases c:0<u
  ·rw[if_pos c,if_pos (decide_eq_true (show(0:Int)<u from dN.2 c))];rfl
  ·rw[if_neg c,decide_eq_false (show ¬(0:Int)<u from λz=>c (dN.1 z))];rfl
 exact congrArg (λz=>some (V.int z)) e) q))
theorem RH{C:ax}{J:aj}{e:E}{u v:Nat}(h:Ev C e J Z (.int ((u:Int)-v))):Ev C (.bi .max [.c (.int 0),e]) J Z (nI (u-v)):=λQ q=>h _ (show Q (V.int (if (0:Int)<(u:Int)-v then(u:Int)-v else 0)) Z by
 have e:(if (0:Int)<(u:Int)-v then(u:Int)-v else 0)=(u-v:Nat):=(nN v u).elim (λc=>by rw[if_pos (Int.sub_pos_of_lt (dN.2 c))];exact(ji (cv c)).symm)
  λc=>by rw[if_neg (jM.2 (J6 (gB.2 c))),BD c];rfl
 rw[e];exact q)
noncomputable def gw(x:Nat)(g:List Cg):Nat:=(AV g).1-x
noncomputable def j7(x:Nat)(g:List Cg):Nat:=(AV g).2.2.1-((AV g).1-gw x g)
noncomputable def fo(a:List Ln)(x:Nat)(g:List Cg):Nat:=fT a.length ((bO g).2.1+x)
noncomputable def jf(a:List Ln)(x:Nat)(g:List Cg):Nat:=(bO g).2.2.2+(fo a x g-(bO g).2.1)
noncomputable def kM(st om th nm:Nat)(r:List Rw)(w:Ln):V:=H7 (nI (st+i0 om)) (nI om) (nI (th+i0 nm)) (nI nm) (r.map gN) w
noncomputable def iQ(a b:List Ln)(x:Nat)(g:List Cg):V:=kM (gw x g) (fo a x g-gw x g) (j7 x g) (jf a x g-j7 x g) (eC a b (fo a x g) (gw x g) g) (tV a (gw x g))
noncomputable abbrev XD:List S:=[.ex (.bm (.x 6) .extend [.comp [] [("line":cM)] (.v 0) (.seq (.l (.x 0) (.x 7) (.x 5))) [] (.tup [.g 1,.x 0])]),
  .s (.v 10) (.b .sub (.a (.i (.x 2) (.c (.int 0))) 2) (.b .sub (.a (.i (.x 2) (.c (.int 0))) 0) (.x 4))),
  .s (.vs [11,12]) (.tup [.b .sub (.x 5) (.x 4),.b .add (.b .sub (.x 5) (.x 4)) (.x 8)]),
  .ret (.new true 4 [.b .add (.x 4) (.bi .int [.m .gt (.x 11) (.c (.int 0))]),.x 11,.b .add (.x 10) (.bi .int [.m .gt (.x 12) (.c (.int 0))]),.x 12,.x 6,.call 9 [.x 0,.x 4]])]
theorem Ru{m:M}(h:Z f=none):fX (ak Z f m) f=Z:=funext λb=>by
 unfold fX ak;by_cases c:b=f
 ·rw[if_pos c,c,h]
 ·rw[if_neg c,if_neg c]
theorem cZ{C:ax}{e:E}{es:List E}{v:V}{J:aj}{Q:List V->ae->Prop}(h:Ev C e J Z v)(k:eh C es J Z λvs Z=>Q (v::vs) Z):eh C (e::es) J Z Q:=h _ k
theorem Uu{C:ax}{frz:Bool}{c:Nat}{es:List E}{J:aj}{Q:QV}(h:eh C es J Z λvs Z=>∀d,Z d=none->C (initF c) (.inst c d::vs) (ak Z d (.attrs c [])) λr Z=>lQ frz c d r Z Q):WE C (.new frz c es) J Z Q:=h
theorem Po{acc:List Rw}{c:Cg}{gs:List V}{v9:Option V}{th nm:Nat}(ha:fV a)(hz:a.length<=400)(hs:st<=a.length)(se:st<=en)(hf:Z f=none)(hg:Z gr=some (.list (aV c::gs)))(hl:(acc++cG 32 (aH a x en)).length<=aJ)
  (e1:(c.2.2.1:Int)-(c.1-st)=th) (e2:((en-st:Nat):Int)+m=nm) {Q:QV} (q:Q (kM st (en-st) th nm (acc++cG 32 (aH a x en)) (tV a st)) Z) :
  az (Ph pF (n+1)) XD (nk a b gr ctx st en f x m v9) (ak Z f (.list (acc.map gN))) λo _ Z'=>∃v' Z'',Wk (jc o) Z' v' Z''/\Q v' Z'':=by
 have gf:gr≠f:=λe=>by rw[e,hf]at hg;exact nn hg
 have om:((en:Int)-st)=(en-st:Nat):=(ji se).symm;refine vy rfl rfl rfl (jo (aa rfl) (aa rfl) (aa rfl)) hl ?_;have G:∀{Z':ae},Z' gr=some (.list (aV c::gs))->Ev (Ph pF (n+1)) (.i (.x 2) (.c (.int 0))) (nk a b gr ctx st en f x m v9) Z' (aV c):=λh=>bW (aa rfl) Ev.cn (kr (i:=0) h rfl);have hg':ak Z f (.list ((acc++cG 32 (aH a x en)).map gN)) gr=some (.list (aV c::gs)):=(aA gf).trans hg;refine bM (v:=nI th) (cw (br (G hg') rfl) (cw (br (G hg') rfl) (aa rfl) rfl) e1) (fM (u:=nI (en-st)) (v:=nI nm) (cw (aa rfl) (aa rfl) om) (bh (cw (aa rfl) (aa rfl) om) (aa rfl) e2) rfl (lF ?_));refine Uu (cZ (bh (r:=((st+i0 (en-st):Nat):Int)) (aa rfl) (HX (u:=en-st) (aa rfl)) rfl) (cZ (aa rfl) (cZ (bh (r:=((th+i0 nm:Nat):Int)) (aa rfl) (HX (u:=nm) (aa rfl)) rfl) (cZ (aa rfl) (cZ (aa rfl) (cZ (v:=.bytes (tV a st)) (mH (aa rfl) (aa rfl) λQ q=>MZ ha hs hz q) ?_))))));refine λd hd=>Qc hd (aP ..) ?_;rw[Ru hf];exact bX q
end
end
section
theorem Gf{c:Cg}{g:List Cg}:((c::g).map aV).getLast?=some (aV (bO (c::g))):=by
 rw[BZ,Kw,bO,rF,Ju];rfl
section
variable{a b:List Ln}{x K gr:Nat}{n:Nat}{Z:ae}{c:Cg}{g:List Cg}
theorem RU{C:ax}{e:E}{t:T}{b:List S}{J:aj}{Q:QO}{r:Nat}{l:List V}(he:Ev C e J Z (.ref r))(hg:Z r=some (.list l))(h:∃n,bZ (.live r) t (λJ Z Q=>az C b J Z Q) Q n 0 J Z):WS C (.for t (.seq e) b) J Z Q:=
 he _ (ao (a:=.live r) (by show(cc Z r).map _ = _;rw[gV hg];rfl) h)
theorem R6{st en th eo f:Nat}{g:List Cg}(hg:Z gr=some (.list (g.map aV)))(gf:gr≠f)(G:iG a b K en eo true st th g)(hl:(eC a b en st g).length<=aJ){Q:QO}
  (fin:∀acc y z m v9,acc++cG 32 (aH a y en)=eC a b en st g->(y<=en/\z+en=y+eo/\m=((z:Int)-y)-((th:Int)-st))->Q .next (nk a b gr x st en f y m v9) (ak Z f (.list (acc.map gN)))) :
  ∃k,bZ (.live gr) (.v 9) (λJ Z Q=>az (Ph pF n) IZ J Z Q) Q k 0 (nk a b gr x st en f st 0 none) (ak Z f (.list [])):=
 qL (cE pF _) (l:=g) (f:=aV) (λ(s:List Rw×Nat×Nat×Int)v9=>nk a b gr x st en f s.2.1 s.2.2.2 v9) (λs=>ak Z f (.list (s.1.map gN)))
  (λi s=>s.1++eC a b en s.2.1 (g.drop i)=eC a b en st g/\iG a b K en eo (i==0) s.2.1 s.2.2.1 (g.drop i)/\s.2.2.2=((s.2.2.1:Int)-s.2.1)-((th:Int)-st))
  (λs k i h=>by show(cc _ gr).map _ = _;rw[gV ((aA gf).trans hg)];rfl)
  (λi hi s j h=>ao rfl λQ q=>by
   rw[jJ hi]at h;refine NW (by rw[h.1];exact hl) (q (_,g[i].2.1,g[i].2.2.2,_) _ ⟨?_,h.2.1.2.2,?_⟩)
   ·rw[<-h.1,eU,eU,eU];rfl
   ·exact bR [_,_,_,_,_,_,_,_] [_] (.a .v0 (.a (.s (.s .c0 .c1) .c2) .c3)) (.s (.s .c0 .c2) (.s .c4 .c5)) [(-1,.ei .v0 (.s (.s .c6 .c7) (.s .c4 .c5))),(-1,.en (.a .v6 .v3) (.a .v7 .v1))] rfl h.2.2 h.2.1.1.m)
  (λs j h=>by
   rw[kX]at h;exact fin s.1 s.2.1 s.2.2.1 s.2.2.2 j h.1 ⟨h.2.1.1,h.2.1.2.1,h.2.2⟩) (s:=([],st,th,0)) ⟨rfl,G,(CE _).symm⟩
theorem Mw(ha:fV a)(hz:a.length<=400)(hg:Z gr=some (.list ((c::g).map aV)))(hs:gw x (c::g)<=a.length)(G:iG a b K (fo a x (c::g)) (jf a x (c::g)) true (gw x (c::g)) (j7 x (c::g)) (c::g))(hl:(eC a b (fo a x (c::g)) (gw x (c::g)) (c::g)).length<=aJ){Q:QV}(q:Q (iQ a b x (c::g)) Z) :
  Ph pF (n+2) 10 [.list (vY a),.list (vY b),.ref gr,nI x] Z Q:=by
 refine bN (J:=[some (.list (vY a)),some (.list (vY b)),some (.ref gr),some (nI x),none,none,none,none,none,none,none,none,none]) rfl ?_;refine bM (v:=nI (gw x (c::g))) (RH (u:=c.1) (v:=x) (cw (br (v:=nI c.1) (bW (aa rfl) Ev.cn (kr (i:=0) hg rfl)) rfl) (aa rfl) rfl)) ?_;refine bM (v:=nI (fo a x (c::g))) (vT (ir (aa rfl)) (bh (r:=(((bO (c::g)).2.1+x:Nat):Int)) (br (v:=nI (bO (c::g)).2.1) (bW (v:=aV (bO (c::g))) (aa rfl) kF (r7 hg Gf)) rfl) (aa rfl) rfl)) λf hf=>?_;have gf:gr≠f:=λe=>by rw[e,hf]at hg;exact nn hg
 refine ao rfl ⟨rfl,aO (RU (l:=(c::g).map aV) (aa rfl) ((aA gf).trans hg) (R6 hg gf G hl λacc y z m v9 hr h=>?_))⟩;have le:=G.le;have yz:=DL h.1 h.2.1;refine Po (c:=c) (gs:=g.map aV) (th:=j7 x (c::g)) (nm:=jf a x (c::g)-j7 x (c::g)) ha hz hs le.1 hf hg (by rw[hr];exact hl) ?_ ?_ (by rw[hr];exact q)
 ·exact bR [_,_,_,_] [] (.s .c0 (.s .c1 .c2)) .c3 [(1,.en (.a .v3 .v1) (.a .v2 .v0))] rfl G.1.m
 ·rw[h.2.2,ji le.1,ji le.2];exact bR [_,_,_,_,_,_] [] (.a (.s .c0 .c1) (.s (.s .c2 .c3) (.s .c4 .c1))) (.s .c5 .c4) [(-1,.en (.a .v2 .v0) (.a .v3 .v5))] rfl h.2.1
end
end
section
def qV(K:Nat):Nat->List Cg->Prop
 |_,[]=>True
 |p,d::g=>d.1<=p+K/\qV K d.2.1 g
def Sp(K:Nat):Bool->Nat->List (List Cg)->Prop
 |_,_,[]=>True
 |f,p,g::gs=>(∃c r,g=c::r/\(f=false->p+K<c.1)/\qV K c.2.1 r)/\Sp K false (bO g).2.1 gs
section
variable{K:Nat}{d:Cg}
theorem uY(c e:Cg)(g:List Cg):bO (c::e::g)=bO (e::g):=rF ..
theorem Pr:∀{g:List Cg}{c:Cg},qV K c.2.1 g->d.1<=(bO (c::g)).2.1+K->qV K c.2.1 (g++[d]):=λ{rr}=>@(li (λ{c}_ h=>⟨h,trivial⟩)
 (λe g ih{c}h k=>⟨h.1,ih h.2 (by rw[uY]at k;exact k)⟩) rr)
theorem U7{g:List Cg}(k:(bO g).2.1+K<d.1):∀{gs:List (List Cg)}{f:Bool}{p:Nat},Sp K f p (gs++[g])->Sp K f p (gs++[g]++[[d]])
 :=λ{gs}=>@(li (λ{_ _}h=>⟨h.1,⟨d,[],rfl,λ_=>k,trivial⟩,trivial⟩) (λ_ gs ih{_ _}h=>⟨h.1,ih h.2⟩) gs)
theorem U6{g:List Cg}(k:d.1<=(bO g).2.1+K):∀{gs:List (List Cg)}{f:Bool}{p:Nat},Sp K f p (gs++[g])->Sp K f p (gs++[g++[d]])
 :=λ{gs}=>@(li (λ{_ _}h=>cp h.1 λc r e h1 h2=>⟨⟨c,r++[d],by rw[e];rfl,h1,Pr h2 (by rw[<-e];exact k)⟩,trivial⟩) (λ_ gs ih{_ _}h=>⟨h.1,ih h.2⟩) gs)
theorem VZ{g:List Cg}:∀{gs:List (List Cg)}{f:Bool}{p:Nat},Sp K f p (gs++[g])->∃c r,g=c::r
 :=λ{gs}=>@(li (λ{_ _}h=>hE h.1 λc r e _=>⟨c,r,e⟩) (λ_ gs ih{_ _}h=>ih h.2) gs)
end
structure GT(Z0:ae)(gA:Nat)(rs:List (Nat×List Cg))(Z:ae):Prop where
 at_:Z gA=some (.list (rs.map λp=>.ref p.1))
 row:∀p,p∈rs->Z p.1=some (.list (p.2.map aV))
 nd:rs.Pairwise λp q=>p.1≠q.1
 new:∀p,p∈rs->p.1≠gA/\Z0 p.1=none
 sub:Sub Z0 Z
 na:Z0 gA=none
section
variable{Z0 Z:ae}{gA r:Nat}{rs:List (Nat×List Cg)}{g:List Cg}{d:Cg}
theorem vO{a:Nat}{m:M}(h:Sub Z0 Z)(n:Z0 a=none):Sub Z0 (ak Z a m):=λx m' e=>(aA λz=>by rw[z,n]at e;exact nn e).trans (h x m' e)
theorem GT.push(h:GT Z0 gA rs Z)(hr:Z r=none):GT Z0 gA (rs++[(r,[d])]) (ak (ak Z r (.list [aV d])) gA (.list ((rs.map λp=>V.ref p.1)++[.ref r]))):=by
 have z:Z0 r=none:=pd λn=>(Option.ne_none_iff_exists'.1 n).elim λm e=>by rw[h.sub r m e]at hr;cases hr
 have ra:r≠gA:=λe=>by rw[e,h.at_]at hr;cases hr
 have nr:∀p,p∈rs->p.1≠r:=λp hp e=>by have w:=h.row p hp;rw[e,hr]at w;exact nn w
 refine⟨by rw[aP,dy];rfl,λp hp=>?_,xH.2 ⟨h.nd,ug ..,λp hp q hq=>by rw[cJ.1 hq];exact nr p hp⟩,λp hp=>?_,vO (vO h.sub z) h.na,h.na⟩
 ·rcases gx.1 hp with k|k
  ·exact(aA (h.new p k).1).trans ((aA (nr p k)).trans (h.row p k))
  ·rw[cJ.1 k];exact(aA ra).trans (aP ..)
 ·rcases gx.1 hp with k|k
  ·exact h.new p k
  ·rw[cJ.1 k];exact⟨ra,z⟩
theorem GT.add(h:GT Z0 gA (rs++[(r,g)]) Z):GT Z0 gA (rs++[(r,g++[d])]) (ak Z r (.list (g.map aV++[aV d]))):=by
 have m:(r,g)∈rs++[(r,g)]:=rh _ fJ;have z:=h.new _ m;have nd:=xH.1 h.nd;refine⟨(aA z.1.symm).trans (h.at_.trans (by rw[dy,dy];rfl)),λp hp=>?_,xH.2 ⟨nd.1,ug ..,λp hp q hq=>by rw[cJ.1 hq];exact nd.2.2 p hp (r,g) fJ⟩,λp hp=>?_,vO h.sub z.2,h.na⟩
 ·rcases gx.1 hp with k|k
  ·exact(aA (nd.2.2 p k _ fJ)).trans (h.row p (rq _ k))
  ·rw[cJ.1 k];exact(aP ..).trans (congrArg (λl=>some (M.list l)) (dy (f:=aV) (l₁:=g) (l₂:=[d])).symm)
 ·rcases gx.1 hp with k|k
  ·exact h.new p (rq _ k)
  ·rw[cJ.1 k];exact z
end
end
section
noncomputable abbrev XC:List S:=[.ite (.o true [.m .ne (.x 7) (.lst false []),.m .le (.b .sub (.a (.x 8) 0) (.a (.i (.i (.x 7) (.neg (.c (.int 1)))) (.neg (.c (.int 1)))) 1)) (.b .add (.b .mul (.c (.int 2)) (.x 2)) (.x 3))])
   [.ex (.bm (.i (.x 7) (.neg (.c (.int 1)))) .append [.x 8])]
   [.ex (.bm (.x 7) .append [.lst true [.x 8]])]]
noncomputable def nj(v0 v1 v4:V)(a b:List Ln)(x y gA:Nat)(v8:Option V):aj:=[some v0,some v1,some (nI x),some (nI y),some v4,some (.list (vY a)),some (.list (vY b)),some (.ref gA),v8]
noncomputable abbrev Gs(rs:List (Nat×List Cg)):List (List Cg):=rs.map (·.2)
section
variable{Z0 Z:ae}{v0 v1 v4:V}{a b:List Ln}{x y gA:Nat}{rs:List (Nat×List Cg)}{d:Cg}{n:Nat}
theorem Hm(T:GT Z0 gA rs Z)(hl:rs.length<aJ){Q:QO}(q:∀r Z',GT Z0 gA (rs++[(r,[d])]) Z'->Q .next (nj v0 v1 v4 a b x y gA (some (aV d))) Z') :
  az (Ph pF n) [.ex (.bm (.x 7) .append [.lst true [.x 8]])] (nj v0 v1 v4 a b x y gA (some (aV d))) Z Q:=by
 refine ao rfl ⟨i7 T.at_ rfl,ao rfl λr hr=>?_⟩;have ra:gA≠r:=λe=>by rw[<-e,T.at_]at hr;cases hr
 exact gj (ky ((aA ra).trans T.at_) (by rw[aY];exact hl) (ao rfl (q r _ (T.push hr))))
theorem RZ(T:GT Z0 gA rs Z)(hs:Sp (2*x+y) true 0 (Gs rs))(hl:rs.length<aJ)(hc:(Gs rs).flatten.length<aJ){Q:QO}
  (q:∀rs' Z',GT Z0 gA rs' Z'->Sp (2*x+y) true 0 (Gs rs')->(Gs rs').flatten=(Gs rs).flatten++[d]->rs'.length<=rs.length+1->Q .next (nj v0 v1 v4 a b x y gA (some (aV d))) Z') :
  az (Ph pF n) XC (nj v0 v1 v4 a b x y gA (some (aV d))) Z Q:=by
 have tf:aI (Ph pF n) (.m .ne (.x 7) (.lst false [])) (nj v0 v1 v4 a b x y gA (some (aV d))) Z ((rs.map λp=>V.ref p.1)≠[]):=p7 (aa rfl) T.at_;rcases JR rs with e|⟨rs0,⟨r,g⟩,e⟩
 ·subst e;exact aO (bH (p:=_/\False) (iV tf λz=>absurd rfl z) (λz=>z.2) (Hm T hl λr Z' T'=>q _ Z' T' ⟨⟨d,[],rfl,(λz=>nb z),trivial⟩,trivial⟩ rfl (aC _)))
 ·rw[JP]at e;subst e;have gs:∀h,Gs (rs0++[(r,h)])=Gs rs0++[h]:=λh=>dy;have gg:∀r',Gs (rs0++[(r,g)]++[(r',[d])])=Gs rs0++[g]++[[d]]:=λr'=>dy.trans (congrArg (·++[[d]]) (gs g));have gl:(Gs rs0++[g]).flatten=(Gs rs0).flatten++g:=by rw[BL];exact congrArg (_++·) (gP g)
  rw[gs]at hs hc;have row:=T.row (r,g) (rh _ fJ);have eg:Ev (Ph pF n) (.i (.x 7) (.neg (.c (.int 1)))) (nj v0 v1 v4 a b x y gA (some (aV d))) Z (.ref r):=bW (aa rfl) kF (r7 T.at_ (by rw[dy];exact BE ..));have tt:aI (Ph pF n) (.m .le (.b .sub (.a (.x 8) 0) (.a (.i (.i (.x 7) (.neg (.c (.int 1)))) (.neg (.c (.int 1)))) 1)) (.b .add (.b .mul (.c (.int 2)) (.x 2)) (.x 3))) (nj v0 v1 v4 a b x y gA (some (aV d))) Z (d.1<=(bO g).2.1+(2*x+y)):=by
   refine XR (VZ hs) λc t e=>?_;have lg:(g.map aV).getLast?=some (aV (bO g)):=by rw[e];exact Gf
   exact iu (Hh (i:=(d.1:Int)-(bO g).2.1) (j:=2*(x:Int)+y) (cw (br (v:=nI d.1) (aa rfl) rfl) (br (v:=nI (bO g).2.1) (bW eg kF (r7 row lg)) rfl) rfl) (bh (fO (op:=.mul) (v:=.int (2*(x:Int))) Ev.cn (aa rfl) rfl) (aa rfl) rfl)) ⟨λh=>au [_,_,_,_] [] (.ln .v0 (.a .v1 (.a (.m 2 .v2) .v3))) 1 [(1,.li (.s .c0 .c1) (.a (.m 2 .c2) .c3))] rfl h,λh=>au [_,_,_,_] [] (.li (.s .c0 .c1) (.a (.m 2 .c2) .c3)) 1 [(1,.ln .v0 (.a .v1 (.a (.m 2 .v2) .v3)))] rfl h⟩
  have tb:=iV tf λ_=>tt;by_cases k:d.1<=(bO g).2.1+(2*x+y)
  ·refine aO (dF tb ⟨by rw[dy];exact λz=>(nc (rg.1 z).2),k⟩ (z7 eg row (aa rfl) ?_ (q _ _ T.add (by rw[gs];exact U6 k hs) ?_ (by rw[bB,bB];exact eN _))))
   ·rw[aY];rw[gl,bB]at hc;exact bC (df ..) hc
   ·rw[gs,gs,gl,BL,eU];exact congrArg (_++·) (gP _)
  ·refine aO (bH tb (λz=>k z.2) (Hm T hl λr' Z' T'=>q _ Z' T' ?_ ?_ (by rw[bB (bs:=[(r',[d])])];exact aC _)))
   ·rw[gg];exact U7 (pB k) hs
   ·rw[gg,gs,BL];rfl
end
end
section
section
variable{α:Type}{a b:List α}{i j t u:Nat}
theorem qd(l:List α)(i:Nat){j:Nat}(h:j<=l.length):(aH l i j).length=j-i:=by
 unfold aH;rw[hV,eW,jh h]
theorem pP(l:List α)(i j:Nat):(aH l i j).length<=j-i:=by
 unfold aH;rw[hV,eW];exact rA (rL ..) i
theorem E1(h:aH a i (i+t)=aH b j (j+t))(k:u<=t):aH a i (i+u)=aH b j (j+u):=by
 unfold aH at h ⊢;rw[ki,ki,cD,cD]at h ⊢;have z:=congrArg (List.take u) h;rw[Lr,Lr,jh k]at z;exact z
theorem E2(h:aH a i (i+t)=aH b j (j+t)):aH a (i+u) (i+t)=aH b (j+u) (j+t):=by
 unfold aH at h ⊢;have z:=congrArg (List.drop u) h;rw[rN,rN]at z;exact z
theorem Qf(h:j<=b.length)(k:t<=a.length-i)(e:aH a i (i+t)=aH b j (j+t)):j+t<=b.length:=by
 have z:=congrArg rQ e;unfold aH at z;rw[ki,ki,cD,cD,eW,eW,hV,hV,jh k]at z;exact Nat.add_le_of_le_sub' h (z▸pC ..)
theorem Mi(h:a.drop i=b.drop j):aH a i (i+t)=aH b j (j+t):=by
 unfold aH;rw[ki,ki,h,cD,cD]
end
theorem sM(u v:Nat):fT u v<=u/\fT u v<=v:=by
 unfold fT;by_cases c:v<u
 ·rw[if_pos c];exact⟨cv c,aC _⟩
 ·rw[if_neg c];exact⟨aC _,bc.1 c⟩
theorem Sj{u v w:Nat}(h:w<=u)(k:w<=v):w<=fT u v:=by
 unfold fT;by_cases c:v<u
 ·rw[if_pos c];exact k
 ·rw[if_neg c];exact h
section
variable{a b:List Ln}{K x en eo:Nat}{rest:List Cg}
theorem Uc:∀{r:List Cg}{c:Cg},ee a b false c.2.1 c.2.2.2 (r++rest)->qV K c.2.1 r->(bO (c::r)).2.1<=en->(bO (c::r)).2.2.2+en=(bO (c::r)).2.1+eo->aH a (bO (c::r)).2.1 en=aH b (bO (c::r)).2.2.2 eo->iG a b K en eo false c.2.1 c.2.2.2 r:=λ{rr}=>@(li (λ{_}_ _ h1 h2 h3=>⟨h1,h2,h3⟩)
 (λe r ih{c}h k h1 h2 h3=>by
  rw[uY]at h1 h2 h3;exact⟨h.1,λ_=>k.1,ih h.2 k.2 h1 h2 h3⟩) rr)
theorem PV:∀{r:List Cg}{c:Cg}{f:Bool}{p q:Nat},ee a b f p q (c::r++rest)->ee a b false (bO (c::r)).2.1 (bO (c::r)).2.2.2 rest/\(bO (c::r)).2.1<=a.length/\(bO (c::r)).2.2.2<=b.length:=λ{rr}=>@(li (λ{_}{_}{_}{_}h=>⟨h.2,h.1.ha,h.1.hb⟩)
 (λe r ih{c}{_}{_}{_}h=>by rw[uY];exact ih h.2) rr)
theorem Lc.gap{f:Bool}{p q:Nat}{c:Cg}(h:Lc a b f p q c):∃t,c.1=p+t/\c.2.2.1=q+t/\aH a p (p+t)=aH b q (q+t):=by
 have e1:c.1=p+(c.1-p):=(fv h.l).symm;have e2:c.2.2.1=q+(c.1-p):=bE [_,_,_,_,_] [] .v0 (.a .v1 .v2) [(1,.en (.a .v1 .v3) (.a .v4 .v0)),(-1,.en .v3 (.a .v4 .v2))] rfl h.m e1;have p:=h.p;rw[e1,e2]at p;exact⟨_,e1,e2,p⟩
theorem Te{gs:List (List Cg)}{p q d:Nat}(h:ee a b false p q gs.flatten)(hs:Sp K false p gs)(hd:d<=K):aH a p (p+d)=aH b q (q+d):=by
 cases gs with
 |nil=>exact Mi h
 |cons g gs=>
  refine cp hs.1 λc r e h1 _=>?_;subst e;refine cm h.1.gap λt e1 _ k=>?_;exact E1 k (cv (bC hd (ub (e1▸h1 rfl))))
structure Ga(a b:List Ln)(K x:Nat)(f:Bool)(p q:Nat)(g:List Cg)(rest:List Cg)(t:Nat):Prop where
 st:gw x g=p+t
 th:j7 x g=q+t
 pt:aH a p (p+t)=aH b q (q+t)
 lt:f=false->K<t+x
 G:iG a b K (fo a x g) (jf a x g) true (gw x g) (j7 x g) g
 l:ee a b false (bO g).2.1 (bO g).2.2.2 rest
 le:(bO g).2.1<=fo a x g
 eo:jf a x g<=b.length
theorem FY{gs:List (List Cg)}{c:Cg}{r:List Cg}{f:Bool}{p q:Nat}(h:ee a b f p q (c::r++gs.flatten))(s1:f=false->p+K<c.1)(s2:qV K c.2.1 r)(s3:Sp K false (bO (c::r)).2.1 gs)(h0:f=true->p=0/\q=0)(hx:x<=K) :
  ∃t,Ga a b K x f p q (c::r) gs.flatten t:=by
 have lr:=PV h;have le:=Sj lr.2.1 (aL (bO (c::r)).2.1 x);have en:(bO (c::r)).2.1+(fo a x (c::r)-(bO (c::r)).2.1)=fo a x (c::r):=fv le;have tl:=Te (d:=fo a x (c::r)-(bO (c::r)).2.1) lr.1 s3 (ai (xE.2 (sM ..).2) hx);have eo:=Qf lr.2.2 (rA (sM a.length ((bO (c::r)).2.1+x)).1 _) tl;rw[en]at tl;have gp:(bO (c::r)).2.2.2+fo a x (c::r)=(bO (c::r)).2.1+jf a x (c::r):=by
  rw[jf,<-cu,cb (bO (c::r)).2.1,cu,en]
 refine cm h.1.gap λt k1 k2 k9=>?_;have tx:f=false->x<t:=λz=>bC hx (ub (k1▸s1 z));have e1:gw x (c::r)=p+(t-x):=by
  show c.1-x = _;rw[k1];cases f with
  |true=>rw[(h0 rfl).1,aU,aU]
  |false=>exact xV (cv (tx rfl)) p
 have d1:c.1-(p+(t-x))=t-(t-x):=by rw[k1,px]
 have e2:j7 x (c::r)=q+(t-x):=by
  show c.2.2.1-(c.1-gw x (c::r)) = _;rw[e1,d1,k2,xV (ez ..),B8 (ez ..)]
 refine⟨t-x,e1,e2,E1 k9 (ez ..),λz=>?_,?_,lr.1,le,eo⟩
 ·rw[BS (cv (tx z))];exact ub (k1▸s1 z)
 ·have L:=h.1;rw[e1,e2];refine⟨⟨k1▸kU (ez ..) p,?_,(λz=>nb z),L.o,L.i,L.ha,L.hb,L.n,by rw[k1,k2];exact E2 k9⟩,(λz=>nb z),Uc h.2 s2 le gp tl⟩;rw[k1,k2];exact bE [_,_,_,_] [] (.a (.a .v0 .v1) (.a .v2 .v3)) (.a (.a .v2 .v1) (.a .v0 .v3)) [] rfl
theorem Vj{p q r s u v w x y z:Nat}(h1:p<=u-x)(h2:q<=v-u)(h3:r<=w-z)(h4:s<=(y-v)+(x'-w))(k1:x<=u)(k2:u<=v)(k3:v<=y)(k4:t<=z)(k5:z<=w)(k6:w<=x'):p+(q+(r+s))<=(y-x)+(x'-t):=
 au [_,_,_,_,_,_,_,_,_,_,_,_,_,_,_,_,_,_,_] [] (.ln (.a .v0 (.a .v1 (.a .v2 .v3))) (.a .v4 .v5)) 1 [(1,.ln .v0 .v6),(1,.ln .v1 .v7),(1,.ln .v2 .v8),(1,.ln .v3 (.a .v9 (.v 10))),(1,.en (.a .v6 (.v 11)) (.v 12)),(1,.en (.a .v7 (.v 12)) (.v 13)),(1,.en (.a .v8 (.v 14)) (.v 15)),(1,.en (.a .v9 (.v 13)) (.v 16)),(1,.en (.a (.v 10) (.v 15)) (.v 17)),(1,.ln (.v 16) (.a .v4 (.v 11))),(1,.ln (.v 17) (.a .v5 (.v 18))),(1,.ln (.v 18) (.v 14))] rfl h1 h2 h3 h4 (aZ k1) (aZ k2) (aZ k5) (aZ k3) (aZ k6) cW cW k4
theorem D6:∀{g:List Cg}{f:Bool}{y z:Nat},iG a b K en eo f y z g->(eC a b en y g).length<=(en-y)+(eo-z):=λ{rr}=>@(li (λ{_}{y}{z}_=>by
  show(cG 32 _).length<=_;rw[sP];exact ai (pP ..) (aL ..))
 (λc g ih{_}{y}{z}h=>by
  have le:=h.2.2.le;show(cG 32 _++(cG 45 _++(cG 43 _++eC a b en c.2.1 g))).length<=_;rw[bB,bB,bB,sP,sP,sP];exact Vj (pP ..) (pP ..) (pP ..) (ih h.2.2) h.1.l h.1.o le.1 h.1.yy h.1.i le.2) rr)
end
end
section
theorem Pa{C:ax}{J:aj}{Z:ae}{a b c d:E}{u v w x res:V}{f:Nat}(ha:Ev C a J Z u)(hb:Ev C b J Z v)(hc:Ev C c J Z w)(hd:Ev C d J Z x)(h:∀Q:QV,Q res Z->C f [u,v,w,x] Z Q):Ev C (.call f [a,b,c,d]) J Z res:=λQ q=>ha _ (hb _ (hc _ (hd _ (h Q q))))
theorem MN{a b:List Ln}{K x:Nat}(hx:x<=K):∀{gs:List (List Cg)}{f:Bool}{p q:Nat},ee a b f p q gs.flatten->Sp K f p gs->(f=true->p=0/\q=0)->∀g,g∈gs->∃c r,g=c::r/\iG a b K (fo a x g) (jf a x g) true (gw x g) (j7 x g) g/\jf a x g<=b.length
 :=λ{gs}=>@(li (λ{_ _ _}_ _ _ _ h=>nm h) (λg gs ih{_ _ _}h hs h0 u hu=>by
  refine cp hs.1 λc r e s1 s2=>?_;subst e;refine bA (FY h s1 s2 hs.2 h0 hx) λt A=>?_;exact(cq.1 hu).elim (λk=>by rw[k];exact⟨c,r,rfl,A.G,A.eo⟩) λk=>ih A.l hs.2 (λz=>bn z) u k) gs)
section
variable{a b:List Ln}{K x gr:Nat}{n:Nat}{Z:ae}
theorem Nu(ha:fV a)(hz:a.length<=400)(hb:b.length<=400){g:List Cg}(h:∃c r,g=c::r/\iG a b K (fo a x g) (jf a x g) true (gw x g) (j7 x g) g/\jf a x g<=b.length)(hg:Z gr=some (.list (g.map aV))){Q:QV}(q:Q (iQ a b x g) Z):Ph pF (n+2) 10 [.list (vY a),.list (vY b),.ref gr,nI x] Z Q:=by
 refine cp h λc r e G he=>?_;subst e;have le:fo a x (c::r)<=a.length:=(sM ..).1;have rl:=D6 G;exact Mw ha hz hg (ai G.le.1 le) G (ai rl (ai (fh (ai (ez ..) (ai le hz)) (ai (ez ..) (ai he hb))) (by decide))) q
theorem Pq{cs:List Cg}{y:Nat}{v6 v4:V}(ha:fV a)(hl:fV b)(hz:a.length<=400)(hb:b.length<=400)(hL:ee a b true 0 0 cs)(hc:cs.length<=900)
  (r6:∀Z(Q:QV),Q v6 Z->Ph pF (n+2) 6 [v4,.list (vY a),.list (vY b)] Z Q) (r8:∀Z(Q:QV),Q (.list (cs.map aV)) Z->Ph pF (n+2) 8 [v6,.list (vY a),.list (vY b)] Z Q)
  {Q:QV} (q:∀gs,gs.flatten=cs->Sp (2*x+y) true 0 gs->Q (.list (gs.map (iQ a b x))) Z):Ph pF (n+3) 11 [.bytes a.flatten,.bytes b.flatten,nI x,nI y,v4] Z Q:=by
 refine bN (J:=[some (.bytes a.flatten),some (.bytes b.flatten),some (nI x),some (nI y),some v4,none,none,none,none]) rfl ?_;refine fM (u:=.list (vY a)) (v:=.list (vY b)) (gD (aa rfl) λQ q=>ET ha hz q) (gD (aa rfl) λQ q=>ET hl hb q) rfl ?_;intro gA hg;refine aO (oc (l:=cs.map aV) (kq (kq (aa rfl) (aa rfl) (aa rfl) λQ q=>r6 _ Q q) (aa rfl) (aa rfl) λQ q=>r8 _ Q q) ?_);refine qL (cE pF _) (λ(_:List (Nat×List Cg)×ae)v8=>nj (.bytes a.flatten) (.bytes b.flatten) v4 a b x y gA v8) (λs=>s.2) (λi s=>GT Z gA s.1 s.2/\Sp (2*x+y) true 0 (Gs s.1)/\(Gs s.1).flatten=cs.take i/\s.1.length<=i) (λ_ _ _ _=>rfl) (λi hi s j h=>ao rfl λQ q=>?_) (λs j h=>?_) (s:=([],_)) (j:=none) ⟨⟨aP ..,(λ_ h=>nm h),Ys,(λ_ h=>nm h),sO hg,hg⟩,trivial,rfl,aC _⟩
 ·have ln:(Gs s.1).flatten.length<aJ:=by rw[h.2.2.1,eW];exact bC (pC ..) (bC hc (by decide))
  exact RZ h.1 h.2.1 (bC h.2.2.2 (fL hi (bC hc (by decide)))) ln λrs' Z' T S e l=>q (rs',Z') _ ⟨T,S,by rw[e,h.2.2.1,Jh hi],ai l (cK h.2.2.2)⟩
 ·refine nD h λT S e l=>?_;rw[nJ]at e;have all:=MN (ai (By x yj) (aL ..)) (e▸hL) S (λ_=>⟨rfl,rfl⟩);have lz:s.1.length<=aJ:=ai l (ai hc (by decide));refine eG (v:=.list ((Gs s.1).map (iQ a b x))) (λQ q=>pZ (aa rfl _ (ao (a:=.live gA) (by show(cc s.2 gA).map _ = _;rw[gV T.at_];rfl) (uQ s.1 (λp=>V.ref p.1) (λp=>iQ a b x p.2) lz (λi=>by show(cc s.2 gA).map _ = _;rw[gV T.at_];rfl) (λp hp=>⟨[some (.list (vY a)),some (.list (vY b)),some (nI x),some (.ref p.1)],rfl,?_⟩) (by unfold Gs at q;rw[ik]at q;exact q))))) (j9 T.sub (q _ e S));exact Pa (aa rfl) (aa rfl) (aa rfl) (aa rfl) λQ q=>Nu ha hz hb (all p.2 (List.mem_map_of_mem hp)) (T.row p hp) q
end
end
section
noncomputable abbrev rp(k:Nat)(s:UInt8):List UInt8:=aR k s
noncomputable def ew(r:List Rw):List UInt8:=r.map (·.1)
noncomputable def eI(t:UInt8)(r:List Rw):List Ln:=(r.filter λr=>!(r.1==t)).map (·.2)
section
variable{t s:UInt8}{l:List Ln}{p q:List Rw}
theorem sN:ew (cG s l)=rp l.length s:=by
 unfold ew cG;rw[ik];exact La ..
theorem zY:ew (p++q)=ew p++ew q:=dy
theorem zf:eI t (p++q)=eI t p++eI t q:=by unfold eI;rw[xQ,dy]
theorem D0:eI t (cG t l)=[]:=by
 induction l with
 |nil=>rfl
 |cons w l ih=>
  unfold eI cG at ih ⊢;rw[gy,List.filter_cons_of_neg (by rw[beq_self_eq_true];exact kg)];exact ih
theorem pY(h:(s==t)=false):eI t (cG s l)=l:=by
 induction l with
 |nil=>rfl
 |cons w l ih=>
  unfold eI cG at ih ⊢;rw[gy,Bv (by show(!(s==t))=true;rw[h];rfl),gy,ih]
end
theorem u6{α:Type}(l:List α){i j k:Nat}(h:i<=j)(q:j<=k):aH l i j++aH l j k=aH l i k:=by
 obtain⟨u,rfl⟩:=bS h;obtain⟨v,rfl⟩:=bS q;unfold aH;rw[ki,ki,ki,cD,cD,cu,cD,List.take_add,rN]
def e8(K:Nat):Nat->Bool->List UInt8->Prop
 |_,_,[]=>True
 |m,p,s::r=>(s=32/\e8 K (m+1) false r)\/(s=45/\p=false/\m<=K/\e8 K 0 false r)\/(s=43/\m<=K/\e8 K 0 true r)
section
variable{K m:Nat}{p:Bool}{r:List UInt8}
theorem SA:∀(k:Nat){m:Nat}{p:Bool},e8 K m p (rp k 32):=λrr=>@(ni (λ{_}{_}=>trivial)
 (λk ih{_}{_}=>.inl ⟨rfl,ih⟩) rr)
theorem Hz:∀(k:Nat){m:Nat}{p:Bool},e8 K (m+k+1) false r->e8 K m p (rp (k+1) 32++r):=λrr=>@(ni (λ{_}{_}h=>.inl ⟨rfl,h⟩)
 (λk ih{m}{_}h=>.inl ⟨rfl,ih (m:=m+1) (by rw[cH m k];exact h)⟩) rr)
theorem HB(h:e8 K 0 false r):∀(k:Nat){m:Nat},m<=K->e8 K m false (rp (k+1) 45++r):=λrr=>@(ni (λ{_}l=>.inr (.inl ⟨rfl,rfl,l,h⟩))
 (λk ih{_}l=>.inr (.inl ⟨rfl,rfl,l,ih (bJ _)⟩)) rr)
theorem HA(h:e8 K 0 true r):∀(k:Nat){m:Nat}{p:Bool},m<=K->e8 K m p (rp (k+1) 43++r):=λrr=>@(ni (λ{_}{_}l=>.inr (.inr ⟨rfl,l,h⟩))
 (λk ih{_}{_}l=>.inr (.inr ⟨rfl,l,ih (bJ _)⟩)) rr)
theorem HC(h:∀p,e8 K 0 p r)(l:m<=K):∀{o i:Nat},0<o+i->e8 K m false (rp o 45++(rp i 43++r))
 |0,0,z=>absurd z (gQ 0)
 |0,i+1,_=>HA (h true) i l
 |o+1,0,_=>HB (h false) o l
 |o+1,i+1,_=>HB (HA (h true) i (bJ _)) o l
def Hb(l:List UInt8)(d:Nat):Prop:=∃L s,s≠32/\l=L++s::rp d 32
theorem sW{d:Nat}(h:Hb r d)(l:List UInt8):Hb (l++r) d:=h.elim λL h=>h.elim λs h=>⟨l++L,s,h.1,by rw[h.2,eU]⟩
theorem F0{d k:Nat}{s:UInt8}(h:s≠32):Hb (rp (k+1) s++rp d 32) d:=⟨rp k s,s,h,by rw[rp,List.replicate_succ',eU];rfl⟩
theorem VG{d:Nat}:∀{o i:Nat},0<o+i->Hb (rp o 45++(rp i 43++rp d 32)) d
 |0,0,z=>absurd z (gQ 0)
 |o+1,0,_=>F0 (by decide)
 |_,i+1,_=>sW (F0 (by decide)) _
theorem Rk{o i:Nat}(h:0<o+i):∃s S,s≠32/\rp o 45++(rp i 43++r)=s::S:=by
 revert h;exact nz (nz (λz=>absurd z (gQ 0)) (λi _=>⟨43,_,by decide,rfl⟩) i) (λo _=>⟨45,_,by decide,rfl⟩) o
noncomputable def kI(l:List UInt8):Nat:=(l.filter λs=>!(s==32)).length
theorem qi{l:List UInt8}:kI (l++r)=kI l+kI r:=by unfold kI;rw[xQ,bB]
theorem Aa(k:Nat):kI (rp k 32)=0:=by
 unfold kI;rw[JS];rfl
theorem vR{s:UInt8}(h:(s==32)=false)(k:Nat):kI (rp k s)=k:=by
 unfold kI;rw[JS,h];exact dw
end
noncomputable def fU:List Cg->Nat
 |[]=>0
 |c::g=>(c.2.1-c.1)+(c.2.2.2-c.2.2.1)+fU g
theorem Ti:∀(g h:List Cg),fU (g++h)=fU g+fU h:=λrr=>li (λh=>(aU _).symm)
 (λc g ih h=>by
  show _+fU (g++h) = _+fU g+fU h;rw[ih h];exact(cu ..).symm) rr
section
variable{a b:List Ln}{K e e':Nat}
theorem zX{x:Nat}{c:Cg}{g:List Cg}(h1:c.1<=a.length)(h2:c.2.1<=a.length)(h3:c.2.2.2<=b.length):ew (eC a b e x (c::g))=rp (c.1-x) 32++(rp (c.2.1-c.1) 45++(rp (c.2.2.2-c.2.2.1) 43++ew (eC a b e c.2.1 g))):=by
 show ew (cG 32 _++(cG 45 _++(cG 43 _++eC a b e c.2.1 g))) = _;rw[zY,zY,zY,sN,sN,sN,qd a x h1,qd a c.1 h2,qd b c.2.2.1 h3]
theorem wc{c:Cg}(h:c.1<c.2.1\/c.2.2.1<c.2.2.2):0<(c.2.1-c.1)+(c.2.2.2-c.2.2.1):=h.elim (λh=>K0 (xW h) _) λh=>Nat.add_pos_right _ (xW h)
structure Sg(K d:Nat)(n:Nat)(l:List UInt8):Prop where
 ok:∀p,e8 K 0 p l
 cnt:kI l=n
theorem U3(he:e<=a.length):∀{g:List Cg}{x y:Nat},iG a b K e e' false x y g->Sg K 0 (fU g) (ew (eC a b e x g)):=λ{rr}=>@(li (λ{x}{y}_=>by
  have z:ew (eC a b e x [])=rp (aH a x e).length 32:=sN;rw[z];exact⟨λp=>SA _,Aa _⟩)
 (λc g ih₁{x}{y}h=>by
  have ih:=ih₁ h.2.2;have L:=h.1;rw[zX (ai L.o L.ha) L.ha L.hb];refine⟨λp=>?_,?_⟩
  ·refine bA (Bq (iq (xW (L.g rfl)))) λk e=>?_;rw[e];exact Hz k (HC ih.ok (by rw[aU];exact(show k.succ<=K from e▸xE.2 (h.2.1 rfl))) (wc L.n))
  ·rw[qi,qi,qi,Aa,vR rfl,vR rfl,ih.cnt,aU,<-cu];rfl) rr)
theorem Ue(he:e<=a.length):∀{g:List Cg}{c:Cg},(c.1<c.2.1\/c.2.2.1<c.2.2.2)->iG a b K e e' false c.2.1 c.2.2.2 g->Hb (rp (c.2.1-c.1) 45++(rp (c.2.2.2-c.2.2.1) 43++ew (eC a b e c.2.1 g))) (e-(bO (c::g)).2.1):=λ{rr}=>@(li (λ{c}k _=>by
  have z:ew (eC a b e c.2.1 [])=rp (aH a c.2.1 e).length 32:=sN;rw[z,qd a _ he];exact VG (wc k))
 (λk g ih{c}_ h=>by
  have L:=h.1;rw[uY,zX (ai L.o L.ha) L.ha L.hb];exact sW (sW (sW (ih L.n h.2.2) _) _) _) rr)
theorem Qg:∀{g:List Cg}{f:Bool}{x y:Nat},iG a b K e e' f x y g->eI 43 (eC a b e x g)=aH a x e/\eI 45 (eC a b e x g)=aH b y e':=λ{rr}=>@(li (λ{_}{x}{y}h=>⟨pY rfl,(pY rfl).trans h.2.2⟩)
 (λc g ih₁{_}{x}{y}h=>by
  have ih:=ih₁ h.2.2;have le:=h.2.2.le;have L:=h.1;have p:∀t,eI t (eC a b e x (c::g))=eI t (cG 32 (aH a x c.1))++(eI t (cG 45 (aH a c.1 c.2.1))++(eI t (cG 43 (aH b c.2.2.1 c.2.2.2))++eI t (eC a b e c.2.1 g))):=λt=>by
   show eI t (cG 32 _++(cG 45 _++(cG 43 _++eC a b e c.2.1 g))) = _;rw[zf,zf,zf]
  constructor
  ·rw[p,ih.1,D0,pY (s:=32) rfl,pY (s:=45) rfl,uu,u6 a L.o le.1,u6 a L.l (ai L.o le.1)]
  ·rw[p,ih.2,D0,pY (s:=32) rfl,pY (s:=43) rfl,uu,L.p,u6 b L.i le.2,u6 b L.yy (ai L.i le.2)]) rr)
structure Hk(a b:List Ln)(K d d' st e th e' n:Nat)(r:List Rw):Prop where
 fr:∃s S,s≠32/\ew r=rp d 32++s::S/\e8 K 0 false (s::S)
 bk:Hb (ew r) d'
 old:eI 43 r=aH a st e
 new:eI 45 r=aH b th e'
 cnt:kI (ew r)=n
theorem VH{c:Cg}{g:List Cg}{st th:Nat}(he:e<=a.length)(G:iG a b K e e' true st th (c::g)):Hk a b K (c.1-st) (e-(bO (c::g)).2.1) st e th e' (fU (c::g)) (eC a b e st (c::g)):=by
 have pk:=Qg G;have L:=G.1;have sg:=zX (x:=st) (e:=e) (g:=g) (ai L.o L.ha) L.ha L.hb;have ih:=U3 he G.2.2;refine hE (Rk (r:=ew (eC a b e c.2.1 g)) (wc L.n)) λs S n es=>?_;refine⟨⟨s,S,n,by rw[sg,es],es▸HC ih.ok (bJ _) (wc L.n)⟩,sg▸sW (Ue he L.n G.2.2) _,pk.1,pk.2,?_⟩;rw[sg,qi,qi,qi,Aa,vR rfl,vR rfl,ih.cnt,aU,<-cu];rfl
end
end
section
noncomputable abbrev sV(s:UInt8):V:=.bytes [s]
theorem vp{α:Type}{C:ax}{e elt u:E}{caps:List Nat}{own:List cM}{t:T}{J:aj}{Z:ae}(xs:List α)(g h:α->V)(p:α->Bool)(hz:xs.length<=aJ)(he:Ev C e J Z (.list (xs.map g)))
  (H:∀a,a∈xs->∃J',d8 t (g a) (caps.map (rd J)++aR own.length none)=some J'/\Ev C u J' Z (.bool (p a))/\Ev C elt J' Z (h a)):Ev C (.comp caps own t (.seq e) [u] elt) J Z (.list ((xs.filter p).map h)):=λQ q=>
 pZ (he _ (ao rfl (nT xs g h p hz (λ_=>rfl) (λa ha=>(H a ha).imp λJ' w=>⟨w.1,λQ q=>w.2.1 Q q,λ_=>w.2.2⟩) q)))
theorem wq{C:ax}{J:aj}{Z:ae}{a:E}{s t:UInt8}(h:Ev C a J Z (sV s)):Ev C (.m .ne a (.c (sV t))) J Z (.bool (!(s==t))):=dj h Ev.cn (by
 show some (!([s]==[t])) = _;rw[show([s]==[t])=(s==t) from(Cs _)])
theorem Fd{bt:Int->Int->Bool}{l:List Int}(n:l≠[])(h:Cw (λi j=>bt (l.getD i 0) (l.getD j 0)) (l.length-1)<=l.length-1):lM bt l∈l:=by
 unfold lM;have z:Cw (λi j=>bt (l.getD i 0) (l.getD j 0)) (l.length-1)<l.length:=bC h (nP (mx.2 n) mD);rw[oe z];exact iS z
theorem P9{x:Int}{l:List Int}(h:∀y,y∈l->x<=y):lM (λa b=>decide (a<b)) (x::l)=x:=by
 have z:=PySem.argBest_lt (λi=>(x::l).getD i 0) ((x::l).length-1);have m:=Fd (bt:=λa b=>decide (a<b)) (rI x l) z.1;refine K8 (z.2 0 (bJ _)) ?_;rcases cq.1 m with e|e
 ·rw[e];exact mC _
 ·exact h _ e
section
variable{d:Nat}{s:UInt8}{S l:List UInt8}{n:Nat}{Z:ae}{Q:QV}
theorem NI{α:Type}:∀(p q:List α)(k:Nat),fB k (p++q)=fB k p++fB (k+p.length) q:=λrr=>li (λ_ _=>rfl)
 (λa p ih q k=>congrArg ((k,a)::·) ((ih q (k+1)).trans (by rw[cH];rfl))) rr
theorem Dw{α:Type}{p:Nat×α}:∀{l:List α}{k:Nat},p∈fB k l->p.2∈l
 :=λ{l}=>@(li (λ{_}h=>nm h) (λv r ih{k}h=>(cq.1 h).elim (λe=>by rw[e];exact fJ) λh=>kb _ (ih h)) l)
noncomputable def q6(l:List UInt8):List Int:=((fB 0 l).filter λp=>!(p.2==32)).map λp=>(p.1:Int)
theorem Ua(h:s≠32):qK (λa b=>decide (a<b)) (.list (vI (q6 (rp d 32++s::S))))=some (nI d):=by
 have e:q6 (rp d 32++s::S)=(d:Int)::((fB (d+1) S).filter λp=>!(p.2==32)).map λp=>(p.1:Int):=by
  unfold q6;rw[NI,xQ,Bw.2 λp hp=>by rw[List.eq_of_mem_replicate (Dw hp)];exact kg,uu,aU,dw];show((((d,s)::fB (d+1) S).filter λp=>!(p.2==32)).map _) = _;rw[Bv (by show(!(s==32))=true;rw[beq_false_of_ne h];rfl)];rfl
 show(eO (vI (q6 (rp d 32++s::S)))).bind _ = _;rw[qb,e];show some (V.int (lM _ (_::_))) = _;rw[P9 λy hy=>?_];obtain⟨p,hp,rfl⟩:=ip.1 hy;exact gB.2 (cL (NJ (rK.1 hp).1).1)
theorem r9(h:s≠32)(e:l=rp d 32++s::S)(hz:l.length<=aJ)(q:Q (nI d) Z):Ph pF (n+1) 20 [.list (l.map sV)] Z Q:=by
 have en:∀i,fq Z (.enum (.vals (l.map sV))) i=some ((fB 0 l).map λp=>V.tup [nI p.1,sV p.2])[i]?:=λi=>by rw[FK];exact y9 ..
 have z:(nS (λp:Nat×UInt8=>nI p.1) ((fB 0 l).filter λp=>!(p.2==32)))=vI (q6 l):=by unfold q6;rw[vI,ik];rfl
 refine bN (J:=[some (.list (l.map sV))]) rfl (lF (kA (ao rfl (nT (fB 0 l) (λp=>.tup [nI p.1,sV p.2]) (λp=>nI p.1) (λp=>!(p.2==32)) (by rw[uK];exact hz) en (λp hp=>⟨[some (nI p.1),some (sV p.2)],rfl,λQ q=>wq (aa rfl) Q q,λ_ Q q=>q⟩) ?_))));rw[z];exact ao (a:=nI d) (by rw[e];exact Ua h) (bX q)
noncomputable abbrev A0:List Internal.S:=[.s (.vs [1,2]) (.tup [.b .add (.x 1) (.ite (.m .ne (.x 3) (.c (.bytes [32]))) (.lst false [.x 2]) (.lst false [])),.ite (.m .eq (.x 3) (.c (.bytes [32]))) (.b .add (.x 2) (.c (.int 1))) (.c (.int 0))])]
noncomputable def Bj(l:List UInt8)(s:List Int×Nat)(v3:Option V):aj:=[some (.list (l.map sV)),some (.list (vI s.1)),some (nI s.2),v3]
theorem vS{C:ax}{J:aj}{a:E}{s t:UInt8}(h:Ev C a J Z (sV s)):aI C (.m .eq a (.c (sV t))) J Z (s=t):=iu (yF (x:=[s]) (y:=[t]) h Ev.cn) ⟨λe=>(mA e).1,λe=>e▸rfl⟩
theorem He{C:ax}{J:aj}{a:E}{s t:UInt8}(h:Ev C a J Z (sV s)):aI C (.m .ne a (.c (sV t))) J Z (s≠t):=iu (MX (x:=[s]) (y:=[t]) h Ev.cn) (not_congr ⟨λe=>(mA e).1,λe=>e▸rfl⟩)
theorem Hf{C:ax}{J:aj}:Ev C (.lst false []) J Z (.list []):=λQ q=>q
theorem Qw{f:List Int}{m:Nat}(hz:f.length<1000){Q:QO}(q:Q .next (Bj l (if s=32 then(f,m+1) else(f++[(m:Int)],0)) (some (sV s))) Z):az (Ph pF n) A0 (Bj l (f,m) (some (sV s))) Z Q:=by
 by_cases c:s=32
 ·rw[if_pos c]at q;refine fM (u:=.list (vI f)) (v:=nI (m+1)) (λQ q=>zt (aa rfl) (r:=[]) (λQ q=>iy (He (aa rfl)) (λz=>z c) (Hf Q q)) (ai (by rw[aY];exact cv hz) (by decide)) Q (by rw[gP];exact q)) (λQ q=>iZ (vS (aa rfl)) c (bh (r:=((m+1:Nat):Int)) (aa rfl) Ev.cn rfl Q q)) rfl q
 ·rw[if_neg c]at q;refine fM (u:=.list (vI (f++[(m:Int)]))) (v:=nI 0) (λQ q=>zt (aa rfl) (r:=[nI m]) (λQ q=>iZ (He (aa rfl)) c (kx (aa rfl) Q q)) (ai (by rw[aY];exact hz) (by decide)) Q (by rw[vI,dy]at q;exact q)) (λQ q=>iy (vS (aa rfl)) c q) rfl q
def AO(K:Nat)(S:List UInt8)(i:Nat)(s:List Int×Nat):Prop:=(∃p,e8 K s.2 p (S.drop i))/\s.1≠[]/\(∀v,v∈s.1->v<=K)/\s.1.length<=i+1
theorem SV{K:Nat}{i:Nat}{f:List Int}{m:Nat}(hi:i<S.length)(h:AO K S i (f,m)):AO K S (i+1) (if S[i]=32 then(f,m+1) else(f++[(m:Int)],0)):=by
 refine nD h λpp10_ h2 h3 h4=>?_;obtain⟨p,h1⟩:=pp10_;rw[jJ hi]at h1;have add:m<=K->(∀v,v∈f++[(m:Int)]->v<=(K:Int)):=λk v hv=>(gx.1 hv).elim (h3 v) λe=>by rw[cJ.1 e];exact gB.2 k
 have ne:f++[(m:Int)]≠[]:=λz=>nc (rg.1 z).2;have ln:(f++[(m:Int)]).length<=i+1+1:=by rw[bB];exact cK h4
 rcases h1 with⟨e,h1⟩|⟨e,_,k,h1⟩|⟨e,k,h1⟩
 ·rw[if_pos e];exact⟨⟨_,h1⟩,h2,h3,fy h4⟩
 ·rw[if_neg (by rw[e];decide)];exact⟨⟨_,h1⟩,ne,add k,ln⟩
 ·rw[if_neg (by rw[e];decide)];exact⟨⟨_,h1⟩,ne,add k,ln⟩
theorem PM{K:Nat}(h:s≠32)(e:l=rp d 32++s::S)(hz:l.length<=900)(hk:e8 K 0 false (s::S))(q:∀f:List Int,f≠[]->(∀v,v∈f->v<=K)->Q (.list (vI f)) Z):Ph pF (n+2) 21 [.list (l.map sV)] Z Q:=by
 have dr:l.drop d=s::S:=by rw[e];exact Cd dw
 have ld:(l.drop d).length<=900:=by rw[hV];exact ai (ez ..) hz
 refine bN (J:=[some (.list (l.map sV)),none,none,none]) rfl (fM (u:=.list (vI [0])) (v:=nI 0) (kx Ev.cn) Ev.cn rfl (aO (oc (l:=(l.drop d).map sV) (λQ q=>zw (l:=l.map sV) (aa rfl) (gD (aa rfl) λQ q=>r9 h e (ai hz (by decide)) q) Q (by rw[<-x9];exact q)) ?_)));refine qL (cE pF _) (λs v3=>Bj l s v3) (λ_=>Z) (AO K (l.drop d)) (λ_ _ _ _=>rfl) (λi hi s j h=>ao rfl λQ q=>Qw (bC h.2.2.2 (aQ (nK hi) (ai (cK ld) (by decide)))) (q _ _ (SV hi h))) (λs j h=>eG (aa rfl) (bX (q _ h.2.1 h.2.2.1))) (s:=([0],0)) (j:=none) ⟨⟨false,by rw[x8,dr];exact hk⟩,rI _ _,λv hv=>by rw[cJ.1 hv];exact eL K,aC _⟩
end
end
section
section
variable{K:Nat}{l:List UInt8}
theorem SF:∀{l:List UInt8}{m:Nat}{p:Bool},e8 K m p l->∀s,s∈l->s=32\/s=45\/s=43
 :=λ{l}=>@(li (λ{_ _}_ _ h=>nm h) (λs r ih{m p}h u hu=>(cq.1 hu).elim (λe=>e▸h.imp (λh=>h.1) λh=>h.imp (λh=>h.1) λh=>h.1) λk=>h.elim (λh=>ih h.2 u k) λh=>h.elim (λh=>ih h.2.2.2 u k) λh=>ih h.2.2 u k) l)
theorem Sy:∀{l:List UInt8}{m:Nat}{p:Bool},e8 K m p l->(p=true->l[0]?≠some 45)/\∀k:Nat,l[k]?=some 43->l[k+1]?≠some 45:=λ{rr}=>@(li (λ{_}{_}_=>⟨λ_ h=>(nn h),λ_ h=>(nn h)⟩)
 (λs r ih{m}{p}h=>by
  have z:∀{q},(q=true->r[0]?≠some 45)/\(∀k:Nat,r[k]?=some 43->r[k+1]?≠some 45)->(s=43->q=true)->∀k:Nat,(s::r)[k]?=some 43->(s::r)[k+1]?≠some 45:=λi w k e=>match k,e with
   |0,e=>i.1 (w (di e))
   |k+1,e=>i.2 k e
  rcases h with⟨e,h⟩|⟨e,hp,_,h⟩|⟨e,_,h⟩
  ·exact⟨λ_ w=>absurd (e.symm.trans (di w)) (by decide),z (ih h) λw=>absurd (e.symm.trans w) (by decide)⟩
  ·exact⟨λw=>absurd (hp.symm.trans w) kg,z (ih h) λw=>absurd (e.symm.trans w) (by decide)⟩
  ·exact⟨λ_ w=>absurd (e.symm.trans (di w)) (by decide),z (ih h) λ_=>rfl⟩) rr)
theorem Sz{d:Nat}{s:UInt8}{S:List UInt8}(hd:d<=K)(n:s≠32)(h:e8 K 0 false (s::S)):e8 K 0 false (rp d 32++s::S):=by
 have k:e8 K d false (s::S):=h.elim (λh=>absurd h.1 n) λh=>.inr (h.imp (λh=>⟨h.1,h.2.1,hd,h.2.2.2⟩) λh=>⟨h.1,hd,h.2.2⟩);cases d with
 |zero=>exact k
 |succ d=>exact Hz d (by rw[aU];exact k)
theorem Hn{d:Nat}(h:Hb l d):∃s S,s≠32/\l.reverse=rp d 32++s::S:=h.elim λL h=>h.elim λs h=>⟨s,L.reverse,h.1,by rw[h.2,List.reverse_append,rG,List.reverse_replicate,eU];rfl⟩
end
section
variable{C:ax}{J:aj}{Z:ae}{l:List UInt8}{own:List cM}{K:Nat}
theorem DB{α:Type}(l:List α):(l.filter λ_=>false)=[]:=Bw.2 λ_ _ h=>bn h
theorem Ro(h7:rd J 7=some (.list (l.map sV)))(ho:aR own.length (none:Option V)=[none])(hz:l.length<=aJ)(h:∀s,s∈l->s=32\/s=45\/s=43) :
  aI C (.m .ne (.comp [] own (.v 0) (.seq (.x 7)) [.m .notin (.x 0) (.tup [.c (.bytes [32]),.c (.bytes [45]),.c (.bytes [43])])] (.x 0)) (.lst false [])) J Z (([]:List V)≠[]):=
 yG λQ q=>vp l sV sV (λ_=>false) hz (aa h7) (λs hs=>⟨[some (sV s)],by rw[ho];rfl,dj (op:=.notin) (x:=sV s) (y:=.tup [sV 32,sV 45,sV 43]) (r:=false) (aa rfl) (λQ q=>by exact q) (by rcases h s hs with e|e|e<;>(rw[e];rfl)),aa rfl⟩) Q (by rw[DB];exact q)
theorem O4(h7:rd J 7=some (.list (l.map sV)))(ho:aR own.length (none:Option V)=[none])(hz:l.length<=aJ) :
  aI C (.m .eq (.comp [] own (.v 0) (.seq (.x 7)) [.m .ne (.x 0) (.c (.bytes [32]))] (.x 0)) (.lst false [])) J Z ((l.filter λs=>!(s==32))=[]):=
 uT (g:=sV) (q:=[]) (eq:=λa b=>a==b) (λa b=>by show some ([a]==[b]) = _;rw[show([a]==[b])=(a==b) from(Cs _)]) (λ_ _=>beq_iff_eq) (vp l sV sV (λs=>!(s==32)) hz (aa h7) (λs hs=>⟨[some (sV s)],by rw[ho];rfl,wq (aa rfl),aa rfl⟩)) (λQ q=>q)
theorem ED{e:E}{r:List Rw}(he:Ev C e J Z (.list (r.map gN)))(ho:aR own.length (none:Option V)=[none,none])(hz:r.length<=aJ):Ev C (.comp [] own (.tup [0,1]) (.seq e) [] (.x 0)) J Z (.list ((ew r).map sV)):=λQ q=>
 mI r gN (λr=>sV r.1) hz he (λr _=>⟨[some (sV r.1),some (.bytes r.2)],by rw[ho];rfl,aa rfl⟩) Q (by unfold ew at q;rw[ik]at q;exact q)
theorem EC{t:UInt8}{e:E}{r:List Rw}(he:Ev C e J Z (.list (r.map gN)))(ho:aR own.length (none:Option V)=[none,none])(hz:r.length<=aJ):Ev C (.comp [] own (.tup [0,1]) (.seq e) [.m .ne (.x 0) (.c (.bytes [t]))] (.x 1)) J Z (.list (vY (eI t r))):=λQ q=>
 vp r gN (λr=>.bytes r.2) (λr=>!(r.1==t)) hz he (λr _=>⟨[some (sV r.1),some (.bytes r.2)],by rw[ho];rfl,wq (aa rfl),aa rfl⟩) Q (by unfold eI at q;rw[vY,ik]at q;exact q)
theorem FQ{e:E}(h:Ev C e J Z (.list (l.map sV))):Ev C (.rev e) J Z (.list (l.reverse.map sV)):=λQ q=>h _ (ao (a:=l.map sV) rfl (by rw[<-B7];exact q))
theorem MH{k:Nat}(h:k<=999):jU [((1:Nat):Int),((k+1:Nat):Int)]=some ((uD 1 k).map nI):=by
 rw[cb k 1,su (by exact au [_] [] (.ln (.a .k1 .v0) (.k 1000)) 1 [(1,.ln .v0 (.k 999))] rfl h),Gv]
theorem Rn{k:Nat}(h7:rd J 7=some (.list (l.map sV)))(ho:aR own.length (none:Option V)=[none])(hl:l.length=k+1)(hz:k<=999)(h:∀k:Nat,l[k]?=some 43->l[k+1]?≠some 45) :
  aI C (.m .ne (.comp [7] own (.v 1) (.range [.c (.int 1),.bi .len [.x 7]]) [.o true [.m .eq (.i (.x 0) (.b .sub (.x 1) (.c (.int 1)))) (.c (.bytes [43])),.m .eq (.i (.x 0) (.x 1)) (.c (.bytes [45]))]] (.x 1)) (.lst false [])) J Z (([]:List V)≠[]):=by
 have gt:∀i(hi:i<l.length),eQ Z (.list (l.map sV)) (nI i)=some (sV l[i]):=λi hi=>jO (by rw[cO,bL hi];rfl);refine yG λQ q=>yX [((1:Nat):Int),((k+1:Nat):Int)] (λQ q=>?_) (MH hz) (nT (uD 1 k) nI nI (λ_=>false) (by rw[BO];exact ai hz (by decide)) (λ_=>rfl) (λi hi=>⟨[some (.list (l.map sV)),some (nI i)],?_,?_,λz=>bn z⟩) (by rw[DB];exact q))
 ·exact Ev.cn _ (qt (aa h7) _ (by rw[aY,hl];exact q))
 ·show d8 (.v 1) (nI i) ([rd J 7]++_) = _;rw[ho,h7];rfl
 ·have hi:=List.mem_range'_1.1 hi;obtain⟨j,rfl⟩:=xA hi.1;have h1:j+1<l.length:=by rw[hl];have:=hi.2;exact au [_,_] [] (.tn (.a .v0 .k1) (.a .v1 .k1)) 1 [(1,.tn (.a .v0 .k1) (.a .k1 .v1))] rfl hi.2
  have h0:j<l.length:=nG h1;refine jv (t:=false) (iV (vS (bW (aa rfl) (vq (aa rfl)) (gt j h0))) λ_=>vS (bW (aa rfl) (aa rfl) (gt (j+1) h1))) ⟨(λz=>bn z),λz=>?_⟩;exact absurd ((bL h1).trans (congrArg some z.2)) (h j ((bL h0).trans (congrArg some z.1)))
theorem P8{K:Nat}{f:List Int}(n:f≠[])(h:∀v,v∈f->v<=K):∃m:Int,m<=K/\qK (λa b=>decide (a > b)) (.list (vI f))=some (.int m):=by
 have z:=PySem.argBest_gt (λi=>f.getD i 0) (f.length-1);refine⟨_,h _ (Fd (bt:=λa b=>decide (a > b)) n z.1),?_⟩;show(eO (vI f)).bind _ = _;rw[qb];cases f with
 |nil=>exact absurd rfl n
 |cons a f=>rfl
theorem O3{n d x y:Nat}{s:UInt8}{S:List UInt8}(h7:rd J 7=some (.list (l.map sV)))(h5:rd J 5=some (nI x))(h6:rd J 6=some (nI y))(n32:s≠32)(e:l=rp d 32++s::S)(hz:l.length<=900)(hk:e8 (2*x+y) 0 false (s::S)) :
  aI (Ph pF (n+2)) (.m .gt (.bi .max1 [.call 21 [.x 7]]) (.b .add (.b .mul (.c (.int 2)) (.x 5)) (.x 6))) J Z False:=by
 refine⟨false,⟨(λz=>bn z),pR⟩,λQ q=>?_⟩;have c:WE (Ph pF (n+2)) (.call 21 [.x 7]) J Z λv Z'=>aK (oV Z' .max1 [v]) λu=>WE (Ph pF (n+2)) (.b .add (.b .mul (.c (.int 2)) (.x 5)) (.x 6)) J Z' λw Z'=>aK (wI Z' .gt u w) λr=>Q (.bool r) Z':=by
  refine aa (C:=Ph pF (n+2)) h7 _ (PM n32 e hz hk λf n hf=>?_);refine ar (P8 n hf) λm m1 m2=>?_;refine ao m2 (bh (r:=((2*x+y:Nat):Int)) (fO (op:=.mul) (v:=.int (2*(x:Int))) Ev.cn (aa h5) rfl) (aa h6) (by exact bR [_,_] [] (.a (.m 2 .c0) .c1) (.c (.a (.m 2 .v0) .v1)) [] rfl) _ (ao (a:=false) ?_ q));exact congrArg some (decide_eq_false (jM.2 m1))
 exact c
end
end
section
noncomputable abbrev xl(it:V)(st th x y:Nat)(a b:List Ln)(v7 v8 v9 v10 v11:Option V):aj:=[some it,some (nI st),some (nI th),some (.list (vY a)),some (.list (vY b)),some (nI x),some (nI y),v7,v8,v9,v10,v11]
section
variable{a b:List Ln}{x y st om th nm d d' n k:Nat}{r:List Rw}{w:Ln}{Z:ae}
theorem M0{e e':Nat}(H:Hk a b (2*x+y) d d' st e th e' k r)(e1:st+om=e)(e2:th+nm=e')(h1:st+om<=a.length)(h2:th+nm<=b.length)(hd:fT x (st+d)=d)(hd':fT x (a.length-(st+om-d'))=d')(hl:d'<=st+om)(hz:r.length<=900){Q:QV}(q:Q (.bool true) Z) :
  Ph pF (n+3) 22 [kM st om th nm r w,nI st,nI th,.list (vY a),.list (vY b),nI x,nI y] Z Q:=by
 subst e1;subst e2;have rz:r.length<=aJ:=ai hz (by decide);have sl:(ew r).length=r.length:=aY ..;have sz:(ew r).length<=aJ:=sl▸rz;have s9:(ew r).length<=900:=sl▸hz;obtain⟨⟨s,S,n32,e,ok⟩,hb,old,new,_⟩:=H;have dx:d<=2*x+y:=ai (hd▸(sM ..).1) (ai (By x yj) (aL ..));have ok':=Sz dx n32 ok;rw[<-e]at ok';refine hE (Hn hb) λs' S' n32' e'=>?_;have hd0:d+S.length<=900:=by
  have z:=congrArg rQ e;rw[bB,dw,nH]at z;exact au [_,_,_] [] (.ln (.a .v0 .v1) (.k 900)) 1 [(1,.ln .v2 (.k 900)),(-1,.en .v2 (.a .v0 (.a .v1 .k1)))] rfl s9 z
 have sk:(ew r).length=(d+S.length)+1:=by rw[e,bB,dw];rfl
 have fne:((ew r).filter λs=>!(s==32))≠[]:=by
  rw[e,xQ];refine Jf _ ?_;rw[Bv (by show(!(s==32))=true;rw[beq_false_of_ne n32];rfl)];exact rI _ _
 have R:∀{v7 v8 v9 v10 v11:Option V},Ev (Ph pF (n+2)) (.a (.x 0) 18) (xl (kM st om th nm r w) st th x y a b v7 v8 v9 v10 v11) Z (.list (r.map gN)):=br (aa rfl) rfl;have O:∀{v7 v8 v9 v10 v11:Option V},Ev (Ph pF (n+2)) (.a (.x 0) 15) (xl (kM st om th nm r w) st th x y a b v7 v8 v9 v10 v11) Z (nI om):=br (aa rfl) rfl;have N:∀{v7 v8 v9 v10 v11:Option V},Ev (Ph pF (n+2)) (.a (.x 0) 17) (xl (kM st om th nm r w) st th x y a b v7 v8 v9 v10 v11) Z (nI nm):=br (aa rfl) rfl;refine bN (J:=xl (kM st om th nm r w) st th x y a b none none none none none) rfl (bM (ED R rfl rz) ?_);refine aO (bH (Ro rfl rfl sz (SF ok')) (λz=>z rfl) (aO (bH (O4 rfl rfl sz) fne ?_)));refine fM (EC R rfl rz) (EC R rfl rz) rfl ?_;refine aO (bH (iX (sH (aa rfl) (jo (aa rfl) (aa rfl) (bh (r:=((st+om:Nat):Int)) (aa rfl) O rfl))) λ_=>sH (aa rfl) (jo (aa rfl) (aa rfl) (bh (r:=((th+nm:Nat):Int)) (aa rfl) N rfl))) (λz=>z.elim (λz=>z old) λz=>z new) ?_);have lo:(eI 43 r).length=om:=by rw[old,qd a st h1,cD]
 have ln:(eI 45 r).length=nm:=by rw[new,qd b th h2,cD]
 refine aO (bH (iX (yH (p:=[((eI 43 r).length:Int),((eI 45 r).length:Int)]) (q:=[(om:Int),(nm:Int)]) (n7 (ir (aa rfl)) (ir (aa rfl))) (n7 O N)) λ_=>O3 rfl rfl rfl n32 e s9 ok) (λz=>z.elim (λz=>z (by rw[lo,ln])) id) ?_);refine aO (bH (Rn rfl rfl sk (ai hd0 (by decide)) (Sy ok').2) (λz=>z rfl) ?_);refine fM (u:=nI d) (v:=nI d') (gD (aa rfl) λQ q=>r9 n32 e sz q) (gD (FQ (aa rfl)) λQ q=>r9 n32' e' (by rw[my];exact sz) q) rfl ?_;refine aO (bH (qv (i:=(d:Int)) (j:=(d:Int)) (aa rfl) (λQ q=>vT (u:=x) (v:=st+d) (aa rfl) (bh (r:=((st+d:Nat):Int)) (aa rfl) (aa rfl) rfl) Q (by rw[hd];exact q))) (λz=>z rfl) (eG (jv (t:=true) (kC (i:=(d':Int)) (j:=(d':Int)) (aa rfl) (λQ q=>vT (u:=x) (v:=a.length-(st+om-d')) (aa rfl) (cw (r:=((a.length-(st+om-d'):Nat):Int)) (ir (aa rfl)) (cw (r:=((st+om-d':Nat):Int)) (bh (r:=((st+om:Nat):Int)) (aa rfl) O rfl) (aa rfl) (ji hl).symm) (ji (ai (ez ..) h1)).symm) Q (by rw[hd'];exact q))) (iff_of_true rfl rfl)) (bX q)))
end
end
section
noncomputable abbrev I0:List S:=[.s (.v 11) (.ite (.m .gt (.a (.x 10) 15) (.c (.int 0))) (.b .sub (.a (.x 10) 14) (.c (.int 1))) (.a (.x 10) 14)),
   .s (.v 12) (.ite (.m .gt (.a (.x 10) 17) (.c (.int 0))) (.b .sub (.a (.x 10) 16) (.c (.int 1))) (.a (.x 10) 16)),
   .ite (.o false [.m .lt (.x 11) (.x 6),.m .ne (.b .sub (.x 12) (.x 7)) (.b .sub (.x 11) (.x 6)),.m .ne (.l (.x 0) (.x 6) (.x 11)) (.l (.x 1) (.x 7) (.x 12))])
   [.ret (.c (.bool false))]
   [],
   .ite (.not (.call 22 [.x 10,.x 11,.x 12,.x 0,.x 1,.x 2,.x 3]))
   [.ret (.c (.bool false))]
   [],
   .s (.v 13) (.comp [] [("sign":cM),("line":cM)] (.tup [0,1]) (.seq (.a (.x 10) 18)) [] (.x 0)),
   .s (.vs [14,15]) (.tup [.call 20 [.x 13],.call 20 [.rev (.x 13)]]),
   .ite (.o true [.m .isnot (.x 8) (.c .none),.m .le (.b .sub (.b .add (.x 11) (.x 14)) (.x 8)) (.b .add (.b .mul (.c (.int 2)) (.x 2)) (.x 3))])
   [.ret (.c (.bool false))]
   [],
   .s (.vs [6,7,8]) (.tup [.b .add (.x 11) (.a (.x 10) 15),.b .add (.x 12) (.a (.x 10) 17),.b .sub (.b .add (.x 11) (.a (.x 10) 15)) (.x 15)]),
   .s (.v 9) (.b .add (.x 9) (.bi .len [.comp [] [("sign":cM)] (.v 0) (.seq (.x 13)) [.m .ne (.x 0) (.c (.bytes [32]))] (.x 0)]))]
noncomputable def Be(a b:List Ln)(x y:Nat)(w gsV:V)(p q:Nat)(l:V)(sh:Nat)(v10 v11 v12 v13 v14 v15:Option V):aj:=[some (.list (vY a)),some (.list (vY b)),some (nI x),some (nI y),some w,some gsV,some (nI p),some (nI q),some l,some (nI sh),v10,v11,v12,v13,v14,v15]
noncomputable def AA(f:Bool)(p:Nat):V:=match f with
 |true=>.none
 |false=>nI p
section
variable{a b:List Ln}{x y st om th nm d d' n k p q pl sh e e':Nat}{f:Bool}{r:List Rw}{hw:Ln}{w gsV:V}{Z:ae}
theorem Hd{C:ax}{J:aj}{u v:E}(h:Ev C u J Z (nI om))(g:Ev C v J Z (nI (st+i0 om))):Ev C (.ite (.m .gt u (.c (.int 0))) (.b .sub v (.c (.int 1))) v) J Z (nI st):=λQ q=>by
 have t:aI C (.m .gt u (.c (.int 0))) J Z (0<om):=iW h (j:=0) Ev.cn;by_cases c:0<om
 ·exact iZ t c (cw (i:=((st+i0 om:Nat):Int)) (j:=1) (r:=(st:Int)) g Ev.cn (by rw[i0,if_pos c];exact sr st) Q q)
 ·exact iy t c (g Q (by rw[i0,if_neg c];exact q))
theorem FC{C:ax}{J:aj}{g:Nat}{es:List E}{vs:List V}{res:V}(h:∀Q:List V->ae->Prop,Q vs Z->eh C es J Z Q)(k:∀Q:QV,Q res Z->C g vs Z Q):Ev C (.call g es) J Z res:=λQ q=>h _ (k Q q)
theorem Pc{J:aj}{K:Nat}(h8:rd J 8=some (AA f pl))(h11:rd J 11=some (nI st))(h14:rd J 14=some (nI d))(hk:∀C:ax,Ev C (.b .add (.b .mul (.c (.int 2)) (.x 2)) (.x 3)) J Z (nI K)){C:ax}(c4:f=false->pl+K<st+d) :
  aI C (.o true [.m .isnot (.x 8) (.c .none),.m .le (.b .sub (.b .add (.x 11) (.x 14)) (.x 8)) (.b .add (.b .mul (.c (.int 2)) (.x 2)) (.x 3))]) J Z False:=by
 cases f with
 |true=>exact iu (iV (p:=False) (q:=False) ⟨false,⟨λz=>(bn z),pR⟩,dj (op:=.isnot) (aa h8) Ev.cn rfl⟩ pR) ⟨λz=>z.1,pR⟩
 |false=>exact iu (iV (p:=True) ⟨true,⟨λ_=>trivial,λ_=>rfl⟩,dj (op:=.isnot) (aa h8) Ev.cn rfl⟩ λ_=>Hh (cw (i:=((st+d:Nat):Int)) (j:=(pl:Int)) (bh (aa h11) (aa h14) rfl) (aa h8) rfl) (hk C)) ⟨λz=>by have h:=c4 rfl;have:=z.2;exact fS [_,_,_,_] [] [(1,.li (.s (.c (.a .v0 .v1)) .c2) .c3),(1,.tn (.a .v2 .v3) (.a .v0 .v1))] rfl z.2 h,pR⟩
theorem R8(H:Hk a b (2*x+y) d d' st e th e' k r)(e1:st+om=e)(e2:th+nm=e')(h1:e<=a.length)(h2:e'<=b.length)(hd:fT x (st+d)=d)(hd':fT x (a.length-(st+om-d'))=d')(hl:d'<=st+om)(hz:r.length<=900)
  (c1:p<=st) (c2:th+p=st+q) (c3:aH a p st=aH b q th) (c4:f=false->pl+(2*x+y)<st+d) {v11 v12 v13 v14 v15:Option V} {Q:QO}
  (q':∀v11 v12 v13 v14 v15,Q .next (Be a b x y w gsV e e' (nI (st+om-d')) (sh+k) (some (kM st om th nm r hw)) v11 v12 v13 v14 v15) Z) :
  az (Ph pF (n+3)) I0 (Be a b x y w gsV p q (AA f pl) sh (some (kM st om th nm r hw)) v11 v12 v13 v14 v15) Z Q:=by
 have rz:r.length<=aJ:=ai hz (by decide);have sz:(ew r).length<=aJ:=ai (dA (aY ..)) rz;refine cp H.fr λs S n32 es _=>?_;refine hE (Hn H.bk) λs' S' n32' es'=>?_;refine bM (v:=nI st) (Hd (om:=om) (br (aa rfl) rfl) (br (aa rfl) rfl)) (bM (v:=nI th) (Hd (om:=nm) (br (aa rfl) rfl) (br (aa rfl) rfl)) ?_);refine aO (bH (vx (eZ (aa rfl) (aa rfl)) (λ_=>qv (i:=(th:Int)-q) (j:=(st:Int)-p) (cw (aa rfl) (aa rfl) rfl) (cw (aa rfl) (aa rfl) rfl)) λ_ _=>sH (jo (aa rfl) (aa rfl) (aa rfl)) (jo (aa rfl) (aa rfl) (aa rfl))) (λz=>z.elim (λz=>bc.2 c1 z) λz=>z.elim (λz=>z (by exact bR [_,_,_,_] [] (.s .c0 .c1) (.s .c2 .c3) [(-1,.en (.a .v0 .v3) (.a .v2 .v1))] rfl c2)) λz=>z c3) ?_);refine aO (bH (vU (t:=true) (FC (vs:=[kM st om th nm r hw,nI st,nI th,.list (vY a),.list (vY b),nI x,nI y]) (λQ q=>cZ (aa rfl) (cZ (aa rfl) (cZ (aa rfl) (cZ (aa rfl) (cZ (aa rfl) (cZ (aa rfl) (cZ (aa rfl) (gj q)))))))) λQ q=>M0 H e1 e2 (e1▸h1) (e2▸h2) hd hd' hl hz q)) (λz=>nb z) ?_);refine bM (ED (r:=r) (br (aa rfl) rfl) rfl rz) (fM (u:=nI d) (v:=nI d') (gD (aa rfl) λQ q=>r9 n32 es sz q) (gD (FQ (aa rfl)) λQ q=>r9 n32' es' (by rw[my];exact sz) q) rfl ?_);refine aO (bH (Pc (st:=st) (d:=d) rfl rfl rfl (λC=>bh (r:=((2*x+y:Nat):Int)) (fO (op:=.mul) (v:=.int (2*(x:Int))) Ev.cn (aa rfl) rfl) (aa rfl) (by exact bR [_,_] [] (.a (.m 2 .c0) .c1) (.c (.a (.m 2 .v0) .v1)) [] rfl)) c4) id ?_);refine sF (sG (u:=nI e) (v:=nI e') (w:=nI (st+om-d')) (bh (aa (v:=nI st) rfl) (br (v:=nI om) (aa rfl) rfl) (by rw[<-e1];rfl)) (bh (aa (v:=nI th) rfl) (br (v:=nI nm) (aa rfl) rfl) (by rw[<-e2];rfl)) (cw (i:=((st+om:Nat):Int)) (bh (aa (v:=nI st) rfl) (br (v:=nI om) (aa rfl) rfl) rfl) (aa (v:=nI d') rfl) (ji hl).symm)) ?_;refine bM (v:=nI (sh+k)) (bh (i:=(sh:Int)) (j:=(k:Int)) (aa rfl) (λQ q=>qt (vp (ew r) sV sV (λs=>!(s==32)) sz (aa rfl) (λs _=>⟨[some (sV s)],rfl,wq (aa rfl),aa rfl⟩)) Q (by rw[aY,show((ew r).filter λs=>!(s==32)).length=k from H.cnt];exact q)) rfl) (q' _ _ _ _ _)
end
end
section
structure QS where
 p:Nat
 q:Nat
 dd:Nat
 sh:Nat
 f:Bool
abbrev V6:=Option V×Option V×Option V×Option V×Option V×Option V
noncomputable def nq(a b:List Ln)(x y:Nat)(w gsV:V)(s:QS)(j:V6):aj:=Be a b x y w gsV (s.p+s.dd) (s.q+s.dd) (AA s.f s.p) s.sh j.1 j.2.1 j.2.2.1 j.2.2.2.1 j.2.2.2.2.1 j.2.2.2.2.2
structure A6(a b:List Ln)(x K tot:Nat)(gs:List (List Cg))(s:QS):Prop where
 l:ee a b s.f s.p s.q gs.flatten
 sp:Sp K s.f s.p gs
 z:s.f=true->s.p=0/\s.q=0/\s.dd=0
 d:s.dd<=x
 t:s.sh+fU gs.flatten=tot
section
variable{a b:List Ln}{x y n tot:Nat}{w gsV:V}{Z:ae}
theorem FN{C:ax}{J:aj}{e:E}{L:List Ln}(h:Ev C e J Z (.list (vY L)))(hz:L.flatten.length<=aJ):Ev C (.bm (.c (.bytes [])) .join [e]) J Z (.bytes L.flatten):=λQ q=>by
 have bl:∀L:List Ln,pW (vY L)=some L:=λL=>by
  induction L with
  |nil=>rfl
  |cons w L ih=>
   show(pW (vY L)).map _ = _;rw[ih];rfl
 have g:aK (m7 Z (.bytes []) .join [.list (vY L)]) λr=>Q r Z:=ao (a:=V.bytes L.flatten) (by
  show(pW (vY L)).bind (λbs=>if bs.flatten.length<=aJ then some (V.bytes bs.flatten) else none) = _;rw[bl];exact if_pos hz) q
 exact⟨rfl,h _ g⟩
theorem Q7{C:ax}{J:aj}{is:List Nat}{es:List E}{rest:List S}{Q:QO}(h:eh C es J Z λvs Z'=>is.length=vs.length/\az C rest (f7 J is vs) Z' Q):az C (.s (.vs is) (.tup es)::rest) J Z Q:=h
theorem QZ{C:ax}{J:aj}{f:Nat}{as es:List E}{Q:List V->ae->Prop}(h:eh C as J Z λvs Z'=>C f vs Z' λv Z''=>eh C es J Z'' λvs Z=>Q (v::vs) Z):eh C (.call f as::es) J Z Q:=h
theorem Su(x c:Nat):fT x c=c-(c-x):=by
 unfold fT;by_cases k:c<x
 ·rw[if_pos k,BD (cv k)];rfl
 ·rw[if_neg k,B8 (bc.1 k)]
theorem Ss(n l x:Nat):fT x (n-l)=fT n (l+x)-l:=by
 unfold fT;by_cases k:l+x<n
 ·rw[if_pos k,if_neg (bc.2 (Nat.le_sub_of_add_le (cb l x▸cv k))),cD]
 ·rw[if_neg k];have k:=xE.2 (bc.1 k);by_cases g:n-l<x
  ·rw[if_pos g]
  ·rw[if_neg g];exact cX (bc.1 g) k
theorem R7(ha:a.length<=400)(hb:b.length<=400){g:List Cg}{gs:List (List Cg)}{s:QS}(h:A6 a b x (2*x+y) tot (g::gs) s){j:V6}{Q:QO}
  (q:∀s' j',A6 a b x (2*x+y) tot gs s'->Q .next (nq a b x y w gsV s' j') Z):az (Ph pF (n+3)) I0 (nq a b x y w gsV s (some (iQ a b x g),j.2)) Z Q:=by
 have xk:x<=2*x+y:=ai (By x yj) (aL ..);refine cp h.sp.1 λc r e s1 s2=>?_;subst e;refine bA (FY h.l s1 s2 h.sp.2 (λz=>⟨(h.z z).1,(h.z z).2.1⟩) xk) λt A=>?_;have le:=A.G.le;have en:=sM a.length ((bO (c::r)).2.1+x);have dt:s.dd<=t:=by
  cases hf:s.f with
  |true=>rw[(h.z hf).2.2];exact bJ _
  |false=>exact ai h.d (au [_,_,_] [] (.ln .v0 .v1) 1 [(1,.tn (.a (.m 2 .v0) .v2) (.a .v1 .v0))] rfl (A.lt hf))
 have H:=VH (e:=fo a x (c::r)) (e':=jf a x (c::r)) en.1 A.G;have l1:=fv le.1;have l2:=B8 A.le;have dE:fo a x (c::r)-(bO (c::r)).2.1<=x:=xE.2 en.2;have sc:gw x (c::r)+(c.1-gw x (c::r))=c.1:=fv A.G.1.l;refine R8 (om:=fo a x (c::r)-gw x (c::r)) (nm:=jf a x (c::r)-j7 x (c::r)) (p:=s.p+s.dd) (q:=s.q+s.dd) H l1 (fv le.2) en.1 A.eo (by rw[sc];exact Su x c.1) ?_ (by rw[l1];exact ez ..) ?_ (A.st▸kU dt s.p) ?_ (by rw[A.st,A.th];exact E2 A.pt) (λz=>sc.symm▸s1 z) λv11 v12 v13 v14 v15=>?_
 ·rw[l1,l2];exact Ss a.length (bO (c::r)).2.1 x
 ·exact ai (D6 A.G) (ai (fh (ai (ez ..) (ai en.1 ha)) (ai (ez ..) (ai A.eo hb))) (by decide))
 ·rw[A.st,A.th];exact bE [_,_,_,_] [] (.a (.a .v0 .v1) (.a .v2 .v3)) (.a (.a .v2 .v1) (.a .v0 .v3)) [] rfl
 ·have z:=q ⟨(bO (c::r)).2.1,(bO (c::r)).2.2.2,fo a x (c::r)-(bO (c::r)).2.1,s.sh+fU (c::r),false⟩ (some (iQ a b x (c::r)),v11,v12,v13,v14,v15) ⟨A.l,h.sp.2,(λz=>bn z),dE,by rw[cu,<-Ti];exact h.t⟩;unfold nq at z;rw[l1,l2];rw[show(bO (c::r)).2.1+(fo a x (c::r)-(bO (c::r)).2.1)=fo a x (c::r) from fv A.le]at z;exact z
theorem Mx{cs:List Cg}{v6:V}{u:Nat}(hu:u<3)(ha:fV a)(hb:fV b)(hz:a.length<=400)(hy:b.length<=400)(hL:ee a b true 0 0 cs)
  (r6:∀Z(Q:QV),Q v6 Z->Ph pF (n+5) 6 [.str (cP u),.list (vY a),.list (vY b)] Z Q) (r8:∀Z(Q:QV),Q (.list (cs.map aV)) Z->Ph pF (n+5) 8 [v6,.list (vY a),.list (vY b)] Z Q)
  (low:fC a b<=fU cs) (gM:u=0->(fU cs:Int)=fC a b) {Q:QV} (q:Q (.bool true) Z):Ph pF (n+7) 23 [.list (vY a),.list (vY b),nI x,nI y,.str (cP u)] Z Q:=by
 have la:a.flatten.length<=aJ:=by rw[uU ha];exact ai (rD 2 hz) (by decide)
 have lb:b.flatten.length<=aJ:=by rw[uU hb];exact ai (rD 2 hy) (by decide)
 have lc:cs.length<=900:=ai (ai (aL ..) (Gb hL (bJ _) (bJ _))) (ai (fh hz hy) (by decide));refine bN (J:=[some (.list (vY a)),some (.list (vY b)),some (nI x),some (nI y),some (.str (cP u)),none,none,none,none,none,none,none,none,none,none,none]) rfl ?_;refine Q7 (QZ (cZ (FN (aa rfl) la) (cZ (FN (aa rfl) lb) (cZ (aa rfl) (cZ (aa rfl) (cZ (aa rfl) (gj (Pq ha hb hz hy hL lc r6 r8 λgs e sp=>cZ Ev.cn (cZ Ev.cn (cZ Ev.cn (cZ Ev.cn (gj ⟨rfl,aO (oc (l:=gs.map (iQ a b x)) (aa rfl) ?_)⟩))))))))))));refine qL (cE pF _) (nq a b x y (.str (cP u)) (.list (gs.map (iQ a b x)))) (λ_=>Z) (λi s=>A6 a b x (2*x+y) (fU cs) (gs.drop i) s) (λ_ _ _ _=>rfl) (λi hi s j h=>?_) (λs j h=>?_) (s:=⟨0,0,0,0,true⟩) (j:=(none,none,none,none,none,none)) ⟨e▸hL,sp,λ_=>⟨rfl,rfl,rfl⟩,bJ _,by rw[x8,e];exact aU _⟩
 ·rw[jJ hi]at h;exact ao (a:=nq a b x y (.str (cP u)) (.list (gs.map (iQ a b x))) s (some (iQ a b x gs[i]),j.2)) rfl λQ q=>R7 hz hy h λs' j' h'=>q s' j' h'
 ·rw[kX]at h;obtain⟨hl,_,_,_,ht⟩:=h;have dr:a.drop (s.p+s.dd)=b.drop (s.q+s.dd):=by
   have hl:a.drop s.p=b.drop s.q:=hl;rw[<-rN,<-rN,hl]
  have sh:s.sh=fU cs:=ht;refine aO (bH (sH (p6 (aa rfl) (aa rfl)) (p6 (aa rfl) (aa rfl))) (λz=>z dr) ?_);have f15:Ev (Ph pF (n+6)) (.call 15 [.x 0,.x 1]) (nq a b x y (.str (cP u)) (.list (gs.map (iQ a b x))) s j) Z (.int (fC a b)):=mH (aa rfl) (aa rfl) λQ q=>Df (ai hz (by decide)) (ai hy (by decide)) q;have v9:Ev (Ph pF (n+6)) (.x 9) (nq a b x y (.str (cP u)) (.list (gs.map (iQ a b x))) s j) Z (nI (fU cs)):=aa (by rw[<-sh];rfl);refine eG (v:=.bool true) (λQ q=>?_) (bX q);have t:=FT (C:=Ph pF (n+6)) (J:=nq a b x y (.str (cP u)) (.list (gs.map (iQ a b x))) s j) (Z:=Z) (a:=.x 4) (b:=.c (.str "myers")) (s:=cP u) (t:="myers") (aa rfl) Ev.cn;revert t gM;refine l3 hu (λgM t=>?_) (λ_ t=>?_) λ_ t=>?_
  ·exact iZ t I6 (jv (t:=true) (kC v9 f15) (iff_of_true rfl (gM rfl)) Q q)
  ·exact iy t I7 (jv (t:=true) (qu v9 f15) (iff_of_true rfl low) Q q)
  ·exact iy t I8 (jv (t:=true) (qu v9 f15) (iff_of_true rfl low) Q q)
end
end
section
def eS(k:Nat)(l:List Int):Prop:=∀v,v∈l->0<=v/\v<k
noncomputable def kN(v:Int):Ln:=[yk (97+v).toNat,10]
section
variable{Z:ae}{n:Nat}
theorem Hx{l:List Int}(h:eS 11 l):fV (l.map kN):=λw hw=>by
 obtain⟨v,hv,rfl⟩:=ip.1 hw;have z:=h v hv;refine⟨_,?_,rfl⟩;obtain⟨k,rfl⟩:=ph z.1;have hk:k<11:=dN.1 z.2;have e:((97:Int)+(k:Int)).toNat=97+k:=rfl;rw[e];have all:∀k,k<11->jS (yk (97+k))=true:=by decide
 exact all k hk
theorem DK{l:List Int}(h:eS 11 l)(hz:l.length<=900){Q:QV}(q:Q (.list (vY (l.map kN))) Z):Ph pF (n+1) 12 [.list (vI l)] Z Q:=by
 refine bN (J:=[some (.list (vI l))]) rfl (lF (mI l V.int (λv=>.bytes (kN v)) (ai hz (by decide)) (aa rfl) (λv hv=>⟨[some (.int v)],rfl,λQ q=>?_⟩) _ (bX (by rw[vY,ik]at q;exact q))));have z:=h v hv;have b:oV Z .bytes [.list [.int (97+v)]]=some (.bytes [yk (97+v).toNat]):=by
  show((z8 (97+v)).bind λb=>some [b]).map V.bytes = _;rw[z8,if_pos (by have:=z.1;have:=z.2;exact⟨au [] [_] (.li .k0 (.a (.k 97) .v0)) 1 [(1,.li .k0 .v0)] rfl z.1,au [] [_] (.ti (.a (.k 97) .v0) (.k 256)) 1 [(1,.ti .v0 (.c (.k 11)))] rfl z.2⟩)];rfl
 have g:WE (Ph pF n) (.bi .bytes [.lst false [.b .add (.c (.int 97)) (.x 0)]]) [some (.int v)] Z λx Z'=>WE (Ph pF n) (.c (.bytes [10])) [some (.int v)] Z' λy Z=>aK (tH .add x y) λr=>Q r Z:=
  kA (kx (bh (r:=97+v) Ev.cn (aa rfl) rfl) _ (ao b (Ev.cn _ (ao (a:=.bytes (kN v)) rfl q))))
 exact g
noncomputable abbrev Wx:List S:=[.s (.v 5) (.lst false [.lst false [],.lst false [.b .mod (.b .add (.x 3) (.c (.int 1))) (.c (.int 3))],.lst false [.x 3,.b .mod (.b .add (.x 3) (.c (.int 2))) (.c (.int 3))],.lst false [.x 3,.x 3],.lst false [.b .mod (.b .add (.x 3) (.c (.int 1))) (.c (.int 3)),.x 3]]),
   .ex (.bm (.x 2) .extend [.ite (.m .lt (.x 4) (.c (.int 3))) (.lst false [.x 3]) (.i (.x 5) (.b .sub (.x 4) (.c (.int 3))))])]
noncomputable def qG(v:Int):List (List Int):=[[],[(v+1)%3],[v,(v+2)%3],[v,v],[(v+1)%3,v]]
noncomputable def mr(a b:List Int)(f:Nat)(j:Option V×Option V×Option V):aj:=[some (.list (vI a)),some (.list (vI b)),some (.ref f),j.1,j.2.1,j.2.2]
theorem m3(v:Int):0<=v%3/\v%3<3:=⟨Cc _ (by decide),BN _ (by decide)⟩
theorem Tv{v:Int}(h:0<=v/\v<3):∀l,l∈qG v->eS 3 l/\l.length<=2:=by
 have a1:=m3 (v+1);have a2:=m3 (v+2);have one:∀{u:Int},0<=u/\u<3->eS 3 [u]:=λh w hw=>by rw[cJ.1 hw];exact h
 have aF:∀{u t:Int},0<=u/\u<3->0<=t/\t<3->eS 3 [u,t]:=λh k w hw=>(cq.1 hw).elim (λe=>e▸h) λhw=>by rw[cJ.1 hw];exact k
 intro l hl;rcases cq.1 hl with e|hl
 ·rw[e];exact⟨(λ_ h=>nm h),bJ _⟩
 rcases cq.1 hl with e|hl
 ·rw[e];exact⟨one a1,eN 1⟩
 rcases cq.1 hl with e|hl
 ·rw[e];exact⟨aF h a2,aC 2⟩
 rcases cq.1 hl with e|hl
 ·rw[e];exact⟨aF h h,aC 2⟩
 ·rw[cJ.1 hl];exact⟨aF a1 h,aC 2⟩
theorem kB{C:ax}{J:aj}{e:E}{x k:Int}(hk:(decide (0<k/\k<1000))=true)(h:Ev C e J Z (.int x)):Ev C (.b .mod e (.c (.int k))) J Z (.int (x%k)):=fO h Ev.cn (by
 show(if 0<k/\k<1000 then some (x%k) else none).map V.int = _;rw[if_pos (of_decide_eq_true hk)];rfl)
theorem mL{C:ax}{J:aj}{e:E}{x k:Int}(hk:(decide (0<k/\k<1000))=true)(h:Ev C e J Z (.int x)):Ev C (.b .fdiv e (.c (.int k))) J Z (.int (x/k)):=fO h Ev.cn (by
 show(if 0<k/\k<1000 then some (x/k) else none).map V.int = _;rw[if_pos (of_decide_eq_true hk)];rfl)
theorem RV{C:ax}{e g:E}{t:T}{b:List S}{J:aj}{Q:QO}{l u v:List V}(he:Ev C e J Z (.list u))(hg:Ev C g J Z (.list v))(hl:oS u v=l)(h:∃n,bZ (.vals l) t (λJ Z Q=>az C b J Z Q) Q n 0 J Z):WS C (.for t (.zip e g) b) J Z Q:=he _ (hg _ (ao rfl (ao rfl (by rw[hl];exact h))))
theorem Qe{a b:List Int}{f:Nat}{l:List Int}{v s:Int}{j:Option V}(hv:0<=v/\v<3)(hs:0<=s/\s<8)(hf:Z f=some (.list (vI l)))(hl:l.length<900){Q:QO}
  (q:∀u w,eS 3 u->u.length<=2->Q .next (mr a b f (some (.int v),some (.int s),w)) (ak Z f (.list (vI (l++u))))):az (Ph pF n) Wx (mr a b f (some (.int v),some (.int s),j)) Z Q:=by
 have e1:∀{j:Option V},Ev (Ph pF n) (.b .mod (.b .add (.x 3) (.c (.int 1))) (.c (.int 3))) (mr a b f (some (.int v),some (.int s),j)) Z (.int ((v+1)%3)):=kB rfl (bh (aa rfl) Ev.cn rfl);have e2:∀{j:Option V},Ev (Ph pF n) (.b .mod (.b .add (.x 3) (.c (.int 2))) (.c (.int 3))) (mr a b f (some (.int v),some (.int s),j)) Z (.int ((v+2)%3)):=kB rfl (bh (aa rfl) Ev.cn rfl);refine bM (v:=.list ((qG v).map λl=>.list (vI l))) (λQ q=>cZ Hf (cZ (kx e1) (cZ (n7 (aa rfl) e2) (cZ (n7 (aa rfl) (aa rfl)) (cZ (n7 e1 (aa rfl)) (gj q)))))) ?_;have t:aI (Ph pF n) (.m .lt (.x 4) (.c (.int 3))) (mr a b f (some (.int v),some (.int s),some (.list ((qG v).map λl=>.list (vI l))))) Z (s<3):=sS (aa rfl) Ev.cn;have x:∀u,eS 3 u->u.length<=2->Ev (Ph pF n) (.ite (.m .lt (.x 4) (.c (.int 3))) (.lst false [.x 3]) (.i (.x 5) (.b .sub (.x 4) (.c (.int 3))))) (mr a b f (some (.int v),some (.int s),some (.list ((qG v).map λl=>.list (vI l))))) Z (.list (vI u))->az (Ph pF n) [.ex (.bm (.x 2) .extend [.ite (.m .lt (.x 4) (.c (.int 3))) (.lst false [.x 3]) (.i (.x 5) (.b .sub (.x 4) (.c (.int 3))))])] (mr a b f (some (.int v),some (.int s),some (.list ((qG v).map λl=>.list (vI l))))) Z Q:=λu hu lu he=>
  Hi (aa rfl) hf he (by rw[aY,aY];exact ai (fh (cv hl) lu) (by decide)) (by rw[<-dy];exact q u _ hu lu)
 by_cases c:s<3
 ·exact x [v] (λw hw=>by rw[cJ.1 hw];exact hv) (eN 1) λQ q=>iZ t c (kx (aa rfl) Q q)
 ·refine bA (ph (a:=s-3) (by exact au [] [_] (.li .k0 (.s .v0 (.k 3))) 1 [(1,.li (.k 3) .v0)] rfl (jM.1 c))) λk e=>?_;have hk:k<(qG v).length:=by show k<5;exact au [_] [_] (.tn .v0 (.k 5)) 1 [(1,.ti .v0 (.k 8)),(-1,.ei (.s .v0 (.k 3)) .c0)] rfl hs.2 e
  have z:=Tv hv _ (iS hk);exact x _ z.1 z.2 λQ q=>iy t c (bW (aa rfl) (cw (aa rfl) Ev.cn e) (jO (by rw[cO,bL hk];rfl)) Q q)
theorem GP:∀(a b:List Int),oS (vI a) (vI b)=(a.zip b).map λp=>.tup [.int p.1,.int p.2]
 |[],_=>rfl
 |_::_,[]=>rfl
 |x::a,y::b=>congrArg (V.tup [.int x,.int y]::·) (GP a b)
theorem Ob{a b:List Int}(ha:eS 3 a)(hb:eS 8 b)(hz:a.length<=4){Q:QV}(q:∀l,eS 3 l->l.length<=8->Q (.list (vI l)) Z):Ph pF (n+1) 14 [.list (vI a),.list (vI b)] Z Q:=by
 refine bN (J:=[some (.list (vI a)),some (.list (vI b)),none,none,none,none]) rfl λf hf=>?_;have zl:(a.zip b).length<=4:=by rw[List.length_zip];exact ai (rL ..) hz
 refine aO (RV (l:=(a.zip b).map λp=>.tup [.int p.1,.int p.2]) (aa rfl) (aa rfl) (GP a b) ?_);refine qL (cE pF _) (λ(_:List Int×ae)j=>mr a b f j) (λs=>s.2) (λi s=>eS 3 s.1/\s.1.length<=2*i/\s.2 f=some (.list (vI s.1))/\Sub Z s.2) (λ_ _ _ _=>rfl) (λi hi s j h=>?_) (λs j h=>?_) (s:=([],_)) (j:=(none,none,none)) ⟨(λ_ h=>nm h),aC _,aP ..,sO hf⟩
 ·have m:=Cf (iS hi:((a.zip b)[i].1,(a.zip b)[i].2)∈a.zip b);refine ao (a:=mr a b f (some (.int (a.zip b)[i].1),some (.int (a.zip b)[i].2),j.2.2)) rfl λQ q=>Qe (ha _ m.1) (hb _ m.2) h.2.2.1 (bC h.2.1 (aQ (Jo (aQ hi zl) yj) (by decide))) λu w hu lu=>q (s.1++u,_) _ ⟨λv hv=>(gx.1 hv).elim (h.1 v) (hu v),?_,aP ..,vO h.2.2.2 hf⟩;rw[bB];exact fh h.2.1 lu
 ·exact eG (aa rfl) (t7 h.2.2.1 hf h.2.2.2 (q _ h.1 (ai h.2.1 (rD 2 zl))))
end
end
section
section
variable{a b:List Ln}{Z:ae}{n:Nat}
theorem Vl:∀{cs:List Cg}{f:Bool}{p q:Nat},ee a b f p q cs->(fU cs:Int)=cj (cs.map gu)+cj (cs.map fG):=λ{rr}=>@(li (λ{_}{_}{_}_=>rfl)
 (λc cs ih₁{_}{_}{_}h=>by
  have ih:=ih₁ h.2;rw[gy,gy,jQ,jQ,gu,fG,<-ji h.1.o,<-ji h.1.i];show(((c.2.1-c.1)+(c.2.2.2-c.2.2.1)+fU cs:Nat):Int) = _;exact bR [_,_,_] [_,_] (.c (.a (.a .v0 .v1) .v2)) (.a (.a .c0 .v0) (.a .c1 .v1)) [(-1,.ei .c2 (.a .v0 .v1))] rfl ih) rr)
theorem Pp{u x y:Nat}(hu:u<3)(ha:fV a)(hb:fV b)(hz:a.length<=4)(hy:b.length<=6){Q:QV}(q:Q (.bool true) Z):Ph pF (n+8) 23 [.list (vY a),.list (vY b),nI x,nI y,.str (cP u)] Z Q:=by
 have h4:a.length<=400:=ai hz (by decide);have h6:b.length<=400:=ai hy (by decide);have hs:a.length+b.length<=400:=ai (fh hz hy) (by decide);have go:∀c G H o i,gq a b c G H o i->(u=0->((o+i:Nat):Int)=fC a b)->(∀n Z(Q:QV),Q (cV c) Z->Ph pF (n+5) (xf u) [.list (vY a),.list (vY b)] Z Q)->Ph pF (n+8) 23 [.list (vY a),.list (vY b),nI x,nI y,.str (cP u)] Z Q:=λc G H o i T gM run=>by
  refine o9 (GD T.lds h4 h6) λcs G' H' o' i' T' e1 e2 r8=>?_;have t:(fU cs:Int)=((o+i:Nat):Int):=by
   rw[Vl T'.lds,T'.counts.1,T'.counts.2,e1,e2,T.counts.1,T.counts.2,hZ]
  exact Mx (n:=n+1) hu ha hb h4 h6 T'.lds (λZ Q q=>HQ (n:=n+4) hu (λQ q=>run n Z Q q) q) (λZ Q q=>r8 (n+1) Z Q q) (t▸T.low) (λz=>t▸gM z) q
 revert go;exact l3 hu (λgo=>t9 (AF hs) λc G H o i h h1 h2=>go c G H o i h (λ_=>zN h1) λn Z Q q=>h2 (n+1) Z Q q)
  (λgo=>t9 (E4 hz hy) λc G H o i h _ h2=>go c G H o i h (λz=>nomatch z) h2)
  λgo=>Bo (yJ hs 64) λc G H o i h h2=>go c G H o i h (λz=>nomatch z) λn Z Q q=>bN rfl (h2 n Z Q q)
end
section
variable{C:ax}{J:aj}{Z:ae}{l:List Int}{own:List cM}{e:E}
theorem uS{c:E}{j:Nat}(h:Ev C e J Z (.list (vI l)))(m:Ev C c J Z (nI j)):Ev C (.l e (.c .none) c) J Z (.list (vI (l.take j))):=λQ q=>zu h m Q (by rw[zb,uO];exact q)
theorem EE{c:E}{j:Nat}(h:Ev C e J Z (.list (vI l)))(m:Ev C c J Z (nI j)):Ev C (.l e c (.c .none)) J Z (.list (vI (l.drop j))):=λQ q=>zw h m Q (by rw[<-x9];exact q)
theorem uR{elt:E}{g:Int->Int}(ho:aR own.length (none:Option V)=[none])(hz:l.length<=aJ)(he:Ev C e J Z (.list (vI l)))(H:∀v,Ev C elt [some (.int v)] Z (.int (g v))):Ev C (.comp [] own (.v 0) (.seq e) [] elt) J Z (.list (vI (l.map g))):=λQ q=>
 mI l V.int (λv=>V.int (g v)) hz he (λv _=>⟨[some (.int v)],by rw[ho];rfl,H v⟩) Q (by rw[vI,ik]at q;exact q)
theorem oi{k:Nat}(hk:0<k)(l:List Int)(g:Int->Int):eS k (l.map λv=>g v%k):=λv hv=>by
 obtain⟨u,_,rfl⟩:=ip.1 hv;exact⟨Cc _ (KG.2 (iq hk)),BN _ (dN.2 hk)⟩
theorem eS.up{k m:Nat}(h:eS k l)(km:k<=m):eS m l:=λv hv=>⟨(h v hv).1,xO (h v hv).2 (gB.2 km)⟩
theorem eS.once{k:Nat}(h:eS k l):eS k (jB l):=λv hv=>by
 obtain⟨p,hp,rfl⟩:=ip.1 hv;exact h _ (Dw (rK.1 hp).1)
end
noncomputable abbrev XA:S:=.ite (.m .eq (.x 5) (.c (.int 0)))
  [.s (.vs [6,7]) (.tup [.comp [] [("v":cM)] (.v 0) (.seq (.l (.x 3) (.c .none) (.x 4))) [] (.b .mod (.x 0) (.c (.int 3))),.comp [] [("v":cM)] (.v 0) (.seq (.l (.x 3) (.x 4) (.c .none))) [] (.b .mod (.x 0) (.c (.int 3)))])]
  [.ite (.m .eq (.x 5) (.c (.int 1)))
   [.s (.v 6) (.comp [] [("v":cM)] (.v 0) (.seq (.l (.x 3) (.c .none) (.c (.int 4)))) [] (.b .mod (.x 0) (.c (.int 3)))),
    .s (.v 7) (.call 14 [.x 6,.comp [] [("v":cM)] (.v 0) (.seq (.l (.x 3) (.c .none) (.c (.int 4)))) [] (.b .mod (.b .fdiv (.x 0) (.c (.int 3))) (.c (.int 8)))])]
   [.s (.vs [6,7]) (.tup [.call 13 [.comp [] [("v":cM)] (.v 0) (.seq (.l (.x 3) (.c .none) (.x 4))) [] (.b .mod (.x 0) (.c (.int 11)))],.call 13 [.comp [] [("v":cM)] (.v 0) (.seq (.l (.x 3) (.x 4) (.c .none))) [] (.b .mod (.x 0) (.c (.int 11)))]])]]
noncomputable def fY(s c:List Int)(f:Int)(h:Nat)(w:Int)(r:List Int)(v6 v7 v8 v9:Option V):aj:=[some (.list (vI s)),some (.list (vI c)),some (.int f),some (.list (vI r)),some (nI h),some (.int w),v6,v7,v8,v9]
section
variable{s c r:List Int}{f w:Int}{h n:Nat}{Z:ae}
theorem E6(a b:Int):oO (.int a) (.int b)=some (decide (a=b)):=by
 show some (a==b) = _;rw[JL]
theorem PK(hr:r.length<=8)(hh:h<=4){Q:QO}(q:∀o t,eS 11 o->eS 11 t->o.length<=4->t.length<=8->Q .next (fY s c f h w r (some (.list (vI o))) (some (.list (vI t))) none none) Z) :
  WS (Ph pF (n+1)) XA (fY s c f h w r none none none none) Z Q:=by
 have rz:r.length<=aJ:=ai hr (by decide);have tz:∀{k},(r.take k).length<=aJ:=λ{k}=>by rw[eW];exact ai (pC ..) rz
 have t4:∀{k},k<=4->(r.take k).length<=4:=λ{k}hk=>by rw[eW];exact ai (rL ..) hk
 have dz:∀{k},(r.drop k).length<=8:=λ{k}=>by rw[hV];exact ai (ez ..) hr
 have dl:∀{k},(r.drop k).length<=aJ:=λ{k}=>ai dz (by decide);have md:∀{Z:ae}(k:Nat)(hk:(decide (0<(k:Int)/\(k:Int)<1000))=true)(v:Int),Ev (Ph pF (n+1)) (.b .mod (.x 0) (.c (.int k))) [some (.int v)] Z (.int (v%k)):=λk hk v=>kB hk (aa rfl);have pre:∀{v6:Option V}(k m:Nat)(hk:(decide (0<(k:Int)/\(k:Int)<1000))=true){e:E},Ev (Ph pF (n+1)) e (fY s c f h w r v6 none none none) Z (nI m)->Ev (Ph pF (n+1)) (.comp [] [("v":cM)] (.v 0) (.seq (.l (.x 3) (.c .none) e)) [] (.b .mod (.x 0) (.c (.int k)))) (fY s c f h w r v6 none none none) Z (.list (vI ((r.take m).map λv=>v%k))):=λk m hk _ he=>uR rfl tz (uS (aa rfl) he) (md k hk);have suf:∀(k:Nat)(hk:(decide (0<(k:Int)/\(k:Int)<1000))=true),Ev (Ph pF (n+1)) (.comp [] [("v":cM)] (.v 0) (.seq (.l (.x 3) (.x 4) (.c .none))) [] (.b .mod (.x 0) (.c (.int k)))) (fY s c f h w r none none none none) Z (.list (vI ((r.drop h).map λv=>v%k))):=λk hk=>uR rfl dl (EE (aa rfl) (aa rfl)) (md k hk);have w0:aI (Ph pF (n+1)) (.m .eq (.x 5) (.c (.int 0))) (fY s c f h w r none none none none) Z (w=0):=kC (aa rfl) Ev.cn;by_cases c0:w=0
 ·exact dF w0 c0 (fM (pre 3 h rfl (aa rfl)) (suf 3 rfl) rfl (q _ _ ((oi (by decide) _ _).up (by decide)) ((oi (by decide) _ _).up (by decide)) (by rw[aY];exact t4 hh) (by rw[aY];exact dz)))
 have w1:aI (Ph pF (n+1)) (.m .eq (.x 5) (.c (.int 1))) (fY s c f h w r none none none none) Z (w=1):=kC (aa rfl) Ev.cn;by_cases c1:w=1
 ·refine bH w0 c0 (aO (dF w1 c1 (bM (pre 3 4 rfl Ev.cn) ?_)));have st:Ev (Ph pF (n+1)) (.comp [] [("v":cM)] (.v 0) (.seq (.l (.x 3) (.c .none) (.c (.int 4)))) [] (.b .mod (.b .fdiv (.x 0) (.c (.int 3))) (.c (.int 8)))) (fY s c f h w r (some (.list (vI ((r.take 4).map λv=>v%(3:Nat))))) none none none) Z (.list (vI ((r.take 4).map λv=>(v/3)%(8:Nat)))):=uR rfl tz (uS (j:=4) (aa rfl) Ev.cn) λv=>kB rfl (mL rfl (aa rfl));have run:WE (Ph pF (n+1)) (.call 14 [.x 6,.comp [] [("v":cM)] (.v 0) (.seq (.l (.x 3) (.c .none) (.c (.int 4)))) [] (.b .mod (.b .fdiv (.x 0) (.c (.int 3))) (.c (.int 8)))]) (fY s c f h w r (some (.list (vI ((r.take 4).map λv=>v%(3:Nat))))) none none none) Z λx Z=>Q .next (fY s c f h w r (some (.list (vI ((r.take 4).map λv=>v%(3:Nat))))) (some x) none none) Z:=
   Aw (aa rfl) st (Ob (oi (by decide) _ _) (oi (by decide) _ _) (by rw[aY];exact t4 (aC 4)) λl hl ll=>q _ _ ((oi (by decide) _ _).up (by decide)) (hl.up (by decide)) (by rw[aY];exact t4 (aC 4)) ll)
  exact run
 ·have z1:∀{l:List Int},l.length<=8->(l.map λv=>v%((11:Nat):Int)).length<=8:=λ{l}h=>by rw[aY];exact h
  have t8:(r.take h).length<=8:=ai (t4 hh) (by decide);refine bH w0 c0 (aO (bH w1 c1 (fM (gD (pre 11 h rfl (aa rfl)) λQ q=>y5 E6 (ai (z1 t8) (by decide)) q) (gD (suf 11 rfl) λQ q=>y5 E6 (ai (z1 dz) (by decide)) q) rfl (q _ _ (oi (by decide) _ _).once (oi (by decide) _ _).once ?_ ?_))))
  ·exact ai (EY _) (by rw[aY];exact t4 hh)
  ·exact ai (EY _) (z1 dz)
end
end
section
noncomputable def kE(v:Int):Ln:=if v%3=0 then [97,10] else if v%3=1 then [10] else [98,10]
section
variable{Z:ae}{n:Nat}
theorem qn(v:Int){k:Nat}(hk:0<k):∃j:Nat,v%(k:Int)=j/\j<k:=by
 refine bA (ph (Cc v (KG.2 (iq hk)))) λj e=>?_;exact⟨j,e,dN.1 (e▸BN v (dN.2 hk))⟩
theorem EI{Z:ae}{l:List V}{i:Nat}{v:V}(e:l[i]?=some v):eQ Z (.tup l) (nI i)=some v:=by
 show fF l (i:Int) = _;unfold fF;rw[if_pos (eL i),hU,e]
theorem RB{C:ax}(v:Int):Ev C (.i (.tup [.c (.bytes [97,10]),.c (.bytes [10]),.c (.bytes [98,10])]) (.b .mod (.x 0) (.c (.int 3)))) [some (.int v)] Z (.bytes (kE v)):=by
 refine ar (qn v (k:=3) (by decide)) λj e hj=>?_;have e:v%3=j:=e;have m:Ev C (.b .mod (.x 0) (.c (.int 3))) [some (.int v)] Z (nI j):=λQ q=>kB rfl (aa rfl) Q (by rw[e];exact q);refine bW (sG Ev.cn Ev.cn Ev.cn) m (EI ?_);unfold kE;rw[e];exact l3 hj rfl rfl rfl
theorem OX(v:Int):kE v=[97,10]\/kE v=[10]\/kE v=[98,10]:=by
 unfold kE;split
 ·exact .inl rfl
 ·split
  ·exact .inr (.inl rfl)
  ·exact .inr (.inr rfl)
theorem Rc:i9 [97,10]=false:=by decide +kernel
theorem Rf:i9 [98,10]=false:=by decide +kernel
theorem Rg:i9 [10]=true:=by decide +kernel
def tC(w:Ln):Prop:=w=[97,10]\/w=[10]\/w=[98,10]
theorem NB{w:Ln}(h:tC w):i9 w=true↔w=[10]:=by
 rcases h with e|e|e<;>subst e
 ·rw[Rc];exact⟨(λz=>bn z),(λz=>nomatch z)⟩
 ·rw[Rg];exact⟨λ_=>rfl,λ_=>rfl⟩
 ·rw[Rf];exact⟨(λz=>bn z),(λz=>nomatch z)⟩
theorem T7{C:ax}{J:aj}{a b:E}{p q:List Ln}(h:Ev C a J Z (.list (vY p)))(k:Ev C b J Z (.list (vY q))):Ev C (.o false [a,b]) J Z (.list (vY (if p=[] then q else p))):=λQ w=>h _ (by
 cases p with
 |nil=>exact k Q w
 |cons x p=>exact w)
set_option tactic.hygienic true in
theorem SH{p:List Ln}:0<(if p=[] then [[97,10]] else p:List Ln).length:=by
 split
 ·exact mD
 ·next h=>exact mx.2 h
noncomputable abbrev IF:E:=.o false [.b .add (.l (.x 8) (.c (.int 4)) (.c (.int 6))) (.l (.lst false [.c (.bytes [10]),.c (.bytes [97,10])]) (.b .mod (.b .fdiv (.x 2) (.c (.int 288))) (.c (.int 2))) (.b .add (.b .mod (.b .fdiv (.x 2) (.c (.int 576))) (.c (.int 2))) (.c (.int 1)))),.lst false [.c (.bytes [97,10])]]
theorem TX{C:ax}{s c r:List Int}{f w:Int}{h:Nat}{v6 v7 v9:Option V}{B:List Ln}(hB:∀x,x∈B->tC x):∃g:List Ln,0<g.length/\g.length<=4/\(∀x,x∈g->tC x)/\Ev C IF (fY s c f h w r v6 v7 (some (.list (vY B))) v9) Z (.list (vY g)):=by
 refine ar (qn (f/288) (k:=2) (by decide)) λi ei hi=>?_;refine ar (qn (f/576) (k:=2) (by decide)) λj ej hj=>?_;have m1:Ev C (.b .mod (.b .fdiv (.x 2) (.c (.int 288))) (.c (.int 2))) (fY s c f h w r v6 v7 (some (.list (vY B))) v9) Z (nI i):=λQ q=>kB rfl (mL rfl (aa rfl)) Q (by rw[show f/288%2=(i:Int) from ei];exact q);have m2:Ev C (.b .mod (.b .fdiv (.x 2) (.c (.int 576))) (.c (.int 2))) (fY s c f h w r v6 v7 (some (.list (vY B))) v9) Z (nI j):=λQ q=>kB rfl (mL rfl (aa rfl)) Q (by rw[show f/576%2=(j:Int) from ej];exact q);have l1:(aH B 4 6).length<=2:=pP B 4 6;have l2:(aH [[10],[97,10]] i (j+1):List Ln).length<=2:=ai (pP ..) (ai (ez ..) hj);have mem:∀{l:List Ln}{i j:Nat}{x:Ln},x∈aH l i j->x∈l:=λh=>rt (BG h);have all:∀x,x∈aH B 4 6++aH [[10],[97,10]] i (j+1)->tC x:=λx hx=>(gx.1 hx).elim (λh=>hB x (mem h)) λh=>by
  rcases cq.1 (mem h) with e|e
  ·exact .inr (.inl e)
  ·exact .inl (cJ.1 e)
 have ll:(aH B 4 6++aH [[10],[97,10]] i (j+1)).length<=4:=by rw[bB];exact fh l1 l2
 refine⟨if aH B 4 6++aH [[10],[97,10]] i (j+1)=[] then [[97,10]] else aH B 4 6++aH [[10],[97,10]] i (j+1),SH,?_,λx hx=>?_,T7 (vo (jo (i:=4) (j:=6) (aa rfl) Ev.cn Ev.cn) (jo (p:=[[10],[97,10]]) (n7 Ev.cn Ev.cn) m1 (bh (r:=((j+1:Nat):Int)) m2 Ev.cn rfl)) (ai (fh l1 l2) (by decide))) (kx Ev.cn)⟩
 ·split
  ·exact ai (by decide:1<=4) (aC 4)
  ·exact ll
 ·split at hx
  ·exact .inl (cJ.1 hx)
  ·exact all x hx
end
end
section
section
variable{Z:ae}{n:Nat}
theorem NK{C:ax}{J:aj}{e:E}(c:List Int)(he:Ev C e J Z (.list (vI c))):Ev C (.ite (.m .ne e (.lst false [])) (.i e (.c (.int 0))) (.c (.int 0))) J Z (.int (c.headD 0)):=λQ q=>by
 have t:=yG he;cases c with
 |nil=>exact iy t (λz=>z rfl) q
 |cons x c=>exact iZ t (λz=>nc z) (bW he Ev.cn (jO (i:=0) rfl) Q q)
theorem RK{C:ax}{J:aj}{e g:E}{x:Int}{k:Nat}(he:Ev C e J Z (.int x))(hg:Ev C g J Z (nI (k+1)))(hk:k<=900):∃j,j<=k/\Ev C (.b .mod e g) J Z (nI j):=by
 refine ar (qn x (fi k)) λj e1 hj=>?_;refine⟨j,eV hj,fO he hg ?_⟩;show(if 0<((k+1:Nat):Int)/\((k+1:Nat):Int)<1000 then some (x%((k+1:Nat):Int)) else none).map V.int = _;rw[if_pos ⟨dN.2 (fi k),dN.2 (bC (cK hk) (by decide))⟩,e1];rfl
theorem TY{C:ax}{J:aj}{e:E}{x:Int}(he:Ev C e J Z (.int x)):∃u,u<3/\Ev C (.i (.tup [.c (.str "myers"),.c (.str "myers"),.c (.str "patience"),.c (.str "histogram")]) (.b .mod e (.c (.int 4)))) J Z (.str (cP u)):=by
 refine ar (qn x (k:=4) (by decide)) λj e1 hj=>?_;have m:Ev C (.b .mod e (.c (.int 4))) J Z (nI j):=λQ q=>kB rfl he Q (by rw[show x%4=(j:Int) from e1];exact q);have i:∀v,([.str "myers",.str "myers",.str "patience",.str "histogram"]:List V)[j]?=some v->Ev C (.i (.tup [.c (.str "myers"),.c (.str "myers"),.c (.str "patience"),.c (.str "histogram")]) (.b .mod e (.c (.int 4)))) J Z v:=λv h=>bW (jq Ev.cn Ev.cn Ev.cn Ev.cn) m (EI h);clear m e1;revert i;exact l4 hj (λi=>⟨0,by decide,i _ rfl⟩) (λi=>⟨0,by decide,i _ rfl⟩) (λi=>⟨1,by decide,i _ rfl⟩) λi=>⟨2,by decide,i _ rfl⟩
theorem FP{C:ax}{J:aj}{e:E}{x:Int}{k:Nat}(hk:(decide (0<(k:Int)/\(k:Int)<1000))=true)(k0:0<k)(he:Ev C e J Z (.int x)):∃j:Nat,Ev C (.b .mod e (.c (.int k))) J Z (nI j):=
 (qn x k0).elim λj h=>⟨j,λQ q=>kB hk he Q (by rw[h.1];exact q)⟩
noncomputable abbrev XF:List S:=[.s (.vs [6,7]) (.tup [.call 12 [.x 6],.call 12 [.l (.x 7) (.c .none) (.c (.int 6))]]),
  .s (.v 8) (.comp [] [("v":cM)] (.v 0) (.seq (.x 3)) [] (.i (.tup [.c (.bytes [97,10]),.c (.bytes [10]),.c (.bytes [98,10])]) (.b .mod (.x 0) (.c (.int 3))))),
  .ite (.not (.call 24 [.l (.x 8) (.c .none) (.c (.int 4)),IF,.b .mod (.b .fdiv (.x 2) (.c (.int 144))) (.b .add (.bi .len [.l (.x 8) (.c .none) (.c (.int 4))]) (.c (.int 1)))]))
  [.ret (.c (.bool false))]
  [],
  .s (.v 9) (.i (.tup [.c (.str "myers"),.c (.str "myers"),.c (.str "patience"),.c (.str "histogram")]) (.b .mod (.b .fdiv (.x 2) (.c (.int 36))) (.c (.int 4)))),
  .ite (.not (.call 19 [.x 6,.x 7,.x 9]))
  [.ret (.c (.bool false))]
  [],
  .ret (.call 23 [.x 6,.x 7,.b .mod (.x 2) (.c (.int 4)),.b .mod (.b .fdiv (.x 2) (.c (.int 4))) (.c (.int 3)),.x 9])]
theorem PL{s c r o t:List Int}{f w:Int}{h:Nat}(hr:r.length<=8)(ho:eS 11 o)(ht:eS 11 t)(lo:o.length<=4)(lt:t.length<=8){Q:QV}(q:Q (.bool true) Z) :
  az (Ph pF (n+8)) XF (fY s c f h w r (some (.list (vI o))) (some (.list (vI t))) none none) Z λo _ Z'=>∃v' Z'',Wk (jc o) Z' v' Z''/\Q v' Z'':=by
 have ht6:eS 11 (t.take 6):=λv hv=>ht v (rt hv);have l6:(t.take 6).length<=6:=by rw[eW];exact rL ..
 refine fM (u:=.list (vY (o.map kN))) (v:=.list (vY ((t.take 6).map kN))) (gD (aa rfl) λQ q=>DK ho (ai lo (by decide)) q) (gD (uS (j:=6) (aa rfl) Ev.cn) λQ q=>DK ht6 (ai l6 (by decide)) q) rfl ?_;have ha:=Hx ho;have hb:=Hx ht6;have la:(o.map kN).length<=4:=by rw[aY];exact lo
 have lb:((t.take 6).map kN).length<=6:=by rw[aY];exact l6
 generalize o.map kN=a at *
 generalize (t.take 6).map kN=b at *
 refine bM (v:=.list (vY (r.map kE))) (λQ q=>mI r V.int (λv=>.bytes (kE v)) (ai hr (by decide)) (aa rfl) (λv _=>⟨[some (.int v)],rfl,RB v⟩) Q (by rw[vY,ik]at q;exact q)) ?_;have hB:∀x,x∈r.map kE->tC x:=λx hx=>by
  obtain⟨v,_,rfl⟩:=ip.1 hx;exact OX v
 generalize r.map kE=B at *
 have b4:(B.take 4).length<=4:=by rw[eW];exact rL ..
 have e4:∀{v9:Option V},Ev (Ph pF (n+8)) (.l (.x 8) (.c .none) (.c (.int 4))) (fY s c f h w r (some (.list (vY a))) (some (.list (vY b))) (some (.list (vY B))) v9) Z (.list (vY (B.take 4))):=yZ (j:=4) (aa rfl) Ev.cn;refine o7 (TX (C:=Ph pF (n+8)) (s:=s) (c:=c) (r:=r) (f:=f) (w:=w) (h:=h) (Z:=Z) (v6:=some (.list (vY a))) (v7:=some (.list (vY b))) (v9:=none) hB) λg g1 g2 g3 g4=>?_;refine ar (RK (C:=Ph pF (n+8)) (Z:=Z) (J:=fY s c f h w r (some (.list (vY a))) (some (.list (vY b))) (some (.list (vY B))) none) (e:=.b .fdiv (.x 2) (.c (.int 144))) (g:=.b .add (.bi .len [.l (.x 8) (.c .none) (.c (.int 4))]) (.c (.int 1))) (mL rfl (aa rfl)) (bh (r:=(((B.take 4).length+1:Nat):Int)) (ir e4) Ev.cn rfl) (ai b4 (by decide))) λj hj ej=>?_;refine aO (bH (vU (t:=true) (kq e4 g4 ej λQ q=>MD g1 b4 g2 hj (λx hx=>NB (hx.elim (λhx=>hB x (rt hx)) (g3 x))) q)) (λz=>nb z) ?_);refine ar (TY (C:=Ph pF (n+8)) (Z:=Z) (J:=fY s c f h w r (some (.list (vY a))) (some (.list (vY b))) (some (.list (vY B))) none) (e:=.b .fdiv (.x 2) (.c (.int 36))) (mL rfl (aa rfl))) λu hu eu=>?_;refine bM eu (aO (bH (vU (t:=true) (kq (aa rfl) (aa rfl) (aa rfl) λQ q=>Nn la lb hu q)) (λz=>nb z) ?_));refine bA (FP (C:=Ph pF (n+8)) (Z:=Z) (J:=fY s c f h w r (some (.list (vY a))) (some (.list (vY b))) (some (.list (vY B))) (some (.str (cP u)))) (e:=.x 2) (k:=4) rfl (by decide) (aa rfl)) λx ex=>?_;refine bA (FP (C:=Ph pF (n+8)) (Z:=Z) (J:=fY s c f h w r (some (.list (vY a))) (some (.list (vY b))) (some (.list (vY B))) (some (.str (cP u)))) (e:=.b .fdiv (.x 2) (.c (.int 4))) (k:=3) rfl (by decide) (mL rfl (aa rfl))) λy ey=>?_;exact eG (v:=.bool true) (FC (vs:=[.list (vY a),.list (vY b),nI x,nI y,.str (cP u)]) (λQ q=>cZ (aa rfl) (cZ (aa rfl) (cZ ex (cZ ey (cZ (aa rfl) (gj q)))))) λQ q=>Pp hu ha hb la lb q) (bX q)
theorem Uk(ns:List Int){Q:QV}(q:Q (.bool true) Z):Ph pF (n+9) 25 [.list (vI ns)] Z Q:=by
 have l9:(ns.take 9).length<=9:=by rw[eW];exact rL ..
 refine bN (J:=[some (.list (vI ns)),none,none,none,none,none,none,none,none,none]) rfl (bM (uR (l:=ns.take 9) (g:=λv=>v) rfl (ai l9 (by decide)) (uS (j:=9) (aa rfl) Ev.cn) λv Q q=>kA (aa rfl _ (ao rfl q))) ?_);rw[List.map_id'];generalize ns.take 9=c at *
 have r8:(c.drop 1).length<=8:=by rw[hV];exact rA l9 1
 refine fM (NK c (aa rfl)) (EE (j:=1) (aa rfl) Ev.cn) rfl ?_;generalize c.drop 1=r at *
 refine fM (u:=nI (r.length/2)) (v:=.int (c.headD 0/12%3)) (mL (x:=(r.length:Int)) rfl λQ q=>qt (aa rfl) Q (by rw[aY];exact q)) (kB rfl (mL rfl (aa rfl))) rfl ?_;exact aO (PK (n:=n+7) r8 (ai (Kb r8) (by decide)) λo t ho ht lo lt=>PL r8 ho ht lo lt q)
end
end
theorem Yw:AN:=λns _=>Uk (n:=3) ns rfl
end LW.Internal
theorem PySem.Challenge.cw_nt0292_01_holds : PySem.Challenge.rw_nt0292_01.Holds :=
 LW.Internal.Yv LW.Internal.Yw
