import PyProof.Rows.All
import Wide.All
import OpenK.AllK
import Wide.FinOn
import Lean
import PySem.Challenge.RW_sa0179_01
set_option linter.unusedVariables false
set_option genSizeOf false
set_option genInjectivity false
set_option bootstrap.genMatcherCode false
namespace Mine
@[elab_as_elim] theorem ac {α:Sort u}{a b:α}{P:α->Prop}(h:a=b)(k:P b):P a:=h▸k
theorem TG {c:Prop}{h:Decidable c}(p:c){α:Sort u}{t e:α}:(if c then t else e)=t:=if_pos p
theorem TH {c:Prop}{h:Decidable c}(n:¬c){α:Sort u}{t e:α}:(if c then t else e)=e:=if_neg n
theorem TJ {α:Type u}[BEq α][ReflBEq α](a:α):(a==a)=true:=beq_self_eq_true a
theorem TK {α:Sort u}{a:α}:a=a:=rfl
theorem TL {α:Sort u}{β:Sort v}{a b:α}(f:α->β)(h:a=b):f a=f b:=congrArg f h
theorem TM {α:Type u}{i:BEq α}[LawfulBEq α]{a b:α}(h:(a==b)=true):a=b:=eq_of_beq h
theorem TN {p:Prop}[i:Decidable p](h:decide p=true):p:=of_decide_eq_true h
theorem TO {α:Type u}[BEq α][LawfulBEq α]{a b:α}:(a==b)=false ↔ a≠b:=beq_eq_false_iff_ne
theorem TP {α:Type u}[BEq α][LawfulBEq α]{a b:α}:(a != b)=true ↔ a≠b:=bne_iff_ne
theorem TQ :True:=trivial
theorem TR {p:Prop}[i:Decidable p](h:p):decide p=true:=decide_eq_true h
theorem TS {p:Prop}[i:Decidable p](h:¬p):decide p=false:=decide_eq_false h
end Mine
local macro_rules | `(tactic|exists $e)=>`(tactic|refine Mine.ac $e ?_)
local macro_rules | `(tactic|exists $e,$k)=>`(tactic|exact Mine.ac $e $k)
open And renaming intro->ξ
open Array renaming getElem?_toList->fN,getElem?_eq_getElem->gi,length_toList->pH,getD_eq_getD_getElem?->tB,getElem?_eq_none->tI,getElem?_eq_some_iff->xb,forIn_toList->xU,toList_push->xY,size_empty->yc,toList_setIfInBounds->Eb,toList_replicate->EC,isEmpty_iff->FK,toList_map->FV,replicate->Gl,size_map->GI
open Bool renaming true->ε,false->ζ,and_eq_true->aS,and_true->g_,false_eq_true->jT,false_ne_true->jU,and_false->k8,or_eq_true->pU,true_and->p6,false_or->p9,or_false->p_,noConfusion->t_,false_and->uj,and_eq_true_iff->E0,not_eq_true'->FL,eq_iff_iff->Gu,not_false->GP,or_true->HL,true_or->HM
open Classical renaming byContradiction->tD,em->yS
open Eq renaming symm->vJ,trans->Bj
open False renaming elim->aG
open ForInStep renaming yield->jX
open Int renaming natCast_nonneg->aE,ofNat_lt->aX,ofNat->aY,negSucc->dQ,ofNat_le->d_,not_lt->hZ,eq_ofNat_of_zero_le->iZ,toNat_of_nonneg->i0,lt_trans->jb,le_trans->jZ,le_of_lt->j0,lt_iff_le_and_ne->pE,add_le_add_right->pF,lt_add_one_of_le->pG,negSucc_lt_zero->pJ,add_sub_cancel->pK,lt_of_le_of_lt->pL,negSucc_eq->pV,lt_irrefl->pZ,ne_of_gt->qd,sub_add_cancel->tQ,lt_of_lt_of_le->tS,toNat_lt->uz,sub_nonneg_of_le->xI,toNat_natCast->xZ,ediv_one->yU,not_le->zH,natAbs_of_nonneg->ER,le_of_lt_add_one->EV,lt_add_one_iff->Fl,emod_eq_of_lt->FN,natCast_inj->Gp,neg_le_neg->GR,sub_zero->HI,add_zero->HJ
open Int.ofNat renaming inj->aW
open List renaming length->δ,length_map->φ,length_append->Δ,mem_singleton->Θ,mem_cons->ab,getElem?_eq_getElem->ag,map_append->aj,contains_iff_mem->ak,casesOn->ar,mem_map->au,mem_of_getElem?->av,mem_append->aw,range->ax,getElem?_eq_some_iff->ay,getElem?_map->aA,nil_append->aB,mem_append_right->aI,append_nil->aL,append_assoc->bF,length_range->bG,pairwise_cons->bO,map_cons->bQ,mem_filter->b3,mem_append_left->b_,all_eq_true->cg,length_nil->cC,nodup_append->cL,map_map->cM,length_set->cZ,getElem?_eq_none->dp,append_cons->dr,nodup_cons->dO,replicate->dP,getElem?_set_self->eW,getElem?_set_ne->eX,mem_iff_getElem?->fO,length_filter_le->fP,mem_range->fQ,getElem?_append_right->gh,mem_cons_of_mem->gj,getElem?_eq_none_iff->g6,contains_cons->g7,lookup_cons->g8,drop_eq_getElem_cons->iX,mem_map_of_mem->i7,forIn_cons->i9,take_of_length_le->jQ,getElem?_toArray->jR,getElem?_range->jS,zip_cons_cons->kT,flatMap_cons->kY,forIn_nil->k7,all_cons->k_,toArray->lp,pairwise_singleton->mX,drop_eq_nil_of_le->mY,length_replicate->mZ,ext_getElem?->m6,getElem_mem->m_,find?_cons->nc,length->nt,nodup_iff_pairwise_ne->pj,getElem?_append_left->pv,length_eq_zero_iff->px,lookup_eq_some_iff->pz,size_toArray->pN,mem_flatMap->pP,length_cons->pR,drop_nil->p8,map_nil->qg,drop_append_of_le_length->tx,eq_of_mem_replicate->tE,set_append_right->tL,forall_mem_cons->tN,map_congr_left->tO,mem_cons_self->tR,pairwise_map->tU,not_mem_nil->t9,filter_cons->ub,cons_append->uc,range_succ->ud,nodup_nil->ui,any_cons->uq,take_nil->ur,map_set->uA,getElem?_concat_length->xa,filterMap_cons_some->xi,getElem?_dropLast->xq,filter_eq_nil_iff->xw,take_append_drop->xA,eq_nil_or_concat->xG,concat_eq_append->xH,mem_filterMap->xW,drop_sublist->xX,getElem?_inj->x6,count_append->x9,take_add_one->x_,any_eq_true->yb,map_fst_zip->yg,length_take->yh,of_mem_zip->yo,range'->ze,findIdx?_eq_some_iff_getElem->D4,eq_nil_of_length_eq_zero->D6,findIdx?_eq_none_iff->Eg,mem_or_eq_of_mem_set->Ei,filterMap_cons_none->Et,contains_eq_any_beq->Eu,pairwise_lt_range->EA,range_succ_eq_map->EB,dropLast_eq_take->EG,dropLast_sublist->EI,getElem?_of_mem->EL,length_eraseIdx->EM,length_dropLast->ET,count_singleton->EU,dropLast_concat->EW,getLast?_concat->EX,range_eq_range'->EY,mem_of_mem_take->EZ,filterMap_cons->E9,filter_eq_self->Fb,getElem?_drop->Fd,map_filterMap->Fe,filterMap_map->Ff,filter_append->Fm,map_replicate->Fo,push_toArray->FI,perm_middle->FW,mem_toArray->FZ,countP_cons->F5,isEmpty_iff->F6,take_length->F7,append_inj'->F8,length_drop->F9,filterMap->GH,drop_drop->GK
open List.Pairwise renaming sublist->xx,imp_of_mem->TA,imp->TC
open List.Perm renaming append_left->xy,swap->GG
open List.cons renaming inj->ja
open Nat renaming le_trans->κ,beq->ae,le_add_right->ao,zero_add->az,le_refl->aJ,lt_of_le_of_lt->aR,eq_of_beq_eq_true->aU,le_of_eq->a5,lt_of_lt_of_le->bp,add_assoc->bP,succ_pos->bS,succ_le_succ->bZ,add_comm->b4,casesOn->b5,le_of_not_lt->cb,zero_le->cN,add_right_comm->cV,lt_succ_self->cY,add_le_add_left->dq,add_le_add_right->dM,mul_le_mul_right->dN,mul_le_mul_left->d8,mod_lt->ef,le_succ_of_le->eY,le_add_left->eZ,ne_of_gt->e7,lt_irrefl->fS,ne_of_lt->fT,le_of_lt_succ->gn,le_of_lt->gr,add_le_add->g9,sub_self->hU,ble->iz,le_succ->jc,succ_lt_succ->jW,add_lt_add_left->kR,lt_of_lt_of_eq->kS,lt_succ_of_lt->kX,add_sub_cancel_left->mW,lt_trans->nk,eq_zero_of_add_eq_zero_right->ph,lt_add_of_pos_right->pw,ne_of_beq_eq_false->pA,le_of_sub_eq_zero->pB,le_of_ble_eq_true->pC,add_lt_add_right->pD,not_lt_zero->pT,beq_refl->qe,not_lt->qt,le_of_succ_le_succ->tJ,lt_succ_of_le->tX,sub_pos_of_lt->tY,succ_ne_zero->t8,succ_pred_eq_of_pos->xn,lt_of_succ_lt_succ->xo,sub_succ_lt_self->xJ,lt_or_eq_of_le->xS,lt_of_le_of_ne->xT,le_of_succ_le->x8,not_lt_of_le->ya,min_le_left->yp,add_zero->yR,min_self->yT,le_total->yV,sub_le->zG,and_two_pow_sub_one_eq_mod->D5,exists_eq_add_of_le->Ez,le_mul_of_pos_left->ED,lt_of_sub_eq_succ->EF,sub_le_of_le_add->EN,sub_lt_sub_left->E_,eq_zero_or_pos->Fg,add_sub_cancel->Fj,not_le_of_lt->FT,min_eq_right->F4,div_le_self->Gm,le_antisymm->Gr,min_eq_left->Gx,mul_comm->HH
open Nat.succ renaming inj->c7
open Ne renaming symm->aO
open Option renaming some->γ,none->η,none->uF,isNone_iff_eq_none->xd,map_some->yn,getD_some->F0,isNone->Hi,some->II
open Option.some renaming inj->ω,injEq->jV
open PUnit renaming unit->lA
open Prod renaming ext->lX
open Prod.mk renaming inj->du,injEq->Hh
open PyProof.Rows renaming eq_int->a6,IntsAre->cP,eq_str->mu,wpAny_release'->pW,mem_rangeInts->uo,enum_rows->ve
open PyProof.Rows.F renaming plain_set_update_loop->xk,entry_set_update_loop->Ex
open PySem renaming wpAny_bind->θ,Value->ι,Shared->ν,wpAny_pure->ο,wpAny->τ,Addr->υ,Expr->χ,Str->ψ,Heap->Ξ,Scope->Ω,Env->aa,Obj->af,Around->ai,wpAny_holding->aq,sysModules->aF,intKind->aH,Pos->aK,World->aM,hashInt->aN,Expr->aP,Sem->aQ,wpAny_standAt->aV,Tok->aZ,cLine->bK,Comprehension->bR,Stmt->bY,wpAny_mono->cj,SetTable->cO,wpAny_setState_of->cX,mainGlobals->c8,FuncData->c9,Program->da,compareOp->dw,wpAny_rule->dR,holding->eB,DictEntry->fV,getItem->fY,wpAny_call_entry->gp,swappedStores->gq,codeAny->gC,swapsWithSole->hJ,starEach->iw,rawInt->iD,atKey->iK,intKind_is->i8,codeAny_builtin->i_,NameKind->jk,standAt->jr,Params->jx,sizeLine->kf,setItem->ki,wpAny_storeSet_of->kU,fits_of_scanBound->kW,wpAny_askSetting->kZ,valueAt->lg,behindInMarks->lh,wpAny_typeOf->ll,sizeLine_eq->lu,builtinsNs->lC,Flow->lD,swapsWith->lH,relayAll->lV,evalEach->lW,storedH->l_,pyNext->mq,backTo->mr,wpAny_truthy_bool->m8,foldedSetIterable->m9,wpAny_setField->ng,assignEach->nv,inplaceOp->nI,entryFor->nQ,isTrue->ox,wpAny_setEntries_of->pI,wpAny_newObj_type->pM,wpAny_isInstance->pQ,plainId_quiet->p5,assignInOrder->p7,codeAny_mono->qc,bootBuiltins->qh,storedH_new->qj,typeLookup->qu,pickOrder->qN,binaryOp->q8,without->rM,wpAny_callSpecial?_slot->tH,wpAny_pyIter_list->tV,arm_allTrue_cons->ua,letOwnedTupleGo->ue,entryFor_alias->ug,wpAny_alloc->uD,SubscriptOn->uE,wpAny_load->uN,storeName->vc,list_getitem_lookup->xc,wpAny_pyNext_list_item->xp,wpAny_pyNext_list_end->xB,wpAny_sequenceKey->x7,wpAny_forIn_list->yd,checkBuiltinCall->ye,wpAny_Call_NameR->yi,codeAny_of_tree->yk,wpAny_updateSeq->yl,wpAny_specialOf->ym,wpAny_operating->yq,wpAny_execs_nil->yr,importedModules->yt,wpAny_runValue->yA,wpAny_bindName->yB,stored->yX,unsupported->zb,wpAny_of_eq->zc,wpAny_field->zd,intKind_is->zE,wpAny_call->zF,wpAny_storeName_cell->Ef,filterMap_getElem?_range->Ej,wpAny_getItem_list_slice->Eo,wpAny_storeName_local->EH,wpAny_loadName_local->EO,wpAny_notIn_of->EP,wpAny_letTemporaryGo->ES,wpAny_binaryOp_same->E2,wpAny_loadName_cell->E4,wpAny_loadName_free->E5,wpAny_Tuple_spliced->E6,wpAny_isTrue_BoolOp->E7,wpAny_Constant_int->Fh,wpAny_setEpoch_of->FD,slot_list_setitem->FF,wpAny_in_of->FG,wpAny_pyIter_enum->FJ,wpAny_setScan_of->FU,setDiscardHashed->FX,strKind->Hj
open PySem.Builtin renaming bitNot->d9,bitAnd->uh,bitXor->GQ
open PySem.Builtin.Frozenset renaming isAnySet->kP,updateFrom->tz,slot1->tG,copyOf->xh,differenceUpdate->D3,walkUnseen->D7,unchanged->D8,subsetOf->Ec,baseOf->Ek,sizeOf->El,merge->Ew,difference->Tn,newClass->Tq,oneOther->Tr,quietEq->Tv,addrOf->Tx,slot0->TB
open PySem.Builtin.List renaming listLengthHint->D9,listExtendWith->D_,listSameRef->Em,listTooLong->Ep
open PySem.Builtin.Range renaming rangeFitsLong->Ea,rangeSize->Ey,small->E8
open PySem.Builtin.Slice renaming sliceAdjust->iY,slicePlaces->tC,sliceApplied->Ee,slicePartIndex->To,sliceFields->Tw
open PySem.Builtin.Tuple renaming tupleExact->En,tupleItemsOf->Tt,tupleIsExact->Tu
open PySem.Calls renaming spliced_cons->jP,callWith_builtin->mU,evalArgs_plain->mV,Name_function_global->tw,loadGlobal_global->w_
open PySem.Challenge renaming rw_sa0179_01->tA
open PySem.Code renaming builtin->HN
open PySem.Data renaming casesOn->qf
open PySem.Data.set renaming injEq->yy
open PySem.Expr renaming casesOn->cW
open PySem.Expr.Attribute renaming elim->xe
open PySem.Expr.BinOp renaming elim->xC
open PySem.Expr.BoolOp renaming elim->xr
open PySem.Expr.Call renaming elim->tM
open PySem.Expr.Compare renaming elim->xm
open PySem.Expr.Constant renaming elim->xj
open PySem.Expr.Dict renaming elim->xK
open PySem.Expr.IfExp renaming elim->xD
open PySem.Expr.List renaming elim->xN
open PySem.Expr.ListComp renaming elim->tF
open PySem.Expr.Name renaming elim->xM
open PySem.Expr.Set renaming elim->xQ
open PySem.Expr.Slice renaming elim->xE
open PySem.Expr.Subscript renaming elim->xf
open PySem.Expr.Tuple renaming elim->tK
open PySem.Expr.UnaryOp renaming elim->xl
open PySem.F renaming slot_tuple_getitem->pq,plain_extend_loop->tP,plainAttrs_list->tW,slot_set_ior->yz,slot_dict_delitem->Eh,slot_dict_setdefault->EE,entry_extend_loop->E3,slot_list_append->Fi,plain_list_iadd->FE,plainAttrs_dict->FH,entry_set_init->FY,plain_set_new->Gn,slot_set_iter->Gq,slot_dict_get->Gv,slot_set_sub->GN,slot_set_add->GO
open PySem.Heap renaming dictOf_iff->kQ
open PySem.IsL renaming update->uO
open PySem.MeetsSeq.EqGives renaming int->Ed
open PySem.Operator renaming BitOr->GJ
open PySem.PyData renaming keyHash->fR
open PySem.ScopeKind renaming function->Fk
open PySem.SeqAt renaming EqAt->yf
open PySem.SeqRoads2.EqGives renaming str->Tp
open PySem.Stmt.Assign renaming elim->xv
open PySem.Stmt.AugAssign renaming elim->xg
open PySem.Stmt.Continue renaming elim->Tz
open PySem.Stmt.Delete renaming elim->xu
open PySem.Stmt.Expr renaming elim->xO
open PySem.Stmt.For renaming elim->xR
open PySem.Stmt.If renaming elim->xV
open PySem.Stmt.Return renaming elim->xt
open PySem.Stmt.While renaming elim->xF
open PySem.W renaming emptyDict->bH,Frag->cJ,instObj->dT,boot_heap->j8,findIn->kp,putL->yW,boot_drawn->zI,boot_toks->An
open PySem.W.Grows renaming push->lB
section
namespace Mine
section
set_option genCtorIdx false
set_option backward.match.sparseCases false
@[elab_as_elim] theorem io{α:Sort u}{a b:α}{P:α->Prop}(h:a=b)(k:P a):P b:=h▸k
theorem pt{α:Type u}{C:Prop}{a:α}(h:η=γ a):C:=nomatch h
theorem iE{α:Type u}{C:Prop}{a:α}(h:γ a=η):C:=nomatch h
theorem eH{C:Prop}(h:ε=ζ):C:=nomatch h
theorem Db{C:Prop}(h:ζ=ε):C:=nomatch h
theorem SZ{α:Sort u}{p:α->Prop}{C:Prop}(h:∃x,p x)(k:∀x,p x->C):C:=h.elim k
theorem on{a b C:Prop}(h:a/\b)(k:a->b->C):C:=k h.1 h.2
theorem f4{α:Sort u}{p q:α->Prop}{C:Prop}(h:∃x,p x/\q x)(k:∀x,p x->q x->C):C:=let⟨x,a,b⟩:=h;k x a b
theorem wF{α:Sort u}{β:α->Sort v}{p:∀a,β a->Prop}{C:Prop}(h:∃x y,p x y)(k:∀x y,p x y->C):C:=let⟨x,a,b⟩:=h;k x a b
theorem bL{a b c C:Prop}(h:a/\b/\c)(k:a->b->c->C):C:=k h.1 h.2.1 h.2.2
theorem KT{α:Sort u}{p q r:α->Prop}{C:Prop}(h:∃x,p x/\q x/\r x)(k:∀x,p x->q x->r x->C):C:=let⟨x,a,b,c⟩:=h;k x a b c
theorem eI{α:Sort u}{β:Sort v}{p q:α->β->Prop}{C:Prop}(h:∃x y,p x y/\q x y)(k:∀x y,p x y->q x y->C):C:=let⟨x,a,b,c⟩:=h;k x a b c
theorem Rt{a b c d C:Prop}(h:a/\b/\c/\d)(k:a->b->c->d->C):C:=k h.1 h.2.1 h.2.2.1 h.2.2.2
theorem wY{α:Sort u}{b:Bool}{x y:α}(k:x=cond b x y)(h:b=ζ):x=y:=by subst h;exact k
theorem oT{α:Sort u}{b:Bool}{x y:α}(k:x=cond b y x)(h:b=ε):x=y:=by subst h;exact k
theorem DL{b:Bool}{P:Prop}(k:cond b P True)(h:b=ε):P:=by subst h;exact k
def Tc{α:Type}(o:Option α)(P:α->Prop):Prop:=match o with|some a=>P a|none=>True
theorem cT{α:Type}{o:Option α}{P:α->Prop}(k:Tc o P){a:α}(h:o=γ a):P a:=by subst h;exact k
theorem CI{d k:Nat}:d+1+2*k+20<=d+2*(k+1)+20:=dM (by rw[bP,b4 1];exact dq (jc _) _) 20
theorem CJ{u k:Nat}:u+3+100*(k+1)<=u+100*(k+1+1):=by rw[bP,b4 3];exact dq (dq (by decide) _) _
theorem Dl{r:Nat}(h:r<5):r=0\/r=1\/r=2\/r=3\/r=4:=(by decide:∀r,r<5->r=0\/r=1\/r=2\/r=3\/r=4) r h
theorem DM{n:Nat}(h:n<=1000):0<=(n:Int)/\(n:Int)<4294967296:=⟨aE n,aX.mpr (aR h (by decide))⟩
set_option genCtorIdx true in
inductive CV where
 |none|bool (b:Bool)|int (i:Int)|str (n:Nat)
 |tup (l:List CV)|list (l:List CV)|wlist (l:List Int)
 |set (l:List Int)|dict (ks:List Int) (vs:List CV)|pdict (ks:List (Int×Int)) (vs:List CV)
 |sdict (ks:List Nat) (vs:List CV)|kdict (ks:List Nat)
 |inst (c:Nat) (d:CV)|rng (n:Nat)|ref (n:Nat)|lend (v:CV)
abbrev ad:=List (Option CV)
abbrev L:=List (Nat×Option CV)
abbrev Fn:=List CV->ad->(CV->ad->Prop)->Prop
def br(b:Bool)(A B:Prop):Prop:=match b with|true=>A|false=>B
def ld{α:Type}(o:Option α)(K:α->Prop):Prop:=match o with|some a=>K a|.none=>False
noncomputable def pc:L->Nat->Option CV
 |[],_=>.none
 |(y,o)::r,x=>match ae x y with|true=>o|false=>pc r x
noncomputable def putL:L->Nat->CV->L
 |[],x,v=>[(x,γ v)]
 |(y,o)::r,x,v=>match ae x y with|true=>(y,γ v)::r|false=>(y,o)::putL r x v
noncomputable def f8(c:ad)(n:Nat):Option CV:=match c[n]? with|some o=>o|.none=>.none
noncomputable def view(c:ad):CV->Option CV
 |.ref n=>f8 c n
 |.lend v=>γ v
 |v=>γ v
noncomputable def dL(c:ad)(n:Nat)(v:CV):ad:=c.set n (γ v)
mutual
noncomputable def CV.solid:CV->Bool
 |.ref _=>ζ
 |.lend _=>ζ
 |.tup l=>Go l
 |.list l=>Go l
 |.dict _ l=>Go l
 |.pdict _ l=>Go l
 |.sdict _ l=>Go l
 |.inst _ d=>CV.solid d
 |_=>ε
noncomputable def Go:List CV->Bool
 |[]=>ε
 |a::l=>CV.solid a&&Go l
end
mutual
noncomputable def CV.calm:CV->Bool
 |.ref _=>ζ
 |.lend v=>CV.calm v
 |.tup l=>SC l
 |.list l=>SC l
 |.dict _ l=>SC l
 |.pdict _ l=>SC l
 |.sdict _ l=>SC l
 |.inst _ d=>CV.calm d
 |_=>ε
noncomputable def SC:List CV->Bool
 |[]=>ε
 |a::l=>CV.calm a&&SC l
end
mutual
noncomputable def CV.hasNot(n:Nat):CV->Bool
 |.ref m=> !(ae m n)
 |.lend v=>CV.hasNot n v
 |.tup l=>c_ n l
 |.list l=>c_ n l
 |.dict _ l=>c_ n l
 |.pdict _ l=>c_ n l
 |.sdict _ l=>c_ n l
 |.inst _ d=>CV.hasNot n d
 |_=>ε
noncomputable def c_(n:Nat):List CV->Bool
 |[]=>ε
 |a::l=>CV.hasNot n a&&c_ n l
end
noncomputable def CV.kids:CV->List CV
 |.tup l=>l
 |.list l=>l
 |.dict _ l=>l
 |.pdict ks l=>ks.map (λk=>.tup [.int k.1,.int k.2])++l
 |.sdict _ l=>l
 |.inst _ d=>[d]
 |_=>[]
noncomputable def qO:CV->List CV->CV
 |.tup _,l=>.tup l
 |.list _,l=>.list l
 |.dict ks _,l=>.dict ks l
 |.sdict ks _,l=>.sdict ks l
 |.inst c d,l=>.inst c (l.headD d)
 |v,_=>v
noncomputable def wH:CV->Bool
 |.pdict _ _=>ε
 |_=>ζ
mutual
inductive Fz(c:ad):CV->CV->Prop
 |solid {v}:v.solid=ε->Fz c v v
 |ref {n x ys}:f8 c n=γ x->wH x=ζ->d6 c x.kids ys->Fz c (.ref n) (qO x ys)
 |kids {v ys}:d6 c v.kids ys->wH v=ζ->Fz c v (qO v ys)
inductive d6(c:ad):List CV->List CV->Prop
 |nil:d6 c [] []
 |cons {v w vs ws}:Fz c v w->d6 c vs ws->d6 c (v::vs) (w::ws)
end
set_option backward.match.sparseCases true in
noncomputable def ul(c:ad):Nat->CV->CV
 |0,v=>v
 |n+1,v=>match v with
  |.ref m=>match f8 c m with
   |some (.list l)=>.lend (.list (l.map (ul c n)))
   |some (.sdict ks l)=>.lend (.sdict ks (l.map (ul c n)))
   |some x=>.lend x
   |.none=>.ref m
  |.inst k d=>match d with
   |.ref m=>.inst k (ul c n (.ref m))
   |d=>.inst k d
  |v=>v
noncomputable def PP:CV->Option Int|.int i=>γ i|_=>.none
noncomputable def a9:CV->Option (List CV)|.list l=>γ l|_=>.none
noncomputable def gJ:CV->Option (List CV)|.tup l=>γ l|_=>.none
noncomputable def gK:CV->Option (List Int)|.set l=>γ l|_=>.none
noncomputable def su:CV->Option Nat|.str s=>γ s|_=>.none
noncomputable def eJ(f:CV->CV->Option Bool):List CV->List CV->Option Bool
 |[],[]=>γ ε
 |[],_::_=>.none
 |_::_,[]=>.none
 |a::l,b::m=>(f a b).bind λx=>(eJ f l m).bind λy=>γ (x&&y)
noncomputable def Uf:Nat->CV->CV->Option Bool
 |0,_,_=>.none
 |n+1,a,b=>match a with
  |.int a=>(PP b).map λb=>a==b
  |.str a=>(su b).map λb=>a==b
  |.tup a=>(gJ b).bind λb=>match ae a.length b.length with|true=>eJ (Uf n) a b|false=>.none
  |.list a=>(a9 b).bind λb=>match ae a.length b.length with|true=>eJ (Uf n) a b|false=>γ ζ
  |_=>.none
noncomputable def iL:CV->CV->Option Bool:=Uf 8
noncomputable def bM(x:CV):List CV->Option Bool
 |[]=>γ ζ
 |y::l=>(iL y x).bind λa=>(bM x l).bind λb=>γ (a || b)
noncomputable def NE(x:Int):List Int->List Int
 |[]=>[x]
 |y::l=>if x<y then x::y::l else if x=y then y::l else y::NE x l
noncomputable def ofL(l:List Int):List Int:=l.foldr NE []
noncomputable def Re(a b:List Int):List Int:=a.foldr NE b
noncomputable def cu(a b:List Int):List Int:=a.filter λx=> !b.contains x
def fx(l:List Int):Prop:=δ l<=14/\∀x∈l, -1<=x/\x<=12
noncomputable def wf{K:Type}[BEq K](k:K):List K->List CV->Option CV
 |k'::ks,v::vs=>match k==k' with|true=>γ v|false=>wf k ks vs
 |_::_,[]=>.none
 |[],_=>.none
noncomputable def IO{K:Type}[BEq K](k:K)(v:CV):List K->List CV->List CV
 |k'::ks,v'::vs=>match k==k' with|true=>v::vs|false=>v'::IO k v ks vs
 |_::_,[]=>[v]
 |[],_=>[v]
noncomputable def wv{K:Type}[BEq K](k:K)(ks:List K):List K:=match ks.contains k with|true=>ks|false=>ks++[k]
noncomputable def eL{K:Type}[BEq K](k:K):List K->List CV->List CV
 |k'::ks,v'::vs=>match k==k' with|true=>vs|false=>v'::eL k ks vs
 |_::_,[]=>[]
 |[],_=>[]
noncomputable def cw{K:Type}[BEq K](k:K):List K->List K
 |k'::ks=>match k==k' with|true=>ks|false=>k'::cw k ks
 |[]=>[]
set_option genCtorIdx true in
inductive Op where|add|sub|mul|mod|fdiv|xor|band|bor
set_option genCtorIdx true in
inductive Cm where|eq|ne|lt|le|gt|ge|is|isin|notin
set_option genCtorIdx true in
inductive Bi where|len|list|set|set0|range|sorted|any|abs|int
set_option genCtorIdx true in
inductive Me where|append|extend|pop|add|get|count|setdefault
set_option genCtorIdx true in
inductive Md where|keep|pure|fresh
noncomputable def wZ:Int:=18446744073709551616
def kq(a:Int):Prop:= -wZ<a/\a<wZ
noncomputable def wi:CV->Option (List CV)|.list l=>γ l|.tup l=>γ l|_=>.none
def PW(op:Op)(a b:Int)(K:CV->Prop):Prop:=match op with
 |.add=>K (.int (a+b))
 |.sub=>K (.int (a - b))
 |.mul=>kq a/\kq b/\K (.int (a*b))
 |.mod=>0<b/\K (.int (a%b))
 |.fdiv=>(0<b/\b<4611686018427387904)/\K (.int (a / b))
 |.xor=>(0<=a/\0<=b)/\K (.int (aY (a.toNat ||| b.toNat) - aY (a.toNat&&& b.toNat)))
 |.band=>b=4294967295/\K (.int (a%4294967296))
 |.bor=>False
def PX(op:Op)(a b:List Int)(K:CV->Prop):Prop:=match op with
 |.sub=>K (.set (cu a b))
 |.bor=>fx (Re a b)/\K (.set (Re a b))
 |_=>False
def Dm(op:Op)(x y:CV)(K:CV->Prop):Prop:=match x with
 |.int a=>ld (PP y) λb=>PW op a b K
 |.set a=>ld (gK y) λb=>PX op a b K
 |.list a=>ld (a9 y) λb=>match op with|.add=>(a++b).length<=1000/\K (.list (a++b))|_=>False
 |_=>False
noncomputable def oc:CV->Option (Int×Int)
 |.tup [a,b]=>(PP a).bind λa=>(PP b).map λb=>(a,b)
 |_=>.none
noncomputable def th(x y:CV):Option Bool:=match y with
 |.set l=>(PP x).map λx=>l.contains x
 |.dict ks _=>(PP x).map λx=>ks.contains x
 |.pdict ks _=>(oc x).map λp=>ks.contains p
 |.kdict ks=>(su x).map λs=>ks.contains s
 |.list l=>bM x l
 |.tup l=>bM x l
 |_=>.none
noncomputable def oe(f:Int->Int->Bool)(x y:CV):Option Bool:=(PP x).bind λa=>(PP y).map λb=>f a b
noncomputable def mK(x y:CV):Option Bool:=match x with
 |.set a=>(gK y).map λb=>a != b
 |x=>(iL x y).map (!·)
noncomputable def isNone:CV->Option Bool
 |.none=>γ ε
 |.int _=>γ ζ
 |_=>.none
noncomputable def bh(c:ad)(op:Cm)(x y:CV):Option Bool:=match op with
 |.is=>match y with|.none=>isNone x|_=>.none
 |.isin=>(view c y).bind (th x)
 |.notin=>((view c y).bind (th x)).map (!·)
 |.eq=>(view c x).bind λx=>(view c y).bind (iL x)
 |.ne=>(view c x).bind λx=>(view c y).bind (mK x)
 |.lt=>oe (λa b=>decide (a<b)) x y
 |.le=>oe (λa b=>decide (a<=b)) x y
 |.gt=>oe (λa b=>decide (b<a)) x y
 |.ge=>oe (λa b=>decide (b<=a)) x y
def B8(v:CV)(K:Bool->Prop):Prop:=match v with
 |.bool b=>K b
 |.list l=>δ l<=1000/\K (!l.isEmpty)
 |_=>False
def cE(c:ad)(v:CV)(K:Bool->Prop):Prop:=ld (view c v) λv=>B8 v K
noncomputable def jy(n:Nat):CV->Option CV
 |.sdict ks vs=>wf n ks vs
 |_=>.none
noncomputable def jz(c:ad)(n:Nat):CV->Option CV
 |.inst _ d=>(view c d).bind (jy n)
 |_=>.none
noncomputable def s0{α:Type}(l:List α)(i:Int):Option α:=match i with
 |.ofNat n=>l[n]?
 |.negSucc n=>match iz (n+1) (δ l)with|true=>l[δ l - (n+1)]?|false=>.none
def wj(l:List CV)(i:CV)(K:CV->Prop):Prop:=ld (PP i) λi=>δ l<=1000/\ld (s0 l i) K
def wI(c:ad)(o i:CV)(K:CV->Prop):Prop:=ld (view c o) λo=>match o with
 |.list l=>wj l i K
 |.tup l=>wj l i K
 |.dict ks vs=>ld (PP i) λi=>ld (wf i ks vs) K
 |.pdict ks vs=>ld (oc i) λp=>ld (wf p ks vs) K
 |_=>False
noncomputable def fI{α:Type}(l:List α)(i:Int):List α:=match i with
 |.ofNat n=>l.drop n
 |.negSucc n=>l.drop (δ l - (n+1))
noncomputable def oU:CV->Option (List Int)|.wlist l=>γ l|_=>.none
def DN(c:ad)(o i:CV)(K:CV->Prop):Prop:=ld (PP i) λi=>match gJ o with
 |some l=>(δ l<=1000/\0<=i)/\K (.tup (fI l i))
 |.none=>ld ((view c o).bind a9) λl=>δ l<=1000/\K (.list (fI l i))
def DO(c:ad)(o i:CV)(K:CV->Prop):Prop:=ld (PP i) λi=>match gJ o with
 |some l=>(δ l<=1000/\0<=i)/\K (.tup (l.take i.toNat))
 |.none=>ld (oU o) λl=>(δ l<=1000/\0<=i)/\K (.list ((l.take i.toNat).map .int))
noncomputable def eC:List CV->Option (List Int)
 |[]=>γ []
 |v::l=>(PP v).bind λi=>(eC l).map (i::·)
noncomputable def vK:CV->Option Bool|.bool b=>γ b|_=>.none
noncomputable def nR:List CV->Option (List Bool)
 |[]=>γ []
 |v::l=>(vK v).bind λi=>(nR l).map (i::·)
noncomputable def cn(n:Nat):List CV:=(ax n).map λ(i:Nat)=>CV.int (aY i)
def listV(v:CV)(K:CV->Prop):Prop:=match v with
 |.list l=>δ l<=1000/\K (.list l)
 |.tup l=>δ l<=1000/\K (.list l)
 |.rng n=>n<=1000/\K (.list (cn n))
 |_=>False
def w0(b:Bi)(v:CV)(K:CV->Prop):Prop:=match b with
 |.len=>ld (wi v) λl=>δ l<=1000/\K (.int (δ l))
 |.list=>listV v K
 |.set=>ld (a9 v) λl=>ld (eC l) λl=>fx (ofL l)/\K (.set (ofL l))
 |.range=>ld (PP v) λn=>(0<=n/\n<=1000)/\K (.rng n.toNat)
 |.sorted=>ld (gK v) λl=>K (.list (l.map .int))
 |.any=>ld (a9 v) λl=>δ l<=1000/\ld (nR l) λl=>K (.bool (l.any id))
 |.abs=>ld (PP v) λi=>K (.int i.natAbs)
 |.int=>match v with
  |.int i=>K (.int i)
  |.bool b=>K (.int (match b with|true=>1|false=>0))
  |_=>False
 |.set0=>False
def dI(cell:Bool)(v:CV)(c:ad)(Q:CV->ad->Prop):Prop:=match cell with
 |true=>Q (.ref c.length) (c++[γ v])
 |false=>Q v c
noncomputable def dA:CV->Option Nat|.ref n=>γ n|_=>.none
noncomputable def oL:CV->Nat|.list _=>1|.set _=>2|.dict _ _=>3|.pdict _ _=>3|_=>0
noncomputable def oW:Me->Nat|.add=>2|.get=>3|.setdefault=>3|_=>1
noncomputable def dB(m:Me)(c:ad)(v:CV):Option Unit:=(view c v).bind λx=>match ae (oL x) (oW m)with|true=>γ ()|false=>.none
def DP(m:Me)(o x:CV)(c:ad)(Q:CV->ad->Prop):Prop:=match m with
 |.append=>ld (dA o) λn=>ld ((f8 c n).bind a9) λl=>δ l<=1000/\Q .none (dL c n (.list (l++[x])))
 |.extend=>ld (dA o) λn=>ld ((f8 c n).bind a9) λl=>ld (a9 x) λl'=>(l++l').length<=1000/\Q .none (dL c n (.list (l++l')))
 |.add=>ld (dA o) λn=>ld ((f8 c n).bind gK) λl=>ld (PP x) λx=>fx (NE x l)/\Q .none (dL c n (.set (NE x l)))
 |.count=>ld ((view c o).bind a9) λl=>ld (eC l) λis=>ld (PP x) λi=>Q (.int (aY (is.countP (· ==i)))) c
 |_=>False
def Su(o:CV)(c:ad)(Q:CV->ad->Prop):Prop:=ld (dA o) λn=>ld ((f8 c n).bind a9) λl=>δ l<=1000/\ld l.getLast? λx=>Q x (dL c n (.list l.dropLast))
def Dn(o k d:CV)(c:ad)(Q:CV->Prop):Prop:=ld (view c o) λo=>match o with
 |.dict ks vs=>ld (PP k) λk=>Q ((wf k ks vs).getD d)
 |_=>False
def Bk(o k v:CV)(c:ad)(Q:CV->ad->Prop):Prop:=ld (dA o) λn=>ld (f8 c n) λx=>match x with
 |.pdict ks vs=>ld (oc k) λp=>δ ks<=1000/\(match wf p ks vs with
  |some w=>Q w c
  |.none=>Q v (dL c n (.pdict (ks++[p]) (vs++[v]))))
 |_=>False
def Lx(o:CV)(n:Nat)(v:CV)(c:ad)(K:ad->Prop):Prop:=match o with
 |.inst _ d=>ld (dA d) λd=>ld (f8 c d) λx=>match x with
  |.sdict ks vs=>δ ks<=1000/\K (dL c d (.sdict (wv n ks) (IO n v ks vs)))
  |_=>False
 |_=>False
def qP(o i v:CV)(c:ad)(K:ad->Prop):Prop:=ld (dA o) λn=>ld (f8 c n) λx=>match x with
 |.list l=>ld (PP i) λi=>(0<=i/\i<δ l/\δ l<=1000)/\K (dL c n (.list (l.set i.toNat v)))
 |.dict ks vs=>ld (PP i) λi=>δ ks<=1000/\K (dL c n (.dict (wv i ks) (IO i v ks vs)))
 |.pdict ks vs=>ld (oc i) λp=>δ ks<=1000/\K (dL c n (.pdict (wv p ks) (IO p v ks vs)))
 |_=>False
def Ly(o i:CV)(c:ad)(K:ad->Prop):Prop:=ld (dA o) λn=>ld (f8 c n) λx=>match x with
 |.dict ks vs=>ld (PP i) λi=>(ks.contains i=ε/\δ ks<=1000)/\K (dL c n (.dict (cw i ks) (eL i ks vs)))
 |_=>False
def sW(op:Op)(x y:CV)(c:ad)(Q:CV->ad->Prop):Prop:=match op with
 |.bor=>ld (dA x) λn=>ld ((f8 c n).bind gK) λa=>ld ((view c y).bind gK) λb=>fx (Re a b)/\Q (.ref n) (dL c n (.set (Re a b)))
 |.add=>ld (PP x) λa=>ld (PP y) λb=>Q (.int (a+b)) c
 |.sub=>ld (PP x) λa=>ld (PP y) λb=>Q (.int (a - b)) c
 |_=>False
noncomputable def fj:Nat->List CV->List CV
 |_,[]=>[]
 |i,x::l=>.tup [.int (i:Int),x]::fj (i+1) l
noncomputable def nS(en:Bool)(c:ad)(v:CV):Option (List CV):=(view c v).bind λv=>match en with
 |true=>(a9 v).map (fj 0)
 |false=>match v with
  |.list l=>γ l
  |.tup l=>γ l
  |.rng n=>γ (cn n)
  |_=>.none
noncomputable def ct(c c':ad):CV->Prop
 |.ref n=>f8 c' n=f8 c n
 |_=>True
noncomputable def jA:List (Nat×CV):=[(0,.int 4294967295),(1,.int 4294967296),(2,.kdict [8,9,10,11]),(3,.kdict [12,13,14,15]),(4,.int 4294967296),
 (5,.tup [.int 1,.int 2,.int 5,.int 6,.int 8,.int 11,.int 20,.int 0]),(6,.tup [.int 1,.int 2,.int 4294967295,.int 7,.int 16,.int 2147483648]),(7,.tup [.str 16,.str 17,.str 18,.str 19,.str 20,.str 21])]
mutual
inductive E where
 |i (v:CV)|l (x:Nat)|glob (i:Nat)
 |bin (op:Op) (a b:E)|neg (a:E)|not (a:E)
 |cmp (op:Cm) (a b:E)|cmp2 (o1 o2:Cm) (a b d:E)
 |and (a:E) (es:Es)|or (a:E) (es:Es)|ite (t a b:E)
 |tup (es:Es)|list (cell:Bool) (es:Es)|set1 (cell:Bool) (i:Int)|dict0 (pair cell:Bool)|dict1 (k v:E)
 |attr (a:E) (n:Nat)|sub (a i:E)|lo (a i:E)|hi (a i:E)
 |call (f:Nat) (es:Es)|new (f cls:Nat) (fz:Bool) (es:Es)
 |bi (b:Bi) (cell:Bool) (es:Es)
 |me (m:Me) (o a:E)|pop (o:E)|get (o k d:E)|setdef (o k d:E)
 |comp (cell:Bool) (caps own:List Nat) (t:T) (en:Bool) (it:E) (ifs:Es) (gs:Gs)
inductive Es where
 |nil
 |cons (a:E) (es:Es)
inductive Gs where
 |last (a:E)
 |cons (t:T) (en:Bool) (it:E) (ifs:Es) (gs:Gs)
inductive T where
 |name (x:Nat)|attr (a:E) (n:Nat)|sub (a i:E)|tup (ts:Ts)
inductive Ts where
 |nil
 |cons (t:T) (ts:Ts)
end
mutual
inductive S where
 |g (t:T) (e:E)|aug (x:Nat) (op:Op) (e:E)|augSub (a i:E) (op:Op) (e:E)
 |ex (e:E)|ret (e:E)|ife (t:E) (a b:Ss)|whl (t:E) (b:Ss)
 |for (t:T) (en:Bool) (it:E) (b:Ss)|del (a i:E)|cont|frz (x:Nat)
inductive Ss where
 |nil
 |cons (s:S) (ss:Ss)
end
noncomputable def jH:Ts->Nat
 |.nil=>0
 |.cons _ ts=>jH ts+1
noncomputable def cA(sm:ad->Prop)(f:CV->List CV->L->ad->(List CV->L->ad->Prop)->Prop):List CV->List CV->L->ad->(List CV->L->ad->Prop)->Prop
 |[],r,l,c,Q=>Q r l c
 |x::xs,r,l,c,Q=>f x r l c λr l c=>sm c/\cA sm f xs r l c Q
noncomputable def ZB(sm:ad->Prop)(f:CV->L->ad->(L->ad->Prop)->Prop):List CV->L->ad->(L->ad->Prop)->Prop
 |[],l,c,N=>N l c
 |x::xs,l,c,N=>f x l c λl c=>sm c/\ZB sm f xs l c N
noncomputable def kO(t:L->ad->(Bool->ad->Prop)->Prop)(f:L->ad->(L->ad->Prop)->Prop):Nat->L->ad->(L->ad->Prop)->Prop
 |0,_,_,_=>False
 |n+1,l,c,N=>t l c λb c=>br b (f l c λl c=>kO t f n l c N) (N l c)
variable (Φ:Nat->Fn)
mutual
noncomputable def wE:E->L->ad->(CV->ad->Prop)->Prop
 |.i v,_,c,Q=>Q v c
 |.l x,l,c,Q=>ld (pc l x) λv=>Q v c
 |.glob i,_,c,Q=>ld (jA[i]?) λp=>Q p.2 c
 |.bin op a b,l,c,Q=>wE a l c λx c=>wE b l c λy c=>ld (view c x) λx=>ld (view c y) λy=>Dm op x y λz=>Q z c
 |.neg a,l,c,Q=>wE a l c λx c=>ld (PP x) λi=>Q (.int (-i)) c
 |.not a,l,c,Q=>wE a l c λx c=>cE c x λb=>Q (.bool (!b)) c
 |.cmp op a b,l,c,Q=>wE a l c λx c=>wE b l c λy c=>ld (bh c op x y) λz=>Q (.bool z) c
 |.cmp2 o1 o2 a b d,l,c,Q=>wE a l c λx c=>wE b l c λy c=>ld (bh c o1 x y) λt=>br t (wE d l c λz c=>ld (bh c o2 y z) λr=>Q (.bool r) c) (Q (.bool ζ) c)
 |.and a es,l,c,Q=>wE a l c λv c=>oM es v l c Q
 |.or a es,l,c,Q=>wE a l c λv c=>oX es v l c Q
 |.ite t a b,l,c,Q=>wE t l c λv c=>cE c v λu=>br u (wE a l c Q) (wE b l c Q)
 |.tup es,l,c,Q=>iR es l c λvs c=>δ vs<=1000/\Q (.tup vs) c
 |.list cell es,l,c,Q=>iR es l c λvs c=>δ vs<=1000/\dI cell (.list vs) c Q
 |.set1 cell i,_,c,Q=>fx [i]/\dI cell (.set [i]) c Q
 |.dict0 pair cell,_,c,Q=>dI cell (match pair with|true=>.pdict [] []|false=>.dict [] []) c Q
 |.dict1 k v,l,c,Q=>wE k l c λkv c=>ld (PP kv) λi=>wE v l c λw c=>Q (.dict [i] [w]) c
 |.attr a n,l,c,Q=>wE a l c λv c=>ld (jz c n v) λw=>Q w c
 |.sub a i,l,c,Q=>wE a l c λo c=>wE i l c λj c=>wI c o j λw=>Q w c
 |.lo a i,l,c,Q=>wE a l c λo c=>wE i l c λj c=>DN c o j λw=>Q w c
 |.hi a i,l,c,Q=>wE a l c λo c=>wE i l c λj c=>DO c o j λw=>Q w c
 |.call f es,l,c,Q=>iR es l c λvs c=>Φ f vs c Q
 |.new f cls fz es,l,c,Q=>iR es l c λvs c=>match fz with
  |true=>SC vs=ε/\Φ f (.inst cls (.ref 0)::vs) [γ (.sdict [] [])] λv c'=>v= .none/\(match c' with
   |[γ x]=>Go x.kids=ε/\Q (.inst cls x) c
   |_=>False)
  |false=>Φ f (.inst cls (.ref c.length)::vs) (c++[γ (.sdict [] [])]) λv c'=>v= .none/\Q (.inst cls (.ref c.length)) c'
 |.bi b cell es,l,c,Q=>iR es l c λvs c=>match b with
  |.set0=>match vs with
   |[]=>dI cell (.set []) c Q
   |_::_=>False
  |b=>match vs with
   |[v]=>ld (view c v) λv=>w0 b v λw=>dI cell w c Q
   |_=>False
 |.me m o a,l,c,Q=>wE o l c λov c=>ld (dB m c ov) λ_=>wE a l c λx c=>DP m ov x c Q
 |.pop o,l,c,Q=>wE o l c λov c=>ld (dB .pop c ov) λ_=>Su ov c Q
 |.get o k d,l,c,Q=>wE o l c λov c=>ld (dB .get c ov) λ_=>wE k l c λkv c=>wE d l c λdv c=>Dn ov kv dv c λw=>Q w c
 |.setdef o k d,l,c,Q=>wE o l c λov c=>ld (dB .setdefault c ov) λ_=>wE k l c λkv c=>wE d l c λdv c=>Bk ov kv dv c Q
 |.comp cell caps own t en it ifs gs,l,c,Q=>wE it l c λv c=>ld (nS en c v) λxs=>
   cA (λc'=>ct c c' v) (λx r l c Q=>wT t x l c λl c=>cx ifs l c λb c=>br b (wG gs r l c Q) (Q r l c)) xs [] (caps.map (λx=>(x,pc l x))++own.map λx=>(x,.none)) c
    λr _ c=>dI cell (.list r) c Q
noncomputable def iR:Es->L->ad->(List CV->ad->Prop)->Prop
 |.nil,_,c,Q=>Q [] c
 |.cons a es,l,c,Q=>wE a l c λv c=>iR es l c λvs c=>Q (v::vs) c
noncomputable def oM:Es->CV->L->ad->(CV->ad->Prop)->Prop
 |.nil,v,_,c,Q=>Q v c
 |.cons b es,v,l,c,Q=>cE c v λt=>br t (wE b l c λv c=>oM es v l c Q) (Q v c)
noncomputable def oX:Es->CV->L->ad->(CV->ad->Prop)->Prop
 |.nil,v,_,c,Q=>Q v c
 |.cons b es,v,l,c,Q=>cE c v λt=>br t (Q v c) (wE b l c λv c=>oX es v l c Q)
noncomputable def cx:Es->L->ad->(Bool->ad->Prop)->Prop
 |.nil,_,c,Q=>Q ε c
 |.cons a es,l,c,Q=>wE a l c λv c=>cE c v λt=>br t (cx es l c Q) (Q ζ c)
noncomputable def wG:Gs->List CV->L->ad->(List CV->L->ad->Prop)->Prop
 |.last a,r,l,c,Q=>wE a l c λv c=>r.length<=1000/\Q (r++[v]) l c
 |.cons t en it ifs gs,r,l,c,Q=>wE it l c λv c=>ld (nS en c v) λxs=>cA (λc'=>ct c c' v) (λx r l c Q=>wT t x l c λl c=>cx ifs l c λb c=>br b (wG gs r l c Q) (Q r l c)) xs r l c Q
noncomputable def wT:T->CV->L->ad->(L->ad->Prop)->Prop
 |.name x,v,l,c,K=>K (putL l x v) c
 |.attr a n,v,l,c,K=>wE a l c λo c=>Lx o n v c (K l)
 |.sub a i,v,l,c,K=>wE a l c λo c=>wE i l c λj c=>qP o j v c (K l)
 |.tup ts,v,l,c,K=>ld ((view c v).bind wi) λvs=>match ae (δ vs) (jH ts)with|true=>oY ts vs l c K|false=>False
noncomputable def oY:Ts->List CV->L->ad->(L->ad->Prop)->Prop
 |.nil,vs,l,c,K=>match vs with
  |[]=>K l c
  |_::_=>False
 |.cons t ts,vs,l,c,K=>match vs with
  |v::vs=>wT t v l c λl c=>oY ts vs l c K
  |[]=>False
end
def jB(e:E)(l:L)(c:ad)(Q:Bool->ad->Prop):Prop:=wE Φ e l c λv c=>cE c v λb=>Q b c
noncomputable def rN(n x:Nat):L->Bool
 |[]=>ε
 |(y,o)::r=>(match ae x y with|true=>ε|false=>match o with|some v=>v.hasNot n|.none=>ε)&&rN n x r
noncomputable def wm(n:Nat):ad->Bool
 |[]=>ε
 |o::r=>(match o with|some v=>v.hasNot n|.none=>ε)&&wm n r
mutual
noncomputable def wS:S->Nat->L->ad->(N C:L->ad->Prop)->(R:CV->ad->Prop)->Prop
 |.g t e,_,l,c,N,_,_=>wE Φ e l c λv c=>wT Φ t v l c N
 |.aug x op e,_,l,c,N,_,_=>ld (pc l x) λold=>wE Φ e l c λv c=>sW op old v c λw c=>N (putL l x w) c
 |.augSub a i op e,_,l,c,N,_,_=>wE Φ a l c λo c=>wE Φ i l c λj c=>wI c o j λold=>wE Φ e l c λv c=>sW op old v c λw c=>qP o j w c (N l)
 |.ex e,_,l,c,N,_,_=>wE Φ e l c λ_ c=>N l c
 |.ret e,_,l,c,_,_,R=>wE Φ e l c R
 |.ife t a b,fl,l,c,N,C,R=>jB Φ t l c λu c=>br u (fn a fl l c N C R) (fn b fl l c N C R)
 |.whl t b,fl,l,c,N,_,R=>kO (λl c Q=>jB Φ t l c Q) (λl c K=>fn b fl l c K K R) 1000 l c N
 |.for t en it b,fl,l,c,N,_,R=>wE Φ it l c λv c=>ld (nS en c v) λxs=>ZB (λc'=>ct c c' v) (λx l c' K=>wT Φ t x l c' λl c'=>fn b (fl+c.length) l c' K K R) xs l c N
 |.del a i,_,l,c,N,_,_=>wE Φ a l c λo c=>wE Φ i l c λj c=>Ly o j c (N l)
 |.cont,_,l,c,_,C,_=>C l c
 |.frz x,fl,l,c,N,_,_=>ld ((pc l x).bind dA) λn=>ld (f8 c n) λv=>(fl<=n/\n+1=c.length/\Go v.kids=ε/\rN n x l=ε/\wm n c.dropLast=ε)/\N (putL l x v) c.dropLast
noncomputable def fn:Ss->Nat->L->ad->(N C:L->ad->Prop)->(R:CV->ad->Prop)->Prop
 |.nil,_,l,c,N,_,_=>N l c
 |.cons s ss,fl,l,c,N,C,R=>wS s fl l c (λl c=>fn ss fl l c N C R) C R
end
structure BT where
 m:Md
 ps:List Nat
 ls:List Nat
 b:Ss
def body(d:BT)(args:List CV)(c:ad)(Q:CV->ad->Prop):Prop:=
 args.length=d.ps.length/\fn Φ d.b c.length (d.ps.zipWith (λx v=>(x,γ v)) args++d.ls.map λx=>(x,.none)) c (λ_ c=>Q .none c) (λ_ _=>False) Q
def run(d:BT)(args:List CV)(c:ad)(Q:CV->ad->Prop):Prop:=match d.m with
 |.keep=>body Φ d args c Q
 |.pure=>SC (args.map (ul c 8))=ε/\body Φ d (args.map (ul c 8)) [] λv c'=>∃w,Fz c' v w/\w.solid=ε/\Q w c
 |.fresh=>SC (args.map (ul c 8))=ε/\body Φ d (args.map (ul c 8)) [] λv c'=>∃n x,v= .ref n/\f8 c' n=γ x/\Go x.kids=ε/\Q (.ref c.length) (c++[γ x])
end
end Mine
end
section
open PySem PySem.W PyProof.Rows
namespace Mine
section
open SetTable
def WP(xs:Array Nat):Prop:=xs.toList.Pairwise (· < ·)
theorem og{xs:Array Nat}(r:WP xs){i k v u:Nat}(h:i<k)(e:xs.toList[i]? =γ v)(e':xs.toList[k]? =γ u):v<u:=by obtain⟨hi,rfl⟩:=ay.mp e;obtain⟨hk,rfl⟩:=ay.mp e';exact List.pairwise_iff_getElem.mp r i k hi hk h
def ti(l:List Nat) (j lo hi:Nat):Prop:=∀i v,l[i]? =γ v->(i<lo->v<j)/\(hi<=i->j<=v)
theorem IJ{xs:Array Nat}{j fuel lo hi:Nat}:below.go xs j (fuel+1) lo hi=if lo<hi then(if xs.getD ((lo+hi) / 2) j<j then below.go xs j fuel ((lo+hi) / 2+1) hi else below.go xs j fuel lo ((lo+hi) / 2))else lo:=rfl
theorem Lz{xs:Array Nat}(r:WP xs)(j:Nat):∀(fuel lo hi:Nat),lo<=hi->hi<=xs.size->hi<=lo+fuel->ti xs.toList j lo hi->below.go xs j fuel lo hi<=xs.size/\ti xs.toList j (below.go xs j fuel lo hi) (below.go xs j fuel lo hi):=by
 intro fuel;induction fuel with
 |zero=>exact λlo hi h1 h2 h3 h=>⟨κ h1 h2,λi v e=>⟨(h i v e).1,λq=>(h i v e).2 (κ h3 q)⟩⟩
 |succ fuel ih=>
  intro lo hi h1 h2 h3 h;rw[IJ];by_cases q:lo<hi
  ·have hm:lo<=(lo+hi) / 2/\(lo+hi) / 2<hi:=(by clear h h2 h3 ih r;exact⟨(Nat.le_div_iff_mul_le (by decide)).mpr (by rw[Nat.mul_two];exact dq h1 _),(Nat.div_lt_iff_lt_mul (by decide)).mpr (by rw[Nat.mul_two];exact pD q _)⟩);exists TG q;generalize(lo+hi) / 2=m at hm ⊢;have hs:m<xs.toList.length:=bp hm.2 h2;have e:=ag hs;have e':xs.getD m j=xs.toList[m]:=(by refine ac (tB) (io (fN) (ac e ?_));rfl);exists e';generalize xs.toList[m]=v at e;by_cases hc:v<j
   ·exists TG hc;refine ih _ _ hm.2 h2 (by clear h ih r;exact κ h3 (by rw[bP m,b4 1];exact dM hm.1 _)) λi u e2=>⟨λk=>?_,(h i u e2).2⟩;exact(xS (gn k)).elim (λk=>nk (og r k e2 e) hc) λk=>by rw[k,e]at e2;exact ω e2▸hc
   ·exists TH hc;refine ih _ _ hm.1 (gr hs) (by clear h ih r;exact gn (bp hm.2 h3)) λi u e2=>⟨(h i u e2).1,λk=>?_⟩;exact(xS k).elim (λk=>κ (cb hc) (gr (og r k e e2))) λk=>by rw[←k,e]at e2;exact ω e2▸cb hc
  ·refine ac (TH q) ⟨κ h1 h2,λi v e=>⟨(h i v e).1,λk=>(h i v e).2 (κ (cb q) k)⟩⟩
theorem zf{xs:Array Nat}(r:WP xs)(j:Nat):below xs j<=xs.size/\ti xs.toList j (below xs j) (below xs j):=
 Lz r j _ _ _ (cN _) (aJ _) (eZ _ _) λi v e=>⟨λk=>absurd k (pT _),λk=>absurd (ay.mp e).1 (ya k)⟩
theorem HO{xs:Array Nat}(r:WP xs){j:Nat}(hj:¬xs[below xs j]? =γ j):WP (insertAt xs (below xs j) j):=by
 have B:=(zf r j).2;rw[←fN]at hj;unfold WP;exists SetTable.toList_insertAt ..;generalize below xs j=p at B hj;have hd:∀a∈xs.toList.drop p,j<a:=λa ha=>by
  obtain⟨k,e⟩:=EL ha;rw[Fd]at e;refine xT ((B _ _ e).2 (ao _ _)) λq=>?_;induction k using b5 with
  |zero=>exact hj (q▸e)
  |succ k=>have e2:=ag (nk (pw (bS k)) (ay.mp e).1);exact fS _ (aR ((B _ _ e2).2 (aJ _)) (kS (og r (pw (bS k)) e2 e) q.symm))
 refine List.pairwise_append.mpr ⟨xx (List.take_sublist _ _) r,bO.mpr ⟨hd,xx (xX _ _) r⟩,λa ha b hb=>?_⟩;have ha:a<j:=by
  obtain⟨i,e⟩:=EL ha;rw[List.getElem?_take]at e;by_cases q:i<p
  ·rw[TG q]at e;exact(B _ _ e).1 q
  ·rw[TH q]at e;exact pt e
 exact(ab.mp hb).elim (λe=>e▸ha) λhb=>nk ha (hd b hb)
theorem GS{t:cO}{j:Nat}(h:∀i,t.slot j≠.live i):¬t.place[below t.place j]? =γ j:=by intro e;unfold slot at h;simp only[e,TJ,if_true]at h;exact h _ TK
theorem IK{t:cO}{f:Nat->Int}{h:Int}{fuel:Nat}{p:Probe}:probe.go t f h (fuel+1) p=(match t.slot p.j with
 |.empty=>γ (.empty p.j p.dummy)
 |.dummy=>probe.go t f h fuel (t.advance {p with dummy:=γ p.j})
 |.live i=>if f i==h then γ (.candidate p.j i (t.advance p))else probe.go t f h fuel (t.advance p)):=rfl
theorem yC{t:cO}{p:Probe}:(t.advance p).dummy=p.dummy:=by
 unfold advance;by_cases q:p.more > 0
 ·rw[TG q]
 ·rw[TH q]
theorem IL{t:cO}{f:Nat->Int}{h:Int}:∀(fuel:Nat) (p:Probe) (j:Nat) (d:Option Nat),(∀x,p.dummy=γ x->∀i,t.slot x≠.live i)->probe.go t f h fuel p=γ (.empty j d)->
  ∀i,t.slot (d.getD j)≠.live i:=by
 intro fuel;induction fuel with
 |zero=>exact λp j d hd e=>pt e
 |succ fuel ih=>
  intro p j d hd e;rw[IK]at e;cases hs:t.slot p.j with
  |empty=>
   rw[hs]at e;obtain⟨rfl,rfl⟩:=Met.empty.inj (ω e);cases hq:p.dummy with
   |none=>exact λi q=>nomatch hs.symm.trans q
   |some x=>exact hd x hq
  |dummy=>rw[hs]at e;exact ih _ j d (λx hx i q=>by rw[yC]at hx;rw[←ω hx]at q;exact nomatch hs.symm.trans q) e
  |live k=>
   rw[hs]at e;by_cases q:(f k==h)=ε
   ·exact nomatch ω ((TG q).symm.trans e)
   ·exact ih _ j d (λx hx=>hd x (yC.symm.trans hx)) ((TH q).symm.trans e)
theorem Fp{t:cO}{h:Int}{j:Nat}{b:Bool}(e:t.freeSlot h=γ (j,b)):¬t.place[below t.place j]? =γ j:=by unfold freeSlot at e;split at e<;>simp only[jV,Hh,reduceCtorEq]at e;rename_i j' d hq;obtain⟨rfl,rfl⟩:=e;refine GS (IL _ _ _ _ ?_ hq);intro x hx;simp[probeStart]at hx
theorem qk(n:Nat):WP (Array.range n):=by unfold WP;exists Array.toList_range,EA
theorem Gy{t:cO}(n:Nat)(r:WP t.place):WP (t.orStandIn n).place:=by
 unfold SetTable.orStandIn;split
 ·exact r
 ·exact qk _
theorem GU(t:cO)(n:Nat):(t.orStandIn n).led=t.led:=by unfold SetTable.orStandIn;split<;>rfl
theorem HP(t:cO)(es:Array (Int×ι))(h:Int)(x:ι)(r:WP t.place):WP (layNew t es h x).2.1.place:=by
 unfold layNew;split
 ·rename_i slot wd e;have:=HO r (Fp e);exact Gy _ this
 ·exact qk _
theorem IM(t:cO)(es:Array (Int×ι))(h:Int)(x:ι):(layNew t es h x).2.1.led=t.led:=by
 unfold layNew;split
 ·exact GU _ _
 ·rfl
theorem uP{mask finger moves:Nat}{led plain:Bool}{hs:Array Int}{t:cO}{o:Array Nat}(e:laid mask finger moves led plain hs=γ (t,o)):
  WP t.place/\t.led=led/\t.mask=mask/\t.dummies=#[]:=by
 unfold laid at e;simp only[Option.bind_eq_bind,Option.bind_eq_some_iff,Option.pure_def,jV,Hh]at e;obtain⟨owner,_,rfl,_⟩:=e;refine⟨?_,rfl,rfl,rfl⟩;unfold WP;simp only[Fe];rw[List.pairwise_filterMap];refine TC ?_ EA;intro a b UE x hx y hy;simp only[Option.map_map,Option.mem_def,Option.map_eq_some_iff]at hx hy;obtain⟨_,_,rfl⟩:=hx;obtain⟨_,_,rfl⟩:=hy;exact UE
theorem GV(t:cO)(es:Array (Int×ι))(w:Nat)(r:WP t.place):WP (lV t es w).2.1.place/\(lV t es w).2.1.led=t.led:=by
 unfold lV;split
 ·rename_i t' order e;dsimp only;split
  ·exact⟨(uP e).1,(uP e).2.1⟩
  ·exact⟨qk _,rfl⟩
 ·exact⟨qk _,rfl⟩
theorem yD{α:Type}{l:List α}:∀{i:Nat} (h:i<δ l),(l[i]::l.eraseIdx i).Perm l:=by
 induction l with
 |nil=>exact λh=>absurd h (pT _)
 |cons a l ih=>
  intro i h;induction i using b5 with
  |zero=>exact .refl _
  |succ i=>exact(GG _ _ _).trans ((ih (xo h)).cons a)
theorem J1{α:Type}{next:Nat->Nat}{fuel k:Nat}{left:List α}{out:Array α}:pickOrder.go next (fuel+1) k left out=(match left[next k%left.length]? with
 |some x=>pickOrder.go next fuel (k+1) (left.eraseIdx (next k%left.length)) (out.push x)
 |none=>out):=rfl
theorem NM{α:Type}(next:Nat->Nat):∀(fuel k:Nat) (left:List α) (out:Array α),left.length<=fuel->(pickOrder.go next fuel k left out).toList.Perm (out.toList++left):=by
 intro fuel;induction fuel with
 |zero=>intro k left out h;rw[D6 (Nat.le_zero.mp h),aL];exact .refl _
 |succ fuel ih=>
  intro k left out h;rw[J1];cases e:left[next k%left.length]? with
  |some x=>
   obtain⟨T6,hx⟩:=ay.mp e;refine(ih (k+1) _ _ ?_).trans ?_
   ·rw[EM,TG T6];exact EN h
   ·rw[xY,bF];exact xy _ (hx▸yD T6)
  |none=>
   induction left using ar with
   |nil=>rw[aL]
   |cons a l=>exact absurd (g6.mp e) (FT (ef _ (bS _)))
theorem zJ(next:Nat->Nat)(xs:Array α):(qN next xs).toList.Perm xs.toList:=by
 have:=NM next xs.size 0 xs.toList #[] (aJ _)
 exact this
end
section
open SetTable
theorem qv{mask fuel i p:Nat}{o:Array (Option Nat)}:layClean.free mask o (fuel+1) i p=(match(ax (runEnd mask i+1 - i)).find? (λk=>(o.getD (i+k) (γ 0)).isNone)with
 |some k=>γ (i+k)
 |none=>layClean.free mask o fuel (leap mask i p).1 (leap mask i p).2):=rfl
theorem Ao{o:Array (Option Nat)}{j:Nat}:(o.getD j (γ 0)).isNone=ε↔o.toList[j]? =γ η:=by
 rw[tB,←fN];induction o.toList[j]? with
 |none=>exact⟨λh=>Db h,λh=>pt h⟩
 |some v=>induction v with
  |none=>exact⟨λ_=>rfl,λ_=>rfl⟩
  |some v=>exact⟨λh=>Db h,λh=>nomatch h⟩
theorem J2{mask:Nat}{o:Array (Option Nat)}{j:Nat}:∀{fuel i p:Nat},layClean.free mask o fuel i p=γ j->o.toList[j]? =γ η:=by
 intro fuel;induction fuel with
 |zero=>exact λe=>pt e
 |succ fuel ih=>
  intro i p e;rw[qv]at e;cases q:(ax (runEnd mask i+1 - i)).find? (λk=>(o.getD (i+k) (γ 0)).isNone)with
  |some k=>rw[q]at e;exact ω e▸Ao.mp (List.find?_some (p:=λk=>(o.getD (i+k) (γ 0)).isNone) q)
  |none=>rw[q]at e;exact ih e
theorem J3(mask i:Nat):i<=runEnd mask i:=by
 unfold runEnd;split
 ·exact ao _ _
 ·exact aJ _
theorem IP{mask:Nat}{o:Array (Option Nat)}{fuel i p:Nat}(h:o.toList[i]? =γ η):layClean.free mask o (fuel+1) i p=γ i:=by
 have e:(ax (runEnd mask i+1 - i)).find? (λk=>(o.getD (i+k) (γ 0)).isNone)=γ 0:=by rw[Nat.succ_sub (J3 mask i),EB];exact List.find?_cons_of_pos (Ao.mpr h)
 rw[qv,e];rfl
noncomputable def iS(owner:Array (Option Nat)):List Bool:=owner.toList.map Hi
noncomputable def CK(l:List Bool):Array (Option Nat):=(l.map λb=>if b then η else γ 0).toArray
theorem PY(l:List Bool):iS (CK l)=l:=by
 refine(?_:(l.map λb=>if b then η else γ 0).map Hi=l);induction l with
 |nil=>rfl
 |cons b l ih=>rw[bQ,bQ,ih];induction b<;>rfl
theorem Ap{o:Array (Option Nat)}{j:Nat}:(o.getD j (γ 0)).isNone=((iS o)[j]?).getD ζ:=by unfold iS;rw[tB,←fN,aA];cases o.toList[j]?<;>rfl
theorem LA{mask:Nat}{o o':Array (Option Nat)}(h:iS o=iS o'):∀{fuel i p:Nat},layClean.free mask o fuel i p=layClean.free mask o' fuel i p:=by
 intro fuel;induction fuel with
 |zero=>exact rfl
 |succ fuel ih=>
  intro i p;rw[qv,qv,show(λk=>(o.getD (i+k) (γ 0)).isNone)=λk=>(o'.getD (i+k) (γ 0)).isNone from funext λk=>by rw[Ap,Ap,h]];induction(ax (runEnd mask i+1 - i)).find? (λk=>(o'.getD (i+k) (γ 0)).isNone)with
  |some k=>rfl
  |none=>exact ih
noncomputable def fW:List Int:=[-2,0,1,2,3,4,5,6,7,8,9,10,11,12]
noncomputable def lists:Nat->List (List Bool)
 |0=>[[]]
 |n+1=>(lists n).flatMap λl=>[ε::l,ζ::l]
theorem J4(l:List Bool):l∈lists (δ l):=by
 induction l with
 |nil=>exact .head _
 |cons b l ih=>exact pP.mpr ⟨l,ih,by cases b;exact .tail _ (.head _);exact .head _⟩
theorem J5:(lists 8).all (λl=> !l.any id || fW.all λh=>(layClean.free 7 (CK l) (turns 7) (bits h%8) (bits h)).isSome)=ε:=by decide+kernel
theorem Ru{o:Array (Option Nat)}(hs:o.size=8)(hn:∃j:Nat,o.toList[j]? =γ η){h:Int}(hh:h∈fW):∃j,layClean.free 7 o (turns 7) (bits h%8) (bits h)=γ j:=by have hl:(iS o).length=8:=(φ ..).trans hs;have Y_:(iS o).any id=ε:=yb.mpr (SZ hn λj q=>⟨ε,au.mpr ⟨η,av q,rfl⟩,rfl⟩);have:=cg.mp J5 (iS o) (hl▸J4 _);rw[Y_]at this;rw[LA (PY (iS o)).symm];exact Option.isSome_iff_exists.mp (cg.mp this h hh)
structure kC(mask:Nat) (o:Array (Option Nat)) (k:Nat) (prev:List Int):Prop where
 size:o.size=mask+1
 perm:(o.toList.filterMap id).Perm (ax k)
 home:mask≠7->∀(j v:Nat),o.toList[j]? =γ (γ v)->∃x∈prev,j=bits x%(mask+1)
theorem GW{l:List (Option Nat)}{k:Nat}:∀{j:Nat},l[j]? =γ η->((l.set j (γ k)).filterMap id).Perm (k::l.filterMap id):=by
 induction l with
 |nil=>exact λh=>pt h
 |cons a l ih=>
  intro j h;induction j using b5 with
  |zero=>rw[ω h];exact .refl _
  |succ j=>
   induction a with
   |none=>exact ih h
   |some a=>exact((ih h).cons a).trans (GG _ _ _)
theorem Sv{l:List (Option Nat)}(h:(l.filterMap id).length<δ l):∃j:Nat,l[j]? =γ η:=by
 induction l with
 |nil=>exact absurd h (fS _)
 |cons a l ih=>
  induction a with
  |none=>exact⟨0,rfl⟩
  |some a=>exact SZ (ih (xo h)) λj e=>⟨j+1,e⟩
theorem kC.step{mask:Nat}{o:Array (Option Nat)}{k:Nat}{prev:List Int}(L:kC mask o k prev){h:Int}{j:Nat}(e:layClean.free mask o (turns mask) (bits h%(mask+1)) (bits h)=γ j)
  (hj:mask≠7->j=bits h%(mask+1)):kC mask (o.setIfInBounds j (γ k)) (k+1) (prev++[h]):=by
 refine⟨Array.size_setIfInBounds.trans L.size,?_,λm7 i v hi=>?_⟩
 ·rw[Eb,ud];exact(GW (J2 e)).trans ((L.perm.cons k).trans (List.perm_append_singleton k _).symm)
 ·by_cases q:j=i
  ·exact⟨h,aI _ (.head _),q▸hj m7⟩
  ·rw[Eb,eX q]at hi;exact f4 (L.home m7 i v hi) λx hx q=>⟨x,b_ _ hx,q⟩
def ma(mask n:Nat):Prop:=mask=7/\n<=7\/mask=15\/mask=31\/mask=63
theorem HQ{mask:Nat}(hm:mask=15\/mask=31\/mask=63):∀a∈fW,∀b∈fW,bits a%(mask+1)=bits b%(mask+1)->a=b:=by rcases hm with rfl|rfl|rfl<;>decide+kernel
noncomputable def Bl(mask:Nat)(acc:Option (Array (Option Nat)×Nat))(h:Int):Option (Array (Option Nat)×Nat):=do
  let(owner,k) ←acc;let j ←layClean.free mask owner (turns mask) (bits h%(mask+1)) (bits h)
  pure (owner.setIfInBounds j (γ k),k+1)
theorem NN{mask:Nat}{o:Array (Option Nat)}{k:Nat}{prev hs:List Int}{h:Int}(L:kC mask o k prev)(hm:ma mask (k+hs.length+1))(H:∀x∈prev++h::hs,x∈fW)(nd:(prev++h::hs).Nodup):
  ∃j,layClean.free mask o (turns mask) (bits h%(mask+1)) (bits h)=γ j/\(mask≠7->j=bits h%(mask+1)):=by
 have hh:h∈fW:=H h (aI _ (.head _));rcases hm with⟨rfl,hn⟩|hm
 ·have hk:(o.toList.filterMap id).length<o.toList.length:=by rw[L.perm.length_eq,bG];exact aR (κ (ao k (hs.length+1)) hn) (kS (cY 7) L.size.symm)
  exact SZ (Ru L.size (Sv hk) hh) λj e=>⟨j,e,λq=>absurd TK q⟩
 ·have m7:mask≠7:=by rintro rfl;exact absurd hm (by decide)
  have T6:bits h%(mask+1)<o.toList.length:=kS (ef _ (bS _)) L.size.symm;have e:=ag T6;cases q:o.toList[bits h%(mask+1)]with
  |none=>exact⟨_,IP (e.trans (TL γ q)),λ_=>rfl⟩
  |some v=>exact f4 (L.home m7 _ v (e.trans (TL γ q))) λx hx q=>absurd (HQ hm h hh x (H x (b_ _ hx)) q).symm ((cL.mp nd).2.2 x hx h (.head _))
theorem NO{mask:Nat}:∀(hs:List Int) (o:Array (Option Nat)) (k:Nat) (prev:List Int),kC mask o k prev->ma mask (k+hs.length)->(∀h∈prev++hs,h∈fW)->(prev++hs).Nodup->
  ∃o',hs.foldl (Bl mask) (γ (o,k))=γ (o',k+hs.length)/\kC mask o' (k+hs.length) (prev++hs):=by
 intro hs;induction hs with
 |nil=>exact λo k prev L hm H nd=>⟨o,rfl,(aL prev).symm▸L⟩
 |cons h hs ih=>intro o k prev L hm H nd;refine f4 (NN L hm H nd) λj e hj=>?_;rw[dr]at H nd ⊢;have ek:k+(h::hs).length=k+1+hs.length:=(cV k 1 hs.length).symm;rw[ek]at hm ⊢;refine f4 (ih _ (k+1) (prev++[h]) (L.step e hj) hm H nd) λo' e' L'=>⟨o',?_,L'⟩;rw[List.foldl_cons,←e',show Bl mask (γ (o,k)) h=γ (o.setIfInBounds j (γ k),k+1)from TL (λz:Option Nat=>z.bind λj=>γ (o.setIfInBounds j (γ k),k+1)) e]
theorem Bm{mask finger moves}{led plain}{hs}(hm:ma mask hs.size)(h1:∀h∈hs.toList,h∈fW)(h2:hs.toList.Nodup):
  ∃t order,laid mask finger moves led plain hs=γ (t,order)/\order.toList.Perm (ax hs.size)/\t.place.size=hs.size/\t.led=led/\t.mask=mask/\t.dummies=#[]/\WP t.place:=by
 have L0:kC mask (Gl (mask+1) η) 0 []:=by
  refine⟨Array.size_replicate,?_,λ_ j v e=>?_⟩
  ·rw[EC,show GH id (dP (mask+1) (η:Option Nat))=[] from List.filterMap_eq_nil_iff.mpr λa ha=>tE ha];exact .refl _
  ·rw[EC]at e;exact nomatch tE (av e)
 refine f4 (NO hs.toList _ 0 [] L0 (by rw[az];exact hm) h1 h2) λo e L=>?_;rw[az]at e L;have ec:layClean mask hs=γ o:=by
  unfold layClean;refine io (Array.foldl_toList ..) ?_;have:(hs.toList.foldl (λacc h=>do
    let(owner,k) ←acc;let j ←layClean.free mask owner (turns mask) (bits h%(mask+1)) (bits h)
    pure (owner.setIfInBounds j (γ k),k+1)) (γ (Gl (mask+1) η,0)))=γ (o,hs.size):=e
  exists this;rfl
 have key:((ax (mask+1)).filterMap λj=>(o.getD j η).map (j,·)).map (·.2)=o.toList.filterMap id:=by
  exists Fe;have:o.toList=(ax (mask+1)).map λj=>o.getD j η:=by
   apply m6;intro i;exists aA;exists fN;by_cases hi:i<mask+1
   ·exists jS hi;have:i<o.size:=(by exists L.size,hi);simp[tB,gi this]
   ·exists dp (by simpa using cb hi);exists tI (by refine ac L.size ?_;exact cb hi);rfl
  exists this;exists Ff;congr 1;funext j;refine(?_:((o.getD j η).map (j,·)).map (·.2)=id (o.getD j η));generalize o.getD j η=z;induction z<;>rfl
 let live:=(ax (mask+1)).filterMap λj=>(o.getD j η).map (j,·);have el:laid mask finger moves led plain hs=γ ({mask,place:=(live.map (·.1)).toArray,dummies:=#[],finger,led,moves,plain},(live.map (·.2)).toArray):=by unfold laid;exists ec;rfl
 refine⟨_,_,el,?_,?_,rfl,rfl,rfl,(uP el).1⟩
 ·refine(?_:(live.map (·.2)).Perm _);exists show live.map (·.2)=o.toList.filterMap id from key,L.perm
 ·refine(?_:(live.map (·.1)).toArray.size=hs.size);have:(live.map (·.2)).length=hs.size:=by exists show live.map (·.2)=o.toList.filterMap id from key;exists L.perm.length_eq;simp
  simpa using this
theorem F_:∀w<64,sizeAbove w=8/\w<8\/sizeAbove w=16\/sizeAbove w=32\/sizeAbove w=64:=by decide+kernel
end
section
open SetTable
abbrev bj(l:List Int):Prop:=l.Pairwise (· < ·)
theorem b6:∀{l:List Int},y∈NE x l↔y=x\/y∈l:=by
 intro l;induction l with
 |nil=>simp[NE]
 |cons z l ih=>
  rw[NE];split
  ·simp
  ·split
   ·rename_i h;subst h;simp
   ·rw[ab,ih,ab];constructor
    ·rintro(h|h|h)<;>simp[h]
    ·rintro(h|h|h)<;>simp[h]
theorem vf:∀{l:List Int},bj l->bj (NE x l):=by
 intro l;induction l with
 |nil=>exact λ_=>by simp[NE]
 |cons z l ih=>
  intro h;refine on (bO.mp h) λh1 h2=>?_;rw[NE];split
  ·rename_i T6;refine bO.mpr ⟨?_,h⟩;intro b hb;rcases ab.mp hb with rfl|hb
   ·exact T6
   ·exact jb T6 (h1 b hb)
  ·split
   ·exact h
   ·refine bO.mpr ⟨?_,ih h2⟩;intro b hb;rcases b6.mp hb with rfl|hb
    ·exact pE.mpr ⟨hZ.mp ‹¬b<z›,λe=>‹¬b=z› e.symm⟩
    ·exact h1 b hb
theorem eg:∀{a:List Int},y∈Re a b↔y∈a\/y∈b
 |[]=>by simp[Re]
 |z::a=>by have:=eg (y:=y) (b:=b) (a:=a);unfold Re at this ⊢;rw[List.foldr_cons,b6,this,ab,or_assoc]
theorem ji(hb:bj b):∀{a:List Int},bj (Re a b)
 |[]=>hb
 |z::a=>by have:=ji hb (a:=a);unfold Re at this ⊢;exact vf this
theorem vy:y∈ofL a↔y∈a:=by have:=eg (y:=y) (b:=[]) (a:=a);simpa[Re,ofL]using this
theorem NP{a:List Int}:bj (ofL a):=ji (b:=[]) .nil
theorem jd{y:Int}{a b:List Int}:y∈cu a b↔y∈a/\¬y∈b:=by simp[cu,b3]
theorem qw{a b:List Int}(h:bj a):bj (cu a b):=h.filter _
theorem zK{l:List Int}(h:bj l):l.Nodup:=h.imp λh=>Int.ne_of_lt h
theorem qQ{a:Int}{l m:List Int}(h1:bj (a::l))(h:∀x∈a::l,x∈a::m):∀x∈l,x∈m:=λx hx=>(ab.mp (h x (.tail _ hx))).resolve_left λe=>pZ _ (e▸(bO.mp h1).1 x hx)
theorem nU:∀{l m:List Int},bj l->bj m->(∀x,x∈l↔x∈m)->l=m:=by
 intro l;induction l with
 |nil=>
  intro m _ _ h;induction m using ar with
  |nil=>rfl
  |cons b m=>exact nomatch (h b).mpr (.head _)
 |cons a l ih=>
  intro m h1 h2 h;induction m using ar with
  |nil=>exact nomatch (h a).mp (.head _)
  |cons b m=>refine on (bO.mp h1) λp1 p2=>?_;refine on (bO.mp h2) λq1 q2=>?_;have e:a=b:=(ab.mp ((h a).mp (.head _))).elim id λe=>(ab.mp ((h b).mpr (.head _))).elim vJ λe'=>absurd (jb (q1 a e) (p1 b e')) (pZ _);subst e;exact TL (a::·) (ih p2 q2 λx=>⟨qQ h1 (λx hx=>(h x).mp hx) x,qQ h2 (λx hx=>(h x).mpr hx) x⟩)
noncomputable def ny:List Int:=[-1,0,1,2,3,4,5,6,7,8,9,10,11,12]
theorem uo{x:Int}(h: -1<=x/\x<=12):x∈ny:=by
 have k:∀n:Nat,n<14->(n:Int) - 1∈ny:=by decide
 have e:((x+1).toNat:Int) - 1=x:=by rw[i0 (pF h.1 1),pK]
 exact e▸k _ ((uz (pF h.1 1)).mpr (pG (pF h.2 1)))
theorem NQ{l:List Int}:∀{lo:Int},lo<=13->bj l->(∀x∈l,lo<=x/\x<=12)->(δ l:Int)<=13 - lo:=by
 induction l with
 |nil=>exact λh _ _=>xI h
 |cons a l ih=>
  intro lo _ h hb;refine on (bO.mp h) λh1 h2=>?_;have hba:=hb a (.head _);have this:=ih (lo:=a+1) (pF hba.2 1) h2 λx hx=>⟨h1 x hx,(hb x (.tail _ hx)).2⟩;have e:(13:Int) - (a+1)+1=13 - a:=by rw[←Int.sub_sub,tQ]
  exact jZ (pF this 1) (e▸Int.sub_le_sub_left hba.1 13)
theorem Rv{l:List Int}(hn:bj l)(hr:∀x∈l, -1<=x/\x<=12):δ l<=14:=d_.mp (NQ (lo:= -1) (by decide) hn hr)
noncomputable def LE(e:Int×ι):Int:=match e.2 with|.int i _=>i|_=>0
structure At(w:aM) (es:Array (Int×ι)) (t:cO) (l:List Int):Prop where
 ents:∀e∈es.toList,∃i u,e=(aN i,.int i u)
 nod:(es.toList.map LE).Nodup
 mem:∀x,x∈l↔x∈es.toList.map LE
 inc:bj l
 rng:∀x∈l, -1<=x/\x<=12
 fits:t.fits es.size=ε
 led:w.params.followText "set-order"=ε\/t.led=ε
 mask:t.fill=0->t.mask=7
 rise:WP t.place
def a_(w:aM) (o:af) (l:List Int):Prop:=o.ExactSet/\∃es ep t,o.data= .set es ep t/\At w es t l
def ln(w:aM) (h:Ξ) (a:υ) (l:List Int):Prop:=∃o,h.get? a=γ o/\a_ w o l
variable {prog:da}{w:aM}{A:ai}{E:ι->ν->Prop}{s:ν}{a b:υ}{l m:List Int}
theorem At.perm{es t}(S:At w es t l):(es.toList.map LE).Perm l:=
 (List.perm_ext_iff_of_nodup S.nod (zK S.inc)).mpr λx=>(S.mem x).symm
theorem At.size{es t}(S:At w es t l):es.size=δ l:=by have:=S.perm.length_eq;simpa using this
theorem At.len{es t}(S:At w es t l):δ l<=14:=Rv S.inc S.rng
theorem At.elems{es t}(S:At w es t l):ElemsOf (aH prog w) es.toList:=by intro e he;obtain⟨i,u,rfl⟩:=S.ents e he;exact⟨⟨i,by simp[aH,Value.isInt],rfl⟩,rfl⟩
theorem uQ{e:Int×ι}(h:∃i u,e=(aN i,Value.int i u))(k:Int):(aH prog w).is k e.2=decide (LE e=k):=by obtain⟨i,u,rfl⟩:=h;refine(?_:(i==k)=decide (i=k));rfl
theorem At.mem'{es t}(S:At w es t l)(k:Int):l.contains k=ε↔∃e∈es.toList,(aH prog w).is k e.2=ε:=by
 rw[ak,S.mem,au];constructor
 ·rintro⟨e,he,rfl⟩;exact⟨e,he,by exists uQ (S.ents e he) ..;simp⟩
 ·rintro⟨e,he,q⟩;exact⟨e,he,by rw[uQ (S.ents e he)]at q;simpa using q⟩
theorem At.bound{es t}(S:At w es t l):es.size<scanBound:=by have:=S.len;have:=S.size;unfold scanBound;exact aR (κ (a5 ‹_›) ‹δ l<=14›) (by decide)
theorem ln.setOf{h:Ξ}(S:ln w h a l):h.SetOf (aH prog w) a (λk=>l.contains k) (δ l):=by obtain⟨o,ho,hx,es,ep,t,hd,F⟩:=S;exact⟨o,es,ep,t,ho,hx,hd,F.elems,F.mem',F.bound,F.fits,F.size⟩
theorem ln.typeIs(S:ln w s.heap a l):s.TypeIs (.ref a) "set":=by refine KT S λo ho hx _=>?_;clear S;exact⟨o,ho,hx.1⟩
theorem ln.keep{h h':Ξ}(S:ln w h a l)(k:∀o,h.get? a=γ o->h'.get? a=γ o):ln w h' a l:=by refine f4 S λo ho r=>?_;clear S;exact⟨o,k o ho,r⟩
theorem At.to{es t}{l':List Int}(S:At w es t l)(h:bj l')(e:∀x,x∈l↔x∈l'):At w es t l':=by refine io (nU S.inc h e) ?_;exact S
theorem At.store{es t es' t'}{i:Int}{u:aZ}(S:At w es t l)(hi: -1<=i/\i<=12)(hn:¬i∈l)(hp:es'.toList.Perm (es.toList++[(aN i,.int i u)]))
  (hf:t'.fits es'.size=ε) (hl:t'.led=t.led) (hr:WP t'.place):At w es' t' (NE i l) where
 ents e he:=by
  rcases aw.mp (hp.mem_iff.mp he)with he|he
  ·exact S.ents e he
  ·rw[Θ]at he;subst he;exact⟨_,_,rfl⟩
 nod:=by rw[(hp.map LE).nodup_iff,aj,cL];refine⟨S.nod,by simp,?_⟩;intro x hx y hy;replace hy:=Θ.mp hy;subst hy;rintro rfl;exact hn ((S.mem _).mpr hx)
 mem x:=by rw[(hp.map LE).mem_iff,aj,aw,b6,S.mem];simp[LE,or_comm]
 inc:=vf S.inc
 rng x hx:=by
  rcases b6.mp hx with rfl|hx
  ·exact hi
  ·exact S.rng x hx
 fits:=hf
 led:=by exists hl,S.led
 mask h0:=by
  replace hf:=(aS _ _).mp hf;have:es'.size=es.size+1:=by have:=hp.length_eq;simpa using this
  simp only[SetTable.fill]at h0;exact absurd ((TM hf.1).symm.trans (ph h0)) (by rw[this];exact t8 _)
 rise:=hr
theorem At.relay{es t es' t'}(S:At w es t l)(hp:es'.toList.Perm es.toList)(hf:t'.fits es'.size=ε)(hl:t'.led=t.led)(hm:t'.fill=0->t'.mask=7)(hr:WP t'.place):At w es' t' l where
 ents e he:=S.ents e (hp.mem_iff.mp he)
 nod:=(hp.map LE).nodup_iff.mpr S.nod
 mem x:=by rw[(hp.map LE).mem_iff,S.mem]
 inc:=S.inc
 rng:=S.rng
 fits:=hf
 led:=by exists hl,S.led
 mask:=hm
 rise:=hr
theorem At.fresh{led:Bool}(h:led= !w.params.followText "set-order"):At w #[] (.fresh 0 0 led) [] where
 ents e he:=by simp at he
 nod:=by simp
 mem x:=by simp
 inc:=.nil
 rng x hx:=by simp at hx
 fits:=by rfl
 led:=by cases q:w.params.followText "set-order"<;>simp[h,q,SetTable.fresh]
 mask _:=rfl
 rise:=by exact .nil
theorem vL{h:Ξ}{a:υ}{o:af}{es ep t es' t'}(ho:h.get? a=γ o)(hd:o.data= .set es ep t):
  (h.update a (Obj.putSet es' t')).get? a=γ {o with data:=.set es' (ep+1) t'}:=by
 have:=Heap.get?_update_self (Obj.putSet es' t') ho (by exists putSet_of es' t' hd;rfl);rw[putSet_of es' t' hd]at this;exact this
theorem lI{h:Ξ}{a:υ}{o:af}{es ep t es' t'}(ho:h.get? a=γ o)(hx:o.ExactSet)(hd:o.data= .set es ep t)(F:At w es' t' m):ln w (h.update a (Obj.putSet es' t')) a m:=
 ⟨_,vL ho hd,hx,_,_,_,rfl,F⟩
theorem LB(h: -1<=i/\i<=12):aN i∈fW:=by
 have:∀x∈ny,aN x∈fW:=by decide+kernel
 exact this i (uo h)
theorem LC(h: -1<=i/\i<=12)(h': -1<=j/\j<=12)(e:aN i=aN j):i=j:=by
 have:∀x∈ny,∀y∈ny,aN x=aN y->x=y:=by decide+kernel
 exact this i (uo h) j (uo h') e
theorem Aq{g:Bool->aQ Unit}(hg:∀(b:Bool) (s₁:ν) (Q':Unit->ν->Prop),Q' () s₁->τ (model prog w) A (g b) Q' E s₁)
  {o:af} {es:Array (Int×ι)} {ep:Nat} {t:cO} (ho:s.heap.get? a=γ o) (hx:o.ExactSet) (hd:o.data= .set es ep t)
  {Us:Array (Int×ι)} {t2:cO} (F2:At w Us t2 m) (Vf:0<Us.size) {wd:Bool} {R:Option Bool->ν->Prop}
  (h:∀h',Heap.SameBut a s.heap h'->ln w h' a m->R (γ ε) {s with heap:=h'}):
  τ (model prog w) A (do
    storeSet a Us t2
    if(!wd&&t2.tooFull)=ε then do
      g (lV t2 Us (SetTable.grown Us.size)).2.2
      storeSet a (lV t2 Us (SetTable.grown Us.size)).1 (lV t2 Us (SetTable.grown Us.size)).2.1
      pure (γ ε)
     else pure (γ ε)) R E s:=by
 refine θ (kU ho hd ?_ (kW F2.bound));have Vb:=vL (es':=Us) (t':=t2) ho hd;have Xz:=Heap.SameBut.update s.heap a (Obj.putSet Us t2);split
 ·have hp:=relayAll_perm t2 Us (SetTable.grown Us.size);have Wy:=relayAll_fits t2 Us (SetTable.grown Us.size);refine on (GV t2 Us (SetTable.grown Us.size) F2.rise) λWS hle=>?_;generalize hRl:lV t2 Us (SetTable.grown Us.size)=Rl at hp Wy WS hle ⊢;obtain⟨Wz,t3,gave2⟩:=Rl;dsimp only at hp Wy WS hle ⊢;have Ut:Wz.size=Us.size:=by have:=hp.length_eq;simpa using this
  have F3:At w Wz t3 m:=F2.relay hp Wy hle (λh0=>by replace Wy:=(aS _ _).mp Wy;simp only[SetTable.fill]at h0;exact absurd ((Ut.symm.trans (TM Wy.1).symm).trans (ph h0)) (e7 Vf)) WS;refine θ (hg _ _ _ ?_);refine θ (kU Vb TK ?_ (kW F3.bound));exact ο (h _ (Xz.trans (Heap.SameBut.update _ a (Obj.putSet Wz t3))) (lI Vb hx TK F3))
 ·exact ο (h _ Xz (lI ho hx hd F2))
theorem oh(S:ln w s.heap a l)(hi: -1<=i/\i<=12)
  (h:∀h',Heap.SameBut a s.heap h'->ln w h' a (NE i l)->Q (!l.contains i) {s with heap:=h'}):
  τ (model prog w) A (setAddHashed a (.int i u) (aN i)) Q E s:=by
 obtain⟨o,ho,hx,es,ep,t,hd,F⟩:=S;have Vg:(aH prog w).is i (.int i u)=ε:=by simp[aH,Value.isInt]
 have YD:(Value.int i u).scannable=ε:=rfl;have XA:=F.elems (prog:=prog);refine aq (θ (cX ho hd F.fits ?_));dsimp only;exists byScan_of YD F.bound XA;refine θ ?_;refine θ (dR ?_);refine θ (FU (knd:=aH prog w) (k:=i) Vg ho hd F.fits XA ?_);cases hr:es.toList.findIdx? (λe=>(aH prog w).is i e.2)with
 |some j=>
  dsimp only;refine f4 (D4.mp hr) λhj hp _=>?_;have hm:l.contains i=ε:=(F.mem' (prog:=prog) i).mpr ⟨_,m_ hj,hp⟩;refine ο (ο ?_);have e:NE i l=l:=nU (vf F.inc) F.inc λx=>by rw[b6];exact⟨λh=>h.elim (λe=>by subst e;exact ak.mp hm) id,.inr⟩
  have:=h s.heap (Heap.SameBut.refl a s.heap) (by exists e;exact⟨o,ho,hx,es,ep,t,hd,F⟩);rw[hm]at this;exact this
 |none=>
  have YE:l.contains i=ζ:=by
   cases q:l.contains i with
   |false=>rfl
   |true=>refine f4 ((F.mem' (prog:=prog) i).mp q) λe he hp=>?_;have:=Eg.mp hr e he;rw[hp]at this;exact eH this
  have V8:¬i∈l:=λq=>by rw[←ak,YE]at q;exact Db q
  have hgw:∀(b:Bool) {s₁:ν} {Q':Unit->ν->Prop},Q' () s₁->τ (model prog w) A (match b with|true=>rule "set.scan.the-table-gave-way" |false=>pure ()) Q' E s₁:=
   λb s₁ Q' hq=>by induction b<;>first|exact ο hq|exact dR hq
  have T7:=layNew_perm t es (aN i) (.int i u);have Vu:=layNew_fits t es (aN i) (.int i u);have VN:=HP t es (aN i) (.int i u) F.rise;have Uv:=IM t es (aN i) (.int i u);generalize hL:layNew t es (aN i) (.int i u)=L at T7 Vu VN Uv ⊢;obtain⟨Us,t1,wd,gave⟩:=L;dsimp only at T7 Vu VN Uv ⊢;rw[xY]at T7;have F1:∀t2:cO,t2.place=t1.place->t2.dummies=t1.dummies->t2.mask=t1.mask->t2.led=t1.led->At w Us t2 (NE i l):=by intro t2 q1 q2 q3 q4;refine F.store hi V8 T7 ?_ (q4.trans Uv) (q1▸VN);simp only[SetTable.fits,SetTable.fill,q1,q2,q3]at Vu ⊢;exact Vu
  refine θ (hgw _ ?_);have Vf:0<Us.size:=by have:=T7.length_eq;simp at this;exact this▸bS _
  have fin:∀h',Heap.SameBut a s.heap h'->ln w h' a (NE i l)->τ (model prog w) A (pure ε) Q E {s with heap:=h'}:=by intro h' k1 k2;have:=h _ k1 k2;rw[YE]at this;exact ο this
  split
  ·refine θ ?_;exists hashByValue_scannable 8 YD;refine ο ?_;refine Aq ?_ ho hx hd (F1 _ ?_ ?_ ?_ ?_) Vf ?_
   ·intro b s₁ Q' hq;induction b<;>first|exact ο hq|exact dR hq
   ·exact rfl
   ·exact rfl
   ·exact rfl
   ·exact rfl
   ·intro h' k1 k2;exact fin h' k1 k2
  ·refine θ (ο ?_);refine Aq ?_ ho hx hd (F1 _ TK TK TK TK) Vf ?_
   ·intro b s₁ Q' hq;induction b<;>first|exact ο hq|exact dR hq
   ·intro h' k1 k2;exact fin h' k1 k2
end
section
open SetTable
variable {prog:da}{w:aM}{A:ai}{E:ι->ν->Prop}{s:ν}{a b:υ}{l m:List Int}
theorem vz(S:ln w s.heap a l)(h0:¬i∈l->Q η s)
  (h1:i∈l->∀j o es ep t,s.heap.get? a=γ o->o.ExactSet->o.data= .set es ep t->At w es t l->(∃v,es[j]? =γ (aN i,.int i v))->Q (γ j) s):
  τ (model prog w) A (setFind a (.int i u) (aN i)) Q E s:=by
 obtain⟨o,ho,hx,es,ep,t,hd,F⟩:=S;have Vg:(aH prog w).is i (.int i u)=ε:=by simp[aH,Value.isInt]
 have XA:=F.elems (prog:=prog);refine θ (cX ho hd F.fits ?_);dsimp only;exists byScan_of TK F.bound XA;refine θ (dR ?_);refine θ (FU (knd:=aH prog w) (k:=i) Vg ho hd F.fits XA ?_);cases hr:es.toList.findIdx? (λe=>(aH prog w).is i e.2)with
 |none=>refine ο (h0 λq=>?_);refine f4 ((F.mem' (prog:=prog) i).mp (ak.mpr q)) λe he hp=>?_;have:=Eg.mp hr e he;rw[hp]at this;exact eH this
 |some j=>dsimp only;refine f4 (D4.mp hr) λhj hp _=>?_;have hm:i∈l:=ak.mp ((F.mem' (prog:=prog) i).mpr ⟨_,m_ hj,hp⟩);refine ο (h1 hm _ o es ep t ho hx hd F ?_);refine wF (F.ents _ (m_ hj)) λk v e=>?_;rw[uQ ⟨k,v,e⟩]at hp;replace hp:=TN hp;subst hp;exact⟨v,by exists az ..,io (fN ..) (ac (ag hj ..) (ac (e ..) TK))⟩
theorem lE(h:Q (w.params.followText "set-order") s):τ (model prog w) A setsByText Q E s:=by unfold setsByText;exact θ (kZ (ο h))
theorem J6(hn:n≠0)(h:∀i d,i<n->Q i {s with drawn:=d}):τ (model prog w) A (choose src n) Q E s:=by intro Γ p _;unfold choose;exists Sem.wp_choose ..;refine⟨hn,?_⟩;exact h _ _ (ef _ (Nat.pos_of_ne_zero hn))
theorem yI:∀(n:Nat) (xs:List α) {s:ν} {Q:List α->ν->Prop},δ xs<=n->(∀ys d,ys.Perm xs->Q ys {s with drawn:=d})->τ (model prog w) A (drawOrder n xs) Q E s:=by
 intro n;induction n with
 |zero=>
  intro xs s Q hn h;induction xs using ar with
  |nil=>exact ο (h [] s.drawn (.refl _))
  |cons _ _=>exact absurd hn (Nat.not_succ_le_zero _)
 |succ n ih=>
  intro xs s Q hn h;induction xs using ar with
  |nil=>exact ο (h [] s.drawn (.refl _))
  |cons x xs=>refine θ (J6 (by simp) λi d hi=>?_);rw[ag hi];refine θ (ih _ (by rw[EM,TG hi];exact EN hn) λys d' hp=>?_);exact ο (h _ _ ((hp.cons _).trans (yD hi)))
theorem NR{es ep t}(ho:s.heap.get? a=γ o)(hd:o.data= .set es ep t)(F:At w es t l)
  (h:∀es' d,es'.toList.Perm es.toList->Q es' {s with drawn:=d}):τ (model prog w) A (setWalk a) Q E s:=by
 unfold setWalk;refine θ (cX ho hd F.fits ?_);refine θ (lE ?_);cases hb:w.params.followText "set-order" with
 |true=>refine θ (kZ ?_);exact ο (h _ s.drawn (zJ _ _))
 |false=>
  simp only[jT,if_false];have hl:t.led=ε:=F.led.resolve_left (by exists hb;simp);split
  ·refine θ (yI _ _ (aJ _) λys d hp=>?_);exact ο (h _ _ (by simpa using hp))
  ·show τ (model prog w) A (bind (if(!t.led&&decide (es.size > 1))=ε then zb "set:maker-not-led" else pure lA) λ_=>pure es) Q E s;exists hl,θ (ο (ο (h _ s.drawn (.refl _))))
end
section
open SetTable
variable {prog:da}{w:aM}{A:ai}{E:ι->ν->Prop}{s:ν}{a b:υ}{l m:List Int}
theorem At.hashes{es t}(S:At w es t l):(∀h∈(es.map (·.1)).toList,h∈fW)/\(es.map (·.1)).toList.Nodup/\(es.map (·.1)).size=δ l:=by
 have key:∀e∈es.toList,e.1=aN (LE e)/\(-1<=LE e/\LE e<=12):=by intro e he;have:=S.rng (LE e) ((S.mem _).mpr (i7 he));obtain⟨i,u,rfl⟩:=S.ents e he;exact⟨rfl,this⟩
 refine⟨?_,?_,by simp[S.size]⟩
 ·intro h hh;rw[FV,au]at hh;obtain⟨e,he,rfl⟩:=hh;exists(key e he).1,LB (key e he).2
 ·exists FV;have:es.toList.map (·.1)=(es.toList.map LE).map aN:=by exists cM,tO λe he=>(key e he).1
  rw[this,pj,tU];refine(pj.mp S.nod).imp_of_mem ?_;intro x y hx hy Um q;obtain⟨e,he,rfl⟩:=au.mp hx;obtain⟨e',Wi,rfl⟩:=au.mp hy;exact Um (LC (key e he).2 (key e' Wi).2 q)
theorem yJ{α:Type}{es:Array α}{order:Array Nat}(h:order.toList.Perm (ax es.size)):(order.filterMap (es[·]?)).toList.Perm es.toList:=by exists Array.toList_filterMap,(h.filterMap _).trans (by rw[Ej])
theorem At.laid{es t}{mask finger moves:Nat}{led plain:Bool}(S:At w es t l)(hm:ma mask (δ l))(hl:δ l<=mask)(Uv:w.params.followText "set-order"=ε\/led=ε)(h0:δ l=0->mask=7):
  ∃t' order,SetTable.laid mask finger moves led plain (es.map (·.1))=γ (t',order)/\(order.filterMap (es[·]?)).size=es.size/\At w (order.filterMap (es[·]?)) t' l:=by
 obtain⟨h1,h2,h3⟩:=S.hashes;obtain⟨t',order,e,hp,Ut,hle,UZ,Wj,WS⟩:=Bm (finger:=finger) (moves:=moves) (led:=led) (plain:=plain) (h3▸hm) h1 h2;rw[GI]at hp Ut;have T7:=yJ hp;have hs:(order.filterMap (es[·]?)).size=es.size:=by have:=T7.length_eq;rwa[pH,pH]at this
 refine⟨t',order,e,hs,?_⟩;exact{
  ents:=λe he=>S.ents e (T7.mem_iff.mp he)
  nod:=(T7.map LE).nodup_iff.mpr S.nod
  mem:=λx=>by rw[(T7.map LE).mem_iff,S.mem]
  inc:=S.inc
  rng:=S.rng
  fits:=by simp only[SetTable.fits,SetTable.fill,Ut,hs,Wj,UZ,yc,yR,aS,TJ,true_and,decide_eq_true_eq];exists S.size,hl
  led:=by exists hle,Uv
  mask:=λq=>by simp only[SetTable.fill,Ut,S.size,Wj,yc,yR]at q;exists UZ,h0 q
  rise:=WS}
theorem yE{w:Nat}{n:Nat}(hw:w<64)(hn:2*n<=w):ma (sizeAbove w - 1) n/\n<=sizeAbove w - 1:=by
 rcases F_ w hw with⟨h,h'⟩|h|h|h
 ·exists h;exact⟨.inl ⟨rfl,by lia⟩,by lia⟩
 ·exists h;have:∀w<64,sizeAbove w=16->w<16:=by decide+kernel
  have:=this w hw h;exact⟨.inr (.inl TK),by exact κ (ED n (by decide)) (κ hn (gn this))⟩
 ·exists h;have:∀w<64,sizeAbove w=32->w<32:=by decide+kernel
  have:=this w hw h;exact⟨.inr (.inr (.inl TK)),by exact κ (ED n (by decide)) (κ hn (gn this))⟩
 ·exists h;exact⟨.inr (.inr (.inr TK)),by lia⟩
theorem Ar{es ep t}(ho:s.heap.get? a=γ o)(hx:o.ExactSet)(hd:o.data= .set es ep t)(F:At w es t l)(hw:wanted<64)(hn:2*δ l<=wanted)
  (h:∀h' o' es' U0 t',Heap.SameBut a s.heap h'->h'.get? a=γ o'->o'.ExactSet->o'.data= .set es' U0 t'->t'.mask=sizeAbove wanted - 1->t'.dummies=#[]->(δ l≠0->At w es' t' l)->(δ l=0->es'=#[]/\t'.place=#[])->(w.params.followText "set-order"=ε\/t'.led=ε)->Q () {s with heap:=h'}):
  τ (model prog w) A (setRelay a wanted) Q E s:=by
 unfold setRelay;refine θ (cX ho hd F.fits ?_);dsimp only;have hle:¬SetTable.sizeAbove wanted > kf:=by
  have:∀w<64,sizeAbove w<=64:=by decide+kernel
  have:=this wanted hw;exists lu,qt.mpr (κ this (by decide))
 exists TH hle;refine bL F.hashes λh1 h2 h3=>?_;refine on (yE hw hn) λhm hlen=>?_;obtain⟨t',order,e,hp,Ut,Uv,UZ,Wj,WS⟩:=Bm (finger:=t.finger) (moves:=t.movedTo (sizeAbove wanted - 1)) (led:=t.led) (plain:=t.plain) (h3▸hm) h1 h2;rw[GI]at hp Ut;have T7:=yJ hp;have hs:(order.filterMap (es[·]?)).size=es.size:=by have:=T7.length_eq;rwa[pH,pH]at this
 have e':t.relaid (es.map (·.1)) wanted=γ (t',order):=e;exists e';refine θ ?_;change τ _ _ (if((order.filterMap (es[·]?)).size != es.size)=ε then _ else _) _ _ _;exists TH (by simp[hs]);refine ο ?_;have hb:(order.filterMap (es[·]?)).size<=kf:=by exists hs,kW F.bound
 refine kU ho hd ?_ hb;refine h _ _ _ _ _ (Heap.SameBut.update s.heap a _) (vL ho hd) hx TK UZ Wj ?_ ?_ (by exists Uv,F.led)
 ·intro q;refine F.relay T7 ?_ Uv ?_ WS
  ·simp only[SetTable.fits,SetTable.fill,Ut,hs,Wj,UZ,yc,yR,aS,TJ,true_and,decide_eq_true_eq];exists F.size,hlen
  ·intro h0;simp only[SetTable.fill,Ut,F.size]at h0;exact absurd (ph h0) q
 ·intro q;have h0:es.size=0:=by exists F.size,ac q TK
  have hz:(order.filterMap (es[·]?)).size=0:=by exists hs,ac h0 TK
  exact⟨by simpa using hz,by rw[h0]at Ut;simpa using Ut⟩
theorem LD(h:∀x∈iO,∃l,ln w s.heap x l)(hq:Q ε s):τ (model prog w) A (setsQuiet iO) Q E s:=by
 unfold setsQuiet;refine θ (yd _ (λrest b s'=>b.1=η/\s'=s/\∀x∈rest,∃l,ln w s.heap x l) _ ?_ ?_ _ _ ⟨rfl,rfl,h⟩)
 ·rintro x rest b s' ⟨hb,rfl,hr⟩;obtain⟨l,o,ho,hx,es,ep,t,hd,F⟩:=hr x (.head _);refine θ (pI ho hd F.fits ?_);refine θ (MeetsSeq2.wpAny_forIn_array _ (λrest b' s''=>b'.1=η/\s''=s'/\∀e∈rest,∃i u,e=(aN i,Value.int i u)) _ ?_ ?_ _ _ ⟨rfl,rfl,F.ents⟩)
  ·rintro e rest' b' s'' ⟨Vv,rfl,VO⟩;obtain⟨i,u,rfl⟩:=VO e (by simp);exact ο ⟨rfl,rfl,λe he=>VO e (by simp[he])⟩
  ·rintro⟨b1,b2⟩ s'' ⟨Vv,rfl,_⟩;simp only at Vv;subst Vv;exact ο ⟨rfl,rfl,λx hx=>hr x (by simp[hx])⟩
 ·rintro⟨b1,b2⟩ s' ⟨hb,rfl,_⟩;simp only at hb;subst hb;exact ο hq
end
section
open SetTable
variable {prog:da}{w:aM}{A:ai}{E:ι->ν->Prop}{s:ν}{a b:υ}{l m:List Int}
def rO(es:Array (Int×ι)) (l:List Int):Prop:=(∀e∈es.toList,∃i u,e=(aN i,Value.int i u))/\(es.toList.map LE).Perm l
theorem At.walkOf{es es' t}(F:At w es t l)(p:es'.toList.Perm es.toList):rO es' l:=
 ⟨λe he=>F.ents e (p.mem_iff.mp he),(p.map LE).trans F.perm⟩
theorem At.flags{es t}(F:At w es t l)(led plain:Bool)(h:w.params.followText "set-order"=ε\/led=ε):At w es {t with led:=led,plain:=plain} l:=
 {F with led:=h}
theorem uR{others:List υ}{filled:Option υ}{Q:Array (Int×ι)->ν->Prop}(S:ln w s.heap a l)(ho:∀x∈others,∃l,ln w s.heap x l)(hf:∀f,filled=γ f->f≠a)
  (hfm:∀f,filled=γ f->f∈others)
  (h:∀es h' d,rO es l->(filled=η->h'=s.heap)->(∀f,filled=γ f->Heap.SameBut f s.heap h'/\∀l',ln w s.heap f l'->ln w h' f l')->Q es {s with heap:=h',drawn:=d}):
  τ (model prog w) A (setWalkUnseen a others filled) Q E s:=by
 obtain⟨o,hoo,hx,es,ep,t,hd,F⟩:=id S;have walks:τ (model prog w) A (setWalk a) Q E s:=
  NR hoo hd F λes' d p=>h es' s.heap d (F.walkOf p) (λ_=>rfl) (λf _=>⟨Heap.SameBut.refl _ _,λ_ k=>k⟩)
 refine θ (cX hoo hd F.fits ?_);refine θ (lE ?_);split
 ·exact walks
 ·rename_i hc;have hb:w.params.followText "set-order"=ζ:=by
   cases q:w.params.followText "set-order"
   ·rfl
   ·rw[q]at hc;simp at hc
  have hl:t.led=ε:=F.led.resolve_left (by exists hb;simp);refine θ (LD (by
   intro x hx';rcases ab.mp hx' with rfl|hx'
   ·exact⟨l,S⟩
   ·exact ho x hx') ?_)
  refine θ (dR ?_);induction filled with
  |none=>exact ο (h es s.heap s.drawn (F.walkOf (.refl _)) (λ_=>rfl) (λ_ e=>by exact pt e))
  |some f=>
   obtain⟨l',Xp⟩:=ho f (hfm f TK);obtain⟨o',ho',hx',es',U0,t',T9,F'⟩:=id Xp;refine θ (cX ho' T9 F'.fits ?_);dsimp only;split
   ·refine θ (kU ho' T9 ?_ (kW F'.bound));refine ο (h es _ s.drawn (F.walkOf (.refl _)) ?_ ?_)
    ·intro q;exact iE q
    ·rintro f' hq;simp only[jV]at hq;subst hq;refine⟨Heap.SameBut.update s.heap f _,?_⟩;rintro V9 ⟨o2,WA,YF,Wz,YG,t2,hd2,F2⟩;rw[ho']at WA;obtain rfl:=ω WA;rw[T9]at hd2;simp only[yy]at hd2;obtain⟨rfl,rfl,rfl⟩:=hd2;refine lI ho' hx' T9 (F2.flags _ _ ?_);rcases F2.led with q|q
     ·exact .inl q
     ·right;exists q;exists hl;rfl
   ·exact ο (h es s.heap s.drawn (F.walkOf (.refl _)) (λ_=>rfl) (λf _=>⟨Heap.SameBut.refl _ _,λ_ k=>k⟩))
theorem PZ{p n m:Nat}(h:p=n)(hn:n<=14)(hm:m<=14):(p+m)*2<64:=aR (dN 2 (g9 (κ (a5 h) hn) hm)) (by decide)
theorem NS{more:Nat}{Q:Unit->ν->Prop}{o:af}{es ep t}(ho:s.heap.get? a=γ o)(hx:o.ExactSet)(hd:o.data= .set es ep t)(F:At w es t l)(hm:more<=14)(Vf:0<more)
  (h:∀h' o' es' U0 t',Heap.SameBut a s.heap h'->h'.get? a=γ o'->o'.ExactSet->o'.data= .set es' U0 t'->t'.fits es'.size=ε->(w.params.followText "set-order"=ε\/t'.led=ε)->
   (t'.fill≠0->At w es' t' l)->(t'.fill=0->l=[]/\ma t'.mask more/\more<=t'.mask)->Q () {s with heap:=h'}):
  τ (model prog w) A (setRoomFor a more) Q E s:=by
 unfold setRoomFor;refine θ (cX ho hd F.fits ?_);dsimp only;unfold SetTable.roomFor;have Xq:t.place.size=δ l:=by have:=F.fits;simp only[SetTable.fits,aS,beq_iff_eq]at this;exists this.1,ac F.size TK
 split
 ·rename_i wanted hw;split at hw<;>simp only[jV,reduceCtorEq]at hw;subst hw;have hl:=F.len;refine Ar ho hx hd F (PZ Xq hl hm) (by rw[Xq,HH];exact dN 2 (ao _ _)) ?_;intro h' o' es' U0 t' hs ho' hx' T9 UZ Wj Um h0 Uv;obtain⟨m1,m2⟩:=yE (w:=(t.place.size+more)*2) (n:=more) (by lia) (by lia);by_cases q:δ l=0
  ·obtain⟨rfl,hp⟩:=h0 q;have WB:t'.fill=0:=(by simp[SetTable.fill,hp,Wj]);refine h h' o' _ U0 t' hs ho' hx' T9 ?_ Uv (λk=>absurd WB k) λ_=>⟨px.mp q,by exists UZ;exact m1,by exists UZ,m2⟩;simp[SetTable.fits,hp,WB]
  ·have F':=Um q;refine h h' o' es' U0 t' hs ho' hx' T9 F'.fits Uv (λ_=>F') λk=>?_;have hf:=F'.fits;simp only[SetTable.fits,aS,beq_iff_eq]at hf;simp only[SetTable.fill,hf.1,F'.size]at k;exact absurd (ph k) q
 ·rename_i hw;split at hw
  ·simp at hw
  rename_i hc;refine ο (h s.heap o es ep t (Heap.SameBut.refl _ _) ho hx hd F.fits F.led (λ_=>F) λk=>?_);have Za:=F.mask k;rw[k,Za]at hc;have YH:l=[]:=by simp only[SetTable.fill,Xq]at k;exact px.mp (by exact ph k)
  exact⟨YH,.inl ⟨Za,by lia⟩,by exists Za;lia⟩
theorem NT{each:aQ Unit}{was:Nat}{P:Ξ->Prop}(hP:∀h h',P h->Heap.SameBut a h h'->P h')
  (VP:∀(s':ν) (Q':Unit->ν->Prop),P s'.heap->Q' () s'->τ (model prog w) A each Q' E s')
  {f:(Int×ι)->PUnit->aQ (ForInStep PUnit)} (hf:∀h x u,f (h,x) u=(do let _ ←eB [x] (setAddHashed a x h);each;if(←setState b).2.1 != was then zb "set.changed-during-merge" else pure (.yield ⟨⟩)))
  (hb:∀(s':ν) (Q':_->ν->Prop),P s'.heap->(∀x:Array (Int×ι)×Nat×cO,x.2.1=was->Q' x s')->τ (model prog w) A (setState b) Q' E s'):
  ∀(es:List (Int×ι)) {s:ν} {l:List Int} {Q:PUnit->ν->Prop},(∀e∈es,∃i u,e=(aN i,Value.int i u))->(∀e∈es, -1<=LE e/\LE e<=12)->ln w s.heap a l->P s.heap->
   (∀h' l',Heap.SameBut a s.heap h'->ln w h' a l'->(∀x,x∈l'↔x∈l\/x∈es.map LE)->P h'->Q ⟨⟩ {s with heap:=h'})->τ (model prog w) A (forIn es lA f) Q E s:=by
 intro es;induction es with
 |nil=>intro s l Q h1 h2 S p h;exists k7,ο (h s.heap l (Heap.SameBut.refl _ _) S (λx=>⟨.inl,λh=>h.elim id λh=>nomatch h⟩) p)
 |cons e es ih=>
  intro s l Q h1 h2 S p h;obtain⟨i,u,rfl⟩:=h1 _ (tR ..);exists i9 ..;exists hf ..;refine θ (θ (aq (oh S (h2 _ (tR ..)) λh' k S'=>?_)));have p':=hP _ _ p k;refine θ (VP _ _ p' ?_);refine θ (hb _ _ p' λx hx=>?_);exists TH (by rw[hx,bne_self_eq_false];exact jU);refine ο ?_;refine ih (λe he=>h1 e (gj _ he)) (λe he=>h2 e (gj _ he)) S' p' λTY l' k' S'' hm p''=>?_;refine h TY l' (k.trans k') S'' (λx=>?_) p'';rw[hm,b6,bQ,ab];simp only[LE];constructor
  ·exact λh=>h.elim (λh=>h.elim (λh=>.inr (.inl h)) .inl) λh=>.inr (.inr h)
  ·exact λh=>h.elim (λh=>.inl (.inr h)) λh=>h.elim (λh=>.inl (.inl h)) .inr
theorem ln.to(S:ln w h a l)(hi:bj m)(e:∀x,x∈l↔x∈m):ln w h a m:=by obtain⟨o,ho,hx,es,ep,t,hd,F⟩:=S;exact⟨o,ho,hx,es,ep,t,hd,F.to hi e⟩
theorem ln.inc(S:ln w h a l):bj l:=by obtain⟨o,ho,hx,es,ep,t,hd,F⟩:=S;exact F.inc
theorem ln.rng(S:ln w h a l):∀x∈l, -1<=x/\x<=12:=by obtain⟨o,ho,hx,es,ep,t,hd,F⟩:=S;exact F.rng
theorem rO.rng{es}(W:rO es l)(S:ln w h a l):∀e∈es.toList, -1<=LE e/\LE e<=12:=
 λe he=>S.rng _ (W.2.mem_iff.mp (i7 he))
theorem As(S:ln w s.heap a l)(S':ln w s.heap b m)(UE:a≠b)
  (VP:∀(s':ν) (Q':Unit->ν->Prop),s'.heap.get? b=s.heap.get? b->Q' () s'->τ (model prog w) A each Q' E s')
  (h:∀h' d,Heap.SameBut a s.heap h'->ln w h' a (Re m l)->Q () {s with heap:=h',drawn:=d}):
  τ (model prog w) A (setMerge a b each) Q E s:=by
 obtain⟨o,ho,hx,es,ep,t,hd,F⟩:=id S;obtain⟨o',ho',hx',es',U0,t',T9,F'⟩:=id S';unfold setMerge;exists(TH λe=>UE (TM e));refine θ (cX ho' T9 F'.fits ?_);dsimp only;split
 ·rename_i he;have Wi:es'=#[]:=by simpa using he
  subst Wi;have hm:m=[]:=px.mp (by refine io F'.size ?_;rfl);subst hm;exact ο (h s.heap s.drawn (Heap.SameBut.refl _ _) S)
 rename_i he;have Vf:0<es'.size:=by
  rcases Fg es'.size with q|q
  ·exact absurd (by simpa using q) he
  ·exact q
 have Zb:=F'.len;have Ut:=F'.size;refine θ (NS ho hx hd F (κ (a5 Ut) Zb) Vf ?_);intro h1 o1 Us XB t1 UG Vb VQ V_ hf1 XC Zc WT;have Wk:h1.get? b=γ o':=by exists UG.2 b (aO UE),ho'
 refine θ (cX (s:={s with heap:=h1}) Vb V_ hf1 ?_);dsimp only;unfold SetTable.road;by_cases k:t1.fill=0
 ·obtain⟨rfl,hm1,hm2⟩:=WT k;have hk:¬((t1.fill != 0)=ε):=by simp[k]
  exists TH hk;have XD:w.params.followText "set-order"=ε\/(t1.led&&t'.led)=ε:=by
   rcases F'.led with q|q
   ·exact .inl q
   ·rcases XC with q'|q'
    ·exact .inl q'
    ·right;exists q;exists q';rfl
  have tom:∀{h'},ln w h' a m->ln w h' a (Re m []):=λS=>S.to (ji .nil) λx=>by rw[eg];simp
  by_cases hq:(t1.mask==t'.mask&&t'.dummies.isEmpty)=ε
  ·exists TG hq;dsimp only;refine kU (s:={s with heap:=h1}) Vb V_ ?_ (kW F'.bound);refine h _ s.drawn (UG.trans (Heap.SameBut.update _ a _)) (tom (lI Vb VQ V_ ?_));exact{F' with led:=XD,mask:=λq=>F'.mask q}
  ·exists TH hq;dsimp only;rw[Ut]at hm1 hm2;obtain⟨t2,order,e,hs,F2⟩:=F'.laid (mask:=t1.mask) (finger:=t1.finger) (moves:=t1.moves) (led:=t1.led&&t'.led) (plain:=t1.plain&&t'.plain) hm1 hm2 XD (λq=>by lia);exists e;refine θ ?_;change τ _ _ (if((order.filterMap (es'[·]?)).size != es'.size)=ε then _ else _) _ _ _;exists TH (by simp[hs]);refine ο ?_;refine kU (s:={s with heap:=h1}) Vb V_ ?_ (kW F2.bound);exact h _ s.drawn (UG.trans (Heap.SameBut.update _ a _)) (tom (lI Vb VQ V_ F2))
 ·have F1:=Zc k;exists TG (by simp[k]);dsimp only;have S1:ln w h1 a l:=⟨o1,Vb,VQ,Us,XB,t1,V_,F1⟩;have S1':ln w h1 b m:=⟨o',Wk,hx',es',U0,t',T9,F'⟩;refine θ (uR (s:={s with heap:=h1}) (others:=[a]) (filled:=γ a) S1' ?_ ?_ ?_ ?_)
  ·exact λx hx=>⟨l,Θ.mp hx▸S1⟩
  ·exact λf hf=>ω hf▸UE
  ·exact λf hf=>Θ.mpr (ω hf).symm
  intro ws h2 d hW YI WU;obtain⟨VI,WU⟩:=WU a TK;have S2:=WU l S1;have Zd:h2.get? b=γ o':=by exists VI.2 b (aO UE),Wk
  refine io xU ?_;refine θ (NT (a:=a) (b:=b) (was:=U0) (each:=each) (P:=λh=>h.get? b=γ o') ?_ ?_ (λh x u=>rfl) ?_ ws.toList hW.1 (hW.rng S1') (s:={s with heap:=h2,drawn:=d}) S2 Zd ?_)
  ·intro h h' p q;exists q.2 b (aO UE),p
  ·intro s' Q' p q;exact VP s' Q' (by exists p,ac ho' TK) q
  ·intro s' Q' p q;exact cX p T9 F'.fits (q _ TK)
  intro h3 l' hs3 S3 UC _;refine ο (h h3 d (UG.trans (VI.trans hs3)) (S3.to (ji F.inc) λx=>?_))
  ·rw[UC,eg,hW.2.mem_iff,or_comm]
end
section
open SetTable
variable {prog:da}{w:aM}{A:ai}{E:ι->ν->Prop}{s:ν}{a b:υ}{l m:List Int}
abbrev bu(h h':Ξ):Prop:=∀b o,h.get? b=γ o->h'.get? b=γ o
theorem lB(h:Ξ)(o:af):bu h (h.push o):=λ_ _ e=>Heap.get?_push_of_some o e
theorem e8(h:Ξ):h.get? h.objs.size=η:=by
 cases e:h.get? h.objs.size with
 |none=>rfl
 |some o=>exact absurd (Heap.lt_size e) (fS _)
theorem bu.but(p:bu h h')(hn:h.get? a=η)(k:Heap.SameBut a h' TY):bu h TY:=λb o e=>by exists k.2 b (λq=>by subst q;rw[hn]at e;exact pt e),p b o e
theorem uS(h:∀o,a_ w o []->o.isFreed=ζ->Q (.ref s.heap.objs.size) {s with heap:=s.heap.push o}):τ (model prog w) A (newSet (.type "set")) Q E s:=by unfold newSet;refine θ (lE ?_);exact θ (uD (ο (h _ ⟨⟨rfl,rfl,rfl⟩,_,_,_,rfl,At.fresh TK⟩ TK)))
theorem vg(S:ln w s.heap a l)(h:Q ε s):τ (model prog w) A (isInstance (.ref a) (.type "set")) Q E s:=
 pQ S.typeIs sub_set_self h
theorem gx(S:ln w s.heap a l)(h:Q ε s):τ (model prog w) A (kP (.ref a)) Q E s:=by unfold kP;exact θ (vg S (ο h))
theorem zL(S:ln w s.heap a l)(h:Q (.type "set") s):τ (model prog w) A (Ek a) Q E s:=by unfold Ek;refine θ (vg S ?_);exact ο h
theorem lJ{es ep t}(ho:s.heap.get? a=γ o)(hd:o.data= .set es ep t)(F:At w es t l)(h:Q ep s):τ (model prog w) A (setEpoch a) Q E s:=
 FD ho hd F.fits h
theorem h_(S:ln w s.heap a l)(h:Q (δ l) s):τ (model prog w) A (El a) Q E s:=by obtain⟨o,ho,hx,es,ep,t,hd,F⟩:=S;unfold El;exact θ (pI ho hd F.fits (ο (F.size▸h)))
theorem nh{id}{Q:Unit->ν->Prop}{o}{es ep t}(ho:s.heap.get? a=γ o)(hd:o.data= .set es ep t)(hf:t.fits es.size=ε)(h:Q () s):τ (model prog w) A (D8 id a ep) Q E s:=by unfold D8;refine θ (FD ho hd hf ?_);exists TH (by simp),ο h
theorem Bn(S:ln w s.heap a l)(h:∀h' d,bu s.heap h'->ln w h' s.heap.objs.size l->Q (.ref s.heap.objs.size) {s with heap:=h',drawn:=d}):
  τ (model prog w) A (xh a) Q E s:=by
 unfold xh;refine θ (zL S (θ (uS λo ho XE=>?_)));refine θ (ο (a:=s.heap.objs.size) ?_);have Um:s.heap.objs.size≠a:=by refine f4 S λo ho _=>?_;clear S;exact e7 (Heap.lt_size ho)
 have S1:ln w (s.heap.push o) s.heap.objs.size []:=⟨o,Heap.get?_push_size _ XE,ho⟩;have S2:ln w (s.heap.push o) a l:=S.keep λo' e=>Heap.get?_push_of_some _ e;refine θ (As (s:={s with heap:=s.heap.push o}) S1 S2 Um (λs' Q' _ q=>ο q) λh' d k S3=>?_);refine ο (h h' d ((lB _ _).but (e8 _) k) (S3.to S.inc λx=>?_));rw[eg];simp
theorem zM(S:ln w s.heap a l)(S':ln w s.heap b m)(UE:a≠b)(h:∀h' d,Heap.SameBut a s.heap h'->ln w h' a (Re m l)->Q () {s with heap:=h',drawn:=d}):
  τ (model prog w) A (tz idn a (.ref b)) Q E s:=by
 obtain⟨o',ho',hx',es',U0,t',T9,F'⟩:=id S';unfold tz;refine θ (gx S' ?_);refine θ (ο (a:=b) ?_);unfold Ew;refine θ (lJ ho' T9 F' ?_);refine As S S' UE ?_ h;intro s' Q' e q;exact nh (e.trans ho') T9 F'.fits q
end
section
open SetTable
variable {prog:da}{w:aM}{A:ai}{E:ι->ν->Prop}{s:ν}{a b:υ}{l m:List Int}
theorem Hk:nQ table "set.__or__"=γ Builtin.«frozenset.__or__»:=ug (id':="frozenset.__or__") (by kernel_rfl) TK (by decide+kernel) (by kernel_rfl)
theorem GX:nQ table "set.__sub__"=γ Builtin.«frozenset.__sub__»:=ug (id':="frozenset.__sub__") (by kernel_rfl) TK (by decide+kernel) (by kernel_rfl)
theorem Hl:nQ table "set.__ne__"=γ Builtin.«frozenset.__ne__»:=ug (id':="frozenset.__ne__") (by kernel_rfl) TK (by decide+kernel) (by kernel_rfl)
theorem Rw(S:ln w s.heap a l)(S':ln w s.heap b m)
  (h:∀h' d p,bu s.heap h'->s.heap.get? p=η->ln w h' p (Re l m)->Q (.ref p) {s with heap:=h',drawn:=d}):
  τ (model prog w) A (q8 .BitOr (.ref a) (.ref b)) Q E s:=by
 refine E2 (op:=.BitOr) S.typeIs S'.typeIs F.fills_set_or F.slot_set_or ?_;refine gp F.slot_set_or S.typeIs Hk ?_ (F.args_set_or_2 _ _);unfold Builtin.«frozenset.__or__»;refine θ (m:=tG "__or__" _) (ο ?_);dsimp only;simp only[jT,if_false];refine θ (m:=kP (.ref a) <&&> kP (.ref b)) (θ (gx S (gx S' ?_)));simp only[Bool.not_true,jT,if_false];refine θ (ο (a:=a) ?_);refine θ ?_;refine θ (m:=xh a) (Bn S λh' d k S1=>?_);have done:∀TY d',bu s.heap TY->ln w TY s.heap.objs.size (Re l m)->τ (model prog w) A.in1 (ret (.ref s.heap.objs.size)) (λfin s'=>∃v,fin= .done (.ret v)/\v≠.notImplemented/\Q v s') E {s with heap:=TY,drawn:=d'}:=by intro TY d' k' S2;exact ο ⟨_,rfl,by simp,h _ _ _ k' (e8 _) S2⟩
 have mem_lm:∀{p:υ} {TY:Ξ},ln w TY p (Re m l)->ln w TY p (Re l m):=λ{p TY} S2=>S2.to (ji S'.inc) λx=>by rw[eg,eg,or_comm]
 by_cases UE:b=a
 ·subst UE;simp only[bne_self_eq_false,jT,if_false];refine ο (done _ _ k (S1.to (ji S'.inc) λx=>?_));refine f4 (id S) λo ho _=>?_;have:l=m:=nU S.inc S'.inc λx=>by obtain⟨o1,Vb,VQ,Us,XB,t1,V_,F1⟩:=S;obtain⟨o2,WA,YF,Wz,YG,t2,hd2,F2⟩:=S';rw[Vb]at WA;obtain rfl:=ω WA;rw[V_]at hd2;simp only[yy]at hd2;obtain⟨rfl,rfl,rfl⟩:=hd2;rw[F1.mem,F2.mem]
  rw[eg,this];simp
 ·have Ze:(Value.ref b != Value.ref a)=ε:=by simpa using UE
  simp only[Ze,if_true];refine θ (ο (a:=s.heap.objs.size) ?_);have T6:s.heap.objs.size≠b:=by refine f4 S' λo ho _=>?_;clear S';exact e7 (Heap.lt_size ho)
  refine θ (aq (zM (s:={s with heap:=h',drawn:=d}) S1 (S'.keep λo e=>k _ o e) T6 λh2 d2 k2 S2=>?_));exact ο (done _ _ (k.but (e8 _) k2) (mem_lm S2))
theorem P6(S:ln w s.heap a l)(S':ln w s.heap b m)
  (h:∀h' d,Heap.SameBut a s.heap h'->ln w h' a (Re l m)->Q (.ref a) {s with heap:=h',drawn:=d}):
  τ (model prog w) A (nI .BitOr (.ref a) (.ref b)) Q E s:=by
 unfold nI;refine aq ?_;have WV:fillsInplaceSlot (.type "set") GJ.info.2 (GJ== .Add)=pure ε:=by refine(?_:(qu (.type "set") (dunderI "or") >>= λfi=>pure (fi.isSome&& !isSeqSlot fi))=pure ε);rw[yz.lookup];refine(?_:(pure _:aQ Bool)=_);congr 1
 refine θ (ll S.typeIs (θ (zc WV ?_)));refine θ (wpAny_tryMethod_slot (name:=dunderI "or") S.typeIs yz (gp yz S.typeIs F.entry_set_ior ?_ (F.args_set_ior_2 _ _)));unfold Builtin.«set.__ior__»;refine θ (m:=tG "__ior__" _) (ο ?_);dsimp only;refine θ (gx S' ?_);refine θ (ο (a:=a) ?_);have done:∀TY d',Heap.SameBut a s.heap TY->ln w TY a (Re l m)->τ (model prog w) A.in1 (ret (.ref a)) (λfin s'=>∃v,fin= .done (.ret v)/\v≠.notImplemented/\τ (model prog w) A (rule "augassign.inplace" >>= λ_=>pure v) Q E s') E {s with heap:=TY,drawn:=d'}:=by intro TY d' k' S2;exact ο ⟨_,rfl,by simp,θ (dR (ο (h _ _ k' S2)))⟩
 by_cases UE:a=b
 ·subst UE;have e:l=m:=nU S.inc S'.inc λx=>by obtain⟨o1,Vb,VQ,Us,XB,t1,V_,F1⟩:=S;obtain⟨o2,WA,YF,Wz,YG,t2,hd2,F2⟩:=S';rw[Vb]at WA;obtain rfl:=ω WA;rw[V_]at hd2;simp only[yy]at hd2;obtain⟨rfl,rfl,rfl⟩:=hd2;rw[F1.mem,F2.mem]
  subst e;obtain⟨o',ho',hx',es',U0,t',T9,F'⟩:=id S';unfold tz;refine θ ?_;refine θ (gx S' ?_);refine θ (ο (a:=a) ?_);unfold Ew;refine θ (lJ ho' T9 F' ?_);unfold setMerge;rw[TG (by simp)];exact ο (done _ s.drawn (Heap.SameBut.refl _ _) (S.to (ji S'.inc) λx=>by rw[eg];simp))
 ·refine θ (zM S S' UE λh2 d2 k2 S2=>done _ _ k2 (S2.to (ji S'.inc) λx=>?_));rw[eg,eg,or_comm]
end
section
open SetTable
variable {prog:da}{w:aM}{A:ai}{E:ι->ν->Prop}{s:ν}{a b:υ}{l m:List Int}
theorem Fq:isSubtype (.type "set") (.type "frozenset")=pure ζ:=by exists isSubtype_type ..;kernel_rfl
theorem Hm{Q:List (Int×ι)->ν->Prop}{o:af}{es ep t}(ho:s.heap.get? a=γ o)(hd:o.data= .set es ep t)(F:At w es t l)(S':ln w s.heap b m)(h:Q es.toList s):
  τ (model prog w) A (D7 a b) Q E s:=by
 obtain⟨o',ho',hx',es',U0,t',T9,F'⟩:=S';unfold D7;refine θ (pI ho hd F.fits ?_);refine θ (pI ho' T9 F'.fits ?_);refine θ (yd _ (λrest b s'=>b.1=η/\s'=s/\∀e∈rest,∃i u,e=(aN i,Value.int i u)) _ ?_ ?_ _ _ ⟨rfl,rfl,?_⟩)
 ·rintro e rest b s' ⟨hb,rfl,hr⟩;obtain⟨i,u,rfl⟩:=hr e (.head _);unfold Tv;refine θ (ο ?_);exact ο ⟨rfl,rfl,λe he=>hr e (by simp[he])⟩
 ·rintro⟨b1,b2⟩ s' ⟨hb,rfl,_⟩;simp only at hb;subst hb;exact ο h
 ·intro e he;rcases aw.mp he with he|he
  ·exact F.ents e he
  ·exact F'.ents e he
theorem Au{a b:Int}{l m:List Int}(hl:bj (a::l))(hm:bj (b::m))(h:∀x∈a::l,x∈b::m)(e:a≠b):∀x∈a::l,x∈m:=λx hx=>
 (ab.mp (h x hx)).resolve_left λk=>by
  have h1:=(bO.mp hm).1 a ((ab.mp (h a (.head _))).resolve_left e);rcases ab.mp hx with q|q
  ·exact e (q.symm.trans k)
  ·exact pZ _ (jb h1 (k▸(bO.mp hl).1 x q))
theorem IQ:∀{m l:List Int},bj l->bj m->(∀x∈l,x∈m)->δ l<=δ m:=by
 intro m;induction m with
 |nil=>
  intro l _ _ h;induction l using ar with
  |nil=>exact aJ _
  |cons a l=>exact nomatch h a (.head _)
 |cons b m ih=>
  intro l hl hm h;induction l using ar with
  |nil=>exact cN _
  |cons a l=>
   by_cases e:a=b
   ·subst e;exact bZ (ih (bO.mp hl).2 (bO.mp hm).2 (qQ hl h))
   ·exact eY (ih hl (bO.mp hm).2 (Au hl hm h e))
theorem IS:∀{m l:List Int},bj l->bj m->(∀x∈l,x∈m)->δ l=δ m->l=m:=by
 intro m;induction m with
 |nil=>exact λ_ _ _ hl=>px.mp hl
 |cons b m ih=>
  intro l hl hm h hn;induction l using ar with
  |nil=>exact nomatch hn
  |cons a l=>
   by_cases e:a=b
   ·subst e;exact TL (a::·) (ih (bO.mp hl).2 (bO.mp hm).2 (qQ hl h) (c7 hn))
   ·exact absurd (IQ hl (bO.mp hm).2 (Au hl hm h e)) (FT (kS (cY _) hn.symm))
theorem J7(S:ln w s.heap a l)(S':ln w s.heap b m)(hlen:δ l=δ m)(h:Q (l==m) s):τ (model prog w) A (Ec idn a b) Q E s:=by
 obtain⟨o,ho,hx,es,ep,t,hd,F⟩:=id S;have key:(∀x∈l,x∈m)->l=m:=λk=>IS F.inc S'.inc k hlen;unfold Ec;refine θ (h_ S (θ (h_ S' ?_)));exists TH (by exact hlen▸fS _);refine θ (lJ ho hd F ?_);refine θ (Hm ho hd F S' ?_);refine θ (cj (yd _ (λrest b' s'=>b'.1=η/\s'=s/\(∀e∈rest,∃i u,e=(aN i,Value.int i u))/\((∀x∈l,x∈m)↔∀e∈rest,LE e∈m)) (λb' s'=>s'=s/\match b'.1 with|none=>∀x∈l,x∈m|some v=>v=ζ/\¬∀x∈l,x∈m) ?_ ?_ _ _ ⟨rfl,rfl,F.ents,?_⟩) ?_ λ_ _ q=>q)
 ·rintro e rest b' s' ⟨hb,rfl,hr,U1⟩;obtain⟨i,u,rfl⟩:=hr e (.head _);refine θ (aq (vz S' ?_ ?_))
  ·intro hn;refine ο ⟨rfl,rfl,λk=>hn ?_⟩;exact U1.mp k _ (tR ..)
  ·intro hi j _ _ _ _ _ _ _ _ _;refine θ (nh ho hd F.fits ?_);refine ο ⟨rfl,rfl,λe he=>hr e (by simp[he]),U1.trans ?_⟩;simp only[ab,forall_eq_or_imp];exact⟨λk=>k.2,λk=>⟨hi,k⟩⟩
 ·rintro⟨b1,b2⟩ s' ⟨hb,rfl,_,U1⟩;simp only at hb;subst hb;exact⟨rfl,U1.mpr (by simp)⟩
 ·constructor
  ·intro k e he;exact k _ ((F.mem _).mpr (i7 he))
  ·intro k x hx;obtain⟨e,he,rfl⟩:=au.mp ((F.mem x).mp hx);exact k e he
 ·rintro⟨b1,b2⟩ s' ⟨rfl,hm⟩;induction b1 with
  |none=>dsimp only at hm ⊢;have:=key hm;rw[this]at h;simp only[TJ]at h;exact ο h
  |some v=>dsimp only at hm ⊢;obtain⟨rfl,hm⟩:=hm;have:(l==m)=ζ:=(by rw[TO];rintro rfl;exact hm λ_ k=>k);rw[this]at h;exact ο h
theorem Rx(hu:A.units<bK)(S:ln w s.heap a l)(S':ln w s.heap b m)(h:Q (.bool (l != m)) s):τ (model prog w) A (dw .NotEq (.ref a) (.ref b)) Q E s:=by
 show τ _ _ (richCompare .NotEq (.ref a) (.ref b)) _ _ _;refine wpAny_richCompare_same_room S.typeIs S'.typeIs F.slot_set_ne ?_ hu;refine gp F.slot_set_ne S.typeIs Hl ?_ (F.args_set_ne_2 _ _);unfold Builtin.«frozenset.__ne__»;refine θ (m:=tG "__ne__" _) (ο ?_);dsimp only;refine θ (gx S' ?_);refine θ (ο (a:=a) ?_);refine θ (ο (a:=b) ?_);refine θ (h_ S (θ (h_ S' ?_)));refine θ ?_;by_cases hl:δ l=δ m
 ·exists TH (by simp[hl]);refine θ (θ (pQ S.typeIs Fq (ο ?_)));refine J7 S S' hl ?_;exact ο ⟨_,rfl,by simp,h⟩
 ·exists TG (by simp[hl]);refine ο (ο ⟨_,rfl,by simp,?_⟩);have:(l != m)=ε:=by rw[TP];rintro rfl;exact hl TK
  rw[this]at h;exact h
end
section
open SetTable
variable {prog:da}{w:aM}{A:ai}{E:ι->ν->Prop}{s:ν}{a b:υ}{l m:List Int}
theorem yu(xs:Array α)(i:Nat):(eraseAt xs i).toList=xs.toList.take i++xs.toList.drop (i+1):=by simp[eraseAt,List.extract_eq_take_drop];rw[jQ];simp
theorem zg(h:xs[i]? =γ x):(x::(eraseAt xs i).toList).Perm xs.toList:=by
 exists yu ..;have hi:i<xs.size:=(xb.mp h).1;have hx:xs.toList[i]'(by simpa using hi)=x:=by have:=(xb.mp h).2;exact this
 have:xs.toList=xs.toList.take i++x::xs.toList.drop (i+1):=by
  conv=>lhs;rw[←xA i xs.toList,iX (by simpa using hi),hx]
 conv=>rhs;rw[this]
 exact FW.symm
theorem At.erase{es t}(F:At w es t l)(h:es[j]? =γ (aN i,.int i u)):At w (eraseAt es j) (t.drop j) (cu l [i]):=by
 have hp:=zg h;have hj:j<es.size:=(xb.mp h).1;have hf:=F.fits;simp only[SetTable.fits,aS,beq_iff_eq,decide_eq_true_eq]at hf;have hjp:j<t.place.size:=by exists hf.1,hj
 have hd:t.drop j={t with place:=eraseAt t.place j,dummies:=insertAt t.dummies (below t.dummies t.place[j]) t.place[j]}:=by unfold SetTable.drop;exists gi hjp,TK
 have Xq:(eraseAt t.place j).size+1=t.place.size:=by have:=(zg (gi hjp)).length_eq;simpa using this
 have TZ:(eraseAt es j).size+1=es.size:=by have:=hp.length_eq;simpa using this
 have Wa:(insertAt t.dummies (below t.dummies t.place[j]) t.place[j]).size=t.dummies.size+1:=by have:=(SetTable.insertAt_perm t.dummies (below t.dummies t.place[j]) t.place[j]).length_eq;simpa using this
 have Vy:=hp.map LE;have Wl:=Vy.nodup_iff.mpr F.nod;rw[bQ,dO]at Wl;have hk:LE (aN i,Value.int i u)=i:=rfl;rw[hk]at Wl;exact{
  ents:=λe he=>F.ents e (hp.mem_iff.mp (gj _ he))
  nod:=Wl.2
  mem:=λx=>by
   rw[jd,F.mem,←Vy.mem_iff,bQ,ab,hk,Θ];constructor
   ·rintro⟨h1|h1,h2⟩
    ·exact absurd h1 h2
    ·exact h1
   ·intro h1;exact⟨.inr h1,λq=>Wl.1 (q▸h1)⟩
  inc:=qw F.inc
  rng:=λx hx=>F.rng x (jd.mp hx).1
  fits:=by exists hd;simp only[SetTable.fits,SetTable.fill,Wa,aS,beq_iff_eq,decide_eq_true_eq]at hf ⊢;exact⟨c7 (Xq.trans (hf.1.trans TZ.symm)),κ (a5 (by rw[b4 t.dummies.size,←bP,Xq])) hf.2⟩
  led:=by exists hd,F.led
  mask:=λq=>by rw[hd]at q;simp only[SetTable.fill,Wa]at q;exact absurd q (t8 _)
  rise:=by
   exists hd;unfold WP;exists yu ..;refine xx ?_ F.rise;have:t.place.toList=t.place.toList.take j++t.place.toList.drop j:=(xA _ _).symm
   conv=>rhs;rw[this]
   refine List.Sublist.append (List.Sublist.refl _) ?_;rw[←GK];exact xX _ _}
theorem IT(S:ln w s.heap a l)(h:∀h' r,Heap.SameBut a s.heap h'->ln w h' a (cu l [i])->Q r {s with heap:=h'}):
  τ (model prog w) A (FX a (.int i u) (aN i)) Q E s:=by
 unfold FX;refine θ (vz S ?_ ?_)
 ·intro hn;refine ο (h s.heap ζ (Heap.SameBut.refl _ _) (S.to (qw S.inc) λx=>?_));rw[jd,Θ];exact⟨λk=>⟨k,λq=>hn (q▸k)⟩,λk=>k.1⟩
 ·intro hi j o es ep t ho hx hd F ⟨v,he⟩;refine θ (cX ho hd F.fits ?_);have F':=F.erase he;refine θ (kU ho hd ?_ (kW F'.bound));exact θ (wpAny_point (ο (h _ ε (Heap.SameBut.update _ a _) (lI ho hx hd F'))))
theorem NU(S:ln w s.heap a l)(h:∀h',Heap.SameBut a s.heap h'->ln w h' a l->Q () {s with heap:=h'}):τ (model prog w) A (setTidy a) Q E s:=by
 obtain⟨o,ho,hx,es,ep,t,hd,F⟩:=id S;refine θ (cX ho hd F.fits ?_);dsimp only;split
 ·have hl:=F.len;have hg:SetTable.grown es.size=δ l*4:=by unfold SetTable.grown;exists F.size,ac (TH (by exact qt.mpr (κ hl (by decide)))) TK
  exists hg;refine Ar ho hx hd F (by exact aR (dN 4 hl) (by decide)) (by exact HH 2 _▸d8 _ (by decide)) λh' o' es' U0 t' k ho' hx' T9 UZ Wj Um h0 Uv=>?_;refine h h' k ⟨o',ho',hx',es',U0,t',T9,?_⟩;by_cases q:δ l=0
  ·obtain⟨rfl,hp⟩:=h0 q;obtain rfl:=px.mp q;have hm7:t'.mask=7:=(by exists UZ;rfl);exact{
    ents:=λe he=>by simp at he
    nod:=by exact(by decide)
    mem:=λx=>by simp
    inc:=.nil
    rng:=λx hx=>by simp at hx
    fits:=by simp[SetTable.fits,SetTable.fill,hp,Wj]
    led:=Uv
    mask:=λ_=>hm7
    rise:=by simp[WP,hp]}
  ·exact Um q
 ·exact ο (h s.heap (Heap.SameBut.refl _ _) S)
theorem LF{P:Ξ->Prop}{f:(Int×ι)->PUnit->aQ (ForInStep PUnit)}{Q:PUnit->ν->Prop}(hP:∀h h',P h->Heap.SameBut a h h'->P h')
  (turn:∀(i:Int) (u:aZ) (s':ν) (l':List Int) (Q':ForInStep PUnit->ν->Prop),P s'.heap->ln w s'.heap a l'->(∀TY,Heap.SameBut a s'.heap TY->ln w TY a (cu l' [i])->Q' (.yield ⟨⟩) {s' with heap:=TY})->τ (model prog w) A (f (aN i,.int i u) ⟨⟩) Q' E s'):
  ∀{ws:List (Int×ι)} {s:ν} {l':List Int},P s.heap->ln w s.heap a l'->(∀e∈ws,∃i u,e=(aN i,Value.int i u))->
   (∀h' V9,Heap.SameBut a s.heap h'->ln w h' a V9->(∀x,x∈V9↔x∈l'/\¬x∈ws.map LE)->Q ⟨⟩ {s with heap:=h'})->τ (model prog w) A (forIn ws lA f) Q E s:=by
 intro ws;induction ws with
 |nil=>intro s l' hp S _ k;rw[k7];exact ο (k s.heap l' (.refl _ _) S λx=>⟨λh=>⟨h,λh=>nomatch h⟩,λh=>h.1⟩)
 |cons e ws ih=>intro s l' hp S hr k;obtain⟨i,u,rfl⟩:=hr _ (.head _);rw[i9];refine θ (turn i u s l' _ hp S λTY sb S2=>?_);refine ih (s:={s with heap:=TY}) (hP _ _ hp sb) S2 (λe he=>hr e (.tail _ he)) λh3 l3 Zf S3 Zg=>k h3 l3 (sb.trans Zf) S3 λx=>?_;rw[Zg,jd,Θ,bQ,ab,not_or,and_assoc];rfl
theorem GY(S:ln w s.heap a l)(S':ln w s.heap b m)(UE:a≠b)(hlen:δ m / 8<=δ l)
  (h:∀h' d,Heap.SameBut a s.heap h'->ln w h' a (cu l m)->Q () {s with heap:=h',drawn:=d}):
  τ (model prog w) A (D3 idn a (.ref b)) Q E s:=by
 obtain⟨o',ho',hx',es',U0,t',T9,F'⟩:=id S';unfold D3;exists TH (by simpa using aO UE);refine θ (gx S' ?_);refine θ (ο (a:=b) ?_);refine θ (h_ S' (θ (h_ S ?_)));exists TH (by exact qt.mpr hlen);refine θ (lJ ho' T9 F' ?_);refine θ (aq ?_);refine θ (uR (others:=[a]) (filled:=η) S' ?_ (λ_ e=>by exact pt e) (λ_ e=>by exact pt e) ?_)
 ·intro x hx;replace hx:=Θ.mp hx;subst hx;exact⟨l,S⟩
 intro ws h2 d hW e2 _;obtain rfl:=e2 TK;refine io xU ?_;refine θ (LF (P:=λh=>h.get? b=γ o') (λh h' p sb=>(sb.2 b (aO UE)).trans p) (λi u s' l' Q' p S1 fin=>?_) (s:={s with heap:=s.heap,drawn:=d}) ho' S hW.1 λh' l' k S1 U1=>?_)
 ·refine θ (aq (IT S1 λTY r k' S2=>?_));refine θ (nh (o:=o') (es:=es') (t:=t') ((k'.2 b (aO UE)).trans p) T9 F'.fits ?_);exact ο (fin TY k' S2)
 ·refine ο (NU (s:={s with heap:=h',drawn:=d}) S1 λTY k' S2=>?_);exact h TY d (k.trans k') (S2.to (qw S.inc) λx=>by rw[jd,U1,hW.2.mem_iff])
end
section
open SetTable
variable {prog:da}{w:aM}{A:ai}{E:ι->ν->Prop}{s:ν}{a b:υ}{l m:List Int}
theorem NV{p oa:_}{f:(Int×ι)->PUnit->aQ (ForInStep PUnit)}{Q:PUnit->ν->Prop}(hpa:a≠p)(hpb:b≠p)
  (turn:∀(i:Int) (u:aZ) (s':ν) (l':List Int) (Q':ForInStep PUnit->ν->Prop),s'.heap.get? a=γ oa->ln w s'.heap b m->ln w s'.heap p l'-> -1<=i/\i<=12->
   (∀TY V9,Heap.SameBut p s'.heap TY->ln w TY p V9->(∀x,x∈V9↔x∈l'\/x=i/\¬x∈m)->Q' (.yield ⟨⟩) {s' with heap:=TY})->τ (model prog w) A (f (aN i,.int i u) ⟨⟩) Q' E s'):
  ∀{ws:List (Int×ι)} {s:ν} {l':List Int},s.heap.get? a=γ oa->ln w s.heap b m->ln w s.heap p l'->(∀e∈ws,(∃i u,e=(aN i,Value.int i u))/\ -1<=LE e/\LE e<=12)->
   (∀h' V9,Heap.SameBut p s.heap h'->ln w h' p V9->(∀x,x∈V9↔x∈l'\/x∈ws.map LE/\¬x∈m)->Q ⟨⟩ {s with heap:=h'})->τ (model prog w) A (forIn ws lA f) Q E s:=by
 intro ws;induction ws with
 |nil=>intro s l' ha hb hp _ k;rw[k7];exact ο (k s.heap l' (.refl _ _) hp λx=>⟨.inl,λh=>h.elim id λh=>nomatch h.1⟩)
 |cons e ws ih=>intro s l' ha hb hp hr k;obtain⟨⟨i,u,rfl⟩,hi⟩:=hr _ (.head _);rw[i9];refine θ (turn i u s l' _ ha hb hp hi λTY V9 sb S hm=>?_);refine ih (s:={s with heap:=TY}) ((sb.2 a hpa).trans ha) (hb.keep λo' e=>(sb.2 b hpb).trans e) S (λe he=>hr e (.tail _ he)) λh3 l3 Zf S3 Zg=>k h3 l3 (sb.trans Zf) S3 λx=>?_;rw[Zg,hm,bQ,ab,or_assoc,←or_and_right];rfl
theorem P7(S:ln w s.heap a l)(S':ln w s.heap b m)
  (h:∀h' d p,bu s.heap h'->s.heap.get? p=η->ln w h' p (cu l m)->Q (.ref p) {s with heap:=h',drawn:=d}):
  τ (model prog w) A (q8 .Sub (.ref a) (.ref b)) Q E s:=by
 refine E2 (op:=.Sub) S.typeIs S'.typeIs F.fills_set_sub GN ?_;refine gp GN S.typeIs GX ?_ (F.args_set_sub_2 _ _);unfold Builtin.«frozenset.__sub__»;refine θ (m:=tG "__sub__" _) (ο ?_);refine θ (m:=kP (.ref a) <&&> kP (.ref b)) (θ (gx S (gx S' ?_)));refine θ (ο (a:=a) ?_);have done:∀TY d',bu s.heap TY->ln w TY s.heap.objs.size (cu l m)->τ (model prog w) A.in1 (ret (.ref s.heap.objs.size)) (λfin s'=>∃v,fin= .done (.ret v)/\v≠.notImplemented/\Q v s') E {s with heap:=TY,drawn:=d'}:=by intro TY d' k' S2;exact ο ⟨_,rfl,by simp,h _ _ _ k' (e8 _) S2⟩
 have YJ:s.heap.objs.size≠a:=by refine f4 S λo ho _=>?_;clear S;exact e7 (Heap.lt_size ho)
 have WC:s.heap.objs.size≠b:=by refine f4 S' λo ho _=>?_;clear S';exact e7 (Heap.lt_size ho)
 refine θ ?_;unfold Tn;refine θ (gx S' ?_);refine θ (ο (a:=b) ?_);refine θ (h_ S' ?_);refine θ (h_ S ?_);by_cases Vh:δ l / 4 > δ m
 ·exists TG Vh;refine θ (dR ?_);refine θ (Bn S λh1 d1 k1 S1=>?_);refine θ (ο (a:=s.heap.objs.size) ?_);refine θ (aq ?_);refine GY (s:={s with heap:=h1,drawn:=d1}) S1 (S'.keep λo e=>k1 _ o e) WC (by exact κ (Gm _ _) (gr (bp Vh (Gm _ _)))) λh2 d2 k2 S2=>?_;exact ο (done _ _ (k1.but (e8 _) k2) S2)
 ·exists TH Vh;refine θ (zL S (θ (uS λo ho XE=>?_)));refine θ (ο (a:=s.heap.objs.size) ?_);have S0:ln w (s.heap.push o) s.heap.objs.size []:=⟨o,Heap.get?_push_size _ XE,ho⟩;have Sa:ln w (s.heap.push o) a l:=S.keep λo' e=>Heap.get?_push_of_some _ e;have Sb:ln w (s.heap.push o) b m:=S'.keep λo' e=>Heap.get?_push_of_some _ e;obtain⟨oa,hoa,hxa,esa,epa,ta,XF,Fa⟩:=id Sa;refine θ (lJ (s:={s with heap:=s.heap.push o}) hoa XF Fa ?_);refine θ (aq ?_);refine θ (uR (s:={s with heap:=s.heap.push o}) (others:=[b,s.heap.objs.size]) (filled:=γ s.heap.objs.size) Sa ?_ ?_ ?_ ?_)
  ·intro x hx;simp only[ab,t9,or_false]at hx;rcases hx with rfl|rfl
   ·exact⟨m,Sb⟩
   ·exact⟨[],S0⟩
  ·intro f hf;replace hf:=ω hf;subst hf;exact YJ
  ·intro f hf;replace hf:=ω hf;subst hf;exact(.tail _ (.head _))
  intro ws h2 d hW _ YI;refine on (YI _ TK) λk2 WU=>?_;have S2:=WU [] S0;refine io xU ?_;have Zh:=hW.rng Sa;refine θ (NV (p:=s.heap.objs.size) (oa:=oa) (a:=a) (b:=b) (m:=m) (aO YJ) (aO WC) (λi u s' l' Q' ha hb hp WW fin=>?_) (s:={s with heap:=h2,drawn:=d}) ((k2.2 a (aO YJ)).trans hoa) (Sb.keep λo' e=>(k2.2 b (aO WC)).trans e) S2 (λe he=>⟨hW.1 e he,Zh e he⟩) λh' l' k S3 U1=>?_)
  ·refine θ (aq ?_);refine θ (vz hb (λhn=>?_) λhi j _ _ _ _ _ _ _ _ _=>?_)
   ·refine θ (ο ?_);refine θ (oh hp WW λTY k' S4=>?_);refine ο ?_;refine θ (nh (o:=oa) (es:=esa) (t:=ta) ((k'.2 a (aO YJ)).trans ha) XF Fa.fits ?_);exact ο (fin TY _ k' S4 λx=>b6.trans ⟨λq=>q.elim (λe=>.inr ⟨e,e▸hn⟩) .inl,λq=>q.elim .inr λq=>.inl q.1⟩)
   ·refine θ (ο ?_);refine ο ?_;refine θ (nh (o:=oa) (es:=esa) (t:=ta) ha XF Fa.fits ?_);exact ο (fin s'.heap l' (.refl _ _) hp λx=>⟨.inl,λq=>q.elim id λq=>absurd (q.1▸hi) q.2⟩)
  ·refine ο (ο (done h' d ((lB _ _).but (e8 _) (k2.trans k)) (S3.to (qw S.inc) λx=>?_)));rw[jd,U1,hW.2.mem_iff];exact⟨λh=>h.elim (λh=>nomatch h) id,λh=>.inr h⟩
end
section
open SetTable
variable {prog:da}{w:aM}{A:ai}{E:ι->ν->Prop}{s:ν}{a b:υ}{l m:List Int}
noncomputable def eh(w:aM):af:={cls:=.type "set",dict:=η,data:=.set #[] 0 (.fresh 0 0 (!w.params.followText "set-order"))}
theorem yY(w:aM):a_ w (eh w) []:=⟨⟨rfl,rfl,rfl⟩,_,_,_,rfl,At.fresh TK⟩
theorem NW{R:Result->ν->Prop}{S I lst:υ}{items:Array ι}{ns:List Int}(h1:S≠I)(h2:S≠lst)(h3:I≠lst)(hi:cP items.toList ns)(hr:∀x∈ns, -1<=x/\x<=12)(hh:A.handled=η):
  ∀(k i:Nat) (s:ν) (l:List Int),items.size - i=k->i<=items.size->s.heap.IsListIter I lst i->s.heap.IsList lst items->ln w s.heap S l->
   (∀s' l',s'.gens=s.gens->s'.os=s.os->(∀b o,b≠S->b≠I->s.heap.get? b=γ o->s'.heap.get? b=γ o)->ln w s'.heap S l'->(∀x,x∈l'↔x∈l\/x∈ns.drop i)->R (.ok (.ret .none)) s')->
   gC (model prog w) A (.builtin "set.update.loop" ⟨[.ref S,.ref I],[]⟩) R s:=by
 have hlen:items.size=δ ns:=by have:=hi.length;simpa using this
 intro k;induction k with
 |zero=>intro i s l hk U2 hit hl hS hR;refine i_ Ex ?_;exists Around.under_plainId xk _;refine(?_:τ _ A.in1 (mq (.ref I) >>= _) _ _ s);refine θ (xB (by simp[hh]) hit hl (tI (pB hk)) λh' hb=>?_);show τ _ A.in1 (ret Value.none) _ _ {s with heap:=h'};refine ο (hR {s with heap:=h'} l TK TK (λb o _ n e=>hb b o n e) (hS.keep λo e=>hb _ o h1 e) λx=>?_);refine ac (mY (hlen▸pB hk)) ⟨.inl,λh=>h.elim id λh=>nomatch h⟩
 |succ k ih=>
  intro i s l hk U2 hit hl hS hR;have T6:i<items.size:=EF hk;have XG:i<δ ns:=hlen▸T6;refine i_ Ex ?_;exists Around.under_plainId xk _;refine(?_:τ _ A.in1 (mq (.ref I) >>= _) _ _ s);refine θ (xp hit hl (gi T6) λh' XH hb=>?_);refine SZ (hi.int_at i items[i] (by simp[T6])) λt ht=>?_;have Wb:ns.getD i 0=ns[i]:=by rw[List.getD_eq_getElem?_getD,ag XG];rfl
  exists ht;have Vj:h'.IsList lst items:=by refine f4 hl λo ho r=>?_;clear hl;exact⟨o,by exists hb.2 lst (aO h3);exact ho,r⟩
  have Xp:ln w h' S l:=hS.keep λo e=>by exists hb.2 S h1,e
  refine(?_:τ _ A.in1 (eB [Value.int (ns.getD i 0) t] (setAdd S (.int (ns.getD i 0) t)) >>= _) _ _ _);refine θ (aq ?_);refine aq ?_;refine θ ((aH prog w).pyHash (k:=ns.getD i 0) (zE _ _ _ _) ?_);have WW: -1<=ns.getD i 0/\ns.getD i 0<=12:=by exists Wb,hr _ (m_ _)
  refine oh (s:={s with heap:=h',toks:=s.toks+1}) Xp WW λTY Vv WU=>?_;refine ο ⟨p5 xk _,ih (i+1) _ _ (TL Nat.pred hk) ‹_› ?_ ?_ WU λs' l' g1 g2 g3 g4 g5=>?_⟩
  ·refine f4 XH λo ho r=>?_;clear XH;exact⟨o,by exists Vv.2 I (aO h1);exact ho,r⟩
  ·refine f4 Vj λo ho r=>?_;clear Vj;exact⟨o,by exists Vv.2 lst (aO h2);exact ho,r⟩
  ·refine hR s' l' g1 g2 (λb o n1 n2 e=>g3 b o n1 n2 ?_) g4 λx=>?_
   ·exists Vv.2 b n1;exists hb.2 b n2,e
   ·rw[g5,b6,iX XG,ab,←Wb];exact⟨λh=>h.elim (λh=>h.elim (λh=>.inr (.inl h)) .inl) λh=>.inr (.inr h),λh=>h.elim (λh=>.inl (.inr h)) λh=>h.elim (λh=>.inl (.inl h)) .inr⟩
theorem Av(rest:List ι)(hck:ye "set.__new__" ⟨.type "set"::rest,[]⟩=pure ()){Q₁:ι->ν->Prop}
  (h:Q₁ (.ref s.heap.objs.size) {s with heap:=s.heap.push (eh w)}):
  gC (model prog w) A (.call (.builtin "set.__new__") ⟨.type "set"::rest,[]⟩) (wants Q₁ E) s:=by
 refine yk ?_;refine(?_:τ _ A.in1 (do ye "set.__new__" ⟨.type "set"::rest,[]⟩;again (.builtin "set.__new__" ⟨.type "set"::rest,[]⟩)) _ _ s);refine θ (zc hck (ο ⟨p5 Gn _,i_ F.entry_set_new ?_⟩));exists Around.under_plainId Gn _;unfold Builtin.«set.__new__» Tq;have Vz:=sub_set_self;obtain⟨hp,g,d,tk,os⟩:=s
 wp_walk
 refine kZ (ο ?_);refine θ (uD (ο ?_));exact ο h
theorem qa(h:Ξ):(h.push (eh w)).get? h.objs.size=γ (eh w):=Heap.get?_push_size _ TK
theorem k9(s:ν):Shared.TypeIs {s with heap:=s.heap.push (eh w)} (.ref s.heap.objs.size) "set":=⟨_,qa _,rfl⟩
theorem yK{T newId Vk:String}{Bi:Builtin}{args:List ι}{Q Q₁:ι->ν->Prop}(ft:TypeCalled T newId Vk)
  (hct:checkTypeCall T ⟨args,[]⟩=pure ()) (WX:nQ table Vk=γ Bi)
  (VA:gC (model prog w) A.in1 (.call (.builtin newId) ⟨.type T::args,[]⟩) (wants Q₁ E) s)
  (XI:∀obj s₁,Q₁ obj s₁->s₁.TypeIs obj T/\
   τ (model prog w) A.in1.in1 (ye Vk ⟨obj::args,[]⟩) (λ_ s₁=>τ (model prog w) A.in1.in1 (Bi ⟨obj::args,[]⟩)
    (λfin s'=>match fin with|.done f=>wants (λr TV=>r= .none/\Q obj TV) E (.ok f) s'|.again c'=>c'.quiet=ε/\gC (model prog w) A.in1 c' (wants (λr TV=>r= .none/\Q obj TV) E) s')
    (λe s'=>wants (λr TV=>r= .none/\Q obj TV) E (.error e) s') s₁) (λe s'=>wants (λr TV=>r= .none/\Q obj TV) E (.error e) s') s₁):
  τ (model prog w) A (call (.type T) args) Q E s:=by
 refine wF ft.mro λc tl hmro=>?_;have hmade:=ft.made;have Vz:=ft.sub;refine zF (yk ?_);refine(?_:τ _ _ (callAny (.type T) _) _ _ _);refine ο ⟨Code.quiet_builtin _ (by decide+kernel),i_ F.entry_type_call ?_⟩;exists Around.under_plain (weight_type_call_type T args []) TK;have h1:=ft.notType;have h2:=ft.canCreate
 repeat (any_goals (first|assumption|wp_step))
 refine qc VA λr s₁ hr=>?_;induction r with
 |error e=>exact hr
 |ok fl=>
  induction fl with
  |ret obj=>
   refine on (XI _ _ hr) λhT hsi=>?_;have hli:=ft.init.lookup;have hbi:=ft.init.bind obj
   repeat (any_goals (first|assumption|wp_step))
   refine qc (codeAny_call_builtin ft.init.plain WX hsi) λZi TV VR=>?_;induction Zi with
   |error e=>exact VR
   |ok XJ=>
    induction XJ with
    |ret r=>
     obtain⟨rfl,hq⟩:=VR
     repeat (any_goals (first|assumption|wp_step))
    |_=>exact VR.elim
  |_=>exact hr.elim
theorem zh{es ep t}(ho:s.heap.get? a=γ o)(hd:o.data= .set es ep t)(hf:t.fits es.size=ε)(h:Q (t.fill != 0) s):τ (model prog w) A (setUsed a) Q E s:=by unfold setUsed;exact θ (cX ho hd hf (ο h))
theorem yZ(hT:s.TypeIs (.ref a) "set")(h:∀x,Q x s):τ (model prog w) A (typeNameOfCut n (.ref a)) Q E s:=by refine θ (θ (ll hT ?_));refine ο ?_;exists show typeNameCut n (.type "set")=typeName (.type "set")from rfl;have:∃x,typeName (.type "set")=pure x:=⟨_,rfl⟩;refine SZ this λx e=>?_;clear this;exists e,ο (h x)
theorem NX(h:Q (.ref s.heap.objs.size) {s with heap:=s.heap.push (eh w)}):
  τ (model prog w) A (call (.type "set") []) Q E s:=by
 refine yK F.called_set F.typeCall_set_0 FY (Av [] F.newCall_set_0 (Q₁:=λobj s₁=>obj= .ref s.heap.objs.size/\s₁={s with heap:=s.heap.push (eh w)}) ⟨rfl,rfl⟩) ?_;rintro obj s₁ ⟨rfl,rfl⟩;refine⟨k9 s,check_set_init (k9 s) ?_⟩;unfold Builtin.«set.__init__»;refine θ (m:=noKeywords "set" _) (ο ?_);dsimp only;refine θ (yZ (k9 s) λx=>?_);refine θ (m:=checkCount x 0 1 0) (ο ?_);refine θ (ο (a:=s.heap.objs.size) ?_);refine θ (zh (qa _) TK TK ?_);exists TH (by simp[SetTable.fill,SetTable.fresh]),ο ⟨rfl,h⟩
theorem IU(hh:A.handled=η)(hl:s.heap.IsList lst items)(hi:cP items.toList ns)(hr:∀x∈ns, -1<=x/\x<=12)
  (h:∀h' tk d,bu s.heap h'->ln w h' s.heap.objs.size (ofL ns)->Q (.ref s.heap.objs.size) {s with heap:=h',toks:=tk,drawn:=d}):
  τ (model prog w) A (call (.type "set") [.ref lst]) Q E s:=by
 refine yK F.called_set (F.typeCall_set_1 _) FY (Av [.ref lst] (F.newCall_set_1 _) (Q₁:=λobj s₁=>obj= .ref s.heap.objs.size/\s₁={s with heap:=s.heap.push (eh w)}) ⟨rfl,rfl⟩) ?_;rintro obj s₁ ⟨rfl,rfl⟩;refine⟨k9 s,check_set_init_1 (k9 s) ?_⟩;have hS:=qa (w:=w) s.heap;have VJ:(s.heap.push (eh w)).IsList lst items:=by refine f4 hl λo ho r=>?_;clear hl;exact⟨o,Heap.get?_push_of_some _ ho,r⟩
 have hS0:ln w (s.heap.push (eh w)) s.heap.objs.size []:=⟨_,hS,yY w⟩;have hlS:lst<s.heap.objs.size:=by refine f4 hl λo ho _=>?_;clear hl;exact Heap.lt_size ho
 have hT:Shared.TypeIs {s with heap:=s.heap.push (eh w)} (.ref lst) "list":=VJ.typeIs;unfold Builtin.«set.__init__»;refine θ (m:=noKeywords "set" _) (ο ?_);dsimp only;refine θ (yZ (k9 s) λx=>?_);refine θ (m:=checkCount x 0 1 1) (ο ?_);refine θ (ο (a:=s.heap.objs.size) ?_);refine θ (zh (qa _) TK TK ?_);exists TH (by simp[SetTable.fill,SetTable.fresh]);refine θ ?_;unfold tz;refine θ ?_;unfold kP;refine θ (pQ hT F.sub_list_set ?_);refine pQ hT F.sub_list_frozenset ?_;refine θ (ll hT ?_);exists TH (by decide);refine θ (tV VJ ?_);refine θ (yA ?_);have hh3:A.in1.in1.handled=η:=by simp[hh]
 refine NW (items:=items) (ns:=ns) (lst:=lst) (w:=w) (s:={s with heap:=(s.heap.push (eh w)).push {cls:=.type "list_iterator",data:=.fields #[.ref lst,.int 0 0]}}) ?_ (e7 hlS) ?_ hi hr hh3 items.size 0 [] (by rfl) (cN _) ⟨_,Heap.get?_push_size _ TK,rfl,rfl⟩ (VJ.push _) (hS0.keep λo e=>Heap.get?_push_of_some _ e) ?_
 ·exists Heap.size_push ..,fT (cY _)
 ·exists Heap.size_push ..,e7 (kX hlS)
 ·intro s' l' g1 g2 g3 g4 g5;obtain⟨h',g',d',tk',YK⟩:=s';simp only at g1 g2;subst g1;subst g2;refine ο ?_;show τ _ _ (ret Value.none) _ _ _;refine ο ⟨rfl,h h' tk' d' (λb o e=>?_) (g4.to NP λx=>by rw[g5,vy];simp)⟩;have hb:=Heap.lt_size e;refine g3 b o (fT hb) ?_ (Heap.get?_push_of_some _ (Heap.get?_push_of_some _ e));exists Heap.size_push ..,fT (kX hb)
theorem J8(S:ln w s.heap a l)(hi: -1<=i/\i<=12)(h:∀h' t,Heap.SameBut a s.heap h'->ln w h' a (NE i l)->Q .none {s with heap:=h',toks:=t}):
  τ (model prog w) A (call (.builtin "set.add") [.ref a,.int i u]) Q E s:=by
 refine gp GO S.typeIs F.entry_set_add ?_ (F.args_set_add_2 _ _);unfold Builtin.«set.add» Tr;simp only[List.isEmpty_nil,bind_assoc];unfold Tx setAdd;refine θ (ο ?_)
 try dsimp only
 refine θ (ο ?_)
 try dsimp only
 refine θ (aq ?_);refine θ ((aH prog w).pyHash (k:=i) (zE _ _ _ _) ?_);refine oh (s:={s with toks:=s.toks+1}) S hi λh' k S'=>?_;show τ _ _ (ret Value.none) _ _ _;exact ο ⟨_,rfl,h h' _ k S'⟩
end
section
open SetTable
variable {prog:da}{w:aM}{A:ai}{E:ι->ν->Prop}{s:ν}{a b:υ}{l m:List Int}
theorem J9(hc:s.heap.CodeRec env.code q)(h:∀b,Q b s):τ (model prog w) A (inMainModule env) Q E s:=by
 obtain⟨c,o,vs,t,e,ho,hd,_⟩:=hc;unfold inMainModule;rw[e];rw[TH (by intro x;exact Db x)];refine θ ?_;refine θ (uN ho ?_);rw[hd];refine ο ?_;split
 ·exact θ (kZ (ο (h _)))
 ·exact ο (h _)
theorem IV(hc:s.heap.CodeRec env.code q)(hi: -1<=i/\i<=12)
  (h:∀h' t,bu s.heap h'->ln w h' s.heap.objs.size [i]->Q (.ref s.heap.objs.size) {s with heap:=h',toks:=t}):
  τ (model prog w) A (eval (.Set [.Constant (.int i) n p] 0 pos) env) Q E s:=by
 exists arm_eval_Set ..;refine θ (aV ?_);refine θ (J9 hc λb=>?_);exists show displayRoad 0 [Expr.Constant (.int i) n p]= .oneByOne from rfl;exists show iw [Expr.Constant (.int i) n p] env=[(ζ,eval (.Constant (.int i) n p) env)] from rfl;unfold setDisplay;exists TH (by decide);refine θ (uS λo ho XE=>?_);dsimp only;refine θ (aq ?_);refine θ (m:=evalAll [do let v ←eval (.Constant (.int i) n p) env;jr pos;pure v]) ?_;refine θ ?_;refine θ (Fh ?_);refine θ (aV (ο ?_));refine θ (aq ?_);refine ο (ο ?_);have S0:ln w (s.heap.push o) s.heap.objs.size []:=⟨o,Heap.get?_push_size _ XE,ho⟩;refine θ (aq ?_);exists i9 ..;refine θ ?_;refine θ ?_;refine θ ?_;refine aq ?_;refine θ ((aH prog w).pyHash (k:=i) (zE _ _ _ _) ?_);refine oh (s:={s with heap:=s.heap.push o,toks:=s.toks+1+1}) S0 hi λh' k S'=>?_;refine ο ?_;dsimp only;rw[k7];refine ο ?_;rw[TH (by decide)];refine ο ?_;refine θ ?_;refine(?_:τ (model prog w) A (forIn ([]:List (Bool×aQ ι)) lA _) _ _ _);rw[k7];refine ο (ο (ο ?_));refine h h' _ ((lB _ _).but (e8 _) k) S'
end
end Mine
end
section
open PySem PySem.W PyProof.Rows
namespace Mine
open SetTable
variable {prog:da}{w:aM}{A:ai}{E:ι->ν->Prop}{s:ν}{a b:υ}{l m:List Int}
section
set_option maxRecDepth 100000
theorem tT:Slot "set_iterator" "__next__" "set_iterator.__next__":=
 .of (owner:="set_iterator") (n:="__next__") (by exists typeLookup_type ..;exists builtinLookup_eq_fast ..;kernel_rfl) (by decide+kernel) (by decide+kernel) (by decide+kernel)
  (by first|exact .inl (by decide+kernel)|exact .inr (by decide+kernel)) (by exists isSubtype_type ..;kernel_rfl)
theorem Fc:nQ table "set_iterator.__next__"=γ Builtin.«set_iterator.__next__»:=entryFor_of_tree (by kernel_rfl)
theorem Fs(a:ι):argsOk "set_iterator.__next__" ⟨[a],[]⟩:=by unfold argsOk;kernel_rfl
theorem Gz:nQ table "set.__iter__"=γ Builtin.«frozenset.__iter__»:=ug (id':="frozenset.__iter__") (by kernel_rfl) TK (by decide+kernel) (by kernel_rfl)
end
theorem zi(r:WP xs)(hp:p<=xs.size)(B:ti xs.toList j p p):below xs j=p:=by
 refine on (zf r j) λq1 q2=>?_;rcases Nat.lt_trichotomy (below xs j) p with k|k|k
 ·have e:=ag (l:=xs.toList) (bp k hp);exact absurd ((B _ _ e).1 k) (ya ((q2 _ _ e).2 (aJ _)))
 ·exact k
 ·have e:=ag (l:=xs.toList) (bp k q1);exact absurd ((q2 _ _ e).1 k) (ya ((B _ _ e).2 (aJ _)))
theorem IW(r:WP xs):below xs 0=0:=zi r (cN _) λi v _=>⟨λk=>absurd k (pT _),λ_=>cN _⟩
theorem IX(r:WP xs)(h:i<xs.size):below xs (xs[i]+1)=i+1:=by have e:xs.toList[i]? =γ xs[i]:=ag (l:=xs.toList) h;refine zi r h λk v e2=>⟨λq=>?_,λq=>og r q e e2⟩;exact(xS (gn q)).elim (λq=>kX (og r q e2 e)) λq=>by rw[q,e]at e2;exact ω e2▸cY _
theorem J'(i:Int):iD i= .int i 0:=rfl
inductive eA(w:aM) (h:Ξ) (a:υ) (es:Array (Int×ι)) (ep:Nat) (t:cO) (i:Nat):ι->List (Int×ι)->Prop
 |text (slot:Nat):w.params.followText "set-order"=ε->eA w h a es ep t i (.int slot 0) (qN (w.params.setOrder a ep) es).toList
 |led (slot:Nat):w.params.followText "set-order"=ζ->(t.plain=ε\/¬es.size > 1)->below t.place slot=i->eA w h a es ep t i (.int slot 0) es.toList
 |drawn (tp:υ) (o:af) (n:Nat) (ps:List Nat) (ks:List (Int×ι)):w.params.followText "set-order"=ζ->h.get? tp=γ o->o.data= .seq (ps.map λ(p:Nat)=>Value.int p 0).toArray n->ps.map (λp=>es[p]?)=ks.map γ->eA w h a es ep t i (.ref tp) ks
theorem LG{o:af}{es ep t}{Q:Bool->ν->Prop}(ho:s.heap.get? a=γ o)(hd:o.data= .set es ep t)(hf:t.fits es.size=ε)(h:Q (!w.params.followText "set-order"&&(!t.plain&&decide (es.size > 1))) s):τ (model prog w) A (setDrawn a) Q E s:=by unfold setDrawn;refine θ (cX ho hd hf ?_);exact θ (lE (ο h))
theorem IY{o:af}{es ep t}{i slot:Nat}{ks:List (Int×ι)}{Q:Option (ι×Nat)->ν->Prop}(ho:s.heap.get? a=γ o)(hd:o.data= .set es ep t)(F:At w es t l)
  (hF:eA w s.heap a es ep t i (.int slot 0) ks) (U3:∀e U4,ks[i]? =γ e->eA w s.heap a es ep t (i+1) (.int (U4:Nat) 0) ks->Q (γ (e.2,U4)) s) (UI:ks[i]? =η->Q η s):
  τ (model prog w) A (setNext a slot i ep) Q E s:=by
 unfold setNext;refine θ (cX ho hd F.fits ?_);refine θ (lE ?_);generalize WV:Value.int (slot:Int) 0=first at hF
 induction hF with
 |text sl hb=>
  simp only[Value.int.injEq,Gp,and_true]at WV;subst WV;simp only[hb,if_true];exists TH (by simp);refine θ (θ (cX ho hd F.fits ?_));refine θ (lE ?_);simp only[hb,if_true];refine θ (kZ (ο ?_));cases hk:(qN (w.params.setOrder a ep) es).toList[i]? with
  |none=>rw[fN]at hk;exists show(qN ((model prog w).w.params.setOrder a ep) es)[i]? =η from hk,ο (UI (by exists fN;exact hk))
  |some e=>have XK:=hk;rw[fN]at XK;exists show(qN ((model prog w).w.params.setOrder a ep) es)[i]? =γ e from XK,ο (U3 e slot hk (.text slot hb))
 |led sl hb hp VK=>
  simp only[Value.int.injEq,Gp,and_true]at WV;subst WV;simp only[hb,jT,if_false];have hl:t.led=ε:=F.led.resolve_left (by exists hb;simp);have hdr:(!t.plain&&decide (es.size > 1))=ζ:=by
   rcases hp with hp|hp
   ·exists hp;rfl
   ·simp[hp]
  refine(?_:τ (model prog w) A (if(!t.plain&&decide (es.size > 1))=ε then _ else bind (if(!t.led&& !es.isEmpty)=ε then zb "set:maker-not-led" else pure lA) λ_=>_) Q E s);exists hdr;exists hl;refine θ (ο ?_);exists VK;have hf:=F.fits;simp only[SetTable.fits,aS,beq_iff_eq]at hf;by_cases hi:i<es.size
  ·have hip:i<t.place.size:=(by exact hf.1.symm▸hi);exists gi hi;exists gi hip;have hk:es.toList[i]? =γ es[i]:=(by exists fN,ac (gi hi) TK);exact ο (U3 _ (t.place[i]+1) hk (.led _ hb hp (IX F.rise hip)))
  ·exists tI (by exact cb hi),ο (UI (by exists fN,ac (tI (cb hi)) TK))
 |drawn=>cases WV
structure gD(w:aM) (h:Ξ) (it B a:υ) (i:Nat) (ks:List (Int×ι)) (l:List Int):Prop where
 is:∃o es ep t,h.get? a=γ o/\o.ExactSet/\o.data= .set es ep t/\At w es t l/\δ ks=es.size/\
  ∃oi first,h.get? it=γ oi/\oi.cls= .type "set_iterator"/\oi.data= .fields #[first,.int i 0,.ref a,.int es.size 0,.int ep 0]/\eA w h a es ep t i first ks/\∀tp,first= .ref tp->tp<it/\B<=tp
theorem eA.keep{h h':Ξ}{es ep t i first ks}(F:eA w h a es ep t i first ks)(k:∀tp o,first= .ref tp->h.get? tp=γ o->h'.get? tp=γ o):eA w h' a es ep t i first ks:=by
 induction F with
 |text slot hb=>exact .text slot hb
 |led slot hb hp VK=>exact .led slot hb hp VK
 |drawn tp o n ps ks hb ho hd hm=>exact .drawn tp o n ps ks hb (k tp o TK ho) hd hm
theorem Bo{it:υ}{s₀:ν}{Q:Option ι->ν->Prop}{A:ai}(hh:A.handled=η)(hQ:∀h',Heap.ExtBut it s₀.heap h'->Q η {s₀ with heap:=h'})(hs:Heap.ExtBut it s₀.heap s.heap)(h1:s={s₀ with heap:=s.heap}):
  τ (model prog w) A.in1 (newExc (.type "StopIteration") [] >>= λe=>raiseNew (α:=Fin) e) (λfin s'=>∃v,fin= .done (.ret v)/\τ (model prog w) A (pure (γ v)) Q E s') (λe s'=>τ (model prog w) A (isInstance e (.type "StopIteration") >>= λb=>if b=ε then pure η else throw e) Q E s') s:=by
 refine θ ?_;refine θ (pM ?_ (by size_fits));refine θ (m:=firstArgMember _ _) (zc (a:=Value.none) (by first|rfl|(simp only[firstArgMember];rfl)) ?_);refine pM ?_ (by size_fits);refine θ (wpAny_handled ?_);exists show A.in1.handled=η from hh;refine θ (ο (wpAny_throw ?_));refine θ (pQ (T:="StopIteration") (b:=ε) ⟨_,Heap.get?_push_size _ TK,rfl⟩ isSubtype_stop ?_);refine ο ?_;exists h1,hQ _ ((hs.push _).push _)
end Mine
end
section
open PySem PySem.W PyProof.Rows
namespace Mine
section
open SetTable
variable {prog:da}{w:aM}{A:ai}{E:ι->ν->Prop}{s:ν}{a b:υ}{l m:List Int}
theorem gD.typeIs{it B:υ}{i ks}(I:gD w s.heap it B a i ks l):s.TypeIs (.ref it) "set_iterator":=by obtain⟨⟨o,es,ep,t,ho,hx,hd,F,hlen,oi,first,VL,hc,VS,hF,_⟩⟩:=I;exact⟨oi,VL,hc⟩
theorem qx{h:Ξ}{a:υ}{o:af}{vs:Array ι}(ho:h.get? a=γ o)(hd:o.data= .fields vs)(i:Nat)(x:ι):
  ∃o',(h.update a (Obj.mapFields (·.setIfInBounds i x))).get? a=γ o'/\o'.cls=o.cls/\o'.data= .fields (vs.setIfInBounds i x):=
 ⟨_,Heap.get?_update_self _ ho (Obj.isFreed_of_fields (Obj.data_mapFields hd _)),Obj.cls_mapFields ..,Obj.data_mapFields hd _⟩
theorem yL(n:String)(x:ι):slotArgs n 0 ⟨[x],[]⟩=pure (x,[]):=rfl
theorem eA.shape{h:Ξ}{es:Array (Int×ι)}{ep i:Nat}{t:cO}{first:ι}{ks:List (Int×ι)}(hF:eA w h a es ep t i first ks):(∃slot:Nat,first= .int slot 0)\/
  ∃(tp:υ) (Xr:af) (n:Nat) (ps:List Nat),first= .ref tp/\w.params.followText "set-order"=ζ/\h.get? tp=γ Xr/\Xr.data= .seq (ps.map λ(p:Nat)=>Value.int p 0).toArray n/\ps.map (λp=>es[p]?)=ks.map γ:=by
 induction hF with
 |text slot=>exact .inl ⟨slot,rfl⟩
 |led slot=>exact .inl ⟨slot,rfl⟩
 |drawn tp Xr n ps ks hb h1 h2 hm=>exact .inr ⟨tp,Xr,n,ps,rfl,hb,h1,h2,hm⟩
theorem Bp(hh:A.handled=η)(I:gD w s.heap it B a i ks l)(hit:it≠a)
  (U3:∀e h',ks[i]? =γ e->Heap.SameBut it s.heap h'->gD w h' it B a (i+1) ks l->Q (γ e.2) {s with heap:=h'})
  (UI:ks[i]? =η->∀h',Heap.ExtBut it s.heap h'->Q η {s with heap:=h'}):τ (model prog w) A (mq (.ref it)) Q E s:=by
 obtain⟨⟨o,es,ep,t,ho,hx,hd,F,hlen,oi,first,VL,hc,VS,hF,XM⟩⟩:=id I;refine θ (wpAny_attempt (tH (name:=Str.ofString "__next__") I.typeIs tT
  (gp tT I.typeIs Fc ?_ (Fs _))))
 unfold Builtin.«set_iterator.__next__»;exists yL ..;refine θ (ο ?_);dsimp only;refine θ (m:=fieldsOf (.ref it)) ?_;refine θ (uN VL ?_);exists VS;refine ο ?_;refine θ (pI ho hd F.fits ?_);exists TH (by simp);have XN:∀{h'},Heap.SameBut it s.heap h'->h'.get? a=γ o:=λk=>by exists k.2 a (aO hit),ho
 have fin:∀h' UJ,Heap.SameBut it s.heap h'->(∃XO,h'.get? it=γ XO/\XO.cls= .type "set_iterator"/\XO.data= .fields #[UJ,.int (i+1:Nat) 0,.ref a,.int es.size 0,.int ep 0])->
   eA w s.heap a es ep t (i+1) UJ ks->(∀tp,UJ= .ref tp->tp<it/\B<=tp)->gD w h' it B a (i+1) ks l:=by
  rintro h' UJ k ⟨XO,h1,h2,h3⟩ Zj WY;exact⟨⟨o,es,ep,t,XN k,hx,hd,F,hlen,XO,UJ,h1,h2,h3,Zj.keep (λtp o' e e'=>by exists k.2 tp (fT (WY tp e).1),e'),WY⟩⟩
 rcases hF.shape with⟨slot,rfl⟩|⟨tp,Xr,n,ps,rfl,hb,XQ,XR,hm⟩
 ·dsimp only;refine θ (IY ho hd F hF ?_ ?_)
  ·intro e U4 hk Zj;refine θ (ng VL VS (by first|exact bS _|exact jW (bS _)|simp) ?_);refine KT (qx VL VS 0 (iD (U4:Nat))) λo1 g1 g2 g3=>?_;refine θ (ng g1 g3 (by first|exact bS _|exact jW (bS _)|simp) ?_);refine KT (qx g1 g3 1 (iD (((i:Nat):Int)+1))) λo2 k1 k2 k3=>?_;refine ο ⟨_,rfl,ο (U3 e _ hk ((Heap.SameBut.update _ it _).trans (Heap.SameBut.update _ it _)) (fin _ (.int (U4:Nat) 0) ((Heap.SameBut.update _ it _).trans (Heap.SameBut.update _ it _)) ⟨o2,k1,k2.trans (g2.trans hc),?_⟩ Zj (λtp e=>by cases e)))⟩;exact k3.trans TK
  ·intro hk;refine θ (ng VL VS (by first|exact bS _|exact jW (bS _)|simp) ?_);exact Bo hh (λh'=>UI hk h') (Heap.SameBut.update _ it _).extBut TK
 ·dsimp only;have WY:=XM tp TK;refine θ (wpAny_seqItems XQ XR ?_);have hpk:ps.length=δ ks:=(φ ..).symm.trans ((TL nt hm).trans (φ ..));simp only[xZ];by_cases hi:i<ps.length
  ·have XS:i<δ ks:=hpk▸hi;have e1:(ps.map λ(p:Nat)=>Value.int p 0).toArray[i]? =γ (.int (ps[i]:Nat) 0):=(by rw[jR,aA,ag hi];rfl);exists e1;dsimp only;have hek:es[ps[i]]? =γ ks[i]:=(by have:=TL (λz:List (Option (Int×ι))=>z[i]?) hm;simpa[hi,XS]using this);refine θ (θ (cX ho hd F.fits ?_));dsimp only;exists TH (by simp);simp only[xZ];exists hek;refine ο ?_;refine θ (ng VL VS (by first|exact bS _|exact jW (bS _)|simp) ?_);refine KT (qx VL VS 1 (iD (((i:Nat):Int)+1))) λo1 g1 g2 g3=>?_;refine ο ⟨_,rfl,ο (U3 ks[i] _ (ag XS) (Heap.SameBut.update _ it _) (fin _ (.ref tp) (Heap.SameBut.update _ it _) ⟨o1,g1,g2.trans hc,?_⟩ (.drawn tp Xr n ps ks hb XQ XR hm) XM))⟩;exact g3.trans TK
  ·have e1:(ps.map λ(p:Nat)=>Value.int p 0).toArray[i]? =η:=(by rw[jR,aA,dp (cb hi)];rfl);exists e1;dsimp only;refine θ (ng VL VS (by first|exact bS _|exact jW (bS _)|simp) ?_);refine KT (qx VL VS 0 (iD 0)) λo1 g1 g2 g3=>?_;refine θ (ng g1 g3 (by first|exact bS _|exact jW (bS _)|simp) ?_);exact Bo hh (λh'=>UI (dp (hpk▸cb hi)) h') ((Heap.SameBut.update _ it _).trans (Heap.SameBut.update _ it _)).extBut TK
end
section
open SetTable
variable {prog:da}{w:aM}{A:ai}{E:ι->ν->Prop}{s:ν}{a b:υ}{l m:List Int}
theorem NY{Q:ι->ν->Prop}(S:ln w s.heap a l)
  (h:∀h' d it ks,bu s.heap h'->s.heap.get? it=η->gD w h' it s.heap.objs.size a 0 ks l->(∀e∈ks,∃i u,e=(aN i,Value.int i u))->(ks.map LE).Perm l->Q (.ref it) {s with heap:=h',drawn:=d}):
  τ (model prog w) A (pyIter (.ref a)) Q E s:=by
 refine wpAny_pyIter_slot S.typeIs Gq (gp Gq S.typeIs Gz ?_ (F.args_set_iter_1 _));obtain⟨o,ho,hx,es,ep,t,hd,F⟩:=id S;unfold Builtin.«frozenset.__iter__» TB;exists yL ..;refine θ (θ (ο (ο (a:=a) ?_)));refine θ (h_ S ?_);refine θ (LG ho hd F.fits ?_);have Ut:=F.size;have fin:∀(Ud:Ξ) (d:Drawn) (first:ι) (ks:List (Int×ι)),bu s.heap Ud->(∀Ui,bu Ud Ui->eA w Ui a es ep t 0 first ks)->δ ks=es.size->(∀tp,first= .ref tp->tp<Ud.objs.size/\s.heap.objs.size<=tp)->(∀e∈ks,∃i u,e=(aN i,Value.int i u))->(ks.map LE).Perm l->
   τ (model prog w) A.in1 (do ret (←newFields "set_iterator" [first,iD 0,.ref a,iD (δ l),iD (←setEpoch a)]))
    (λfin s'=>∃v,fin= .done (.ret v)/\∃T' r,s'.TypeIs v T'/\qu (.type T') "__next__"=pure (γ r)/\Q v s') E {s with heap:=Ud,drawn:=d}:=by
  intro Ud d first ks k1 k2 k3 k4 k5 k6
  have Vb:Ud.get? a=γ o:=k1 _ _ ho;refine θ (lJ (s:={s with heap:=Ud,drawn:=d}) Vb hd F ?_);refine θ (pM ?_);refine ο ⟨_,rfl,"set_iterator",_,⟨_,Heap.get?_push_size _ TK,rfl⟩,tT.lookup,?_⟩;refine h _ d _ ks (λb o e=>Heap.get?_push_of_some _ (k1 b o e)) ?_ ?_ k5 k6
  ·cases q:s.heap.get? Ud.objs.size with
   |none=>rfl
   |some o'=>have:=k1 _ _ q;rw[e8]at this;exact pt this
  ·refine⟨⟨o,es,ep,t,Heap.get?_push_of_some _ Vb,hx,hd,F,k3,_,first,Heap.get?_push_size _ TK,rfl,?_,k2 _ (lB _ _),k4⟩⟩;simp[iD,Ut]
 cases hb:w.params.followText "set-order" with
 |true=>refine θ (ο ?_);have hp:=zJ (w.params.setOrder a ep) es;refine fin s.heap s.drawn (.int (0:Nat) 0) _ (λ_ _ e=>e) (λUi _=>.text 0 hb) ?_ (λtp e=>by cases e) (λe he=>F.ents e (hp.mem_iff.mp he)) ((hp.map LE).trans F.perm);exists hp.length_eq,rfl
 |false=>
  by_cases hq:(!t.plain&&decide (es.size > 1))=ε
  ·simp only[GP,p6,hq,if_true];refine θ (yI _ _ (by simp) λps d hp=>?_);refine θ (wpAny_newTuple ?_ (by have:=F.len;exists φ ..;exists hp.length_eq ..;exists bG ..;exists lu ..,κ ‹_› (by decide)));dsimp only;have UC:∀p∈ps,p<es.size:=λp Zk=>(by have:=hp.mem_iff.mp Zk;rw[fQ]at this;exact kS ‹_› (vJ ‹_›));have Vy:ps.map (λp=>es[p]?)=(ps.filterMap (es[·]?)).map γ:=by
    clear fin hp;induction ps with
    |nil=>rfl
    |cons p ps ih=>have T6:=UC p (by simp);exists bQ,ac (ih λp hp=>UC p (by simp[hp])) (ac (xi (gi T6)) (ac bQ (ac (gi T6) TK)))
   have T7:(ps.filterMap (es[·]?)).Perm es.toList:=(by refine(hp.filterMap _).trans ?_;rw[←F.size,Ej]);refine fin _ d (.ref s.heap.objs.size) (ps.filterMap (es[·]?)) (lB _ _) (λUi k=>?_) (by exists T7.length_eq;simp) (λtp e=>?_) (λe he=>F.ents e (T7.mem_iff.mp he)) ((T7.map LE).trans F.perm)
   ·refine .drawn _ _ 0 ps _ hb (k _ _ (Heap.get?_push_size _ TK)) ?_ Vy;simp[J']
   ·replace e:=Value.ref.inj e;subst e;exists Heap.size_push ..;exact⟨cY _,aJ _⟩
  ·have Zl:(!t.plain&&decide (es.size > 1))=ζ:=(by simpa using hq);simp only[GP,p6,Zl,jT,if_false];refine θ (ο ?_);refine fin s.heap s.drawn (.int (0:Nat) 0) es.toList (λ_ _ e=>e) (λUi _=>.led 0 hb ?_ (IW F.rise)) (by simp) (λtp e=>by cases e) F.ents F.perm;rw[Bool.and_eq_false_iff]at Zl;rcases Zl with q|q
   ·exact .inl (by simpa using q)
   ·exact .inr (by simpa using q)
theorem zN:∀{ks:List (Int×ι)},(∀e∈ks,∃i u,e=(aN i,Value.int i u))->cP (ks.map (·.2)) (ks.map LE)
 |[],_=>.nil
 |e::ks,h=>by obtain⟨i,u,rfl⟩:=h e (.head _);exact .cons _ _ (zN λe he=>h e (gj _ he))
theorem gD.keepS{h h':Ξ}{S it B:υ}{i:Nat}{ks:List (Int×ι)}(I:gD w h it B a i ks l)(sb:Heap.SameBut S h h')(h1:S≠it)(h2:S≠a)(T6:S<B):gD w h' it B a i ks l:=by obtain⟨⟨o,es,ep,t,ho,hx,hd,F,hlen,oi,first,VL,hc,VS,hF,XM⟩⟩:=I;exact⟨⟨o,es,ep,t,(sb.2 a (aO h2)).trans ho,hx,hd,F,hlen,oi,first,(sb.2 it (aO h1)).trans VL,hc,VS,hF.keep λtp o' e e'=>(sb.2 tp (e7 (bp T6 (XM tp e).2))).trans e',XM⟩⟩
theorem IZ{R:Result->ν->Prop}{S it B:υ}{ks:List (Int×ι)}(h1:S≠it)(Zm:S<B)(h2:S≠a)(h3:it≠a)(hh:A.handled=η)(Zn:δ ks<=14):
  ∀(k i:Nat) (s:ν) (acc:Array ι) (c:Nat),δ ks - i=k->i<=δ ks->gD w s.heap it B a i ks l->s.heap.get? S=γ {cls:=.type "list",dict:=η,data:=.seq acc c,slots:=#[]}->acc.toList=(ks.take i).map (·.2)->
   (∀h' UP c',(∀b o,b≠S->b≠it->s.heap.get? b=γ o->h'.get? b=γ o)->h'.get? S=γ {cls:=.type "list",dict:=η,data:=.seq UP c',slots:=#[]}->UP.toList=ks.map (·.2)->R (.ok (.ret (.ref S))) {s with heap:=h'})->
   gC (model prog w) A (.builtin "list.extend.loop" ⟨[.ref S,.ref it,.ref S],[]⟩) R s:=by
 intro k;induction k with
 |zero=>
  intro i s acc c hk hi I hS VB hR;refine i_ E3 ?_;exists Around.under_plainId tP _;refine(?_:τ _ A.in1 (mq (.ref it) >>= _) _ _ s);refine θ (Bp (by simp[hh]) I h3 (λe h' q=>?_) λ_ h' hb=>?_)
  ·rw[dp (pB hk)]at q;exact pt q
  refine ο (hR h' acc c (λb o _ n e=>hb b o n e) (hb S _ h1 hS) ?_);exists VB,ac (jQ (pB hk)) TK
 |succ k ih=>
  intro i s acc c hk hi I hS VB hR;have T6:i<δ ks:=EF hk;refine i_ E3 ?_;exists Around.under_plainId tP _;refine(?_:τ _ A.in1 (mq (.ref it) >>= _) _ _ s);refine θ (Bp (by simp[hh]) I h3 (λe h' q hb I'=>?_) λq=>?_)
  ·rw[ag T6]at q;obtain rfl:=ω q;have Xp:h'.get? S=γ {cls:=.type "list",dict:=η,data:=.seq acc c,slots:=#[]}:=(by exists hb.2 S h1,hS);have Ut:acc.size<=14:=(by rw[←pH,VB,φ];exact κ (List.length_take_le' _ _) Zn);refine(?_:τ _ A.in1 (updateSeq S (·.push ks[i].2) >>= _) _ _ _);refine θ (yl Xp TK ?_ (by exists lu;first|exact κ Ut (by decide)|exact aR Ut (by decide)) (by exists Array.size_push ..;exists lu ..;first|exact κ (bZ Ut) (by decide)|exact aR (bZ Ut) (by decide)));have WC:=Heap.SameBut.update h' S (Obj.mapSeq (·.push ks[i].2));refine ο ⟨p5 tP _,ih (i+1) _ (acc.push ks[i].2) _ (TL Nat.pred hk) ‹_› ?_ (Heap.get?_update_self _ Xp TK) ?_ λTY UP c' g1 g2 g3=>?_⟩
   ·exact I'.keepS WC h1 h2 Zm
   ·exists xY;exists VB;exists List.take_succ_eq_append_getElem T6;exists aj;rfl
   ·refine hR TY UP c' (λb o n1 n2 e=>g1 b o n1 n2 ?_) g2 g3;refine(?_:(h'.update S _).get? b=γ o);exists WC.2 b n1;exists hb.2 b n2,e
  ·rw[ag T6]at q;exact iE q
theorem I0{it':υ}{Q:Bool->ν->Prop}(S:ln w s.heap a l)(h:Q ζ s):τ (model prog w) A (D9 (.ref a)) Q E s:=by unfold D9;refine θ (ym S.typeIs F.slot_set_len.lookup ?_);generalize hid:("set.__len__":String)=id0;dsimp only;exists(show splitId id0=γ ("set","__len__")from by subst hid;decide+kernel);subst hid;refine θ (vg S ?_);rw[TH (by decide)];rw[TG (by decide+kernel)];refine θ (ll S.typeIs ?_);exact ο h
theorem GB{Q:List ι->ν->Prop}(hh:A.handled=η)(S:ln w s.heap a l)
  (h:∀vs ns s',s'.gens=s.gens->s'.os=s.os->bu s.heap s'.heap->cP vs ns->ns.Perm l->Q vs s'):τ (model prog w) A (collect (.ref a)) Q E s:=by
 have T6:a<s.heap.objs.size:=by refine f4 S λo ho _=>?_;clear S;exact Heap.lt_size ho
 refine θ (yA (i_ F.entry_proto_collect ?_));exists Around.under_plainId F.plain_proto_collect _;refine(?_:τ _ A.in1 (newList [] >>= λl=>again (.builtin "list.__iadd__" ⟨[l,.ref a],[]⟩)) _ _ s);refine θ (pM ?_);refine ο ⟨p5 FE _,i_ F.entry_list_iadd ?_⟩;exists Around.under_plainId FE _;have WD:(s.heap.push {cls:=.type "list",data:=.seq ([]:List ι).toArray}).get? s.heap.objs.size=γ {cls:=.type "list",data:=.seq ([]:List ι).toArray}:=Heap.get?_push_size _ TK;have S1:ln w (s.heap.push {cls:=.type "list",data:=.seq ([]:List ι).toArray}) a l:=S.keep λo e=>Heap.get?_push_of_some _ e;have Zo:s.heap.objs.size≠a:=e7 T6;have h1:Em (.ref s.heap.objs.size) (.ref a)=ζ:=by simp[Em,Zo]
 refine(?_:τ _ A.in1 (D_ (.ref s.heap.objs.size) (.ref a) (.ref s.heap.objs.size)) _ _ _);unfold D_;refine θ (ll (S1.typeIs (s:={s with heap:=s.heap.push _})) ?_);exists TH (by rw[h1];decide);refine θ (NY (s:={s with heap:=s.heap.push _}) S1 λh' d it ks k1 k2 I k3 k4=>?_);have S2:ln w h' a l:=S1.keep λo e=>k1 _ o e;have hit:it≠a:=by rintro rfl;refine f4 S1 λo ho _=>?_;clear S1;rw[ho]at k2;exact iE k2
 have XT:s.heap.objs.size≠it:=by rintro rfl;rw[WD]at k2;exact iE k2
 refine θ (aq (I0 (it':=it) (s:={s with heap:=h',drawn:=d}) S2 ?_));rw[TG (by decide+kernel)];refine θ (dR ?_);have VT:=k1 _ _ WD;refine θ ?_;refine(?_:τ _ A.in1 (updateSeq s.heap.objs.size (·.push .none) >>= λ_=>updateSeq s.heap.objs.size (·.pop)) _ _ _);refine θ (yl (s:={s with heap:=h',drawn:=d}) VT TK ?_);have VU:=Heap.get?_update_self (Obj.mapSeq (·.push Value.none)) VT TK;refine yl (s:={s with heap:=h'.update s.heap.objs.size (Obj.mapSeq (·.push Value.none)),drawn:=d}) VU TK ?_;have WE:=Heap.get?_update_self (Obj.mapSeq (·.pop)) VU TK;have Zp:=(Heap.SameBut.update h' s.heap.objs.size (Obj.mapSeq (·.push Value.none))).trans (Heap.SameBut.update _ s.heap.objs.size (Obj.mapSeq (·.pop)));generalize(h'.update s.heap.objs.size (Obj.mapSeq (·.push Value.none))).update s.heap.objs.size (Obj.mapSeq (·.pop))=H3 at WE Zp ⊢;clear VU VT;have WZ:δ ks<=14:=by obtain⟨o,ho,hx,es,ep,t,hd,F⟩:=S;have:=k4.length_eq;have:=F.len;simp at*;exact κ (a5 this) ‹_›
 refine ο ⟨p5 tP _,?_⟩;refine IZ (l:=l) (a:=a) (B:=(s.heap.push {cls:=.type "list",data:=.seq ([]:List ι).toArray}).objs.size) XT (by rw[Heap.size_push];exact cY _) Zo hit hh WZ (δ ks) 0 _ _ _ (by rfl) (cN _) ?_ WE TK λTY UP c' g1 g2 g3=>?_
 ·exact I.keepS Zp XT Zo (by rw[Heap.size_push];exact cY _)
 ·refine(?_:τ _ A (load s.heap.objs.size >>= _) _ _ _);refine θ (uN g2 ?_);refine ο (h _ (ks.map LE) _ TK TK (λb o e=>?_) ?_ k4)
  ·have hb:=Heap.lt_size e;refine g1 b o (fT hb) ?_ ?_
   ·rintro rfl;rw[Heap.get?_push_of_some _ e]at k2;exact iE k2
   ·exact(Zp.2 b (fT hb)).trans (k1 _ _ (Heap.get?_push_of_some _ e))
  ·rw[g3];exact zN k3
theorem J_(hi:bj l)(hp:ns.Perm l)(hs:ns.Pairwise (· <=·)):ns=l:=by have hn:ns.Nodup:=hp.nodup_iff.mpr (zK hi);refine nU ?_ hi λx=>hp.mem_iff;exact(List.pairwise_and_iff.mpr ⟨hs,pj.mp hn⟩).imp λh=>pE.mpr h
theorem Ka(hh:A.handled=η)(S:ln w s.heap a l)
  (h:∀h' p us n t d,bu s.heap h'->s.heap.get? p=η->h'.get? p=γ (seqObj "list" us n)->cP us.toList l->Q (.ref p) {s with heap:=h',toks:=t,drawn:=d}):
  τ (model prog w) A (call (.builtin "sorted") [.ref a]) Q E s:=by
 refine Calls.call_function_entry kind_sorted plain_sorted entry_sorted (args_sorted1 _) ?_;unfold Builtin.«sorted»;refine θ (m:=checkCount "sorted" 1 1 _) (ο ?_);refine θ (GB hh S λvs ns s' g1 g2 k hI hp=>?_);have hlen:δ vs<=14:=by obtain⟨o,ho,hx,es,ep,t,hd,F⟩:=S;have:=hI.length;have:=hp.length_eq;have:=F.len;exact κ (a5 (Bj ‹δ vs=δ ns› ‹δ ns=δ l›)) this
 refine θ (wpAny_newList ?_ (by exists lu,κ ‹_› (by decide)));have Zq:(s'.heap.push (seqObj "list" vs.toArray 0)).get? s'.heap.objs.size=γ (seqObj "list" vs.toArray 0):=Heap.get?_push_size _ TK;show τ _ _ _ _ _ {s' with heap:=s'.heap.push (seqObj "list" vs.toArray 0)};refine θ (aq (gp slot_list_sort ⟨_,Zq,rfl⟩ entry_list_sort (list_sort_tree Zq hI (aR ‹_› (by decide)) λout ns' a1 a2 a3=>⟨_,rfl,?_⟩) (args_list_sort _)));refine ο ⟨_,rfl,?_⟩;obtain⟨Zk,g',d',tk',YK⟩:=s';simp only at g1 g2;subst g1;subst g2;obtain⟨e,he⟩:=sortedHeap_at (out:=out) Zq;refine h _ _ out e _ _ (λb o eb=>?_) ?_ he ?_
 ·have hb:=Heap.lt_size (k b o eb);refine(?_:(sortedHeap _ _ _ _).get? b=γ o);exists sortedHeap_old (fT hb) (by rw[Heap.size_push];exact kX hb),Heap.get?_push_of_some _ (k b o eb)
 ·cases q:s.heap.get? Zk.objs.size with
  |none=>rfl
  |some o'=>have:=k _ _ q;rw[e8]at this;exact pt this
 ·rw[←J_ S.inc (a2.trans hp) a3];exact a1
end
end Mine
end
section
namespace Mine
noncomputable def Do:List String:=["MASK","ROUND","EFFECTS","DIVISIONS","_law_ALL","_law_REST","_law_ADDED","_law_plain_ops","store","move","call","callreg","div","divu","rem","remu","add","sub","mul","xor","copy","const","corecc.code","corecc.flow","corecc.loops","law_sa0179_01","line","self","is_volatile","more","args","dst","op","Step","end","steps","number","Block","has_value","registers","blocks","slots","is_static","params","name","Func","table","branch","jump","block","followers","tails","header","Loop","step","has_effect","kind","k","value","load","can_fault","is_plain","found","func","preds","stack","seen","top","postorder","given","needed","r","needs_of","live_out","live_in","at","waiting","ahead","before","other","needs","is_waiting","behind","follower","live","in_place_of","lead","row","low","numbers","then","led_end","loop","place","steps_in","rows","times_set","often","is_settled","single_rows","is_new","left","steps_led_out","singles","rows_led_out","one","register","sum_with","source","growth_at","others","counters_of","entry","moved","freed_entry","outer","block_ahead","extra","see","_law_row","held","last","ring","aside","way","shape","pick","fuel","parts","placed","cell","give","_law_program","drawn","f","_law_made","each","_law_shown","_law_leads","known","which","_law_worth","trail","visit","spot","worth","first","_law_gone","given_now","ours","act","_law_alike","_law_seen","is_set","met","_law_is_live","many","_law_freed_right","is_there","_law_ahead_right","rest_of","is_firm","goals","still","own","where","laid","spots","_law_led_right","here","plain","was","grown","_law_counters_right","script","law"]
noncomputable def HS:Ss:=
 (.cons (.g (.attr (.l 27) 32) (.l 32))
 (.cons (.g (.attr (.l 27) 31) (.l 31))
 (.cons (.g (.attr (.l 27) 30) (.l 30))
 (.cons (.g (.attr (.l 27) 29) (.l 29))
 (.cons (.g (.attr (.l 27) 28) (.i (.bool ζ)))
 (.cons (.g (.attr (.l 27) 26) (.i (.int 0)))
 .nil))))))
noncomputable def HT:BT:=⟨.keep,[27,32,31,30,29],[],HS⟩
noncomputable def Hn:Ss:=
 (.cons (.g (.attr (.l 27) 36) (.l 36))
 (.cons (.g (.attr (.l 27) 35) (.list ζ .nil))
 (.cons (.g (.attr (.l 27) 34) (.i (.none)))
 .nil)))
noncomputable def Ho:BT:=⟨.keep,[27,36],[],Hn⟩
noncomputable def HU:Ss:=
 (.cons (.g (.attr (.l 27) 44) (.l 44))
 (.cons (.g (.attr (.l 27) 43) (.list ζ .nil))
 (.cons (.g (.attr (.l 27) 42) (.i (.bool ζ)))
 (.cons (.g (.attr (.l 27) 41) (.list ζ .nil))
 (.cons (.g (.attr (.l 27) 40) (.list ε .nil))
 (.cons (.g (.attr (.l 27) 39) (.i (.int 0)))
 (.cons (.g (.attr (.l 27) 38) (.i (.bool ζ)))
 .nil)))))))
noncomputable def HV:BT:=⟨.keep,[27,44],[],HU⟩
noncomputable def HW:Ss:=
 (.cons (.g (.name 34) (.attr (.l 49) 34))
 (.cons (.ife (.cmp .eq (.attr (.l 34) 32) (.i (.str 48))) (.cons (.ret (.list ζ (.cons (.attr (.l 34) 29) .nil)))
 .nil) .nil)
 (.cons (.ife (.cmp .eq (.attr (.l 34) 32) (.i (.str 47))) (.cons (.ret (.list ζ (.cons (.sub (.attr (.l 34) 29) (.i (.int 0))) (.cons (.sub (.attr (.l 34) 29) (.i (.int 1))) .nil))))
 .nil) .nil)
 (.cons (.ife (.cmp .eq (.attr (.l 34) 32) (.i (.str 46))) (.cons (.ret (.bin .add (.bi .list ζ (.cons (.sub (.attr (.l 34) 29) (.i (.int 1))) .nil)) (.list ζ (.cons (.sub (.attr (.l 34) 29) (.i (.int 2))) .nil))))
 .nil) .nil)
 (.cons (.ret (.list ζ .nil))
 .nil)))))
noncomputable def HY:BT:=⟨.pure,[49],[34],HW⟩
noncomputable def HZ:Ss:=
 (.cons (.g (.attr (.l 27) 52) (.l 52))
 (.cons (.g (.attr (.l 27) 40) (.l 40))
 (.cons (.g (.attr (.l 27) 51) (.l 51))
 .nil)))
noncomputable def H0:BT:=⟨.keep,[27,52,40,51],[],HZ⟩
noncomputable def Hp:Ss:=
 (.cons (.ret (.or (.cmp .isin (.attr (.l 54) 32) (.glob 2)) (.cons (.attr (.l 54) 28) .nil)))
 .nil)
noncomputable def Hq:BT:=⟨.pure,[54],[],Hp⟩
noncomputable def H2:Ss:=
 (.cons (.ife (.or (.cmp .eq (.attr (.l 54) 32) (.i (.str 59))) (.cons (.attr (.l 54) 28) .nil)) (.cons (.ret (.i (.bool ε)))
 .nil) .nil)
 (.cons (.ife (.cmp .notin (.attr (.l 54) 32) (.glob 3)) (.cons (.ret (.i (.bool ζ)))
 .nil) .nil)
 (.cons (.g (.tup (.cons (.name 56) (.cons (.name 58) .nil))) (.sub (.attr (.l 54) 30) (.i (.int 1))))
 (.cons (.ret (.or (.cmp .ne (.l 56) (.i (.str 57))) (.cons (.cmp .eq (.bin .mod (.l 58) (.glob 1)) (.i (.int 0))) .nil)))
 .nil))))
noncomputable def H4:BT:=⟨.pure,[54],[56,58],H2⟩
noncomputable def I1:Ss:=
 (.cons (.ret (.and (.not (.call 55 (.cons (.l 54) .nil))) (.cons (.not (.call 60 (.cons (.l 54) .nil))) .nil)))
 .nil)
noncomputable def I2:BT:=⟨.pure,[54],[],I1⟩
noncomputable def NZ:Ss:=
 (.cons (.g (.name 62) (.comp ε [] [49] (.name 49) ζ (.attr (.l 63) 40) .nil (.last (.list ε .nil))))
 (.cons (.for (.name 49) ζ (.attr (.l 63) 40) (.cons (.for (.name 36) ζ (.call 50 (.cons (.l 49) .nil)) (.cons (.ife (.cmp .notin (.attr (.l 49) 36) (.sub (.l 62) (.l 36))) (.cons (.ex (.me .append (.sub (.l 62) (.l 36)) (.attr (.l 49) 36)))
 .nil) .nil)
 .nil))
 .nil))
 (.cons (.ret (.l 62))
 .nil)))
noncomputable def N0:BT:=⟨.pure,[63],[62,49,36],NZ⟩
noncomputable def H5:Ss:=
 (.cons (.g (.name 62) (.list ε .nil))
 (.cons (.g (.name 66) (.set1 ε 0))
 (.cons (.g (.name 65) (.list ε (.cons (.list ε (.cons (.i (.int 0)) (.cons (.call 50 (.cons (.sub (.attr (.l 63) 40) (.i (.int 0))) .nil)) (.cons (.i (.int 0)) .nil)))) .nil)))
 (.cons (.whl (.l 65) (.cons (.g (.name 67) (.sub (.l 65) (.neg (.i (.int 1)))))
 (.cons (.ife (.cmp .eq (.sub (.l 67) (.i (.int 2))) (.bi .len ζ (.cons (.sub (.l 67) (.i (.int 1))) .nil))) (.cons (.ex (.me .append (.l 62) (.sub (.l 67) (.i (.int 0)))))
 (.cons (.ex (.pop (.l 65)))
 (.cons .cont
 .nil))) .nil)
 (.cons (.g (.name 36) (.sub (.sub (.l 67) (.i (.int 1))) (.sub (.l 67) (.i (.int 2)))))
 (.cons (.augSub (.l 67) (.i (.int 2)) .add (.i (.int 1)))
 (.cons (.ife (.cmp .notin (.l 36) (.l 66)) (.cons (.ex (.me .add (.l 66) (.l 36)))
 (.cons (.ex (.me .append (.l 65) (.list ε (.cons (.l 36) (.cons (.call 50 (.cons (.sub (.attr (.l 63) 40) (.l 36)) .nil)) (.cons (.i (.int 0)) .nil))))))
 .nil)) .nil)
 .nil))))))
 (.cons (.ret (.l 62))
 .nil)))))
noncomputable def H6:BT:=⟨.fresh,[63],[62,66,65,67,36],H5⟩
noncomputable def I3:Ss:=
 (.cons (.g (.name 70) (.bi .set0 ε .nil))
 (.cons (.g (.name 69) (.bi .set0 ε .nil))
 (.cons (.for (.name 54) ζ (.attr (.l 49) 35) (.cons (.for (.tup (.cons (.name 56) (.cons (.name 58) .nil))) ζ (.attr (.l 54) 30) (.cons (.ife (.and (.cmp .eq (.l 56) (.i (.str 71))) (.cons (.cmp .notin (.l 58) (.l 69)) .nil)) (.cons (.ex (.me .add (.l 70) (.l 58)))
 .nil) .nil)
 .nil))
 (.cons (.ex (.me .add (.l 69) (.attr (.l 54) 31)))
 .nil)))
 (.cons (.for (.tup (.cons (.name 56) (.cons (.name 58) .nil))) ζ (.attr (.attr (.l 49) 34) 30) (.cons (.ife (.and (.cmp .eq (.l 56) (.i (.str 71))) (.cons (.cmp .notin (.l 58) (.l 69)) .nil)) (.cons (.ex (.me .add (.l 70) (.l 58)))
 .nil) .nil)
 .nil))
 (.cons (.ret (.tup (.cons (.l 70) (.cons (.l 69) .nil))))
 .nil)))))
noncomputable def I4:BT:=⟨.pure,[49],[70,69,54,56,58],I3⟩
noncomputable def P8:Ss:=
 (.cons (.g (.name 74) (.comp ε [] [49] (.name 49) ζ (.attr (.l 63) 40) .nil (.last (.bi .set0 ζ .nil))))
 (.cons (.g (.name 73) (.comp ε [] [49] (.name 49) ζ (.attr (.l 63) 40) .nil (.last (.bi .set0 ζ .nil))))
 (.cons (.g (.name 78) (.call 64 (.cons (.l 63) .nil)))
 (.cons (.g (.name 76) (.call 68 (.cons (.l 63) .nil)))
 (.cons (.g (.name 80) (.dict0 ζ ε))
 (.cons (.g (.name 81) (.dict0 ζ ε))
 (.cons (.for (.name 36) ζ (.l 76) (.cons (.g (.sub (.l 80) (.l 36)) (.call 72 (.cons (.sub (.attr (.l 63) 40) (.l 36)) .nil)))
 (.cons (.g (.sub (.l 81) (.l 36)) (.i (.bool ε)))
 .nil)))
 (.cons (.g (.name 75) (.i (.int 0)))
 (.cons (.whl (.cmp .lt (.l 75) (.bi .len ζ (.cons (.l 76) .nil))) (.cons (.g (.name 36) (.sub (.l 76) (.l 75)))
 (.cons (.aug 75 .add (.i (.int 1)))
 (.cons (.g (.sub (.l 81) (.l 36)) (.i (.bool ζ)))
 (.cons (.g (.name 82) (.bi .set0 ε .nil))
 (.cons (.for (.name 83) ζ (.call 50 (.cons (.sub (.attr (.l 63) 40) (.l 36)) .nil)) (.cons (.aug 82 .bor (.sub (.l 74) (.l 83)))
 .nil))
 (.cons (.frz 82)
 (.cons (.g (.sub (.l 73) (.l 36)) (.l 82))
 (.cons (.g (.tup (.cons (.name 70) (.cons (.name 69) .nil))) (.sub (.l 80) (.l 36)))
 (.cons (.g (.name 77) (.bin .bor (.l 70) (.bin .sub (.l 82) (.l 69))))
 (.cons (.ife (.cmp .ne (.l 77) (.sub (.l 74) (.l 36))) (.cons (.g (.sub (.l 74) (.l 36)) (.l 77))
 (.cons (.for (.name 79) ζ (.sub (.l 78) (.l 36)) (.cons (.ife (.and (.cmp .isin (.l 79) (.l 80)) (.cons (.not (.sub (.l 81) (.l 79))) .nil)) (.cons (.g (.sub (.l 81) (.l 79)) (.i (.bool ε)))
 (.cons (.ex (.me .append (.l 76) (.l 79)))
 .nil)) .nil)
 .nil))
 .nil)) .nil)
 .nil)))))))))))
 (.cons (.ret (.tup (.cons (.l 74) (.cons (.l 73) .nil))))
 .nil))))))))))
noncomputable def P9:BT:=⟨.pure,[63],[74,73,78,76,80,81,36,75,82,83,70,69,77,79],P8⟩
noncomputable def GZ:Ss:=
 (.cons (.g (.name 62) (.new 33 0 ζ (.cons (.l 32) (.cons (.l 31) (.cons (.l 30) (.cons (.l 29) .nil))))))
 (.cons (.g (.attr (.l 62) 26) (.attr (.l 54) 26))
 (.cons (.ret (.l 62))
 .nil)))
noncomputable def G0:BT:=⟨.pure,[54,32,31,30,29],[62],GZ⟩
noncomputable def Kb:Ss:=
 (.cons (.ife (.cmp .eq (.attr (.l 34) 32) (.i (.str 48))) (.cons (.ret (.call 85 (.cons (.l 34) (.cons (.i (.str 48)) (.cons (.neg (.i (.int 1))) (.cons (.list ζ .nil) (.cons (.get (.l 86) (.attr (.l 34) 29) (.attr (.l 34) 29)) .nil)))))))
 .nil) .nil)
 (.cons (.ife (.cmp .eq (.attr (.l 34) 32) (.i (.str 47))) (.cons (.g (.tup (.cons (.name 90) (.cons (.name 79) .nil))) (.attr (.l 34) 29))
 (.cons (.ret (.call 85 (.cons (.l 34) (.cons (.i (.str 47)) (.cons (.neg (.i (.int 1))) (.cons (.attr (.l 34) 30) (.cons (.tup (.cons (.get (.l 86) (.l 90) (.l 90)) (.cons (.get (.l 86) (.l 79) (.l 79)) .nil))) .nil)))))))
 .nil)) .nil)
 (.cons (.ife (.cmp .eq (.attr (.l 34) 32) (.i (.str 46))) (.cons (.g (.tup (.cons (.name 88) (.cons (.name 89) (.cons (.name 79) .nil)))) (.attr (.l 34) 29))
 (.cons (.g (.name 87) (.comp ζ [86] [36] (.name 36) ζ (.l 89) .nil (.last (.get (.l 86) (.l 36) (.l 36)))))
 (.cons (.ret (.call 85 (.cons (.l 34) (.cons (.i (.str 46)) (.cons (.neg (.i (.int 1))) (.cons (.attr (.l 34) 30) (.cons (.tup (.cons (.l 88) (.cons (.l 87) (.cons (.get (.l 86) (.l 79) (.l 79)) .nil)))) .nil)))))))
 .nil))) .nil)
 (.cons (.ret (.l 34))
 .nil))))
noncomputable def Kc:BT:=⟨.pure,[34,86],[90,79,88,89,87],Kb⟩
noncomputable def I5:Ss:=
 (.cons (.g (.name 62) (.list ε .nil))
 (.cons (.for (.name 36) ζ (.bi .sorted ζ (.cons (.attr (.l 92) 40) .nil)) (.cons (.for (.tup (.cons (.name 93) (.cons (.name 54) .nil))) ε (.attr (.sub (.attr (.l 63) 40) (.l 36)) 35) (.cons (.ex (.me .append (.l 62) (.tup (.cons (.l 36) (.cons (.l 93) (.cons (.l 54) .nil))))))
 .nil))
 .nil))
 (.cons (.ret (.l 62))
 .nil)))
noncomputable def I6:BT:=⟨.pure,[63,92],[62,36,93,54],I5⟩
noncomputable def H7:Ss:=
 (.cons (.g (.name 62) (.dict0 ζ ε))
 (.cons (.for (.tup (.cons (.name 36) (.cons (.name 93) (.cons (.name 54) .nil)))) ζ (.l 95) (.cons (.ife (.cmp .ge (.attr (.l 54) 31) (.i (.int 0))) (.cons (.g (.sub (.l 62) (.attr (.l 54) 31)) (.bin .add (.get (.l 62) (.attr (.l 54) 31) (.i (.int 0))) (.i (.int 1))))
 .nil) .nil)
 .nil))
 (.cons (.ret (.l 62))
 .nil)))
noncomputable def H8:BT:=⟨.fresh,[95],[62,36,93,54],H7⟩
noncomputable def Hr:Ss:=
 (.cons (.for (.tup (.cons (.name 56) (.cons (.name 58) .nil))) ζ (.attr (.l 54) 30) (.cons (.ife (.and (.cmp .eq (.l 56) (.i (.str 71))) (.cons (.cmp .isin (.l 58) (.l 97)) .nil)) (.cons (.ret (.i (.bool ζ)))
 .nil) .nil)
 .nil))
 (.cons (.ret (.i (.bool ε)))
 .nil))
noncomputable def Hs:BT:=⟨.pure,[54,97],[56,58],Hr⟩
noncomputable def G1:Ss:=
 (.cons (.ret (.comp ζ [97] [87] (.name 87) ζ (.l 95) (.cons (.and (.cmp .ge (.attr (.sub (.l 87) (.i (.int 2))) 31) (.i (.int 0))) (.cons (.cmp .eq (.sub (.l 97) (.attr (.sub (.l 87) (.i (.int 2))) 31)) (.i (.int 1))) (.cons (.call 61 (.cons (.sub (.l 87) (.i (.int 2))) .nil)) .nil))) .nil) (.last (.l 87))))
 .nil)
noncomputable def G2:BT:=⟨.pure,[95,97],[],G1⟩
noncomputable def Ga:Ss:=
 (.cons (.g (.name 62) (.list ε .nil))
 (.cons (.g (.name 101) (.comp ζ [77] [87] (.name 87) ζ (.l 95) (.cons (.cmp .notin (.attr (.sub (.l 87) (.i (.int 2))) 31) (.l 77)) .nil) (.last (.l 87))))
 (.cons (.g (.name 100) (.i (.bool ε)))
 (.cons (.whl (.l 100) (.cons (.g (.name 76) (.list ε .nil))
 (.cons (.for (.name 87) ζ (.l 101) (.cons (.ife (.call 98 (.cons (.sub (.l 87) (.i (.int 2))) (.cons (.l 97) .nil))) (.cons (.ex (.me .append (.l 62) (.l 87)))
 (.cons (.del (.l 97) (.attr (.sub (.l 87) (.i (.int 2))) 31))
 .nil)) (.cons (.ex (.me .append (.l 76) (.l 87)))
 .nil))
 .nil))
 (.cons (.g (.name 100) (.cmp .lt (.bi .len ζ (.cons (.l 76) .nil)) (.bi .len ζ (.cons (.l 101) .nil))))
 (.cons (.frz 76)
 (.cons (.g (.name 101) (.l 76))
 .nil))))))
 (.cons (.frz 62)
 (.cons (.ret (.l 62))
 .nil))))))
noncomputable def Gb:BT:=⟨.keep,[95,97,77],[62,101,100,76,87],Ga⟩
noncomputable def GC:Ss:=
 (.cons (.g (.name 97) (.call 96 (.cons (.l 95) .nil)))
 (.cons (.g (.name 103) (.call 99 (.cons (.l 95) (.cons (.l 97) .nil))))
 (.cons (.ife (.not (.bi .any ζ (.cons (.comp ζ [97] [87] (.name 87) ζ (.l 103) .nil (.last (.call 98 (.cons (.sub (.l 87) (.i (.int 2))) (.cons (.l 97) .nil))))) .nil))) (.cons (.ret (.list ζ .nil))
 .nil) .nil)
 (.cons (.g (.tup (.cons (.name 74) (.cons (.name 73) .nil))) (.call 84 (.cons (.l 63) .nil)))
 (.cons (.ret (.call 102 (.cons (.l 103) (.cons (.l 97) (.cons (.sub (.l 74) (.attr (.l 92) 52)) .nil)))))
 .nil)))))
noncomputable def GD:BT:=⟨.pure,[63,92,95],[97,103,74,73],GC⟩
noncomputable def I7:Ss:=
 (.cons (.ife (.cmp .notin (.attr (.l 54) 32) (.tup (.cons (.i (.str 16)) (.cons (.i (.str 17)) .nil)))) (.cons (.ret (.i (.none)))
 .nil) .nil)
 (.cons (.g (.tup (.cons (.name 105) (.cons (.name 79) .nil))) (.attr (.l 54) 30))
 (.cons (.ife (.and (.cmp .eq (.l 105) (.tup (.cons (.i (.str 71)) (.cons (.l 106) .nil)))) (.cons (.cmp .eq (.sub (.l 79) (.i (.int 0))) (.i (.str 57))) .nil)) (.cons (.ret (.ite (.cmp .eq (.attr (.l 54) 32) (.i (.str 16))) (.sub (.l 79) (.i (.int 1))) (.bin .band (.neg (.sub (.l 79) (.i (.int 1)))) (.glob 0))))
 .nil) .nil)
 (.cons (.ife (.and (.cmp .eq (.attr (.l 54) 32) (.i (.str 16))) (.cons (.cmp .eq (.l 79) (.tup (.cons (.i (.str 71)) (.cons (.l 106) .nil)))) (.cons (.cmp .eq (.sub (.l 105) (.i (.int 0))) (.i (.str 57))) .nil))) (.cons (.ret (.sub (.l 105) (.i (.int 1))))
 .nil) .nil)
 (.cons (.ret (.i (.none)))
 .nil)))))
noncomputable def I8:BT:=⟨.pure,[54,106],[105,79],I7⟩
noncomputable def H9:Ss:=
 (.cons (.g (.name 54) (.sub (.l 35) (.l 93)))
 (.cons (.ife (.or (.cmp .ne (.attr (.l 54) 32) (.i (.str 20))) (.cons (.cmp .ne (.sub (.sub (.attr (.l 54) 30) (.i (.int 0))) (.i (.int 0))) (.i (.str 71))) .nil)) (.cons (.ret (.call 107 (.cons (.l 54) (.cons (.attr (.l 54) 31) .nil))))
 .nil) .nil)
 (.cons (.g (.name 108) (.sub (.sub (.attr (.l 54) 30) (.i (.int 0))) (.i (.int 1))))
 (.cons (.g (.name 75) (.bin .sub (.l 93) (.i (.int 1))))
 (.cons (.whl (.and (.cmp .ge (.l 75) (.i (.int 0))) (.cons (.cmp .ne (.attr (.sub (.l 35) (.l 75)) 31) (.attr (.l 54) 31)) .nil)) (.cons (.ife (.cmp .eq (.attr (.sub (.l 35) (.l 75)) 31) (.l 108)) (.cons (.ret (.call 107 (.cons (.sub (.l 35) (.l 75)) (.cons (.attr (.l 54) 31) .nil))))
 .nil) .nil)
 (.cons (.aug 75 .sub (.i (.int 1)))
 .nil)))
 (.cons (.ret (.i (.none)))
 .nil))))))
noncomputable def H':BT:=⟨.pure,[35,93],[54,108,75],H9⟩
noncomputable def G3:Ss:=
 (.cons (.g (.name 62) (.bi .set0 ε .nil))
 (.cons (.g (.name 110) (.bi .set0 ε .nil))
 (.cons (.for (.tup (.cons (.name 36) (.cons (.name 93) (.cons (.name 54) .nil)))) ζ (.l 95) (.cons (.ife (.cmp .ge (.attr (.l 54) 31) (.i (.int 0))) (.cons (.ife (.cmp .is (.call 109 (.cons (.attr (.sub (.attr (.l 63) 40) (.l 36)) 35) (.cons (.l 93) .nil))) (.i (.none))) (.cons (.ex (.me .add (.l 110) (.attr (.l 54) 31)))
 .nil) (.cons (.ex (.me .add (.l 62) (.attr (.l 54) 31)))
 .nil))
 .nil) .nil)
 .nil))
 (.cons (.ret (.bin .sub (.l 62) (.l 110)))
 .nil))))
noncomputable def G4:BT:=⟨.pure,[63,95],[62,110,36,93,54],G3⟩
noncomputable def G5:Ss:=
 (.cons (.g (.name 112) (.sub (.attr (.l 63) 40) (.i (.int 0))))
 (.cons (.g (.name 36) (.bi .len ζ (.cons (.attr (.l 63) 40) .nil)))
 (.cons (.g (.name 113) (.new 37 1 ζ (.cons (.l 36) .nil)))
 (.cons (.g (.attr (.l 113) 35) (.attr (.l 112) 35))
 (.cons (.g (.attr (.l 113) 34) (.attr (.l 112) 34))
 (.cons (.ex (.me .append (.attr (.l 63) 40) (.l 113)))
 (.cons (.for (.name 49) ζ (.attr (.l 63) 40) (.cons (.g (.attr (.l 49) 34) (.call 91 (.cons (.attr (.l 49) 34) (.cons (.dict1 (.i (.int 0)) (.l 36)) .nil))))
 .nil))
 (.cons (.g (.attr (.l 112) 35) (.list ζ .nil))
 (.cons (.g (.attr (.l 112) 34) (.new 33 0 ε (.cons (.i (.str 48)) (.cons (.neg (.i (.int 1))) (.cons (.list ζ .nil) (.cons (.l 36) .nil))))))
 (.cons (.ret (.l 36))
 .nil))))))))))
noncomputable def G6:BT:=⟨.keep,[63],[112,36,113,49],G5⟩
noncomputable def G7:Ss:=
 (.cons (.g (.name 115) (.comp ζ [92] [36] (.name 36) ζ (.sub (.call 64 (.cons (.l 63) .nil)) (.attr (.l 92) 52)) (.cons (.cmp .notin (.l 36) (.attr (.l 92) 40)) .nil) (.last (.l 36))))
 (.cons (.ife (.and (.cmp .eq (.bi .len ζ (.cons (.l 115) .nil)) (.i (.int 1))) (.cons (.cmp .eq (.attr (.attr (.sub (.attr (.l 63) 40) (.sub (.l 115) (.i (.int 0)))) 34) 32) (.i (.str 48))) .nil)) (.cons (.ret (.sub (.attr (.l 63) 40) (.sub (.l 115) (.i (.int 0)))))
 .nil) .nil)
 (.cons (.g (.name 49) (.new 37 1 ζ (.cons (.bi .len ζ (.cons (.attr (.l 63) 40) .nil)) .nil)))
 (.cons (.g (.attr (.l 49) 34) (.new 33 0 ε (.cons (.i (.str 48)) (.cons (.neg (.i (.int 1))) (.cons (.list ζ .nil) (.cons (.attr (.l 92) 52) .nil))))))
 (.cons (.ex (.me .append (.attr (.l 63) 40) (.l 49)))
 (.cons (.for (.name 36) ζ (.l 115) (.cons (.g (.attr (.sub (.attr (.l 63) 40) (.l 36)) 34) (.call 91 (.cons (.attr (.sub (.attr (.l 63) 40) (.l 36)) 34) (.cons (.dict1 (.attr (.l 92) 52) (.attr (.l 49) 36)) .nil))))
 .nil))
 (.cons (.ret (.l 49))
 .nil)))))))
noncomputable def G8:BT:=⟨.keep,[63,92],[115,49,36],G7⟩
noncomputable def Kd:Ss:=
 (.cons (.g (.tup (.cons (.name 56) (.cons (.name 29) .nil))) (.tup (.cons (.bin .mod (.l 36) (.i (.int 12))) (.cons (.bin .fdiv (.l 36) (.i (.int 12))) .nil))))
 (.cons (.g (.name 105) (.bin .mod (.l 29) (.i (.int 3))))
 (.cons (.g (.name 79) (.bin .mod (.bin .add (.bin .add (.l 105) (.i (.int 1))) (.bin .mod (.bin .fdiv (.l 29) (.i (.int 3))) (.i (.int 2)))) (.i (.int 3))))
 (.cons (.g (.name 117) (.tup (.cons (.i (.str 57)) (.cons (.sub (.glob 6) (.bin .mod (.bin .fdiv (.l 29) (.i (.int 6))) (.i (.int 6)))) .nil))))
 (.cons (.g (.name 95) (.tup (.cons (.tup (.cons (.i (.str 16)) (.cons (.l 105) (.cons (.list ζ (.cons (.tup (.cons (.i (.str 71)) (.cons (.l 105) .nil))) (.cons (.l 117) .nil))) (.cons (.i (.int 0)) .nil))))) (.cons (.tup (.cons (.i (.str 17)) (.cons (.l 105) (.cons (.list ζ (.cons (.tup (.cons (.i (.str 71)) (.cons (.l 105) .nil))) (.cons (.l 117) .nil))) (.cons (.i (.int 0)) .nil))))) (.cons (.tup (.cons (.i (.str 16)) (.cons (.l 79) (.cons (.list ζ (.cons (.l 117) (.cons (.tup (.cons (.i (.str 71)) (.cons (.l 105) .nil))) .nil))) (.cons (.i (.int 0)) .nil))))) (.cons (.tup (.cons (.i (.str 20)) (.cons (.l 105) (.cons (.list ζ (.cons (.tup (.cons (.i (.str 71)) (.cons (.l 79) .nil))) .nil)) (.cons (.i (.int 0)) .nil))))) (.cons (.tup (.cons (.i (.str 21)) (.cons (.l 105) (.cons (.list ζ (.cons (.l 117) .nil)) (.cons (.i (.int 0)) .nil))))) (.cons (.tup (.cons (.i (.str 19)) (.cons (.i (.int 5)) (.cons (.list ζ (.cons (.tup (.cons (.i (.str 71)) (.cons (.i (.int 7)) .nil))) (.cons (.tup (.cons (.i (.str 71)) (.cons (.i (.int 8)) .nil))) .nil))) (.cons (.i (.int 0)) .nil))))) (.cons (.tup (.cons (.i (.str 16)) (.cons (.i (.int 6)) (.cons (.list ζ (.cons (.tup (.cons (.i (.str 71)) (.cons (.i (.int 5)) .nil))) (.cons (.l 117) .nil))) (.cons (.i (.int 0)) .nil))))) (.cons (.tup (.cons (.i (.str 18)) (.cons (.i (.int 9)) (.cons (.list ζ (.cons (.tup (.cons (.i (.str 71)) (.cons (.l 105) .nil))) (.cons (.l 117) .nil))) (.cons (.i (.int 0)) .nil))))) (.cons (.tup (.cons (.i (.str 10)) (.cons (.neg (.i (.int 1))) (.cons (.list ζ (.cons (.tup (.cons (.i (.str 71)) (.cons (.sub (.tup (.cons (.i (.int 5)) (.cons (.i (.int 6)) (.cons (.i (.int 9)) (.cons (.l 105) .nil))))) (.bin .mod (.bin .fdiv (.l 29) (.i (.int 3))) (.i (.int 4)))) .nil))) .nil)) (.cons (.i (.str 118)) .nil))))) (.cons (.tup (.cons (.i (.str 13)) (.cons (.i (.int 10)) (.cons (.list ζ (.cons (.tup (.cons (.i (.str 71)) (.cons (.i (.int 7)) .nil))) (.cons (.ite (.cmp .eq (.bin .mod (.l 29) (.i (.int 2))) (.i (.int 0))) (.l 117) (.tup (.cons (.i (.str 71)) (.cons (.i (.int 8)) .nil)))) .nil))) (.cons (.i (.int 0)) .nil))))) (.cons (.tup (.cons (.i (.str 17)) (.cons (.i (.int 5)) (.cons (.list ζ (.cons (.tup (.cons (.i (.str 71)) (.cons (.i (.int 8)) .nil))) (.cons (.l 117) .nil))) (.cons (.i (.int 0)) .nil))))) (.cons (.tup (.cons (.i (.str 16)) (.cons (.i (.int 10)) (.cons (.list ζ (.cons (.tup (.cons (.i (.str 71)) (.cons (.i (.int 6)) .nil))) (.cons (.tup (.cons (.i (.str 71)) (.cons (.i (.int 7)) .nil))) .nil))) (.cons (.i (.int 0)) .nil))))) .nil))))))))))))))
 (.cons (.ret (.sub (.l 95) (.l 56)))
 .nil))))))
noncomputable def Ke:BT:=⟨.pure,[36],[56,29,105,79,117,95],Kd⟩
noncomputable def G9:Ss:=
 (.cons (.g (.name 125) (.bin .mod (.sub (.l 89) (.i (.int 0))) (.i (.int 5))))
 (.cons (.g (.name 128) (.list ε (.cons (.list ε .nil) (.cons (.list ε .nil) .nil))))
 (.cons (.for (.tup (.cons (.name 93) (.cons (.name 36) .nil))) ε (.lo (.l 89) (.i (.int 3))) (.cons (.ex (.me .append (.sub (.l 128) (.ite (.cmp .lt (.l 125) (.i (.int 2))) (.bin .mod (.l 93) (.i (.int 2))) (.i (.int 1)))) (.call 119 (.cons (.l 36) .nil))))
 .nil))
 (.cons (.ex (.me .append (.sub (.l 128) (.i (.int 1))) (.tup (.cons (.i (.str 17)) (.cons (.i (.int 3)) (.cons (.list ζ (.cons (.tup (.cons (.i (.str 71)) (.cons (.i (.int 3)) .nil))) (.cons (.tup (.cons (.i (.str 57)) (.cons (.i (.int 1)) .nil))) .nil))) (.cons (.i (.int 0)) .nil)))))))
 (.cons (.g (.name 121) (.tup (.cons (.list ζ (.cons (.tup (.cons (.i (.str 10)) (.cons (.neg (.i (.int 1))) (.cons (.list ζ (.cons (.tup (.cons (.i (.str 71)) (.cons (.i (.int 0)) .nil))) .nil)) (.cons (.i (.str 118)) .nil))))) (.cons (.tup (.cons (.i (.str 10)) (.cons (.neg (.i (.int 1))) (.cons (.list ζ (.cons (.tup (.cons (.i (.str 71)) (.cons (.i (.int 5)) .nil))) .nil)) (.cons (.i (.str 118)) .nil))))) .nil))) (.cons (.tup (.cons (.i (.str 131)) (.cons (.list ζ (.cons (.tup (.cons (.i (.str 71)) (.cons (.i (.int 2)) .nil))) .nil)) (.cons (.i (.int 0)) .nil)))) .nil))))
 (.cons (.g (.tup (.cons (.name 127) (.cons (.name 126) .nil))) (.tup (.cons (.list ζ (.cons (.tup (.cons (.i (.str 71)) (.cons (.i (.int 3)) .nil))) .nil)) (.cons (.list ζ (.cons (.tup (.cons (.i (.str 71)) (.cons (.i (.int 4)) .nil))) .nil)) .nil))))
 (.cons (.g (.name 120) (.comp ε [] [130] (.name 130) ζ (.bi .range ζ (.cons (.i (.int 12)) .nil)) .nil (.last (.bin .add (.i (.int 50)) (.bin .mul (.bin .mul (.i (.int 1009)) (.l 130)) (.l 130))))))
 (.cons (.g (.tup (.cons (.sub (.l 120) (.i (.int 3))) (.cons (.sub (.l 120) (.i (.int 4))) .nil))) (.tup (.cons (.ite (.cmp .lt (.l 125) (.i (.int 2))) (.bin .mod (.sub (.l 89) (.i (.int 1))) (.i (.int 4))) (.bin .add (.i (.int 1)) (.bin .mod (.sub (.l 89) (.i (.int 1))) (.i (.int 3))))) (.cons (.bin .mod (.sub (.l 89) (.i (.int 2))) (.i (.int 4))) .nil))))
 (.cons (.ife (.cmp .eq (.l 125) (.i (.int 0))) (.cons (.g (.name 129) (.list ζ (.cons (.tup (.cons (.list ζ .nil) (.cons (.tup (.cons (.i (.str 48)) (.cons (.list ζ .nil) (.cons (.i (.int 1)) .nil)))) .nil))) (.cons (.tup (.cons (.sub (.l 128) (.i (.int 0))) (.cons (.tup (.cons (.i (.str 47)) (.cons (.l 127) (.cons (.tup (.cons (.i (.int 2)) (.cons (.i (.int 3)) .nil))) .nil)))) .nil))) (.cons (.tup (.cons (.sub (.l 128) (.i (.int 1))) (.cons (.tup (.cons (.i (.str 48)) (.cons (.list ζ .nil) (.cons (.i (.int 1)) .nil)))) .nil))) (.cons (.l 121) .nil))))))
 (.cons (.ret (.tup (.cons (.l 129) (.cons (.list ζ (.cons (.i (.int 1)) (.cons (.i (.int 2)) .nil))) (.cons (.l 120) .nil)))))
 .nil)) .nil)
 (.cons (.ife (.cmp .eq (.l 125) (.i (.int 1))) (.cons (.ret (.tup (.cons (.list ζ (.cons (.tup (.cons (.sub (.l 128) (.i (.int 0))) (.cons (.tup (.cons (.i (.str 47)) (.cons (.l 127) (.cons (.tup (.cons (.i (.int 1)) (.cons (.i (.int 2)) .nil))) .nil)))) .nil))) (.cons (.tup (.cons (.sub (.l 128) (.i (.int 1))) (.cons (.tup (.cons (.i (.str 48)) (.cons (.list ζ .nil) (.cons (.i (.int 0)) .nil)))) .nil))) (.cons (.l 121) .nil)))) (.cons (.list ζ (.cons (.i (.int 0)) (.cons (.i (.int 1)) .nil))) (.cons (.l 120) .nil)))))
 .nil) .nil)
 (.cons (.g (.name 122) (.tup (.cons (.sub (.l 128) (.i (.int 1))) (.cons (.tup (.cons (.i (.str 47)) (.cons (.l 127) (.cons (.tup (.cons (.ite (.cmp .lt (.l 125) (.i (.int 4))) (.i (.int 2)) (.i (.int 1))) (.cons (.ite (.cmp .lt (.l 125) (.i (.int 4))) (.i (.int 3)) (.i (.int 2))) .nil))) .nil)))) .nil))))
 (.cons (.g (.name 123) (.tup (.cons (.list ζ (.cons (.tup (.cons (.i (.str 16)) (.cons (.i (.int 0)) (.cons (.list ζ (.cons (.tup (.cons (.i (.str 71)) (.cons (.i (.int 0)) .nil))) (.cons (.tup (.cons (.i (.str 57)) (.cons (.i (.int 3)) .nil))) .nil))) (.cons (.i (.int 0)) .nil))))) .nil)) (.cons (.tup (.cons (.i (.str 48)) (.cons (.list ζ .nil) (.cons (.i (.int 2)) .nil)))) .nil))))
 (.cons (.ife (.cmp .eq (.l 125) (.i (.int 4))) (.cons (.ret (.tup (.cons (.list ζ (.cons (.tup (.cons (.list ζ .nil) (.cons (.tup (.cons (.i (.str 47)) (.cons (.l 126) (.cons (.tup (.cons (.i (.int 1)) (.cons (.i (.int 2)) .nil))) .nil)))) .nil))) (.cons (.l 122) (.cons (.l 121) .nil)))) (.cons (.list ζ (.cons (.i (.int 1)) .nil)) (.cons (.l 120) .nil)))))
 .nil) .nil)
 (.cons (.g (.name 124) (.ite (.cmp .eq (.l 125) (.i (.int 2))) (.tup (.cons (.i (.str 47)) (.cons (.l 126) (.cons (.tup (.cons (.i (.int 1)) (.cons (.i (.int 2)) .nil))) .nil)))) (.tup (.cons (.i (.str 46)) (.cons (.l 126) (.cons (.tup (.cons (.i (.int 0)) (.cons (.list ζ (.cons (.i (.int 1)) (.cons (.i (.int 2)) (.cons (.i (.int 1)) .nil)))) (.cons (.i (.int 2)) .nil)))) .nil))))))
 (.cons (.ret (.tup (.cons (.list ζ (.cons (.tup (.cons (.list ζ .nil) (.cons (.l 124) .nil))) (.cons (.l 123) (.cons (.l 122) (.cons (.l 121) .nil))))) (.cons (.list ζ (.cons (.i (.int 2)) .nil)) (.cons (.l 120) .nil)))))
 .nil)))))))))))))))
noncomputable def G':BT:=⟨.pure,[89],[125,128,93,36,121,127,126,120,129,122,123,124],G9⟩
noncomputable def I9:Ss:=
 (.cons (.g (.name 133) (.new 45 2 ζ (.cons (.i (.str 134)) .nil)))
 (.cons (.g (.tup (.cons (.attr (.l 133) 43) (.cons (.attr (.l 133) 39) (.cons (.attr (.l 133) 38) .nil)))) (.tup (.cons (.bi .list ζ (.cons (.bi .range ζ (.cons (.i (.int 12)) .nil)) .nil)) (.cons (.i (.int 12)) (.cons (.i (.bool ε)) .nil)))))
 (.cons (.for (.tup (.cons (.name 36) (.cons (.tup (.cons (.name 95) (.cons (.name 34) .nil))) .nil))) ε (.l 129) (.cons (.g (.name 49) (.new 37 1 ζ (.cons (.l 36) .nil)))
 (.cons (.g (.attr (.l 49) 35) (.comp ζ [] [32,31,30,29] (.tup (.cons (.name 32) (.cons (.name 31) (.cons (.name 30) (.cons (.name 29) .nil))))) ζ (.l 95) .nil (.last (.new 33 0 ε (.cons (.l 32) (.cons (.l 31) (.cons (.bi .list ζ (.cons (.l 30) .nil)) (.cons (.l 29) .nil))))))))
 (.cons (.g (.attr (.l 49) 34) (.new 33 0 ε (.cons (.sub (.l 34) (.i (.int 0))) (.cons (.neg (.i (.int 1))) (.cons (.bi .list ζ (.cons (.sub (.l 34) (.i (.int 1))) .nil)) (.cons (.sub (.l 34) (.i (.int 2))) .nil))))))
 (.cons (.ex (.me .append (.attr (.l 133) 40) (.l 49)))
 .nil)))))
 (.cons (.ret (.l 133))
 .nil))))
noncomputable def I_:BT:=⟨.keep,[129],[133,36,95,34,49],I9⟩
noncomputable def H_:Ss:=
 (.cons (.g (.name 129) (.list ε .nil))
 (.cons (.for (.name 49) ζ (.attr (.l 63) 40) (.cons (.g (.name 95) (.comp ζ [] [136] (.name 136) ζ (.attr (.l 49) 35) .nil (.last (.tup (.cons (.attr (.l 136) 32) (.cons (.attr (.l 136) 31) (.cons (.bi .list ζ (.cons (.attr (.l 136) 30) .nil)) (.cons (.attr (.l 136) 29) .nil))))))))
 (.cons (.ex (.me .append (.l 129) (.tup (.cons (.l 95) (.cons (.tup (.cons (.attr (.attr (.l 49) 34) 32) (.cons (.bi .list ζ (.cons (.attr (.attr (.l 49) 34) 30) .nil)) (.cons (.attr (.attr (.l 49) 34) 29) .nil)))) .nil)))))
 .nil)))
 (.cons (.ret (.l 129))
 .nil)))
noncomputable def Ia:BT:=⟨.pure,[63],[129,49,95],H_⟩
noncomputable def Ib:Ss:=
 (.cons (.g (.tup (.cons (.name 32) (.cons (.name 30) (.cons (.name 29) .nil)))) (.l 34))
 (.cons (.ife (.cmp .eq (.l 32) (.i (.str 48))) (.cons (.ret (.list ζ (.cons (.l 29) .nil)))
 .nil) .nil)
 (.cons (.ife (.cmp .eq (.l 32) (.i (.str 47))) (.cons (.ret (.bi .list ζ (.cons (.l 29) .nil)))
 .nil) .nil)
 (.cons (.ret (.ite (.cmp .eq (.l 32) (.i (.str 46))) (.bin .add (.bi .list ζ (.cons (.sub (.l 29) (.i (.int 1))) .nil)) (.list ζ (.cons (.sub (.l 29) (.i (.int 2))) .nil))) (.list ζ .nil)))
 .nil))))
noncomputable def Ic:BT:=⟨.pure,[34],[32,30,29],Ib⟩
noncomputable def Ie:Ss:=
 (.cons (.g (.tup (.cons (.name 32) (.cons (.name 31) (.cons (.name 30) (.cons (.name 29) .nil))))) (.l 87))
 (.cons (.g (.name 139) (.comp ζ [120] [56,140] (.tup (.cons (.name 56) (.cons (.name 140) .nil))) ζ (.l 30) .nil (.last (.ite (.cmp .eq (.l 56) (.i (.str 71))) (.sub (.l 120) (.l 140)) (.l 140)))))
 (.cons (.ife (.cmp .isin (.l 32) (.tup (.cons (.i (.str 16)) (.cons (.i (.str 17)) .nil)))) (.cons (.ret (.bin .mod (.ite (.cmp .eq (.l 32) (.i (.str 16))) (.bin .add (.sub (.l 139) (.i (.int 0))) (.sub (.l 139) (.i (.int 1)))) (.bin .sub (.sub (.l 139) (.i (.int 0))) (.sub (.l 139) (.i (.int 1))))) (.glob 4)))
 .nil) .nil)
 (.cons (.ife (.cmp .eq (.l 32) (.i (.str 18))) (.cons (.ret (.bin .mod (.bin .mul (.sub (.l 139) (.i (.int 0))) (.sub (.l 139) (.i (.int 1)))) (.glob 4)))
 .nil) .nil)
 (.cons (.ife (.cmp .eq (.l 32) (.i (.str 19))) (.cons (.ret (.bin .xor (.sub (.l 139) (.i (.int 0))) (.sub (.l 139) (.i (.int 1)))))
 .nil) .nil)
 (.cons (.ife (.cmp .eq (.l 32) (.i (.str 13))) (.cons (.ret (.ite (.cmp .gt (.sub (.l 139) (.i (.int 1))) (.i (.int 0))) (.bin .fdiv (.sub (.l 139) (.i (.int 0))) (.sub (.l 139) (.i (.int 1)))) (.bin .sub (.glob 4) (.i (.int 1)))))
 .nil) .nil)
 (.cons (.ret (.sub (.l 139) (.i (.int 0))))
 .nil)))))))
noncomputable def Ig:BT:=⟨.pure,[87,120],[32,31,30,29,139],Ie⟩
noncomputable def Ja:Ss:=
 (.cons (.g (.tup (.cons (.name 120) (.cons (.name 142) (.cons (.name 75) .nil)))) (.tup (.cons (.bi .list ε (.cons (.l 146) .nil)) (.cons (.list ε .nil) (.cons (.i (.int 0)) .nil)))))
 (.cons (.for (.name 143) ζ (.bi .range ζ (.cons (.i (.int 24)) .nil)) (.cons (.g (.tup (.cons (.name 95) (.cons (.name 34) .nil))) (.sub (.l 129) (.l 75)))
 (.cons (.for (.tup (.cons (.name 93) (.cons (.name 87) .nil))) ε (.l 95) (.cons (.g (.name 145) (.call 141 (.cons (.l 87) (.cons (.l 120) .nil))))
 (.cons (.ex (.me .append (.l 142) (.tup (.cons (.l 75) (.cons (.l 93) (.cons (.l 87) (.cons (.ite (.cmp .ge (.sub (.l 87) (.i (.int 1))) (.i (.int 0))) (.sub (.l 120) (.sub (.l 87) (.i (.int 1)))) (.i (.int 0))) (.cons (.l 145) .nil))))))))
 (.cons (.ife (.cmp .ge (.sub (.l 87) (.i (.int 1))) (.i (.int 0))) (.cons (.g (.sub (.l 120) (.sub (.l 87) (.i (.int 1)))) (.l 145))
 .nil) .nil)
 .nil))))
 (.cons (.g (.tup (.cons (.name 32) (.cons (.name 30) (.cons (.name 29) .nil)))) (.l 34))
 (.cons (.ife (.cmp .eq (.l 32) (.i (.str 131))) (.cons (.ret (.tup (.cons (.l 142) (.cons (.sub (.l 120) (.sub (.sub (.l 30) (.i (.int 0))) (.i (.int 1)))) .nil))))
 .nil) .nil)
 (.cons (.ife (.cmp .eq (.l 32) (.i (.str 47))) (.cons (.g (.name 75) (.ite (.cmp .ne (.sub (.l 120) (.sub (.sub (.l 30) (.i (.int 0))) (.i (.int 1)))) (.i (.int 0))) (.sub (.l 29) (.i (.int 0))) (.sub (.l 29) (.i (.int 1)))))
 .nil) (.cons (.ife (.cmp .eq (.l 32) (.i (.str 46))) (.cons (.g (.name 144) (.bin .sub (.sub (.l 120) (.sub (.sub (.l 30) (.i (.int 0))) (.i (.int 1)))) (.sub (.l 29) (.i (.int 0)))))
 (.cons (.g (.name 75) (.ite (.cmp2 .le .lt (.i (.int 0)) (.l 144) (.bi .len ζ (.cons (.sub (.l 29) (.i (.int 1))) .nil))) (.sub (.sub (.l 29) (.i (.int 1))) (.l 144)) (.sub (.l 29) (.i (.int 2)))))
 .nil)) (.cons (.g (.name 75) (.l 29))
 .nil))
 .nil))
 .nil))))))
 (.cons (.ret (.tup (.cons (.l 142) (.cons (.neg (.i (.int 1))) .nil))))
 .nil)))
noncomputable def Jb:BT:=⟨.pure,[129,146],[120,142,75,143,95,34,93,87,145,32,30,29,144],Ja⟩
noncomputable def Ih:Ss:=
 (.cons (.g (.tup (.cons (.name 149) (.cons (.name 148) .nil))) (.call 147 (.cons (.call 137 (.cons (.l 63) .nil)) (.cons (.l 146) .nil))))
 (.cons (.ret (.and (.cmp .eq (.l 148) (.l 69)) (.cons (.cmp .eq (.comp ζ [] [150] (.name 150) ζ (.l 149) .nil (.last (.lo (.l 150) (.i (.int 2))))) (.comp ζ [] [150] (.name 150) ζ (.l 142) .nil (.last (.lo (.l 150) (.i (.int 2)))))) .nil)))
 .nil))
noncomputable def Ii:BT:=⟨.pure,[63,146,142,69],[149,148],Ih⟩
noncomputable def Jc:Ss:=
 (.cons (.ret (.comp ζ [] [150] (.name 150) ζ (.l 142) (.cons (.cmp .eq (.sub (.sub (.l 150) (.i (.int 2))) (.i (.int 0))) (.i (.str 10))) .nil) (.last (.sub (.l 150) (.i (.int 4))))))
 .nil)
noncomputable def Jd:BT:=⟨.pure,[142],[],Jc⟩
noncomputable def G_:Ss:=
 (.cons (.g (.tup (.cons (.name 76) (.cons (.name 154) .nil))) (.tup (.cons (.list ε (.cons (.l 75) .nil)) (.cons (.dict0 ζ ε) .nil))))
 (.cons (.whl (.cmp .ne (.l 76) (.list ζ .nil)) (.cons (.g (.name 36) (.pop (.l 76)))
 (.cons (.ife (.cmp .isin (.l 36) (.l 154)) (.cons .cont
 .nil) .nil)
 (.cons (.g (.sub (.l 154) (.l 36)) (.i (.bool ε)))
 (.cons (.g (.tup (.cons (.name 95) (.cons (.name 34) .nil))) (.sub (.l 129) (.l 36)))
 (.cons (.g (.name 153) (.i (.bool ζ)))
 (.cons (.for (.tup (.cons (.name 32) (.cons (.name 31) (.cons (.name 30) (.cons (.name 29) .nil))))) ζ (.l 95) (.cons (.ife (.and (.not (.l 153)) (.cons (.cmp .isin (.tup (.cons (.i (.str 71)) (.cons (.l 130) .nil))) (.l 30)) .nil)) (.cons (.ret (.i (.bool ε)))
 .nil) .nil)
 (.cons (.g (.name 153) (.or (.l 153) (.cons (.cmp .eq (.l 31) (.l 130)) .nil)))
 .nil)))
 (.cons (.ife (.and (.not (.l 153)) (.cons (.cmp .isin (.tup (.cons (.i (.str 71)) (.cons (.l 130) .nil))) (.sub (.l 34) (.i (.int 1)))) .nil)) (.cons (.ret (.i (.bool ε)))
 .nil) .nil)
 (.cons (.ex (.me .extend (.l 76) (.ite (.l 153) (.list ζ .nil) (.call 138 (.cons (.l 34) .nil)))))
 .nil)))))))))
 (.cons (.ret (.i (.bool ζ)))
 .nil)))
noncomputable def Ha:BT:=⟨.pure,[129,75,130],[76,154,36,95,34,153,32,31,30,29],G_⟩
noncomputable def Ft:Ss:=
 (.cons (.g (.name 156) (.bi .len ζ (.cons (.attr (.l 63) 40) .nil)))
 (.cons (.g (.name 36) (.call 114 (.cons (.l 63) .nil)))
 (.cons (.g (.name 129) (.call 137 (.cons (.l 63) .nil)))
 (.cons (.ife (.or (.cmp .ne (.l 36) (.l 156)) (.cons (.cmp .ne (.bi .len ζ (.cons (.l 129) .nil)) (.bin .add (.l 156) (.i (.int 1)))) (.cons (.cmp .ne (.sub (.l 129) (.i (.int 0))) (.tup (.cons (.list ζ .nil) (.cons (.tup (.cons (.i (.str 48)) (.cons (.list ζ .nil) (.cons (.l 36) .nil)))) .nil)))) .nil))) (.cons (.ret (.i (.bool ζ)))
 .nil) .nil)
 (.cons (.ife (.cmp .ne (.comp ζ [] [95,34] (.tup (.cons (.name 95) (.cons (.name 34) .nil))) ζ (.l 129) (.cons (.cmp .isin (.i (.int 0)) (.call 138 (.cons (.l 34) .nil))) .nil) (.last (.l 34))) (.list ζ .nil)) (.cons (.ret (.i (.bool ζ)))
 .nil) .nil)
 (.cons (.ret (.call 151 (.cons (.l 63) (.cons (.l 146) (.cons (.l 142) (.cons (.l 69) .nil))))))
 .nil))))))
noncomputable def Fu:BT:=⟨.keep,[63,146,142,69],[156,36,129],Ft⟩
noncomputable def Fv:Ss:=
 (.cons (.g (.name 78) (.call 137 (.cons (.l 63) .nil)))
 (.cons (.g (.name 115) (.comp ζ [122,78] [75] (.name 75) ζ (.bi .range ζ (.cons (.bi .len ζ (.cons (.l 78) .nil)) .nil)) (.cons (.and (.cmp .notin (.l 75) (.l 122)) (.cons (.cmp .isin (.sub (.l 122) (.i (.int 0))) (.call 138 (.cons (.sub (.sub (.l 78) (.l 75)) (.i (.int 1))) .nil))) .nil)) .nil) (.last (.l 75))))
 (.cons (.g (.name 158) (.and (.cmp .eq (.bi .len ζ (.cons (.l 115) .nil)) (.i (.int 1))) (.cons (.cmp .eq (.sub (.sub (.sub (.l 78) (.sub (.l 115) (.i (.int 0)))) (.i (.int 1))) (.i (.int 0))) (.i (.str 48))) .nil)))
 (.cons (.g (.name 36) (.attr (.call 116 (.cons (.l 63) (.cons (.new 53 3 ε (.cons (.sub (.l 122) (.i (.int 0))) (.cons (.bi .set ζ (.cons (.l 122) .nil)) (.cons (.lo (.l 122) (.neg (.i (.int 1)))) .nil)))) .nil))) 36))
 (.cons (.g (.name 129) (.call 137 (.cons (.l 63) .nil)))
 (.cons (.ife (.or (.cmp .ne (.l 36) (.ite (.l 158) (.sub (.l 115) (.i (.int 0))) (.bi .len ζ (.cons (.l 78) .nil)))) (.cons (.cmp .ne (.bi .len ζ (.cons (.l 129) .nil)) (.bin .add (.bi .len ζ (.cons (.l 78) .nil)) (.bi .int ζ (.cons (.not (.l 158)) .nil)))) .nil)) (.cons (.ret (.neg (.i (.int 1))))
 .nil) .nil)
 (.cons (.ife (.cmp .ne (.comp ζ [122,129] [75] (.name 75) ζ (.bi .range ζ (.cons (.bi .len ζ (.cons (.l 129) .nil)) .nil)) (.cons (.and (.cmp .notin (.l 75) (.l 122)) (.cons (.cmp .isin (.sub (.l 122) (.i (.int 0))) (.call 138 (.cons (.sub (.sub (.l 129) (.l 75)) (.i (.int 1))) .nil))) .nil)) .nil) (.last (.l 75))) (.list ζ (.cons (.l 36) .nil))) (.cons (.ret (.neg (.i (.int 1))))
 .nil) .nil)
 (.cons (.ife (.or (.cmp .ne (.sub (.sub (.l 129) (.l 36)) (.i (.int 1))) (.tup (.cons (.i (.str 48)) (.cons (.list ζ .nil) (.cons (.sub (.l 122) (.i (.int 0))) .nil))))) (.cons (.cmp .ne (.comp ζ [129] [75] (.name 75) ζ (.l 122) .nil (.last (.sub (.l 129) (.l 75)))) (.comp ζ [78] [75] (.name 75) ζ (.l 122) .nil (.last (.sub (.l 78) (.l 75))))) .nil)) (.cons (.ret (.neg (.i (.int 1))))
 .nil) .nil)
 (.cons (.ret (.ite (.call 151 (.cons (.l 63) (.cons (.l 146) (.cons (.l 142) (.cons (.l 69) .nil))))) (.l 36) (.neg (.i (.int 1)))))
 .nil)))))))))
noncomputable def Fw:BT:=⟨.keep,[63,122,146,142,69],[78,115,158,36,129],Fv⟩
noncomputable def Gc:Ss:=
 (.cons (.g (.name 62) (.call 104 (.cons (.l 63) (.cons (.new 53 3 ε (.cons (.sub (.l 122) (.i (.int 0))) (.cons (.bi .set ζ (.cons (.l 122) .nil)) (.cons (.lo (.l 122) (.neg (.i (.int 1)))) .nil)))) (.cons (.call 94 (.cons (.l 63) (.cons (.new 53 3 ε (.cons (.sub (.l 122) (.i (.int 0))) (.cons (.bi .set ζ (.cons (.l 122) .nil)) (.cons (.lo (.l 122) (.neg (.i (.int 1)))) .nil)))) .nil))) .nil)))))
 (.cons (.g (.tup (.cons (.name 129) (.cons (.name 167) .nil))) (.tup (.cons (.call 137 (.cons (.l 63) .nil)) (.cons (.comp ζ [] [136] (.name 136) ζ (.l 62) .nil (.last (.hi (.l 136) (.i (.int 2))))) .nil))))
 (.cons (.g (.name 101) (.comp ε [] [95,34] (.tup (.cons (.name 95) (.cons (.name 34) .nil))) ζ (.l 129) .nil (.last (.bi .list ζ (.cons (.l 95) .nil)))))
 (.cons (.g (.name 166) (.comp ζ [129] [36,93] (.tup (.cons (.name 36) (.cons (.name 93) .nil))) ζ (.l 167) .nil (.last (.sub (.sub (.sub (.l 129) (.l 36)) (.i (.int 0))) (.l 93)))))
 (.cons (.for (.name 36) ζ (.l 122) (.cons (.g (.sub (.l 101) (.l 36)) (.comp ζ [167,36] [93,87] (.tup (.cons (.name 93) (.cons (.name 87) .nil))) ε (.sub (.sub (.l 129) (.l 36)) (.i (.int 0))) (.cons (.cmp .notin (.tup (.cons (.l 36) (.cons (.l 93) .nil))) (.l 167)) .nil) (.last (.l 87))))
 .nil))
 (.cons (.g (.sub (.l 101) (.l 77)) (.bin .add (.sub (.l 101) (.l 77)) (.l 166)))
 (.cons (.g (.tup (.cons (.name 149) (.cons (.name 148) .nil))) (.call 147 (.cons (.comp ζ [101,129] [75] (.name 75) ζ (.bi .range ζ (.cons (.bi .len ζ (.cons (.l 129) .nil)) .nil)) .nil (.last (.tup (.cons (.sub (.l 101) (.l 75)) (.cons (.sub (.sub (.l 129) (.l 75)) (.i (.int 1))) .nil))))) (.cons (.l 146) .nil))))
 (.cons (.ife (.or (.cmp .ne (.l 148) (.l 69)) (.cons (.cmp .ne (.call 152 (.cons (.l 149) .nil)) (.call 152 (.cons (.l 142) .nil))) .nil)) (.cons (.ret (.i (.bool ζ)))
 .nil) .nil)
 (.cons (.g (.tup (.cons (.name 164) (.cons (.name 165) .nil))) (.tup (.cons (.sub (.call 147 (.cons (.l 129) (.cons (.l 146) .nil))) (.i (.int 0))) (.cons (.dict0 ε ε) .nil))))
 (.cons (.for (.name 150) ζ (.l 149) (.cons (.ife (.and (.cmp .eq (.sub (.l 150) (.i (.int 0))) (.l 77)) (.cons (.cmp .ge (.sub (.l 150) (.i (.int 1))) (.bin .sub (.bi .len ζ (.cons (.sub (.l 101) (.l 77)) .nil)) (.bi .len ζ (.cons (.l 166) .nil)))) .nil)) (.cons (.g (.sub (.l 165) (.sub (.l 167) (.bin .add (.bin .sub (.sub (.l 150) (.i (.int 1))) (.bi .len ζ (.cons (.sub (.l 101) (.l 77)) .nil))) (.bi .len ζ (.cons (.l 166) .nil))))) (.sub (.l 150) (.i (.int 4))))
 .nil) .nil)
 .nil))
 (.cons (.ife (.cmp .ne (.comp ζ [165] [150] (.name 150) ζ (.l 164) (.cons (.and (.cmp .isin (.hi (.l 150) (.i (.int 2))) (.l 165)) (.cons (.cmp .ne (.sub (.l 150) (.i (.int 4))) (.sub (.l 165) (.hi (.l 150) (.i (.int 2))))) .nil)) .nil) (.last (.l 150))) (.list ζ .nil)) (.cons (.ret (.i (.bool ζ)))
 .nil) .nil)
 (.cons (.g (.name 160) (.comp ζ [101] [36,87] (.name 36) ζ (.l 122) .nil (.cons (.name 87) ζ (.sub (.l 101) (.l 36)) .nil (.last (.l 87)))))
 (.cons (.g (.name 162) (.comp ζ [129] [36,87] (.name 36) ζ (.l 122) .nil (.cons (.name 87) ζ (.sub (.sub (.l 129) (.l 36)) (.i (.int 0))) .nil (.last (.sub (.l 87) (.i (.int 1)))))))
 (.cons (.g (.name 163) (.comp ζ [] [87] (.name 87) ζ (.l 160) .nil (.last (.sub (.l 87) (.i (.int 1))))))
 (.cons (.for (.name 87) ζ (.l 160) (.cons (.g (.name 161) (.or (.cmp .isin (.sub (.l 87) (.i (.int 0))) (.glob 7)) (.cons (.and (.cmp .eq (.sub (.l 87) (.i (.int 0))) (.i (.str 13))) (.cons (.cmp .eq (.sub (.sub (.sub (.l 87) (.i (.int 2))) (.i (.int 1))) (.i (.int 0))) (.i (.str 57))) .nil)) .nil)))
 (.cons (.ife (.and (.l 161) (.cons (.cmp .eq (.me .count (.l 162) (.sub (.l 87) (.i (.int 1)))) (.i (.int 1))) (.cons (.not (.call 155 (.cons (.l 129) (.cons (.sub (.l 122) (.i (.int 0))) (.cons (.sub (.l 87) (.i (.int 1))) .nil))))) .nil))) (.cons (.ife (.cmp .eq (.comp ζ [163] [56,140] (.tup (.cons (.name 56) (.cons (.name 140) .nil))) ζ (.sub (.l 87) (.i (.int 2))) (.cons (.and (.cmp .eq (.l 56) (.i (.str 71))) (.cons (.cmp .isin (.l 140) (.l 163)) .nil)) .nil) (.last (.l 140))) (.list ζ .nil)) (.cons (.ret (.i (.bool ζ)))
 .nil) .nil)
 .nil) .nil)
 .nil)))
 (.cons (.ret (.i (.bool ε)))
 .nil))))))))))))))))
noncomputable def Ge:BT:=⟨.pure,[63,122,77,146,142,69],[62,129,167,101,166,36,149,148,164,165,150,160,162,163,87,161],Gc⟩
noncomputable def EJ:Ss:=
 (.cons (.g (.name 62) (.call 111 (.cons (.l 63) (.cons (.call 94 (.cons (.l 63) (.cons (.new 53 3 ε (.cons (.sub (.l 122) (.i (.int 0))) (.cons (.bi .set ζ (.cons (.l 122) .nil)) (.cons (.lo (.l 122) (.neg (.i (.int 1)))) .nil)))) .nil))) .nil))))
 (.cons (.g (.tup (.cons (.name 129) (.cons (.name 172) .nil))) (.tup (.cons (.call 137 (.cons (.l 63) .nil)) (.cons (.dict0 ε ε) .nil))))
 (.cons (.for (.tup (.cons (.name 36) (.cons (.name 93) (.cons (.name 87) (.cons (.name 171) (.cons (.name 145) .nil)))))) ζ (.l 142) (.cons (.ife (.and (.cmp .isin (.l 36) (.l 122)) (.cons (.cmp .isin (.sub (.l 87) (.i (.int 1))) (.l 62)) .nil)) (.cons (.ife (.cmp .ne (.setdef (.l 172) (.tup (.cons (.l 36) (.cons (.l 93) .nil))) (.bin .mod (.bin .sub (.l 145) (.l 171)) (.glob 4))) (.bin .mod (.bin .sub (.l 145) (.l 171)) (.glob 4))) (.cons (.ret (.i (.bool ζ)))
 .nil) .nil)
 .nil) .nil)
 .nil))
 (.cons (.g (.name 95) (.comp ζ [129] [36,87] (.name 36) ζ (.l 122) .nil (.cons (.name 87) ζ (.sub (.sub (.l 129) (.l 36)) (.i (.int 0))) .nil (.last (.l 87)))))
 (.cons (.for (.name 130) ζ (.bi .sorted ζ (.cons (.bi .set ζ (.cons (.comp ζ [] [87] (.name 87) ζ (.l 95) (.cons (.cmp .ge (.sub (.l 87) (.i (.int 1))) (.i (.int 0))) .nil) (.last (.sub (.l 87) (.i (.int 1))))) .nil)) .nil)) (.cons (.g (.name 169) (.comp ζ [130] [87] (.name 87) ζ (.l 95) (.cons (.cmp .eq (.sub (.l 87) (.i (.int 1))) (.l 130)) .nil) (.last (.l 87))))
 (.cons (.g (.name 170) (.comp ζ [130] [87] (.name 87) ζ (.l 169) (.cons (.and (.cmp .isin (.sub (.l 87) (.i (.int 0))) (.tup (.cons (.i (.str 16)) (.cons (.i (.str 17)) .nil)))) (.cons (.cmp .eq (.sub (.sub (.l 87) (.i (.int 2))) (.i (.int 0))) (.tup (.cons (.i (.str 71)) (.cons (.l 130) .nil)))) (.cons (.cmp .eq (.sub (.sub (.sub (.l 87) (.i (.int 2))) (.i (.int 1))) (.i (.int 0))) (.i (.str 57))) .nil))) .nil) (.last (.l 87))))
 (.cons (.ife (.and (.cmp .eq (.bi .len ζ (.cons (.l 170) .nil)) (.bi .len ζ (.cons (.l 169) .nil))) (.cons (.cmp .notin (.l 130) (.l 62)) .nil)) (.cons (.ret (.i (.bool ζ)))
 .nil) .nil)
 (.cons (.ife (.and (.cmp .ne (.comp ζ [] [87] (.name 87) ζ (.l 169) (.cons (.cmp .isin (.sub (.l 87) (.i (.int 0))) (.tup (.cons (.i (.str 21)) (.cons (.i (.str 19)) (.cons (.i (.str 18)) (.cons (.i (.str 13)) .nil)))))) .nil) (.last (.l 87))) (.list ζ .nil)) (.cons (.cmp .isin (.l 130) (.l 62)) .nil)) (.cons (.ret (.i (.bool ζ)))
 .nil) .nil)
 .nil)))))
 (.cons (.ret (.i (.bool ε)))
 .nil))))))
noncomputable def EK:BT:=⟨.pure,[63,122,142],[62,129,172,36,93,87,171,145,95,130,169,170],EJ⟩
noncomputable def oz:Ss:=
 (.cons (.g (.name 89) (.comp ζ [] [36] (.name 36) ζ (.hi (.l 174) (.i (.int 12))) .nil (.last (.bin .mod (.bi .abs ζ (.cons (.bi .int ζ (.cons (.l 36) .nil)) .nil)) (.i (.int 2147483647))))))
 (.cons (.g (.name 89) (.bin .add (.l 89) (.bi .list ζ (.cons (.lo (.glob 5) (.bi .len ζ (.cons (.l 89) .nil))) .nil))))
 (.cons (.g (.tup (.cons (.name 129) (.cons (.name 122) (.cons (.name 146) .nil)))) (.call 132 (.cons (.l 89) .nil)))
 (.cons (.g (.tup (.cons (.name 142) (.cons (.name 69) .nil))) (.call 147 (.cons (.l 129) (.cons (.l 146) .nil))))
 (.cons (.ife (.not (.call 157 (.cons (.call 135 (.cons (.l 129) .nil)) (.cons (.l 146) (.cons (.l 142) (.cons (.l 69) .nil)))))) (.cons (.ret (.i (.bool ζ)))
 .nil) .nil)
 (.cons (.g (.name 63) (.call 135 (.cons (.l 129) .nil)))
 (.cons (.ife (.cmp .eq (.sub (.l 122) (.i (.int 0))) (.i (.int 0))) (.cons (.g (.name 36) (.call 114 (.cons (.l 63) .nil)))
 (.cons (.g (.name 122) (.bin .add (.list ζ (.cons (.l 36) .nil)) (.lo (.l 122) (.i (.int 1)))))
 .nil)) .nil)
 (.cons (.g (.name 77) (.call 159 (.cons (.l 63) (.cons (.l 122) (.cons (.l 146) (.cons (.l 142) (.cons (.l 69) .nil)))))))
 (.cons (.ife (.or (.cmp .lt (.l 77) (.i (.int 0))) (.cons (.not (.call 168 (.cons (.l 63) (.cons (.l 122) (.cons (.l 77) (.cons (.l 146) (.cons (.l 142) (.cons (.l 69) .nil)))))))) .nil)) (.cons (.ret (.i (.bool ζ)))
 .nil) .nil)
 (.cons (.ret (.call 173 (.cons (.l 63) (.cons (.l 122) (.cons (.sub (.call 147 (.cons (.call 137 (.cons (.l 63) .nil)) (.cons (.l 146) .nil))) (.i (.int 0))) .nil)))))
 .nil))))))))))
noncomputable def iF:BT:=⟨.keep,[174],[89,129,122,146,142,69,63,36,77],oz⟩
noncomputable def gX:List (Nat×BT):=[(33,HT),(37,Ho),(45,HV),(50,HY),(53,H0),(55,Hq),(60,H4),(61,I2),(64,N0),(68,H6),(72,I4),(84,P9),(85,G0),(91,Kc),(94,I6),(96,H8),(98,Hs),(99,G2),(102,Gb),(104,GD),(107,I8),(109,H'),(111,G4),(114,G6),(116,G8),(119,Ke),(132,G'),(135,I_),(137,Ia),(138,Ic),(141,Ig),(147,Jb),(151,Ii),(152,Jd),(155,Ha),(157,Fu),(159,Fw),(168,Ge),(173,EK),(175,iF)]
noncomputable def fB:List Nat:=[26,28,29,30,31,32,34,35,36,38,39,40,41,42,43,44,51,52]
noncomputable def oA:List Nat:=[50,55,60,61,64,68,72,84,85,91,94,96,98,99,102,104,107,109,111,114,116,119,132,135,137,138,141,147,151,152,155,157,159,168,173,175]
noncomputable def oB:List (Nat×Nat):=[(33,0),(37,1),(45,2),(53,3)]
end Mine
end
section
open PySem PySem.W PyProof.Rows
namespace Mine
section
set_option backward.match.sparseCases false
noncomputable def nm(n:Nat):ψ:=((Do[n]?).getD "":String)
structure Wd where
 prog:da
 w:aM
 K:cJ
 H:Ξ
 KH:K.In H
 cls:Nat->υ
 mg:ψ->Option ι
 mb:ψ->Option ι
abbrev Wd.M(X:Wd):Model:=model X.prog X.w
inductive fy(X:Wd):List fV->List Nat->List ι->Prop
 |nil:fy X [] [] []
 |cons {es ks vs} (k:Nat) (t:aZ) (v:ι):k<Do.length->k∉ks->fy X es ks vs->
   fy X (⟨fR X.w.params (nm k),.str (nm k) t,v⟩::es) (k::ks) (v::vs)
abbrev Wd.pk(X:Wd):HeapKind X.prog X.w (List Int):=tupleKind (aH X.prog X.w)
def ff(X:Wd) (o:af) (ks:List (Int×Int)) (vs:List ι):Prop:=∃(xs:List (List Int×υ×ι)) (es:Array fV) (ep:Nat),o.ExactDict/\o.data= .dict es ep/\
 es.toList=xs.map (entryOfKey X.pk)/\xs.map (·.1)=ks.map (λk=>[k.1,k.2])/\ks.Nodup/\vs=xs.map (λx=>Value.ref x.2.1)++xs.map (·.2.2)
def q9(X:Wd) (o:af) (ks:List Nat):Prop:=∃f:ψ->Option ι,(∃es ep,o.ExactDict/\o.data= .dict es ep/\KeysOf (strKind X.prog X.w) es/\∀k,findBy (strKind X.prog X.w).is es k=f k)/\∀n,n<Do.length->(f (nm n)).isSome=ks.contains n
def CL(o:af) (n:Nat):Prop:=n<=1000/\∃t u v,o={cls:=.type "range",dict:=η,data:=.fields #[.int 0 t,.int (n:Int) u,.int 1 v],slots:=#[]}
def js(cls:String) (o:af) (vs:List ι):Prop:=∃n,o={cls:=.type cls,dict:=η,data:=.seq vs.toArray n,slots:=#[]}
def cF(X:Wd)(o:af)(x:CV)(vs:List ι):Prop:=match x with
 |.tup _=>js "tuple" o vs
 |.list _=>js "list" o vs
 |.wlist l=>vs=[]/\o.cls= .type "list"/\∃us n,o.data= .seq us n/\cP us.toList l
 |.set l=>vs=[]/\a_ X.w o l
 |.dict ks _=>δ ks=δ vs/\o.IsDictOf (aH X.prog X.w) (ks.zip vs)
 |.pdict ks _=>ff X o ks vs
 |.sdict ks _=>∃es n,o={cls:=.type "dict",data:=.dict es n}/\fy X es.toList ks vs
 |.kdict ks=>vs=[]/\q9 X o ks
 |.inst c _=>c<4/\∃d,vs=[.ref d]/\o=dT (X.cls c) d
 |.rng n=>vs=[]/\CL o n
 |_=>False
structure py where
 I:υ->Prop
 J:υ->Prop
 μ:List υ
mutual
inductive ch(X:Wd) (h:Ξ) (m:py):CV->ι->Prop
 |none:ch X h m .none .none
 |bool (b:Bool):ch X h m (.bool b) (.bool b)
 |int (i:Int) (t:aZ):ch X h m (.int i) (.int i t)
 |str (n:Nat) (t:aZ):n<Do.length->ch X h m (.str n) (.str (nm n) t)
 |ref (n:Nat) (a:υ):m.μ[n]? =γ a->ch X h m (.ref n) (.ref a)
 |obj {x:CV} {a:υ} {o:af} {vs:List ι}:m.I a->a≠aF->h.get? a=γ o->cF X o x vs->ce X h m x.kids vs->ch X h m x (.ref a)
 |lend {x:CV} {a:υ} {o:af} {vs:List ι}:m.J a->a≠aF->h.get? a=γ o->cF X o x vs->ce X h m x.kids vs->ch X h m (.lend x) (.ref a)
inductive ce(X:Wd) (h:Ξ) (m:py):List CV->List ι->Prop
 |nil:ce X h m [] []
 |cons {x v xs vs}:ch X h m x v->ce X h m xs vs->ce X h m (x::xs) (v::vs)
end
variable {X:Wd}{h h' TY:Ξ}{m m' Vc:py}{c c':ad}{s s' s'':ν}
structure Up(h:Ξ) (m:py) (h':Ξ) (m':py):Prop where
 i:∀a o,m.I a->h.get? a=γ o->m'.I a/\h'.get? a=γ o
 j:∀a o,m.J a->h.get? a=γ o->m'.J a/\h'.get? a=γ o
 μ:∀(n:Nat) a,m.μ[n]? =γ a->m'.μ[n]? =γ a
theorem ch.up(u:Up h m h' m')(r:ch X h m x v):ch X h' m' x v:=
 ch.rec (motive_1:=λx v _=>ch X h' m' x v) (motive_2:=λx v _=>ce X h' m' x v) .none .bool .int .str (λn a e=>.ref n a (u.μ n a e))
  (λi q e y _ r=>.obj (u.i _ _ i e).1 q (u.i _ _ i e).2 y r) (λi q e y _ r=>.lend (u.j _ _ i e).1 q (u.j _ _ i e).2 y r) .nil (λ_ _ a b=>.cons a b) r
theorem ce.up(u:Up h m h' m')(r:ce X h m x v):ce X h' m' x v:=
 ce.rec (motive_1:=λx v _=>ch X h' m' x v) (motive_2:=λx v _=>ce X h' m' x v) .none .bool .int .str (λn a e=>.ref n a (u.μ n a e))
  (λi q e y _ r=>.obj (u.i _ _ i e).1 q (u.i _ _ i e).2 y r) (λi q e y _ r=>.lend (u.j _ _ i e).1 q (u.j _ _ i e).2 y r) .nil (λ_ _ a b=>.cons a b) r
structure jL(X:Wd) (h:Ξ) (I:υ->Prop):Prop where
 hIn:∀a o,X.H.get? a=γ o->h.get? a=γ o
 hI:∀a o,X.H.get? a=γ o->I a
 g:h.Ns c8 X.mg
 gI:I c8
 b:h.Ns lC X.mb
 bI:I lC
 lim:h.NoLimit
 limI:I cStatics
theorem jL.up(G:jL X h I)(k:∀a o,I a->h.get? a=γ o->I' a/\h'.get? a=γ o):jL X h' I':=by
 obtain⟨o1,Us,XB,h1,r1⟩:=G.g;obtain⟨o2,Wz,YG,h2,r2⟩:=G.b;obtain⟨mc,⟨o3,es3,ep3,h3,r3⟩,q⟩:=G.lim;exact⟨λa o e=>(k a o (G.hI a o e) (G.hIn a o e)).2,λa o e=>(k a o (G.hI a o e) (G.hIn a o e)).1,⟨o1,Us,XB,(k _ _ G.gI h1).2,r1⟩,(k _ _ G.gI h1).1,
  ⟨o2,Wz,YG,(k _ _ G.bI h2).2,r2⟩,(k _ _ G.bI h2).1,⟨mc,⟨o3,es3,ep3,(k _ _ G.limI h3).2,r3⟩,q⟩,(k _ _ G.limI h3).1⟩
theorem jL.kIn(G:jL X h I):X.K.In h:=λa o e=>G.hIn a o (X.KH a o e)
theorem jL.kI(G:jL X h I):∀a o,X.K.lookup a=γ o->I a:=λa o e=>G.hI a o (X.KH a o e)
def oC(X:Wd) (h:Ξ) (m:py) (a:υ) (x:CV):Prop:=∃o vs,h.get? a=γ o/\cF X o x vs/\ce X h m x.kids vs
structure AC(X:Wd) (h:Ξ) (m:py) (c:ad):Prop where
 len:m.μ.length=c.length
 nodup:m.μ.Nodup
 cell:∀(n:Nat) a x,m.μ[n]? =γ a->c[n]? =γ (γ x)->oC X h m a x
 hasI:∀a,m.I a->∃o,h.get? a=γ o
 hasM:∀a,a∈m.μ->¬m.I a/\a≠aF/\∃o,h.get? a=γ o
 hasJ:∀a,m.J a->a∉m.μ/\∃o,h.get? a=γ o
 gnd:jL X h m.I
 sys:∃o,h.get? aF=γ o
structure gl(O:υ->Prop) (s:ν) (m:py) (s':ν) (m':py):Prop where
 keep:∀a o,s.heap.get? a=γ o->¬O a->a∉m.μ->s'.heap.get? a=γ o
 alive:∀a o,s.heap.get? a=γ o->∃o',s'.heap.get? a=γ o'
 imm:∀a,m.I a->m'.I a
 new:∀a o,s.heap.get? a=γ o->m'.I a->m.I a\/a∈m.μ
 pre:∀(n:Nat) a,m.μ[n]? =γ a->m'.μ[n]? =γ a
 ext:∀a o,s.heap.get? a=γ o->a∈m'.μ->a∈m.μ
 j:m'.J=m.J
 gens:s'.gens=s.gens
 os:s'.os=s.os
theorem gl.refl:gl O s m s m:=⟨λ_ _ e _ _=>e,λ_ o e=>⟨o,e⟩,λ_ i=>i,λ_ _ _ i=>.inl i,λ_ _ e=>e,λ_ _ _ i=>i,rfl,rfl,rfl⟩
theorem gl.trans(p:gl O s m s' m')(q:gl O s' m' s'' Vc):gl O s m s'' Vc where
 keep a o e no im:=q.keep a o (p.keep a o e no im) no λk=>im (p.ext a o e k)
 alive a o e:=(SZ (p.alive a o e) λo' e'=>q.alive a o' e')
 imm a i:=q.imm a (p.imm a i)
 new a o e i:=let⟨o',e'⟩:=p.alive a o e;(q.new a o' e' i).elim (p.new a o e) (λk=>.inr (p.ext a o e k))
 pre n a e:=q.pre n a (p.pre n a e)
 ext a o e k:=let⟨o',e'⟩:=p.alive a o e;p.ext a o e (q.ext a o' e' k)
 j:=q.j.trans p.j
 gens:=q.gens.trans p.gens
 os:=q.os.trans p.os
theorem gl.weak(p:gl O s m s' m')(k:∀a o,s.heap.get? a=γ o->O a->O' a):gl O' s m s' m':=
 {p with keep:=λa o e no im=>p.keep a o e (λx=>no (k a o e x)) im}
theorem gl.up(p:gl O s m s' m')(V:AC X s.heap m c)(d:∀a,O a->¬m.I a/\¬m.J a):Up s.heap m s'.heap m':=
 ⟨λa o i e=>⟨p.imm a i,p.keep a o e (λx=>(d a x).1 i) λk=>(V.hasM a k).1 i⟩,λa o i e=>⟨p.j▸i,p.keep a o e (λx=>(d a x).2 i) (V.hasJ a i).1⟩,p.pre⟩
abbrev No:υ->Prop:=λ_=>False
theorem gl.upN(p:gl No s m s' m')(V:AC X s.heap m c):Up s.heap m s'.heap m':=p.up V λ_ x=>x.elim
inductive dC(h:Ξ) (env:aa) (x:ψ) (v:ι):Prop
 |l (k:env.kindOf x=γ .local) (m):h.Ns env.locals m->m x=γ v->dC h env x v
 |cell (k:env.kindOf x=γ .cell\/env.kindOf x=γ .free) (a:υ) (o:af):env.cells.lookup x=γ a->h.get? a=γ o->o.data= .cell (γ v)->dC h env x v
def Fa(env:aa) (a:υ):Prop:=a=env.locals\/∃x,(x,a)∈env.cells
def dJ(env:aa) (a:υ):Prop:=a=env.locals\/∃x,(x,a)∈env.cells/\env.kindOf x=γ .cell
structure jt(X:Wd) (h:Ξ) (m:py) (env:aa) (l:L):Prop where
 kind:env.scope.kind= .function
 glob:env.globals=c8
 blt:env.builtins=lC
 ns:∃mm,h.Ns env.locals mm
 cells:∀x a,(x,a)∈env.cells->∃o v,h.get? a=γ o/\o.data= .cell v/\a≠env.locals
 inj:∀x y a,(x,a)∈env.cells->(y,a)∈env.cells->x=y
 all:∀x,env.kindOf x=γ .cell->∃a,env.cells.lookup x=γ a
 apart:∀a,Fa env a->¬m.I a/\a∉m.μ/\¬m.J a
 var:∀n cv,pc l n=γ cv->n<Do.length/\∃v,dC h env (nm n) v/\ch X h m cv v
 code:∃q,X.H.CodeRec env.code q
theorem dC.keep(p:dC h env x v)(k:∀a o,Fa env a->h.get? a=γ o->h'.get? a=γ o):dC h' env x v:=by
 induction p with
 |l kk m n e=>obtain⟨o,es,ep,ho,r⟩:=n;exact .l kk m ⟨o,es,ep,k _ _ (.inl TK) ho,r⟩ e
 |cell kk a o e ho d=>refine eI (pz.mp e) λl1 l2 q _=>?_;exact .cell kk a o e (k _ _ (.inr ⟨x,q▸aI _ (.head _)⟩) ho) d
theorem jt.has(R:jt X h m env l)(f:Fa env a):∃o,h.get? a=γ o:=by
 rcases f with rfl|⟨x,e⟩
 ·exact(by obtain⟨_,o,_,_,ho,_⟩:=R.ns;exact⟨o,ho⟩)
 ·exact(eI (R.cells x a e) λo _ ho _=>⟨o,ho⟩)
theorem jt.keep(R:jt X s.heap m env l)(p:gl No s m s' m')(V:AC X s.heap m c):jt X s'.heap m' env l:=by
 have k:∀a o,Fa env a->s.heap.get? a=γ o->s'.heap.get? a=γ o:=λa o f e=>p.keep a o e (λx=>x) (R.apart a f).2.1;refine⟨R.kind,R.glob,R.blt,?_,λx a e=>(by obtain⟨o,v,ho,d,ne⟩:=R.cells x a e;exact⟨o,v,k a o (.inr ⟨x,e⟩) ho,d,ne⟩),R.inj,R.all,λa f=>?_,λn cv e=>(by obtain⟨b,v,va,r⟩:=R.var n cv e;exact⟨b,v,va.keep k,r.up (p.upN V)⟩),R.code⟩
 ·exact(by obtain⟨mm,o,es,ep,ho,r⟩:=R.ns;exact⟨mm,o,es,ep,k _ _ (.inl TK) ho,r⟩)
 ·refine SZ (R.has f) λo ho=>?_;exact⟨λi=>(p.new a o ho i).elim (R.apart a f).1 (R.apart a f).2.1,λe=>(R.apart a f).2.1 (p.ext a o ho e),p.j▸(R.apart a f).2.2⟩
structure Ok(X:Wd) (env:aa) (l:L) (s:ν) (m:py) (c:ad):Prop where
 V:AC X s.heap m c
 F:jt X s.heap m env l
theorem Ok.go(O:Ok X env l s m c)(p:gl No s m s' m')(V:AC X s'.heap m' c'):Ok X env l s' m' c':=⟨V,O.F.keep p O.V⟩
end
section
variable {X:Wd}{h h' TY:Ξ}{m m' Vc:py}{c c':ad}{s s' s'':ν}{env:aa}{l:L}
theorem Up.refl:Up h m h m:=⟨λ_ _ i e=>⟨i,e⟩,λ_ _ i e=>⟨i,e⟩,λ_ _ e=>e⟩
theorem Up.grow(k:∀b o,h.get? b=γ o->h'.get? b=γ o):Up h m h' m:=⟨λ_ _ i e=>⟨i,k _ _ e⟩,λ_ _ i e=>⟨i,k _ _ e⟩,λ_ _ e=>e⟩
theorem Up.trans(p:Up h m h' m')(q:Up h' m' TY Vc):Up h m TY Vc:=
 ⟨λa o i e=>q.i a o (p.i a o i e).1 (p.i a o i e).2,λa o i e=>q.j a o (p.j a o i e).1 (p.j a o i e).2,λn a e=>q.μ n a (p.μ n a e)⟩
theorem oC.up{a:υ}{x:CV}(B:oC X h m a x)(u:Up h m h' m')(k:∀o,h.get? a=γ o->h'.get? a=γ o):oC X h' m' a x:=
 (by obtain⟨o,vs,ho,is,rs⟩:=B;exact⟨o,vs,k o ho,is,rs.up u⟩)
theorem AC.grow(V:AC X s.heap m c)(k:∀b o,s.heap.get? b=γ o->s'.heap.get? b=γ o):AC X s'.heap m c:=
 ⟨V.len,V.nodup,λn a x e1 e2=>(V.cell n a x e1 e2).up (.grow k) (k a),λa i=>(by obtain⟨o,e⟩:=V.hasI a i;exact⟨o,k a o e⟩),λa i=>(by obtain⟨p,q,o,e⟩:=V.hasM a i;exact⟨p,q,o,k a o e⟩),
  λa i=>(by obtain⟨p,o,e⟩:=V.hasJ a i;exact⟨p,o,k a o e⟩),V.gnd.up λa o i e=>⟨i,k a o e⟩,(by obtain⟨o,e⟩:=V.sys;exact⟨o,k _ o e⟩)⟩
theorem gl.grow{O:υ->Prop}(k:∀b o,s.heap.get? b=γ o->s'.heap.get? b=γ o)(g:s'.gens=s.gens)(os:s'.os=s.os):gl O s m s' m:=
 ⟨λa o e _ _=>k a o e,λa o e=>⟨o,k a o e⟩,λ_ i=>i,λ_ _ _ i=>.inl i,λ_ _ e=>e,λ_ _ _ i=>i,rfl,g,os⟩
def py.put(m:py) (a:υ):py:={m with I:=λb=>m.I b\/b=a}
theorem Up.put{a:υ}:Up h m h (m.put a):=⟨λ_ _ i e=>⟨.inl i,e⟩,λ_ _ i e=>⟨i,e⟩,λ_ _ e=>e⟩
theorem AC.imm{a:υ}{o:af}(V:AC X h m c)(ho:h.get? a=γ o)(nm:a∉m.μ):AC X h (m.put a) c:=
 ⟨V.len,V.nodup,λn b x e1 e2=>(V.cell n b x e1 e2).up .put λ_ e=>e,λb i=>i.elim (V.hasI b) λe=>⟨o,e▸ho⟩,
  λb i=>(by obtain⟨p,q⟩:=V.hasM b i;exact⟨λk=>k.elim p λe=>nm (e▸i),q⟩),V.hasJ,V.gnd.up λ_ _ i e=>⟨.inl i,e⟩,V.sys⟩
structure be(h:Ξ) (a:υ) (h':Ξ) (o:af):Prop where
 k:∀b o,h.get? b=γ o->h'.get? b=γ o
 no:h.get? a=η
 is:h'.get? a=γ o
theorem be.ne{a:υ}{o:af}(f:be h a h' o){b:υ}{o':af}(e:h.get? b=γ o'):b≠a:=λq=>by rw[q,f.no]at e;exact pt e
theorem c6(h:Ξ):h.get? h.objs.size=η:=by
 cases e:h.get? h.objs.size with
 |none=>rfl
 |some o=>exact absurd (Heap.lt_size e) (fS _)
theorem be.push{o:af}(nf:o.isFreed=ζ):be h h.objs.size (h.push o) o:=⟨λ_ _ e=>Heap.get?_push_of_some o e,c6 h,Heap.get?_push_size _ nf⟩
theorem Ok.frozen{a:υ}{o:af}{x:CV}{vs:List ι}(O:Ok X env l s m c)(f:be s.heap a s'.heap o)(g:s'.gens=s.gens)(os:s'.os=s.os)
  (is:cF X o x vs) (rs:ce X s.heap m x.kids vs):Ok X env l s' (m.put a) c/\gl No s m s' (m.put a)/\ch X s'.heap (m.put a) x (.ref a):=by
 have V:=O.V.grow (s':=s') f.k;have nm:a∉m.μ:=λk=>(by obtain⟨_,_,o',e⟩:=O.V.hasM a k;exact f.ne e TK);have P:gl No s m s' (m.put a):={(gl.grow f.k g os:gl No s m s' m)with imm:=λb i=>.inl i,new:=λb o' e i=>i.elim .inl λq=>absurd q (f.ne e)};exact⟨O.go P (V.imm f.is nm),P,.obj (.inr TK) ((by obtain⟨o',e⟩:=O.V.sys;exact λq=>f.ne e q.symm)) f.is is (rs.up ((Up.grow f.k).trans .put))⟩
theorem uT{α:Type}{xs:List α}{x:α}{n:Nat}{y:α}(e:(xs++[x])[n]? =γ y):xs[n]? =γ y\/(n=δ xs/\y=x):=by
 rcases Nat.lt_or_ge n (δ xs)with q|q
 ·exact .inl (by rwa[pv q]at e)
 ·rw[gh q]at e;cases q':n - δ xs with
  |zero=>rw[q']at e;exact .inr ⟨Gr (pB q') q,(ω e).symm⟩
  |succ j=>rw[q']at e;exact pt e
theorem qy{α:Type}{xs ys:List α}{n:Nat}{y:α}(e:xs[n]? =γ y):(xs++ys)[n]? =γ y:=by rw[pv (ay.mp e).1];exact e
def py.cell(m:py) (a:υ):py:={m with μ:=m.μ++[a]}
theorem Up.cell{a:υ}:Up h m h (m.cell a):=⟨λ_ _ i e=>⟨i,e⟩,λ_ _ i e=>⟨i,e⟩,λ_ _ e=>qy e⟩
theorem AC.cell'{a:υ}{x:CV}(V:AC X h m c)(B:oC X h m a x)(nm:a∉m.μ)(ni:¬m.I a)(nj:¬m.J a)(ns:a≠aF):AC X h (m.cell a) (c++[γ x]):=by
 have ho:∃o,h.get? a=γ o:=(eI (B) λo _ e _=>⟨o,e⟩);refine⟨by rw[Δ,←V.len];exact Δ,?_,λn b y e1 e2=>?_,V.hasI,λb i=>?_,λb i=>?_,V.gnd,V.sys⟩
 ·exact cL.mpr ⟨V.nodup,by simp,λb i b' i' e=>nm (Θ.mp i'▸e▸i)⟩
 ·rcases uT e2 with q|⟨q,e3⟩
  ·have lt:=(ay.mp q).1;rcases uT e1 with q1|⟨q1,_⟩
   ·exact(V.cell n b y q1 q).up .cell λ_ e=>e
   ·rw[q1,V.len]at lt;exact absurd lt (fS _)
  ·rcases uT e1 with q1|⟨_,rfl⟩
   ·have lt:=(ay.mp q1).1;rw[q,V.len]at lt;exact absurd lt (fS _)
   ·replace e3:=ω e3;subst e3;exact B.up .cell λ_ e=>e
 ·rcases aw.mp i with i|i
  ·exact V.hasM b i
  ·have hz:=Θ.mp i;subst hz;exact⟨ni,ns,ho⟩
 ·obtain⟨p,q⟩:=V.hasJ b i;exact⟨λk=>(aw.mp k).elim p λk=>nj (Θ.mp k▸i),q⟩
theorem Ok.newCell{a:υ}{o:af}{x:CV}{vs:List ι}(O:Ok X env l s m c)(f:be s.heap a s'.heap o)(g:s'.gens=s.gens)(os:s'.os=s.os)
  (is:cF X o x vs) (rs:ce X s.heap m x.kids vs):Ok X env l s' (m.cell a) (c++[γ x])/\gl No s m s' (m.cell a)/\ch X s'.heap (m.cell a) (.ref c.length) (.ref a):=by
 have V:=O.V.grow (s':=s') f.k;have nm:a∉m.μ:=λk=>(by obtain⟨_,_,o',e⟩:=O.V.hasM a k;exact f.ne e TK);have P:gl No s m s' (m.cell a):={(gl.grow f.k g os:gl No s m s' m)with pre:=λn b e=>qy e,ext:=λb o' e i=>(aw.mp i).elim id λq=>absurd (Θ.mp q) (f.ne e)};exact⟨O.go P (V.cell' ⟨o,vs,f.is,is,rs.up (.grow f.k)⟩ nm (λk=>(by obtain⟨o',e⟩:=O.V.hasI a k;exact f.ne e TK)) (λk=>(by obtain⟨_,o',e⟩:=O.V.hasJ a k;exact f.ne e TK)) ((by obtain⟨o',e⟩:=O.V.sys;exact λq=>f.ne e q.symm))),P,
  .ref _ _ (by refine(?_:(m.μ++[a])[c.length]? =_);rw[←O.V.len,gh (aJ _),hU];rfl)⟩
end
section
variable {X:Wd}{h h' TY:Ξ}{m m' Vc:py}{c c':ad}{s s' s'':ν}{env:aa}{l:L}
theorem Ok.write(O:Ok X env l s m c)(e:m.μ[n]? =γ a)
  (k:∀b o,b≠a->s.heap.get? b=γ o->s'.heap.get? b=γ o) (ho:s'.heap.get? a=γ o) (g:s'.gens=s.gens) (os:s'.os=s.os)
  (is:cF X o x vs) (rs:ce X s.heap m x.kids vs):Ok X env l s' m (dL c n x)/\gl No s m s' m:=by
 have V:=O.V;have am:a∈m.μ:=av e;refine bL (V.hasM a am) λni ns _=>?_;have al:∀b o,s.heap.get? b=γ o->∃o',s'.heap.get? b=γ o':=λb o' e'=>(yS (b=a)).elim (λq=>⟨o,q▸ho⟩) λq=>⟨o',k b o' q e'⟩;have P:gl No s m s' m:=⟨λb o' e' _ im=>k b o' (λq=>im (q▸am)) e',al,λ_ i=>i,λ_ _ _ i=>.inl i,λ_ _ e=>e,λ_ _ _ i=>i,rfl,g,os⟩;have u:=P.upN V;refine⟨O.go P ⟨by exists V.len;exact(cZ).symm,V.nodup,λj b z e1 e2=>?_,λb i=>(by obtain⟨o',q⟩:=V.hasI b i;exact al b o' q),λb i=>(by obtain⟨p,r,o',q⟩:=V.hasM b i;exact⟨p,r,al b o' q⟩),
  λb i=>(by obtain⟨p,o',q⟩:=V.hasJ b i;exact⟨p,al b o' q⟩),V.gnd.up u.i,(by obtain⟨o',q⟩:=V.sys;exact al _ o' q)⟩,P⟩
 by_cases q:n=j
 ·subst q;obtain rfl:=ω (e.symm.trans e1);have e2:(c.set n (γ x))[n]? =γ (γ z):=e2;rw[eW (V.len▸(ay.mp e).1)]at e2;replace e2:=ω e2;cases e2;exact⟨o,vs,ho,is,rs.up u⟩
 ·have e2:(c.set n (γ x))[j]? =γ (γ z):=e2;rw[eX q]at e2;exact(V.cell j b z e1 e2).up u λo'=>k b o' λr=>q ((x6 (ay.mp e).1 V.nodup).mp (e.trans (r▸e1.symm)))
structure Pv(k:Nat) (A:ai):Prop where
 h:A.handled=η
 d:A.depth+2*k+20<=recursionLimit
 u:A.units+100*(k+1)<=bK
def lw(X:Wd) (k:Nat) (Φ:Nat->Fn) (sc:Ω) (ast:aP) (e:Mine.E):Prop:=
 ∀(A:ai) (env:aa) (l:L) (s:ν) (m:py) (c:ad) (P:CV->ad->Prop) (Q:ι->ν->Prop) (Er:ι->ν->Prop),Pv k A->env.scope=sc->
  Ok X env l s m c->wE Φ e l c P->(∀cv c' v s' m',P cv c'->Ok X env l s' m' c'->gl No s m s' m'->ch X s'.heap m' cv v->Q v s')->τ X.M A (eval ast env) Q Er s
def q_(c:ad) (cv:CV) (b:Bool):Prop:=∀K:Bool->Prop,cE c cv K->K b
def bV(X:Wd) (k:Nat) (Φ:Nat->Fn) (sc:Ω) (ast:aP) (e:Mine.E):Prop:=
 ∀(A:ai) (env:aa) (l:L) (s:ν) (m:py) (c:ad) (P:CV->Bool->ad->Prop) (Q:Bool->ν->Prop) (Er:ι->ν->Prop),Pv k A->env.scope=sc->
  Ok X env l s m c->(wE Φ e l c λv c=>cE c v λb=>P v b c)->(∀cv b c' s' m',q_ c' cv b->P cv b c'->Ok X env l s' m' c'->gl No s m s' m'->Q b s')->τ X.M A (ox ast env (eval ast env)) Q Er s
def dc(X:Wd) (k:Nat) (Φ:Nat->Fn) (sc:Ω) (Uw:List aP) (es:Es):Prop:=
 ∀(A:ai) (env:aa) (l:L) (s:ν) (m:py) (c:ad) (P:List CV->ad->Prop) (Q:List ι->ν->Prop) (Er:ι->ν->Prop) (pos:aK),Pv k A->env.scope=sc->
  Ok X env l s m c->iR Φ es l c P->(∀Uc c' vs s' m',P Uc c'->Ok X env l s' m' c'->gl No s m s' m'->ce X s'.heap m' Uc vs->Q vs s')->τ X.M A (spliced (mr pos (iw Uw env))) Q Er s
variable {k:Nat}{sc:Ω}{Φ:Nat->Fn}{A:ai}{Er:ι->ν->Prop}
theorem TD{α:Type}{o:Option α}{K:α->Prop}(h:ld o K):∃a,o=γ a/\K a:=by
 induction o with
 |none=>exact h.elim
 |some a=>exact⟨a,rfl,h⟩
theorem wp{α:Type}{o:Option α}{K:α->Prop}{C:Prop}(h:ld o K)(k:∀a,o=γ a->K a->C):C:=f4 (TD h) k
theorem Ok.t(O:Ok X env l s m c){s':ν}(e:s'.heap=s.heap):Ok X env l s' m c:=⟨e▸O.V,e▸O.F⟩
theorem gl.t{O:υ->Prop}(P:gl O s m s' m'){s'':ν}(e:s''.heap=s'.heap)(g:s''.gens=s'.gens)(o:s''.os=s'.os):gl O s m s'' m':=
 ⟨e▸P.keep,e▸P.alive,P.imm,P.new,P.pre,P.ext,P.j,g.trans P.gens,o.trans P.os⟩
theorem N1{i n pos}:lw X k Φ sc (.Constant (.int i) n pos) (.i (.int i)):=λ_ _ _ _ _ _ _ _ _ _ _ O h q=>Fh (q _ _ _ _ _ h (O.t TK) (gl.refl.t TK TK TK) (.int _ _))
theorem LH{n pos}:lw X k Φ sc (.Constant .none n pos) (.i .none):=λ_ _ _ _ _ _ _ _ _ _ _ O h q=>wpAny_Constant_none (q _ _ _ _ _ h O .refl .none)
theorem LJ{b n pos}:lw X k Φ sc (.Constant (.bool b) n pos) (.i (.bool b)):=λ_ _ _ _ _ _ _ _ _ _ _ O h q=>wpAny_Constant_bool (q _ _ _ _ _ h O .refl (.bool _))
theorem N2{x n pos}(hx:x<Do.length):lw X k Φ sc (.Constant (.str (nm x)) n pos) (.i (.str x)):=λ_ _ _ _ _ _ _ _ _ _ _ O h q=>wpAny_Constant_str (q _ _ _ _ _ h (O.t TK) (gl.refl.t TK TK TK) (.str _ _ hx))
theorem N3{x pos}(hd:(nm x==("__debug__":ψ))=ζ)(hc:(nm x==("__classdict__":ψ))=ζ):lw X k Φ sc (.Name (nm x) pos) (.l x):=by
 intro A env l s m c P Q Er R hs O h q;refine wp h λcv e h=>?_;refine wpAny_Name ?_ hd;obtain⟨_,w,va,r⟩:=O.F.var _ _ e;have q:=q _ _ _ _ _ h O .refl r;induction va with
 |l kk m hn hm=>exact EO O.F.kind kk hn hm q
 |cell kk a o hl ho T9=>
  rcases kk with kk|kk
  ·exact E4 O.F.kind kk hl ⟨o,ho,T9⟩ q
  ·exact E5 O.F.kind kk hl ⟨o,ho,T9⟩ q hc
def rP(X:Wd) (x:Nat) (v:CV):Prop:=∃w,X.mg (nm x)=γ w/\∀h m c,AC X h m c->ch X h m v w
theorem LK{pos}(hi:jA[i]? =γ p)(hd:(nm p.1==("__debug__":ψ))=ζ)(hx:sc.names.lookup (nm p.1)=γ .globalImplicit)(hm:rP X p.1 p.2):lw X k Φ sc (.Name (nm p.1) pos) (.glob i):=by intro A env l s m c P Q Er R hs O h q;refine f4 hm λw e r=>?_;clear hm;refine wp h λp' e' h=>?_;obtain rfl:=ω (hi.symm.trans e');exact tw O.F.kind (by unfold Env.kindOf;exists hs,hx) (w_ (O.F.glob▸O.V.gnd.g) e (q _ _ _ _ _ h O .refl (r _ _ _ O.V))) hd
noncomputable def Da(x:aP):Bool:= !(ae x.ctorIdx 22)
theorem jY(h:Da a=ε)(rest:List aP)(env:aa):iw (a::rest) env=(ζ,eval a env)::iw rest env:=by induction a using cW<;>first|rfl|exact t_ (h:ζ=ε)
theorem Bq:dc X k Φ sc [] .nil:=λ_ _ _ _ _ _ _ _ _ _ _ _ O h q=>ο (q _ _ _ _ _ h O .refl .nil)
theorem Aw(hn:Da a=ε)(ha:lw X k Φ sc a ea)(TZ:dc X k Φ sc Uw es):dc X k Φ sc (a::Uw) (.cons ea es):=by intro A env l s m c P Q Er pos R hs O h q;exists jY hn ..,jP (ha A env l s m c _ _ _ R hs O h λcv c1 v s1 m1 h1 O1 P1 r1=>TZ A env l s1 m1 c1 _ _ _ pos R hs O1 h1 λUc c2 vs s2 m2 h2 O2 P2 r2=>q _ _ _ _ _ h2 O2 (P1.trans P2) (.cons (r1.up (P2.upN O1.V)) r2))
theorem ce.length{xs:List CV}{vs:List ι}(r:ce X h m xs vs):δ xs=δ vs:=
 ce.rec (motive_1:=λ_ _ _=>True) (motive_2:=λxs vs _=>δ xs=δ vs) TQ (λ_=>trivial) (λ_ _=>trivial) (λ_ _ _=>trivial) (λ_ _ _=>trivial) (λ_ _ _ _ _ _=>trivial) (λ_ _ _ _ _ _=>trivial) TK (λ_ _ _ e=>TL (· +1) e) r
theorem lK:kf=16777216:=by exists lu,TK
theorem ce.fit{xs:List CV}{vs:List ι}(r:ce X h m xs vs)(z:δ xs<=1000):δ vs<=kf:=by refine ac lK (io r.length ?_);exact κ z (by decide)
theorem vM{s₁:ν}{x:CV}{o:af}{vs:List ι}{b:Bool}{t:Nat}{P:CV->ad->Prop}{Q:ι->ν->Prop}{m₁:py}(O:Ok X env l s₁ m₁ c')(p:gl No s m s₁ m₁)(is:cF X o x vs)(rs:ce X s₁.heap m₁ x.kids vs)(nf:o.isFreed=ζ)
  (h:dI b x c' P) (q:∀cv c' v s' m',P cv c'->Ok X env l s' m' c'->gl No s m s' m'->ch X s'.heap m' cv v->Q v s'):Q (.ref s₁.heap.objs.size) {s₁ with heap:=s₁.heap.push o,toks:=t}:=by
 induction b with
 |true=>exact(bL (O.newCell (s':={s₁ with heap:=s₁.heap.push o,toks:=t}) (be.push nf) TK TK is rs) λO' P' r=>q _ _ _ _ _ h O' (p.trans P') r)
 |false=>exact(bL (O.frozen (s':={s₁ with heap:=s₁.heap.push o,toks:=t}) (be.push nf) TK TK is rs) λO' P' r=>q _ _ _ _ _ h O' (p.trans P') r)
theorem N4{n pos}(TZ:dc X k Φ sc Uw es):lw X k Φ sc (.Tuple Uw n pos) (.tup es):=
 λA env l s m c P Q Er R hs O h q=>E6 (TZ A env l s m c _ _ _ _ R hs O h λUc c1 vs s1 m1 h1 O1 P1 r1=>⟨r1.fit h1.1,vM (x:=.tup Uc) (b:=ζ) O1 P1 (⟨0,rfl⟩:js "tuple" _ vs) r1 TK h1.2 q⟩)
theorem LM{pos}(TZ:dc X k Φ sc Uw es):lw X k Φ sc (.List Uw pos) (.list b es):=
 λA env l s m c P Q Er R hs O h q=>wpAny_List_spliced (TZ A env l s m c _ _ _ _ R hs O h λUc c1 vs s1 m1 h1 O1 P1 r1=>⟨r1.fit h1.1,vM (x:=.list Uc) (b:=b) O1 P1 (⟨0,rfl⟩:js "list" _ vs) r1 TK h1.2 q⟩)
end
section
variable {X:Wd}{h h' TY:Ξ}{m m' Vc:py}{c c':ad}{s s' s'':ν}{env:aa}{l:L}{k:Nat}{sc:Ω}{Φ:Nat->Fn}{A:ai}{Er:ι->ν->Prop}
inductive kD:CV->ι->Prop
 |none:kD .none .none
 |bool (b:Bool):kD (.bool b) (.bool b)
 |int (i:Int) (t:aZ):kD (.int i) (.int i t)
 |str (n:Nat) (t:aZ):n<Do.length->kD (.str n) (.str (nm n) t)
theorem kD.rep(S:kD x v):ch X h m x v:=by
 induction S with
 |none=>exact .none
 |bool b=>exact .bool b
 |int i t=>exact .int i t
 |str n t q=>exact .str n t q
inductive KB(X:Wd) (h:Ξ) (m:py) (x:CV):ι->Prop
 |obj {a:υ} {o:af} {vs:List ι}:a≠aF->h.get? a=γ o->cF X o x vs->ce X h m x.kids vs->KB X h m x (.ref a)
 |val {v:ι}:kD x v->KB X h m x v
theorem ch.see(V:AC X h m c)(r:ch X h m cv v)(e:view c cv=γ x):KB X h m x v:=by
 cases r with
 |none=>replace e:=ω e;subst e;exact .val .none
 |bool b=>replace e:=ω e;subst e;exact .val (.bool b)
 |int i t=>replace e:=ω e;subst e;exact .val (.int i t)
 |str n t q=>replace e:=ω e;subst e;exact .val (.str n t q)
 |ref n a q=>
  have e:f8 c n=γ x:=e;have e':c[n]? =γ (γ x):=by
   unfold f8 at e;cases q':c[n]? with
   |none=>rw[q']at e;exact pt e
   |some y=>rw[q']at e;exact TL γ e
  obtain⟨o,vs,ho,is,rs⟩:=V.cell n a x q e';exact .obj (V.hasM a (av q)).2.1 ho is rs
 |obj i q ho is rs=>
  have:cv=x:=by cases cv<;>first|exact ω e|exact aG is
  exact .obj q ho (this▸is) (this▸rs)
 |lend i q ho is rs=>replace e:=ω e;subst e;exact .obj q ho is rs
theorem KB.int(S:KB X h m (.int i) v):∃t,v= .int i t:=by
 induction S with
 |obj _ _ is _=>exact aG is
 |val S=>cases S;exact⟨_,rfl⟩
theorem KB.bool(S:KB X h m (.bool b) v):v= .bool b:=by
 induction S with
 |obj _ _ is _=>exact aG is
 |val S=>cases S;rfl
theorem KB.list(S:KB X h m (.list xs) v):∃a o vs,v= .ref a/\a≠aF/\h.get? a=γ o/\js "list" o vs/\ce X h m xs vs:=by
 induction S with
 |obj q ho is rs=>exact⟨_,_,_,rfl,q,ho,is,rs⟩
 |val S=>cases S
theorem KB.tup(S:KB X h m (.tup xs) v):∃a o vs,v= .ref a/\a≠aF/\h.get? a=γ o/\js "tuple" o vs/\ce X h m xs vs:=by
 induction S with
 |obj q ho is rs=>exact⟨_,_,_,rfl,q,ho,is,rs⟩
 |val S=>cases S
@[elab_as_elim] theorem KB.listE{P:ι->Prop}(S:KB X h m (.list xs) v)(k:∀a (vs:List ι) n,h.get? a=γ {cls:=.type "list",dict:=η,data:=.seq vs.toArray n,slots:=#[]}->ce X h m xs vs->P (.ref a)):P v:=by obtain⟨a,o,vs,rfl,_,h1,⟨n,rfl⟩,rs⟩:=S.list;exact k a vs n h1 rs
@[elab_as_elim] theorem KB.tupE{P:ι->Prop}(S:KB X h m (.tup xs) v)(k:∀a (vs:List ι) n,h.get? a=γ {cls:=.type "tuple",dict:=η,data:=.seq vs.toArray n,slots:=#[]}->ce X h m xs vs->P (.ref a)):P v:=by obtain⟨a,o,vs,rfl,_,h1,⟨n,rfl⟩,rs⟩:=S.tup;exact k a vs n h1 rs
theorem ch.intV(r:ch X h m (.int i) v):∃t,v= .int i t:=by
 cases r with
 |int i t=>exact⟨t,rfl⟩
 |obj _ _ _ is _=>exact aG is
theorem ql(V:AC X s.heap m c)(r:ch X s.heap m cv v)(w:cE c cv P)(h:∀b t,q_ c cv b->P b->Q b {s with toks:=t}):
  τ X.M A (truthy v) Q Er s:=by
 refine wp w λx e w=>?_;have S:=r.see V e;have u:∀K:Bool->Prop,cE c cv K->B8 x K:=λK hK=>(f4 (TD hK) λy e' q=>ω (e.symm.trans e')▸q);induction x using CV.casesOn with
 |bool b=>have hz:=S.bool;subst hz;exact m8 (h b s.toks (λK q=>u K q) w)
 |list xs=>
  obtain⟨a,o,vs,rfl,_,ho,⟨n,rfl⟩,rs⟩:=S.list;refine wpAny_truthy_list (items:=vs.toArray) ⟨_,ho,rfl,n,rfl⟩ (by refine ac pN (io rs.length ?_);exact pL (d_.mpr w.1) (by decide)) ?_;have:(!vs.toArray.isEmpty)= !xs.isEmpty:=by cases rs<;>rfl
  exists this,h _ _ (λK q=>(u K q).2) w.2
 |_=>exact aG w
theorem bV.of_plain(S:lw X k Φ sc ast ea)(he:∀env whole,ox ast env whole=(do let v ←whole;jr ast.pos;eB [v] (truthy v))):bV X k Φ sc ast ea:=
 λA env l s m c P Q Er R hs O h q=>wpAny_isTrue_value (S A env l s m c _ _ _ R hs O h λcv c1 v s1 m1 h1 O1 P1 r1=>ql O1.V r1 h1 λb t u hb=>q cv b _ _ _ u hb (O1.t TK) (P1.t TK TK TK)) (he env _)
theorem N5{pos}(ha:lw X k Φ sc a ea):lw X k Φ sc (.UnaryOp .Not a pos) (.not ea):=
 λA env l s m c P Q Er R hs O h q=>wpAny_UnaryOp (ha A env l s m c _ _ _ R hs O h λcv c1 v s1 m1 h1 O1 P1 r1=>not_value (ql O1.V r1 h1 λb t _ hb=>q _ _ _ _ _ hb (O1.t TK) (P1.t TK TK TK) (.bool _)))
theorem N6{pos}(ha:bV X k Φ sc a ea):bV X k Φ sc (.UnaryOp .Not a pos) (.not ea):=
 λA env l s m c P Q Er R hs O h q=>wpAny_isTrue_Not (ha A env l s m c (λx b c=>P (.bool (!b)) (!b) c) _ _ R hs O h λcv b c1 s1 m1 _ h1 O1 P1=>q (.bool (!b)) (!b) _ _ _ (λK q=>q) h1 O1 P1)
theorem N7{pos}(ht:bV X k Φ sc t et)(ha:lw X k Φ sc a ea)(hb:lw X k Φ sc b eb):lw X k Φ sc (.IfExp t a b pos) (.ite et ea eb):=
 λA env l s m c P Q Er R hs O h q=>wpAny_IfExp (ht A env l s m c (λ_ u c=>br u (wE Φ ea l c P) (wE Φ eb l c P)) _ _ R hs O h λ_ u c1 s1 m1 _ h1 O1 P1=>by
  induction u with
  |true=>exact ha A env l s1 m1 c1 _ _ _ R hs O1 h1 λcv c2 v s2 m2 h2 O2 P2 r2=>q _ _ _ _ _ h2 O2 (P1.trans P2) r2
  |false=>exact hb A env l s1 m1 c1 _ _ _ R hs O1 h1 λcv c2 v s2 m2 h2 O2 P2 r2=>q _ _ _ _ _ h2 O2 (P1.trans P2) r2)
end
section
variable {X:Wd}{h h' TY:Ξ}{m m' Vc:py}{c c':ad}{s s' s'':ν}{env:aa}{l:L}{k:Nat}{sc:Ω}{Φ:Nat->Fn}{A:ai}{Er:ι->ν->Prop}
theorem pY(a:aP)(rest:List aP)(env:aa):lW (a::rest) env=eval a env::lW rest env:=arm_evalEach_cons a rest env
inductive cy(X:Wd) (k:Nat) (Φ:Nat->Fn) (sc:Ω):List aP->Es->Prop
 |nil:cy X k Φ sc [] .nil
 |cons {a:aP} {ea:Mine.E} {as:List aP} {es:Es}:lw X k Φ sc a ea->bV X k Φ sc a ea->cy X k Φ sc as es->cy X k Φ sc (a::as) (.cons ea es)
theorem Ht(pos:aK)(op:BoolOp)(x y:aQ ι)(rest:List (aQ ι)):boolOp pos op (x::y::rest)=(do
  let v ←x
  jr pos
  let t ←eB [v] (truthy v)
  match op,t with
  |.And,ζ|.Or,ε=>pure v
  |_,_=>boolOp pos op (y::rest)):=rfl
theorem yM(pos:aK)(op:BoolOp)(a b:aP)(as:List aP)(env:aa):boolOp pos op (lW (a::b::as) env)=(do
  let v ←eval a env
  jr pos
  let t ←eB [v] (truthy v)
  match op,t with
  |.And,ζ|.Or,ε=>pure v
  |_,_=>boolOp pos op (lW (b::as) env)):=by exists pY ..;exists pY b ..,Ht _ _ _ _ _
theorem Je(pos:aK)(r:cy X k Φ sc as es):∀{a:aP} {ea:Mine.E},lw X k Φ sc a ea->∀(A:ai) (l:L) (s:ν) (m:py) (c:ad) (P:CV->ad->Prop) (Q:ι->ν->Prop) (Er:ι->ν->Prop),Pv k A->env.scope=sc->
  Ok X env l s m c->(wE Φ ea l c λv c=>oM Φ es v l c P)->(∀cv c' v s' m',P cv c'->Ok X env l s' m' c'->gl No s m s' m'->ch X s'.heap m' cv v->Q v s')->τ X.M A (boolOp pos .And (lW (a::as) env)) Q Er s:=by
 induction r with
 |nil=>exact λha A l s m c P Q Er R hs O h q=>ha A env l s m c _ _ _ R hs O h q
 |cons hb _ _ ih=>
  intro a ea ha A l s m c P Q Er R hs O h q;exists yM ..;refine θ (ha A env l s m c _ _ _ R hs O h λcv c1 v s1 m1 h1 O1 P1 r1=>θ (aV (θ (aq (ql O1.V r1 h1 λu t _ hu=>?_)))));induction u with
  |true=>exact ih hb A l {s1 with toks:=t} m1 c1 _ _ _ R hs (O1.t TK) hu λcv c2 v s2 m2 h2 O2 P2 r2=>q _ _ _ _ _ h2 O2 ((gl.t (s'':={s1 with toks:=t}) P1 TK TK TK).trans P2) r2
  |false=>exact ο (q _ _ _ _ _ hu (O1.t TK) (P1.t TK TK TK) r1)
theorem Kf(pos:aK)(r:cy X k Φ sc as es):∀{a:aP} {ea:Mine.E},lw X k Φ sc a ea->∀(A:ai) (l:L) (s:ν) (m:py) (c:ad) (P:CV->ad->Prop) (Q:ι->ν->Prop) (Er:ι->ν->Prop),Pv k A->env.scope=sc->
  Ok X env l s m c->(wE Φ ea l c λv c=>oX Φ es v l c P)->(∀cv c' v s' m',P cv c'->Ok X env l s' m' c'->gl No s m s' m'->ch X s'.heap m' cv v->Q v s')->τ X.M A (boolOp pos .Or (lW (a::as) env)) Q Er s:=by
 induction r with
 |nil=>exact λha A l s m c P Q Er R hs O h q=>ha A env l s m c _ _ _ R hs O h q
 |cons hb _ _ ih=>
  intro a ea ha A l s m c P Q Er R hs O h q;exists yM ..;refine θ (ha A env l s m c _ _ _ R hs O h λcv c1 v s1 m1 h1 O1 P1 r1=>θ (aV (θ (aq (ql O1.V r1 h1 λu t _ hu=>?_)))));induction u with
  |false=>exact ih hb A l {s1 with toks:=t} m1 c1 _ _ _ R hs (O1.t TK) hu λcv c2 v s2 m2 h2 O2 P2 r2=>q _ _ _ _ _ h2 O2 ((gl.t (s'':={s1 with toks:=t}) P1 TK TK TK).trans P2) r2
  |true=>exact ο (q _ _ _ _ _ hu (O1.t TK) (P1.t TK TK TK) r1)
theorem N8{pos}(ha:lw X k Φ sc a ea)(TZ:cy X k Φ sc as es):lw X k Φ sc (.BoolOp .And (a::as) pos) (.and ea es):=by intro A env l s m c P Q Er R hs O h q;exists arm_eval_BoolOp ..,Je pos TZ ha A l s m c _ _ _ R hs O h q
theorem P_{pos}(ha:lw X k Φ sc a ea)(TZ:cy X k Φ sc as es):lw X k Φ sc (.BoolOp .Or (a::as) pos) (.or ea es):=by intro A env l s m c P Q Er R hs O h q;exists arm_eval_BoolOp ..,Kf pos TZ ha A l s m c _ _ _ R hs O h q
theorem Jf(r:cy X k Φ sc as es):∀{a:aP} {ea:Mine.E},bV X k Φ sc a ea->∀(A:ai) (env:aa) (l:L) (s:ν) (m:py) (c:ad) (P:CV->Bool->ad->Prop) (Q:Bool->ν->Prop) (Er:ι->ν->Prop),Pv k A->env.scope=sc->
  Ok X env l s m c->(wE Φ ea l c λv c=>oM Φ es v l c λw c=>cE c w λb=>P w b c)->(∀cv b c' s' m',q_ c' cv b->P cv b c'->Ok X env l s' m' c'->gl No s m s' m'->Q b s')->τ X.M A (allTrue .And (a::as) env) Q Er s:=by
 induction r with
 |nil=>
  intro a ea ha A env l s m c P Q Er R hs O h q;exists ua ..;refine θ (ha A env l s m c _ _ _ R hs O h λcv b c1 s1 m1 u h1 O1 P1=>?_);have q:=q _ _ _ _ _ u h1 O1 P1;induction b with
  |false=>exact ο q
  |true=>refine(?_:τ X.M A (allTrue .And [] env) Q Er s1);exists arm_allTrue_nil ..,ο q
 |@cons b eb _ es _ hb _ ih=>
  intro a ea ha A env l s m c P Q Er R hs O h q;exists ua ..;refine θ (ha A env l s m c (λv t c=>br t (wE Φ eb l c λv c=>oM Φ es v l c λw c=>cE c w λb=>P w b c) (cE c v λb=>P v b c)) _ _ R hs O h λcv b c1 s1 m1 u h1 O1 P1=>?_);induction b with
  |true=>exact ih hb A env l s1 m1 c1 _ _ _ R hs O1 h1 λcv b c2 s2 m2 u h2 O2 P2=>q _ _ _ _ _ u h2 O2 (P1.trans P2)
  |false=>exact ο (q _ _ _ _ _ u (u _ h1) O1 P1)
theorem Kg(r:cy X k Φ sc as es):∀{a:aP} {ea:Mine.E},bV X k Φ sc a ea->∀(A:ai) (env:aa) (l:L) (s:ν) (m:py) (c:ad) (P:CV->Bool->ad->Prop) (Q:Bool->ν->Prop) (Er:ι->ν->Prop),Pv k A->env.scope=sc->
  Ok X env l s m c->(wE Φ ea l c λv c=>oX Φ es v l c λw c=>cE c w λb=>P w b c)->(∀cv b c' s' m',q_ c' cv b->P cv b c'->Ok X env l s' m' c'->gl No s m s' m'->Q b s')->τ X.M A (allTrue .Or (a::as) env) Q Er s:=by
 induction r with
 |nil=>
  intro a ea ha A env l s m c P Q Er R hs O h q;exists ua ..;refine θ (ha A env l s m c _ _ _ R hs O h λcv b c1 s1 m1 u h1 O1 P1=>?_);have q:=q _ _ _ _ _ u h1 O1 P1;induction b with
  |true=>exact ο q
  |false=>refine(?_:τ X.M A (allTrue .Or [] env) Q Er s1);exists arm_allTrue_nil ..,ο q
 |@cons b eb _ es _ hb _ ih=>
  intro a ea ha A env l s m c P Q Er R hs O h q;exists ua ..;refine θ (ha A env l s m c (λv t c=>br t (cE c v λb=>P v b c) (wE Φ eb l c λv c=>oX Φ es v l c λw c=>cE c w λb=>P w b c)) _ _ R hs O h λcv b c1 s1 m1 u h1 O1 P1=>?_);induction b with
  |false=>exact ih hb A env l s1 m1 c1 _ _ _ R hs O1 h1 λcv b c2 s2 m2 u h2 O2 P2=>q _ _ _ _ _ u h2 O2 (P1.trans P2)
  |true=>exact ο (q _ _ _ _ _ u (u _ h1) O1 P1)
theorem N9{pos}(ha:bV X k Φ sc a ea)(TZ:cy X k Φ sc as es):bV X k Φ sc (.BoolOp .And (a::as) pos) (.and ea es):=
 λA env l s m c P Q Er R hs O h q=>E7 (Jf TZ ha A env l s m c P Q Er R hs O h q)
theorem Qa{pos}(ha:bV X k Φ sc a ea)(TZ:cy X k Φ sc as es):bV X k Φ sc (.BoolOp .Or (a::as) pos) (.or ea es):=
 λA env l s m c P Q Er R hs O h q=>E7 (Kg TZ ha A env l s m c P Q Er R hs O h q)
end
section
set_option backward.match.sparseCases false
variable {X:Wd}{h h' TY:Ξ}{m m' Vc:py}{c c':ad}{s s' s'':ν}{env:aa}{l:L}{k:Nat}{sc:Ω}{Φ:Nat->Fn}{A:ai}{Er:ι->ν->Prop}
theorem Jg:(Do.map Str.ofString).Nodup:=by decide+kernel
theorem vN{i j:Nat}(hi:i<Do.length)(hj:j<Do.length)(e:nm i=nm j):i=j:=by
 have f:∀n,n<Do.length->(Do.map Str.ofString)[n]? =γ (nm n):=λn hn=>by unfold nm;exists aA;exists ag hn;rfl
 exact(x6 (by exists φ ..,hi) Jg).mp ((f i hi).trans ((TL γ e).trans (f j hj).symm))
theorem rQ{a b:Nat}(ha:a<Do.length)(hb:b<Do.length):(nm a==nm b)=(a==b):=by
 by_cases q:a=b
 ·subst q;exists TJ ..,ac (TJ ..) TK
 ·exists TO.mpr (λe=>q (vN ha hb e)),ac (TO.mpr q) TK
theorem N_(a b:ψ):(a.cps.toList==b.cps.toList)=(a==b):=by
 obtain⟨⟨x⟩⟩:=a;obtain⟨⟨y⟩⟩:=b;refine(?_:(x==y)=_);by_cases q:x=y
 ·subst q;exists TJ ..,ac (TJ ..) TK
 ·exists TO.mpr q,ac (TO.mpr (λe=>q (by cases e;rfl))) TK
theorem ce.get?{xs:List CV}{vs:List ι}(r:ce X h m xs vs):∀{j:Nat} {x:CV},xs[j]? =γ x->∃v,vs[j]? =γ v/\ch X h m x v:=
 ce.rec (motive_1:=λ_ _ _=>True) (motive_2:=λxs vs _=>∀{j:Nat} {x:CV},xs[j]? =γ x->∃v,vs[j]? =γ v/\ch X h m x v) TQ (λ_=>trivial) (λ_ _=>trivial) (λ_ _ _=>trivial) (λ_ _ _=>trivial) (λ_ _ _ _ _ _=>trivial) (λ_ _ _ _ _ _=>trivial)
  (λe=>nomatch e) (λ{_ v _ _} r _ _ ih j x e=>match j,e with
   |0,e=>⟨v,rfl,ω e▸r⟩
   |j+1,e=>ih (j:=j) e) r
theorem ce.get?'{xs:List CV}{vs:List ι}(r:ce X h m xs vs){j:Nat}{v:ι}(e:vs[j]? =γ v):∃x,xs[j]? =γ x/\ch X h m x v:=by have h1:j<δ xs:=r.length▸(ay.mp e).1;refine f4 (r.get? (ag h1)) λv' e' q=>?_;exact⟨_,ag h1,ω (e'.symm.trans e)▸q⟩
theorem ce.append{xs:List CV}{vs:List ι}(r:ce X h m xs vs){ys:List CV}{us:List ι}(q:ce X h m ys us):ce X h m (xs++ys) (vs++us):=
 ce.rec (motive_1:=λ_ _ _=>True) (motive_2:=λxs vs _=>ce X h m (xs++ys) (vs++us)) TQ (λ_=>trivial) (λ_ _=>trivial) (λ_ _ _=>trivial) (λ_ _ _=>trivial) (λ_ _ _ _ _ _=>trivial) (λ_ _ _ _ _ _=>trivial) q (λr _ _ ih=>.cons r ih) r
theorem qz{α β:Type}{o:Option α}{f:α->Option β}{b:β}(h:o.bind f=γ b):∃a,o=γ a/\f a=γ b:=by
 induction o with
 |none=>exact pt h
 |some a=>exact⟨a,rfl,h⟩
theorem TE{α β:Type}{o:Option α}{f:α->Option β}{b:β}{C:Prop}(h:o.bind f=γ b)(k:∀a,o=γ a->f a=γ b->C):C:=f4 (qz h) k
theorem map_some{α β:Type}{o:Option α}{f:α->β}{b:β}(h:o.map f=γ b):∃a,o=γ a/\f a=b:=by
 induction o with
 |none=>exact pt h
 |some a=>exact⟨a,rfl,ω h⟩
theorem gw{x:CV}{i:Int}(h:PP x=γ i):x= .int i:=cT (o:=PP x) (P:=λi=>x= .int i) (by clear h;induction x using CV.casesOn<;>first|exact trivial|rfl) h
theorem uG{x:CV}{i:Nat}(h:su x=γ i):x= .str i:=cT (o:=su x) (P:=λi=>x= .str i) (by clear h;induction x using CV.casesOn<;>first|exact trivial|rfl) h
theorem qm{x:CV}{i:List CV}(h:gJ x=γ i):x= .tup i:=cT (o:=gJ x) (P:=λi=>x= .tup i) (by clear h;induction x using CV.casesOn<;>first|exact trivial|rfl) h
theorem gu{x:CV}{i:List CV}(h:a9 x=γ i):x= .list i:=cT (o:=a9 x) (P:=λi=>x= .list i) (by clear h;induction x using CV.casesOn<;>first|exact trivial|rfl) h
theorem lx{x:CV}{i:List Int}(h:gK x=γ i):x= .set i:=cT (o:=gK x) (P:=λi=>x= .set i) (by clear h;induction x using CV.casesOn<;>first|exact trivial|rfl) h
@[elab_as_elim] theorem ch.asI{i:CV}{n:Int}{v:ι}{P:ι->Prop}(r:ch X h m i v)(e:PP i=γ n)(k:∀t,P (.int n t)):P v:=by refine SZ (p:=λt=>v= .int n t) ((gw e▸r:ch X h m (.int n) v).intV) λt q=>?_;exact q▸k t
theorem ch.strV{i:Nat}{v:ι}(r:ch X h m (.str i) v):i<Do.length/\∃t,v= .str (nm i) t:=by
 cases r with
 |str i t q=>exact⟨q,t,rfl⟩
 |obj _ _ _ is _=>exact aG is
theorem ch.seqV{x:CV}{cls:String}{v:ι}(r:ch X h m x v)(k:∀o vs,cF X o x vs->js cls o vs)(nr:dA x= .none)(nl:gJ x= .none->a9 x= .none->False):∃a vs n,v= .ref a/\a≠aF/\h.get? a=γ {cls:=.type cls,dict:=.none,data:=.seq (lp vs) n,slots:=#[]}/\ce X h m x.kids vs:=by
 induction r using ch.casesOn with
 |obj _ q ho is rs=>obtain⟨n,rfl⟩:=k _ _ is;exact⟨_,_,n,rfl,q,ho,rs⟩
 |ref=>exact iE nr
 |_=>exact(nl TK TK).elim
theorem ch.tupV{l:List CV}{v:ι}(r:ch X h m (.tup l) v):∃a vs n,v= .ref a/\a≠aF/\h.get? a=γ {cls:=.type "tuple",dict:=.none,data:=.seq (lp vs) n,slots:=#[]}/\ce X h m l vs:=
 r.seqV (λ_ _ q=>q) TK λq _=>nomatch q
theorem ch.listV{l:List CV}{v:ι}(r:ch X h m (.list l) v):∃a vs n,v= .ref a/\a≠aF/\h.get? a=γ {cls:=.type "list",dict:=.none,data:=.seq (lp vs) n,slots:=#[]}/\ce X h m l vs:=
 r.seqV (λ_ _ q=>q) TK λ_ q=>nomatch q
theorem uU{f:CV->CV->Option Bool}:∀{l m:List CV} {b:Bool},eJ f l m=γ b->∃e:Nat->Bool,(∀j x y,l[j]? =γ x->m[j]? =γ y->f x y=γ (e j))/\b=(ax (δ l)).all e:=by
 intro l;induction l with
 |nil=>
  intro m b h;induction m using ar with
  |nil=>replace h:=ω h;subst h;exact⟨λ_=>ε,⟨λ_ _ _ e=>(nomatch e),rfl⟩⟩
  |cons _ _=>exact pt h
 |cons x l ih=>
  intro m b h;induction m using ar with
  |nil=>exact pt h
  |cons y m=>
   refine TE h λp h1 h=>?_;refine TE h λq h2 h=>?_;obtain⟨e,he,rfl⟩:=ih h2;replace h:=ω h;subst h;refine⟨λj=>Nat.rec p (λj _=>e j) j,λj x' y' e1 e2=>?_,?_⟩
   ·induction j using b5 with
    |zero=>replace e1:=ω e1;subst e1;replace e2:=ω e2;subst e2;exact h1
    |succ j=>exact he j x' y' e1 e2
   ·exists pR;exists EB;exists k_;exists List.all_map;rfl
noncomputable def intV:ι->Option Int|.int i _=>γ i|_=>η
noncomputable def strV:ι->Option ψ|.str i _=>γ i|_=>η
noncomputable def Dp:Data->List ι|.seq us _=>us.toList|_=>[]
noncomputable def mB(h:Ξ):ι->List ι
 |.ref a=>((h.get? a).map λo=>Dp o.data).getD []
 |_=>[]
noncomputable def fJ(h:Ξ):Nat->ι->ι->Bool
 |0,_,_=>ε
 |n+1,v,u=>intV v==intV u&&(strV v==strV u&&((mB h v).length==(mB h u).length&&(ax (mB h v).length).all λj=>fJ h n (((mB h v)[j]?).getD .none) (((mB h u)[j]?).getD .none)))
theorem LN(n:Nat)(v:ι):fJ h n v v=ε:=by
 induction n generalizing v with
 |zero=>rfl
 |succ n ih=>rw[fJ];exists TJ ..;exists TJ ..;exists TJ ..;exists(cg.mpr λj _=>ih _ ..);rfl
theorem rh{a:υ}{cls:String}{vs:List ι}{n:Nat}(e:h.get? a=γ {cls:=.type cls,dict:=.none,data:=.seq (lp vs) n,slots:=#[]}):mB h (.ref a)=vs:=by refine(?_:((h.get? a).map λo=>Dp o.data).getD []=vs);rw[e];rfl
theorem Jh{n:Nat}{f g:Nat->Bool}(h:∀j,j<n->f j=g j):(ax n).all f=(ax n).all g:=by rw[Gu,cg,cg];exact forall_congr' λj=>imp_congr_right λq=>by rw[h j (fQ.mp q)]
theorem Oa{a b:Nat}(ha:a<Do.length)(hb:b<Do.length):(γ (nm a)==γ (nm b))=(a==b):=rQ ha hb
theorem Br{n:Nat}{a a':υ}{cls Zr:String}{l m':List CV}{vs vs':List ι}{k k':Nat}{b:Bool}(ih:∀{x y:CV} {b:Bool} {v u:ι},Uf n x y=γ b->ch X h m x v->ch X h m y u->b=fJ h n v u)
  (e:eJ (Uf n) l m'=γ b) (hl:δ l=m'.length)
  (h1:h.get? a=γ {cls:=.type cls,dict:=.none,data:=.seq (lp vs) k,slots:=#[]}) (h2:h.get? a'=γ {cls:=.type Zr,dict:=.none,data:=.seq (lp vs') k',slots:=#[]}) (r1:ce X h m l vs) (r2:ce X h m m' vs'):
  b=fJ h (n+1) (.ref a) (.ref a'):=by
 obtain⟨f,hf,rfl⟩:=uU e;rw[fJ];rw[rh h1,rh h2,←r1.length,←r2.length,hl,TJ];refine Jh λj q=>?_;refine f4 (r1.get? (ag (hl▸q))) λv e1 r1=>?_;refine f4 (r2.get? (ag q)) λu e2 r2=>?_;rw[e1,e2];exact ih (hf j _ _ (ag (hl▸q)) (ag q)) r1 r2
theorem B9:∀(n:Nat) {x y:CV} {b:Bool} {v u:ι},Uf n x y=γ b->ch X h m x v->ch X h m y u->b=fJ h n v u:=by
 intro n;induction n with
 |zero=>exact λe=>nomatch e
 |succ n ih=>
  intro x y b v u e r q;induction x using CV.casesOn with
  |int i=>obtain⟨j,e1,rfl⟩:=map_some e;obtain rfl:=gw e1;obtain⟨t,rfl⟩:=r.intV;obtain⟨t',rfl⟩:=q.intV;exact(g_ (i==j)).symm
  |str i=>obtain⟨j,e1,rfl⟩:=map_some e;obtain rfl:=uG e1;obtain⟨k1,t,rfl⟩:=r.strV;obtain⟨k2,t',rfl⟩:=q.strV;exact(Oa k1 k2).symm.trans (g_ (γ (nm i)==γ (nm j))).symm
  |tup l=>
   refine TE e λl' e1 e=>?_;have hz:=qm e1;subst hz;obtain⟨a,vs,k,rfl,_,h1,r1⟩:=r.tupV;obtain⟨a',vs',k',rfl,_,h2,r2⟩:=q.tupV;revert e;refine(?_:(match ae (δ l) l'.length with|true=>eJ (Uf n) l l'|false=>η)=γ b->_);cases z:ae (δ l) l'.length with
   |false=>exact λe=>nomatch e
   |true=>exact λe=>Br ih e (aU z) h1 h2 r1 r2
  |list l=>
   refine TE e λl' e1 e=>?_;have hz:=gu e1;subst hz;obtain⟨a,vs,k,rfl,_,h1,r1⟩:=r.listV;obtain⟨a',vs',k',rfl,_,h2,r2⟩:=q.listV;revert e;refine(?_:(match ae (δ l) l'.length with|true=>eJ (Uf n) l l'|false=>γ ζ)=γ b->_);cases z:ae (δ l) l'.length with
   |false=>intro e;replace e:=ω e;subst e;rw[fJ];exists rh h1;refine ac (rh h2) (io r1.length (io r2.length (ac (TO.mpr (pA z)) ?_)));rfl
   |true=>exact λe=>Br ih e (aU z) h1 h2 r1 r2
  |_=>exact pt e
open PySem.SeqAt in
structure tj(A:ai) (s:ν) (v u:ι) (b:Bool):Prop where
 eq:RcAt A s v u b
 ne:RcNeAt A s v u (!b)
 at':EqAt A s v u b
open PySem.SeqAt in
theorem tj.refs{s:ν}{a a':υ}{b:Bool}(eq:RcAt A s (.ref a) (.ref a') b)(ne:RcNeAt A s (.ref a) (.ref a') (!b))(same:a=a'->b=ε):tj A s (.ref a) (.ref a') b:=
 ⟨eq,ne,(yS (a=a')).elim (λq=>by exists same q;exists q,EqAt.same _) λq=>EqAt.of_refs q eq⟩
theorem Ax{n:Nat}{l l':List CV}{vs vs':List ι}{e:Nat->Bool}(ih:∀{A:ai} {x y:CV} {b:Bool} {v u:ι},A.units+n<bK->Uf n x y=γ b->ch X s.heap m x v->ch X s.heap m y u->tj A s v u b)(hu:A.units+(n+1)<bK)
  (he:∀j x y,l[j]? =γ x->l'[j]? =γ y->Uf n x y=γ (e j)) (r1:ce X s.heap m l vs) (r2:ce X s.heap m l' vs') (j:Nat) (h1:j<vs.toArray.size) (h2:j<vs'.toArray.size):yf A.in1 s vs.toArray[j] vs'.toArray[j] (e j):=by
 refine f4 (r1.get?' (ag h1)) λx e1 q1=>?_;refine f4 (r2.get?' (ag h2)) λy e2 q2=>?_;exact(ih (A:=A.in1) (by exists Around.in1_units ..;exists bP ..;exists b4 1 n ..,hu) (he j x y e1 e2) q1 q2).at'
open PySem.SeqAt in
theorem vA:∀(n:Nat) {A:ai} {x y:CV} {b:Bool} {v u:ι},A.units+n<bK->Uf n x y=γ b->ch X s.heap m x v->ch X s.heap m y u->tj A s v u b:=by
 intro n;induction n with
 |zero=>exact λ_ e=>nomatch e
 |succ n ih=>
  intro A x y b v u hu e r q;have same:v=u->b=ε:=λq'=>(B9 (n+1) e r q).trans (q'▸LN (n+1) v);have VV:A.units<bK:=aR (ao _ _) hu;induction x using CV.casesOn with
  |int i=>obtain⟨j,e1,rfl⟩:=map_some e;obtain rfl:=gw e1;obtain⟨t,rfl⟩:=r.intV;obtain⟨t',rfl⟩:=q.intV;exact⟨RcAt.int_int _ _ _ _,RcNeAt.int_int _ _ _ _,(Ed _ _ _ _).at A s⟩
  |str i=>obtain⟨j,e1,rfl⟩:=map_some e;obtain rfl:=uG e1;obtain⟨k1,t,rfl⟩:=r.strV;obtain⟨k2,t',rfl⟩:=q.strV;refine io (rQ k1 k2) ?_;exact⟨RcAt.str_str _ _ _ _,RcNeAt.str_str _ _ _ _,by refine io (N_ ..) ?_;exact λprog w E Q hq=>(Tp _ _ _ _) prog w A E s Q hq⟩
  |tup l=>
   refine TE e λl' e1 e=>?_;have hz:=qm e1;subst hz;obtain⟨a,vs,k,rfl,_,h1,r1⟩:=r.tupV;obtain⟨a',vs',k',rfl,_,h2,r2⟩:=q.tupV;revert e;refine(?_:(match ae (δ l) l'.length with|true=>eJ (Uf n) l l'|false=>η)=γ b->_);cases z:ae (δ l) l'.length with
   |false=>exact λe=>nomatch e
   |true=>intro e;obtain⟨f,hf,rfl⟩:=uU e;have hz:vs.toArray.size=vs'.toArray.size:=r1.length.symm.trans ((aU z).trans r2.length);have el:((ax (min vs.toArray.size vs'.toArray.size)).all f&&vs.toArray.size==vs'.toArray.size)=(ax (δ l)).all f:=(by rw[←hz,yT,TJ,g_,r1.length];rfl);have he:=Ax (A:=A) ih hu hf r1 r2;exact .refs (el▸RcAt.tuples ⟨_,h1,rfl,k,rfl⟩ ⟨_,h2,rfl,k',rfl⟩ VV he) (el▸RcNeAt.tuples ⟨_,h1,rfl,k,rfl⟩ ⟨_,h2,rfl,k',rfl⟩ VV he) λq=>same (TL _ q)
  |list l=>
   refine TE e λl' e1 e=>?_;have hz:=gu e1;subst hz;obtain⟨a,vs,k,rfl,_,h1,r1⟩:=r.listV;obtain⟨a',vs',k',rfl,_,h2,r2⟩:=q.listV;revert e;refine(?_:(match ae (δ l) l'.length with|true=>eJ (Uf n) l l'|false=>γ ζ)=γ b->_);cases z:ae (δ l) l'.length with
   |false=>intro e;replace e:=ω e;subst e;have hz:(vs.toArray.size != vs'.toArray.size)=ε:=TP.mpr λq=>pA z (r1.length.trans (q.trans r2.length.symm));exact .refs (RcAt.lists_lengths ⟨_,h1,rfl,k,rfl⟩ ⟨_,h2,rfl,k',rfl⟩ hz VV) (RcNeAt.lists_lengths ⟨_,h1,rfl,k,rfl⟩ ⟨_,h2,rfl,k',rfl⟩ hz VV) λq=>same (TL _ q)
   |true=>intro e;obtain⟨f,hf,rfl⟩:=uU e;have hz:vs.toArray.size=vs'.toArray.size:=r1.length.symm.trans ((aU z).trans r2.length);have el:(ax vs.toArray.size).all f=(ax (δ l)).all f:=(by exists r1.length;rfl);have he:=Ax (A:=A) ih hu hf r1 r2;exact .refs (el▸RcAt.lists ⟨_,h1,rfl,k,rfl⟩ ⟨_,h2,rfl,k',rfl⟩ hz VV he) (el▸RcNeAt.lists ⟨_,h1,rfl,k,rfl⟩ ⟨_,h2,rfl,k',rfl⟩ hz VV he) λq=>same (TL _ q)
  |_=>exact pt e
theorem Qb{x:CV}{u:ι}(hu:A.units+8<bK)(r:ch X s.heap m x u):∀{l:List CV} {vs:List ι} {b:Bool},ce X s.heap m l vs->bM x l=γ b->(∀y,y∈vs->yf A s y u (fJ s.heap 8 y u))/\vs.any (λy=>fJ s.heap 8 y u)=b:=by
 intro l;induction l with
 |nil=>intro vs b rs e;cases rs;replace e:=ω e;subst e;exact⟨λ_ q=>(nomatch q),rfl⟩
 |cons z l ih=>
  intro vs b rs e;cases rs with|cons rz rs=>?_;refine TE e λa e1 e=>?_;refine TE e λa' e2 e=>?_;replace e:=ω e;subst e;obtain⟨k1,k2⟩:=ih rs e2;have q:=B9 8 e1 rz r;refine⟨λy hy=>?_,by exists uq,io q (ac k2 TK)⟩;rcases ab.mp hy with rfl|hy
  ·exact q▸(vA 8 hu e1 rz r).at'
  ·exact k1 y hy
theorem B'{x:CV}{u:ι}{l:List CV}{vs:List ι}{b:Bool}(hu:A.units+20<bK)(rs:ce X s.heap m l vs)(r:ch X s.heap m x u)(e:bM x l=γ b):
  (∀y,y∈vs.toArray->yf A.in1 s y u (fJ s.heap 8 y u))/\vs.toArray.any (λy=>fJ s.heap 8 y u)=b:=by
 refine on (Qb (A:=A.in1) (by exists Around.in1_units ..,aR (dq (by decide:1+8<=20) _ |> λq=>(bP A.units 1 8)▸q) hu) r rs e) λk1 k2=>?_;exact⟨λy hy=>k1 y (FZ.mp hy),(List.any_toArray).trans k2⟩
end
end Mine
end
section
open PySem PySem.W PyProof.Rows
namespace Mine
variable {X:Wd}{μ:py}{c:ad}{A:ai}{s:ν}{E:ι->ν->Prop}
section
variable {K:Type}[BEq K]{k k':K}{ks:List K}{w w':CV}{ws:List CV}
theorem LO(h:(k==k')=ε):cw k (k'::ks)=ks:=by refine(?_:(match k==k' with|true=>ks|false=>k'::cw k ks)=_);exists h,TK
theorem LP(h:(k==k')=ζ):cw k (k'::ks)=k'::cw k ks:=by refine(?_:(match k==k' with|true=>ks|false=>k'::cw k ks)=_);exists h,TK
theorem LQ(h:(k==k')=ε):eL k (k'::ks) (w'::ws)=ws:=by refine(?_:(match k==k' with|true=>ws|false=>w'::eL k ks ws)=_);exists h,TK
theorem LR(h:(k==k')=ζ):eL k (k'::ks) (w'::ws)=w'::eL k ks ws:=by refine(?_:(match k==k' with|true=>ws|false=>w'::eL k ks ws)=_);exists h,TK
theorem e9(h:(k==k')=ε):wf k (k'::ks) (w'::ws)=γ w':=by refine(?_:(match k==k' with|true=>γ w'|false=>wf k ks ws)=_);exists h,TK
theorem dy(h:(k==k')=ζ):wf k (k'::ks) (w'::ws)=wf k ks ws:=by refine(?_:(match k==k' with|true=>γ w'|false=>wf k ks ws)=_);exists h,TK
theorem lM(h:(k==k')=ε):IO k w (k'::ks) (w'::ws)=w::ws:=by refine(?_:(match k==k' with|true=>w::ws|false=>w'::IO k w ks ws)=_);exists h,TK
theorem j9(h:(k==k')=ζ):IO k w (k'::ks) (w'::ws)=w'::IO k w ks ws:=by refine(?_:(match k==k' with|true=>w::ws|false=>w'::IO k w ks ws)=_);exists h,TK
theorem ie(h:ks.contains k=ε):wv k ks=ks:=by refine(?_:(match ks.contains k with|true=>ks|false=>ks++[k])=_);exists h,TK
theorem jj(h:ks.contains k=ζ):wv k ks=ks++[k]:=by refine(?_:(match ks.contains k with|true=>ks|false=>ks++[k])=_);exists h,TK
end
theorem dS(h:Ξ)(o:af):∀b q,h.get? b=γ q->(h.push o).get? b=γ q:=λ_ _ e=>Heap.get?_push_of_some _ e
theorem FO{a:υ}{items:Array ι}{n:Nat}{i:Int}{t:aZ}{v:ι}{Q:Unit->ν->Prop}(hl:IsL s.heap a items n)(h0:0<=i)(XU:i<2 ^63)(hn:i<items.size)
  (h:∀h' m,Heap.SameBut a s.heap h'->IsL h' a (items.setIfInBounds i.toNat v) m->Q () {s with heap:=h'}):τ X.M A (ki (.ref a) (.int i t) v) Q E s:=by
 have hL:s.heap.IsList a items:=⟨_,hl,rfl,n,rfl⟩;unfold ki
 try with_reducible refine aq ?_
 first|refine θ (ο ?_)|skip
 refine θ (x7 hL.typeIs (by decide) ?_);refine θ (tH (name:=Str.ofString "__setitem__") hL.typeIs FF
  (gp FF hL.typeIs entry_list_setitem ?_ (args_list_setitem _ _ _)))
 refine(?_:τ _ _ (Builtin.List.listSubscript? (.int i t) >>= _) _ _ s);refine θ (wpAny_listSubscript_int (fitsIndex_of h0 XU) ?_);clear XU;obtain⟨j,rfl⟩:=iZ h0;have hj:j<items.size:=by exact aX.mp ‹_›
 have hx':items[j]? =γ items[j]:=gi hj;refine(?_:τ _ _ ((seqItemAt a j >>= λr=>pure (r.map (j,·))) >>= _) _ _ s);refine θ (θ (wpAny_seqItemAt hl TK (ο ?_)));exists hx';refine(?_:τ _ _ (setSeqItemAt a j v >>= _) _ _ s);have Wm:=uO hl (·.setIfInBounds j v);refine θ (wpAny_setSeqItemAt hl TK ?_)
 first
  |exact θ (ο (ο ⟨.none,rfl,ο (h _ _ (Heap.SameBut.update ..) Wm)⟩))
  |exact ο ⟨.none,rfl,ο (h _ _ (Heap.SameBut.update ..) Wm)⟩
theorem Kh{it t:υ}{items:Array ι}(Um:t≠it):∀(n i:Nat) (s:ν) (Q:List ι->ν->Prop),s.heap.IsListIter it t i->s.heap.IsList t items->i+n<=items.size->
  (∀h',h'.IsListIter it t (i+n)->Heap.SameBut it s.heap h'->Q ((items.toList.drop i).take n) {s with heap:=h'})->τ X.M A (draw (.ref it) n) Q E s:=by
 intro n;induction n with
 |zero=>exact λi s Q hit ht hn h=>ο (by have:=h s.heap hit (Heap.SameBut.refl ..);simpa using this)
 |succ n ih=>
  intro i s Q hit ht hn h;have T6:i<items.size:=by exact bp (pw (bS _)) hn
  refine θ (xp hit ht (x:=items[i]) (gi T6) λUd Vm WG=>?_);have VW:Ud.IsList t items:=by refine f4 ht λo ho r=>?_;clear ht;exact⟨o,by exists WG.2 t Um;exact ho,r⟩
  refine θ (aq (ih (i+1) {s with heap:=Ud} _ Vm VW (by(rw[cV];exact hn)) λUi W0 XW=>ο ?_));have:(items.toList.drop i).take (n+1)=items[i]::(items.toList.drop (i+1)).take n:=by exists iX (by simpa using T6),rfl
  have h3:=h Ui (by exists(show i+(n+1)=i+1+n by exact(cV i 1 n).symm),W0) (WG.trans XW);rw[this]at h3;exact h3
theorem Gf{t:υ}{items:Array ι}{targets:List (Bool×(ι->aQ Unit))}{Q:Unit->ν->Prop}(hh:A.handled=η)(ht:s.heap.IsList t items)
  (hn:δ targets=items.size) (XX:targets.findIdx? (·.1)=η)
  (h:∀h',Heap.ExtBut s.heap.objs.size s.heap h'->τ X.M A (p7 (targets.map (·.2)) items.toList) Q E {s with heap:=h'}):
  τ X.M A (unpack (.ref t) targets) Q E s:=by
 unfold unpack;exists hn;exists XX;refine θ (aq ?_);have T6:t≠s.heap.objs.size:=by refine f4 ht λo ho _=>?_;clear ht;exact fT (Heap.lt_size ho)
 refine θ ?_;refine θ (ym ht.typeIs F.slot_list_iter.lookup ?_);refine ο ?_;refine θ (aq (tV ht ?_));refine θ (aq (Kh T6 items.size 0 _ _ ⟨_,Heap.get?_push_size _ TK,rfl,rfl⟩ (ht.push _) (by exact a5 (az _)) λUd Vm WH=>?_));have UQ:List.take items.size (List.drop 0 items.toList)=items.toList:=by exists List.drop_zero,jQ (aJ _)
 exists UQ;exists TH (by simp);have VW:Ud.IsList t items:=(ht.push _).extBut WH.extBut T6;refine θ (aq (xB hh Vm VW (by simp) λUi XY=>?_));exact ο (h Ui λb o hb e=>XY b o hb (WH.extBut b o hb (Heap.get?_push_of_some _ e)))
theorem Hu{a:υ}{items:Array ι}{l:List Bool}{Q:ι->ν->Prop}(hh:A.handled=η)(hl:s.heap.IsList a items)(hi:items.toList=l.map .bool)(hz:δ l<=1000)
  (h:∀h' t,(∀b o,s.heap.get? b=γ o->h'.get? b=γ o)->Q (.bool (l.any id)) {s with heap:=h',toks:=t}):τ X.M A (call (.builtin "any") [.ref a]) Q E s:=by
 have hlen:items.size=δ l:=by have:=TL nt hi;simpa using this
 have Um:a≠s.heap.objs.size:=by refine f4 hl λo ho _=>?_;clear hl;exact fT (Heap.lt_size ho)
 refine call_any_walk (tV hl ?_);refine⟨_,_,_,items.size,_,_,λi=>(l[i]?).getD ζ,rfl,Walks.list (prog:=X.prog) (w:=X.w) (A:=A.in1) hh s.heap.objs.size a Um items,⟨⟨_,Heap.get?_push_size _ TK,rfl,rfl⟩,hl.push _⟩,?_,?_⟩
 ·intro i v s' Q' E' hp hq;have U2:items.toList[i]? =γ v:=by simpa using hp
  rw[hi,aA]at U2;cases q:l[i]? with
  |none=>rw[q]at U2;exact pt U2
  |some b=>rw[q]at U2;simp only[yn,jV]at U2;subst U2;simp only[q,F0]at hq;exact m8 hq
 ·intro h' tk ke;have e:(ax items.size).any (λi=>(l[i]?).getD ζ)=l.any id:=by
   rw[hlen,Gu,yb,yb];constructor
   ·rintro⟨i,hi,hb⟩;rw[fQ]at hi;rw[ag hi,F0]at hb;exact⟨l[i],m_ hi,hb⟩
   ·rintro⟨b,hb,ht⟩;obtain⟨i,hi⟩:=fO.mp hb;have T6:i<δ l:=(by obtain⟨h,_⟩:=ay.mp hi;exact h);exact⟨i,fQ.mpr T6,by rw[hi];exact ht⟩
  exists e;refine h h' tk λb o e=>?_;refine ke b o ?_ (dS _ _ b o e);have:b≠s.heap.objs.size:=fT (Heap.lt_size e);simpa using this
theorem FP{a:υ}{kvs:List (Int×ι)}{i:Int}{u:aZ}{d:ι}{Q:ι->ν->Prop}(hs:a≠aF)(h1:s.heap.DictOf (aH X.prog X.w) a kvs)
  (h:∀t,Q ((lg kvs i).getD d) {s with toks:=t}):τ X.M A (call (.builtin "dict.get") [.ref a,.int i u,d]) Q E s:=
 call_meetsIn Gv h1.mapOf.typeIs F.entry_dict_get (F.args_dict_get_3 _ _ _) (meets_dict_get_default (aH X.prog X.w) a (i8 _ _ _ _) (by simpa using hs) d) ⟨_,h1.mapOf,h _⟩
theorem uu{k i:Int}{ks:List Int}{v:ι}{vs:List ι}:lg ((k::ks).zip (v::vs)) i=if k=i then γ v else lg (ks.zip vs) i:=by
 unfold lg;exists kT;exists nc;by_cases q:k=i
 ·exists TG q;simp[q]
 ·exists TH q;simp[q]
theorem uv:∀{ks:List Int} {vs:List ι},δ ks=δ vs->∀i,(lg (ks.zip vs) i).isSome=ks.contains i:=by
 intro ks;induction ks with
 |nil=>exact λ_ _=>rfl
 |cons k ks ih=>
  intro vs h i;induction vs using ar with
  |nil=>exact nomatch h
  |cons v vs=>
   exists uu;exists g7;by_cases q:k=i
   ·rw[TG q,q,TJ];rfl
   ·rw[TH q,ih (c7 h),TO.mpr (aO q)];rfl
theorem Hv{k i:Int}{ks:List Int}{v:ι}{vs:List ι}:rM ((k::ks).zip (v::vs)) i=if k=i then rM (ks.zip vs) i else(k,v)::rM (ks.zip vs) i:=by
 unfold rM;exists kT;exists ub;by_cases q:k=i
 ·exists TG q;simp[q]
 ·exists TH q;simp[q]
theorem Ij{i}:∀{ks:List Int} {vs:List ι},δ ks=δ vs->ks.Nodup->∃vs',rM (ks.zip vs) i=(cw i ks).zip vs'/\(cw i ks).length=vs'.length/\∀{h:Ξ} {Uc:List CV},ce X h μ Uc vs->ce X h μ (eL i ks Uc) vs':=by
 intro ks;induction ks with
 |nil=>
  intro vs hl _;induction vs using ar with
  |nil=>exact⟨[],rfl,rfl,λr=>by cases r;exact .nil⟩
  |cons _ _=>exact nomatch hl
 |cons k ks ih=>
  intro vs hl T_;induction vs using ar with
  |nil=>exact nomatch hl
  |cons v vs=>
   refine on (dO.mp T_) λhk T_=>?_;rw[Hv];cases e':i==k with
   |true=>
    rw[TG (TM e').symm,LO e'];refine⟨vs,without_of_not_mem _ _ (λm=>hk ?_),c7 hl,λr=>?_⟩
    ·obtain⟨p,hp,e⟩:=au.mp m;exact TM e'▸e▸(yo hp).1
    ·cases r with|cons r rs=>rw[LQ e'];exact rs
   |false=>refine KT (ih (c7 hl) T_) λvs' h1 h2 h3=>?_;rw[TH (λe=>TO.mp e' e.symm),LP e',h1];refine⟨v::vs',rfl,TL (· +1) h2,λr=>?_⟩;cases r with|cons r rs=>rw[LR e'];exact .cons r (h3 rs)
theorem FQ(hs:a≠aF)(h1:s.heap.get? a=γ o)(hl:δ ks=δ vs)(i1:o.IsDictOf (aH X.prog X.w) (ks.zip vs))(h3:ce X s.heap μ Uc vs)(hi:ks.contains i=ε)(hz:δ ks<=1000)
  (h:∀h' q vs' t,(∀b o,b≠a->s.heap.get? b=γ o->h'.get? b=γ o)->h'.get? a=γ q->(cw i ks).length=vs'.length->q.IsDictOf (aH X.prog X.w) ((cw i ks).zip vs')->ce X s.heap μ (eL i ks Uc) vs'->Q () {s with heap:=h',toks:=t}):
  τ X.M A (delItem (.ref a) (.int i t)) Q E s:=by
 have hD:s.heap.DictOf (aH X.prog X.w) a (ks.zip vs):=Heap.dictOf_iff.mpr ⟨o,h1,i1⟩;have T_:ks.Nodup:=by
  obtain⟨es,ep,_,_,_,_,T_⟩:=i1;have:(ks.zip vs).map (·.1)=ks:=by rw[yg];exact a5 ‹_›
  rw[this]at T_;exact T_
 refine KT (Ij (X:=X) (μ:=μ) (i:=i) hl T_) λvs' w1 w2 w3=>?_;unfold delItem
 try with_reducible refine aq ?_
 refine θ (x7 hD.mapOf.typeIs (by decide) ?_);refine θ (tH (name:=Str.ofString "__delitem__") hD.mapOf.typeIs Eh
  (call_meetsIn Eh hD.mapOf.typeIs PySem.F.entry_dict_delitem (PySem.F.args_dict_delitem_2 _ _) (meets_dict_delitem_pairs (aH X.prog X.w) a (i8 _ _ i t)) ⟨ks.zip vs,hD,(by simp;exists lu,κ (yp _ _) (κ hz (by decide))),by exists uv hl ..;exact hi,λh' hmm VX=>?_⟩))
 rw[w1]at hmm;refine f4 (Heap.dictOf_iff.mp hmm) λo' ho' T9=>?_;exact ο (h h' o' vs' _ (λb o q e=>by exists VX.2 b q,e) ho' w2 T9 (w3 h3))
end Mine
end
section
open PySem PySem.W PyProof.Rows
namespace Mine
section
variable {X:Wd}{μ:py}{c:ad}{A:ai}{s:ν}{E:ι->ν->Prop}
theorem Ik{a b:υ}{o o':af}{l m:List Int}{Q:ι->ν->Prop}(h1:s.heap.get? a=γ o)(h2:s.heap.get? b=γ o')(i1:a_ X.w o l)(i2:a_ X.w o' m)
  (h:∀h' p q t d,(∀b o,s.heap.get? b=γ o->h'.get? b=γ o)->s.heap.get? p=η->h'.get? p=γ q->a_ X.w q (cu l m)->Q (.ref p) {s with heap:=h',toks:=t,drawn:=d}):τ X.M A (q8 .Sub (.ref a) (.ref b)) Q E s:=
 P7 (prog:=X.prog) ⟨o,h1,i1⟩ ⟨o',h2,i2⟩ λh' d p k n z5=>f4 z5 λq hq is=>h h' p q s.toks d k n hq is
theorem Ji{a b:υ}{o o':af}{l m:List Int}{Q:ι->ν->Prop}(h1:s.heap.get? a=γ o)(h2:s.heap.get? b=γ o')(i1:a_ X.w o l)(i2:a_ X.w o' m)(hs:fx (Re l m))
  (h:∀h' p q t d,(∀b o,s.heap.get? b=γ o->h'.get? b=γ o)->s.heap.get? p=η->h'.get? p=γ q->a_ X.w q (Re l m)->Q (.ref p) {s with heap:=h',toks:=t,drawn:=d}):τ X.M A (q8 .BitOr (.ref a) (.ref b)) Q E s:=
 Rw (prog:=X.prog) ⟨o,h1,i1⟩ ⟨o',h2,i2⟩ λh' d p k n z5=>f4 z5 λq hq is=>h h' p q s.toks d k n hq is
theorem Jj{a b:υ}{o o':af}{l m:List Int}{Q:ι->ν->Prop}(hu:A.units<bK)(h1:s.heap.get? a=γ o)(h2:s.heap.get? b=γ o')(i1:a_ X.w o l)(i2:a_ X.w o' m)
  (h:∀t,Q (.bool (l != m)) {s with toks:=t}):τ X.M A (dw .NotEq (.ref a) (.ref b)) Q E s:=
 Rx (prog:=X.prog) hu ⟨o,h1,i1⟩ ⟨o',h2,i2⟩ (h s.toks)
theorem Jk{a:υ}{o:af}{l:List Int}{i:Int}{u:aZ}{Q:ι->ν->Prop}(h1:s.heap.get? a=γ o)(i1:a_ X.w o l)
  (h:∀t,Q (.bool (l.contains i)) {s with toks:=t}):τ X.M A (dw .In (.int i u) (.ref a)) Q E s:=
 PySem.wpAny_inSet_of (knd:=aH X.prog X.w) (k:=i) (i8 _ _ _ _) TK (ln.setOf ⟨o,h1,i1⟩) (h _)
theorem Hb{a:υ}{o:af}{l:List Int}{i:Int}{u:aZ}{Q:ι->ν->Prop}(h1:s.heap.get? a=γ o)(i1:a_ X.w o l)
  (h:∀t,Q (.bool (!l.contains i)) {s with toks:=t}):τ X.M A (dw .NotIn (.int i u) (.ref a)) Q E s:=
 PySem.wpAny_notInSet_of (knd:=aH X.prog X.w) (k:=i) (i8 _ _ _ _) TK (ln.setOf ⟨o,h1,i1⟩) (h _)
theorem Hw{a:υ}{o:af}{ks:List Nat}{i:Nat}{u:aZ}{Q:ι->ν->Prop}(hi:i<Do.length)(hs:a≠aF)(h1:s.heap.get? a=γ o)(i1:q9 X o ks)
  (h:∀t,Q (.bool (ks.contains i)) {s with toks:=t}):τ X.M A (dw .In (.str (nm i) u) (.ref a)) Q E s:=by
 obtain⟨f,⟨es,ep,h2,h3,h4,h5⟩,h6⟩:=i1;refine FG (knd:=strKind X.prog X.w) (k:=nm i) (f:=f) ?_ (by simpa using hs) ⟨o,es,ep,h1,h2,h3,h4,h5⟩ ?_
 ·simp[Hj,Value.isStrOf]
 ·exists h6 i hi,h _
theorem Gg{a:υ}{o:af}{ks:List Nat}{i:Nat}{u:aZ}{Q:ι->ν->Prop}(hi:i<Do.length)(hs:a≠aF)(h1:s.heap.get? a=γ o)(i1:q9 X o ks)
  (h:∀t,Q (.bool (!ks.contains i)) {s with toks:=t}):τ X.M A (dw .NotIn (.str (nm i) u) (.ref a)) Q E s:=by
 obtain⟨f,⟨es,ep,h2,h3,h4,h5⟩,h6⟩:=i1;refine EP (knd:=strKind X.prog X.w) (k:=nm i) (f:=f) ?_ (by simpa using hs) ⟨o,es,ep,h1,h2,h3,h4,h5⟩ ?_
 ·simp[Hj,Value.isStrOf]
 ·exists h6 i hi,h _
theorem LU{p:υ}{x y:Int}{v:ι}{h:Ξ}(r:ch X h μ (.tup [.int x,.int y]) v):∃p:υ,v=Value.ref p/\X.pk.is h [x,y] p:=by obtain⟨a',vs,n,rfl,_,j2,j4⟩:=r.tupV;cases j4 with|cons r1 j4=>?_;cases j4 with|cons r2 j4=>?_;cases j4;obtain⟨t1,rfl⟩:=r1.intV;obtain⟨t2,rfl⟩:=r2.intV;exact⟨a',rfl,_,_,n,j2,rfl,rfl,.cons (by simp[aH,Value.isInt]) (.cons (by simp[aH,Value.isInt]) .nil)⟩
theorem Ki{h:Ξ}:∀{ks:List (Int×Int)} {vs:List ι},ce X h μ (ks.map λk=>CV.tup [.int k.1,.int k.2]) vs->∀(i:Nat) (k:Int×Int),ks[i]? =γ k->∃p:υ,vs[i]? =γ (Value.ref p)/\X.pk.is h [k.1,k.2] p:=by
 intro ks;induction ks with
 |nil=>exact λ_ _ _ e=>pt e
 |cons k' ks ih=>
  intro vs r i k e;cases r with|@cons _ v _ vs r rs=>?_;induction i using b5 with
  |zero=>obtain rfl:=ω e;obtain⟨p,rfl,hp⟩:=LU (p:=0) r;exact⟨p,rfl,hp⟩
  |succ i=>exact ih rs i k e
theorem Jl{h:Ξ}{xs ys:List CV}:∀{us ws:List ι},δ xs=us.length->ce X h μ (xs++ys) (us++ws)->ce X h μ xs us/\ce X h μ ys ws:=by
 induction xs with
 |nil=>
  intro us ws hl r;induction us using ar with
  |nil=>exact⟨.nil,r⟩
  |cons _ _=>exact nomatch hl
 |cons x xs ih=>
  intro us ws hl r;induction us using ar with
  |nil=>exact nomatch hl
  |cons u us=>cases r with|cons r rs=>exact on (ih (c7 hl) rs) λa b=>⟨.cons r a,b⟩
noncomputable abbrev Tm(k:Int×Int):List Int:=[k.1,k.2]
theorem nJ{k k':Int×Int}(h:Tm k=Tm k'):k=k':=by simp only[Tm,List.cons.injEq,and_true]at h;exact lX h.1 h.2
theorem nV{a:υ}{o:af}{ks:List (Int×Int)}{ws:List CV}{vs:List ι}(h1:s.heap.get? a=γ o)(i1:ff X o ks vs)(h3:ce X s.heap μ (CV.pdict ks ws).kids vs):
  ∃xs:List (List Int×υ×ι),s.heap.DictOfH X.pk a xs/\xs.map (·.1)=ks.map Tm/\ks.Nodup/\vs=xs.map (λx=>Value.ref x.2.1)++xs.map (·.2.2)/\
   ce X s.heap μ (ks.map λk=>CV.tup [.int k.1,.int k.2]) (xs.map λx=>Value.ref x.2.1)/\ce X s.heap μ ws (xs.map (·.2.2)):=by
 obtain⟨xs,es,ep,hx,hd,he,hk,hn,rfl⟩:=i1;have hlen:δ xs=δ ks:=by have:=TL nt hk;simpa using this
 refine on (Jl (by simp[hlen]) h3) λr1 r2=>?_;refine⟨xs,⟨o,es,ep,h1,hx,hd,he,?_,?_⟩,hk,hn,rfl,r1,r2⟩
 ·intro x hx';refine wF (List.mem_iff_getElem.mp hx') λi hi e=>?_;have XS:i<δ ks:=by exact kS ‹_› ‹_›
  refine f4 (Ki r1 i ks[i] (ag XS)) λp hp is=>?_;have hxk:x.1=Tm ks[i]:=by have:=TL (λz:List (List Int)=>z[i]?) hk;simp only[aA,ag hi,ag XS,yn,jV]at this;refine io e ?_;exact this
  rw[aA,ag hi]at hp;simp only[yn,jV,Value.ref.injEq]at hp;refine ac hxk (io e (ac hp ?_));exact is
 ·exists hk;rw[pj,tU];exact(pj.mp hn).imp λUm e=>Um (nJ e)
theorem lN:∀{ks:List (Int×Int)} {xs:List (List Int×υ×ι)} {k:Int×Int},xs.map (·.1)=ks.map Tm->(iK xs (Tm k)).isSome=ks.contains k
 |[],[],k,_=>by exact rfl
 |k'::ks,x::xs,k,h=>by
  replace h:=ja h;have ih:=lN (k:=k) h.2;simp only[iK,nc]at ih ⊢;by_cases q:k=k'
  ·subst q;simp[h.1]
  ·have:¬x.1=Tm k:=λe=>q (nJ (h.1.symm.trans e)).symm;simp only[this,decide_false];exists ih;exists g7;simp[q]
 |[],x::xs,k,h=>by simp at h
 |k'::ks,[],k,h=>by simp at h
theorem vh{h:Ξ}{k:Int×Int}{w:CV}:∀{ks:List (Int×Int)} {xs:List (List Int×υ×ι)} {ws:List CV},xs.map (·.1)=ks.map Tm->ce X h μ ws (xs.map (·.2.2))->wf k ks ws=γ w->
  ∃p,iK xs (Tm k)=γ p/\ch X h μ w p.2:=by
 intro ks;induction ks with
 |nil=>intro xs ws e r hd;induction ws<;>exact pt hd
 |cons k' ks ih=>
  intro xs ws e r hd;induction xs using ar with
  |nil=>exact nomatch e
  |cons x xs=>
   refine on (ja e) λe1 e2=>?_;induction ws using ar with
   |nil=>exact pt hd
   |cons w' ws=>
    cases r with|cons r rs=>?_
    cases q:k==k' with
    |true=>rw[e9 q]at hd;replace hd:=ω hd;subst hd;exact⟨x.2,by unfold iK;exists nc;exists TR (ac (TM q) e1);rfl,r⟩
    |false=>rw[dy q]at hd;obtain⟨p,hp,rp⟩:=ih e2 rs hd;refine⟨p,?_,rp⟩;unfold iK;exists nc;exists(TS λe'=>ne_of_beq_false q (nJ (e1.symm.trans e')).symm),hp
theorem nW(hu:A.units+20<bK):X.pk.room A.in1:=tupleKind_room_in1 (by lia)
theorem oj{p:υ}{x y:Int}{t1 t2:aZ}{n:Nat}{h:Ξ}(hp:IsT h p #[.int x t1,.int y t2] n):X.pk.is h [x,y] p:=
 ⟨_,_,n,hp,rfl,rfl,.cons (by simp[aH,Value.isInt]) (.cons (by simp[aH,Value.isInt]) .nil)⟩
theorem Hx{a p:υ}{o:af}{ks:List (Int×Int)}{ws:List CV}{vs:List ι}{x y:Int}{t1 t2:aZ}{n:Nat}{Q:ι->ν->Prop}(hu:A.units+20<bK)(hs:a≠aF)(hp:IsT s.heap p #[.int x t1,.int y t2] n)(h1:s.heap.get? a=γ o)(i1:ff X o ks vs)(h3:ce X s.heap μ (CV.pdict ks ws).kids vs)
  (h:∀t,Q (.bool (ks.contains (x,y))) {s with toks:=t}):τ X.M A (dw .In (.ref p) (.ref a)) Q E s:=by
 obtain⟨xs,hD,hk,hn,_,r1,r2⟩:=nV h1 i1 h3;refine wpAny_in_heap (knd:=X.pk) (nW hu) (oj hp) (by simpa using hs) hD ?_;exists lN (k:=(x,y)) hk,h _
theorem Gh{a p:υ}{o:af}{ks:List (Int×Int)}{ws:List CV}{vs:List ι}{x y:Int}{t1 t2:aZ}{n:Nat}{Q:ι->ν->Prop}(hu:A.units+20<bK)(hs:a≠aF)(hp:IsT s.heap p #[.int x t1,.int y t2] n)(h1:s.heap.get? a=γ o)(i1:ff X o ks vs)(h3:ce X s.heap μ (CV.pdict ks ws).kids vs)
  (h:∀t,Q (.bool (!ks.contains (x,y))) {s with toks:=t}):τ X.M A (dw .NotIn (.ref p) (.ref a)) Q E s:=by
 obtain⟨xs,hD,hk,hn,_,r1,r2⟩:=nV h1 i1 h3;refine(?_:τ _ _ (do return Value.bool (!(←contains (.ref a) (.ref p)))) Q E s);have UH:=wpAny_in_heap (knd:=X.pk) (A:=A) (E:=E) (Q:=λv s'=>∃b:Bool,v=Value.bool b/\Q (Value.bool (!b)) s') (nW hu) (oj hp) (by simpa using hs) hD ⟨_,rfl,by exists lN (k:=(x,y)) hk,h _⟩;have Zs:τ X.M A (do return Value.bool (←contains (.ref a) (.ref p))) (λv s'=>∃b:Bool,v=Value.bool b/\Q (Value.bool (!b)) s') E s:=UH;refine θ ?_;intro Γ pp hΓ;have:=Zs Γ pp hΓ;rw[Sem.wp_bind']at this;refine Sem.wp_mono _ _ _ (λb p' s' hb=>?_) (λ_ _ _ h=>h) _ _ this;refine f4 hb λb' e hq=>?_;clear hb;cases e;exact λΓ' p'' hΓ'=>by exact hq
theorem Fy{a p:υ}{o:af}{ks:List (Int×Int)}{ws:List CV}{vs:List ι}{x y:Int}{t1 t2:aZ}{n:Nat}{w:CV}{Q:ι->ν->Prop}(hu:A.units+20<bK)(hp:IsT s.heap p #[.int x t1,.int y t2] n)(h1:s.heap.get? a=γ o)(i1:ff X o ks vs)(h3:ce X s.heap μ (CV.pdict ks ws).kids vs)
  (e:wf (x,y) ks ws=γ w) (h:∀u t,ch X s.heap μ w u->Q u {s with toks:=t}):uE X.M A (.ref a) (.ref p) Q E s:=by
 obtain⟨xs,hD,hk,hn,_,r1,r2⟩:=nV h1 i1 h3;refine f4 (vh hk r2 e) λq hq rq=>?_;exact⟨"dict",_,PySem.slot_dict_getitem.lookup,hD.typeIs,wpAny_getItem_heap (knd:=X.pk) (nW hu) (oj hp) hD hq (h _ _ rq)⟩
theorem LV{h':Ξ}{a p:υ}{ks:List (Int×Int)}{ws:List CV}{xs:List (List Int×υ×ι)}{k:Int×Int}{v:ι}{cv:CV}(hk:xs.map (·.1)=ks.map Tm)(hn:ks.Nodup)
  (hD:h'.DictOfH X.pk a (l_ xs (Tm k) p v)) (r1:ce X s.heap μ (ks.map λk=>CV.tup [.int k.1,.int k.2]) (xs.map λx=>Value.ref x.2.1)) (r2:ce X s.heap μ ws (xs.map (·.2.2)))
  (rp:ch X s.heap μ (.tup [.int k.1,.int k.2]) (.ref p)) (rv:ch X s.heap μ cv v):
  ∃q vs',h'.get? a=γ q/\ff X q (wv k ks) vs'/\ce X s.heap μ (CV.pdict (wv k ks) (IO k cv ks ws)).kids vs':=by
 obtain⟨o,es,ep,ho,hx,hd,he,Zt,T_⟩:=hD;have key:(l_ xs (Tm k) p v).map (·.1)=(wv k ks).map Tm/\ce X s.heap μ ((wv k ks).map λk=>CV.tup [.int k.1,.int k.2]) ((l_ xs (Tm k) p v).map λx=>Value.ref x.2.1)/\ce X s.heap μ (IO k cv ks ws) ((l_ xs (Tm k) p v).map (·.2.2)):=by
  have hat:=lN (k:=k) hk;cases q:(iK xs (Tm k))with
  |none=>
   rw[q]at hat;have V8:¬k∈ks:=λm=>(by have:=ak.mpr m;rw[this]at hat;exact Db hat);exists qj q ..;have e1:wv k ks=ks++[k]:=jj hat.symm;have e2:∀{ks:List (Int×Int)} {ws:List CV} {xs:List (List Int×υ×ι)},xs.map (·.1)=ks.map Tm->¬k∈ks->ce X s.heap μ ws (xs.map (·.2.2))->IO k cv ks ws=ws++[cv]:=by
    intro ks;induction ks with
    |nil=>
     intro ws xs e _ r;induction xs using ar with
     |nil=>cases r;rfl
     |cons _ _=>exact nomatch e
    |cons k' ks ih=>
     intro ws xs e hm r;induction xs using ar with
     |nil=>exact nomatch e
     |cons x xs=>
      cases r with|cons r rs=>?_
      have Um:¬k=k':=λq=>hm (q▸ .head _);exists j9 (TO.mpr Um),ac uc (ac (ih (ja e).2 (λq=>hm (.tail _ q)) rs) TK)
   exists e1;exists e2 hk V8 r2;refine⟨by rw[aj,aj,hk];rfl,?_,?_⟩
   ·exists aj;exists aj,ce.append r1 (.cons rp .nil)
   ·exists aj,ce.append r2 (.cons rv .nil)
  |some z=>
   rw[q]at hat;have UH:k∈ks:=ak.mp hat.symm;exists storedH_old q ..;have e1:wv k ks=ks:=ie hat.symm;exists e1;refine⟨by exists keys_map_putAt ..;exact hk,?_,?_⟩
   ·have:(xs.map (putAt (Tm k) v)).map (λx=>Value.ref x.2.1)=xs.map λx=>Value.ref x.2.1:=(by exists cM;refine tO λx _=>?_;simp only[Function.comp,putAt];split<;>rfl);exists this,r1
   ·have go:∀{ks:List (Int×Int)} {ws:List CV} {xs:List (List Int×υ×ι)},xs.map (·.1)=ks.map Tm->ks.Nodup->k∈ks->ce X s.heap μ ws (xs.map (·.2.2))->ce X s.heap μ (IO k cv ks ws) ((xs.map (putAt (Tm k) v)).map (·.2.2)):=by
     intro ks;induction ks with
     |nil=>exact λ_ _ hm=>nomatch hm
     |cons k' ks ih=>
      intro ws xs e hn hm r;induction xs using ar with
      |nil=>exact nomatch e
      |cons x xs=>
       induction ws using ar with
       |nil=>cases r
       |cons w ws=>
        cases r with|cons r rs=>?_
        replace e:=ja e;by_cases q:k=k'
        ·subst q;have VQ:x.1=Tm k:=e.1;have YE:Tm k∉xs.map (·.1):=(by exists e.2;intro m;refine f4 (au.mp m) λk2 YI e2=>?_;have:=nJ e2;subst this;exact(dO.mp hn).1 YI);rw[lM (TJ k),bQ,bQ,map_putAt_of_not_mem xs _ v YE];refine .cons ?_ rs;simp only[putAt,VQ,if_true];exact rv
        ·have VQ:¬x.1=Tm k:=λe'=>q (nJ (e.1.symm.trans e')).symm;rw[j9 (TO.mpr q),bQ,bQ];refine .cons ?_ (ih e.2 (dO.mp hn).2 ((ab.mp hm).resolve_left q) rs);simp only[putAt,VQ,if_false];exact r
    exact go hk hn UH r2
 refine bL key λk1 k2 k3=>?_;clear key;refine⟨o,_,ho,⟨l_ xs (Tm k) p v,es,ep,hx,hd,he,k1,?_,rfl⟩,ce.append k2 k3⟩;cases V8:ks.contains k with
 |true=>refine ac (ie V8) ?_;exact hn
 |false=>rw[jj V8];exact cL.mpr ⟨hn,dO.mpr ⟨λh=>(nomatch h),.nil⟩,λx hx y hy e=>(λq=>jU (V8.symm.trans (ak.mpr q))) (Θ.mp hy▸e▸hx)⟩
theorem Ay{p:υ}{x y:Int}{t1 t2:aZ}{n:Nat}(hp:IsT s.heap p #[.int x t1,.int y t2] n)(hI:μ.I p)(Wn:p≠aF):ch X s.heap μ (.tup [.int x,.int y]) (.ref p):=
 .obj hI Wn hp ⟨n,rfl⟩ (.cons (.int _ _) (.cons (.int _ _) .nil))
theorem FA{a p:υ}{o:af}{ks:List (Int×Int)}{ws:List CV}{vs:List ι}{x y:Int}{t1 t2:aZ}{n:Nat}{cv:CV}{v:ι}{Q:Unit->ν->Prop}(hu:A.units+20<bK)(hp:IsT s.heap p #[.int x t1,.int y t2] n)(hI:μ.I p)(Wn:p≠aF)(h1:s.heap.get? a=γ o)(i1:ff X o ks vs)(h3:ce X s.heap μ (CV.pdict ks ws).kids vs)(hz:δ ks<=1000)
  (rv:ch X s.heap μ cv v) (h:∀h' q vs' t,(∀b o,b≠a->s.heap.get? b=γ o->h'.get? b=γ o)->h'.get? a=γ q->ff X q (wv (x,y) ks) vs'->ce X s.heap μ (CV.pdict (wv (x,y) ks) (IO (x,y) cv ks ws)).kids vs'->Q () {s with heap:=h',toks:=t}):
  τ X.M A (ki (.ref a) (.ref p) v) Q E s:=by
 obtain⟨xs,hD,hk,hn,_,r1,r2⟩:=nV h1 i1 h3;have hlen:δ xs=δ ks:=by have:=TL nt hk;simpa using this
 refine wpAny_setItem_heap (knd:=X.pk) (nW hu) (oj hp) hD (λh' Zu hs=>?_) (by exists lK;lia);obtain⟨q,vs',hq,is,rs⟩:=LV (k:=(x,y)) hk hn Zu r1 r2 (Ay hp hI Wn) rv;exact h h' q vs' _ (λb o hb e=>by exists hs.2 b hb,e) hq is rs
theorem FC{a p:υ}{xs:List (List Int×υ×ι)}{k:List Int}{d:ι}{Q:ι->ν->Prop}(hu:X.pk.room A)(Vg:X.pk.is s.heap k p)(hm:s.heap.DictOfH X.pk a xs)(hz:δ xs<=1000)
  (UR:∀z,iK xs k=γ z->∀t,Q z.2 {s with toks:=t}) (VA:iK xs k=η->∀h' t,h'.DictOfH X.pk a (l_ xs k p d)->Heap.SameBut a s.heap h'->Q d {s with heap:=h',toks:=t}):
  τ X.M A (dictSetDefault a (.ref p) d) Q E s:=by
 obtain⟨o,es,ep,ho,hc,hd,he,Zt,hn⟩:=hm;refine aq ?_;refine θ (X.pk.pyHash hu Vg ?_);refine θ (wpAny_dictFind_heap (s:={s with toks:=s.toks+X.pk.draws k}) hu Vg ho hd he Zt hn ?_ ?_)
 ·intro W1;have q:=atKey_none_of_get W1;refine θ (dR (θ (wpAny_updateDictKeys (hz:=by have e:=size_of_entries he;exists e;exists lK,κ ‹_› (by decide)) (s:={s with toks:=s.toks+X.pk.draws k}) ho hd (ο (VA q _ _ ⟨_,_,ep+1,Heap.get?_update_self _ ho (Obj.isFreed_of_dict (Obj.data_mapDictKeys hd _)),
   hc.mapDictKeys _,Obj.data_mapDictKeys hd _,?_,?_,?_⟩ (Heap.SameBut.update ..))))))
  ·exists qj q ..;simp[he,entryOfKey]
  ·exists qj q ..;intro x hx;rcases aw.mp hx with hx|hx
   ·exact X.pk.keeps (Zt x hx) ho hd (Heap.SameBut.update ..)
   ·simp only[Θ]at hx;subst hx;exact X.pk.keeps Vg ho hd (Heap.SameBut.update ..)
  ·exists qj q ..;rw[aj,cL];refine⟨hn,by simp,?_⟩;intro x hx y hy;replace hy:=Θ.mp hy;subst hy;exact λe=>not_mem_keys_of_get W1 (e▸hx)
 ·intro j z hj;refine θ (wpAny_dictEntries (s:={s with toks:=s.toks+X.pk.draws k}) ho hd ?_);exists entry_at he j;exists hj,θ (dR (ο (UR z (atKey_of_get hn hj) _)))
theorem E1{a p:υ}{o:af}{ks:List (Int×Int)}{ws:List CV}{vs:List ι}{x y:Int}{t1 t2:aZ}{n:Nat}{d:ι}{Q:ι->ν->Prop}(hu:A.units+20<bK)(hs:a≠aF)(hp:IsT s.heap p #[.int x t1,.int y t2] n)(hI:μ.I p)(Wn:p≠aF)(h1:s.heap.get? a=γ o)(i1:ff X o ks vs)(h3:ce X s.heap μ (CV.pdict ks ws).kids vs)(hz:δ ks<=1000)
  (UR:∀w,wf (x,y) ks ws=γ w->∀u t,ch X s.heap μ w u->Q u {s with toks:=t})
  (VA:wf (x,y) ks ws=η->∀h' q vs' t,(∀b o,b≠a->s.heap.get? b=γ o->h'.get? b=γ o)->h'.get? a=γ q->ff X q (ks++[(x,y)]) vs'->(∀cd,ch X s.heap μ cd d->ce X s.heap μ (CV.pdict (ks++[(x,y)]) (ws++[cd])).kids vs')->Q d {s with heap:=h',toks:=t}):
  τ X.M A (call (.builtin "dict.setdefault") [.ref a,.ref p,d]) Q E s:=by
 obtain⟨xs,hD,hk,hn,_,r1,r2⟩:=nV h1 i1 h3;have hlen:δ xs=δ ks:=by have:=TL nt hk;simpa using this
 have hg:∀z,iK xs (Tm (x,y))=γ z->∃w,wf (x,y) ks ws=γ w:=by
  intro z hz;have hc:=lN (k:=(x,y)) hk;rw[hz]at hc;have UH:(x,y)∈ks:=ak.mp hc.symm;have hwl:δ ws=δ ks:=by have:=r2.length;simp at this;exact Bj ‹_› ‹_›
  clear hc r1 r2 hk hD VA UR h3 i1 hz hlen hn;induction ks generalizing ws with
  |nil=>simp at UH
  |cons k ks ih=>
   induction ws using ar with
   |nil=>simp at hwl
   |cons w ws=>
    cases q:((x,y)==k)with
    |true=>exact⟨w,e9 q⟩
    |false=>refine ac (dy q) ?_;exact ih (x8 (Nat.succ_le_of_lt hz)) ((ab.mp UH).resolve_left (ne_of_beq_false q)) (c7 hwl)
 refine gp EE hD.typeIs F.entry_dict_setdefault ?_ (F.args_dict_setdefault_3 _ _ _);unfold Builtin.«dict.setdefault»;refine θ ?_;unfold Builtin.Dict.keyAndDefault;refine θ (wpAny_notOrdered_dict hD.typeIs ?_);refine(?_:τ _ _ (pure (a,Value.ref p,γ d)) _ _ s);refine ο ?_;refine(?_:τ _ _ (if(a==aF)=ε then _ else(dictSetDefault a (.ref p) d >>= _)) _ _ s);exists TH (by simpa using hs);refine θ (FC (k:=[x,y]) (nW hu) (oj hp) hD (by lia) ?_ ?_)
 ·intro z hz t;obtain⟨w,hw⟩:=hg z hz;refine f4 (vh hk r2 hw) λz' W2 rz=>?_;have:z'=z:=by have:=W2.symm.trans hz;simpa using this
  subst this;exact ο ⟨_,rfl,UR w hw _ _ rz⟩
 ·intro hz h' t Zu WC;have UI:wf (x,y) ks ws=η:=by
   cases q:wf (x,y) ks ws with
   |none=>rfl
   |some w=>refine f4 (vh hk r2 q) λz' W2 rz=>?_;have:=W2.symm.trans hz;exact iE this
  have V8:¬(x,y)∈ks:=λm=>by have:=lN (k:=(x,y)) hk;rw[show iK xs (Tm (x,y))=η from hz,ak.mpr m]at this;exact Db this
  refine ο ⟨_,rfl,?_⟩;have e1:wv (x,y) ks=ks++[(x,y)]:=by simp[wv,V8]
  obtain⟨o',es,ep,ho',hx',T9,Wi,Zv,Zw⟩:=Zu;have e3:l_ xs [x,y] p d=xs++[([x,y],p,d)]:=qj hz p d;rw[e3]at Wi Zv Zw;refine VA UI h' o' (xs.map (λx=>Value.ref x.2.1)++[Value.ref p]++(xs.map (·.2.2)++[d])) _ (λb o hb e=>by exists WC.2 b hb,e) ho' ⟨_,es,ep,hx',T9,Wi,?_,?_,?_⟩ ?_
  ·simp[hk,Tm]
  ·rw[cL];refine⟨hn,by simp,?_⟩;intro z hz y' XZ;simp only[Θ]at XZ;subst XZ;rintro rfl;exact V8 hz
  ·simp
  ·intro cd rd;refine(?_:ce X s.heap μ ((ks++[(x,y)]).map (λk=>CV.tup [.int k.1,.int k.2])++(ws++[cd])) _);exists aj,ce.append (ce.append r1 (.cons (Ay hp hI Wn) .nil)) (ce.append r2 (.cons rd .nil))
theorem yF{v:ι}{p:Option Int}{Q:Option Int->ν->Prop}(hv:v= .none/\p=η\/∃i u,v= .int i u/\p=γ i)(h:Q p s):τ X.M A (To v) Q E s:=by
 rcases hv with⟨rfl,rfl⟩|⟨i,u,rfl,rfl⟩
 ·exact slicePart_none h
 ·exact slicePart_int h
theorem Gi{sl:υ}{vl vu:ι}{pl pu:Option Int}{n:Nat}{Q:Int×Int×Nat->ν->Prop}(hs:s.heap.IsSliceOf sl vl vu .none)(hl:vl= .none/\pl=η\/∃i u,vl= .int i u/\pl=γ i)(hu:vu= .none/\pu=η\/∃i u,vu= .int i u/\pu=γ i)
  (h:Q ((iY pl pu 1 (n:Int)).1,1,tC (iY pl pu 1 (n:Int)).1 (iY pl pu 1 (n:Int)).2 1) s):
  τ X.M A (Ee (.ref sl) (pure (n:Int))) Q E s:=by
 refine KT (id hs) λos VY hcs Wa=>?_;unfold Ee Tw;refine θ (θ (zd VY Wa (x:=vl) TK (θ (zd VY Wa (x:=vu) TK (θ (zd VY Wa (x:=.none) TK (ο ?_)))))));refine θ (slicePart_none ?_);refine(?_:τ _ _ (if((1:Int)==0)=ε then _ else _) _ _ s);exists TH (by decide);refine θ (yF hl (θ (yF hu (θ (ο ?_)))));exact ο h
theorem xP{a sl:υ}{items:Array ι}{n:Nat}{vl vu:ι}{pl pu:Option Int}{lo cnt:Nat}{Q:ι->ν->Prop}(ht:IsT s.heap a items n)(hs:s.heap.IsSliceOf sl vl vu .none)(hl:vl= .none/\pl=η\/∃i u,vl= .int i u/\pl=γ i)(hu:vu= .none/\pu=η\/∃i u,vu= .int i u/\pu=γ i)
  (h1:(iY pl pu 1 (items.size:Int)).1=lo) (h2:tC (iY pl pu 1 (items.size:Int)).1 (iY pl pu 1 (items.size:Int)).2 1=cnt) (hz:items.size<=1000) (hc:cnt<=items.size)
  (W3:lo=0->cnt=items.size->Q (.ref a) s) (X1:Q (.ref s.heap.objs.size) {s with heap:=s.heap.push {cls:=.type "tuple",data:=.seq ((items.toList.drop lo).take cnt).toArray}}):
  τ X.M A (fY (.ref a) (.ref sl)) Q E s:=by
 refine KT (id hs) λos VY hcs Wa=>?_;have hTs:s.TypeIs (.ref sl) "slice":=⟨os,VY,hcs⟩;have YL:s.TypeIs (.ref a) "tuple":=⟨_,ht,rfl⟩;refine aq ?_;refine θ (x7 YL (by decide) ?_);refine θ (tH (name:=Str.ofString "__getitem__") YL pq
  (gp pq YL PySem.F.entry_tuple_getitem ?_ (PySem.F.args_tuple_getitem_2 _ _)))
 refine(?_:τ _ _ (Tt (.ref a) >>= _) _ _ s);refine θ (θ (wpAny_seqItems ht TK (ο ?_)));refine θ (ll hTs ?_);exists TG (by decide);refine θ (Gi hs hl hu ?_);rw[h1]at h2;exists h1;exists h2;have X2:((ax cnt).filterMap λ(k:Nat)=>items[((lo:Int)+(k:Int)*1).toNat]?).toArray=((items.toList.drop lo).take cnt).toArray:=by
  have e:(λ(k:Nat)=>items[((lo:Int)+(k:Int)*1).toNat]?)=λk=>items[lo+k]?:=by funext k;have:((lo:Int)+(k:Int)*1).toNat=lo+k:=(by exact(bP _ _ _).symm);exists this,TK
  exists e;have:=pick_run items lo cnt;rw[Ff]at this;exact TL lp this
 have part:τ X.M A.in1 (En ((ax cnt).filterMap λ(k:Nat)=>items[((lo:Int)+(k:Int)*1).toNat]?).toArray >>= λv=>ret v) (λfin s'=>∃v,fin= .done (.ret v)/\τ X.M A (pure v) Q E s') E s:=by exists X2;refine θ (m:=En _) (pM (ο ⟨_,rfl,ο X1⟩) ?_);refine(?_:((items.toList.drop lo).take cnt).toArray.size<=kf);exists pN;exists yh;exists lK;omega
 by_cases hw:((lo:Int)==0&&(1:Int)==1&&cnt==items.size)=ε
 ·refine(?_:τ _ _ (if((lo:Int)==0&&(1:Int)==1&&cnt==items.size)=ε then _ else _) _ _ s);exists TG hw;unfold Tu;refine θ (θ (ll YL (ο ?_)));exists TG (by decide);refine θ (dR (ο ⟨_,rfl,ο (W3 ?_ ?_)⟩))
  ·simp at hw;omega
  ·simp at hw;lia
 ·refine(?_:τ _ _ (if((lo:Int)==0&&(1:Int)==1&&cnt==items.size)=ε then _ else _) _ _ s);exists TH hw,part
theorem Hy{a sl:υ}{items:Array ι}{n:Nat}{i:Int}{u:aZ}{Q:ι->ν->Prop}(ht:IsT s.heap a items n)(hs:s.heap.IsSliceOf sl (.int i u) .none .none)(h0:0<=i)(hz:items.size<=1000)
  (h:∀h' p m,(∀b o,s.heap.get? b=γ o->h'.get? b=γ o)->(IsT h' p (items.toList.drop i.toNat).toArray m/\(p=a/\items.toList.drop i.toNat=items.toList/\h'=s.heap\/s.heap.get? p=η))->Q (.ref p) {s with heap:=h'}):τ X.M A (fY (.ref a) (.ref sl)) Q E s:=by
 obtain⟨k,rfl⟩:=iZ h0;refine xP (lo:=min k items.size) (cnt:=items.size - min k items.size) ht hs (.inr ⟨_,_,rfl,rfl⟩) (.inl ⟨rfl,rfl⟩) ?_ ?_ hz (zG _ _) ?_ ?_
 ·unfold iY;simp only[show ¬((1:Int)<0) by decide,show ¬((k:Int)<0)from hZ.mpr (aE k),if_false];omega
 ·unfold iY tC;simp only[show ¬((1:Int)<0) by decide,show ¬((k:Int)<0)from hZ.mpr (aE k),if_false,show(1:Int) > 0 by decide,if_true,yU];split<;>omega
 ·intro e1 e2;have hd:items.toList.drop (k:Int).toNat=items.toList:=by
   rcases Fg k with rfl|hk
   ·rfl
   ·have:items.size=0:=(by lia);have:items=#[]:=(by simpa using this);subst this;simp
  refine h s.heap a n (λ_ _ e=>e) ⟨?_,.inl ⟨rfl,hd,rfl⟩⟩;exists hd,ht
 ·have hd:(items.toList.drop (min k items.size)).take (items.size - min k items.size)=items.toList.drop (k:Int).toNat:=by
   exists jQ (by simp);rcases yV k items.size with q|q
   ·exists Gx q;rfl
   ·exists F4 q,ac (mY (by simp)) (ac (mY (by simp;exact‹_›)) TK)
  exists hd,h _ s.heap.objs.size 0 (dS _ _) ⟨Heap.get?_push_size _ TK,.inr (c6 _)⟩
theorem Hz{a sl:υ}{items:Array ι}{n:Nat}{i:Int}{u:aZ}{Q:ι->ν->Prop}(ht:IsT s.heap a items n)(hs:s.heap.IsSliceOf sl .none (.int i u) .none)(h0:0<=i)(hz:items.size<=1000)
  (h:∀h' p m,(∀b o,s.heap.get? b=γ o->h'.get? b=γ o)->(IsT h' p (items.toList.take i.toNat).toArray m/\(p=a/\items.size<=i.toNat/\h'=s.heap\/s.heap.get? p=η))->Q (.ref p) {s with heap:=h'}):τ X.M A (fY (.ref a) (.ref sl)) Q E s:=by
 obtain⟨k,rfl⟩:=iZ h0;refine xP (lo:=0) (cnt:=min k items.size) ht hs (.inl ⟨rfl,rfl⟩) (.inr ⟨_,_,rfl,rfl⟩) ?_ ?_ hz (Nat.min_le_right _ _) ?_ ?_
 ·rfl
 ·unfold iY tC;simp only[show ¬((1:Int)<0) by decide,show ¬((k:Int)<0)from hZ.mpr (aE k),if_false,show(1:Int) > 0 by decide,if_true,yU];split<;>omega
 ·intro e1 e2;refine h s.heap a n (λ_ _ e=>e) ⟨?_,.inl ⟨rfl,by simp;omega,rfl⟩⟩;exists jQ (by simp;omega),ht
 ·have hd:(items.toList.drop 0).take (min k items.size)=items.toList.take (k:Int).toNat:=by
   rcases yV k items.size with q|q
   ·exists Gx q;rfl
   ·exists F4 q;exists jQ (aJ _);exists jQ (by simp;exact‹_›);rfl
  exists hd,h _ s.heap.objs.size 0 (dS _ _) ⟨Heap.get?_push_size _ TK,.inr (c6 _)⟩
theorem Hc{Q:ι->ν->Prop}(h:∀h' p q t d,(∀b o,s.heap.get? b=γ o->h'.get? b=γ o)->s.heap.get? p=η->h'.get? p=γ q->a_ X.w q []->Q (.ref p) {s with heap:=h',toks:=t,drawn:=d}):τ X.M A (call (.type "set") []) Q E s:=
 NX (prog:=X.prog) (w:=X.w) (h _ _ (eh X.w) s.toks s.drawn (lB _ _) (e8 _) (Heap.get?_push_size _ TK) (yY X.w))
theorem HA{l:υ}{items:Array ι}{ns:List Int}{Q:ι->ν->Prop}(hh:A.handled=η)(hl:s.heap.IsList l items)(hi:cP items.toList ns)(hs:fx (ofL ns))
  (h:∀h' p q t d,(∀b o,s.heap.get? b=γ o->h'.get? b=γ o)->s.heap.get? p=η->h'.get? p=γ q->a_ X.w q (ofL ns)->Q (.ref p) {s with heap:=h',toks:=t,drawn:=d}):τ X.M A (call (.type "set") [.ref l]) Q E s:=
 IU (prog:=X.prog) (w:=X.w) hh hl hi (λx hx=>hs.2 x (vy.mpr hx)) λh' t d k z4=>f4 z4 λq hq is=>h h' _ q t d k (e8 _) hq is
theorem Gj{a:υ}{o:af}{l:List Int}{Q:ι->ν->Prop}(hh:A.handled=η)(hu:A.units+20<bK)(h1:s.heap.get? a=γ o)(i1:a_ X.w o l)
  (h:∀h' p us n t d,(∀b o,s.heap.get? b=γ o->h'.get? b=γ o)->s.heap.get? p=η->IsL h' p us n->cP us.toList l->Q (.ref p) {s with heap:=h',toks:=t,drawn:=d}):τ X.M A (call (.builtin "sorted") [.ref a]) Q E s:=
 Ka (prog:=X.prog) hh ⟨o,h1,i1⟩ λh' p us n t d k n' e is=>h h' p us n t d k n' e is
theorem Gk{a:υ}{o:af}{l:List Int}{i:Int}{u:aZ}{Q:ι->ν->Prop}(h1:s.heap.get? a=γ o)(i1:a_ X.w o l)(hs:fx (NE i l))
  (h:∀h' q t,(∀b o,b≠a->s.heap.get? b=γ o->h'.get? b=γ o)->h'.get? a=γ q->a_ X.w q (NE i l)->Q .none {s with heap:=h',toks:=t}):τ X.M A (call (.builtin "set.add") [.ref a,.int i u]) Q E s:=
 J8 (prog:=X.prog) ⟨o,h1,i1⟩ (hs.2 i (b6.mpr (.inl TK))) λh' t k z3=>f4 z3 λq hq is=>h h' q t (λb o hb e=>by exists k.2 b hb,e) hq is
theorem Il{a b:υ}{o o':af}{l m:List Int}{Q:ι->ν->Prop}(h1:s.heap.get? a=γ o)(h2:s.heap.get? b=γ o')(i1:a_ X.w o l)(i2:a_ X.w o' m)(hs:fx (Re l m))
  (h:∀h' q t d,(∀b o,b≠a->s.heap.get? b=γ o->h'.get? b=γ o)->h'.get? a=γ q->a_ X.w q (Re l m)->Q (.ref a) {s with heap:=h',toks:=t,drawn:=d}):τ X.M A (nI .BitOr (.ref a) (.ref b)) Q E s:=
 P6 (prog:=X.prog) ⟨o,h1,i1⟩ ⟨o',h2,i2⟩ λh' d k z3=>f4 z3 λq hq is=>h h' q s.toks d (λb o hb e=>by exists k.2 b hb,e) hq is
theorem LW{env:aa}{cq:ψ}{i:Int}{n:Nat}{p pos:aK}{Q:ι->ν->Prop}(hs:fx [i])(hc:s.heap.CodeRec env.code cq)
  (h:∀h' q o t,(∀b o,s.heap.get? b=γ o->h'.get? b=γ o)->s.heap.get? q=η->h'.get? q=γ o->a_ X.w o [i]->Q (.ref q) {s with heap:=h',toks:=t}):τ X.M A (eval (.Set [.Constant (.int i) n p] 0 pos) env) Q E s:=
 IV (prog:=X.prog) (w:=X.w) hc (hs.2 i (.head _)) λh' t k z3=>f4 z3 λo ho is=>h h' _ o t k (e8 _) ho is
theorem Kj:ff X {cls:=.type "dict",data:=.dict #[]} [] []:=⟨[],#[],0,⟨rfl,rfl,rfl⟩,rfl,rfl,rfl,.nil,rfl⟩
end
section
variable {X:Wd}{h h' TY:Ξ}{m m' m₁:py}{c c':ad}{s s' s₁:ν}{env:aa}{l:L}{k:Nat}{sc:Ω}{Φ:Nat->Fn}{A:ai}{Er:ι->ν->Prop}{P:CV->ad->Prop}{Q:ι->ν->Prop}
def xL(X:Wd) (env:aa) (l:L) (P:CV->ad->Prop) (s:ν) (m:py) (Q:ι->ν->Prop):Prop:=
 ∀cv c' v s' m',P cv c'->Ok X env l s' m' c'->gl No s m s' m'->ch X s'.heap m' cv v->Q v s'
theorem xL.after(q:xL X env l P s m Q)(p:gl No s m s₁ m₁):xL X env l P s₁ m₁ Q:=λ_ _ _ _ _ h O p' r=>q _ _ _ _ _ h O (p.trans p') r
theorem xL.t(q:xL X env l P s m Q){cv:CV}{v:ι}(h:P cv c)(O:Ok X env l s m c)(r:ch X s.heap m cv v){t:Nat}:Q v {s with toks:=t}:=
 q _ _ _ _ _ h (O.t TK) (gl.refl.t TK TK TK) r
theorem Ok.grow(O:Ok X env l s m c)(k:∀b o,s.heap.get? b=γ o->s'.heap.get? b=γ o)(g:s'.gens=s.gens)(os:s'.os=s.os):Ok X env l s' m c/\gl No s m s' m:=
 ⟨O.go (gl.grow k g os) (O.V.grow k),gl.grow k g os⟩
theorem xL.grow(q:xL X env l P s m Q){cv:CV}{v:ι}(h:P cv c)(O:Ok X env l s m c)(r:ch X s.heap m cv v){t:Nat}{h':Ξ}(ke:∀b o,s.heap.get? b=γ o->h'.get? b=γ o):Q v {s with heap:=h',toks:=t}:=
 let⟨O',p⟩:=O.grow (s':={s with heap:=h',toks:=t}) ke TK TK
 q _ _ _ _ _ h O' p (r.up (.grow ke))
theorem xL.obj(q:xL X env l P s m Q){x:CV}{a:υ}{o:af}{vs:List ι}{b:Bool}{t:Nat}{d:Drawn}(O:Ok X env l s m c)(f:be s.heap a h' o)(is:cF X o x vs)(rs:ce X s.heap m x.kids vs)(h:dI b x c P):
  Q (.ref a) {s with heap:=h',toks:=t,drawn:=d}:=by
 induction b with
 |true=>exact(bL (O.newCell (s':={s with heap:=h',toks:=t,drawn:=d}) f TK TK is rs) λO' P' r=>q _ _ _ _ _ h O' P' r)
 |false=>exact(bL (O.frozen (s':={s with heap:=h',toks:=t,drawn:=d}) f TK TK is rs) λO' P' r=>q _ _ _ _ _ h O' P' r)
theorem KB.setV(S:KB X h m (.set xs) v):∃a o,v= .ref a/\h.get? a=γ o/\a_ X.w o xs:=by
 induction S with
 |obj q ho is rs=>exact⟨_,_,rfl,ho,is.2⟩
 |val S=>cases S
theorem fZ{n:Nat}(z:n<=1000):n<=kf:=by exists lK,κ z (by decide)
theorem yj{vs us:List ι}:vs.toArray++us.toArray=(vs++us).toArray:=List.append_toArray _ _
noncomputable def gQ:Op->Operator
 |.add=>.Add|.sub=>.Sub|.mul=>.Mult|.mod=>.Mod|.fdiv=>.FloorDiv|.xor=>.BitXor|.band=>.BitAnd|.bor=>.BitOr
noncomputable def bW:Cm->CmpOp
 |.eq=>.Eq|.ne=>.NotEq|.lt=>.Lt|.le=>.LtE|.gt=>.Gt|.ge=>.GtE|.is=>.Is|.isin=>.In|.notin=>.NotIn
theorem Qc(ha:0<=a)(hb:0<=b):GQ a b=aY (a.toNat ||| b.toNat) - aY (a.toNat&&& b.toNat):=by
 obtain⟨x,rfl⟩:=iZ ha;obtain⟨y,rfl⟩:=iZ hb;unfold GQ Builtin.bitOr;have n1:∀x:Nat,d9 (x:Int)=dQ x:=λx=>by unfold d9;exact((pV x).trans Int.neg_add).symm
 have n2:∀x:Nat,d9 (dQ x)=(x:Int):=λx=>by unfold d9;exact pK (x:Int) 1
 have h2:uh (dQ x) (dQ y)=d9 (aY (x ||| y)):=by have q:∀x:Nat,¬(0<=dQ x):=λx=>zH.mpr (pJ x);unfold uh;exists TS (q x);exists TS (q y);refine(?_:d9 (aY ((d9 (dQ x)).toNat ||| (d9 (dQ y)).toNat))=_);exists n2 ..;exists n2 ..;rfl
 exists n1 ..;exists n1 ..;exists h2 ..;refine(?_:d9 (d9 ((x ||| y:Nat):Int)) - _=_);exists n1 ..;exists n2 ..;rfl
theorem Qd(a:Int):uh a 4294967295=a%4294967296:=by
 unfold uh;have p:decide ((0:Int)<=4294967295)=ε:=rfl;induction a with
 |ofNat x=>refine ac p (ac (TR (show(0:Int)<=aY x from aE x)) ?_);exact TL aY (D5 x 32)
 |negSucc x=>
  exists p;exists TS (zH.mpr (pJ x));have e:(4294967295:Int).toNat&&& (d9 (dQ x)).toNat=x%2 ^32:=by have n2:d9 (dQ x)=(x:Int):=(by unfold d9;exact pK (x:Int) 1);rw[n2,Nat.and_comm];exact D5 _ 32
  refine(?_:(4294967295:Int) - aY ((4294967295:Int).toNat&&& (d9 (dQ x)).toNat)=_);rw[e,pV];refine(?_:_ - ((x%2 ^32:Nat):Int)=_);exact(Int.negSucc_emod x (b:=4294967296) (by decide)).symm
theorem Sw(h1:0<b)(h2:b<4611686018427387904):Builtin.divisionGoesByPylong a b=ζ:=by refine PyProof.noPylong_of_log2 ?_;have:b.natAbs.log2<62:=(Nat.log2_lt (by exact Int.natAbs_ne_zero.mpr (qd h1))).mpr (by exact aX.mp (by rw[ER (j0 h1)];exact h2));exact nk this (by decide)
theorem Ry(h1:kq a):IntMulOk a b:=IntMulOk.of_left (PySem.intBits_le_64 h1.1 h1.2)
theorem Ob{op}{x y}{v u}(O:Ok X env l s m c)(W4:KB X s.heap m x v)(W5:KB X s.heap m y u)(h:Dm op x y λz=>P z c)(q:xL X env l P s m Q):
  τ X.M A (q8 (gQ op) v u) Q Er s:=by
 induction x using CV.casesOn with
 |int a=>
  refine wp h λb e h=>?_;obtain rfl:=gw e;obtain⟨t,rfl⟩:=W4.int;obtain⟨t',rfl⟩:=W5.int;induction op with
  |add=>exact add_int (q.t h O (.int _ _))
  |sub=>exact sub_int (q.t h O (.int _ _))
  |mul=>exact mul_int (q.t h.2.2 O (.int _ _)) (Ry h.1)
  |mod=>exact mod_int (qd h.1) (Int.fmod_eq_emod_of_nonneg _ (j0 h.1)▸q.t h.2 O (.int _ _))
  |fdiv=>exact floordiv_int (qd h.1.1) (Int.fdiv_eq_ediv_of_nonneg _ (j0 h.1.1)▸q.t h.2 O (.int _ _)) (.inl (Sw h.1.1 h.1.2))
  |xor=>exact xor_int (Qc h.1.1 h.1.2▸q.t h.2 O (.int _ _))
  |band=>have hz:=h.1;subst hz;exact and_int (Qd a▸q.t h.2 O (.int _ _))
  |bor=>exact h.elim
 |set a=>
  refine wp h λb e h=>?_;obtain rfl:=lx e;obtain⟨p,o,rfl,h1,i1⟩:=W4.setV;obtain⟨p',o',rfl,h2,i2⟩:=W5.setV;induction op with
  |sub=>exact Ik h1 h2 i1 i2 λh' p q' t d k1 k2 k3 k4=>q.obj (x:=.set _) (b:=ζ) O ⟨k1,k2,k3⟩ ⟨rfl,k4⟩ .nil h
  |bor=>exact Ji h1 h2 i1 i2 h.1 λh' p q' t d k1 k2 k3 k4=>q.obj (x:=.set _) (b:=ζ) O ⟨k1,k2,k3⟩ ⟨rfl,k4⟩ .nil h.2
  |_=>exact h.elim
 |list a=>
  refine wp h λb e h=>?_;obtain rfl:=gu e;refine W4.listE λp vs n h1 r1=>?_;obtain⟨p',o',vs',rfl,_,h2,⟨n',rfl⟩,r2⟩:=W5.list;induction op with
  |add=>have hz:vs.toArray.size+vs'.toArray.size<=kf:=fZ (by have z:=h.1;rw[Δ,r1.length,r2.length]at z;exact z);refine PySem.P.add_list h1 h2 ?_ hz;exists yj,q.obj (x:=.list _) (b:=ζ) O (be.push TK) ⟨0,rfl⟩ (r1.append r2) h.2
  |_=>exact h.elim
 |_=>exact h.elim
theorem Oc{pos}(ha:lw X k Φ sc a ea)(hb:lw X k Φ sc b eb):lw X k Φ sc (.BinOp a (gQ op) b pos) (.bin op ea eb):=
 λA env l s m c P Q Er R hs O h q=>wpAny_BinOp (ha A env l s m c _ _ _ R hs O h λx c1 v s1 m1 h1 O1 P1 r1=>hb A env l s1 m1 c1 _ _ _ R hs O1 h1 λy c2 u s2 m2 h2 O2 P2 r2=>
  let⟨x',ex,h2⟩:=TD h2;let⟨y',ey,h2⟩:=TD h2
  Ob O2 ((r1.up (P2.upN O1.V)).see O2.V ex) (r2.see O2.V ey) h2 (xL.after q (P1.trans P2)))
theorem Bs{pos}(ha:lw X k Φ sc a ea):lw X k Φ sc (.UnaryOp .USub a pos) (.neg ea):=
 λA env l s m c P Q Er R hs O h q=>wpAny_UnaryOp (ha A env l s m c _ _ _ R hs O h λx c1 v s1 m1 h1 O1 P1 r1=>by refine wp h1 λi e h1=>?_;refine r1.asI e λt=>?_;exact neg_int (xL.t (xL.after q P1) h1 O1 (.int _ _)))
def py.all(m:py):py:={m with I:=λ_=>True}
theorem KB.rep(S:KB X h m x v):ch X h m.all x v:=by
 induction S with
 |obj q ho is rs=>exact .obj TQ q ho is (ce.up (m:=m) (m':=m.all) ⟨λ_ _ _ e=>⟨trivial,e⟩,λ_ _ i e=>⟨i,e⟩,λ_ _ e=>e⟩ rs)
 |val S=>exact S.rep
theorem KB.dict(S:KB X h m (.dict ks ws) v):∃a vs,v= .ref a/\a≠aF/\δ ks=δ vs/\h.DictOf (aH X.prog X.w) a (ks.zip vs)/\ce X h m ws vs:=by
 induction S with
 |obj q ho is rs=>exact⟨_,_,rfl,q,is.1,kQ.mpr ⟨_,ho,is.2⟩,rs⟩
 |val S=>cases S
theorem KB.pdict(S:KB X h m (.pdict ks ws) v):∃a o vs,v= .ref a/\a≠aF/\h.get? a=γ o/\ff X o ks vs/\ce X h m (CV.pdict ks ws).kids vs:=by
 induction S with
 |obj q ho is rs=>exact⟨_,_,_,rfl,q,ho,is,rs⟩
 |val S=>cases S
theorem KB.kdict(S:KB X h m (.kdict ks) v):∃a o,v= .ref a/\a≠aF/\h.get? a=γ o/\q9 X o ks:=by
 induction S with
 |obj q ho is rs=>exact⟨_,_,rfl,q,ho,is.2⟩
 |val S=>cases S
theorem qi(h:oc x=γ p):x= .tup [.int p.1,.int p.2]:=by
 induction x using CV.casesOn with
 |tup l=>
  induction l using ar with
  |nil=>exact pt h
  |cons a l=>induction l using ar with
   |nil=>exact pt h
   |cons b l=>induction l using ar with
    |cons _ _=>exact pt h
    |nil=>refine TE h λi e1 h=>?_;obtain⟨j,e2,rfl⟩:=map_some h;have hz:=gw e1;subst hz;have hz:=gw e2;subst hz;rfl
 |_=>exact pt h
theorem ch.pair{p:Int×Int}{v:ι}(r:ch X h m (.tup [.int p.1,.int p.2]) v):∃a n t1 t2,v= .ref a/\a≠aF/\IsT h a #[.int p.1 t1,.int p.2 t2] n:=by obtain⟨a,vs,n,rfl,q,j2,j4⟩:=r.tupV;cases j4 with|cons r1 j4=>?_;cases j4 with|cons r2 j4=>?_;cases j4;obtain⟨t1,rfl⟩:=r1.intV;obtain⟨t2,rfl⟩:=r2.intV;exact⟨a,n,t1,t2,rfl,q,j2⟩
def Sx(X:Wd) (A:ai) (Er:ι->ν->Prop) (s:ν) (v u:ι) (b:Bool):Prop:=
 (∀{Q:ι->ν->Prop},(∀t,Q (.bool b) {s with toks:=t})->τ X.M A (dw .In v u) Q Er s)/\(∀{Q:ι->ν->Prop},(∀t,Q (.bool (!b)) {s with toks:=t})->τ X.M A (dw .NotIn v u) Q Er s)
theorem B_(hu:A.units+20<bK)(r:ch X s.heap m x v)(S:KB X s.heap m y u)(e:th x y=γ b):
  Sx X A Er s v u b:=by
 induction y using CV.casesOn with
 |set l=>obtain⟨i,e1,rfl⟩:=map_some e;refine r.asI e1 λt=>?_;obtain⟨a,o,rfl,h1,h2⟩:=S.setV;exact⟨λh=>Jk h1 h2 h,λh=>Hb h1 h2 h⟩
 |dict ks ws=>obtain⟨i,e1,rfl⟩:=map_some e;refine r.asI e1 λt=>?_;obtain⟨a,vs,rfl,hs,hl,hd,_⟩:=S.dict;have hs:(a==aF)=ζ:=TO.mpr hs;exact⟨λh=>FG (knd:=aH X.prog X.w) (i8 _ _ _ _) hs hd.mapOf (uv hl i▸h _),λh=>EP (knd:=aH X.prog X.w) (i8 _ _ _ _) hs hd.mapOf (uv hl i▸h _)⟩
 |pdict ks ws=>obtain⟨p,e1,rfl⟩:=map_some e;obtain rfl:=qi e1;obtain⟨a',n,t1,t2,rfl,_,j⟩:=r.pair;obtain⟨a,o,vs,rfl,hs,h1,h2,h3⟩:=S.pdict;exact⟨λh=>Hx hu hs j h1 h2 h3 h,λh=>Gh hu hs j h1 h2 h3 h⟩
 |kdict ks=>obtain⟨p,e1,rfl⟩:=map_some e;obtain rfl:=uG e1;obtain⟨hi,t,rfl⟩:=r.strV;obtain⟨a,o,rfl,hs,h1,h2⟩:=S.kdict;exact⟨λh=>Hw hi hs h1 h2 h,λh=>Gg hi hs h1 h2 h⟩
 |list xs=>refine S.listE λa vs n h1 rs=>?_;obtain⟨hf,rfl⟩:=B' (A:=A) hu rs r (show bM x xs=γ b from e);exact⟨λh=>PySem.SeqAt.in_listAt _ ⟨_,h1,rfl,n,rfl⟩ hf (h s.toks),λh=>PySem.SeqAt.notIn_listAt _ ⟨_,h1,rfl,n,rfl⟩ hf (h s.toks)⟩
 |tup xs=>refine S.tupE λa vs n h1 rs=>?_;obtain⟨hf,rfl⟩:=B' (A:=A) hu rs r (show bM x xs=γ b from e);exact⟨λh=>PySem.SeqAt.in_tupleAt _ ⟨_,h1,rfl,n,rfl⟩ hf (h s.toks),λh=>PySem.SeqAt.notIn_tupleAt _ ⟨_,h1,rfl,n,rfl⟩ hf (h s.toks)⟩
 |_=>exact pt e
theorem qR{P:ι->ι->Prop}(e:oe f x y=γ b)(r:ch X s.heap m x v)(q:ch X s.heap m y u)(k:∀i j t t',b=f i j->P (.int i t) (.int j t')):P v u:=by obtain⟨i,e1,e⟩:=qz e;obtain⟨j,e2,e⟩:=map_some e;exact r.asI e1 λt=>q.asI e2 λt'=>k i j t t' e.symm
theorem Od(e:bh c .is x y=γ b):y= .none/\((x= .none/\b=ε)\/∃i,x= .int i/\b=ζ):=by
 induction y using CV.casesOn<;>first|exact pt e|skip
 induction x using CV.casesOn<;>first|exact pt e|exact⟨rfl,.inl ⟨rfl,(ω e).symm⟩⟩|exact⟨rfl,.inr ⟨_,rfl,(ω e).symm⟩⟩
theorem Oe(e:mK x y=γ b):(iL x y).map (!·)=γ b\/∃l l',x= .set l/\y= .set l'/\b=(l != l'):=by
 induction x using CV.casesOn<;>first|exact .inl e|skip
 obtain⟨l',e1,rfl⟩:=map_some e;exact .inr ⟨_,l',rfl,lx e1,rfl⟩
theorem Qe(r:ch X s.heap m x v)(q:ch X s.heap m y u)(e:bh c .is x y=γ b)(h:∀t,Q (.bool b) {s with toks:=t}):τ X.M A (dw (bW .is) v u) Q Er s:=by
 obtain⟨rfl,e0⟩:=Od e;clear e;cases q with
 |obj _ _ _ is _=>exact aG is
 |none=>
  rcases e0 with⟨rfl,rfl⟩|⟨i,rfl,rfl⟩
  ·cases r with
   |none=>exact is_none (h s.toks)
   |obj _ _ _ is _=>exact aG is
  ·obtain⟨t,rfl⟩:=r.intV;exact is_none (h s.toks)
theorem lF(hu:A.units+20<bK)(V:AC X s.heap m c)(r:ch X s.heap m x v)(q:ch X s.heap m y u)(e:bh c op x y=γ b)
  (h:∀t,Q (.bool b) {s with toks:=t}):τ X.M A (dw (bW op) v u) Q Er s:=by
 have VV:A.units+8<bK:=aR (dq (by decide) _) hu;induction op with
 |is=>exact Qe r q e h
 |isin=>refine TE e λy' ey e=>?_;exact(B_ hu r (q.see V ey) e).1 h
 |notin=>obtain⟨b',e1,rfl⟩:=map_some e;refine TE e1 λy' ey e=>?_;exact(B_ hu r (q.see V ey) e).2 h
 |eq=>refine TE e λx' ex e=>?_;refine TE e λy' ey e=>?_;exact(vA 8 VV e (r.see V ex).rep (q.see V ey).rep).eq _ _ _ _ (h s.toks)
 |ne=>
  obtain⟨x',ex,e⟩:=qz e;refine TE e λy' ey e=>?_;rcases Oe e with e|⟨l,l',rfl,rfl,rfl⟩
  ·obtain⟨b',e1,rfl⟩:=map_some e;exact(vA 8 VV e1 (r.see V ex).rep (q.see V ey).rep).ne _ _ _ _ (h s.toks)
  ·obtain⟨a,o,rfl,h1,h2⟩:=(r.see V ex).setV;obtain⟨a',o',rfl,Uk,Vw⟩:=(q.see V ey).setV;exact Jj (aR (ao _ _) hu) h1 Uk h2 Vw h
 |lt=>exact qR (P:=λv u=>τ X.M A (dw _ v u) Q Er s) e r q λi j t t' eb=>lt_int (eb▸h s.toks)
 |le=>exact qR (P:=λv u=>τ X.M A (dw _ v u) Q Er s) e r q λi j t t' eb=>le_int (eb▸h s.toks)
 |gt=>exact qR (P:=λv u=>τ X.M A (dw _ v u) Q Er s) e r q λi j t t' eb=>gt_int (eb▸h s.toks)
 |ge=>exact qR (P:=λv u=>τ X.M A (dw _ v u) Q Er s) e r q λi j t t' eb=>ge_int (eb▸h s.toks)
theorem Pv.u20(R:Pv k A):A.units+20<bK:=by have:=R.u;exact bp (kR (bp (by decide) (d8 100 (bZ (cN k)))) _) this
theorem Of{pos}(hm:lh (bW op) b=ζ)(ha:lw X k Φ sc a ea)(hb:lw X k Φ sc b eb):lw X k Φ sc (.Compare a [bW op] [b] pos) (.cmp op ea eb):=
 λA env l s m c P Q Er R hs O h q=>wpAny_Compare1 (ha A env l s m c _ _ _ R hs O h λx c1 v s1 m1 h1 O1 P1 r1=>hb A env l s1 m1 c1 _ _ _ R hs O1 h1 λy c2 u s2 m2 h2 O2 P2 r2=>
  let⟨b,e,h2⟩:=TD h2
  lF R.u20 O2.V (r1.up (P2.upN O1.V)) r2 e λt=>xL.t (xL.after q (P1.trans P2)) h2 O2 (.bool _)) hm
theorem Og{pos}(hm:lh (bW op) b=ζ)(ha:lw X k Φ sc a ea)(hb:lw X k Φ sc b eb):bV X k Φ sc (.Compare a [bW op] [b] pos) (.cmp op ea eb):=
 λA env l s m c P Q Er R hs O h q=>wpAny_isTrue_Compare1 (ha A env l s m c _ _ _ R hs O h λx c1 v s1 m1 h1 O1 P1 r1=>hb A env l s1 m1 c1 _ _ _ R hs O1 h1 λy c2 u s2 m2 h2 O2 P2 r2=>
  let⟨b,e,h2⟩:=TD h2
  lF R.u20 O2.V (r1.up (P2.upN O1.V)) r2 e λt=>m8 (q (.bool b) b _ _ _ (λ_ q=>q) h2 (O2.t TK) ((P1.trans P2).t TK TK TK))) hm
end
section
variable {X:Wd}{h h' TY:Ξ}{m m' m₁:py}{c c':ad}{s s' s₁:ν}{env:aa}{l:L}{k:Nat}{sc:Ω}{Φ:Nat->Fn}{A:ai}{Er:ι->ν->Prop}{P:CV->ad->Prop}{Q:ι->ν->Prop}
structure iG(X:Wd) (attrs:List Nat):Prop where
 get:∀c,c<4->kp X.K (.ref (X.cls c)) "__getattribute__"=γ (γ (.builtin "object.__getattribute__"))
 set:∀c,c<4->kp X.K (.ref (X.cls c)) "__setattr__"=γ (γ (.builtin "object.__setattr__"))
 over:∀c,c<4->plainOver X.K (X.cls c)=ε
 dict:∀c,c<4->hasDictIn X.K (X.cls c)=ε
 none:∀c n,c<4->n∈attrs->kp X.K (.ref (X.cls c)) (nm n)=γ η
 len:∀n,n∈attrs->n<Do.length
 taker:∀c n,c<4->n∈attrs->takerIn X.K (X.cls c) (nm n)=γ uF
 keep:∀c,c<4->keepIn X.K (.ref (X.cls c))=ε
 makes:∀c,c<4->makesIn X.K (X.cls c)=ε
 hasDict:∀c,c<4->(clsIn X.K (X.cls c)).any (·.hasDict)=ε
theorem Kl{n:Nat}{w:CV}(hn:n<Do.length){es:List fV}{ks:List Nat}{vs:List ι}(S:fy X es ks vs):∀{Uc:List CV},ce X h m Uc vs->wf n ks Uc=γ w->
  ∃e,es.find? (·.key.isStr (nm n))=γ e/\ch X h m w e.val:=by
 induction S with
 |nil=>intro Uc r e;cases r;exact pt e
 |@cons es ks vs k t v hk W6 S ih=>
  intro Uc r e;cases r with|cons r rs=>?_;cases q:n==k with
  |true=>rw[e9 q]at e;replace e:=ω e;subst e;obtain rfl:=TM q;exact⟨_,by exists nc;refine(?_:(match nm n==nm n with|true=>_|false=>_)=_);exact ac (TJ ..) TK,r⟩
  |false=>rw[dy q]at e;refine f4 (ih rs e) λe' h1 h3=>?_;refine⟨e',?_,h3⟩;exists nc;exists show(Value.str (nm k) t).isStr (nm n)=ζ from(rQ hk hn).trans (TO.mpr λe=>ne_of_beq_false q e.symm),h1
theorem Jm{x:CV}{v:ι}(r:ch X h m x v):handedIn v=ε:=by induction r using ch.casesOn<;>rfl
theorem KB.sdict{ks:List Nat}{ws:List CV}{v:ι}(S:KB X h m (.sdict ks ws) v):∃a es n vs,v= .ref a/\h.get? a=γ {cls:=.type "dict",data:=.dict es n}/\fy X es.toList ks vs/\ce X h m ws vs:=by
 induction S with
 |obj q ho is rs=>obtain⟨es,n,rfl,S⟩:=is;exact⟨_,es,n,_,rfl,ho,S,rs⟩
 |val S=>cases S
theorem ch.inst{cc:Nat}{d:CV}{v:ι}(r:ch X h m (.inst cc d) v):cc<4/\∃a dd,v= .ref a/\a≠aF/\h.get? a=γ (dT (X.cls cc) dd)/\ch X h m d (.ref dd):=by
 cases r with|obj _ q ho is rs=>?_
 obtain⟨hc,dd,rfl,rfl⟩:=is;cases rs with|cons r _=>exact⟨hc,_,dd,rfl,q,ho,r⟩
theorem LX{attrs:List Nat}(F:iG X attrs){n:Nat}{cv w:CV}{v:ι}{Q:ι->ν->Prop}{expr:Bool}(hn:n∈attrs)(V:AC X s.heap m c)(r:ch X s.heap m cv v)(e:jz c n cv=γ w)
  (h:∀u t,ch X s.heap m w u->Q u {s with toks:=t}):τ X.M A (getAttr v (nm n) expr) Q Er s:=by
 induction cv using CV.casesOn with
 |inst cc d=>
  refine TE e λx ex e=>?_;obtain⟨hc,a,dd,rfl,_,ho,rd⟩:=r.inst;have S:=rd.see V ex;induction x using CV.casesOn with
  |sdict ks ws=>obtain⟨a',es,n',vs,ed,h1,h2,h3⟩:=S.sdict;replace ed:=Value.ref.inj ed;subst ed;refine f4 (Kl (F.len n hn) h2 h3 e) λen f1 ru=>?_;exact get_value (od:=γ {cls:=.type "dict",data:=.dict es n'}) V.gnd.kIn ⟨ho,rfl,rfl,h1⟩ (F.get _ hc) (findObj_own (F.dict _ hc) (F.none _ n hc hn) TK (by unfold lookIn;refine(?_:(match es.toList.find? λe=>e.key.isStr (nm n)with|some e=>_|none=>_)=_);exists f1,TK)) (Jm ru) (h _ _ ru)
  |_=>exact pt e
 |_=>exact pt e
noncomputable def e_(o:aP):Bool:=if h:o.ctorIdx=16 then tM (motive_1:=λ_=>Bool) o h λ_ as kw _=> !(as.isEmpty&&kw.isEmpty)else ε
theorem pO{o:aP}(hn:e_ o=ε)(attr:ψ)(env:aa)(whole:aQ ι):attributeBase o attr env whole=whole:=by
 induction o using cW<;>first|rfl|skip
 rename_i f as kw p;induction f using cW<;>first|rfl|skip
 induction as<;>first|rfl|skip
 induction kw<;>first|rfl|exact Db hn
theorem LY{attrs:List Nat}(F:iG X attrs){a:aP}{n:Nat}{pos}{ea:Mine.E}(hn:n∈attrs)(hs:e_ a=ε)(ha:lw X k Φ sc a ea):lw X k Φ sc (.Attribute a (nm n) pos) (.attr ea n):=by intro A env l s m c P Q Er R YD O h q;exists arm_eval_Attribute ..;exists pO hs ..;refine θ (ha A env l s m c _ _ _ R YD O h λx c1 v s1 m1 h1 O1 P1 r1=>?_);refine wp h1 λw e h1=>?_;exact θ (aV (θ (aq (LX F hn O1.V r1 e λu t ru=>θ (ES (ο (xL.t (xL.after q P1) h1 O1 ru)))))))
noncomputable def lO(x:aP):Bool:= !(ae x.ctorIdx 26)
theorem yv{slice:aP}(hn:lO slice=ε)(o i:ι):subscripted slice ζ o i=operate [o,i] (fY o i):=by induction slice using cW<;>first|rfl|exact t_ (show ζ=ε from hn)
theorem Hd{value slice:aP}{pos:aK}(hn:lO slice=ε)
  (h:τ X.M A (eval value env) (λo s₁=>τ X.M A (eval slice env) (λi TV=>uE X.M A o i Q Er TV) Er s₁) Er s):τ X.M A (eval (.Subscript value slice pos) env) Q Er s:=by
 exists arm_eval_Subscript ..;refine θ (cj h (λo s₁ Ud=>θ (aq (cj Ud (λi TV Ui=>θ (aV ?_)) λ_ _ x=>x))) λ_ _ x=>x);obtain⟨T,id,hl,hT,hg⟩:=Ui;refine θ ?_;exists getitemInPython_of_ne hT.not_modules;refine θ (ym hT hl ?_);have fin:τ X.M A (operate [o,i] (fY o i)) (λr TX=>τ X.M A (letTemporaryGo value o r >>= λ_=>pure r) Q Er TX) Er TV:=
  yq (cj hg (λr TX Ux=>θ (ES (ο Ux))) λ_ _ x=>x)
 first
  |exact ο (θ (by exists yv hn ..,fin))
  |exact θ (ο (θ (by rw[yv hn];exact fin)))
theorem y6{i:Int}{w:CV}:∀{ks:List Int} {vs:List ι} {Uc:List CV},δ ks=δ vs->ce X h m Uc vs->wf i ks Uc=γ w->∃v,lg (ks.zip vs) i=γ v/\ch X h m w v:=by
 intro ks;induction ks with
 |nil=>intro vs Uc _ _ e;induction Uc<;>exact pt e
 |cons k ks ih=>
  intro vs Uc hl r e;induction r using ce.casesOn with
  |nil=>cases hl
  |cons r rs=>
   exists uu;cases q:i==k with
   |true=>rw[e9 q]at e;replace e:=ω e;subst e;exact⟨_,TG (TM q).symm,r⟩
   |false=>rw[dy q]at e;exists(TH λe=>ne_of_beq_false q e.symm),ih (c7 hl) rs e
theorem Oh{xs:List CV}{vs:List ι}{i:Int}{w:CV}(rs:ce X h m xs vs)(e:s0 xs i=γ w):∃(n:Nat) (u:ι),vs[n]? =γ u/\ch X h m w u/\(i=(n:Int)\/∃j:Nat,i=dQ j/\n+(j+1)=δ vs):=by
 induction i with
 |ofNat n=>refine f4 (rs.get? (show xs[n]? =γ w from e)) λu hu ru=>?_;exact⟨n,u,hu,ru,.inl TK⟩
 |negSucc j=>
  revert e;refine(?_:(match iz (j+1) (δ xs)with|true=>xs[δ xs - (j+1)]?|false=>η)=γ w->_);cases q:iz (j+1) (δ xs)with
  |false=>exact λe=>nomatch e
  |true=>exact λe=>(f4 (rs.get? e) λu hu ru=>⟨_,u,hu,ru,.inr ⟨j,rfl,(Nat.sub_add_cancel (pC q)).trans rs.length⟩⟩)
theorem oD{n N:Nat}(h:n<N)(z:N<=1001):(n:Int)<2 ^63:=tS (aX.mpr (bp h z)) (by decide)
theorem Bt{cls:String}{x:CV}{xs:List CV}{ci:CV}{o i:ι}(Zx:cls="list"\/cls="tuple")(O:Ok X env l s m c){a:υ}{vs:List ι}{n:Nat}(h1:s.heap.get? a=γ {cls:=.type cls,data:=.seq vs.toArray n})(rs:ce X s.heap m xs vs)
  (r:ch X s.heap m ci i) (h:wj xs ci λw=>P w c) (q:xL X env l P s m Q):uE X.M A (.ref a) i Q Er s:=by
 refine KT (TD h) λii ei hz hO=>?_;refine wp hO λw ew hP=>?_;clear h hO;refine r.asI ei λt=>?_;obtain⟨j,u,hu,ru,hj⟩:=Oh rs ew;have lt:j<δ vs:=(ay.mp hu).1;have hz:δ vs<=1000:=rs.length▸hz;have fin:Q u {s with toks:=s.toks}:=q.t hP O ru;have hu:vs.toArray[j]? =γ u:=jR.trans hu;rcases Zx with rfl|rfl
 ·have hL:s.heap.IsList a vs.toArray:=⟨_,h1,rfl,n,rfl⟩;refine⟨"list",_,xc,hL.typeIs,?_⟩;rcases hj with rfl|⟨j',rfl,e⟩
  ·exact wpAny_getItem_list hL (aE _) (oD lt (eY hz)) hu fin
  ·have e':dQ j'+(vs.toArray.size:Int)=j:=(by rw[pN,←e,pV];lia);have ge: -(vs.toArray.size:Int)<=dQ j':=(by exact Int.le_of_sub_nonneg (by rw[Int.sub_neg,e'];exact aE _));refine wpAny_getItem_list_neg (x:=u) hL (pJ _) ge (jZ (GR (j0 (oD (cY (δ vs)) (bZ hz)))) ge) ?_ fin;exists e',hu
 ·refine⟨"tuple",_,pq.lookup,⟨_,h1,rfl⟩,PySem.P.getItem_tuple (k:=j) h1 ?_ ?_ ?_ hu fin⟩
  ·rcases hj with rfl|⟨j',rfl,e⟩
   ·exact jZ (by decide) (aE _)
   ·exists pV ..,GR (d_.mpr (κ (κ (eZ _ j) (a5 e)) (κ hz (by decide))))
  ·rcases hj with rfl|⟨j',rfl,e⟩
   ·exact oD lt (eY hz)
   ·exact jb (pJ _) (by decide)
  ·have fin:(if(decide (0<=(j:Int))&&decide ((j:Int)<δ vs))=ε then γ (j:Int).toNat else η)=γ j:=(by exists TR (aE j);exists TR (aX.mpr lt);rfl);show(let j:=if ii<0 then ii+δ vs else ii;if(decide (0<=j)&&decide (j<δ vs))=ε then γ j.toNat else η)=_;rcases hj with rfl|⟨j',rfl,e⟩
   ·rw[TH (hZ.mpr (aE _))];exact fin
   ·exists TG (pJ _);exists(show dQ j'+(δ vs:Int)=j by rw[←e,pV];lia),fin
theorem Bu{co ci:CV}{o i:ι}(hu:A.units+20<bK)(O:Ok X env l s m c)(r:ch X s.heap m co o)(p:ch X s.heap m ci i)(h:wI c co ci λw=>P w c)(q:xL X env l P s m Q):uE X.M A o i Q Er s:=by
 refine wp h λx ex h=>?_;have S:=r.see O.V ex;induction x using CV.casesOn with
 |list xs=>refine S.listE λa vs n h1 rs=>?_;exact Bt (x:=.none) (o:=.none) (.inl TK) O h1 rs p h q
 |tup xs=>refine S.tupE λa vs n h1 rs=>?_;exact Bt (x:=.none) (o:=.none) (.inr TK) O h1 rs p h q
 |dict ks ws=>refine wp h λj ej hO=>?_;refine wp hO λw ew hP=>?_;clear h hO;refine p.asI ej λt=>?_;obtain⟨a,vs,rfl,_,hl,hd,rs⟩:=S.dict;refine f4 (y6 hl rs ew) λv YM rv=>?_;exact⟨"dict",_,PySem.F.slot_dict_getitem.lookup,hd.mapOf.typeIs,PySem.wpAny_getItem_of (knd:=aH X.prog X.w) (i8 _ _ _ _) hd.mapOf YM (q.t hP O rv)⟩
 |pdict ks ws=>refine wp h λj ej hO=>?_;refine wp hO λw ew hP=>?_;clear h hO;obtain rfl:=qi ej;obtain⟨a',n,t1,t2,rfl,_,j⟩:=p.pair;obtain⟨a,o,vs,rfl,_,h1,h2,h3⟩:=S.pdict;exact Fy hu j h1 h2 h3 ew λu t ru=>q.t hP O ru
 |_=>exact h.elim
theorem Oi{a b:aP}{pos}{ea eb:Mine.E}(hn:lO b=ε)(ha:lw X k Φ sc a ea)(hb:lw X k Φ sc b eb):lw X k Φ sc (.Subscript a b pos) (.sub ea eb):=
 λA env l s m c P Q Er R hs O h q=>Hd hn (ha A env l s m c _ _ _ R hs O h λx c1 v s1 m1 h1 O1 P1 r1=>hb A env l s1 m1 c1 _ _ _ R hs O1 h1 λy c2 u s2 m2 h2 O2 P2 r2=>Bu R.u20 O2 (r1.up (P2.upN O1.V)) r2 h2 (xL.after q (P1.trans P2)))
end
section
variable {X:Wd}{h h' TY:Ξ}{m m' m₁:py}{c c':ad}{s s' s₁:ν}{env:aa}{l:L}{k:Nat}{sc:Ω}{Φ:Nat->Fn}{A:ai}{Er:ι->ν->Prop}{P:CV->ad->Prop}{Q:ι->ν->Prop}
theorem ce.take(r:ce X h m xs vs):∀n,ce X h m (xs.take n) (vs.take n):=
 ce.rec (motive_1:=λ_ _ _=>True) (motive_2:=λxs vs _=>∀n,ce X h m (xs.take n) (vs.take n)) TQ (λ_=>trivial) (λ_ _=>trivial) (λ_ _ _=>trivial) (λ_ _ _=>trivial) (λ_ _ _ _ _ _=>trivial) (λ_ _ _ _ _ _=>trivial)
  (λn=>by exists ur;exists ur,.nil) (λr _ _ ih n=>match n with
   |0=>.nil
   |n+1=>.cons r (ih n)) r
theorem ce.drop(r:ce X h m xs vs):∀n,ce X h m (xs.drop n) (vs.drop n):=
 ce.rec (motive_1:=λ_ _ _=>True) (motive_2:=λxs vs _=>∀n,ce X h m (xs.drop n) (vs.drop n)) TQ (λ_=>trivial) (λ_ _=>trivial) (λ_ _ _=>trivial) (λ_ _ _=>trivial) (λ_ _ _ _ _ _=>trivial) (λ_ _ _ _ _ _=>trivial)
  (λn=>by exists p8;exists p8,.nil) (λr rs _ ih n=>match n with
   |0=>.cons r rs
   |n+1=>ih n) r
theorem ce.ints{us:List ι}{l:List Int}(r:cP us l):ce X h m (l.map .int) us:=by
 induction r with
 |nil=>exact .nil
 |cons n t _ ih=>exact .cons (.int n t) ih
theorem Az:∀{xs:List CV} {l:List Int},eC xs=γ l->ce X h m xs vs->cP vs l:=by
 induction vs with
 |nil=>intro xs l e r;cases r;replace e:=ω e;subst e;exact .nil
 |cons v vs ih=>intro xs l e r;cases r with|cons r rs=>?_;refine TE e λi e1 e=>?_;obtain⟨l',e2,rfl⟩:=map_some e;refine r.asI e1 λt=>?_;exact .cons _ t (ih e2 rs)
theorem ch.boolV(r:ch X h m (.bool b) v):v= .bool b:=by
 cases r with
 |bool=>rfl
 |obj _ _ _ is _=>exact aG is
theorem Im(h:vK x=γ i):x= .bool i:=cT (o:=vK x) (P:=λi=>x= .bool i) (by clear h;induction x using CV.casesOn<;>first|exact trivial|rfl) h
theorem Km:∀{xs:List CV} {l:List Bool},nR xs=γ l->ce X h m xs vs->vs=l.map .bool:=by
 induction vs with
 |nil=>intro xs l e r;cases r;replace e:=ω e;subst e;rfl
 |cons v vs ih=>intro xs l e r;cases r with|cons r rs=>?_;refine TE e λi e1 e=>?_;obtain⟨l',e2,rfl⟩:=map_some e;have hz:=Im e1;subst hz;exists r.boolV;exists ih e2 rs;rfl
theorem IntsAre.take{us:List ι}{l:List Int}(r:cP us l):∀n,cP (us.take n) (l.take n):=by
 induction r with
 |nil=>exact λn=>by exists ur;exists ur,.nil
 |cons m t _ ih=>exact λn=>match n with
  |0=>.nil
  |n+1=>.cons m t (ih n)
theorem IntsAre.len{us}{l}(r:cP us l):us.length=δ l:=by
 induction r with
 |nil=>rfl
 |cons _ _ _ ih=>exact TL (· +1) ih
noncomputable def mf(x:aP):Bool:=ae x.ctorIdx 23
theorem Qf(h:mf a=ε):∀o r,letTemporaryGo a o r=pure ():=by induction a using cW<;>first|exact λ_ _=>rfl|exact t_ (show ζ=ε from h)
noncomputable abbrev ck(s:ν) (l u:ι):ν:={s with heap:=s.heap.push {cls:=.type "slice",data:=.fields #[l,u,.none]}}
theorem zO{a}{lower upper}{p pos}{T id}(hn:mf a=ε)(hl:qu (.type T) "__getitem__"=pure (γ (.builtin id)))
  (h:τ X.M A (eval a env) (λv s₁=>τ X.M A (evalPart lower env) (λl TV=>τ X.M A (evalPart upper env) (λu TX=>(ck TX l u).TypeIs v T/\τ X.M A (fY v (.ref TX.heap.objs.size)) Q Er (ck TX l u)) Er TV) Er s₁) Er s):
  τ X.M A (eval (.Subscript a (.Slice lower upper η p) pos) env) Q Er s:=
 wpAny_Subscript_Slice hl (cj h (λv s₁ h1=>wpAny_Slice (cj h1 (λl TV h2=>cj h2 (λu TX h3=>ο h3) λ_ _ e=>e) λ_ _ e=>e)) λ_ _ e=>e) (Qf hn)
theorem Ok.slice(O:Ok X env l s m c):Ok X env l (ck s vl vu) m c/\gl No s m (ck s vl vu) m:=O.grow (dS _ _) TK TK
theorem Oj(h:0<=i):fI xs i=xs.drop i.toNat:=by obtain⟨n,rfl⟩:=iZ h;rfl
theorem Qg(O:Ok X env l s m c)(r:ch X s.heap m (.tup xs) v)(h:(δ xs<=1000/\0<=i)/\P (.tup (fI xs i)) c)(q:xL X env l P s m Q):
  (ck s (.int i t) .none).TypeIs v "tuple"/\τ X.M A (fY v (.ref s.heap.objs.size)) Q Er (ck s (.int i t) .none):=by
 obtain⟨⟨hz,h0⟩,h⟩:=h;refine on (O.slice (vl:=.int i t) (vu:=.none)) λO' P'=>?_;have r':=r.up (P'.upN O.V);obtain⟨a,vs,n,rfl,_,h1,rs⟩:=r'.tupV;refine⟨⟨_,h1,rfl⟩,Hy (s:=ck s (.int i t) .none) (items:=vs.toArray) (n:=n) h1 (Heap.IsSliceOf.new ..) h0 (show δ vs<=1000 from rs.length▸hz) λh' p m' ke hp=>?_⟩;rw[Oj h0]at h;have rd:=rs.drop i.toNat;rcases hp with⟨hp,⟨rfl,hw,rfl⟩|hq⟩
 ·rw[(xX i.toNat xs).eq_of_length (rd.length.trans ((TL nt hw).trans rs.length.symm))]at h;exact(xL.after q P').t (t:=s.toks) h O' r'
 ·exact(xL.after q P').obj (x:=.tup (xs.drop i.toNat)) (b:=ζ) (t:=s.toks) (d:=s.drawn) O' ⟨ke,hq,hp⟩ ⟨m',rfl⟩ rd h
theorem Qh(O:Ok X env l s m c)(r:ch X s.heap m (.tup xs) v)(h:(δ xs<=1000/\0<=i)/\P (.tup (xs.take i.toNat)) c)(q:xL X env l P s m Q):
  (ck s .none (.int i t)).TypeIs v "tuple"/\τ X.M A (fY v (.ref s.heap.objs.size)) Q Er (ck s .none (.int i t)):=by
 obtain⟨⟨hz,h0⟩,h⟩:=h;refine on (O.slice (vl:=.none) (vu:=.int i t)) λO' P'=>?_;have r':=r.up (P'.upN O.V);obtain⟨a,vs,n,rfl,_,h1,rs⟩:=r'.tupV;refine⟨⟨_,h1,rfl⟩,Hz (s:=ck s .none (.int i t)) (items:=vs.toArray) (n:=n) h1 (Heap.IsSliceOf.new ..) h0 (show δ vs<=1000 from rs.length▸hz) λh' p m' ke hp=>?_⟩;rcases hp with⟨hp,⟨rfl,hw,rfl⟩|hq⟩
 ·rw[jQ (rs.length▸hw)]at h;exact(xL.after q P').t (t:=s.toks) h O' r'
 ·exact(xL.after q P').obj (x:=.tup (xs.take i.toNat)) (b:=ζ) (t:=s.toks) (d:=s.drawn) O' ⟨ke,hq,hp⟩ ⟨m',rfl⟩ (rs.take _) h
theorem Ol(O:Ok X env l s m c)(S:KB X s.heap m (.list xs) v)(h:δ xs<=1000/\P (.list (fI xs i)) c)(q:xL X env l P s m Q):
  (ck s (.int i t) .none).TypeIs v "list"/\τ X.M A (fY v (.ref s.heap.objs.size)) Q Er (ck s (.int i t) .none):=by
 obtain⟨hz,h⟩:=h;obtain⟨O',P'⟩:=O.slice (vl:=.int i t) (vu:=.none);refine S.listE λa vs n h1 rs=>?_;have rs:=rs.up (P'.upN O.V);have hL:(ck s (.int i t) .none).heap.IsList a vs.toArray:=⟨_,dS _ _ _ _ h1,rfl,n,rfl⟩;refine⟨hL.typeIs,Eo hL (Heap.IsSliceOf.new ..) (.int i t) .none .none (λq=>nomatch q) ?_ (fZ (show δ vs<=1000 from rs.length▸hz))⟩;induction i with
 |ofNat j=>rw[show(γ (aY j):Option Int)=γ ((j:Nat):Int)from rfl,slicePick_from'];exact(xL.after q P').obj (x:=.list (xs.drop j)) (b:=ζ) (t:=s.toks) (d:=s.drawn) O' (be.push TK) ⟨0,rfl⟩ (rs.drop j) h
 |negSucc j=>refine ac (show(γ (dQ j):Option Int)=γ (-((j+1:Nat):Int))from rfl) (ac (slicePick_last _ _ (bS j)) ?_);refine(xL.after q P').obj (x:=.list (xs.drop (δ xs - (j+1)))) (b:=ζ) (t:=s.toks) (d:=s.drawn) O' (be.push TK) ⟨0,rfl⟩ ?_ h;exists rs.length,rs.drop _
theorem KB.wlist(S:KB X h m (.wlist xs) v):∃a us,v= .ref a/\h.IsList a us/\cP us.toList xs:=by
 induction S with
 |obj q ho is rs=>obtain⟨_,hc,us,n,hd,hi⟩:=is;exact⟨_,us,rfl,⟨_,ho,hc,n,hd⟩,hi⟩
 |val S=>cases S
theorem LZ(O:Ok X env l s m c)(r:ch X s.heap m (.wlist xs) v)(h:(δ xs<=1000/\0<=i)/\P (.list ((xs.take i.toNat).map .int)) c)(q:xL X env l P s m Q):
  (ck s .none (.int i t)).TypeIs v "list"/\τ X.M A (fY v (.ref s.heap.objs.size)) Q Er (ck s .none (.int i t)):=by
 obtain⟨⟨hz,h0⟩,h⟩:=h;obtain⟨j,rfl⟩:=iZ h0;refine on (O.slice (vl:=.none) (vu:=.int j t)) λO' P'=>?_;obtain⟨a,us,rfl,hL,hi⟩:=(r.see O.V (x:=.wlist xs) TK).wlist;have hL:=hL.push {cls:=.type "slice",data:=.fields #[.none,.int j t,.none]};refine⟨hL.typeIs,Eo hL (Heap.IsSliceOf.new ..) .none (.int j t) .none (λq=>nomatch q) ?_ (fZ (κ (a5 (IntsAre.len hi)) hz))⟩;exists slicePick_upto' ..,(xL.after q P').obj (x:=.list ((xs.take j).map .int)) (b:=ζ) (t:=s.toks) (d:=s.drawn) O' (be.push TK) ⟨0,rfl⟩ (ce.ints (IntsAre.take hi j)) h
def oE(Φ:Nat->Fn) (e:Mine.E):Prop:=∀l c (P:CV->ad->Prop),wE Φ e l c P->∃v,(∀P':CV->ad->Prop,P' v c->wE Φ e l c P')/\P v c
theorem Kn:oE Φ (.l x):=λl c P h=>(f4 (TD h) λv e h=>⟨v,λP' h'=>by refine(?_:ld (pc l x) _);exists e;exact h',h⟩)
theorem Jn:oE Φ (.glob i):=λl c P h=>(f4 (TD h) λv e h=>⟨v.2,λP' h'=>by refine(?_:ld (jA[i]?) _);exists e;exact h',h⟩)
theorem L5(h:oU x=γ i):x= .wlist i:=cT (o:=oU x) (P:=λi=>x= .wlist i) (by clear h;induction x using CV.casesOn<;>first|exact trivial|rfl) h
theorem zj(ha:lw X k Φ sc a ea)(R:Pv k A)(hs:env.scope=sc)(O:Ok X env l s m c)(w:∀P':CV->ad->Prop,P' Un c->wE Φ ea l c P')
  (q:∀v s' m',Ok X env l s' m' c->gl No s m s' m'->ch X s'.heap m' Un v->Q v s'):τ X.M A (eval a env) Q Er s:=
 ha A env l s m c (λv c'=>v=Un/\c'=c) _ _ R hs O (w _ ⟨rfl,rfl⟩) λv c' u s' m' e O' p r=>by obtain⟨rfl,rfl⟩:=e;exact q u s' m' O' p r
theorem Qi{p pos}(hn:mf a=ε)(hk:oE Φ ea)(ha:lw X k Φ sc a ea)(hb:lw X k Φ sc b eb):lw X k Φ sc (.Subscript a (.Slice η (γ b) η p) pos) (.hi ea eb):=by
 intro A env l s m c P Q Er R hs O h q;refine f4 (hk _ _ _ h) λUn w h=>?_;have go:∀{T id:String},qu (.type T) "__getitem__"=pure (γ (.builtin id))->(∀{i:Int} {t:aZ} {v:ι} {s':ν} {m':py} {c':ad},Ok X env l s' m' c'->ch X s'.heap m' Un v->(DO c' Un (.int i) λw=>P w c')->xL X env l P s' m' Q->
   (ck s' .none (.int i t)).TypeIs v T/\τ X.M A (fY v (.ref s'.heap.objs.size)) Q Er (ck s' .none (.int i t)))->τ X.M A (eval (.Subscript a (.Slice η (γ b) η p) pos) env) Q Er s:=λhl k=>
  zO hn hl (zj ha R hs O w λv s1 m1 O1 P1 r1=>ο (hb A env l s1 m1 c _ _ _ R hs O1 h λy c2 u s2 m2 h2 O2 P2 r2=>by refine wp h2 λi ei _=>?_;have hz:=gw ei;subst hz;obtain⟨t,rfl⟩:=r2.intV;exact k O2 (r1.up (P2.upN O1.V)) h2 (xL.after q (P1.trans P2))))
 cases e:gJ Un with
 |some xs=>have hz:=qm e;subst hz;exact go pq.lookup λO r h q=>Qh O r h q
 |none=>
  refine go xc λ{i t v s' m' c'} O r h q=>?_;have h:ld (PP (.int i)) λi=>match gJ Un with
   |some l=>(δ l<=1000/\0<=i)/\P (.tup (l.take i.toNat)) c'
   |none=>ld (oU Un) λl=>(δ l<=1000/\0<=i)/\P (.list ((l.take i.toNat).map .int)) c':=h
  rw[e]at h;refine f4 (TD (show ld (oU Un) _ from h)) λxs ex h=>?_;have hz:=L5 ex;subst hz;exact LZ O r h q
theorem Qj{p pos}(hn:mf a=ε)(hk:oE Φ ea)(ha:lw X k Φ sc a ea)(hb:lw X k Φ sc b eb):lw X k Φ sc (.Subscript a (.Slice (γ b) η η p) pos) (.lo ea eb):=by
 intro A env l s m c P Q Er R hs O h q;refine f4 (hk _ _ _ h) λUn w h=>?_;have go:∀{T id:String},qu (.type T) "__getitem__"=pure (γ (.builtin id))->(∀{i:Int} {t:aZ} {v:ι} {s':ν} {m':py} {c':ad},Ok X env l s' m' c'->ch X s'.heap m' Un v->(DN c' Un (.int i) λw=>P w c')->xL X env l P s' m' Q->
   (ck s' (.int i t) .none).TypeIs v T/\τ X.M A (fY v (.ref s'.heap.objs.size)) Q Er (ck s' (.int i t) .none))->τ X.M A (eval (.Subscript a (.Slice (γ b) η η p) pos) env) Q Er s:=λhl k=>
  zO hn hl (zj ha R hs O w λv s1 m1 O1 P1 r1=>hb A env l s1 m1 c _ _ _ R hs O1 h λy c2 u s2 m2 h2 O2 P2 r2=>ο (by refine wp h2 λi ei _=>?_;have hz:=gw ei;subst hz;obtain⟨t,rfl⟩:=r2.intV;exact k O2 (r1.up (P2.upN O1.V)) h2 (xL.after q (P1.trans P2))))
 cases e:gJ Un with
 |some xs=>have hz:=qm e;subst hz;exact go pq.lookup λO r h q=>Qg O r h q
 |none=>
  refine go xc λ{i t v s' m' c'} O r h q=>?_;have h:ld (PP (.int i)) λi=>match gJ Un with
   |some l=>(δ l<=1000/\0<=i)/\P (.tup (fI l i)) c'
   |none=>ld ((view c' Un).bind a9) λl=>δ l<=1000/\P (.list (fI l i)) c':=h
  rw[e]at h;refine f4 (TD (show ld ((view c' Un).bind a9) _ from h)) λxs ex h=>?_;refine TE ex λx ev ex=>?_;have hz:=gu ex;subst hz;exact Ol O (r.see O.V ev) h q
end
section
set_option backward.match.sparseCases false
variable {X:Wd}{h h' TY:Ξ}{m m' m₁:py}{c c':ad}{s s' s₁:ν}{env:aa}{l:L}{k:Nat}{sc:Ω}{Φ:Nat->Fn}{A:ai}{Er:ι->ν->Prop}{P:CV->ad->Prop}{Q:ι->ν->Prop}
theorem uw(h:as.all Da=ε):(mr pos (iw as env)).any (·.1)=ζ:=by
 induction as with
 |nil=>rfl
 |cons a as ih=>rw[k_,aS]at h;exists jY h.1 ..,(p9 _).trans (ih h.2)
theorem ux{f:ι}{pos:aK}{as:List aP}{Q:Args->ν->Prop}(h:as.all Da=ε)(w:τ X.M A (spliced (mr pos (iw as env))) (λvs s'=>Q ⟨vs,[]⟩ s') Er s):
  τ X.M A (evalArgs f ε (mr pos (iw as env)) []) Q Er s:=by
 induction as using ar with
 |nil=>exact θ (cj w (λvs s' h'=>aq (θ (ο (θ (ο (ο h')))))) λ_ _ x=>x)
 |cons a as=>rw[k_,aS]at h;rw[jY h.1]at w ⊢;exact mV w
def Dq(f:ι):Prop:=(∃id,f= .builtin id)\/∃T,f= .type T
theorem tZ(hf:Dq f)(hd:(x==("__debug__":ψ))=ζ)(hx:sc.names.lookup x=γ .globalImplicit)(hm:X.mg x=η)(hb:X.mb x=γ f)(hn:as.all Da=ε)
  (hs:env.scope=sc) (O:Ok X env l s m c)
  (h:τ X.M A (spliced (mr pos (iw as env))) (λvs s'=>τ X.M A (call f vs) Q Er s') Er s):τ X.M A (eval (.Call (.Name x p) as [] pos) env) Q Er s:=by
 refine yi (tw O.F.kind (by unfold Env.kindOf;exists hs,hx) (PySem.Calls.loadGlobal_builtin (O.F.glob▸O.V.gnd.g) hm (O.F.blt▸O.V.gnd.b) hb ?_) hd);rcases hf with⟨id,rfl⟩|⟨T,rfl⟩
 ·exact mU (uw hn) (ux hn h)
 ·exact PySem.callWith_type (uw hn) (ux hn h)
noncomputable def mC:Bi->ι
 |.len=>.builtin "len" |.list=>.type "list" |.set=>.type "set" |.set0=>.type "set" |.range=>.type "range" |.sorted=>.builtin "sorted" |.any=>.builtin "any" |.abs=>.builtin "abs" |.int=>.type "int"
theorem Bv(b:Bi):Dq (mC b):=by induction b<;>first|exact .inl ⟨_,rfl⟩|exact .inr ⟨_,rfl⟩
noncomputable def vO:Bi->Bool
 |.set0=>ε
 |_=>ζ
noncomputable def vP:Bi->Bool->Bool
 |.list,_=>ε
 |.set,_=>ε
 |.set0,_=>ε
 |_,b=> !b
theorem qn{x:Int}(h1:0<=x)(h2:x<=2000):Ea x=ε:=by unfold Ea;exists TR (jZ (by decide) h1);exists TR (pL h2 (by decide));rfl
theorem uH(n:Nat):Ey 0 (n:Int) 1=(n:Nat):=by
 unfold Ey;exists TG (by decide);split
 ·rw[HI,yU,tQ]
 ·exact Int.le_antisymm (aE n) (hZ.mp ‹_›)
theorem y7{n:Nat}(hn:n<=1000):E8 0 (n:Int) 1=ε:=by have b:(n:Int)<=2000:=d_.mpr (κ hn (by decide));have f:(n:Int)+(1 - 1)=n:=HJ _;unfold E8;rw[uH,qn (Int.le_refl 0) (by decide),qn (aE n) b,qn (x:=1) (by decide) (by decide),TG (by decide),f,qn (aE n) b,HL];rfl
theorem ce.of:∀{xs:List CV},δ xs=δ vs->(∀(j:Nat) x v,xs[j]? =γ x->vs[j]? =γ v->ch X h m x v)->ce X h m xs vs:=by
 induction vs with
 |nil=>intro xs e _;induction xs using ar with
  |nil=>exact .nil
  |cons _ _=>cases e
 |cons v vs ih=>intro xs e k;induction xs using ar with
  |nil=>cases e
  |cons x xs=>exact .cons (k 0 x v TK TK) (ih (c7 e) λj x v e1 e2=>k (j+1) x v e1 e2)
theorem Jo(it:ItemsOf (λi v=>∃t,v= .int (0+i*1) t) acc n):ce X h m (cn n) acc.toList:=by
 refine .of ?_ λj x v e1 e2=>?_
 ·unfold cn;exists φ ..;exists bG ..,it.1.symm
 ·unfold cn at e1;rw[aA]at e1;obtain⟨j',e3,rfl⟩:=map_some e1;obtain⟨_,e4⟩:=ay.mp e3;rw[List.getElem_range]at e4;subst e4;obtain⟨t,rfl⟩:=it.2 j v (by refine io (fN) ?_;exact e2);exists(show(0:Int)+j*1=j by rw[Int.mul_one,Int.zero_add]),.int _ _
theorem KB.rng(S:KB X h m (.rng n) v):∃a o,v= .ref a/\h.get? a=γ o/\CL o n:=by
 induction S with
 |obj q ho is rs=>exact⟨_,_,rfl,ho,is.2⟩
 |val S=>cases S
theorem AA(hc:cls="list"\/cls="tuple")(O:Ok X env l s m c)(h1:s.heap.get? a=γ {cls:=.type cls,data:=.seq vs.toArray n})(rs:ce X s.heap m xs vs)(h:δ xs<=1000/\dI cell (.list xs) c P)(q:xL X env l P s m Q):
  τ X.M A (call (.type "list") [.ref a]) Q Er s:=by
 have z:vs.toArray.size<=kf:=rs.fit h.1;refine PySem.call_list_seq a hc h1 TK TK (λh' c' ke hp=>?_) z;exact q.obj (x:=.list xs) (b:=cell) (t:=s.toks) (d:=s.drawn) O ⟨ke,c6 _,hp⟩ ⟨c',rfl⟩ rs h.2
theorem mh{b:Bool}{x:CV}(hb:(!b)=ε)(h:dI b x c P):P x c:=by induction b with
 |true=>exact Db hb
 |false=>exact h
theorem Bw{n:Nat}(z:n<=1000):(n:Int)<2 ^63:=oD (cY n) (bZ z)
theorem Qk{b:Bi}{x:CV}{v:ι}{cell:Bool}(R:Pv k A)(hc:vP b cell=ε)(O:Ok X env l s m c)(S:KB X s.heap m x v)(h:w0 b x λw=>dI cell w c P)(q:xL X env l P s m Q):τ X.M A (call (mC b) [v]) Q Er s:=by
 induction b with
 |len=>
  refine KT (TD h) λxs e hz hP=>?_;induction x using CV.casesOn with
  |list xs=>replace e:=ω e;subst e;refine S.listE λa vs n h1 rs=>?_;exact PySem.Calls.call_len_list (items:=vs.toArray) ⟨_,h1,rfl,n,rfl⟩ (Bw (show δ vs<=1000 from rs.length▸hz)) (show Q (.int (δ vs:Int) _) _ from rs.length▸q.t (mh hc hP) O (.int _ _))
  |tup xs=>replace e:=ω e;subst e;refine S.tupE λa vs n h1 rs=>?_;exact PySem.P.len_tuple (items:=vs.toArray) h1 (zH.mpr (Bw (show δ vs<=1000 from rs.length▸hz))) (show Q (.int (δ vs:Int) _) _ from rs.length▸q.t (mh hc hP) O (.int _ _))
  |_=>exact pt e
 |list=>
  induction x using CV.casesOn with
  |list xs=>refine S.listE λa vs n h1 rs=>?_;exact AA (.inl TK) O h1 rs h q
  |tup xs=>refine S.tupE λa vs n h1 rs=>?_;exact AA (.inr TK) O h1 rs h q
  |rng n=>obtain⟨a,o,rfl,h1,hn,t1,t2,t3,rfl⟩:=S.rng;refine PySem.call_list_range R.h h1 (y7 hn) (uH n) (fZ hn) λh' tk acc c' ke hp it=>?_;exact q.obj (x:=.list (cn n)) (b:=cell) (d:=s.drawn) O ⟨ke,c6 _,hp⟩ ⟨c',rfl⟩ (Jo it) h.2
  |_=>exact h.elim
 |set=>refine wp h λxs e hO=>?_;refine KT (TD hO) λns e2 hz hP=>?_;have hz:=gu e;subst hz;refine S.listE λa vs n h1 rs=>?_;exact HA (items:=vs.toArray) R.h ⟨_,h1,rfl,n,rfl⟩ (Az e2 rs) hz λh' p o t d ke hn hp is=>q.obj (x:=.set _) (b:=cell) O ⟨ke,hn,hp⟩ ⟨rfl,is⟩ .nil hP
 |set0=>exact h.elim
 |range=>refine KT (TD h) λn e hz hP=>?_;obtain rfl:=gw e;obtain⟨t,rfl⟩:=S.int;obtain⟨n,rfl⟩:=iZ hz.1;exact PySem.call_range_1 (q.obj (x:=.rng n) (b:=cell) (d:=s.drawn) O (be.push TK) ⟨rfl,d_.mp hz.2,_,_,_,rfl⟩ .nil hP)
 |sorted=>refine wp h λxs e hP=>?_;obtain rfl:=lx e;obtain⟨a,o,rfl,h1,is⟩:=S.setV;exact Gj R.h R.u20 h1 is λh' p us n t d ke hn hp hi=>q.obj (x:=.list _) (vs:=us.toList) (b:=cell) O ⟨ke,hn,hp⟩ ⟨n,rfl⟩ (ce.ints hi) hP
 |any=>refine KT (TD h) λxs e hz hP=>?_;refine wp hP λbs e2 Zy=>?_;have hz:=gu e;subst hz;refine S.listE λa vs n h1 rs=>?_;have hb:=Km e2 rs;exact Hu (items:=vs.toArray) R.h ⟨_,h1,rfl,n,rfl⟩ hb (by rw[rs.length,hb,φ]at hz;exact hz) λh' t ke=>q.grow (mh hc Zy) O (.bool _) ke
 |abs=>obtain⟨i,e,hP⟩:=TD h;obtain rfl:=gw e;obtain⟨t,rfl⟩:=S.int;refine call_abs_int λu tk=>?_;exists(show(if i<0 then -i else i)=(i.natAbs:Int) by split;exact(Int.ofNat_natAbs_of_nonpos (j0 ‹_›)).symm;exact(ER (hZ.mp ‹_›)).symm),q.t (mh hc hP) O (.int _ _)
 |int=>
  induction x using CV.casesOn with
  |int i=>obtain⟨t,rfl⟩:=S.int;exact PySem.call_int_int (q.t (mh hc h) O (.int _ _))
  |bool b=>have hz:=S.bool;subst hz;exact PySem.call_int_bool (by induction b<;>exact q.t (mh hc h) O (.int _ _))
  |_=>exact h.elim
theorem Ql(hc:vP b cell=ε)(h0:vO b=ζ)(hd:(x==("__debug__":ψ))=ζ)(hx:sc.names.lookup x=γ .globalImplicit)(hm:X.mg x=η)(hb:X.mb x=γ (mC b))(hn:Da a=ε)
  (ha:lw X k Φ sc a ea):lw X k Φ sc (.Call (.Name x p) [a] [] pos) (.bi b cell (.cons ea .nil)):=
 λA env l s m c P Q Er R hs O h q=>tZ (Bv b) hd hx hm hb (by exists k_;exists hn;rfl) hs O (Aw hn ha Bq A env l s m c _ _ _ pos R hs O h λUc c1 vs s1 m1 h1 O1 P1 r1=>by
  induction r1 using ce.casesOn with
  |nil=>induction b<;>first|exact aG h1|cases h0
  |@cons Zz _ _ _ r rs=>
   induction rs using ce.casesOn with
   |cons _ _=>induction b<;>first|exact aG h1|cases h0
   |nil=>
    have h1:ld (view c1 Zz) λv=>w0 b v λw=>dI cell w c1 P:=by induction b<;>first|exact h1|cases h0
    refine wp h1 λx ex h1=>?_;exact Qk R hc O1 (r.see O1.V ex) h1 (xL.after q P1))
theorem L6(hd:(x==("__debug__":ψ))=ζ)(hx:sc.names.lookup x=γ .globalImplicit)(hm:X.mg x=η)(hb:X.mb x=γ (mC .set0)):lw X k Φ sc (.Call (.Name x p) [] [] pos) (.bi .set0 cell .nil):=
 λA env l s m c P Q Er R hs O h q=>tZ (Bv .set0) hd hx hm hb TK hs O (ο (Hc λh' p o t d ke hn hp is=>xL.obj q (x:=.set []) (b:=cell) O ⟨ke,hn,hp⟩ ⟨rfl,is⟩ .nil h))
end
section
variable {X:Wd}{h h' TY:Ξ}{m m' m₁:py}{c c':ad}{s s' s₁:ν}{env:aa}{l:L}{k:Nat}{sc:Ω}{Φ:Nat->Fn}{A:ai}{Er:ι->ν->Prop}{P:CV->ad->Prop}{Q:ι->ν->Prop}
theorem CM(hn:Da a=ε)(env:aa):mr pos (iw [a] env)=[(ζ,eval a env)]:=by exists jY hn ..;rfl
theorem Rz{pos:aK}{a b:aP}(hn:Da a=ε)(hb:Da b=ε)(env:aa):mr pos (iw [a,b] env)=[(ζ,eval a env),(ζ,eval b env)]:=by exists jY hn ..;exists jY hb ..;rfl
theorem zk{x:CV}{n:Nat}(h:dA x=γ n):x= .ref n:=cT (o:=dA x) (P:=λn=>x= .ref n) (by clear h;induction x using CV.casesOn<;>first|exact trivial|rfl) h
theorem nX{n:Nat}{x:CV}(h:f8 c n=γ x):c[n]? =γ (γ x):=by
 unfold f8 at h;cases q:c[n]? with
 |none=>rw[q]at h;exact pt h
 |some y=>rw[q]at h;exact TL γ h
theorem ch.refV{n:Nat}{v:ι}(r:ch X h m (.ref n) v):∃a,m.μ[n]? =γ a/\v= .ref a:=by
 cases r with
 |ref n a e=>exact⟨a,e,rfl⟩
 |obj _ _ _ is _=>exact aG is
theorem j_{ov x:CV}{n:Nat}{v:ι}(V:AC X h m c)(r:ch X h m ov v)(e1:dA ov=γ n)(e2:f8 c n=γ x):∃a o vs,v= .ref a/\m.μ[n]? =γ a/\a≠aF/\h.get? a=γ o/\cF X o x vs/\ce X h m x.kids vs:=by obtain rfl:=zk e1;obtain⟨a,hm,rfl⟩:=r.refV;obtain⟨o,vs,ho,is,rs⟩:=V.cell n a x hm (nX e2);exact⟨a,o,vs,rfl,hm,(V.hasM a (av hm)).2.1,ho,is,rs⟩
theorem uV{ov:CV}{xs:List CV}{n:Nat}{v:ι}(V:AC X h m c)(r:ch X h m ov v)(e1:dA ov=γ n)(e2:(f8 c n).bind a9=γ xs):∃a vs j,v= .ref a/\m.μ[n]? =γ a/\IsL h a vs.toArray j/\ce X h m xs vs:=by refine TE e2 λx e2 e3=>?_;obtain rfl:=gu e3;obtain⟨a,o,vs,rfl,hm,_,ho,⟨j,rfl⟩,rs⟩:=j_ V r e1 e2;exact⟨a,vs,j,rfl,hm,ho,rs⟩
theorem Ok.writeL{n:Nat}{a:υ}{vs:List ι}{j:Nat}{l':List CV}{f:Array ι->Array ι}{t:Nat}(O:Ok X env l s m c)(hm:m.μ[n]? =γ a)(ho:IsL s.heap a vs.toArray j)(rs:ce X s.heap m l' (f vs.toArray).toList):
  Ok X env l {s with heap:=s.heap.update a (Obj.mapSeq f),toks:=t} m (dL c n (.list l'))/\gl No s m {s with heap:=s.heap.update a (Obj.mapSeq f),toks:=t} m:=
 O.write (s':={s with heap:=s.heap.update a (Obj.mapSeq f),toks:=t}) (x:=.list l') (vs:=(f vs.toArray).toList) hm (λb o hb e=>by exists(Heap.SameBut.update s.heap a (Obj.mapSeq f)).2 b hb,e) (uO ho f) TK TK ⟨_,by exists Array.toArray_toList,TK⟩ rs
theorem xL.writeL(q:xL X env l P s m Q){n:Nat}{a:υ}{vs:List ι}{j:Nat}{l':List CV}{f:Array ι->Array ι}{x:CV}{v:ι}{t:Nat}(O:Ok X env l s m c)(hm:m.μ[n]? =γ a)(ho:IsL s.heap a vs.toArray j)(rs:ce X s.heap m l' (f vs.toArray).toList)
  (r:ch X s.heap m x v) (h:P x (dL c n (.list l'))):Q v {s with heap:=s.heap.update a (Obj.mapSeq f),toks:=t}:=
 let⟨O',p⟩:=O.writeL (t:=t) hm ho rs
 q _ _ _ _ _ h O' p (r.up (p.upN O.V))
theorem xL.write(q:xL X env l P s m Q){n:Nat}{a:υ}{o:af}{x y:CV}{v:ι}{vs:List ι}{t:Nat}{d:Drawn}(O:Ok X env l s m c)(hm:m.μ[n]? =γ a)(ke:∀b o,b≠a->s.heap.get? b=γ o->h'.get? b=γ o)(ho:h'.get? a=γ o)(is:cF X o x vs)(rs:ce X s.heap m x.kids vs)
  (r:ch X s.heap m y v) (h:P y (dL c n x)):Q v {s with heap:=h',toks:=t,drawn:=d}:=
 let⟨O',p⟩:=O.write (s':={s with heap:=h',toks:=t,drawn:=d}) hm ke ho TK TK is rs
 q _ _ _ _ _ h O' p (r.up (p.upN O.V))
theorem Qm{vs}{l}(r:cP vs l):∀{y},y∈vs->∃j t,y= .int j t:=by
 induction r with
 |nil=>exact λh=>nomatch h
 |cons n t _ ih=>exact λh=>(ab.mp h).elim (λe=>⟨n,t,e⟩) ih
noncomputable def DQ(i:Int)(y:ι):Bool:=intV y==γ i
theorem L7{i:Int}{vs:List ι}{l:List Int}(r:cP vs l):vs.countP (DQ i)=l.countP (· ==i):=by
 induction r with
 |nil=>rfl
 |cons n t _ ih=>refine ac F5 (ac F5 (ac ih ?_));rfl
theorem Om(vs:List ι):(vs.toArray.eraseIdxIfInBounds (vs.toArray.size - 1)).toList=vs.dropLast:=by exists Array.toList_eraseIdxIfInBounds,List.eraseIdx_length_sub_one
theorem ce.dropLast(r:ce X h m xs vs):ce X h m xs.dropLast vs.dropLast:=by exists EG;exists EG;exists r.length,r.take _
noncomputable def gR:Me->String
 |.append=>"append" |.extend=>"extend" |.pop=>"pop" |.add=>"add" |.get=>"get" |.count=>"count" |.setdefault=>"setdefault"
noncomputable def wJ:Me->String
 |.append=>"list.append" |.extend=>"list.extend" |.pop=>"list.pop" |.add=>"set.add" |.get=>"dict.get" |.count=>"list.count" |.setdefault=>"dict.setdefault"
noncomputable def w4:Nat->String
 |1=>"list"
 |2=>"set"
 |_=>"dict"
theorem KB.cls(S:KB X h m x v)(hc:oL x≠0):∃a o,v= .ref a/\h.get? a=γ o/\o.cls= .type (w4 (oL x))/\o.dict=η:=by
 induction x using CV.casesOn with
 |list=>refine S.listE λa vs n h1 rs=>?_;exact⟨_,_,rfl,h1,rfl,rfl⟩
 |set=>obtain⟨a,o,rfl,h1,is⟩:=S.setV;exact⟨_,_,rfl,h1,is.1.1,is.1.2.1⟩
 |dict=>
  induction S with
  |obj q ho is rs=>obtain⟨_,es,ep,hx,_⟩:=is;exact⟨_,_,rfl,ho,hx.1,hx.2.1⟩
  |val S=>cases S
 |pdict=>obtain⟨a,o,vs,rfl,_,h1,⟨_,es,ep,hx,_⟩,_⟩:=S.pdict;exact⟨_,_,rfl,h1,hx.1,hx.2.1⟩
 |_=>exact absurd TK hc
theorem Bx(V:AC X h m c)(r:ch X h m ov v)(hk:dB me c ov=γ ()):∃a o,v= .ref a/\h.get? a=γ o/\o.cls= .type (w4 (oW me))/\o.dict=η:=by
 refine TE hk λx ex hk=>?_;have hk:oL x=oW me:=by
  revert hk;cases q:ae (oL x) (oW me)with
  |true=>exact λ_=>aU q
  |false=>exact λe=>pt e
 exact hk▸(r.see V ex).cls (by rw[hk];induction me<;>decide)
theorem uW{me:Me}{ov:CV}{v:ι}{pos:aK}{trees:List (Bool×aQ ι)}(V:AC X s.heap m c)(r:ch X s.heap m ov v)(hk:dB me c ov=γ ())
  (h:τ X.M A (callWith pos (.builtin (wJ me)) [v] trees []) Q Er s):MethodOn X.prog X.w A (gR me:String) pos v trees Q Er s:=by
 obtain⟨a,o,rfl,h1,h2,h3⟩:=Bx V r hk;exact⟨w4 (oW me),wJ me,
  by cases me;exact tW;exact tW;exact tW;exact F.plainAttrs_set;exact FH;exact tW;exact FH,
  by cases me;exact Fi;exact F.slot_list_extend;exact F.slot_list_pop;exact GO;exact Gv;exact F.slot_list_count;exact EE,
  by cases me;exact F.type_list_append;exact F.type_list_extend;exact F.type_list_pop;exact F.type_set_add;exact F.type_dict_get;exact F.type_list_count;exact F.type_dict_setdefault,
  ⟨o,h1,h2⟩,λb e=>⟨o,Value.ref.inj e▸h1,h3⟩,h⟩
theorem Oo{o:aP}{apos pos:aK}{eo:Mine.E}(hb:e_ o=ε)(hl:(apos.endLine==pos.line)=ε)(ho:lw X k Φ sc o eo):
  lw X k Φ sc (.Call (.Attribute o (gR .pop:String) apos) [] [] pos) (.pop eo):=
 λA env l s m c P Q Er R hs O h q=>wpAny_Call_method0_late (pO hb _ _ _) hl (ho A env l s m c _ _ _ R hs O h λov c1 v s1 m1 h1 O1 P1 r1=>by refine wp h1 λ_ hk h1=>?_;refine uW O1.V r1 hk ?_;refine wp h1 λn e1 h1=>?_;refine KT (TD h1) λxs e2 hz h1=>?_;refine wp h1 λx e3 h1=>?_;obtain⟨a,vs,j,rfl,hm,hL,hr⟩:=uV O1.V r1 e1 e2;refine f4 (hr.get? (show xs[δ xs - 1]? =γ x by refine io (List.getLast?_eq_getElem?) ?_;exact e3)) λu hu ru=>?_;refine PySem.P.pop_list (y:=u) hL (by exists jR;refine ac pN (io hr.length ?_);exact hu) ?_ (fZ (show δ vs<=1000 from hr.length▸hz));exact xL.writeL (xL.after q P1) (t:=s1.toks) (f:=λxs=>xs.eraseIdxIfInBounds (vs.toArray.size - 1)) O1 hm hL (by exists Om ..,hr.dropLast) ru h1)
def GA(X:Wd) (env:aa) (l:L) (P:CV->ad->Prop) (Q:ι->ν->Prop) (A:ai) (Er:ι->ν->Prop) (a:aP) (ov:CV) (v:ι) (me:Me) (s1:ν):Prop:=
 ∀{Q':ι->ν->Prop},(∀x c2 u s2 m2,DP me ov x c2 P->Ok X env l s2 m2 c2->xL X env l P s2 m2 Q->ch X s2.heap m2 ov v->ch X s2.heap m2 x u->Q' u s2)->τ X.M A (eval a env) Q' Er s1
theorem Qn{o a:aP}{me:Me}{apos pos:aK}{eo ea:Mine.E}(hb:e_ o=ε)(hl:(apos.endLine==pos.line)=ε)(hn:Da a=ε)(ho:lw X k Φ sc o eo)(ha:lw X k Φ sc a ea):
  lw X k Φ sc (.Call (.Attribute o (gR me:String) apos) [a] [] pos) (.me me eo ea):=
 λA env l s m c P Q Er R hs O h q=>wpAny_Call_method1_late (pO hb _ _ _) hl (CM hn env) (ho A env l s m c _ _ _ R hs O h λov c1 v s1 m1 h1 O1 P1 r1=>by
  refine wp h1 λ_ hk h1=>?_;refine uW O1.V r1 hk ?_;have ga:GA X env l P Q A Er a ov v me s1:=λk=>ha A env l s1 m1 c1 _ _ _ R hs O1 h1 λx c2 u s2 m2 h2 O2 P2 r2=>k x c2 u s2 m2 h2 O2 (xL.after q (P1.trans P2)) (r1.up (P2.upN O1.V)) r2;obtain⟨p,_,rfl,_⟩:=Bx O1.V r1 hk;clear h1 hk r1 P1 O1 h q O ho ha hb hl hn;induction me with
  |append=>refine PySem.P.append_list (ga λx c2 u s2 m2 h2 O2 q r1 r2=>?_);refine wp h2 λn e1 h2=>?_;refine KT (TD h2) λxs e2 hz h2=>?_;obtain⟨a,vs,j,ea,hm,hL,hr⟩:=uV O2.V r1 e1 e2;replace ea:=Value.ref.inj ea;subst ea;exact⟨vs.toArray,j,fZ (show δ vs<=1000 from hr.length▸hz),hL,q.writeL (t:=s2.toks) O2 hm hL (by exists FI ..,hr.append (.cons r2 .nil)) .none h2⟩
  |extend=>refine PySem.P.extend_list (ga λx c2 u s2 m2 h2 O2 q r1 r2=>?_);refine wp h2 λn e1 h2=>?_;refine wp h2 λxs e2 h2=>?_;refine KT (TD h2) λys e3 hz hP=>?_;clear h2;obtain rfl:=gu e3;obtain⟨a,vs,j,ea,hm,hL,hr⟩:=uV O2.V r1 e1 e2;replace ea:=Value.ref.inj ea;subst ea;obtain⟨b,us,n2,rfl,_,h3,rs⟩:=r2.listV;have W2:δ vs+us.length<=1000:=(by rw[Δ,hr.length,rs.length]at hz;exact hz);refine⟨b,vs.toArray,us.toArray,j,n2,fZ (show δ vs<=1000 from κ (ao _ _) W2),eY (fZ (show δ vs+us.length<=1000 from W2)),?_,rfl,hL,h3,q.writeL (t:=s2.toks) O2 hm hL (by exists yj,hr.append rs) .none hP⟩;have:Ep (vs.toArray.size+us.toArray.size)=ζ:=(by unfold Ep;exact TS (qt.mpr (fZ W2)));rw[this,k8];exact jU
  |add=>refine mU TK (mV (jP (ga λx c2 u s2 m2 h2 O2 q r1 r2=>ο ?_)));refine wp h2 λn e1 h3=>?_;refine wp h3 λxs e2 h4=>?_;refine KT (TD h4) λi e3 hz hP=>?_;clear h2 h3 h4;refine TE e2 λy e2 e4=>?_;obtain rfl:=lx e4;refine r2.asI e3 λt=>?_;obtain⟨a,o,vs,ea,hm,_,ho,⟨rfl,is⟩,_⟩:=j_ O2.V r1 e1 e2;replace ea:=Value.ref.inj ea;subst ea;exact Gk ho is hz λh' o' t' ke hq VZ=>q.write (x:=.set _) (d:=s2.drawn) O2 hm ke hq ⟨rfl,VZ⟩ .nil .none hP
  |count=>
   refine PySem.P.count_list (ga λx c2 u s2 m2 h2 O2 q r1 r2=>?_);refine wp h2 λxs e1 h3=>?_;refine wp h3 λis e2 h4=>?_;refine wp h4 λi e3 hP=>?_;clear h2 h3 h4;refine TE e1 λy e1 e4=>?_;obtain rfl:=gu e4;refine r2.asI e3 λt=>?_;obtain⟨a,o,vs,ea,_,h1,⟨n,rfl⟩,rs⟩:=(r1.see O2.V e1).list;replace ea:=Value.ref.inj ea;subst ea;have ia:=Az e2 rs;refine⟨vs.toArray,n,DQ i,h1,λy hy=>?_,?_⟩
   ·obtain⟨j,t',rfl⟩:=Qm ia (FZ.mp hy);exact Ed _ _ _ _
   ·exists show vs.toArray.toList=vs from rfl;exists L7 ia,q.t hP O2 (.int _ _)
  |pop=>exact mU TK (mV (jP (ga λx c2 u s2 m2 h2 O2 q r1 r2=>aG h2)))
  |get=>exact mU TK (mV (jP (ga λx c2 u s2 m2 h2 O2 q r1 r2=>aG h2)))
  |setdefault=>exact mU TK (mV (jP (ga λx c2 u s2 m2 h2 O2 q r1 r2=>aG h2))))
theorem HB{i:Int}:∀{ks:List Int} {vs:List ι} {Uc:List CV},δ ks=δ vs->ce X h m Uc vs->wf i ks Uc=η->lg (ks.zip vs) i=η:=by
 intro ks;induction ks with
 |nil=>intro vs Uc _ _ e;rfl
 |cons k ks ih=>
  intro vs Uc hl r e;induction r using ce.casesOn with
  |nil=>cases hl
  |cons r rs=>
   exists uu;cases q:i==k with
   |true=>rw[e9 q]at e;exact iE e
   |false=>rw[dy q]at e;exists(TH λe=>ne_of_beq_false q e.symm),ih (c7 hl) rs e
theorem ch.pairI{p:Int×Int}{v:ι}(r:ch X h m (.tup [.int p.1,.int p.2]) v):∃a n t1 t2,v= .ref a/\m.I a/\a≠aF/\IsT h a #[.int p.1 t1,.int p.2 t2] n:=by obtain⟨a,n,t1,t2,rfl,q,j⟩:=r.pair;cases r with|obj i=>exact⟨a,n,t1,t2,rfl,i,q,j⟩
theorem Ca{o a b:aP}{me:Me}{apos pos:aK}{eo ea eb:Mine.E}{K:CV->CV->CV->ad->Prop}(Wo:e_ o=ε)(hl:(apos.endLine==pos.line)=ε)(hn:Da a=ε)(X3:Da b=ε)(ho:lw X k Φ sc o eo)(ha:lw X k Φ sc a ea)(hb:lw X k Φ sc b eb)(R:Pv k A)(hs:env.scope=sc)(O:Ok X env l s m c)
  (h:wE Φ eo l c λov c=>ld (dB me c ov) λ_=>wE Φ ea l c λx c=>wE Φ eb l c λy c=>K ov x y c) (q:xL X env l P s m Q)
  (fin:∀ov x y c' v u w s' m',K ov x y c'->Ok X env l s' m' c'->xL X env l P s' m' Q->ch X s'.heap m' ov v->ch X s'.heap m' x u->ch X s'.heap m' y w->τ X.M A (call (.builtin (wJ me)) [v,u,w]) Q Er s'):
  τ X.M A (eval (.Call (.Attribute o (gR me:String) apos) [a,b] [] pos) env) Q Er s:=by
 refine wpAny_Call_method2_late (pO Wo _ _ _) hl (Rz hn X3 env) (ho A env l s m c _ _ _ R hs O h λov c1 v s1 m1 h1 O1 P1 r1=>?_);refine wp h1 λ_ hk h1=>?_;refine uW O1.V r1 hk (mU TK (mV (jP (ha A env l s1 m1 c1 _ _ _ R hs O1 h1 λx c2 u s2 m2 h2 O2 P2 r2=>jP (hb A env l s2 m2 c2 _ _ _ R hs O2 h2 λy c3 w s3 m3 h3 O3 P3 r3=>ο ?_)))));exact fin ov x y c3 v u w s3 m3 h3 O3 (q.after ((P1.trans P2).trans P3)) ((r1.up (P2.upN O1.V)).up (P3.upN O2.V)) (r2.up (P3.upN O2.V)) r3
theorem Oq{o a b}{apos pos}{eo ea eb}(Wo:e_ o=ε)(hl:(apos.endLine==pos.line)=ε)(hn:Da a=ε)(X3:Da b=ε)(ho:lw X k Φ sc o eo)(ha:lw X k Φ sc a ea)(hb:lw X k Φ sc b eb):
  lw X k Φ sc (.Call (.Attribute o (gR .get:String) apos) [a,b] [] pos) (.get eo ea eb):=
 λA env l s m c P Q Er R hs O h q=>Ca (me:=.get) (K:=λov x y c=>Dn ov x y c λw=>P w c) Wo hl hn X3 ho ha hb R hs O h q λov x y c' v u w s' m' h O q r1 r2 r3=>by
  refine wp h λz ez h=>?_;have S:=r1.see O.V ez;induction z using CV.casesOn with
  |dict ks vs=>
   refine wp h λi ei hP=>?_;refine r2.asI ei λt=>?_;obtain⟨p,us,rfl,VX,hlen,hd,rs⟩:=S.dict;refine FP VX hd λt'=>?_;cases qq:wf i ks vs with
   |none=>refine ac (HB hlen rs qq) ?_;rw[qq]at hP;exact q.t hP O r3
   |some y'=>refine f4 (y6 hlen rs qq) λy₂ hy ry=>?_;exists hy;rw[qq]at hP;exact q.t hP O ry
  |_=>exact aG h
theorem Jp(Wo:e_ o=ε)(hl:(apos.endLine==pos.line)=ε)(hn:Da a=ε)(X3:Da b=ε)(ho:lw X k Φ sc o eo)(ha:lw X k Φ sc a ea)(hb:lw X k Φ sc b eb):
  lw X k Φ sc (.Call (.Attribute o (gR .setdefault:String) apos) [a,b] [] pos) (.setdef eo ea eb):=
 λA env l s m c P Q Er R hs O h q=>Ca (me:=.setdefault) (K:=λov x y c=>Bk ov x y c P) Wo hl hn X3 ho ha hb R hs O h q λov x y c' v u w s' m' h O q r1 r2 r3=>by
  refine wp h λn en h=>?_;refine wp h λz ez h=>?_;induction z using CV.casesOn with
  |pdict ks vs=>
   refine KT (TD h) λp ep hz hP=>?_;obtain rfl:=qi ep;obtain⟨a,n',t1,t2,rfl,hI,Wn,j⟩:=r2.pairI;obtain⟨d,ob,us,rfl,hm,hdS,ho',is,rs⟩:=j_ O.V r1 en ez;refine E1 (vs:=us) R.u20 hdS j hI Wn ho' is rs hz ?_ ?_
   ·intro w' hw u' t' ru;rw[show wf (p.1,p.2) ks vs=wf p ks vs from rfl]at hw;rw[hw]at hP;exact q.t hP O ru
   ·intro hw h' o' T8 t' ke hq VZ U5;rw[show wf (p.1,p.2) ks vs=wf p ks vs from rfl]at hw;rw[hw]at hP;exact q.write (x:=.pdict _ _) (d:=s'.drawn) O hm ke hq VZ (U5 _ r3) r3 hP
  |_=>exact aG h
end
end Mine
end
section
open PySem PySem.W PyProof.Rows
namespace Mine
variable {X:Wd}{h h' TY:Ξ}{m m' m₁:py}{c c':ad}{s s' s₁:ν}{env:aa}{l:L}{k:Nat}{sc:Ω}{Φ:Nat->Fn}{A:ai}{Er:ι->ν->Prop}{P:CV->ad->Prop}{Q:ι->ν->Prop}
theorem lY{K A:Type}{M:List K->List A->Prop}(h0:M [] [])(h1:∀k v ks vs,δ ks=δ vs->M ks vs->M (k::ks) (v::vs)){ks:List K}:∀{vs:List A},δ ks=δ vs->M ks vs:=by
 induction ks with
 |nil=>intro vs e;induction vs using ar with
  |nil=>exact h0
  |cons _ _=>nomatch e
 |cons k ks ih=>intro vs e;induction vs using ar with
  |nil=>nomatch e
  |cons v vs=>exact h1 k v ks vs (c7 e) (ih (c7 e))
section
variable {K:Type}[BEq K]{n k:K}{v w:ι}{ks:List K}{vs:List ι}
noncomputable def fC(n:K)(v:ι):List K->List ι->List ι
 |k::ks,w::vs=>match n==k with|true=>v::vs|false=>w::fC n v ks vs
 |_,_=>[v]
theorem qS(h:(n==k)=ε):fC n v (k::ks) (w::vs)=v::vs:=by refine(?_:(match n==k with|true=>v::vs|false=>w::fC n v ks vs)=_);exists h,TK
theorem qT(h:(n==k)=ζ):fC n v (k::ks) (w::vs)=w::fC n v ks vs:=by refine(?_:(match n==k with|true=>v::vs|false=>w::fC n v ks vs)=_);exists h,TK
theorem lZ(h:(n==k)=ε):wv n (k::ks)=k::ks:=ie (by exists g7;exists h;rfl)
theorem l4(h:(n==k)=ζ):wv n (k::ks)=k::wv n ks:=by
 cases q:ks.contains n with
 |true=>refine ac (ie q) ?_;exact ie (by exists g7;exists h;exists q;rfl)
 |false=>refine ac (jj q) ?_;exact jj (by exists g7;exists h;exists q;rfl)
theorem AB(r:ch X h m cv v):∀{ks:List K} {vs:List ι} {Uc:List CV},δ ks=δ vs->ce X h m Uc vs->ce X h m (IO n cv ks Uc) (fC n v ks vs):=by
 intro ks;induction ks with
 |nil=>intro vs Uc e q;induction q using ce.casesOn with
  |nil=>exact .cons r .nil
  |cons _ _=>cases e
 |cons k ks ih=>intro vs Uc e q;induction q using ce.casesOn with
  |nil=>cases e
  |cons q qs=>
   cases b:n==k with
   |true=>refine ac (lM b) (ac (qS b) ?_);exact .cons r qs
   |false=>refine ac (j9 b) (ac (qT b) ?_);exact .cons q (ih (c7 e) qs)
theorem L8(h:δ ks=δ vs):(wv n ks).length=(fC n v ks vs).length:=by
 refine lY (M:=λks vs=>(wv n ks).length=(fC n v ks vs).length) TK (λk w ks vs e ih=>?_) h;cases b:n==k with
 |true=>refine ac (lZ b) (ac (qS b) ?_);exact TL (· +1) e
 |false=>refine ac (l4 b) (ac (qT b) ?_);exact TL (· +1) ih
end
theorem L9{n j:Nat}{ks:List Nat}(h:j∉ks)(hn:n≠j):j∉wv n ks:=by
 cases q:ks.contains n with
 |true=>refine ac (ie q) ?_;exact h
 |false=>refine ac (jj q) ?_;exact λi=>(aw.mp i).elim h λi=>hn (Θ.mp i).symm
theorem zP(S:fy X es ks vs):δ ks=δ vs/\es.length=δ ks:=by
 induction S with
 |nil=>exact⟨rfl,rfl⟩
 |cons _ _ _ _ _ _ ih=>exact⟨TL (· +1) ih.1,TL (· +1) ih.2⟩
theorem L_{n:Nat}{v:ι}{t:aZ}(hn:n<Do.length){es:List fV}{ks:List Nat}{vs:List ι}(S:fy X es ks vs):fy X (yW (nm n) (fR X.w.params (nm n)) (.str (nm n) t) v es) (wv n ks) (fC n v ks vs):=by
 induction S with
 |nil=>exact .cons n t v hn (λq=>nomatch q) .nil
 |@cons es ks vs k t' w hk W6 S ih=>
  unfold yW;cases e:n==k with
  |true=>obtain rfl:=TM e;exists show(Value.str (nm n) t').isStr (nm n)=ε from TJ (nm n);exists TG TK;exists lZ e;exists qS e,.cons n t' v hn W6 S
  |false=>have ne:n≠k:=ne_of_beq_false e;exists show(Value.str (nm k) t').isStr (nm n)=ζ from(rQ hk hn).trans (TO.mpr ne.symm);exists TH jU;exists l4 e;exists qT e,.cons k t' w hk (L9 W6 ne) ih
theorem Jq{es:List fV}{ks:List Nat}{vs:List ι}(S:fy X es ks vs):es.any (·.refKey)=ζ:=by
 induction S with
 |nil=>rfl
 |cons _ _ _ _ _ _ ih=>refine ac uq (ac ih ?_);rfl
theorem By{K:Type}[BEq K]{n:K}{ks:List K}:(wv n ks).length<=δ ks+1:=by
 cases q:ks.contains n with
 |true=>refine ac (ie q) ?_;exact jc _
 |false=>refine ac (jj q) (ac Δ ?_);exact aJ _
theorem Jr{attrs:List Nat}(F:iG X attrs){n:Nat}{cc:Nat}{x dx:υ}{es:Array fV}{j:Nat}{ks:List Nat}{vs:List ι}{v:ι}{Q:Unit->ν->Prop}(hn:n∈attrs)(hc:cc<4)(K:X.K.In s.heap)
  (hx:s.heap.get? x=γ (dT (X.cls cc) dx)) (hd:s.heap.get? dx=γ {cls:=.type "dict",data:=.dict es j}) (S:fy X es.toList ks vs) (hz:δ ks<=1000)
  (h:∀h' es' j' t,Heap.SameBut dx s.heap h'->h'.get? dx=γ {cls:=.type "dict",data:=.dict es' j'}->fy X es'.toList (wv n ks) (fC n v ks vs)->Q () {s with heap:=h',toks:=t}):
  τ X.M A (setAttr (.ref x) (nm n) v) Q Er s:=by
 have IA:InstAt s.heap x (dT (X.cls cc) dx) (X.cls cc) (γ {cls:=.type "dict",data:=.dict es j}):=⟨hx,rfl,rfl,hd⟩;refine set_plain K IA (F.set cc hc) (osa_open (r:=η) K IA (F.over cc hc) (F.taker cc n hc hn) λb=>?_);refine f4 (any_some (F.hasDict cc hc)) λcd YN T9=>?_;refine θ (ο (θ (θ (wpAny_loadPart hx (θ ((looks_clsIn (show X.K.In ({s with toks:=s.toks+1}:ν).heap from K) YN).here ?_))))));exists T9;refine ο (a:=γ dx) (θ (ο (θ ?_)));refine θ (θ (kZ (ο (θ (wpAny_mkText (θ (wpAny_loadPart hd ?_)))))));dsimp only;have W7:(!es.any (·.key.isStr (nm n))&&es.any (·.refKey))=ζ:=by rw[show es.any (·.refKey)=ζ by rw[←Array.any_toList];exact Jq S,k8]
 rw[aRefKeyMayBeTheName_at,W7];refine wpAny_updatePart hd ?_;have S':=L_ (v:=v) (t:=s.toks+1) (F.len n hn) S;have D':(s.heap.update dx (Obj.putName (nm n) (fR X.w.params (nm n)) (.str (nm n) (s.toks+1)) v)).get? dx=γ (dictOf (yW (nm n) (fR X.w.params (nm n)) (.str (nm n) (s.toks+1)) v es.toList) (putN (nm n) es.toList j)):=by have hd2:=putName_dict (nm n) (fR X.w.params (nm n)) (.str (nm n) (s.toks+1)) v es.toList j;rw[Heap.get?_update_self _ hd (by rw[show({cls:=.type "dict",data:=.dict es j}:af)=dictOf es.toList j from rfl,hd2];rfl)];exact TL γ hd2
 refine θ (wpAny_lookBehind D' (pastItsLine_dict ?_) ?_)
 ·rw[pN,(zP S').2];exact κ By (κ (bZ hz) (by rw[lK];decide))
 ·exact ο (h _ _ _ _ (Heap.SameBut.update ..) D' S')
theorem gl.up'{O:υ->Prop}(p:gl No s m s' m'):gl O s m s' m':=p.weak λ_ _ _ x=>x.elim
theorem zl{o i cv:CV}{ov iv v:ι}{K:ad->Prop}{Q:Unit->ν->Prop}(hu:A.units+20<bK)(O:Ok X env l s m c)(ro:ch X s.heap m o ov)(ri:ch X s.heap m i iv)(rv:ch X s.heap m cv v)(e:qP o i cv c K)
  (h:∀h' t c',K c'->Ok X env l {s with heap:=h',toks:=t} m c'->gl No s m {s with heap:=h',toks:=t} m->Q () {s with heap:=h',toks:=t}):τ X.M A (ki ov iv v) Q Er s:=by
 refine wp e λn en e=>?_;refine wp e λx ex e=>?_;obtain⟨a,ob,vs,rfl,hm,_,h1,is,rs⟩:=j_ O.V ro en ex;have fin:∀{x':CV} {h':Ξ} {o':af} {vs':List ι} {t:Nat},K (dL c n x')->(∀b o,b≠a->s.heap.get? b=γ o->h'.get? b=γ o)->h'.get? a=γ o'->cF X o' x' vs'->ce X s.heap m x'.kids vs'->Q () {s with heap:=h',toks:=t}:=λhK ke ho' VZ U5=>
  let⟨O',p⟩:=O.write (s':={s with heap:=_,toks:=_}) hm ke ho' TK TK VZ U5
  h _ _ _ hK O' p
 revert e;induction hx:x using CV.casesOn with
 |list xs=>
  intro e;subst hx;refine KT (TD e) λii ei hz hK=>?_;refine ri.asI ei λt=>?_;obtain⟨j,rfl⟩:=is;obtain⟨j',rfl⟩:=iZ hz.1;have lt:j' < δ vs:=rs.length▸aX.mp hz.2.1;refine FO h1 hz.1 (oD lt (eY (show δ vs<=1000 from rs.length▸hz.2.2))) (aX.mpr lt) λh' m' sb hL=>fin (t:=s.toks) (vs':=vs.set j' v) hK (λb o q e=>by exists sb.2 b q,e) hL ⟨m',by exists List.setIfInBounds_toArray ..;rfl⟩ ?_;refine .of (by rw[cZ,←rs.length];exact cZ) λi x w e1 e2=>?_;have e1:(xs.set j' cv)[i]? =γ x:=e1;by_cases q:j'=i
  ·subst q;rw[eW lt]at e2;rw[eW (rs.length▸lt)]at e1;replace e1:=ω e1;subst e1;replace e2:=ω e2;subst e2;exact rv
  ·rw[eX q]at e1 e2;refine f4 (rs.get? e1) λw' e3 r=>?_;exact ω (e3.symm.trans e2)▸r
 |dict ks ws=>
  intro e;subst hx;refine KT (TD e) λii ei hz hK=>?_;refine ri.asI ei λt=>?_;refine on is λhl hd=>?_;clear is;have T_:ks.Nodup:=by obtain⟨es,ep,_,_,_,_,T_⟩:=hd;rw[yg (a5 hl)]at T_;exact T_
  refine wpAny_setItem_pairs (knd:=aH X.prog X.w) (i8 _ _ _ _) (kQ.mpr ⟨ob,h1,hd⟩) (λh' T9 sb=>?_) (by rw[List.length_zip,←hl,yT];exact fZ hz);have zs:∀{ks:List Int} {vs:List ι},δ ks=δ vs->ks.Nodup->yX (ks.zip vs) ii v=(wv ii ks).zip (fC ii v ks vs):=by
   intro ks;induction ks with
   |nil=>intro vs hl _;induction vs using ar with
    |nil=>rfl
    |cons _ _=>cases hl
   |cons k ks ih=>intro vs hl T_;induction vs using ar with
    |nil=>cases hl
    |cons w vs=>
     have hk:k∉ks:=(dO.mp T_).1;have ih:=ih (c7 hl) (dO.mp T_).2;cases e:ii==k with
     |true=>
      obtain rfl:=TM e;exists lZ e;exists qS e;have Vy:(ks.zip vs).map (λkv=>if kv.1=ii then(kv.1,v)else kv)=ks.zip vs:=by
       conv=>rhs;rw[←List.map_id (ks.zip vs)]
       exact tO λkv hkv=>TH λq=>hk (by rw[←q];exact(yo hkv).1)
      unfold yX;rw[kT,uq,TR TK,HM,TG TK,bQ,TG TK,Vy];rfl
     |false=>have ne:¬k=ii:=λq=>ne_of_beq_false e q.symm;rw[l4 e,qT e,kT,kT,←ih];unfold yX;rw[uq,TS ne,p9,bQ,TH ne];split<;>rfl
  rw[zs hl T_]at T9;refine f4 (kQ.mp T9) λob' ho' W8=>?_;exact fin hK (λb o q e=>by rw[sb.2 b q];exact e) ho' ⟨L8 hl,W8⟩ (AB rv hl rs)
 |pdict ks ws=>intro e;subst hx;refine KT (TD e) λp ep hz hK=>?_;obtain rfl:=qi ep;obtain⟨b,j,t1,t2,rfl,hI,Wn,hp⟩:=ri.pairI;exact FA hu hp hI Wn h1 is rs hz rv λh' q vs' t ke hq VZ U5=>fin (x':=.pdict _ _) hK ke hq VZ U5
 |_=>exact aG
theorem AC.frame(V:AC X s.heap m c)(ni:¬m.I a)(nm:a∉m.μ)(nj:¬m.J a)(hO:O a)(k:∀b o,b≠a->s.heap.get? b=γ o->s'.heap.get? b=γ o)(al:∃o,s'.heap.get? a=γ o)(g:s'.gens=s.gens)(os:s'.os=s.os):
  AC X s'.heap m c/\gl O s m s' m/\Up s.heap m s'.heap m:=by
 have X4:∀b o,s.heap.get? b=γ o->∃o',s'.heap.get? b=γ o':=λb o e=>(yS (b=a)).elim (λq=>q▸al) λq=>⟨o,k b o q e⟩;have u:Up s.heap m s'.heap m:=⟨λb o i e=>⟨i,k b o (λq=>ni (q▸i)) e⟩,λb o i e=>⟨i,k b o (λq=>nj (q▸i)) e⟩,λ_ _ e=>e⟩;exact⟨⟨V.len,V.nodup,λn b x e1 e2=>(V.cell n b x e1 e2).up u λo=>k b o λq=>nm (q▸av e1),λb i=>(by obtain⟨o,q⟩:=V.hasI b i;exact X4 b o q),λb i=>(by obtain⟨p,r,o,q⟩:=V.hasM b i;exact⟨p,r,X4 b o q⟩),
  λb i=>(by obtain⟨p,o,q⟩:=V.hasJ b i;exact⟨p,X4 b o q⟩),V.gnd.up u.i,(by obtain⟨o,q⟩:=V.sys;exact X4 _ o q)⟩,⟨λb o e no _=>k b o (λq=>no (q▸hO)) e,X4,λ_ i=>i,λ_ _ _ i=>.inl i,λ_ _ e=>e,λ_ _ _ i=>i,rfl,g,os⟩,u⟩
def fD(lo:Bool) (env:aa) (a:υ):Prop:=a=env.locals\/(lo=ζ/\∃x,(x,a)∈env.cells/\env.kindOf x=γ .cell)
theorem rj{lo}{a}(h:fD lo env a):Fa env a:=h.elim .inl λz0=>by obtain⟨_,x,hx,_⟩:=z0;exact .inr ⟨x,hx⟩
theorem Qo{lo:Bool}{a:υ}(h:fD lo env a):dJ env a:=h.elim .inl λz0=>on z0 λ_ x=>.inr x
theorem ee{x:ψ}{a:υ}{l:List (ψ×υ)}(h:l.lookup x=γ a):(x,a)∈l:=
 let⟨l1,l2,q,_⟩:=pz.mp h
 q▸aI _ (.head _)
theorem Cb{a:υ}{f g:ψ->Option ι}(p:h.Ns a f)(q:h.Ns a g):f=g:=by obtain⟨o,es,ep,h1,h2,h3,h4⟩:=p;obtain⟨o',es',U0,Uk,Vw,h3',h4'⟩:=q;rw[h1]at Uk;replace Uk:=ω Uk;subst Uk;rw[h2]at Vw;cases Vw;funext z;exact io (h4 ..) (ac (h4' ..) TK)
theorem AD{n y:Nat}{cv w:CV}:∀{l:L},pc (Mine.putL l n cv) y=γ w->(y=n/\w=cv)\/(y≠n/\pc l y=γ w):=by
 intro l;induction l with
 |nil=>
  intro e;revert e;refine(?_:(match ae y n with|true=>γ cv|false=>η)=γ w->_);cases q:ae y n with
  |true=>exact λe=>.inl ⟨aU q,(ω e).symm⟩
  |false=>exact λe=>nomatch e
 |cons p l ih=>
  obtain⟨z,o⟩:=p;intro e;have e:pc (match ae n z with|true=>(z,γ cv)::l|false=>(z,o)::Mine.putL l n cv) y=γ w:=e;have step:∀(o:Option CV) (l:L),pc ((z,o)::l) y=match ae y z with|true=>o|false=>pc l y:=λ_ _=>rfl
  exists step ..;cases q:ae n z with
  |true=>
   rw[q]at e;rw[step]at e;obtain rfl:=aU q;cases q':ae y n with
   |true=>rw[q']at e;exact .inl ⟨aU q',(ω e).symm⟩
   |false=>rw[q']at e;exact .inr ⟨pA q',e⟩
  |false=>
   rw[q]at e;rw[step]at e;cases q':ae y z with
   |true=>rw[q']at e;exact .inr ⟨λr=>pA q (r.symm.trans (aU q')),e⟩
   |false=>rw[q']at e;exact ih e
theorem Ok.store{n:Nat}{cv:CV}{v:ι}{lo:Bool}{Q:Unit->ν->Prop}(O:Ok X env l s m c)(hn:n<Do.length)
  (hx:env.kindOf (nm n)=γ .local\/(lo=ζ/\env.kindOf (nm n)=γ .cell)) (r:ch X s.heap m cv v)
  (h:∀h' t,Ok X env (Mine.putL l n cv) {s with heap:=h',toks:=t} m c->gl (fD lo env) s m {s with heap:=h',toks:=t} m->Up s.heap m h' m->Q () {s with heap:=h',toks:=t}):τ X.M A (vc env (nm n) v) Q Er s:=by
 have F:=O.F;have fin:∀(a:υ) (h':Ξ) (t:Nat),fD lo env a->Heap.SameBut a s.heap h'->(∃o,h'.get? a=γ o)->(∃m,h'.Ns env.locals m)->(∀x b,(x,b)∈env.cells->∃o v,h'.get? b=γ o/\o.data= .cell v)->dC h' env (nm n) v->
   (∀j w,j<Do.length->j≠n->dC s.heap env (nm j) w->dC h' env (nm j) w)->Q () {s with heap:=h',toks:=t}:=by
  intro a h' t ha sb al Wb Uy hva X5;have ap:=F.apart a (rj ha);obtain⟨V',P,u⟩:=O.V.frame (s':={s with heap:=h',toks:=t}) (O:=fD lo env) ap.1 ap.2.1 ap.2.2 ha (λb o q e=>by exists sb.2 b q,e) al TK TK;refine h h' t ⟨V',⟨F.kind,F.glob,F.blt,Wb,λx b hb=>?_,F.inj,F.all,F.apart,λj w e=>?_,F.code⟩⟩ P u
  ·obtain⟨_,_,_,_,ne⟩:=F.cells x b hb;refine eI (Uy x b hb) λo v ho hd=>?_;exact⟨o,v,ho,hd,ne⟩
  ·rcases AD e with⟨rfl,rfl⟩|⟨q,e⟩
   ·exact⟨hn,v,hva,r.up u⟩
   ·obtain⟨hj,w',va,rw'⟩:=F.var j w e;exact⟨hj,w',X5 j w' hj q va,rw'.up u⟩
 rcases hx with hx|⟨hlo,hx⟩
 ·refine SZ F.ns λf hm=>?_;refine EH hx hm (λh' Xs sb=>?_) (by exists F.kind;rfl);obtain⟨o,es,ep,ho,_⟩:=id Xs;refine fin env.locals h' _ (.inl TK) sb ⟨o,ho⟩ ⟨_,Xs⟩ (λx b hb=>?_) (.l hx _ Xs (TG TK)) λj w hj ZA va=>?_
  ·obtain⟨o,v,ho,hd,ne⟩:=F.cells x b hb;exact⟨o,v,by exists sb.2 b ne;exact ho,hd⟩
  ·induction va with
   |l kk m' hm' e'=>have hz:=Cb hm hm';subst hz;exact .l kk _ Xs ((TH λe=>ZA (vN hj hn e)).trans e')
   |cell kk a o e' ho hd=>exact .cell kk a o e' (by exists sb.2 a ((by obtain⟨_,_,_,_,ne⟩:=F.cells _ a (ee e');exact ne)),ho) hd
 ·refine SZ (F.all _ hx) λa ha=>?_;have UZ:=ee ha;obtain⟨o0,v0,ho0,hd0,YO⟩:=F.cells _ a UZ;refine Ef F.kind hx ha ⟨o0,ho0,hd0⟩ λh' hc sb=>?_;refine f4 (id hc) λo' ho' T9=>?_;refine SZ F.ns λf hm=>?_;refine fin a h' s.toks (.inr ⟨hlo,_,UZ,hx⟩) sb ⟨o',ho'⟩ ⟨f,hm.sameBut sb (λe=>YO e.symm)⟩ (λx b hb=>?_) (.cell (.inl hx) a o' ha ho' T9) λj w hj ZA va=>?_
  ·by_cases q:b=a
   ·subst q;exact⟨o',_,ho',T9⟩
   ·obtain⟨o,v,ho,hd,ne⟩:=F.cells x b hb;exact⟨o,v,by exists sb.2 b q;exact ho,hd⟩
  ·induction va with
   |l kk m' hm' e'=>exact .l kk m' (hm'.sameBut sb (λe=>YO e.symm)) e'
   |cell kk b o e' ho hd=>exact .cell kk b o e' (by exists sb.2 b (λq=>ZA (vN hj hn (F.inj _ _ _ (ee e') (q▸UZ)))),ho) hd
end Mine
end
section
open PySem PySem.W PyProof.Rows
namespace Mine
section
variable {X:Wd}{h h' TY:Ξ}{m m' m₁:py}{c c':ad}{s s' s₁:ν}{env:aa}{l l':L}{k:Nat}{sc:Ω}{Φ:Nat->Fn}{A:ai}{Er:ι->ν->Prop}
theorem Ok.upL{lo:Bool}(O:Ok X env l s m c)(p:gl (fD lo env) s m s' m'):Up s.heap m s'.heap m':=p.up O.V λa ha=>let ap:=O.F.apart a (rj ha);⟨ap.1,ap.2.2⟩
def fE(X:Wd) (k:Nat) (Φ:Nat->Fn) (sc:Ω) (lo:Bool) (ast:χ) (t:T):Prop:=
 ∀(A:ai) (env:aa) (l:L) (s:ν) (m:py) (c:ad) (cv:CV) (v:ι) (K:L->ad->Prop) (Q:Unit->ν->Prop) (Er:ι->ν->Prop),Pv k A->env.scope=sc->Ok X env l s m c->ch X s.heap m cv v->wT Φ t cv l c K->
  (∀l' c' s' m',K l' c'->Ok X env l' s' m' c'->gl (fD lo env) s m s' m'->Q () s')->τ X.M A (assign ast env v) Q Er s
theorem Mb{lo:Bool}{n:Nat}{pos:aK}(hn:n<Do.length)(hx:sc.names.lookup (nm n)=γ .local\/(lo=ζ/\sc.names.lookup (nm n)=γ .cell)):fE X k Φ sc lo (.Name (nm n) pos) (.name n):=by intro A env l s m c cv v K Q Er R hs O r h q;exists arm_assign_Name ..,θ (aV (yB (O.store hn (lo:=lo) (by unfold Env.kindOf;exists hs;exact hx) r λh' t O' P' _=>q _ _ _ _ h O' P')))
theorem Mf{lo}{attrs}(F:iG X attrs){a}{n}{pos}{ea}(hn:n∈attrs)(ha:lw X k Φ sc a ea):fE X k Φ sc lo (.Attribute a (nm n) pos) (.attr ea n):=by
 intro A env l s m c cv v K Q Er R hs O r h q;exists arm_assign_Attribute ..;refine θ (aq (ha A env l s m c _ _ _ R hs O h λov c1 u s1 m1 h1 O1 P1 r1=>θ (aV (θ (aq ?_)))));induction ov using CV.casesOn with
 |inst cc d=>
  refine wp h1 λj ej h1=>?_;refine wp h1 λx ex h1=>?_;obtain⟨hcc,a',dd,rfl,_,ho,rd⟩:=r1.inst;obtain⟨dx,o,us,ed,hm,_,hd,is,rs⟩:=j_ O1.V rd ej ex;replace ed:=Value.ref.inj ed;subst ed;induction x using CV.casesOn with
  |sdict ks ws=>obtain⟨es,j',rfl,S⟩:=is;refine Jr F hn hcc O1.V.gnd.kIn ho hd S h1.1 λh' es' m' t sb hg S'=>?_;refine on (O1.write (s':={s1 with heap:=h',toks:=t}) (x:=.sdict (wv n ks) (IO n cv ks ws)) hm (λb o q e=>by exists sb.2 b q,e) hg TK TK ⟨es',m',rfl,S'⟩ (AB (r.up (P1.upN O.V)) (zP S).1 rs)) λO' p=>?_;exact pW (q _ _ _ _ h1.2 O' (P1.trans p).up')
  |_=>exact aG h1
 |_=>exact aG h1
theorem Ot{lo}{a b}{pos}{ea eb}(ha:lw X k Φ sc a ea)(hb:lw X k Φ sc b eb):fE X k Φ sc lo (.Subscript a b pos) (.sub ea eb):=by intro A env l s m c cv v K Q Er R hs O r h q;exists arm_assign_Subscript ..;refine θ (aq (ha A env l s m c _ _ _ R hs O h λov c1 u s1 m1 h1 O1 P1 r1=>θ (aq (hb A env l s1 m1 c1 _ _ _ R hs O1 h1 λiv c2 w s2 m2 h2 O2 P2 r2=>θ (aV (θ (aq ?_)))))));have U6:=P1.trans P2;exact zl R.u20 O2 (r1.up (P2.upN O1.V)) r2 (r.up (U6.upN O.V)) h2 λh' t c' hK O' P'=>pW (q _ _ _ _ hK O' (U6.trans P').up')
def oF(X:Wd) (k:Nat) (Φ:Nat->Fn) (sc:Ω) (lo:Bool) (Uw:List χ) (ts:Ts):Prop:=
 ∀(A:ai) (env:aa) (l:L) (s:ν) (m:py) (c:ad) (Uc:List CV) (vs:List ι) (K:L->ad->Prop) (Q:Unit->ν->Prop) (Er:ι->ν->Prop),Pv k A->env.scope=sc->Ok X env l s m c->ce X s.heap m Uc vs->oY Φ ts Uc l c K->
  (∀l' c' s' m',K l' c'->Ok X env l' s' m' c'->gl (fD lo env) s m s' m'->Q () s')->τ X.M A (p7 ((nv Uw env).map (·.2)) vs) Q Er s
theorem pS(h:Da a=ε)(rest:List χ)(env:aa):nv (a::rest) env=(ζ,assign a env)::nv rest env:=by induction a using cW<;>first|rfl|exact t_ (show ζ=ε from h)
theorem FR(h:as.all Da=ε):(nv as env).findIdx? (·.1)=η/\(nv as env).length=as.length:=by
 induction as with
 |nil=>exact⟨rfl,rfl⟩
 |cons a as ih=>rw[k_,aS]at h;refine on (ih h.2) λh1 h2=>?_;exists pS h.1 ..;exact⟨by exists List.findIdx?_cons;exists h1;rfl,TL (· +1) h2⟩
theorem Ou{lo:Bool}:oF X k Φ sc lo [] .nil:=by
 intro A env l s m c Uc vs K Q Er R hs O r h q;induction r using ce.casesOn with
 |nil=>exact ο (q _ _ _ _ h O .refl)
 |cons _ _=>exact aG h
theorem Mg{lo:Bool}{a:χ}{as:List χ}{t:T}{ts:Ts}(hn:Da a=ε)(ha:fE X k Φ sc lo a t)(has:oF X k Φ sc lo as ts):oF X k Φ sc lo (a::as) (.cons t ts):=by
 intro A env l s m c Uc vs K Q Er R hs O r h q;induction r using ce.casesOn with
 |nil=>exact aG h
 |cons r rs=>refine ac (pS hn ..) ?_;exact θ (aq (ha A env l s m c _ _ _ _ _ R hs O r h λl1 c1 s1 m1 h1 O1 P1=>has A env l1 s1 m1 c1 _ _ _ _ _ R hs O1 (rs.up (O.upL P1)) h1 λl2 c2 s2 m2 h2 O2 P2=>q _ _ _ _ h2 O2 (P1.trans P2)))
theorem Js(e:wi x=γ xs):x= .list xs\/x= .tup xs:=by
 induction x using CV.casesOn with
 |list l=>replace e:=ω e;subst e;exact .inl TK
 |tup l=>replace e:=ω e;subst e;exact .inr TK
 |_=>exact pt e
theorem Ov{lo:Bool}{as:List χ}{n:Nat}{pos:aK}{ts:Ts}(hn:as.all Da=ε)(hlen:jH ts=as.length)(has:oF X k Φ sc lo as ts):fE X k Φ sc lo (.Tuple as n pos) (.tup ts):=by
 intro A env l s m c cv v K Q Er R hs O r h q;refine wp h λxs ex h=>?_;refine TE ex λx ev ex=>?_;have hl:δ xs=as.length:=by
  cases z:ae (δ xs) (jH ts)with
  |true=>exact(aU z).trans hlen
  |false=>rw[z]at h;exact h.elim
 rw[hl,←hlen,qe]at h;refine on (FR (env:=env) hn) λst1 st2=>?_;have S:=r.see O.V ev;have go:∀(vs:List ι) (h':Ξ),ce X s.heap m xs vs->Heap.ExtBut s.heap.objs.size s.heap h'->τ X.M A (p7 ((nv as env).map (·.2)) vs) Q Er {s with heap:=h'}:=λvs h' rs hx=>
  have ke:∀b o,s.heap.get? b=γ o->h'.get? b=γ o:=λb o q=>hx b o (λe=>by rw[e,c6]at q;exact pt q) q;let⟨O',P'⟩:=O.grow (s':={s with heap:=h'}) ke TK TK
  has A env l {s with heap:=h'} m c _ _ _ _ _ R hs O' (rs.up (P'.upN O.V)) h λl2 c2 s2 m2 h2 O2 P2=>q _ _ _ _ h2 O2 (P'.up'.trans P2)
 rcases Js ex with rfl|rfl
 ·refine S.listE λa vs j h1 rs=>?_;exists arm_assign_Tuple ..;refine θ (aV (Gf (items:=vs.toArray) R.h ⟨_,h1,rfl,j,rfl⟩ (by refine ac st2 (io hl (ac rs.length ?_));rfl) st1 λh' hx=>go vs h' rs hx))
 ·refine S.tupE λa vs j h1 rs=>?_;exact wpAny_assign_Tuple (items:=vs.toArray) R.h ⟨_,h1,rfl,j,rfl⟩ (by refine ac st2 (io hl (ac rs.length ?_));rfl) st1 λh' hx=>go vs h' rs hx
structure Ty(O:υ->Prop) (fl:Nat) (s:ν) (m:py) (s':ν) (m':py):Prop where
 keep:∀a o,s.heap.get? a=γ o->¬O a->a∉m.μ->s'.heap.get? a=γ o
 alive:∀a o,s.heap.get? a=γ o->∃o',s'.heap.get? a=γ o'
 imm:∀a,m.I a->m'.I a
 new:∀a o,s.heap.get? a=γ o->m'.I a->m.I a\/a∈m.μ
 pre:∀(n:Nat) a,n<fl->m.μ[n]? =γ a->m'.μ[n]? =γ a
 ext:∀a o,s.heap.get? a=γ o->a∈m'.μ->a∈m.μ
 j:m'.J=m.J
 gens:s'.gens=s.gens
 os:s'.os=s.os
theorem Ty.trans(p:Ty O fl s m s' m')(q:Ty O fl s' m' s₁ m₁):Ty O fl s m s₁ m₁ where
 keep a o e no im:=q.keep a o (p.keep a o e no im) no λk=>im (p.ext a o e k)
 alive a o e:=let⟨o',e'⟩:=p.alive a o e;q.alive a o' e'
 imm a i:=q.imm a (p.imm a i)
 new a o e i:=let⟨o',e'⟩:=p.alive a o e;(q.new a o' e' i).elim (p.new a o e) (λk=>.inr (p.ext a o e k))
 pre n a h e:=q.pre n a h (p.pre n a h e)
 ext a o e k:=let⟨o',e'⟩:=p.alive a o e;p.ext a o e (q.ext a o' e' k)
 j:=q.j.trans p.j
 gens:=q.gens.trans p.gens
 os:=q.os.trans p.os
theorem Ty.weak(p:Ty O fl s m s' m')(k:∀a o,s.heap.get? a=γ o->O a->O' a)(f:fl'<=fl):Ty O' fl' s m s' m':=
 {p with keep:=λa o e no im=>p.keep a o e (λx=>no (k a o e x)) im,pre:=λn a h=>p.pre n a (bp h f)}
theorem Ty.full(p:Ty O fl s m s' m')(f:m.μ.length<=fl):gl O s m s' m':=
 ⟨p.keep,p.alive,p.imm,p.new,λn a e=>p.pre n a (bp (ay.mp e).1 f) e,p.ext,p.j,p.gens,p.os⟩
theorem gl.f(p:gl O s m s' m'):Ty O fl s m s' m':=⟨p.keep,p.alive,p.imm,p.new,λn a _=>p.pre n a,p.ext,p.j,p.gens,p.os⟩
theorem gl.st(p:gl No s m s' m'):Ty (dJ env) fl s m s' m':=p.up'.f
theorem gl.stL{lo}{fl}(p:gl (fD lo env) s m s' m'):Ty (dJ env) fl s m s' m':=(p.weak λa _ _ h=>Qo h).f
structure iT(X:Wd) (env:aa) (fl:Nat) (N C:L->ad->Prop) (W:CV->ad->Prop) (s:ν) (m:py) (Q:lD->ν->Prop):Prop where
 next:∀l' c' s' m',N l' c'->Ok X env l' s' m' c'->Ty (dJ env) fl s m s' m'->Q .next s'
 cont:∀l' c' s' m',C l' c'->Ok X env l' s' m' c'->Ty (dJ env) fl s m s' m'->Q .cont s'
 ret:∀cv c' v s' m',W cv c'->AC X s'.heap m' c'->Ty (dJ env) fl s m s' m'->ch X s'.heap m' cv v->Q (.ret v) s'
variable {fl:Nat}{N C:L->ad->Prop}{W:CV->ad->Prop}{Q:lD->ν->Prop}
theorem iT.after(q:iT X env fl N C W s m Q)(p:Ty (dJ env) fl s m s₁ m₁):iT X env fl N C W s₁ m₁ Q:=
 ⟨λ_ _ _ _ h O p'=>q.next _ _ _ _ h O (p.trans p'),λ_ _ _ _ h O p'=>q.cont _ _ _ _ h O (p.trans p'),λ_ _ _ _ _ h V p' r=>q.ret _ _ _ _ _ h V (p.trans p') r⟩
theorem iT.done(q:iT X env fl N C W s m Q)(O:Ok X env l s m c)(h:N l c):Q .next s:=q.next _ _ _ _ h O gl.refl.st
def bz(X:Wd) (k:Nat) (Φ:Nat->Fn) (sc:Ω) (ast:bY) (t:S):Prop:=
 ∀(A:ai) (env:aa) (fl:Nat) (l:L) (s:ν) (m:py) (c:ad) (N C:L->ad->Prop) (W:CV->ad->Prop) (Q:lD->ν->Prop) (Er:ι->ν->Prop),Pv k A->env.scope=sc->Ok X env l s m c->wS Φ t fl l c N C W->iT X env fl N C W s m Q->τ X.M A (exec ast env) Q Er s
def dW(X:Wd) (k:Nat) (Φ:Nat->Fn) (sc:Ω) (Uw:List bY) (ts:Ss):Prop:=
 ∀(A:ai) (env:aa) (fl:Nat) (l:L) (s:ν) (m:py) (c:ad) (N C:L->ad->Prop) (W:CV->ad->Prop) (Q:lD->ν->Prop) (Er:ι->ν->Prop),Pv k A->env.scope=sc->Ok X env l s m c->fn Φ ts fl l c N C W->iT X env fl N C W s m Q->τ X.M A (execs Uw env) Q Er s
theorem Ow:dW X k Φ sc [] .nil:=λA env fl l s m c N C W Q Er R hs O h q=>yr (q.done O h)
theorem Mh(ha:bz X k Φ sc a t)(has:dW X k Φ sc as ts):dW X k Φ sc (a::as) (.cons t ts):=
 λA env fl l s m c N C W Q Er R hs O h q=>wpAny_execs_cons (ha A env fl l s m c _ _ _ _ _ R hs O h ⟨λl1 c1 s1 m1 h1 O1 P1=>has A env fl l1 s1 m1 c1 _ _ _ _ _ R hs O1 h1 (q.after P1),q.cont,q.ret⟩)
theorem Qp(ha:lw X k Φ sc a ea):bz X k Φ sc (.Return (γ a) pos) (.ret ea):=
 λA env fl l s m c N C W Q Er R hs O h q=>wpAny_Return_some (ha A env l s m c _ _ _ R hs O h λcv c1 v s1 m1 h1 O1 P1 r1=>q.ret _ _ _ _ _ h1 O1.V P1.st r1)
theorem Ox:bz X k Φ sc (.Continue pos) .cont:=by intro A env fl l s m c N C W Q Er R hs O h q;refine(?_:τ X.M A (do jr pos;pure PySem.Flow.cont) _ _ _);exact θ (aV (ο (q.cont _ _ _ _ h O gl.refl.st)))
theorem Qq(ht:bV X k Φ sc t et)(ha:dW X k Φ sc a sa)(hb:dW X k Φ sc b sb):bz X k Φ sc (.If t a b pos) (.ife et sa sb):=
 λA env fl l s m c N C W Q Er R hs O h q=>wpAny_If (ht A env l s m c (λ_ u c=>br u (fn Φ sa fl l c N C W) (fn Φ sb fl l c N C W)) _ _ R hs O h λ_ u c1 s1 m1 _ h1 O1 P1=>by
  induction u with
  |true=>exact ha A env fl l s1 m1 c1 _ _ _ _ _ R hs O1 h1 (q.after P1.st)
  |false=>exact hb A env fl l s1 m1 c1 _ _ _ _ _ R hs O1 h1 (q.after P1.st))
theorem Qr(ht:bV X k Φ sc t et)(hb:dW X k Φ sc b sb):bz X k Φ sc (.While t b [] pos) (.whl et sb):=by
 intro A env fl l s m c N C W Q Er R hs O h q;refine wpAny_While (codeAny_whileLoop (λn s₁=>∃l₁ m₁ c₁,Ok X env l₁ s₁ m₁ c₁/\Ty (dJ env) fl s m s₁ m₁/\kO (λl c Q=>jB Φ et l c Q) (λl c K=>fn Φ sb fl l c K K W) n l₁ c₁ N) ?_ 1000 ⟨l,m,c,O,gl.refl.st,h⟩);rintro n s₁ ⟨l₁,m₁,c₁,UL,US,e⟩;induction n using b5 with
 |zero=>exact aG e
 |succ n=>
  refine ht A env l₁ s₁ m₁ c₁ (λ_ u c=>br u (fn Φ sb fl l₁ c (λl c=>kO (λl c Q=>jB Φ et l c Q) (λl c K=>fn Φ sb fl l c K K W) n l c N) (λl c=>kO (λl c Q=>jB Φ et l c Q) (λl c K=>fn Φ sb fl l c K K W) n l c N) W) (N l₁ c)) _ _ R hs UL e λ_ u c₂ TV m₂ _ Ui Vn V0=>?_;have U6:Ty (dJ env) fl s m TV m₂:=US.trans V0.st;induction u with
  |false=>exact yr (q.next _ _ _ _ Ui Vn U6)
  |true=>
   exact hb A env fl l₁ TV m₂ c₂ _ _ _ _ _ R hs Vn Ui ⟨λVo U7 TX Ua Ux Ue Ul=>⟨n,cY n,Vo,Ua,U7,Ue,U6.trans Ul,Ux⟩,λVo U7 TX Ua Ux Ue Ul=>⟨n,cY n,Vo,Ua,U7,Ue,U6.trans Ul,Ux⟩,
    λcv U7 v TX Ua Ux ZC Ul r=>q.ret _ _ _ _ _ Ux ZC (U6.trans Ul) r⟩
theorem Cc(UG:∀env:aa,env.scope=sc->hJ [a] v pos.line env=pure ζ)(VI:∀env:aa,env.scope=sc->gq [a] v env=pure η)(hn:Da a=ε)
  (hv:lw X k Φ sc v ev) (ha:fE X k Φ sc ζ a t):bz X k Φ sc (.Assign [a] v pos) (.g t ev):=
 λA env fl l s m c N C W Q Er R hs O h q=>wpAny_Assign_stores (hv A env l s m c _ _ _ R hs O h λcv c1 w s1 m1 h1 O1 P1 r1=>by exists pS hn ..,ha A env l s1 m1 c1 _ _ _ _ _ R hs O1 r1 h1 λl2 c2 s2 m2 h2 O2 P2=>q.next _ _ _ _ h2 O2 (P1.st.trans P2.stL)) (UG env hs) (VI env hs)
theorem HC(h:ae e.ctorIdx 16=ε)(fin:Q .next s):τ X.M A (dropValue e pos v) Q Er s:=by
 induction e using cW<;>first|exact Db h|skip
 induction v using Value.casesOn<;>first|exact ο fin|exact θ (aV (θ (yA (i_ entry_let_go (ο (ο fin))))))
theorem RA(h16:ae a.ctorIdx 16=ε)(ZD:∀env:aa,env.scope=sc->lH a η pos.line env=pure ζ)(ha:lw X k Φ sc a ea):bz X k Φ sc (.Expr a pos) (.ex ea):=by intro A env fl l s m c N C W Q Er R hs O h q;exists exec_Expr (e:=a) (pos:=pos) (hi:=by unfold interactive;rw[O.F.kind];rfl) (hs:=ZD env hs);refine θ (aV (θ (ha A env l s m c _ _ _ R hs O h λcv c1 v s1 m1 h1 O1 P1 r1=>?_)));exact HC h16 (q.next _ _ _ _ h1 O1 P1.st)
theorem Qs(ha:lw X k Φ sc a ea)(hb:lw X k Φ sc b eb):bz X k Φ sc (.Delete [.Subscript a b p] pos) (.del ea eb):=by
 intro A env fl l s m c N C W Q Er R hs O h q;exists arm_exec_Delete ..;refine θ (aV ?_);exists arm_deleteEach_cons ..;exists arm_deleteEach_nil ..;exists arm_delete_Subscript ..;refine θ (θ (θ (ha A env l s m c _ _ _ R hs O h λov c1 u s1 m1 h1 O1 P1 r1=>θ (aq (hb A env l s1 m1 c1 _ _ _ R hs O1 h1 λiv c2 w s2 m2 h2 O2 P2 r2=>θ (aV (θ (aq ?_))))))));refine wp h2 λn en h3=>?_;refine wp h3 λx ex h3=>?_;obtain⟨a',ob,vs,rfl,hm,hxs,ho,is,rs⟩:=j_ O2.V (r1.up (P2.upN O1.V)) en ex;induction x using CV.casesOn with
 |dict ks ws=>refine KT (TD h3) λj ej hj hK=>?_;refine r2.asI ej λt=>?_;refine FQ hxs ho is.1 is.2 rs hj.1 hj.2 λh' o' us' t' ke hq Vj VZ U5=>pW (ο (ο ?_));refine on (O2.write (s':={s2 with heap:=h',toks:=t'}) (x:=.dict (cw j ks) (eL j ks ws)) hm ke hq TK TK ⟨Vj,VZ⟩ U5) λO' p=>?_;exact q.next _ _ _ _ hK O' ((P1.trans P2).trans p).st
 |_=>exact aG h3
theorem Cd{op:Op}{x y:CV}{v u:ι}{P:CV->ad->Prop}{Q:ι->ν->Prop}(O:Ok X env l s m c)(r:ch X s.heap m x v)(p:ch X s.heap m y u)(e:sW op x y c P)(q:xL X env l P s m Q):τ X.M A (nI (gQ op) v u) Q Er s:=by
 induction op with
 |bor=>refine wp e λn en e=>?_;refine wp e λa ea e=>?_;refine KT (TD e) λb eb hz hP=>?_;refine TE ea λx' ex ea=>?_;refine TE eb λy' ey eb=>?_;obtain rfl:=lx ea;obtain rfl:=lx eb;obtain⟨d,ob,vs,rfl,hm,_,ho,⟨rfl,is⟩,_⟩:=j_ O.V r en ex;obtain⟨d',o',rfl,Uk,VZ⟩:=(p.see O.V ey).setV;refine Il ho Uk is VZ hz λh' q' t d ke hq iq=>q.write (x:=.set _) O hm ke hq ⟨rfl,iq⟩ .nil (.ref n _ hm) hP
 |add=>refine wp e λi ei e=>?_;refine wp e λj ej hP=>?_;refine r.asI ei λt=>p.asI ej λt'=>?_;exact iadd_int (q.t hP O (.int _ _))
 |sub=>refine wp e λi ei e=>?_;refine wp e λj ej hP=>?_;refine r.asI ei λt=>p.asI ej λt'=>?_;exact isub_int (q.t hP O (.int _ _))
 |_=>exact aG e
theorem Qt(hn:n<Do.length)(hc:(nm n==("__classdict__":ψ))=ζ)(hx:sc.names.lookup (nm n)=γ .local\/sc.names.lookup (nm n)=γ .cell)(hv:lw X k Φ sc v ev):
  bz X k Φ sc (.AugAssign (.Name (nm n) p) (gQ op) v pos) (.aug n op ev):=by
 intro A env fl l s m c N C W Q Er R hs O h q;refine wp h λold eo h=>?_;refine wpAny_AugAssign_Name ?_;obtain⟨_,ov,va,ro⟩:=O.F.var n old eo;have key:τ X.M A (eval v env) (λv TV=>τ X.M A (nI (gQ op) ov v) (λr TX=>τ X.M A (vc env (nm n) r) (λ_ s'=>Q .next s') Er TX) Er TV) Er s:=
  hv A env l s m c _ _ _ R hs O h λcv c1 u s1 m1 h1 O1 P1 r1=>Cd O1 (ro.up (P1.upN O.V)) r1 h1 λw c2 w' s2 m2 h2 O2 P2 r2=>O2.store hn (lo:=ζ) (by unfold Env.kindOf;exists hs,hx.imp id λh=>⟨rfl,h⟩) r2 λh' t O3 P3 _=>q.next _ _ _ _ h2 O3 ((P1.trans P2).st.trans P3.stL)
 induction va with
 |l kk m hm e'=>exact EO O.F.kind kk hm e' key
 |cell kk a o Vj ho' T9=>
  rcases kk with kk|kk
  ·exact E4 O.F.kind kk Vj ⟨o,ho',T9⟩ key
  ·exact E5 O.F.kind kk Vj ⟨o,ho',T9⟩ key hc
theorem Ko{a b v}{tp pos}{op}{ea eb ev}(hi:∀ov iv new,augStore b ov iv new=(do eB [new,ov,iv] (ki ov iv new);release [new,ov,iv] [];pure .next))(ha:lw X k Φ sc a ea)(hb:lw X k Φ sc b eb)(hv:lw X k Φ sc v ev):
  bz X k Φ sc (.AugAssign (.Subscript a b tp) (gQ op) v pos) (.augSub ea eb op ev):=by
 intro A env fl l s m c N C W Q Er R hs O h q;refine wpAny_AugAssign_SubscriptAny (ha A env l s m c _ _ _ R hs O h λo c1 ov s1 m1 h1 O1 P1 r1=>hb A env l s1 m1 c1 _ _ _ R hs O1 h1 λi c2 iv s2 m2 h2 O2 P2 r2=>?_) hi;have r1:=r1.up (P2.upN O1.V);obtain⟨T,id,_,_,hg⟩:=Bu (A:=A) (Er:=Er) (P:=λold c=>wE Φ ev l c λv c=>sW op old v c λw c=>qP o i w c (N l)) (Q:=λX6 TX=>τ X.M A (eval v env) (λv UD=>τ X.M A (nI (gQ op) X6 v) (λnew Uo=>τ X.M A (ki ov iv new) (λ_ s'=>Q .next s') Er Uo) Er UD) Er TX) R.u20 O2 r1 r2 h2
  λold c3 X6 s3 m3 h3 O3 P3 r3=>hv A env l s3 m3 c3 _ _ _ R hs O3 h3 λx c4 x' s4 m4 h4 O4 P4 r4=>Cd O4 (r3.up (P4.upN O3.V)) r4 h4 λw c5 w' s5 m5 h5 O5 P5 r5=>by have ZE:=(P3.trans P4).trans P5;exact zl R.u20 O5 (r1.up (ZE.upN O2.V)) (r2.up (ZE.upN O2.V)) r5 h5 λh' t c' hK O' P'=>q.next _ _ _ _ hK O' (((P1.trans P2).trans ZE).trans P').st
 exact hg
end
section
variable {X:Wd}{h h' TY:Ξ}{m m' m₁:py}{c c':ad}{s s' s₁:ν}{env:aa}{l l':L}{k:Nat}{sc:Ω}{Φ:Nat->Fn}{A:ai}{Er:ι->ν->Prop}
theorem Kq:lw X k Φ sc (.Dict [] [] pos) (.dict0 pair cell):=by
 intro A env l s m c P Q Er R hs O h q;refine wpAny_Dict_empty ?_;induction pair with
 |false=>refine f4 (kQ.mp (Heap.DictOf.new (knd:=aH X.prog X.w) s.heap)) λo ho hd=>?_;exact xL.obj q (x:=.dict [] []) (b:=cell) (t:=s.toks) (d:=s.drawn) O ⟨dS _ _,c6 _,ho⟩ ⟨rfl,hd⟩ .nil h
 |true=>exact xL.obj q (x:=.pdict [] []) (b:=cell) (t:=s.toks) (d:=s.drawn) O (be.push TK) (Kj (X:=X)) .nil h
theorem Mi:lw X k Φ sc (.Set [.Constant (.int i) n p] 0 pos) (.set1 cell i):=
 λA env l s m c P Q Er R hs O h q=>let⟨cq,hcq⟩:=O.F.code
  LW h.1 (hcq.keeps O.V.gnd.hIn) λh' a o t ke hn ho is=>xL.obj q (x:=.set [i]) (b:=cell) (d:=s.drawn) O ⟨ke,hn,ho⟩ ⟨rfl,is⟩ .nil h.2
structure bf(m:py) (env:aa) (a:υ):Prop where
 i:¬m.I a
 μ:a∉m.μ
 j:¬m.J a
 s:a≠aF
 f:¬Fa env a
theorem bf.keep(p:bf m env a)(ho:s.heap.get? a=γ o)(q:gl O s m s' m'):bf m' env a:=
 ⟨λi=>(q.new a o ho i).elim p.i p.μ,λi=>p.μ (q.ext a o ho i),λi=>p.j (q.j▸i),p.s,p.f⟩
theorem Ok.apart_new(O:Ok X env l s m c)(n:s.heap.get? a=η):bf m env a:=by
 have no:∀{P:Prop},(∃o,s.heap.get? a=γ o)->P:=λz0=>by obtain⟨o,e⟩:=z0;exact by rw[n]at e;exact pt e
 exact⟨λi=>no (O.V.hasI a i),λi=>no (O.V.hasM a i).2.2,λi=>no (O.V.hasJ a i).2,λi=>no (i▸O.V.sys),λf=>no (O.F.has f)⟩
theorem Ok.frame(O:Ok X env l s m c)(p:bf m env a)(k:∀b o,b≠a->s.heap.get? b=γ o->s'.heap.get? b=γ o)(al:∃o,s'.heap.get? a=γ o)(g:s'.gens=s.gens)(os:s'.os=s.os):
  Ok X env l s' m c/\gl (· =a) s m s' m/\Up s.heap m s'.heap m:=by
 refine bL (O.V.frame (O:=(· =a)) p.i p.μ p.j TK k al g os) λV' P u=>?_;have F:=O.F;have k':∀b o,Fa env b->s.heap.get? b=γ o->s'.heap.get? b=γ o:=λb o f e=>k b o (λq=>p.f (q▸f)) e;exact⟨⟨V',F.kind,F.glob,F.blt,(by obtain⟨mm,o,es,ep,ho,r⟩:=F.ns;exact⟨mm,o,es,ep,k' _ _ (.inl TK) ho,r⟩),λx b e=>(by obtain⟨o,v,ho,d,ne⟩:=F.cells x b e;exact⟨o,v,k' b o (.inr ⟨x,e⟩) ho,d,ne⟩),F.inj,F.all,F.apart,
  λn cv e=>let⟨b,v,va,r⟩:=F.var n cv e;⟨b,v,va.keep k',r.up u⟩,F.code⟩,P,u⟩
theorem Ok.adopt(O:Ok X env l s m c)(p:bf m env a)(ho:s.heap.get? a=γ o):Ok X env l s (m.put a) c:=
 ⟨O.V.imm ho p.μ,let F:=O.F;⟨F.kind,F.glob,F.blt,F.ns,F.cells,F.inj,F.all,λb f=>(bL (F.apart b f) λq1 q2 q3=>⟨λi=>i.elim q1 λe=>p.f (e▸f),q2,q3⟩),λn cv e=>let⟨b,v,va,r⟩:=F.var n cv e;⟨b,v,va,r.up .put⟩,F.code⟩⟩
theorem gl.back(p:gl O s m s' m')(hO:∀a o,s.heap.get? a=γ o->¬O a):gl No s m s' m':=p.weak λa o e x=>absurd x (hO a o e)
theorem gl.put{O:υ->Prop}{a:υ}(p:gl O s m s' m')(n:s.heap.get? a=η):gl O s m s' (m'.put a):=
 {p with imm:=λb i=>.inl (p.imm b i),new:=λb o e i=>i.elim (p.new b o e) λq=>by rw[q,n]at e;exact pt e}
theorem gl.aft{O O':υ->Prop}(p:gl O s m s' m')(q:gl O' s' m' s₁ m₁)(n:∀a o,s.heap.get? a=γ o->¬O' a):gl O s m s₁ m₁:=
 ((p.weak (O':=λa=>O a\/O' a) λ_ _ _ h=>.inl h).trans (q.weak λ_ _ _ h=>.inr h)).weak λa o e h=>h.elim id λh=>absurd h (n a o e)
theorem Kr{a b:χ}{pos:aK}{ea eb:Mine.E}(ha:lw X k Φ sc a ea)(hb:lw X k Φ sc b eb):lw X k Φ sc (.Dict [γ a] [b] pos) (.dict1 ea eb):=by intro A env l s m c P Q Er R hs O h q;refine wpAny_Dict_pairs (knd:=aH X.prog X.w) (pairs:=[(eval a env,do let x ←eval b env;jr pos;pure x)]) TK (λq=>nomatch q) (pC TK) ?_;have nD:s.heap.get? s.heap.objs.size=η:=c6 _;refine on (O.grow (s':={s with heap:=s.heap.push {cls:=.type "dict",data:=.dict #[]}}) (dS _ _) TK TK) λO0 P0=>?_;have aD:=O.apart_new nD;refine f4 (kQ.mp (Heap.DictOf.new (knd:=aH X.prog X.w) s.heap)) λo ho hd=>?_;refine evalPairs_cons (ha A env l {s with heap:=s.heap.push {cls:=.type "dict",data:=.dict #[]}} m c _ _ _ R hs O0 h λkv c1 u s1 m1 h1 O1 P1 r1=>?_);refine wp h1 λi ei h1=>?_;refine r1.asI ei λt=>?_;refine θ (hb A env l s1 m1 c1 _ _ _ R hs O1 h1 λw c2 x s2 m2 h2 O2 P2 r2=>θ (aV (ο (evalPairs_nil ?_))));have U6:=P1.trans P2;have hD2:s2.heap.get? s.heap.objs.size=γ o:=U6.keep _ o ho (λx=>x) aD.μ;have aD2:=aD.keep (s:={s with heap:=s.heap.push {cls:=.type "dict",data:=.dict #[]}}) ho U6;refine⟨[(i,x)],⟨i8 _ _ _ _,rfl,trivial⟩,kQ.mpr ⟨o,hD2,hd⟩,λh' T9 sb=>?_⟩;refine f4 (kQ.mp (show h'.DictOf (aH X.prog X.w) s.heap.objs.size [(i,x)] from T9)) λo' ho' W8=>?_;refine bL (O2.frame (s':={s2 with heap:=h',toks:=s2.toks+1}) aD2 (λb o q e=>by exists sb.2 b q,e) ⟨_,ho'⟩ TK TK) λO3 P3 u=>?_;have r:ch X h' (m2.put s.heap.objs.size) (.dict [i] [w]) (.ref s.heap.objs.size):=.obj (vs:=[x]) (.inr TK) aD.s ho' ⟨rfl,W8⟩ (.cons ((r2.up u).up .put) .nil);exact q _ _ _ _ _ h2 (O3.adopt aD2 ho') (((P0.trans U6).aft P3 λa o e q=>by rw[q,nD]at e;exact pt e).put nD) r
theorem Bz{a b d:χ}{o1 o2:Cm}{ea eb ed:Mine.E}(hm:lh (bW o2) d=ζ):markedEach [bW o1,bW o2] [b,d] (lW [b,d] env)=[eval b env,eval d env]:=by exists pY ..;exists pY ..;refine(?_:[eval b env,markedBehindIn (bW o2) d (eval d env)]=_);exists markedBehindIn_of_false hm,TK
theorem Mj{a b d:χ}{pos}{o1 o2:Cm}{ea eb ed:Mine.E}(hm:lh (bW o2) d=ζ)(ha:lw X k Φ sc a ea)(hb:lw X k Φ sc b eb)(hd:lw X k Φ sc d ed):bV X k Φ sc (.Compare a [bW o1,bW o2] [b,d] pos) (.cmp2 o1 o2 ea eb ed):=by
 intro A env l s m c P Q Er R hs O h q;exists arm_isTrue_Compare ..;exists Bz (a:=a) (ea:=ea) (eb:=eb) (ed:=ed) hm ..;refine θ (ha A env l s m c _ _ _ R hs O h λx c1 v s1 m1 h1 O1 P1 r1=>?_);refine(?_:τ X.M A (eB [v] (eval b env) >>= _) _ _ _);refine θ (aq (hb A env l s1 m1 c1 _ _ _ R hs O1 h1 λy c2 u s2 m2 h2 O2 P2 r2=>θ (aV ?_)));refine wp h2 λt et h2=>?_;refine θ (aq (lF R.u20 O2.V (r1.up (P2.upN O1.V)) r2 et λtk=>θ (pW (θ (aq (m8 ?_))))));have W9:Ok X env l {s2 with toks:=tk} m2 c2:=O2.t TK;have U6:gl No s m {s2 with toks:=tk} m2:=(P1.trans P2).t TK TK TK;induction t with
 |true=>refine ac (TG TK) ?_;refine(?_:τ X.M A (eB [u] (eval d env) >>= _) _ _ _);refine θ (aq (hd A env l {s2 with toks:=tk} m2 c2 _ _ _ R hs W9 h2 λz c3 w s3 m3 h3 O3 P3 r3=>?_));refine wp h3 λr' er h3=>?_;exact θ (aV (θ (yq (lF R.u20 O3.V (r2.up (P3.upN W9.V)) r3 er λt'=>aq (m8 (q (.bool r') r' _ _ _ (λ_ q=>q) h3 (O3.t TK) ((U6.trans P3).t TK TK TK)))))))
 |false=>refine ac (TH jU) ?_;exact ο (q (.bool ζ) ζ _ _ _ (λ_ q=>q) h2 W9 U6)
theorem Mk{a b d:χ}{pos}{o1 o2:Cm}{ea eb ed:Mine.E}(hm:lh (bW o2) d=ζ)(ha:lw X k Φ sc a ea)(hb:lw X k Φ sc b eb)(hd:lw X k Φ sc d ed):lw X k Φ sc (.Compare a [bW o1,bW o2] [b,d] pos) (.cmp2 o1 o2 ea eb ed):=by
 intro A env l s m c P Q Er R hs O h q;exists arm_eval_Compare ..;exists Bz (a:=a) (ea:=ea) (eb:=eb) (ed:=ed) hm ..;refine θ (ha A env l s m c _ _ _ R hs O h λx c1 v s1 m1 h1 O1 P1 r1=>?_);refine(?_:τ X.M A (eB [v] (eval b env) >>= _) _ _ _);refine θ (aq (hb A env l s1 m1 c1 _ _ _ R hs O1 h1 λy c2 u s2 m2 h2 O2 P2 r2=>θ (aV ?_)));refine wp h2 λt et h2=>?_;refine θ (aq (lF R.u20 O2.V (r1.up (P2.upN O1.V)) r2 et λtk=>θ (pW (θ (aq (m8 ?_))))));have W9:Ok X env l {s2 with toks:=tk} m2 c2:=O2.t TK;have U6:gl No s m {s2 with toks:=tk} m2:=(P1.trans P2).t TK TK TK;induction t with
 |true=>refine ac (TG TK) ?_;refine(?_:τ X.M A (eB [u] (eval d env) >>= _) _ _ _);refine θ (aq (hd A env l {s2 with toks:=tk} m2 c2 _ _ _ R hs W9 h2 λz c3 w s3 m3 h3 O3 P3 r3=>?_));refine wp h3 λr' er h3=>?_;exact θ (aV (yq (lF R.u20 O3.V (r2.up (P3.upN W9.V)) r3 er λt'=>xL.t (xL.after q (U6.trans P3)) h3 O3 (.bool _))))
 |false=>refine ac (TH jU) ?_;exact ο (q _ _ _ _ _ h2 W9 U6 (.bool _))
theorem Oy{pos}(ht:bV X k Φ sc t et)(ha:bV X k Φ sc a ea)(hb:bV X k Φ sc b eb):bV X k Φ sc (.IfExp t a b pos) (.ite et ea eb):=by
 intro A env l s m c P Q Er R hs O h q;exists arm_isTrue_IfExp ..;refine θ (ht A env l s m c (λ_ u c=>br u (wE Φ ea l c λv c=>cE c v λb=>P v b c) (wE Φ eb l c λv c=>cE c v λb=>P v b c)) _ _ R hs O h λ_ u c1 s1 m1 _ h1 O1 P1=>?_);induction u with
 |true=>exact ha A env l s1 m1 c1 _ _ _ R hs O1 h1 λcv b c2 s2 m2 u h2 O2 P2=>q _ _ _ _ _ u h2 O2 (P1.trans P2)
 |false=>exact hb A env l s1 m1 c1 _ _ _ R hs O1 h1 λcv b c2 s2 m2 u h2 O2 P2=>q _ _ _ _ _ u h2 O2 (P1.trans P2)
theorem uI(h:a≠b):ae a b=ζ:=by
 cases q:ae a b with
 |false=>rfl
 |true=>exact absurd (aU q) h
theorem lP:∀{l:L},pc (Mine.putL l n cv) y=match ae y n with|true=>γ cv|false=>pc l y:=by
 intro l;induction l with
 |nil=>rfl
 |cons p l ih=>
  obtain⟨z,o⟩:=p;refine(?_:pc (match ae n z with|true=>(z,γ cv)::l|false=>(z,o)::Mine.putL l n cv) y=match ae y n with|true=>γ cv|false=>(match ae y z with|true=>o|false=>pc l y));cases q:ae n z with
  |true=>obtain rfl:=aU q;refine(?_:(match ae y n with|true=>γ cv|false=>pc l y)=_);cases ae y n<;>rfl
  |false=>
   refine(?_:(match ae y z with|true=>o|false=>pc (Mine.putL l n cv) y)=_);exists ih;cases q':ae y z with
   |false=>rfl
   |true=>have hz:=aU q';subst hz;exists(show ae y n=ζ from uI λe=>pA q e.symm),TK
theorem qU(h:x≠y):pc (Mine.putL (Mine.putL l x a) y b) n=pc (Mine.putL (Mine.putL l y b) x a) n:=by
 exists lP;exists lP;exists lP;exists lP;cases q:ae n y with
 |false=>rfl
 |true=>obtain rfl:=aU q;exists uI h.symm,TK
theorem Ok.same(O:Ok X env l s m c)(e:∀n,pc l' n=pc l n):Ok X env l' s m c:=⟨O.V,{O.F with var:=λn cv h=>O.F.var n cv ((e n).symm.trans h)}⟩
theorem Ml(e:∀n,pc l' n=pc l n)(n:Nat):pc (Mine.putL l' x a) n=pc (Mine.putL l x a) n:=by rw[lP,lP,e]
theorem Mm{n pos}(TZ:dc X k Φ sc Uw es)(R:Pv k A)(hs:env.scope=sc)(O:Ok X env l s m c)(h:wE Φ (.tup es) l c P)
  (q:∀xs c' v s' m',P (.tup xs) c'->Ok X env l s' m' c'->gl No s m s' m'->ch X s'.heap m' (.tup xs) v->Q v s'):τ X.M A (eval (.Tuple Uw n pos) env) Q Er s:=
 E6 (TZ A env l s m c _ _ _ _ R hs O h λUc c1 vs s1 m1 h1 O1 P1 r1=>⟨r1.fit h1.1,vM (x:=.tup Uc) (b:=ζ) (P:=λcv c=>cv= .tup Uc/\P cv c) O1 P1 (⟨0,rfl⟩:js "tuple" _ vs) r1 TK ⟨rfl,h1.2⟩ λcv c' v s' m' e O' P' r'=>by obtain⟨rfl,e⟩:=e;exact q _ _ _ _ _ e O' P' r'⟩)
theorem zQ:∀{ps:List (Nat×CV×ι)} {l:L} {s:ν} {Q:Unit->ν->Prop},(∀p,p∈ps->p.1<Do.length/\env.kindOf (nm p.1)=γ .local/\ch X s.heap m p.2.1 p.2.2)->Ok X env l s m c->
  (∀s',Ok X env (ps.foldl (λl p=>Mine.putL l p.1 p.2.1) l) s' m c->gl (fD ζ env) s m s' m->Q () s')->τ X.M A (p7 (ps.map λp=>bindName env (nm p.1)) (ps.map (·.2.2))) Q Er s:=by
 intro ps;induction ps with
 |nil=>exact λ_ O q=>ο (q _ O .refl)
 |cons p ps ih=>intro l s Q h O q;refine bL (h p (.head _)) λh1 h2 h3=>?_;exact θ (aq (yB (O.store h1 (lo:=ζ) (.inl h2) h3 λh' t O' P' u=>ih (λp hp=>(bL (h p (.tail _ hp)) λa b d=>⟨a,b,d.up u⟩)) O' λs'' O'' P''=>q _ O'' (P'.trans P''))))
theorem l5(hs:env.scope=sc)(h:sc.names.lookup (nm n)=γ .local):env.kindOf (nm n)=γ .local:=by unfold Env.kindOf;exists hs,h
theorem BA{fl:Nat}{ts vs:List χ}{n n':Nat}{tp vp pos:aK}{tt:Ts}{es:Es}{ns:List Nat}(hs:env.scope=sc)(R:Pv k A)(UG:hJ [.Tuple ts n tp] (.Tuple vs n' vp) pos.line env=pure ζ)(VI:gq [.Tuple ts n tp] (.Tuple vs n' vp) env=pure (γ (ns.map nm)))
  (hv:dc X k Φ sc vs es) {N C:L->ad->Prop} {W:CV->ad->Prop} {Q:lD->ν->Prop} (O:Ok X env l s m c) (h:wS Φ (.g (.tup tt) (.tup es)) fl l c N C W) (q:iT X env fl N C W s m Q) (hl:jH tt=δ ns)
  (fin:∀xs us s' m' c',ce X s'.heap m' xs us->δ xs=δ ns->oY Φ tt xs l c' N->Ok X env l s' m' c'->iT X env fl N C W s' m' Q->τ X.M A (p7 ((ns.map nm).reverse.map λn=>bindName env n) us.reverse) (λ_ s=>Q .next s) Er s'):
  τ X.M A (exec (.Assign [.Tuple ts n tp] (.Tuple vs n' vp) pos) env) Q Er s:=by
 exists exec_Assign_arm ..;refine θ (aV ?_);exists UG;refine θ (ο ?_);exists TH (by decide);refine θ (Mm (P:=λv c=>wT Φ (.tup tt) v l c N) hv R hs O h λxs c1 v s1 m1 h1 O1 P1 r1=>?_);exists VI;refine θ (ο ?_);obtain⟨a,us,j,rfl,_,ho,rs⟩:=r1.tupV;have h1:(match ae (δ xs) (jH tt)with|true=>oY Φ tt xs l c1 N|false=>False):=h1;have hx:δ xs=δ ns:=by
  cases z:ae (δ xs) (jH tt)with
  |true=>exact(aU z).trans hl
  |false=>rw[z]at h1;exact h1.elim
 rw[hl,hx,qe]at h1;refine(?_:τ X.M A (rule _ >>= _) _ _ _);refine θ (dR (θ ?_));have hn:(ns.map nm).length=us.toArray.size:=by refine ac (φ ..) (io (hx ..) (ac (rs.length ..) ?_));rfl
 exists hn;refine wpAny_unpackItems_tuple (items:=us.toArray) R.h ⟨_,ho,rfl,j,rfl⟩ λh' hx'=>?_;obtain⟨O2,P2⟩:=O1.grow (s':={s1 with heap:=h'}) (λb o q=>hx' b o (λe=>by rw[e,c6]at q;exact pt q) q) TK TK;exact θ (cj (fin xs us {s1 with heap:=h'} m1 c1 (rs.up (P2.upN O1.V)) hx h1 O2 (q.after (P1.trans P2).st)) (λ_ s2 h2=>ο h2) λ_ _ e=>e)
theorem Mn(hx:x<Do.length)(hy:y<Do.length)(ZF:x≠y)(kx:sc.names.lookup (nm x)=γ .local)(ky:sc.names.lookup (nm y)=γ .local)
  (UG:∀env:aa,env.scope=sc->hJ [.Tuple ts n tp] (.Tuple vs n' vp) pos.line env=pure ζ)
  (VI:∀env:aa,env.scope=sc->env.scope.kind= .function->gq [.Tuple ts n tp] (.Tuple vs n' vp) env=pure (γ [nm x,nm y]))
  (hv:dc X k Φ sc vs es):bz X k Φ sc (.Assign [.Tuple ts n tp] (.Tuple vs n' vp) pos) (.g (.tup (.cons (.name x) (.cons (.name y) .nil))) (.tup es)):=
 λA env fl l s m c N C W Q Er R hs O h q=>BA (ns:=[x,y]) hs R (UG env hs) (VI env hs O.F.kind) hv O h q TK λxs us s' m' c' rs hl h O q=>by
  induction rs using ce.casesOn with|nil=>cases hl|@cons a va _ _ ra rs=>?_
  induction rs using ce.casesOn with|nil=>cases hl|@cons b vb _ _ rb rs=>?_
  induction rs using ce.casesOn with
  |cons _ _=>cases hl
  |nil=>
   refine zQ (ps:=[(y,b,vb),(x,a,va)]) (λp hp=>?_) O λs2 O2 P2=>q.next _ _ _ _ h (O2.same λn=>qU ZF) P2.stL
   rcases ab.mp hp with rfl|hp
   ·exact⟨hy,l5 hs ky,rb⟩
   ·have hz:=Θ.mp hp;subst hz;exact⟨hx,l5 hs kx,ra⟩
theorem Mp(hx:x<Do.length)(hy:y<Do.length)(hw:w<Do.length)(ZF:x≠y)(hxw:x≠w)(hyw:y≠w)(kx:sc.names.lookup (nm x)=γ .local)(ky:sc.names.lookup (nm y)=γ .local)(kw:sc.names.lookup (nm w)=γ .local)
  (UG:∀env:aa,env.scope=sc->hJ [.Tuple ts n tp] (.Tuple vs n' vp) pos.line env=pure ζ)
  (VI:∀env:aa,env.scope=sc->env.scope.kind= .function->gq [.Tuple ts n tp] (.Tuple vs n' vp) env=pure (γ [nm x,nm y,nm w]))
  (hv:dc X k Φ sc vs es):bz X k Φ sc (.Assign [.Tuple ts n tp] (.Tuple vs n' vp) pos) (.g (.tup (.cons (.name x) (.cons (.name y) (.cons (.name w) .nil)))) (.tup es)):=
 λA env fl l s m c N C W Q Er R hs O h q=>BA (ns:=[x,y,w]) hs R (UG env hs) (VI env hs O.F.kind) hv O h q TK λxs us s' m' c' rs hl h O q=>by
  induction rs using ce.casesOn with|nil=>cases hl|@cons a va _ _ ra rs=>?_
  induction rs using ce.casesOn with|nil=>cases hl|@cons b vb _ _ rb rs=>?_
  induction rs using ce.casesOn with|nil=>cases hl|@cons d vd _ _ rd rs=>?_
  induction rs using ce.casesOn with
  |cons _ _=>cases hl
  |nil=>
   refine zQ (ps:=[(w,d,vd),(y,b,vb),(x,a,va)]) (λp hp=>?_) O λs2 O2 P2=>q.next _ _ _ _ h (O2.same λn=>?_) P2.stL
   ·rcases ab.mp hp with rfl|hp
    ·exact⟨hw,l5 hs kw,rd⟩
    ·rcases ab.mp hp with rfl|hp
     ·exact⟨hy,l5 hs ky,rb⟩
     ·have hz:=Θ.mp hp;subst hz;exact⟨hx,l5 hs kx,ra⟩
   ·refine(?_:pc (Mine.putL (Mine.putL (Mine.putL l x a) y b) w d) n=pc (Mine.putL (Mine.putL (Mine.putL l w d) y b) x a) n);rw[qU hyw,Ml (λn=>qU hxw),qU ZF]
end
section
variable {X:Wd}{h h' TY:Ξ}{m m' m₁ m₂:py}{c c':ad}{s s' s₁:ν}{env:aa}{l l':L}{k:Nat}{sc:Ω}{Φ:Nat->Fn}{A:ai}{Er:ι->ν->Prop}
structure ju(h h':Ξ) (env:aa):Prop where
 ext:∀b o,h.get? b=γ o->h'.get? b=γ o
 newL:h.get? env.locals=η
 ns:∃m,h'.Ns env.locals m
 cells:∀x a,(x,a)∈env.cells->h.get? a=η/\a≠env.locals/\(∃v,h'.IsCell a v)/\env.kindOf x=γ .cell
 inj:∀x y a,(x,a)∈env.cells->(y,a)∈env.cells->x=y
 all:∀x,env.kindOf x=γ .cell->∃a,env.cells.lookup x=γ a
theorem ju.set(N:ju h h' env)(sb:Heap.SameBut a h' TY)(hn:h.get? a=η)(keep:(a=env.locals/\∃m,TY.Ns a m)\/(a≠env.locals/\∃v,TY.IsCell a v)):ju h TY env:=by
 refine⟨?_,N.newL,?_,?_,N.inj,N.all⟩
 ·intro b o e;have:b≠a:=by rintro rfl;rw[hn]at e;exact pt e
  exists sb.2 b this,N.ext b o e
 ·clear hn;rcases keep with⟨rfl,m,hm⟩|⟨Um,_⟩
  ·exact⟨m,hm⟩
  ·refine SZ N.ns λm hm=>?_;exact⟨m,hm.sameBut sb (λe=>Um e.symm)⟩
 ·intro x b e;clear hn;obtain⟨h1,h2,⟨v,o,ho,hd⟩,h4⟩:=N.cells x b e;refine⟨h1,h2,?_,h4⟩;by_cases q:b=a
  ·clear h4 h1 e N;subst q;rcases keep with⟨rfl,_⟩|⟨_,hv⟩
   ·exact absurd TK h2
   ·exact hv
  ·exact⟨v,o,by exists sb.2 b q;exact ho,hd⟩
theorem Mq(hk:env.scope.kind= .function)(N:ju h0 s.heap env)(hx:env.kindOf x=γ .local\/env.kindOf x=γ .cell)
  (h:∀h' t,ju h0 h' env->dC h' env x v->(∀y w,y≠x->dC s.heap env y w->dC h' env y w)->Q () {s with heap:=h',toks:=t}):τ X.M A (vc env x v) Q Er s:=by
 have hp:(env.scope.kind== .class || (env.scope.kind== .module&&env.locals != env.globals))=ζ:=by exists hk;rfl
 rcases hx with hx|hx
 ·refine SZ N.ns λm hm=>?_;refine EH hx hm (λh' hn sb=>?_) hp;refine h h' _ (N.set sb N.newL (.inl ⟨rfl,_,hn⟩)) (.l hx _ hn (by simp)) ?_;intro y w hy va;induction va with
  |l kk m' hm' e'=>have hz:=Cb hm hm';subst hz;exact .l kk _ hn (by simp[hy,e'])
  |cell kk a o e' ho hd=>exact .cell kk a o e' (by exists sb.2 a (N.cells y a (ee e')).2.1,ho) hd
 ·refine SZ (N.all x hx) λa ha=>?_;have UZ:=ee ha;obtain⟨h1,h2,⟨v0,hv0⟩,h4⟩:=N.cells x a UZ;refine Ef hk hx ha hv0 λh' hc sb=>?_;refine f4 (id hc) λo' ho' T9=>?_;refine h h' s.toks (N.set sb h1 (.inr ⟨h2,_,hc⟩)) (.cell (.inl hx) a o' ha ho' T9) ?_;intro y w hy va;clear hx hv0 ho' hk T9 hc ha h4 h1 h Q;induction va with
  |l kk m' hm' e'=>exact .l kk m' (hm'.sameBut sb (λe=>h2 e.symm)) e'
  |cell kk b o e' ho hd=>have:b≠a:=(by rintro rfl;exact hy (N.inj y x _ (ee e') UZ));exact .cell kk b o e' (by exists sb.2 b this,ho) hd
theorem yN:∀{l:List (ψ×jk)},(l.map (·.1)).Nodup->(x,kd)∈l->l.lookup x=γ kd:=by
 intro l;induction l with
 |nil=>exact λ_ hm=>by simp at hm
 |cons p l ih=>
  obtain⟨y,ky⟩:=p;intro T_ hm;exists g8;replace T_:=dO.mp T_;rcases ab.mp hm with e|hm'
  ·clear hm;cases e;exists TJ ..,TK
  ·have:x≠y:=(by rintro rfl;exact T_.1 (au.mpr ⟨(x,kd),hm',rfl⟩));exists TO.mpr this,ih T_.2 hm'
structure Cl(h h':Ξ) (l0:υ) (N:List (ψ×jk)) (cs:List (ψ×υ)):Prop where
 ext:∀b o,h.get? b=γ o->h'.get? b=γ o
 ns:∃m,h'.Ns l0 m
 fr:∀x a,(x,a)∈cs->h.get? a=η/\a≠l0/\(∃v,h'.IsCell a v)/\(x,NameKind.cell)∈N
 inj:∀x y a,(x,a)∈cs->(y,a)∈cs->x=y
theorem Cl.push(C:Cl h h' l0 N cs)(hx:(x,NameKind.cell)∈N):Cl h (h'.push {cls:=.type "cell",data:=.cell η}) l0 N ((x,h'.objs.size)::cs):=by
 have hs:h'.get? h'.objs.size=η:=c6 _;have no:∀{y},(y,h'.objs.size)∉cs:=λhy=>by obtain⟨_,_,⟨v,o,a3,_⟩,_⟩:=C.fr _ _ hy;rw[hs]at a3;exact pt a3
 obtain⟨m,hm⟩:=C.ns;refine⟨λb o e=>dS _ _ b o (C.ext b o e),⟨m,hm.push _⟩,λy a hy=>?_,λy z a hy hz=>?_⟩
 ·rcases ab.mp hy with e|hy
  ·obtain⟨rfl,rfl⟩:=du e;refine⟨?_,λe=>?_,⟨η,_,Heap.get?_push_size _ TK,rfl⟩,hx⟩
   ·cases q:h.get? h'.objs.size with
    |none=>rfl
    |some o=>exact pt (hs.symm.trans (C.ext _ o q))
   ·exact absurd (e▸hm.lt:h'.objs.size<h'.objs.size) (fS _)
  ·obtain⟨a1,a2,⟨v,o,a3,a3'⟩,a4⟩:=C.fr y a hy;exact⟨a1,a2,⟨v,o,dS _ _ _ _ a3,a3'⟩,a4⟩
 ·rcases ab.mp hy with e|hy
  ·rcases ab.mp hz with e'|hz
   ·exact(du e).1.trans (du e').1.symm
   ·rw[(du e).2]at hz;exact absurd hz no
  ·rcases ab.mp hz with e'|hz
   ·rw[(du e').2]at hy;exact absurd hy no
   ·exact C.inj y z a hy hz
theorem Ms{f:ψ×jk->List (ψ×υ)->aQ (ForInStep (List (ψ×υ)))}{h0:Ξ}{l0:υ}{N:List (ψ×jk)}{Q:List (ψ×υ)->ν->Prop}
  (f1:∀x cs,f (x,.cell) cs=(do let a ←alloc {cls:=.type "cell",data:=.cell η};pure (.yield ((x,a)::cs)))) (f2:∀p cs,p.2≠.cell->f p cs=pure (.yield cs)):
  ∀{ns:List (ψ×jk)} {cs:List (ψ×υ)} {s:ν},Cl h0 s.heap l0 N cs->(∀p∈ns,p∈N)->
   (∀W_ h',Cl h0 h' l0 N W_->(∀x,((x,NameKind.cell)∈ns\/∃a,cs.lookup x=γ a)->∃a,W_.lookup x=γ a)->Q W_ {s with heap:=h'})->τ X.M A (forIn ns cs f) Q Er s:=by
 intro ns;induction ns with
 |nil=>intro cs s C _ k;rw[k7];exact ο (k cs s.heap C λx h=>h.elim (λh=>nomatch h) id)
 |cons p ns ih=>
  intro cs s C hN k;rw[i9];by_cases q:p.2= .cell
  ·obtain⟨x,kd⟩:=p;obtain rfl:kd= .cell:=q;rw[f1];refine θ (θ (uD (ο ?_)));refine ih (s:={s with heap:=s.heap.push {cls:=.type "cell",data:=.cell η}}) (C.push (hN _ (.head _))) (λp hp=>hN p (.tail _ hp)) λW_ h' C' kk=>k W_ h' C' λy hy=>kk y ?_;by_cases e:y=x
   ·exact .inr ⟨s.heap.objs.size,by rw[e,g8,TJ]⟩
   ·rcases hy with hy|⟨a,hy⟩
    ·exact .inl ((ab.mp hy).resolve_left λq=>e (du q).1)
    ·exact .inr ⟨a,by rw[g8,TO.mpr e];exact hy⟩
  ·rw[f2 p cs q];refine θ (ο (ih C (λp hp=>hN p (.tail _ hp)) λW_ h' C' kk=>k W_ h' C' λy hy=>kk y (hy.imp_left λhy=>(ab.mp hy).resolve_left λe=>q (TL Prod.snd e).symm)))
theorem Mt{h0:Ξ}{Q:PUnit->ν->Prop}(hk:env.scope.kind= .function){f:ψ×ι->PUnit->aQ (ForInStep PUnit)}(hf:∀x v u,f (x,v) u=(do vc env x v;pure (.yield ⟨⟩))):
  ∀{bs:List (ψ×ι)} {D:ψ->ι->Prop} {s:ν},ju h0 s.heap env->(bs.map (·.1)).Nodup->(∀p∈bs,env.kindOf p.1=γ .local\/env.kindOf p.1=γ .cell)->(∀x v,D x v->dC s.heap env x v/\x∉bs.map (·.1))->
   (∀h' t,ju h0 h' env->(∀x v,D x v\/(x,v)∈bs->dC h' env x v)->Q ⟨⟩ {s with heap:=h',toks:=t})->τ X.M A (forIn bs lA f) Q Er s:=by
 intro bs;induction bs with
 |nil=>intro D s N _ _ hD k;rw[k7];exact ο (k s.heap s.toks N λx v h=>h.elim (λh=>(hD x v h).1) λh=>nomatch h)
 |cons p bs ih=>
  intro D s N nd hb hD k;obtain⟨x,v⟩:=p;rw[i9,hf];have YQ:=dO.mp nd;refine θ (θ (Mq hk N (hb _ (.head _)) λh' t N' va keep=>ο ?_));refine ih (D:=λy w=>D y w\/(y=x/\w=v)) (s:={s with heap:=h',toks:=t}) N' YQ.2 (λp hp=>hb p (.tail _ hp)) (λy w h=>?_) λTY t' N'' kk=>k TY t' N'' λy w h=>kk y w ?_
  ·rcases h with h|⟨rfl,rfl⟩
   ·obtain⟨a1,a2⟩:=hD y w h;exact⟨keep y w (λe=>a2 (e▸ .head _)) a1,λh=>a2 (.tail _ h)⟩
   ·exact⟨va,YQ.1⟩
  ·rcases h with h|h
   ·exact .inl (.inl h)
   ·exact(ab.mp h).elim (λe=>.inl (.inr (du e))) .inr
theorem Ks{scope:Ω}{globals:υ}{binds:List (ψ×ι)}{qual:ψ}{func:Option υ}{code:ι}{builtins:υ}{Q:aa->ν->Prop}(hk:scope.kind= .function)(T_:(scope.names.map (·.1)).Nodup)(hbd:(binds.map (·.1)).Nodup)
  (hb:∀x∈binds,scope.names.lookup x.1=γ .local\/scope.names.lookup x.1=γ .cell)
  (hQ:∀env h' t,env.scope=scope->env.globals=globals->env.builtins=builtins->env.code=code->ju s.heap h' env->(∀x v,(x,v)∈binds->dC h' env x v)->Q env {s with heap:=h',toks:=t}):
  τ X.M A (newFunctionEnv scope globals [] binds qual func code η builtins) Q Er s:=by
 refine θ (uD ?_);refine θ (Ms (N:=scope.names) (λ_ _=>rfl) (λp cs q=>TH λe=>q (TM e)) ⟨dS _ _,⟨_,Heap.Ns.new ..⟩,λ_ _ h=>(nomatch h),λ_ _ _ h=>nomatch h⟩ (λ_ h=>h) λcs h' C all=>?_);refine θ (Mt (env:={scope,locals:=s.heap.objs.size,globals,cells:=cs,qual,func,code,frame:=γ s.heap.objs.size,builtins}) (h0:=s.heap) (D:=λ_ _=>False) hk (λ_ _ _=>rfl) ⟨C.ext,c6 _,C.ns,λx a hm=>?_,C.inj,λx hx=>all x (.inl ?_)⟩ hbd hb (λ_ _ h=>h.elim) λTY t N hv=>ο (hQ _ TY t TK TK TK TK N λx v hm=>hv x v (.inr hm)))
 ·obtain⟨a1,a2,a3,a4⟩:=C.fr x a hm;exact⟨a1,a2,a3,yN T_ a4⟩
 ·refine eI (pz.mp hx) λl1 l2 q _=>?_;exact(q:scope.names=_)▸aI _ (.head _)
structure wK(h:Ξ) (m:py) (m₂:py):Prop where
 i:∀a o,m.I a->h.get? a=γ o->m₂.I a
 j:∀a o,m.J a->h.get? a=γ o->m₂.J a
theorem Mu(h:Go vs=ε):Go (CV.pdict ks vs).kids=ε:=by
 refine(?_:Go (ks.map (λk=>.tup [.int k.1,.int k.2])++vs)=ε);induction ks with
 |nil=>exact h
 |cons k ks ih=>exact ih
theorem Oz(h:SC vs=ε):SC (CV.pdict ks vs).kids=ε:=by
 refine(?_:SC (ks.map (λk=>.tup [.int k.1,.int k.2])++vs)=ε);induction ks with
 |nil=>exact h
 |cons k ks ih=>exact ih
theorem nz(is:cF X o x vs)(q:x.calm=ε):SC x.kids=ε:=by
 induction x using CV.casesOn with
 |pdict ks vs=>exact Oz q
 |inst cc d=>refine(?_:(d.calm&&ε)=ε);exists g_ ..,q
 |tup l=>exact q
 |list l=>exact q
 |dict ks l=>exact q
 |sdict ks l=>exact q
 |lend v=>exact aG is
 |ref n=>exact aG is
 |_=>rfl
theorem qo(is:cF X o x vs)(q:x.solid=ε):Go x.kids=ε:=by
 induction x using CV.casesOn with
 |pdict ks vs=>exact Mu q
 |inst cc d=>refine(?_:(d.solid&&ε)=ε);exists g_ ..,q
 |tup l=>exact q
 |list l=>exact q
 |dict ks l=>exact q
 |sdict ks l=>exact q
 |lend v=>exact aG is
 |ref n=>exact aG is
 |_=>rfl
theorem ch.calm(C:wK h m m₂)(r:ch X h m x v):x.calm=ε->ch X h m₂ x v:=
 ch.rec (motive_1:=λx v _=>x.calm=ε->ch X h m₂ x v) (motive_2:=λx v _=>SC x=ε->ce X h m₂ x v) (λ_=>.none) (λb _=>.bool b) (λi t _=>.int i t) (λi t e _=>.str i t e) (λ_ _ _ q=>nomatch q)
  (λi q e y _ ih z=>.obj (C.i _ _ i e) q e y (ih (nz y z))) (λi q e y _ ih z=>.lend (C.j _ _ i e) q e y (ih (nz y z))) (λ_=>.nil) (λ_ _ a b z=>(by obtain⟨p,q⟩:=(aS _ _).mp z;exact .cons (a p) (b q))) r
theorem ce.calm(C:wK h m m₂)(r:ce X h m x v):SC x=ε->ce X h m₂ x v:=
 ce.rec (motive_1:=λx v _=>x.calm=ε->ch X h m₂ x v) (motive_2:=λx v _=>SC x=ε->ce X h m₂ x v) (λ_=>.none) (λb _=>.bool b) (λi t _=>.int i t) (λi t e _=>.str i t e) (λ_ _ _ q=>nomatch q)
  (λi q e y _ ih z=>.obj (C.i _ _ i e) q e y (ih (nz y z))) (λi q e y _ ih z=>.lend (C.j _ _ i e) q e y (ih (nz y z))) (λ_=>.nil) (λ_ _ a b z=>(by obtain⟨p,q⟩:=(aS _ _).mp z;exact .cons (a p) (b q))) r
theorem ch.solid(C:∀a o,m.I a->h.get? a=γ o->m₂.I a)(r:ch X h m x v):x.solid=ε->ch X h m₂ x v:=
 ch.rec (motive_1:=λx v _=>x.solid=ε->ch X h m₂ x v) (motive_2:=λx v _=>Go x=ε->ce X h m₂ x v) (λ_=>.none) (λb _=>.bool b) (λi t _=>.int i t) (λi t e _=>.str i t e) (λ_ _ _ q=>nomatch q)
  (λi q e y _ ih z=>.obj (C _ _ i e) q e y (ih (qo y z))) (λ_ _ _ _ _ _ z=>nomatch z) (λ_=>.nil) (λ_ _ a b z=>(by obtain⟨p,q⟩:=(aS _ _).mp z;exact .cons (a p) (b q))) r
theorem ce.solid(C:∀a o,m.I a->h.get? a=γ o->m₂.I a)(r:ce X h m x v):Go x=ε->ce X h m₂ x v:=
 ce.rec (motive_1:=λx v _=>x.solid=ε->ch X h m₂ x v) (motive_2:=λx v _=>Go x=ε->ce X h m₂ x v) (λ_=>.none) (λb _=>.bool b) (λi t _=>.int i t) (λi t e _=>.str i t e) (λ_ _ _ q=>nomatch q)
  (λi q e y _ ih z=>.obj (C _ _ i e) q e y (ih (qo y z))) (λ_ _ _ _ _ _ z=>nomatch z) (λ_=>.nil) (λ_ _ a b z=>(by obtain⟨p,q⟩:=(aS _ _).mp z;exact .cons (a p) (b q))) r
def py.lent(m:py):py:={I:=m.I,J:=λa=>m.J a\/a∈m.μ,μ:=[]}
theorem AC.lent(V:AC X h m c):AC X h m.lent []:=
 ⟨rfl,.nil,λ_ _ _ e=>(nomatch e),V.hasI,λ_ i=>(nomatch i),λa i=>⟨λi=>(nomatch i),i.elim (λi=>(V.hasJ a i).2) λi=>(V.hasM a i).2.2⟩,V.gnd,V.sys⟩
theorem qA:wK h m m.lent:=⟨λ_ _ i _=>i,λ_ _ i _=>.inl i⟩
theorem uX{n}(ih:∀{v} {w},ch X h m v w->(ul c n v).calm=ε->ch X h m.lent (ul c n v) w){xs}{vs}(r:ce X h m xs vs):SC (xs.map (ul c n))=ε->ce X h m.lent (xs.map (ul c n)) vs:=
 ce.rec (motive_1:=λ_ _ _=>True) (motive_2:=λxs vs _=>SC (xs.map (ul c n))=ε->ce X h m.lent (xs.map (ul c n)) vs) TQ (λ_=>trivial) (λ_ _=>trivial) (λ_ _ _=>trivial) (λ_ _ _=>trivial) (λ_ _ _ _ _ _=>trivial) (λ_ _ _ _ _ _=>trivial)
  (λ_=>.nil) (λr _ _ ih' z=>(by obtain⟨p,q⟩:=(aS _ _).mp z;exact .cons (ih r p) (ih' q))) r
theorem Mv{n:Nat}(V:AC X h m c)(ih:∀{v:CV} {w:ι},ch X h m v w->(ul c n v).calm=ε->ch X h m.lent (ul c n v) w){j:Nat}{w:ι}(r:ch X h m (.ref j) w)(q:(ul c (n+1) (.ref j)).calm=ε):ch X h m.lent (ul c (n+1) (.ref j)) w:=by
 obtain⟨a,hm,rfl⟩:=r.refV;revert q;refine(?_:(CV.calm (match f8 c j with|some (.list l)=>.lend (.list (l.map (ul c n)))|some (.sdict ks l)=>.lend (.sdict ks (l.map (ul c n)))|some x=>.lend x|.none=>.ref j))=ε->
  ch X h m.lent (match f8 c j with|some (.list l)=>.lend (.list (l.map (ul c n)))|some (.sdict ks l)=>.lend (.sdict ks (l.map (ul c n)))|some x=>.lend x|.none=>.ref j) (.ref a))
 cases e:f8 c j with
 |none=>exact λq=>nomatch q
 |some x=>
  obtain⟨o,vs,ho,is,rs⟩:=V.cell j a x hm (nX e);have am:=av hm;have ns:=(V.hasM a am).2.1;have go:x.calm=ε->ch X h m.lent (.lend x) (.ref a):=λq=>.lend (.inr am) ns ho is (rs.calm qA (nz is q));induction x using CV.casesOn with
  |list l=>exact λq=>.lend (.inr am) ns ho is (uX ih rs q)
  |sdict ks l=>exact λq=>.lend (.inr am) ns ho is (uX ih rs q)
  |_=>exact go
theorem Mw(V:AC X h m c):∀(n:Nat) {v:CV} {w:ι},ch X h m v w->(ul c n v).calm=ε->ch X h m.lent (ul c n v) w:=by
 intro n;induction n with
 |zero=>exact λr q=>r.calm qA q
 |succ n ih=>
  intro v w r q;induction v using CV.casesOn with
  |ref j=>exact Mv V ih r q
  |inst cc d=>
   induction d using CV.casesOn with
   |ref j=>
    obtain⟨hc,a,dd,rfl,ns,ho,rd⟩:=r.inst;cases r with
    |obj i _ _ _ _=>exact .obj (vs:=[.ref dd]) i ns ho ⟨hc,dd,rfl,rfl⟩ (.cons (ih rd q) .nil)
   |_=>exact r.calm qA q
  |_=>exact r.calm qA q
theorem zR(V:AC X h m c){n:Nat}{xs:List CV}{vs:List ι}(r:ce X h m xs vs)(q:SC (xs.map (ul c n))=ε):ce X h m.lent (xs.map (ul c n)) vs:=uX (Mw V n) r q
def py.back(m m':py):py:={I:=m'.I,J:=m.J,μ:=m.μ}
theorem AC.back(V:AC X s.heap m c)(ke:∀a o,s.heap.get? a=γ o->s₁.heap.get? a=γ o)(hI:∀a,m.I a->m₂.I a)(hI':∀a o,s.heap.get? a=γ o->m₂.I a->m.I a)(hμ:∀a o,s.heap.get? a=γ o->a∉m₂.μ)(g:s₁.gens=s.gens)(os:s₁.os=s.os)
  (p:gl No s₁ m₂ s' m') (V':AC X s'.heap m' c'):AC X s'.heap (m.back m') c/\gl No s m s' (m.back m'):=by
 have keep:∀a o,s.heap.get? a=γ o->s'.heap.get? a=γ o:=λa o e=>p.keep a o (ke a o e) (λx=>x) (hμ a o e);have new:∀a o,s.heap.get? a=γ o->m'.I a->m.I a:=λa o e i=>(p.new a o (ke a o e) i).elim (hI' a o e) λi=>absurd i (hμ a o e);have u:Up s.heap m s'.heap (m.back m'):=⟨λa o i e=>⟨p.imm a (hI a i),keep a o e⟩,λa o i e=>⟨i,keep a o e⟩,λ_ _ e=>e⟩;exact⟨⟨V.len,V.nodup,λn a x e1 e2=>(V.cell n a x e1 e2).up u (keep a),V'.hasI,λa i=>(by obtain⟨p,q,o,e⟩:=V.hasM a i;exact⟨λi=>p (new a o e i),q,o,keep a o e⟩),λa i=>(by obtain⟨p,o,e⟩:=V.hasJ a i;exact⟨p,o,keep a o e⟩),V'.gnd,V'.sys⟩,
  λa o e _ _=>keep a o e,λa o e=>⟨o,keep a o e⟩,λa i=>p.imm a (hI a i),λa o e i=>.inl (new a o e i),λ_ _ e=>e,λ_ _ _ i=>i,rfl,p.gens.trans g,p.os.trans os⟩
def py.puts(m:py) (l:List υ):py:={m with I:=λa=>m.I a\/a∈l}
theorem AC.puts{l:List υ}(V:AC X s'.heap m' c)(p:gl No s m s' m')(n:∀a,a∈l->s.heap.get? a=η)(nm:∀a,a∈l->a∉m'.μ)(al:∀a,a∈l->∃o,s'.heap.get? a=γ o):AC X s'.heap (m'.puts l) c/\gl No s m s' (m'.puts l):=
 have u:Up s'.heap m' s'.heap (m'.puts l):=⟨λ_ _ i e=>⟨.inl i,e⟩,λ_ _ i e=>⟨i,e⟩,λ_ _ e=>e⟩
 ⟨⟨V.len,V.nodup,λn a x e1 e2=>(V.cell n a x e1 e2).up u λ_ e=>e,λa i=>i.elim (V.hasI a) (al a),λa i=>(by obtain⟨p,q⟩:=V.hasM a i;exact⟨λk=>k.elim p λk=>nm a k i,q⟩),V.hasJ,V.gnd.up λa o i e=>⟨.inl i,e⟩,V.sys⟩,
  {p with imm:=λa i=>.inl (p.imm a i),new:=λa o e i=>i.elim (p.new a o e) λi=>by rw[n a i]at e;exact pt e}⟩
theorem BB{x:CV}{l:List CV}{o:af}{vs:List ι}(hp:wH x=ζ)(hl:δ l=x.kids.length)(h:cF X o x vs):cF X o (qO x l) vs/\(qO x l).kids=l:=by
 have nil:x.kids=[]->l=[]:=λe=>D6 (by exists hl;exists e;rfl);induction x using CV.casesOn with
 |pdict=>exact eH hp
 |inst cc d=>
  induction l using ar with
  |nil=>cases hl
  |cons e l=>induction l using ar with
   |cons _ _=>cases hl
   |nil=>exact⟨h,rfl⟩
 |tup|list|dict|sdict=>exact⟨h,rfl⟩
 |_=>exact⟨h,(nil TK).symm⟩
theorem d6.len{xs ys:List CV}(f:d6 c xs ys):ys.length=δ xs:=
 d6.rec (motive_1:=λ_ _ _=>True) (motive_2:=λxs ys _=>ys.length=δ xs) (λ_=>trivial) (λ_ _ _ _=>trivial) (λ_ _ _=>trivial) TK (λ_ _ _ ih=>TL (· +1) ih) f
theorem Qu{X:Wd}{h:Ξ}{m m₂:py}{c:ad}(V:AC X h m c)(C:∀a o,m.I a->h.get? a=γ o->m₂.I a)(D:∀a,a∈m.μ->m₂.I a){v w:CV}(f:Fz c v w):∀{u:ι},ch X h m v u->w.solid=ε->ch X h m₂ w u:=
 Fz.rec (motive_1:=λv w _=>∀{u:ι},ch X h m v u->w.solid=ε->ch X h m₂ w u) (motive_2:=λvs ws _=>∀{us:List ι},ce X h m vs us->Go ws=ε->ce X h m₂ ws us)
  (λq u r _=>r.solid C q)
  (λ{n x ys} e hp f ih u r q=>by obtain⟨a,hm,rfl⟩:=r.refV;obtain⟨o,vs,ho,is,rs⟩:=V.cell n a x hm (nX e);have hw:=BB (l:=ys) hp (d6.len f) is;have am:=av hm;exact .obj (D a am) (V.hasM a am).2.1 ho hw.1 (by have z:=qo hw.1 q;rw[hw.2]at z ⊢;exact ih rs z))
  (λ{v ys} f hp ih u r q=>by
   induction r using ch.casesOn with
   |obj i ns ho is rs=>have hw:=BB (l:=ys) hp (d6.len f) is;exact .obj (C _ _ i ho) ns ho hw.1 (by have z:=qo hw.1 q;rw[hw.2]at z ⊢;exact ih rs z)
   |none=>exact .none
   |bool b=>exact .bool b
   |int i t=>exact .int i t
   |str n t e=>exact .str n t e
   |ref n a e=>exact nomatch q
   |lend=>exact nomatch q)
  (λ{us} r _=>by cases r;exact .nil) (λ_ _ a b us r q=>by
   cases r with
   |cons r rs=>exact(on ((aS _ _).mp q) λp q=>.cons (a r p) (b rs q))) f
end
section
variable {X:Wd}{h h' TY:Ξ}{m m' m₁ m₂:py}{c c':ad}{s s' s₁:ν}{env:aa}{l l':L}{k:Nat}{sc:Ω}{Φ:Nat->Fn}{A:ai}{Er:ι->ν->Prop}
def RC(X:Wd) (P:CV->ad->Prop) (s:ν) (m:py) (Q:ι->ν->Prop):Prop:=∀cv c' v s' m',P cv c'->AC X s'.heap m' c'->gl No s m s' m'->ch X s'.heap m' cv v->Q v s'
def mD(X:Wd) (k:Nat) (fa:υ) (d:Fn):Prop:=
 ∀(A:ai) (s:ν) (m:py) (c:ad) (xs:List CV) (vs:List ι) (P:CV->ad->Prop) (Q:ι->ν->Prop) (Er:ι->ν->Prop),Pv (k+1) A->AC X s.heap m c->ce X s.heap m xs vs->d xs c P->RC X P s m Q->
  gC X.M A (.call (.ref fa) ⟨vs,[]⟩) (λr s'=>match r with|.ok (.ret v)=>Q v s'|.ok _=>False|.error e=>Er e s') s
def oN(X:Wd) (k:Nat) (fa:υ) (d:Fn):Prop:=(∃o fd,X.H.get? fa=γ o/\o.data= .func fd)/\mD X k fa d
theorem uY{x:Nat}{ls:List Nat}:pc (ls.map λx=>(x,η)) x=η:=by
 induction ls with
 |nil=>rfl
 |cons y ls ih=>refine(?_:(match ae x y with|true=>η|false=>pc (ls.map λx=>(x,η)) x)=η);exists ih;cases ae x y<;>rfl
theorem BC{ls:List Nat}{n:Nat}{cv:CV}:∀{ps:List Nat} {xs:List CV} {vs:List ι},ce X h m xs vs->pc (ps.zipWith (λx v=>(x,γ v)) xs++ls.map λx=>(x,η)) n=γ cv->n∈ps/\∃v,(nm n,v)∈(ps.map nm).zip vs/\ch X h m cv v:=by
 intro ps;induction ps with
 |nil=>intro xs vs _ e;exact nomatch (uY (ls:=ls)).symm.trans e
 |cons p ps ih=>
  intro xs vs r e;induction r using ce.casesOn with
  |nil=>exact nomatch (uY (ls:=ls)).symm.trans e
  |@cons x v xs vs r rs=>
   have e:(match ae n p with|true=>γ x|false=>pc (ps.zipWith (λx v=>(x,γ v)) xs++ls.map λx=>(x,η)) n)=γ cv:=e;cases q:ae n p with
   |true=>rw[q]at e;replace e:=ω e;subst e;have hz:=aU q;subst hz;exact⟨.head _,v,.head _,r⟩
   |false=>rw[q]at e;obtain⟨h1,w,h2,h3⟩:=ih rs e;exact⟨.tail _ h1,w,.tail _ h2,h3⟩
theorem Kt:∀{ps:List Nat} {vs:List ι},δ vs=ps.length->((ps.map nm).zip vs).map (·.1)=ps.map nm:=λe=>yg (by exists φ ..,a5 e.symm)
theorem gl.hide(p:∀b o,s.heap.get? b=γ o->s₁.heap.get? b=γ o)(g:s₁.gens=s.gens)(os:s₁.os=s.os)(q:gl O s₁ m s' m')(hO:∀a o,s.heap.get? a=γ o->¬O a):gl No s m s' m' where
 keep a o e _ im:=q.keep a o (p a o e) (hO a o e) im
 alive a o e:=q.alive a o (p a o e)
 imm:=q.imm
 new a o e i:=q.new a o (p a o e) i
 pre:=q.pre
 ext a o e m:=q.ext a o (p a o e) m
 j:=q.j
 gens:=q.gens.trans g
 os:=q.os.trans os
structure kE(X:Wd) (fa:υ) (fd:c9) (ps:List Nat) (body:List bY):Prop where
 at':∃o,X.H.get? fa=γ o/\o.data= .func fd
 body:fd.body= .stmts body
 code:X.H.CodeRec fd.code fd.qualname
 co:fd.scope.isCoroutine=ζ
 gen:fd.scope.isGenerator=ζ
 kind:fd.scope.kind= .function
 glob:fd.globals=c8
 blt:fd.builtins=lC
 clo:fd.closure=[]
 nodup:(fd.scope.names.map (·.1)).Nodup
 pn:(ps.map nm).Nodup
 pl:∀p∈ps,p<Do.length
 pk:∀p∈ps,fd.scope.names.lookup (nm p)=γ .local\/fd.scope.names.lookup (nm p)=γ .cell
 bind:∀vs,δ vs=ps.length->bindArgs fd ⟨vs,[]⟩=pure ((ps.map nm).zip vs)
theorem OA{fa:υ}{fd:c9}{d:BT}{body:List bY}(F:kE X fa fd d.ps body)(S:dW X k Φ fd.scope body d.b):mD X k fa (Mine.body Φ d):=by
 intro A s m c xs vs P Q Er R V rs e q;refine f4 F.at' λo ho hd=>?_;obtain⟨hl,e⟩:=e;have hvl:δ vs=d.ps.length:=rs.length.symm.trans hl;refine codeAny_call_function (bp (bp (pw (by decide:0<20)) (dM (ao _ _) 20)) R.d) (V.gnd.hIn _ _ ho) hd F.co F.gen F.body (F.code.keeps V.gnd.hIn) ?_;exists F.bind vs hvl;refine ο ?_;exists F.clo;refine Ks F.kind F.nodup (by exists Kt hvl,F.pn) ?_ λenv h' t e1 e2 e3 e4 N hv=>?_
 ·rintro⟨x,v⟩ hx;obtain⟨p,hp,rfl⟩:=au.mp (yo hx).1;exact F.pk p hp
 ·have V1:AC X h' m c:=V.grow (s':={s with heap:=h',toks:=t}) N.ext;refine⟨V1.gnd.lim,codeAny_func ?_⟩;have fresh:∀a,Fa env a->s.heap.get? a=η:=by
   rintro a (rfl|⟨x,hx⟩)
   ·exact N.newL
   ·exact(N.cells x a hx).1
  have no:∀{a:υ} {P:Prop},Fa env a->(∃o,s.heap.get? a=γ o)->P:=λf z1=>by obtain⟨o,e⟩:=z1;exact by rw[fresh _ f]at e;exact pt e
  have L1:jt X h' m env (d.ps.zipWith (λx v=>(x,γ v)) xs++d.ls.map λx=>(x,η)):=by
   refine⟨by exists e1;exact F.kind,by exact ac e2 (ac F.glob TK),by exact ac e3 (ac F.blt TK),N.ns,λx a hx=>?_,N.inj,N.all,λa ZG=>⟨λi=>no ZG (V.hasI a i),λi=>no ZG (V.hasM a i).2.2,λi=>no ZG (V.hasJ a i).2⟩,λn cv en=>?_,⟨fd.qualname,by exists e4,F.code⟩⟩
   ·obtain⟨_,h2,⟨v,o,ho,hd⟩,_⟩:=N.cells x a hx;exact⟨o,v,ho,hd,h2⟩
   ·obtain⟨hn,v,UH,rv⟩:=BC rs en;exact⟨F.pl n hn,v,hv _ _ UH,rv.up (.grow N.ext)⟩
  have R1:Pv k (A.deeper env):=⟨R.h,by have:=R.d;refine(?_:A.depth+1+2*k+20<=_);exact κ CI this,by have:=R.u;refine(?_:A.units+3+100*(k+1)<=_);exact κ CJ this⟩;have fin:∀{s2 m2},Ty (dJ env) c.length {s with heap:=h',toks:=t} m s2 m2->gl No s m s2 m2:=λP2=>gl.hide (s₁:={s with heap:=h',toks:=t}) N.ext TK TK (P2.full (a5 V.len)) λa ob ha hO=>no (hO.elim .inl λz0=>f4 z0 λx hx _=>.inr ⟨x,hx⟩) ⟨ob,ha⟩;exact S (A.deeper env) env c.length _ {s with heap:=h',toks:=t} m c _ _ _ _ _ R1 e1 ⟨V1,L1⟩ e ⟨λ_ _ _ _ hN O2 P2=>q _ _ _ _ _ hN O2.V (fin P2) .none,λ_ _ _ _ hC=>hC.elim,λ_ _ _ _ _ hW V2 P2 r=>q _ _ _ _ _ hW V2 (fin P2) r⟩
theorem RD{fa:υ}{fd:c9}{d:BT}{body:List bY}(F:kE X fa fd d.ps body)(S:dW X k Φ fd.scope body d.b):oN X k fa (run Φ d):=by
 have B:=OA F S;refine f4 F.at' λo ho hd=>?_;refine⟨⟨o,fd,ho,hd⟩,?_⟩;obtain⟨md,ps,ls,b⟩:=d;induction md with
 |keep=>exact B
 |pure=>
  intro A s m c xs vs P Q Er R V rs e q;refine B A s m.lent [] _ vs _ Q Er R V.lent (zR V rs e.1) e.2 λcv c' v s' m' hP V' p r=>?_;obtain⟨w,hf,hs,hP⟩:=hP;obtain⟨V3,P3⟩:=V.back (s₁:=s) (m₂:=m.lent) (λ_ _ e=>e) (λ_ i=>i) (λ_ _ _ i=>i) (λ_ _ _ i=>nomatch i) TK TK p V';have nl:∀a,a∈m'.μ->s.heap.get? a=η:=λa i=>by
   cases e:s.heap.get? a with
   |none=>rfl
   |some o=>exact nomatch p.ext a o e i
  obtain⟨V4,P4⟩:=V3.puts (l:=m'.μ) P3 nl (λa i k=>by obtain⟨_,_,o,e⟩:=V.hasM a k;rw[nl a i]at e;exact pt e) λa i=>(V'.hasM a i).2.2;exact q _ _ _ _ _ hP V4 P4 (Qu (m₂:=(m.back m').puts m'.μ) V' (λ_ _ i _=>.inl i) (λ_ i=>.inr i) hf r hs)
 |fresh=>
  intro A s m c xs vs P Q Er R V rs e q;refine B A s m.lent [] _ vs _ Q Er R V.lent (zR V rs e.1) e.2 λcv c' v s' m' hP V' p r=>?_;obtain⟨n,x,rfl,hx,hs,hP⟩:=hP;refine on (V.back (s₁:=s) (m₂:=m.lent) (λ_ _ e=>e) (λ_ i=>i) (λ_ _ _ i=>i) (λ_ _ _ i=>nomatch i) TK TK p V') λV3 P3=>?_;obtain⟨a,hm,rfl⟩:=r.refV;obtain⟨o,us,ho,is,U5⟩:=V'.cell n a x hm (nX hx);have am:=av hm;have na:∀{P:Prop},(∃o,s.heap.get? a=γ o)->P:=λz0=>by obtain⟨o,e⟩:=z0;exact nomatch p.ext a o e am
  refine bL (V'.hasM a am) λni ns _=>?_;exact q _ _ _ _ _ hP (V3.cell' ⟨o,us,ho,is,ce.solid (m:=m') (m₂:=m.back m') (λ_ _ i _=>i) U5 hs⟩ (λi=>na (V.hasM a i).2.2) ni (λi=>na (V.hasJ a i).2) ns)
   {P3 with pre:=λn b e=>qy e,ext:=λb o e i=>(aw.mp i).elim id λq=>na ⟨o,Θ.mp q▸e⟩}
   (.ref _ _ (by refine(?_:(m.μ++[a])[c.length]? =_);rw[←V.len,gh (aJ _),hU];rfl))
def wo(X:Wd) (k:Nat) (f:Nat) (d:Fn):Prop:=∃fa,X.mg (nm f)=γ (.ref fa)/\oN X k fa d
theorem Mx(hd:(nm f==("__debug__":ψ))=ζ)(hx:sc.names.lookup (nm f)=γ .globalImplicit)(hn:as.all Da=ε)(F:wo X k f (Φ f))(TZ:dc X (k+1) Φ sc as es):
  lw X (k+1) Φ sc (.Call (.Name (nm f) p) as [] pos) (.call f es):=by
 obtain⟨fa,hm,⟨o,fd,ho,XF⟩,hF⟩:=F;intro A env l s m c P Q Er R hs O h q;refine yi (tw O.F.kind (by unfold Env.kindOf;exists hs,hx) (w_ (O.F.glob▸O.V.gnd.g) hm ?_) hd);refine PySem.Calls.callWith_function (o:=o) (fd:=fd) (ux hn (TZ A env l s m c _ _ _ pos R hs O h λxs c1 vs s1 m1 h1 O1 P1 r1=>⟨⟨O1.V.gnd.hIn _ _ ho,XF⟩,?_⟩));exact zF (hF A s1 m1 c1 xs vs P Q Er R O1.V r1 h1 λcv c' v s' m' hP V' p r=>xL.after q P1 _ _ _ _ _ hP (O1.go p V') p r)
end
section
variable {X:Wd}{h h' TY:Ξ}{m m' m₁ m₂:py}{c c':ad}{s s' s₁:ν}{env:aa}{l l':L}{k:Nat}{sc:Ω}{Φ:Nat->Fn}{A:ai}{Er:ι->ν->Prop}
theorem My(R:Pv (k+2) A):Pv (k+1) (A.under (.builtin "type.__call__" ⟨.ref a::vs,[]⟩)):=by
 refine⟨R.h,?_,?_⟩
 ·have:=R.d;refine(?_:A.depth+Code.weight _+2*(k+1)+20<=_);exists show(HN "type.__call__" ⟨.ref a::vs,[]⟩).weight=1 from rfl,κ CI this
 ·have:=R.u;refine(?_:A.units+Code.cUnits _+100*(k+1+1)<=_);exists show(HN "type.__call__" ⟨.ref a::vs,[]⟩).cUnits=1 from rfl,κ (dM (dq (by decide:1<=3) _) _) (κ CJ this)
theorem Mz{d:Nat}{i:af}(hi:i.isFreed=ζ)(h:Ξ):be h h.objs.size ((h.push bH).push i) bH/\be h (h.push bH).objs.size ((h.push bH).push i) i/\h.objs.size≠(h.push bH).objs.size:=by
 have f1:be h h.objs.size (h.push bH) bH:=be.push TK;have f2:be (h.push bH) (h.push bH).objs.size ((h.push bH).push i) i:=be.push hi;refine⟨⟨λb o e=>f2.k b o (f1.k b o e),f1.no,f2.k _ _ f1.is⟩,⟨λb o e=>f2.k b o (f1.k b o e),?_,f2.is⟩,f2.ne f1.is⟩;cases q:h.get? (h.push bH).objs.size with
 |none=>rfl
 |some o=>exact nomatch f2.no.symm.trans (f1.k _ _ q)
structure oG(X:Wd) (k:Nat) (f cls:Nat) (d:Fn):Prop where
 c:cls<4
 m:X.mg (nm f)=γ (.ref (X.cls cls))
 i:∃fi,kp X.K (.ref (X.cls cls)) "__init__"=γ (γ (.ref fi))/\typeIn X.K (.ref fi)=γ (.type "function")/\oN X k fi d
theorem Ce{attrs:List Nat}(F:iG X attrs){f cls:Nat}{p pos:aK}{as:List χ}{es:Es}{K:List CV->ad->Prop}{Q:ι->ν->Prop}(hd:(nm f==("__debug__":ψ))=ζ)(hx:sc.names.lookup (nm f)=γ .globalImplicit)(hn:as.all Da=ε)(Um:as≠[])
  (N:oG X k f cls (Φ f)) (TZ:dc X (k+2) Φ sc as es) (R:Pv (k+2) A) (hs:env.scope=sc) (O:Ok X env l s m c) (h:iR Φ es l c K)
  (q:∀xs c1 vs s1 m1,K xs c1->Ok X env l s1 m1 c1->gl No s m s1 m1->ce X s1.heap m1 xs vs->∀(B:ai),Pv (k+1) B->∀(d x:υ),be s1.heap d ((s1.heap.push bH).push (dT (X.cls cls) d)) bH->be s1.heap x ((s1.heap.push bH).push (dT (X.cls cls) d)) (dT (X.cls cls) d)->d≠x->∀(fi:υ),mD X k fi (Φ f)->
   gC X.M B (.call (.ref fi) ⟨.ref x::vs,[]⟩) (λr s'=>match r with|.ok (.ret v)=>v= .none/\Q (.ref x) s'|.ok _=>False|.error e=>Er e s') {s1 with heap:=(s1.heap.push bH).push (dT (X.cls cls) d)}):
  τ X.M A (eval (.Call (.Name (nm f) p) as [] pos) env) Q Er s:=by
 obtain⟨fi,hi,hft,hat,hF⟩:=N.i;refine yi (tw O.F.kind (by unfold Env.kindOf;exists hs,hx) (w_ (O.F.glob▸O.V.gnd.g) N.m ?_) hd);induction as using ar with
 |nil=>exact absurd TK Um
 |cons a as=>
  rw[k_,aS]at hn;refine callWith_K (first:=[]) (h₀:=s.heap) O.V.gnd.kIn (F.keep cls N.c) (TZ A env l s m c _ _ _ pos R hs O h λxs c1 vs s1 m1 h1 O1 P1 r1=>⟨O1.V.gnd.kIn,?_⟩) (jY hn.1 _ _) (uw hn.2);exists aB ..;refine bL (Mz (d:=0) (i:=dT (X.cls cls) s1.heap.objs.size) TK s1.heap) λf1 f2 ne=>?_;have Ut:(s1.heap.push bH).objs.size=s1.heap.objs.size+1:=Heap.size_push ..;refine zF (make_core (makes_of O1.V.gnd.kIn (F.makes cls N.c)) (looks_findIn O1.V.gnd.kIn hi) (λself=>bind_fn O1.V.gnd.kIn self hft) (.inl TK) ?_);refine io Ut ?_;refine qc (q xs c1 vs s1 m1 h1 O1 P1 r1 _ (My R) _ _ f1 f2 ne fi hF) λr s' hr=>?_;induction r with
  |error e=>exact hr
  |ok fl=>induction fl<;>exact hr
theorem MA{attrs}(F:iG X attrs){f cls}{p pos}{as}{es}(hd:(nm f==("__debug__":ψ))=ζ)(hx:sc.names.lookup (nm f)=γ .globalImplicit)(hn:as.all Da=ε)(Um:as≠[])
  (N:oG X k f cls (Φ f)) (TZ:dc X (k+2) Φ sc as es):lw X (k+2) Φ sc (.Call (.Name (nm f) p) as [] pos) (.new f cls ζ es):=
 λA env l s m c P Q Er R hs O h q=>Ce F hd hx hn Um N TZ R hs O h λxs c1 vs s1 m1 h1 O1 P1 r1 B RB d x f1 f2 ne fi hF=>by
  have g1:be s1.heap d (s1.heap.push bH) bH\/True:=.inr TQ;obtain⟨O2,P2,r2⟩:=O1.newCell (s':={s1 with heap:=(s1.heap.push bH).push (dT (X.cls cls) d)}) (x:=.sdict [] []) (vs:=[]) f1 TK TK ⟨#[],0,rfl,.nil⟩ .nil;have nx:x∉(m1.cell d).μ:=λi=>(aw.mp i).elim (λi=>(by obtain⟨_,_,o,e⟩:=O1.V.hasM x i;exact f2.ne e TK)) λi=>ne (Θ.mp i).symm;have YR:x≠aF:=(by obtain⟨o,e⟩:=O1.V.sys;exact λq=>f2.ne e q.symm);have V3:=O2.V.imm f2.is nx;have r3:ch X ((s1.heap.push bH).push (dT (X.cls cls) d)) ((m1.cell d).put x) (.inst cls (.ref c1.length)) (.ref x):=.obj (.inr TK) YR f2.is ⟨N.c,d,rfl,rfl⟩ (.cons (r2.up .put) .nil);have P3:gl No s1 m1 {s1 with heap:=(s1.heap.push bH).push (dT (X.cls cls) d)} ((m1.cell d).put x):=
   {P2 with imm:=λb i=>.inl (P2.imm b i),new:=λb o e i=>i.elim (P2.new b o e) λq=>absurd q (f2.ne e)}
  exact qc (hF B {s1 with heap:=(s1.heap.push bH).push (dT (X.cls cls) d)} ((m1.cell d).put x) (c1++[γ (.sdict [] [])]) _ (.ref x::vs) _ (λv s'=>v= .none/\Q (.ref x) s') Er RB V3 (.cons r3 ((r1.up (P2.upN O1.V)).up .put)) h1 λcv c' v s' m' hP V' p r=>by obtain⟨rfl,hP⟩:=hP;refine⟨by cases r with|none=>rfl|obj _ _ _ is _=>exact aG is,?_⟩;have X7:=(P1.trans P3).trans p;exact q _ _ _ _ _ hP (O.go X7 V') X7 (r3.up (p.upN V3))) λ_ _ h=>h
theorem MB{attrs}(F:iG X attrs){f cls}{p pos}{as}{es}(hd:(nm f==("__debug__":ψ))=ζ)(hx:sc.names.lookup (nm f)=γ .globalImplicit)(hn:as.all Da=ε)(Um:as≠[])
  (N:oG X k f cls (Φ f)) (TZ:dc X (k+2) Φ sc as es):lw X (k+2) Φ sc (.Call (.Name (nm f) p) as [] pos) (.new f cls ε es):=
 λA env l s m c P Q Er R hs O h q=>Ce F hd hx hn Um N TZ R hs O h λxs c1 vs s1 m1 h1 O1 P1 r1 B RB d x f1 f2 ne fi hF=>by
  have V1:=O1.V;let s2:ν:={s1 with heap:=(s1.heap.push bH).push (dT (X.cls cls) d)};let m2:py:={I:=λa=>m1.I a\/a=x,J:=m1.lent.J,μ:=[d]};have YR:x≠aF:=let⟨o,e⟩:=V1.sys;λq=>f2.ne e q.symm;have nsd:d≠aF:=let⟨o,e⟩:=V1.sys;λq=>f1.ne e q.symm;have Vl:AC X s2.heap m1.lent []:=V1.lent.grow (s':=s2) f1.k;have Vi:AC X s2.heap (m1.lent.put x) []:=Vl.imm f2.is λi=>nomatch i;have V2:AC X s2.heap m2 [γ (.sdict [] [])]:=Vi.cell' (a:=d) (x:=.sdict [] []) ⟨_,[],f1.is,⟨#[],0,rfl,.nil⟩,.nil⟩ (λi=>nomatch i) (λi=>i.elim (λi=>(by obtain⟨o,e⟩:=V1.hasI d i;exact f1.ne e TK)) ne) (λi=>(by obtain⟨_,o,e⟩:=V1.lent.hasJ d i;exact f1.ne e TK)) nsd;have r3:ch X s2.heap m2 (.inst cls (.ref 0)) (.ref x):=.obj (.inr TK) YR f2.is ⟨N.c,d,rfl,rfl⟩ (.cons (.ref 0 d TK) .nil);have rv:ce X s2.heap m2 xs vs:=ce.up (m:={m2 with μ:=[]}) (m':=m2) ⟨λa o i e=>⟨i,f1.k a o e⟩,λa o i e=>⟨i,f1.k a o e⟩,λn a (e:([]:List υ)[n]? =γ a)=>(nomatch e)⟩ (ce.calm (m₂:={m2 with μ:=[]}) ⟨λ_ _ i _=>.inl i,λ_ _ i _=>.inl i⟩ r1 h1.1);exact qc (hF B s2 m2 [γ (.sdict [] [])] _ (.ref x::vs) _ (λv s'=>v= .none/\Q (.ref x) s') Er RB V2 (.cons r3 rv) h1.2 λcv c' v s' m' hP V' p r=>by
   obtain⟨rfl,hP⟩:=hP;refine⟨by cases r with|none=>rfl|obj _ _ _ is _=>exact aG is,?_⟩;induction c' using ar with
   |nil=>exact aG hP
   |cons oy c'=>
    induction c' using ar with
    |cons _ _=>induction oy<;>exact aG hP
    |nil=>
     induction oy with
     |none=>exact aG hP
     |some y=>
      obtain⟨VX,hP⟩:=hP;have hm:m'.μ[0]? =γ d:=p.pre 0 d TK;have hl:m'.μ.length=1:=V'.len;have dm:=av hm;obtain⟨o,us,ho,is,rs⟩:=V'.cell 0 d y hm TK;have nn:∀a o,s1.heap.get? a=γ o->a∉m2.μ:=λa o e i=>f1.ne e (Θ.mp i);obtain⟨V3,P3⟩:=V1.back (s₁:=s2) (m₂:=m2) f1.k (λ_ i=>.inl i) (λa o e i=>i.elim id λq=>absurd q (f2.ne e)) nn TK TK p V';have d0:s1.heap.get? d=η:=f1.no;obtain⟨V4,P4⟩:=V3.puts (l:=[d]) P3 (λa i=>Θ.mp i▸d0) (λa i k=>by cases Θ.mp i;obtain⟨_,_,o,e⟩:=V1.hasM d k;rw[d0]at e;cases e) λa i=>(by cases Θ.mp i;exact⟨o,ho⟩);have hx':s'.heap.get? x=γ (dT (X.cls cls) d):=p.keep x _ f2.is (λq=>q) λi=>ne (Θ.mp i).symm;have rr:ch X s'.heap ((m1.back m').puts [d]) (.inst cls y) (.ref x):=.obj (.inl (p.imm x (.inr TK))) YR hx' ⟨N.c,d,rfl,rfl⟩
       (.cons (.obj (.inr (.head _)) nsd ho is (ce.solid (m:=m') (m₂:=(m1.back m').puts [d]) (λ_ _ i _=>.inl i) rs VX)) .nil)
      have X7:=P1.trans P4;exact q _ _ _ _ _ hP (O.go X7 V4) X7 rr) λ_ _ h=>h
theorem Ku(h:c_ n vs=ε):c_ n (CV.pdict ks vs).kids=ε:=by
 refine(?_:c_ n (ks.map (λk=>.tup [.int k.1,.int k.2])++vs)=ε);induction ks with
 |nil=>exact h
 |cons k ks ih=>exact ih
theorem uB(is:cF X o x vs)(q:x.hasNot n=ε):c_ n x.kids=ε:=by
 induction x using CV.casesOn with
 |pdict ks vs=>exact Ku q
 |inst cc d=>refine(?_:(d.hasNot n&&ε)=ε);exists g_ ..,q
 |tup l=>exact q
 |list l=>exact q
 |dict ks l=>exact q
 |sdict ks l=>exact q
 |lend v=>exact aG is
 |ref n=>exact aG is
 |_=>rfl
theorem zm(hl:m.μ.length=n+1)(C:∀a,m.I a->m₂.I a)(J:∀a,m.J a->m₂.J a)(M:m₂.μ=m.μ.dropLast)(r:ch X h m x v):x.hasNot n=ε->ch X h m₂ x v:=by
 exact ch.rec (motive_1:=λx v _=>x.hasNot n=ε->ch X h m₂ x v) (motive_2:=λx v _=>c_ n x=ε->ce X h m₂ x v) (λ_=>.none) (λb _=>.bool b) (λi t _=>.int i t) (λi t e _=>.str i t e)
  (λj a e q=>.ref j a (by have ne:j≠n:=λe=>(by rw[e]at q;revert q;refine(?_:(!(ae n n))=ε->_);exists qe ..,λq=>nomatch q);have lt:=(ay.mp e).1;exists M;exists xq;exists TG (by exact by rw[hl]at lt ⊢;exact xT (gn lt) ne),e))
  (λi q e y _ ih z=>.obj (C _ i) q e y (ih (uB y z))) (λi q e y _ ih z=>.lend (J _ i) q e y (ih (uB y z))) (λ_=>.nil) (λ_ _ a b z=>(by obtain⟨p,q⟩:=(aS _ _).mp z;exact .cons (a p) (b q))) r
theorem OB{n x j:Nat}{w:CV}:∀{l:L},rN n x l=ε->pc l j=γ w->j≠x->w.hasNot n=ε:=by
 intro l;induction l with
 |nil=>exact λ_ e=>nomatch e
 |cons p l ih=>
  obtain⟨y,o⟩:=p;intro f e ne;refine on ((aS _ _).mp f) λf1 f2=>?_;have e2:(match ae j y with|true=>o|false=>pc l j)=γ w:=e;clear e;cases q:ae j y with
  |false=>rw[q]at e2;exact ih f2 e2 ne
  |true=>rw[q]at e2;have e3:o=γ w:=e2;clear e2;subst e3;obtain rfl:=aU q;rw[uI λh=>ne h.symm]at f1;exact f1
theorem Qv{n j:Nat}{w:CV}:∀{c:ad},wm n c=ε->c[j]? =γ (γ w)->w.hasNot n=ε:=by
 intro c;induction c generalizing j with
 |nil=>exact λ_ e=>nomatch e
 |cons o c ih=>
  intro f e;refine on ((aS _ _).mp f) λf1 f2=>?_;induction j using b5 with
  |zero=>replace e:=ω e;subst e;exact f1
  |succ j=>exact ih f2 e
theorem Io(hl:m.μ.length=n+1)(C:∀a,m.I a->m₂.I a)(J:∀a,m.J a->m₂.J a)(M:m₂.μ=m.μ.dropLast)(r:ce X h m xs vs):c_ n xs=ε->ce X h m₂ xs vs:=
 ce.rec (motive_1:=λ_ _ _=>True) (motive_2:=λxs vs _=>c_ n xs=ε->ce X h m₂ xs vs) TQ (λ_=>trivial) (λ_ _=>trivial) (λ_ _ _=>trivial) (λ_ _ _=>trivial) (λ_ _ _ _ _ _=>trivial) (λ_ _ _ _ _ _=>trivial)
  (λ_=>.nil) (λr _ _ b z=>(by obtain⟨p,q⟩:=(aS _ _).mp z;exact .cons (zm hl C J M r p) (b q))) r
theorem uy{α:Type}{xs:List α}{n i:Nat}{a:α}(hl:δ xs=n+1)(e:xs.dropLast[i]? =γ a):i<n/\xs[i]? =γ a:=by
 rw[xq,hl,Fj]at e;by_cases q:i<n
 ·rw[TG q]at e;exact⟨q,e⟩
 ·rw[TH q]at e;exact pt e
theorem HD{α:Type}{xs:List α}{n i:Nat}{a:α}(hl:δ xs=n+1)(q:i<n)(e:xs[i]? =γ a):xs.dropLast[i]? =γ a:=by rw[xq,hl,Fj,TG q];exact e
theorem OD{as}{x}{ts}(has:dW X k Φ sc as ts):dW X k Φ sc as (.cons (.frz x) ts):=by
 intro A env fl l s m c N C W Q Er R hs O h q;refine wp h λn en h=>?_;obtain⟨v,ev,⟨hf,hn,hv,ho,hc⟩,h⟩:=TD h;refine TE en λrv el en=>?_;obtain rfl:=zk en;obtain⟨hx,u,va,r⟩:=O.F.var x _ el;obtain⟨a0,hm,rfl⟩:=r.refV;have V:=O.V;have F:=O.F;have am:=av hm;refine bL (V.hasM a0 am) λni ns _=>?_;have hl:m.μ.length=n+1:=V.len.trans hn.symm;let m₂:py:={I:=λa=>m.I a\/a=a0,J:=m.J,μ:=m.μ.dropLast};have sub:∀{a},a∈m₂.μ->a∈m.μ:=λi=>(EI _).subset i;have YO:∀{a},a∈m₂.μ->a≠a0:=λ{a} i e=>by obtain⟨j,hj⟩:=fO.mp i;refine on (uy hl hj) λlt hj=>?_;exact absurd ((x6 (ay.mp hj).1 V.nodup).mp (hj.trans (e▸hm.symm))) (fT lt)
 have C':∀a,m.I a->m₂.I a:=λ_ i=>.inl i;obtain⟨o,us,Wk,is,rs⟩:=V.cell n a0 v hm (nX ev);have V2:AC X s.heap m₂ c.dropLast:=by
  refine⟨by refine(?_:m.μ.dropLast.length=_);exact ac ET (ac ET (ac V.len TK)),V.nodup.sublist (EI _),λj a y e1 e2=>?_,λa i=>i.elim (V.hasI a) λe=>⟨o,e▸Wk⟩,
   λa i=>(on (V.hasM a (sub i)) λp q=>⟨λk=>k.elim p (YO i),q⟩),λa i=>(on (V.hasJ a i) λp q=>⟨λk=>p (sub k),q⟩),V.gnd.up λ_ _ i e=>⟨.inl i,e⟩,V.sys⟩
  have hy:=Qv hc e2;refine on (uy hl e1) λ_ e1=>?_;refine on (uy (n:=n) hn.symm e2) λ_ e2=>?_;obtain⟨o,vs,ho,is,rs⟩:=V.cell j a y e1 e2;exact⟨o,vs,ho,is,Io (m₂:=m₂) hl C' (λ_ i=>i) TK rs (uB is hy)⟩
 have rv':ch X s.heap m₂ v (.ref a0):=.obj (.inr TK) ns Wk is (ce.solid (m:=m) (m₂:=m₂) (λa _ i _=>.inl i) rs hv);have O2:Ok X env (Mine.putL l x v) s m₂ c.dropLast:=by
  refine⟨V2,⟨F.kind,F.glob,F.blt,F.ns,F.cells,F.inj,F.all,λa f=>(bL (F.apart a f) λq1 q2 q3=>⟨λi=>i.elim q1 λe=>q2 (e▸am),λi=>q2 (sub i),q3⟩),λj w e=>?_,F.code⟩⟩;rcases AD e with⟨rfl,rfl⟩|⟨ne,e⟩
  ·exact⟨hx,_,va,rv'⟩
  ·obtain⟨hj,w',va',r'⟩:=F.var j w e;exact⟨hj,w',va',zm (m₂:=m₂) hl C' (λ_ i=>i) TK r' (OB ho e ne)⟩
 exact has A env fl _ s m₂ _ _ _ _ _ _ R hs O2 h (q.after ⟨λ_ _ e _ _=>e,λ_ o e=>⟨o,e⟩,C',λa _ _ i=>i.elim .inl λe=>.inr (e▸am),λj a lt e=>HD hl (bp lt hf) e,λa _ _ i=>sub i,rfl,rfl,rfl⟩)
end
section
variable {X:Wd}{h h' TY:Ξ}{m m' m₁ m₂:py}{c c':ad}{s s' s₁:ν}{env:aa}{l l':L}{k:Nat}{sc:Ω}{Φ:Nat->Fn}{A:ai}{Er:ι->ν->Prop}
inductive bA(h:Ξ) (it:υ) (v:ι):CV->Bool->Nat->List υ->Prop
 |list {l la i}:v= .ref la->h.IsListIter it la i->bA h it v (.list l) ζ i [it]
 |tup {l la i}:v= .ref la->h.IsTupleIter it la i->bA h it v (.tup l) ζ i [it]
 |rng {n i:Nat}:i<=n->IsRangeIter h it (i:Int) ((n:Int) - i) 1->bA h it v (.rng n) ζ i [it]
 |enum {l la} {i:Nat} {Wp old}:v= .ref la->IsEnum h it Wp (i:Int) old->h.IsListIter Wp la i->it≠Wp->bA h it v (.list l) ε i [it,Wp]
theorem bA.keep(p:bA h it v src en i H)(k:∀a o,a∈H->h.get? a=γ o->h'.get? a=γ o):bA h' it v src en i H:=by
 induction p with
 |list e q=>refine f4 q λo ho r=>?_;clear q;exact .list e ⟨o,k _ _ (.head _) ho,r⟩
 |tup e q=>refine f4 q λo ho r=>?_;clear q;exact .tup e ⟨o,k _ _ (.head _) ho,r⟩
 |rng e q=>exact .rng e (k _ _ (.head _) q)
 |enum e q r ne=>obtain⟨o,ho,r⟩:=r;exact .enum e (k _ _ (.head _) q) ⟨o,k _ _ (.tail _ (.head _)) ho,r⟩ ne
theorem bA.has(p:bA h it v src en i H):∀a,a∈H->∃o,h.get? a=γ o:=by
 induction p with
 |list e q=>refine f4 q λo ho r=>?_;clear q;exact λa m=>Θ.mp m▸⟨o,ho⟩
 |tup e q=>refine f4 q λo ho r=>?_;clear q;exact λa m=>Θ.mp m▸⟨o,ho⟩
 |rng e q=>exact λa m=>Θ.mp m▸⟨_,q⟩
 |enum e q r ne=>refine f4 r λo ho r=>?_;clear r;exact λa m=>(ab.mp m).elim (λe=>e▸⟨_,q⟩) λm=>Θ.mp m▸⟨o,ho⟩
structure gS(H:List υ) (s:ν) (m:py) (s':ν) (m':py):Prop where
 keep:∀a o,a∉H->s.heap.get? a=γ o->s'.heap.get? a=γ o
 imm:∀a,m.I a->m'.I a
 new:∀a o,s.heap.get? a=γ o->m'.I a->m.I a
 μ:m'.μ=m.μ
 j:m'.J=m.J
 gens:s'.gens=s.gens
 os:s'.os=s.os
theorem Ty.hid(p:Ty O fl s m s' m')(q:gS H s' m' s₁ m₁)(f:∀a,a∈H->s.heap.get? a=η):Ty O fl s m s₁ m₁ where
 keep a o e no im:=q.keep a o (λm=>by rw[f a m]at e;exact pt e) (p.keep a o e no im)
 alive a o e:=(SZ (p.alive a o e) λo' e'=>⟨o',q.keep a o' (λm=>by rw[f a m]at e;exact pt e) e'⟩)
 imm a i:=q.imm a (p.imm a i)
 new a o e i:=(SZ (p.alive a o e) λo' e'=>p.new a o e (q.new a o' e' i))
 pre n a lt e:=by exists q.μ,p.pre n a lt e
 ext a o e i:=p.ext a o e (q.μ▸i)
 j:=q.j.trans p.j
 gens:=q.gens.trans p.gens
 os:=q.os.trans p.os
theorem gl.hid(p:gl O s m s' m')(q:gS H s' m' s₁ m₁)(f:∀a,a∈H->s.heap.get? a=η):gl O s m s₁ m₁:=((p.f (fl:=m.μ.length)).hid q f).full (aJ _)
theorem gS.up{H:List υ}(q:gS H s m s' m')(p:∀a,a∈H->bf m env a):Up s.heap m s'.heap m':=
 ⟨λa o i e=>⟨q.imm a i,q.keep a o (λk=>(p a k).i i) e⟩,λa o i e=>⟨q.j▸i,q.keep a o (λk=>(p a k).j i) e⟩,λn a e=>q.μ▸e⟩
theorem Ok.hid{H:List υ}(O:Ok X env l s m c)(p:∀a,a∈H->bf m env a)(k:∀b o,b∉H->s.heap.get? b=γ o->s'.heap.get? b=γ o)(g:s'.gens=s.gens)(os:s'.os=s.os):Ok X env l s' m c/\gS H s m s' m:=by
 have Q:gS H s m s' m:=⟨λa o n e=>k a o n e,λ_ i=>i,λ_ _ _ i=>i,rfl,rfl,g,os⟩;have u:=Q.up p;have V:=O.V;have F:=O.F;have k':∀b o,Fa env b->s.heap.get? b=γ o->s'.heap.get? b=γ o:=λb o f e=>k b o (λq=>(p b q).f f) e;have V':AC X s'.heap m c:=⟨V.len,V.nodup,λn b x e1 e2=>(V.cell n b x e1 e2).up u λo=>k b o λq=>(p b q).μ (av e1),λb i=>(by obtain⟨o,q⟩:=V.hasI b i;exact⟨o,(u.i b o i q).2⟩),
  λb i=>(by obtain⟨x,y,o,q⟩:=V.hasM b i;exact⟨x,y,o,k b o (λz=>(p b z).μ i) q⟩),λb i=>(by obtain⟨x,o,q⟩:=V.hasJ b i;exact⟨x,o,(u.j b o i q).2⟩),V.gnd.up u.i,(by obtain⟨o,q⟩:=V.sys;exact⟨o,k _ o (λz=>(p _ z).s TK) q⟩)⟩
 exact⟨⟨V',F.kind,F.glob,F.blt,(by obtain⟨mm,o,es,ep,ho,r⟩:=F.ns;exact⟨mm,o,es,ep,k' _ _ (.inl TK) ho,r⟩),λx b e=>(by obtain⟨o,v,ho,d,ne⟩:=F.cells x b e;exact⟨o,v,k' b o (.inr ⟨x,e⟩) ho,d,ne⟩),F.inj,F.all,F.apart,
  λn cv e=>(by obtain⟨b,v,va,r⟩:=F.var n cv e;exact⟨b,v,va.keep k',r.up u⟩),F.code⟩,Q⟩
theorem uf{target:χ}{it:υ}{v:ι}{o:af}{T:String}{Q:Unit->ν->Prop}(ho:s.heap.get? it=γ o)(hc:o.cls= .type T)(hT:T="list_iterator"\/T="tuple_iterator"\/T="range_iterator")(h:Q () s):
  τ X.M A (ue target (.ref it) v) Q Er s:=by
 have key:∀a:υ,v= .ref a->τ X.M A (do
   let o ←load it
   match o.cls,o.data with
   |.type n,.fields vs=>
    if["enumerate","zip","dict_itemiterator","dict_reverseitemiterator","odict_iterator","itertools.zip_longest","itertools.pairwise"].contains n&&vs[0]?==γ (iD a)then
     rule "for.unpacks-the-owned-tuple"
     updateField it 0 .none
   |_,_=>pure ():aQ Unit) Q Er s:=by
  intro a _;refine θ (uN ho ?_);exists hc;generalize o.data=d;induction d using qf<;>first|exact ο h|skip
  refine(?_:τ X.M A (if(_&&_)=ε then _ else pure ()) Q Er s);refine ac (TH λhh=>?_) (ο h);refine on ((aS _ _).mp hh) λhh _=>?_;rcases hT with rfl|rfl|rfl<;>exact absurd hh (by decide+kernel)
 have go:τ X.M A (ue (.Tuple [] 0 target.pos) (.ref it) v) Q Er s:=by induction v using Value.casesOn<;>first|exact ο h|exact key _ TK
 induction target using cW<;>first|exact ο h|exact go
noncomputable def gL(x:χ):Bool:=ae x.ctorIdx 25
set_option backward.match.sparseCases false in
noncomputable def rR(en:Bool)(v:CV):Option (List CV):=match en with
 |true=>(a9 v).map (fj 0)
 |false=>match v with
  |.list l=>γ l
  |.tup l=>γ l
  |.rng n=>γ (cn n)
  |_=>η
theorem zS(e:nS en c cv=γ xs):∃src,view c cv=γ src/\rR en src=γ xs:=qz e
theorem MC:∀{l:List CV} {j i:Nat},(fj j l)[i]? =γ x->∃y,l[i]? =γ y/\x= .tup [.int ((j+i:Nat):Int),y]:=by
 intro l;induction l with
 |nil=>exact λe=>nomatch e
 |cons y l ih=>
  intro j i e;induction i using b5 with
  |zero=>replace e:=ω e;subst e;exact⟨y,rfl,rfl⟩
  |succ i=>refine f4 (ih (j:=j+1) (i:=i) e) λz h1 h2=>?_;exact⟨z,h1,by rw[h2,bP,b4 1 i]⟩
theorem MD{l}:∀{j:Nat},(fj j l).length=δ l:=by
 induction l with
 |nil=>exact rfl
 |cons y l ih=>exact TL (· +1) ih
theorem zT{n:Nat}:(cn n).length=n:=by unfold cn;exists φ ..,ac (bG ..) TK
theorem Kv{n i:Nat}{x:CV}(e:(cn n)[i]? =γ x):i<n/\x= .int (i:Int):=by have lt:=(ay.mp e).1;rw[zT]at lt;unfold cn at e;rw[aA,jS lt]at e;exact⟨lt,(ω e).symm⟩
theorem vB{α:Type}{xs:List α}{us:List ι}{i:Nat}(hl:δ xs=us.length)(e:xs[i]? =η):us.toArray[i]? =η:=by rw[jR,g6,←hl];exact g6.mp e
def CN(X:Wd) (A:ai) (target:χ) (it:υ) (N:ν->Prop) (K:ι->ν->Prop) (E':ι->ν->Prop) (r:Option ι) (s₁:ν):Prop:=
 match r with|none=>N s₁|some v=>τ X.M A (ue target (.ref it) v) (λ_ V5=>K v V5) E' s₁
def sv(H:List υ) (h h':Ξ):Prop:=∀b o,b∉H->h.get? b=γ o->h'.get? b=γ o
theorem vQ(sb:Heap.SameBut a h h'):sv [a] h h':=λb o nb e=>(sb.2 b λq=>nb (q▸ .head _)).trans e
theorem vR(eb:Heap.ExtBut a h h'):sv [a] h h':=λb o nb e=>eb b o (λq=>nb (q▸ .head _)) e
def RE(X:Wd) (env:aa) (l:L) (c:ad) (s:ν) (m:py) (it:υ) (v:ι) (K:ι->ν->Prop) (xs:List CV) (src:CV) (en:Bool) (i:Nat) (H:List υ):Prop:=
 ∀x,xs[i]? =γ x->∀u s₁ m₁,Ok X env l s₁ m₁ c->gS H s m s₁ m₁->(∀a,a∈H->bf m₁ env a)->ch X s₁.heap m₁ x u->bA s₁.heap it v src en (i+1) H->K u s₁
def Sy(X:Wd) (s:ν) (m:py) (it:υ) (v:ι) (K:ι->ν->Prop) (xs:List CV) (src:CV) (en:Bool) (i:Nat) (H:List υ):Prop:=
 ∀x,xs[i]? =γ x->∀u h' t,ch X s.heap m x u->sv H s.heap h'->bA h' it v src en (i+1) H->K u {s with heap:=h',toks:=t}
def Sz(s:ν) (N:ν->Prop) (xs:List CV) (i:Nat) (H:List υ):Prop:=xs[i]? =η->∀h',sv H s.heap h'->N {s with heap:=h'}
@[elab_as_elim] theorem OE{P:χ->Prop}{x:χ}(h:gL x=ε)(k:∀a b p,P (.Tuple a b p)):P x:=by induction x using cW<;>first|exact Db h|exact k _ _ _
theorem BD{target}{it}{v}{cv src}{en}{i}{H}{xs}{N:ν->Prop}{K:ι->ν->Prop}{E':ι->ν->Prop}(hh:A.handled=η)(ht:en=ε->gL target=ε)
  (O:Ok X env l s m c) (r:ch X s.heap m cv v) (hv:view c cv=γ src) (hi:rR en src=γ xs) (p:bA s.heap it v src en i H) (hid:∀a,a∈H->bf m env a)
  (U8:RE X env l c s m it v K xs src en i H)
  (X8:xs[i]? =η->∀s₁,Ok X env l s₁ m c->gS H s m s₁ m->N s₁):τ X.M A (mq (.ref it)) (CN X A target it N K E') Er s:=by
 have S:=r.see O.V hv;have kN:Sz s N xs i H:=λhg h' kb=>(on (O.hid (s':={s with heap:=h'}) hid kb TK TK) λO' Q'=>X8 hg _ O' Q');have fin:Sy X s m it v K xs src en i H:=λx hg u h' t ru kb p'=>(on (O.hid (s':={s with heap:=h',toks:=t}) hid kb TK TK) λO' Q'=>U8 x hg u _ m O' Q' hid (ru.up (Q'.up hid)) p');clear X8 r hv;induction p with
 |@list WI la i e q=>
  clear U8 hid;cases hi;subst e;obtain⟨a,o,vs,ea,_,h1,⟨j,rfl⟩,rs⟩:=S.list;cases ea;have hL:s.heap.IsList la vs.toArray:=⟨_,h1,rfl,j,rfl⟩;cases hg:xs[i]? with
  |some x=>refine f4 (rs.get? hg) λu hu ru=>?_;refine xp q hL (jR.trans hu) λh' q' sb=>?_;refine KT (id q') λo ho hc _=>?_;exact uf ho hc (.inl TK) (fin x hg u h' _ ru (vQ sb) (.list TK q'))
  |none=>exact xB hh q hL (vB rs.length hg) λh' eb=>kN hg h' (vR eb)
 |@tup WI la i e q=>
  clear U8 hid;cases hi;subst e;obtain⟨a,o,vs,ea,_,h1,⟨j,rfl⟩,rs⟩:=S.tup;cases ea;have hL:s.heap.IsTuple la vs.toArray:=⟨_,h1,rfl,j,rfl⟩;cases hg:xs[i]? with
  |some x=>refine f4 (rs.get? hg) λu hu ru=>?_;refine wpAny_pyNext_tuple_item q hL (jR.trans hu) λh' q' sb=>?_;refine KT (id q') λo ho hc _=>?_;exact uf ho hc (.inr (.inl TK)) (fin x hg u h' _ ru (vQ sb) (.tup TK q'))
  |none=>exact wpAny_pyNext_tuple_end hh q hL (vB rs.length hg) λh' eb=>kN hg h' (vR eb)
 |@rng n i e q=>
  clear U8 hid S;replace hi:=ω hi;subst hi;cases hg:(cn n)[i]? with
  |some x=>obtain⟨lt,rfl⟩:=Kv hg;refine wpAny_pyNext_range_item q (Int.sub_pos_of_lt (aX.mpr lt)) λh' q' sb=>?_;exact uf q' TK (.inr (.inr TK)) (fin _ hg _ h' _ (.int _ _) (vQ sb) (.rng lt (by rw[show(n:Int) - ((i+1:Nat):Int)=(n:Int) - i - 1 from Int.sub_sub ..▸rfl];exact q')))
  |none=>have lt:=g6.mp hg;rw[zT]at lt;exact wpAny_pyNext_range_end hh q (Int.sub_nonpos_of_le (d_.mpr lt)) λh' eb=>kN hg h' (vR eb)
 |@enum WI la i Wp old e q r' ne=>
  clear fin;replace hi:=ω hi;subst hi;subst e;obtain⟨a,o,vs,ea,_,h1,⟨j,rfl⟩,rs⟩:=S.list;replace ea:=Value.ref.inj ea;subst ea;have hL:s.heap.IsList la vs.toArray:=⟨_,h1,rfl,j,rfl⟩;have two:∀{b:υ},b∉[it,Wp]->b≠it/\b≠Wp:=λn=>⟨λq=>n (q▸ .head _),λq=>n (q▸ .tail _ (.head _))⟩;cases hg:(fj 0 WI)[i]? with
  |some x=>
   clear kN;obtain⟨y,hy,rfl⟩:=MC hg;refine f4 (rs.get? hy) λu hu ru=>?_;refine wpAny_pyNext_enum_item q r' hL (jR.trans hu) ne λh' q' r'' hT Ut ke=>?_;have nT:s.heap.get? s.heap.objs.size=η:=c6 _;have Um:∀a,a∈[it,Wp]->a≠s.heap.objs.size:=λa mm e=>(by refine SZ ((bA.enum (l:=WI) (la:=la) TK q r' ne).has a mm) λo ho=>?_;rw[e,nT]at ho;exact pt ho);refine OE (P:=λtarget=>CN X A target it N K E' _ _) (ht TK) λ_ _ _=>?_;refine wpAny_letOwnedTupleGo_enum q' λh2 q2 ZH=>?_;refine on (O.hid (s':={s with heap:=h2,toks:=s.toks+1}) hid (λb o nb e=>by rw[ZH.2 b (two nb).1];exact ke b o (two nb).1 (two nb).2 e) TK TK) λO2 Q2=>?_;have aT:=O.apart_new nT;have hT2:=(ZH.2 s.heap.objs.size (λq=>Um it (.head _) q.symm)).trans hT;have O3:=O2.adopt aT hT2;refine f4 r'' λol YS rl=>?_;clear r'';refine U8 _ hg _ _ _ O3 {Q2 with imm:=λa i=>.inl i,new:=λa o e i=>i.elim id λq=>(by rw[q,nT]at e;exact pt e),μ:=rfl,j:=rfl}
    (λa mm=>let p:=hid a mm;⟨λi=>i.elim p.i (Um a mm),p.μ,p.j,p.s,p.f⟩) ?_ (.enum (old:=u) TK (by rw[show((i+1:Nat):Int)=(i:Int)+1 from rfl];exact q2) ⟨ol,by rw[ZH.2 Wp (λq=>ne q.symm)];exact YS,rl⟩ ne)
   rw[az];exact .obj (vs:=[.int i s.toks,u]) (.inr TK) aT.s hT2 ⟨0,rfl⟩ (.cons (.int _ _) (.cons ((ru.up (Q2.up hid)).up .put) .nil))
  |none=>have U9:WI[i]? =η:=g6.mpr (by have:=g6.mp hg;rw[MD]at this;exact this);exact wpAny_pyNext_enum_end hh q r' hL (vB rs.length U9) λh' eb=>kN hg h' λb o nb e=>eb b o (two nb).2 e
def ku(X:Wd) (k:Nat) (Φ:Nat->Fn) (sc:Ω) (en:Bool) (ast:χ) (ea:Mine.E):Prop:=
 ∀(A:ai) (env:aa) (l:L) (s:ν) (m:py) (c:ad) (K:CV->List CV->ad->Prop) (Q:ι->ν->Prop) (Er:ι->ν->Prop),Pv k A->env.scope=sc->Ok X env l s m c->(wE Φ ea l c λv c=>ld (nS en c v) λxs=>K v xs c)->
  (∀cv xs src c' a v H s' m',K cv xs c'->Ok X env l s' m' c'->gl No s m s' m'->ch X s'.heap m' cv v->view c' cv=γ src->rR en src=γ xs->bA s'.heap a v src en 0 H->(∀a,a∈H->bf m' env a)->(∀a,a∈H->s.heap.get? a=η)->Q (.ref a) s')->
  τ X.M A (eval ast env) (λx s₁=>τ X.M A (pyIter x) Q Er s₁) Er s
theorem gl.was_none(p:gl O s m s' m')(n:s'.heap.get? a=η):s.heap.get? a=η:=by
 cases q:s.heap.get? a with
 |none=>rfl
 |some o=>refine SZ (p.alive a o q) λo' e=>?_;rw[n]at e;exact pt e
theorem Qw(ha:lw X k Φ sc ast ea):ku X k Φ sc ζ ast ea:=by
 intro A env l s m c K Q Er R hs O h q;refine ha A env l s m c _ _ _ R hs O h λcv c1 v s1 m1 h1 O1 P1 r1=>?_;refine wp h1 λxs ei h1=>?_;refine f4 (zS ei) λsrc hv hi=>?_;have S:=r1.see O1.V hv;have X9:s1.heap.get? s1.heap.objs.size=η:=c6 _;have go:∀(ob:af),bA (s1.heap.push ob) s1.heap.objs.size v src ζ 0 [s1.heap.objs.size]->Q (.ref s1.heap.objs.size) {s1 with heap:=s1.heap.push ob}:=λob it=>by refine on (O1.grow (s':={s1 with heap:=s1.heap.push ob}) (dS _ _) TK TK) λO' P'=>?_;exact q _ _ _ _ _ _ _ _ _ h1 O' (P1.trans P') (r1.up (P'.upN O1.V)) hv hi it (λa i=>Θ.mp i▸O1.apart_new X9) λa i=>Θ.mp i▸P1.was_none X9
 induction src using CV.casesOn with
 |list WI=>obtain⟨a,o,vs,rfl,_,h1,⟨j,rfl⟩,rs⟩:=S.list;exact tV (items:=vs.toArray) ⟨_,h1,rfl,j,rfl⟩ (go _ (.list TK ⟨_,Heap.get?_push_size _ TK,rfl,rfl⟩))
 |tup WI=>obtain⟨a,o,vs,rfl,_,h1,⟨j,rfl⟩,rs⟩:=S.tup;exact wpAny_pyIter_tuple (items:=vs.toArray) ⟨_,h1,rfl,j,rfl⟩ (go _ (.tup TK ⟨_,Heap.get?_push_size _ TK,rfl,rfl⟩))
 |rng n=>obtain⟨a,o,rfl,h1,hn,t1,t2,t3,rfl⟩:=S.rng;refine wpAny_pyIter_range h1 (y7 hn) (go _ (.rng (cN _) ?_));exists uH ..;exists show(n:Int) - ((0:Nat):Int)=n from HI _ ..,Heap.get?_push_size _ TK
 |_=>exact pt hi
theorem ME(hd:(x==("__debug__":ψ))=ζ)(hx:sc.names.lookup x=γ .globalImplicit)(hm:X.mg x=η)(hb:X.mb x=γ (.type "enumerate"))(hn:Da ast=ε)
  (ha:lw X k Φ sc ast ea):ku X k Φ sc ε (.Call (.Name x p) [ast] [] pos) ea:=by
 intro A env l s m c K Q Er R hs O h q;refine tZ (.inr ⟨_,rfl⟩) hd hx hm hb (by exists k_;exists hn;rfl) hs O ?_;exists CM hn ..;refine jP (ha A env l s m c _ _ _ R hs O h λcv c1 v s1 m1 h1 O1 P1 r1=>ο ?_);refine wp h1 λxs ei h1=>?_;refine f4 (zS ei) λsrc hv hi=>?_;obtain⟨WI,e1,rfl⟩:=map_some (show(a9 src).map (fj 0)=γ xs from hi);obtain rfl:=gu e1;obtain⟨a,o,vs,rfl,_,Uk,⟨j,rfl⟩,rs⟩:=(r1.see O1.V hv).list;refine PySem.call_enumerate_list (items:=vs.toArray) ⟨_,Uk,rfl,j,rfl⟩ λh' he hl Ut ke=>FJ he ?_;have X9:∀a,a∈[s1.heap.objs.size+1,s1.heap.objs.size]->s1.heap.get? a=η:=λa i=>by
  cases q:s1.heap.get? a with
  |none=>rfl
  |some o=>
   have lt:=Heap.lt_size q;rcases ab.mp i with rfl|i
   ·exact absurd lt Nat.not_succ_lt_self
   ·have hz:=Θ.mp i;subst hz;exact absurd lt (fS _)
 refine on (O1.grow (s':={s1 with heap:=h'}) ke TK TK) λO' P'=>?_;exact q _ _ _ _ _ _ _ _ _ h1 O' (P1.trans P') (r1.up (P'.upN O1.V)) hv TK (.enum TK he hl (Nat.succ_ne_self _)) (λa i=>O1.apart_new (X9 a i)) λa i=>P1.was_none (X9 a i)
theorem zU(e:ct c c' cv):view c' cv=view c cv:=by
 induction cv using CV.casesOn with
 |ref n=>exact e
 |_=>rfl
theorem Ty.apart(p:bf m env a)(ho:s.heap.get? a=γ o)(q:Ty O fl s m s' m'):bf m' env a:=
 ⟨λi=>(q.new a o ho i).elim p.i p.μ,λi=>p.μ (q.ext a o ho i),λi=>p.j (q.j▸i),p.s,p.f⟩
structure oO(X:Wd) (env:aa) (fl:Nat) (s:ν) (m:py) (s₁:ν) (m₁:py) (a:υ) (v:ι) (cv src:CV) (en:Bool) (H:List υ) (G:Nat->L->ad->Prop) (TV:ν) (Ub:L) (m₂:py) (c₂:ad) (i:Nat):Prop where
 ok:Ok X env Ub TV m₂ c₂
 aft:Ty (dJ env) fl s m TV m₂
 up:Up s₁.heap m₁ TV.heap m₂
 vw:view c₂ cv=γ src
 it:bA TV.heap a v src en i H
 hid:∀a,a∈H->bf m₂ env a
 go:G i Ub c₂
theorem vS(ow:dJ env b):Fa env b:=ow.elim .inl λz0=>f4 z0 λx hx _=>.inr ⟨x,hx⟩
theorem oO.turn(I:oO X env fl s m s₁ m₁ a v cv src en H G TV Ub m₂ c₂ i)(UL:Ok X env l₁ s₁ m₁ c₁)(hv:view c₁ cv=γ src)
  (Ul:Ty (dJ env) fl s m TX Ua) (Uz:gS H TV m₂ TX Ua) (Uq:∀a,a∈H->bf Ua env a) (UN:bA TX.heap a v src en (i+1) H) (Ue:Ok X env Vo TX Ua U7) (UA:Ok X env Wq UD Vp Xa) (UK:gl (fD ζ env) TX Ua UD Vp)
  (h:ct c₁ UT cv/\G (i+1) V6 UT) (UU:Ok X env V6 Uo U' UT) (Ug:Ty (dJ env) (fl+c₁.length) UD Vp Uo U'):oO X env fl s m s₁ m₁ a v cv src en H G Uo V6 U' UT (i+1):=
 have Xb:=(I.up.trans (Uz.up I.hid)).trans (Ue.upL UK);have WJ:bA UD.heap a v src en (i+1) H:=UN.keep λb o mm e=>UK.keep b o e (λow=>(Uq b mm).f (rj ow)) (Uq b mm).μ;have Vq:∀a,a∈H->bf Vp env a:=λa mm=>(SZ (UN.has a mm) λo ho=>(Uq a mm).keep ho UK)
 ⟨UU,(Ul.trans UK.stL).trans (Ug.weak (λ_ _ _ h=>h) (ao _ _)),
  ⟨λb o ib eb=>(on (Xb.i b o ib eb) λi4 e4=>⟨Ug.imm b i4,Ug.keep b o e4 (λow=>(UA.F.apart b (vS ow)).1 i4) λmm=>(UA.V.hasM b mm).1 i4⟩),
   λb o ib eb=>(by obtain⟨i4,e4⟩:=Xb.j b o ib eb;exact⟨Ug.j▸i4,Ug.keep b o e4 (λow=>(UA.F.apart b (vS ow)).2.2 i4) (UA.V.hasJ b i4).1⟩),
   λn b eb=>Ug.pre n b (bp (ay.mp eb).1 (by exists UL.V.len,eZ _ _)) (Xb.μ n b eb)⟩,
  (zU h.1).trans hv,WJ.keep λb o mm e=>Ug.keep b o e (λow=>(Vq b mm).f (vS ow)) (Vq b mm).μ,λa mm=>(SZ (WJ.has a mm) λo ho=>(Ug.apart (Vq a mm) ho)),h.2⟩
theorem Qx{sm:ad->Prop}{f:CV->L->ad->(L->ad->Prop)->Prop}{xs}{N:L->ad->Prop}{B:Prop}(h:ZB sm f xs l c N)
  (k:∀G:Nat->L->ad->Prop,G 0 l c->(∀i x,xs[i]? =γ x->∀l c,G i l c->f x l c λl c=>sm c/\G (i+1) l c)->(∀i,xs[i]? =η->∀l c,G i l c->N l c)->B):B:=
 k (λi l c=>ZB sm f (xs.drop i) l c N) h (λi x hx l c e=>by
  obtain⟨T6,rfl⟩:=ay.mp hx;rw[iX T6]at e;exact e) λi hx l c e=>by
  rw[mY (g6.mp hx)]at e;exact e
theorem Qy{target iter}{b}{pos}{t}{en}{it}{sb}(hf:∀(env:aa) x,m9 iter env x=pure x)(ht:en=ε->gL target=ε)
  (hi:ku X k Φ sc en iter it) (ha:fE X k Φ sc ζ target t) (hb:dW X k Φ sc b sb):bz X k Φ sc (.For target iter b [] pos) (.for t en it sb):=by
 intro A env fl l s m c N C W Q Er R hs O h q;refine wpAny_For (hi A env l s m c (λcv xs c₁=>ZB (λc'=>ct c₁ c' cv) (λx l c' K=>wT Φ t x l c' λl c'=>fn Φ sb (fl+c₁.length) l c' K K W) xs l c₁ N) _ _ R hs O h ?_) (hf env);intro cv xs src c₁ a v H s₁ m₁ hg UL US ZI hv hi it₁ Vr fr;refine Qx hg λG g0 gs ge=>?_;clear hg h;refine codeAny_forLoop_any (λn TV=>∃Ub m₂ c₂ i,n=δ xs - i/\oO X env fl s m s₁ m₁ a v cv src en H G TV Ub m₂ c₂ i) ?_ (δ xs - 0) ⟨l,m₁,c₁,0,rfl,UL,US.st,.refl,hv,it₁,Vr,g0⟩;rintro n TV ⟨Ub,m₂,c₂,i,rfl,I⟩;refine BD R.h ht I.ok (ZI.up I.up) I.vw hi I.it I.hid ?_ ?_
 ·intro x hx u TX Ua Ue Uz Uq ru UN;have Ul:=I.aft.hid Uz fr;refine ha A env Ub TX Ua c₂ _ _ _ _ _ R hs Ue ru (gs i x hx _ _ I.go) λWq Xa UD Vp Ur UA UK=>?_;have fin:∀{V6 UT Uo U'},(ct c₁ UT cv/\G (i+1) V6 UT)->Ok X env V6 Uo U' UT->Ty (dJ env) (fl+c₁.length) UD Vp Uo U'->∃mm,mm<δ xs - i/\∃Ub m₂ c₂ i,mm=δ xs - i/\oO X env fl s m s₁ m₁ a v cv src en H G Uo Ub m₂ c₂ i:=λUj UU Ug=>⟨δ xs - (i+1),xJ _ _ (ay.mp hx).1,_,_,_,i+1,rfl,I.turn UL hv Ul Uz Uq UN Ue UA UK Uj UU Ug⟩;exact hb A env _ Wq UD Vp Xa _ _ _ _ _ R hs UA Ur ⟨λ_ _ _ _ Uj UU Ug=>fin Uj UU Ug,λ_ _ _ _ Uj UU Ug=>fin Uj UU Ug,
   λ_ _ _ _ _ Uj ZJ Ug r=>q.ret _ _ _ _ _ Uj ZJ ((Ul.trans UK.stL).trans (Ug.weak (λ_ _ _ h=>h) (ao _ _))) r⟩
 ·exact λhx TX Ue Uz=>yr (q.next _ _ _ _ (ge i hx _ _ I.go) Ue (I.aft.hid Uz fr))
end
section
variable {X:Wd}{h h' TY:Ξ}{m m' m₁ m₂ m₀:py}{c c' c₀:ad}{s s' s₁ s₀:ν}{env TU:aa}{l l':L}{k:Nat}{sc:Ω}{Φ:Nat->Fn}{A:ai}{Er:ι->ν->Prop}
noncomputable def nY(e elt:χ)(gens:List bR)(d:Nat)(acc:ι)(env:aa):aQ Unit:=match gens[d+1]? with
 |some g'=>do
  let x ←eval g'.iter env
  jr g'.iter.pos
  let x ←if g'.is_async != 0 then foldedIterable g'.iter x else m9 g'.iter env x
  let _ ←runOwn (.compStart e (d+1) (←eB [x] (if g'.is_async != 0 then asyncIter x else pyIter x)) acc env) env
 |none=>do let _ ←call (.builtin "list.append") [acc,←eval elt env]
theorem Ip{elt:χ}{gens:List bR}{scope:Ω}{pos:aK}{d:Nat}{it acc:ι}{target iter:χ}{ifs:List χ}{Q:Fin->ν->Prop}(hg:gens[d]? =γ ⟨target,iter,ifs,0⟩)(Wc:∀g',gens[d+1]? =γ g'->g'.is_async=0)
  (h:τ X.M A (mq it) (λr s₁=>match r with
   |none=>Q (.done .next) s₁
   |some v=>τ X.M A (ue target it v) (λ_ V5=>τ X.M A (assign target env v) (λ_ TV=>
     τ X.M A (forIn ifs ε λc r=>if r=ε then do let ok ←ox c env (eval c env);pure (jX ok)else pure (jX r)) (λok TX=>
      if ok=ε then τ X.M A (nY (.ListComp elt gens scope pos) elt gens d acc env) (λ_ UD=>Q (.again (.compLoop (.ListComp elt gens scope pos) d it acc env)) UD) Er TX
      else Q (.again (.compLoop (.ListComp elt gens scope pos) d it acc env)) TX) Er TV) Er V5) Er s₁) Er s):
  τ X.M A (compTurn (.ListComp elt gens scope pos) d it acc env) Q Er s:=by
 unfold compTurn;simp only[hg];refine θ (aV (θ (cj h (λr s₁ Ud=>?_) λ_ _ h'=>h')));induction r with
 |none=>exact ο Ud
 |some v=>
  refine θ (cj Ud (λ_ TV Ui=>?_) λ_ _ h'=>h');refine θ (cj Ui (λ_ TX Ux=>θ (cj Ux (λok UD Ur=>?_) λ_ _ h'=>h')) λ_ _ h'=>h');induction ok with
  |false=>exact ο Ur
  |true=>
   simp only[if_true]at Ur ⊢;unfold nY at Ur;split
   ·rename_i g' U9;rw[U9]at Ur
    first
     |exact θ (cj Ur (λ_ Uo Uj=>ο Uj) λ_ _ h'=>h')
     |(have:=θ (f:=λ_=>again (.compLoop (.ListComp elt gens scope pos) d it acc env)) (cj Ur (λ_ Uo Uj=>ο (Q:=Q) (E:=Er) Uj) λ_ _ h'=>h');have ha:(g'.is_async != 0)=ζ:=(by exists Wc g' U9;rfl);simp only[ha,jT,if_false,bind_assoc,pure_bind]at this ⊢;exact this)
   ·rename_i U9;rw[U9]at Ur
    first
     |exact θ (cj Ur (λ_ Uo Uj=>ο Uj) λ_ _ h'=>h')
     |(have:=θ (f:=λ_=>again (.compLoop (.ListComp elt gens scope pos) d it acc env)) (cj Ur (λ_ Uo Uj=>ο (Q:=Q) (E:=Er) Uj) λ_ _ h'=>h');simpa only[bind_assoc,pure_bind]using this)
theorem Iq{R:Bool->ν->Prop}{cs:List χ}(h:R ζ s):τ X.M A (forIn cs ζ λc r=>if r=ε then do let ok ←ox c env (eval c env);pure (jX ok)else pure (jX r)) R Er s:=by
 induction cs with
 |nil=>exact ο h
 |cons c cs ih=>refine ac (i9 ..) ?_;exact θ (ο ih)
theorem MF{cs:List χ}{es:Es}(r:cy X k Φ sc cs es):∀{s:ν} {m:py} {c:ad} {P:Bool->ad->Prop} {Q:Bool->ν->Prop},Pv k A->env.scope=sc->Ok X env l s m c->cx Φ es l c P->(∀b c' s' m',P b c'->Ok X env l s' m' c'->gl No s m s' m'->Q b s')->
  τ X.M A (forIn cs ε λc r=>if r=ε then do let ok ←ox c env (eval c env);pure (jX ok)else pure (jX r)) Q Er s:=by
 induction r with
 |nil=>exact λR hs O h q=>ο (q _ _ _ _ h O .refl)
 |@cons a ea as es ha hat hr ih=>
  intro s m c P Q R hs O h q;exists i9 ..;exists TG TK ..;refine θ (θ (hat A env l s m c (λ_ t c=>br t (cx Φ es l c P) (P ζ c)) _ _ R hs O h λ_ t c1 s1 m1 _ h1 O1 P1=>ο ?_));induction t with
  |true=>exact ih R hs O1 h1 λb c2 s2 m2 h2 O2 P2=>q _ _ _ _ h2 O2 (P1.trans P2)
  |false=>exact Iq (q _ _ _ _ h1 O1 P1)
inductive mL(X:Wd) (k:Nat) (Φ:Nat->Fn) (sc:Ω):List bR->χ->Gs->Prop
 |last {elt:χ} {a:Mine.E}:lw X k Φ sc elt a->mL X k Φ sc [] elt (.last a)
 |cons {target iter:χ} {ifs:List χ} {rest:List bR} {elt:χ} {t:T} {en:Bool} {it:Mine.E} {es:Es} {gs:Gs}:fE X k Φ sc ε target t->(en=ε->gL target=ε)->ku X k Φ sc en iter it->
   (∀(env:aa) x,m9 iter env x=pure x)->cy X k Φ sc ifs es->mL X k Φ sc rest elt gs->mL X k Φ sc (⟨target,iter,ifs,0⟩::rest) elt (.cons t en it es gs)
structure cH(X:Wd) (TU:aa) (D:υ) (l:L) (s:ν) (m:py) (c:ad) (rs:List CV):Prop where
 ok:Ok X TU l s m c
 acc:∃vs n,IsL s.heap D vs.toArray n/\ce X s.heap m rs vs
 hid:bf m TU D
def OC(TU:aa) (D:υ) (a:υ):Prop:=a=TU.locals\/a=D
theorem OC.of{D:υ}{a:υ}(h:fD ε TU a):OC TU D a:=h.elim .inl λh=>nomatch h.1
theorem cH.step{D:υ}{rs:List CV}{O:υ->Prop}(p:cH X TU D l s m c rs)(Q:Ok X TU l' s' m' c')(P:gl O s m s' m')(hO:∀a,O a->a=TU.locals):cH X TU D l' s' m' c' rs:=by refine eI p.acc λvs n h1 h2=>?_;have u:Up s.heap m s'.heap m':=P.up p.ok.V λa ha=>let q:=p.ok.F.apart a (.inl (hO a ha));⟨q.1,q.2.2⟩;exact⟨Q,⟨vs,n,P.keep D _ h1 (λo=>p.hid.f (.inl (hO D o))) p.hid.μ,h2.up u⟩,p.hid.keep h1 P⟩
theorem cH.upC{D:υ}{rs:List CV}(p:cH X TU D l s m c rs)(P:gl (OC TU D) s m s' m'):Up s.heap m s'.heap m':=
 P.up p.ok.V λa ha=>ha.elim (λe=>let q:=p.ok.F.apart a (.inl e);⟨q.1,q.2.2⟩) λe=>e▸⟨p.hid.i,p.hid.j⟩
theorem Kw{D:υ}{rs:List CV}{x:CV}{v:ι}{Q:ι->ν->Prop}(p:cH X TU D l s m c rs)(r:ch X s.heap m x v)(hz:rs.length<=1000)
  (h:∀s':ν,cH X TU D l s' m c (rs++[x])->gl (OC TU D) s m s' m->Q .none s'):τ X.M A (call (.builtin "list.append") [.ref D,v]) Q Er s:=by
 refine eI p.acc λvs n h1 h2=>?_;have go:∀s':ν,s'={s with heap:=s.heap.update D (Obj.mapSeq λxs=>xs.push v),toks:=s.toks}->Q .none s':=by rintro s' rfl;have sb:=Heap.SameBut.update s.heap D (Obj.mapSeq λxs=>xs.push v);refine bL (p.ok.frame (s':={s with heap:=s.heap.update D (Obj.mapSeq λxs=>xs.push v),toks:=s.toks}) p.hid (λb o q e=>by exists sb.2 b q,e) ⟨_,uO h1 (λxs=>xs.push v)⟩ TK TK) λO' P' u=>?_;exact h _ ⟨O',⟨vs++[v],_,by have:=uO h1 (λxs=>xs.push v);rw[FI]at this;exact this,(h2.up u).append (.cons (r.up u) .nil)⟩,p.hid⟩ (P'.weak λ_ _ _ e=>.inr e)
 exact call_meets Fi ⟨_,h1,rfl⟩ F.entry_list_append (F.args_list_append_2 _ _) (PySem.list_append D vs.toArray n v (fZ (show δ vs<=1000 from h2.length▸hz))) ⟨h1,go _ TK⟩
def nZ(X:Wd) (k:Nat) (Φ:Nat->Fn) (sc:Ω) (elt:χ) (gens:List bR) (d:Nat) (gs:Gs):Prop:=
 ∀(A:ai) (TU:aa) (l:L) (s:ν) (m:py) (c:ad) (rs:List CV) (D:υ) (K:List CV->L->ad->Prop) (Q:Unit->ν->Prop) (Er:ι->ν->Prop) (scope:Ω) (pos:aK),Pv k A->TU.scope=sc->cH X TU D l s m c rs->wG Φ gs rs l c K->
  (∀U5 l' c' s' m',K U5 l' c'->cH X TU D l' s' m' c' U5->gl (OC TU D) s m s' m'->Q () s')->τ X.M A (nY (.ListComp elt gens scope pos) elt gens d (.ref D) TU) Q Er s
def wq(Φ:Nat->Fn)(t:T)(es:Es)(gs:Gs)(x:CV)(r:List CV)(l:L)(c:ad)(Q:List CV->L->ad->Prop):Prop:=wT Φ t x l c λl c=>cx Φ es l c λb c=>br b (wG Φ gs r l c Q) (Q r l c)
theorem Qz{sm:ad->Prop}{f:CV->List CV->L->ad->(List CV->L->ad->Prop)->Prop}{xs rs:List CV}{K:List CV->L->ad->Prop}{B:Prop}(h:cA sm f xs rs l c K)
  (k:∀G:Nat->List CV->L->ad->Prop,G 0 rs l c->(∀i x,xs[i]? =γ x->∀r l c,G i r l c->f x r l c λr l c=>sm c/\G (i+1) r l c)->(∀i,xs[i]? =η->∀r l c,G i r l c->K r l c)->B):B:=
 k (λi r l c=>cA sm f (xs.drop i) r l c K) h (λi x hx r l c e=>by
  obtain⟨T6,rfl⟩:=ay.mp hx;rw[iX T6]at e;exact e) λi hx r l c e=>by
  rw[mY (g6.mp hx)]at e;exact e
structure mv(X:Wd) (TU:aa) (D:υ) (s₀:ν) (m₀:py) (a:υ) (v:ι) (cv src:CV) (en:Bool) (H:List υ) (TV:ν) (Ub:L) (m₂:py) (c₂:ad) (i:Nat) (Uh:List CV):Prop where
 p:cH X TU D Ub TV m₂ c₂ Uh
 aft:gl (OC TU D) s₀ m₀ TV m₂
 rv:ch X TV.heap m₂ cv v
 it:bA TV.heap a v src en i H
 hid:∀a,a∈H->bf m₂ TU a
theorem mv.step{D a:υ}{s₀ TV TX:ν}{m₀ m₂ Ua:py}{v:ι}{cv src:CV}{en:Bool}{H:List υ}{Ub Vo:L}{c₂ U7:ad}{i:Nat}{Uh WK:List CV}(M:mv X TU D s₀ m₀ a v cv src en H TV Ub m₂ c₂ i Uh)(hD:D∉H)
  (p:cH X TU D Vo TX Ua U7 WK) (P:gl (OC TU D) TV m₂ TX Ua) (u:Up TV.heap m₂ TX.heap Ua):mv X TU D s₀ m₀ a v cv src en H TX Vo Ua U7 i WK:=
 ⟨p,M.aft.trans P,M.rv.up u,M.it.keep λb o mm e=>P.keep b o e (λow=>ow.elim (λe=>(M.hid b mm).f (.inl e)) λe=>hD (e▸mm)) (M.hid b mm).μ,λb mm=>(SZ (M.it.has b mm) λo ho=>(M.hid b mm).keep ho P)⟩
theorem cH.hidden{D:υ}{TX:ν}{Ua:py}{rs:List CV}{H:List υ}(p:cH X TU D l s m c rs)(hid:∀a,a∈H->bf m TU a)(hD:D∉H)(Q:gS H s m TX Ua)(O:Ok X TU l TX Ua c):cH X TU D l TX Ua c rs:=by refine eI p.acc λvs n h1 h2=>?_;exact⟨O,⟨vs,n,Q.keep D _ hD h1,h2.up (Q.up hid)⟩,let q:=p.hid;⟨λi=>q.i (Q.new D _ h1 i),Q.μ▸q.μ,Q.j▸q.j,q.s,q.f⟩⟩
theorem BE{elt:χ}{gens:List bR}{d:Nat}{target iter:χ}{ifs:List χ}{t:T}{en:Bool}{es:Es}{gs:Gs}(hg:gens[d]? =γ ⟨target,iter,ifs,0⟩)(Wc:∀g',gens[d+1]? =γ g'->g'.is_async=0)
  (ha:fE X k Φ sc ε target t) (ht:en=ε->gL target=ε) (TZ:cy X k Φ sc ifs es) (inner:nZ X k Φ sc elt gens d gs)
  {rs xs:List CV} {D a:υ} {v:ι} {cv src:CV} {H:List υ} {scope:Ω} {pos:aK} {K:List CV->L->ad->Prop} {R:Result->ν->Prop}
  (Rm:Pv k A) (hs:TU.scope=sc) (p:cH X TU D l s m c₀ rs) (P0:gl (OC TU D) s₀ m₀ s m) (rv:ch X s.heap m cv v) (hv:view c₀ cv=γ src) (hi:rR en src=γ xs)
  (it:bA s.heap a v src en 0 H) (hid:∀a,a∈H->bf m TU a) (fr:∀b,b∈H->s₀.heap.get? b=η) (hD:D∉H) (e:cA (λc=>ct c₀ c cv) (wq Φ t es gs) xs rs l c₀ K)
  (hR:∀U5 l' c' s' m',K U5 l' c'->cH X TU D l' s' m' c' U5->gl (OC TU D) s₀ m₀ s' m'->R (.ok .next) s'):
  gC X.M A (.compLoop (.ListComp elt gens scope pos) d (.ref a) (.ref D) TU) R s:=by
 refine Qz e λG g0 gs ge=>?_;clear e;refine codeAny_loop TK (λn TV=>∃Ub m₂ c₂ i Uh,n=δ xs - i/\mv X TU D s₀ m₀ a v cv src en H TV Ub m₂ c₂ i Uh/\view c₂ cv=γ src/\G i Uh Ub c₂) (λn TV hI=>?_) (δ xs - 0) ⟨l,m,c₀,0,rs,rfl,⟨p,P0,rv,it,hid⟩,hv,g0⟩;obtain⟨Ub,m₂,c₂,i,Uh,rfl,M,X',X_⟩:=hI;refine(?_:τ _ A ((compTurn (.ListComp elt gens scope pos) d (.ref a) (.ref D) TU).onRaise (λx=>do noteFrame x TU;theTreesLotGoes x)) _ _ TV);refine wpAny_noted (Ip hg Wc ?_);refine BD Rm.h ht M.p.ok M.rv X' hi M.it M.hid ?_ ?_
 ·intro x hx u TX Ua Ue Uz Uq ru UN;have Yb:mv X TU D s₀ m₀ a v cv src en H TX Ub Ua c₂ (i+1) Uh:=⟨M.p.hidden M.hid hD Uz Ue,M.aft.hid Uz fr,M.rv.up (Uz.up M.hid),UN,Uq⟩;refine ha A TU Ub TX Ua c₂ _ _ _ _ _ Rm hs Ue ru (gs i x hx _ _ _ X_) λWq Xa UD Vp Ur UA UK=>?_;have Yc:=Yb.step hD (Yb.p.step UA UK λa h=>h.elim id λh=>nomatch h.1) (UK.weak λa _ _ h=>OC.of h) (Ue.upL UK);refine MF TZ Rm hs UA Ur λok UT Uo U' Uj UU Ug=>?_;have Wr:=Yc.step hD (Yc.p.step UU Ug λ_ h=>h.elim) Ug.up' (Ug.upN UA.V);have again:∀{WL Yd Xc Xd Ye},(ct c₀ Xc cv/\G (i+1) WL Yd Xc)->cH X TU D Yd Xd Ye Xc WL->gl (OC TU D) Uo U' Xd Ye->
    ∃n,n<δ xs - i/\∃Ub m₂ c₂ i Uh,n=δ xs - i/\mv X TU D s₀ m₀ a v cv src en H Xd Ub m₂ c₂ i Uh/\view c₂ cv=γ src/\G i Uh Ub c₂:=λWs Xe Wu=>
   ⟨δ xs - (i+1),xJ _ _ (ay.mp hx).1,_,_,_,i+1,_,rfl,Wr.step hD Xe Wu (Wr.p.upC Wu),(zU Ws.1).trans hv,Ws.2⟩
  induction ok with
  |false=>exact ac (TH jU) ⟨rfl,again Uj Wr.p .refl⟩
  |true=>refine ac (TG TK) ?_;exact inner A TU Wq Uo U' UT Uh D _ _ _ scope pos Rm hs Wr.p Uj λ_ _ _ _ _ Ws Xe Wu=>⟨rfl,again Ws Xe Wu⟩
 ·exact λhx TX Ue Uz=>hR _ _ _ _ _ (ge i hx _ _ _ X_) (M.p.hidden M.hid hD Uz Ue) (M.aft.hid Uz fr)
theorem zV{it:υ}{v:ι}{src:CV}{en:Bool}{i:Nat}{H:List υ}{Q:ι->ν->Prop}(p:bA s.heap it v src en i H)(h:Q (.ref it) s):τ X.M A (pyIter (.ref it)) Q Er s:=by
 induction p with
 |list e q=>exact wpAny_pyIter_listiter q h
 |tup e q=>exact wpAny_pyIter_tupleiter q h
 |rng e q=>exact wpAny_pyIter_rangeiter q h
 |enum e q r ne=>exact FJ q h
theorem yO{elt:χ}{gens:List bR}{scope:Ω}{pos:aK}{d:Nat}{it:υ}{acc v:ι}{src:CV}{en:Bool}{i:Nat}{H:List υ}{target iter:χ}{ifs:List χ}{R:Result->ν->Prop}(hg:gens[d]? =γ ⟨target,iter,ifs,0⟩)
  (p:bA s.heap it v src en i H) (h:gC X.M A (.compLoop (.ListComp elt gens scope pos) d (.ref it) acc env) R s):gC X.M A (.compStart (.ListComp elt gens scope pos) d (.ref it) acc env) R s:=by
 refine yk ?_;refine(?_:τ _ _ ((compStart (.ListComp elt gens scope pos) d (.ref it) acc env).onRaise (λx=>do noteFrame x env;jr theWindowsPlace)) _ _ s);refine wpAny_notedAt ?_;unfold compStart;have hc:(clausesOf (.ListComp elt gens scope pos))[d]? =γ ⟨target,iter,ifs,0⟩:=hg;simp only[hc,Option.elim_some];exists TH (by decide);refine θ (kZ (wpAny_ite ?_));have fin:∀x:Code,x= .compLoop (.ListComp elt gens scope pos) d (.ref it) acc env->x.quiet=ε/\gC X.M A x R s:=by rintro x rfl;exact⟨rfl,h⟩
 split
 ·first
   |exact ο (fin _ TK)
   |exact θ (ο (ο (fin _ TK)))
 ·first
   |exact θ (dR (θ (aV (θ (zV p (ο (fin _ TK)))))))
   |exact dR (θ (aV (θ (zV p (ο (fin _ TK))))))
theorem Jt{elt:χ}{a:Mine.E}(ha:lw X k Φ sc elt a){gens:List bR}{d:Nat}(hg:gens[d+1]? =η):nZ X k Φ sc elt gens d (.last a):=by intro A TU l s m c rs D K Q Er scope pos R hs p h q;unfold nY;exists hg;refine θ (ha A TU l s m c _ _ _ R hs p.ok h λv c1 u s1 m1 h1 O1 P1 r1=>?_);have p1:=p.step O1 P1 (λ_ h=>h.elim);exact θ (Kw p1 r1 h1.1 λs2 p2 P2=>ο (q _ _ _ _ _ h1.2 p2 (P1.up'.trans P2)))
theorem Ju{elt:χ}{gens:List bR}{d:Nat}{target iter:χ}{ifs:List χ}{t:T}{en:Bool}{it:Mine.E}{es:Es}{gs:Gs}(hg:gens[d+1]? =γ ⟨target,iter,ifs,0⟩)(Wc:∀g',gens[d+1+1]? =γ g'->g'.is_async=0)
  (ha:fE X k Φ sc ε target t) (ht:en=ε->gL target=ε) (hit:ku X k Φ sc en iter it) (hf:∀(env:aa) x,m9 iter env x=pure x) (TZ:cy X k Φ sc ifs es) (inner:nZ X k Φ sc elt gens (d+1) gs):
  nZ X k Φ sc elt gens d (.cons t en it es gs):=by
 intro A TU l s m c rs D K Q Er scope pos R hs p h q;unfold nY;exists hg;dsimp only;have hz0:((0:Int) != 0)=ζ:=rfl;refine θ (cj (hit A TU l s m c (λv xs c=>cA (λc'=>ct c c' v) (wq Φ t es gs) xs rs l c K) (λitv s₁=>τ X.M A (runOwn (.compStart (.ListComp elt gens scope pos) (d+1) itv (.ref D) TU) TU) (λ_ s'=>Q () s') Er s₁) Er R hs p.ok h ?_) (λx s₁ Ud=>?_) λ_ _ e=>e)
 ·intro cv xs src c1 a v H s1 m1 h1 O1 P1 r1 hv hi it1 ZK fr;have p1:=p.step O1 P1 (λ_ h=>h.elim);refine eI p.acc λvs n hD _=>?_;exact wpAny_runOwn (yO hg it1 (BE hg Wc ha ht TZ inner R hs p1 P1.up' r1 hv hi it1 ZK fr (λmm=>nomatch (fr D mm).symm.trans hD) h1 λ_ _ _ _ _ h2 p2 P2=>q _ _ _ _ _ h2 p2 P2))
 ·refine θ (aV ?_);exists hf ..;refine θ (ο (θ (aq (cj Ud (λitv TV Ui=>?_) λ_ _ e=>e))));exact θ (cj Ui (λ_ TX Ux=>ο Ux) λ_ _ e=>e)
theorem Kx{elt:χ}{gens:List bR}{rest:List bR}{gs:Gs}(h:mL X k Φ sc rest elt gs):∀{pre:List bR} {d:Nat},gens=pre++rest->pre.length=d+1->nZ X k Φ sc elt gens d gs:=by
 induction h with
 |last ha=>exact λhg hd=>Jt ha (by rw[hg,aL,g6,hd];exact aJ _)
 |@cons target iter ifs rest elt t en it es gs ha ht hit hf TZ hr ih=>
  intro pre d hg hd;have h1:gens[d+1]? =γ ⟨target,iter,ifs,0⟩:=by rw[hg,←hd,gh (aJ _),hU];rfl
  refine Ju h1 (λg' U9=>?_) ha ht hit hf TZ (ih (pre:=pre++[⟨target,iter,ifs,0⟩]) (by rw[hg,bF];rfl) (by rw[Δ,hd];rfl));rw[hg,gh (by exists hd,jc _),hd,show d+1+1 - (d+1)=1 from mW _ 1]at U9;induction hr with
  |last _=>exact pt U9
  |cons=>replace U9:=ω U9;subst U9;rfl
theorem Jv{env:aa}:∀{l:List (ψ×jk)} {cs:List (ψ×υ)},(∀x,(x,NameKind.free)∈l->∃a,env.cells.lookup x=γ a)->
  ∃cl:List (ψ×υ),(forIn l cs λ(p:ψ×jk) (cs:List (ψ×υ))=>if p.2== .free then do let a ←cellOf env p.1;pure (jX ((p.1,a)::cs))else pure (jX cs):aQ (List (ψ×υ)))=pure cl/\
   (∀x a,(x,a)∈cl->(x,a)∈cs\/((x,NameKind.free)∈l/\env.cells.lookup x=γ a))/\(∀x,((x,NameKind.free)∈l\/∃a,(x,a)∈cs)->∃a,(x,a)∈cl):=by
 intro l;induction l with
 |nil=>exact @λcs _=>⟨cs,rfl,λx a m=>.inl m,λx m=>by
   rcases m with m|m
   ·simp at m
   ·exact m⟩
 |cons p l ih=>
  obtain⟨n,kd⟩:=p;intro cs hf;exists i9 ..;by_cases q:kd= .free
  ·subst q;refine SZ (hf n (by simp)) λa ha=>?_;refine KT (ih (cs:=(n,a)::cs) λx m=>hf x (gj _ m)) λcl h1 h2 h3=>?_;refine⟨cl,?_,?_,?_⟩
   ·have:cellOf env n=pure a:=(by unfold cellOf;exists ha,TK);simp only[TJ,if_true,this,pure_bind];exact h1
   ·intro x b m;rcases h2 x b m with m|⟨m,e⟩
    ·rcases ab.mp m with e|m
     ·cases e;exact .inr ⟨by simp,ha⟩
     ·exact .inl m
    ·exact .inr ⟨gj _ m,e⟩
   ·intro x m;refine h3 x ?_;rcases m with m|⟨b,m⟩
    ·rcases ab.mp m with e|m
     ·cases e;exact .inr ⟨a,by simp⟩
     ·exact .inl m
    ·exact .inr ⟨b,gj _ m⟩
  ·have hb:(kd==NameKind.free)=ζ:=TO.mpr q;refine KT (ih (cs:=cs) λx m=>hf x (gj _ m)) λcl h1 h2 h3=>?_;refine⟨cl,?_,?_,?_⟩
   ·simp only[hb,jT,if_false,pure_bind];exact h1
   ·intro x b m;rcases h2 x b m with m|⟨m,e⟩
    ·exact .inl m
    ·exact .inr ⟨gj _ m,e⟩
   ·intro x m;refine h3 x ?_;rcases m with m|m
    ·rcases ab.mp m with e|m
     ·cases e;exact absurd TK q
     ·exact .inl m
    ·exact .inr m
theorem Jw{scope:Ω}{env:aa}(hf:∀x,(x,NameKind.free)∈scope.names->∃a,env.cells.lookup x=γ a):
  ∃cl:List (ψ×υ),closureFor scope env=pure cl/\(∀x a,(x,a)∈cl->(x,NameKind.free)∈scope.names/\env.cells.lookup x=γ a)/\(∀x,(x,NameKind.free)∈scope.names->∃a,cl.lookup x=γ a/\env.cells.lookup x=γ a):=by
 refine KT (Jv (env:=env) (l:=scope.names) (cs:=[]) hf) λcl h1 h2 h3=>?_;have Vw:∀x a,(x,a)∈cl->(x,NameKind.free)∈scope.names/\env.cells.lookup x=γ a:=λx a m=>(h2 x a m).elim (λm=>by simp at m) λm=>m;refine⟨cl,?_,Vw,?_⟩
 ·unfold closureFor;refine Bj ?_ h1
  first
   |rfl
   |(simp only[bind_pure];done)
   |(simp only[bind_pure];rfl)
 ·intro x m;refine SZ (h3 x (.inl m)) λa ha=>?_;cases q:cl.lookup x with
  |none=>exact absurd ha (by rw[List.lookup_eq_none_iff]at q;exact λm=>by have:=q _ m;simp at this)
  |some b=>exact⟨b,rfl,(Vw x b (ee q)).2⟩
noncomputable def iM(scope sc:Ω):Ω:={scope with names:=scope.names.map λ(n,k)=>if(k== .free&&ε&&sc.names.lookup n==γ .cell)then(n,.cell)else(n,k)}
theorem QA{scope sc:Ω}{env:aa}(hs:env.scope=sc)(hk:env.scope.kind= .function):relabel scope env=iM scope sc:=by unfold relabel iM Env.kindOf;rw[hs]at hk ⊢;exists hk;rfl
theorem Jx{sc:Ω}:∀{l:List (ψ×jk)} {x:ψ},(l.map (·.1)).Nodup->(x,NameKind.free)∈l->sc.names.lookup x=γ .cell->
  (l.map λ(n,k)=>if(k==NameKind.free&&ε&&sc.names.lookup n==γ .cell)then(n,NameKind.cell)else(n,k)).lookup x=γ .cell:=by
 intro l;induction l with
 |nil=>exact @λx _ h _=>by simp at h
 |cons p l ZL=>
  obtain⟨n,kd⟩:=p;intro x T_ h hc;simp only[bQ,dO]at T_;exists bQ;rcases ab.mp h with e|m
  ·cases e;simp only[hc,TJ,Bool.and_self,if_true];rw[g8,TJ]
  ·have:x≠n:=(by rintro rfl;exact T_.1 (au.mpr ⟨(x,.free),m,rfl⟩));have ih:=ZL T_.2 m hc;dsimp only;split
   ·exists g8;exists TO.mpr this,ih
   ·exists g8;exists TO.mpr this,ih
theorem MG{sc:Ω}:∀{l:List (ψ×jk)} {x:ψ},(∀p∈l,p.2≠NameKind.cell)->
  (l.map λ(n,k)=>if(k==NameKind.free&&ε&&sc.names.lookup n==γ .cell)then(n,NameKind.cell)else(n,k)).lookup x=γ .cell->(x,NameKind.free)∈l:=by
 intro l;induction l with
 |nil=>exact @λx _ h=>by simp at h
 |cons p l ZL=>
  obtain⟨n,kd⟩:=p;intro x hnc h;rw[bQ]at h;dsimp only at h;have ih:=λh=>gj (n,kd) (ZL (x:=x) (λp hp=>hnc p (gj _ hp)) h);split at h
  ·rename_i hc;rw[g8]at h;by_cases q:x=n
   ·subst q;simp only[g_,aS,beq_iff_eq]at hc;exists hc.1;simp
   ·rw[TO.mpr q]at h;exact ih h
  ·rw[g8]at h;by_cases q:x=n
   ·subst q;rw[TJ]at h;simp only[jV]at h;exact absurd h (hnc (x,kd) (by simp))
   ·rw[TO.mpr q]at h;exact ih h
structure vT(scope sc:Ω) (caps:List Nat):Prop where
 kind:scope.kind= .function
 nodup:(scope.names.map (·.1)).Nodup
 noCell:∀p∈scope.names,p.2≠NameKind.cell
 free:∀x,(x,NameKind.free)∈scope.names->sc.names.lookup x=γ .cell
 caps:∀n∈caps,(nm n,NameKind.free)∈scope.names
end
section
variable {X:Wd}{h h' TY:Ξ}{m m' m₁ m₂ m₀:py}{c c' c₀:ad}{s s' s₁ s₀:ν}{env TU:aa}{l l':L}{k:Nat}{sc:Ω}{Φ:Nat->Fn}{A:ai}{Er:ι->ν->Prop}
theorem Ky{l:L}{own:List Nat}{n:Nat}{cv:CV}:∀{caps:List Nat},pc (caps.map (λx=>(x,pc l x))++own.map λx=>(x,η)) n=γ cv->n∈caps/\pc l n=γ cv:=by
 intro caps;induction caps with
 |nil=>exact λe=>nomatch (uY (ls:=own)).symm.trans e
 |cons x caps ih=>
  intro e;have e2:(match ae n x with|true=>pc l x|false=>pc (caps.map (λx=>(x,pc l x))++own.map λx=>(x,η)) n)=γ cv:=e;clear e;cases q:ae n x with
  |true=>rw[q]at e2;have hz:=aU q;subst hz;exact⟨.head _,e2⟩
  |false=>rw[q]at e2;exact(on (ih e2) λa b=>⟨.tail _ a,b⟩)
noncomputable abbrev wL(scope sc:Ω) (env:aa) (C:υ) (cl:List (ψ×υ)):aa:={scope:=iM scope sc,locals:=C,globals:=env.globals,cells:=cl,qual:=env.qual,func:=η,code:=env.code,frame:=env.frame,builtins:=env.builtins}
theorem MH{scope:Ω}{caps own:List Nat}{cl:List (ψ×υ)}{C:υ}(ok:vT scope sc caps)(hs:env.scope=sc)(O:Ok X env l s m c)
  (ke:∀b o,s.heap.get? b=γ o->h'.get? b=γ o) (hC:s.heap.get? C=η) (Wb:∃m,h'.Ns C m) (c1:∀x a,(x,a)∈cl->(x,NameKind.free)∈scope.names/\env.cells.lookup x=γ a) (c2:∀x,(x,NameKind.free)∈scope.names->∃a,cl.lookup x=γ a/\env.cells.lookup x=γ a):
  jt X h' m (wL scope sc env C cl) (caps.map (λx=>(x,pc l x))++own.map λx=>(x,η)):=by
 have ne:∀a o,s.heap.get? a=γ o->a≠C:=λa o e q=>by rw[q,hC]at e;exact pt e
 have F:=O.F;have aC:=O.apart_new hC;refine⟨ok.kind,F.glob,F.blt,Wb,λx a m=>?_,λx y a m1 m2=>F.inj x y a (ee (c1 x a m1).2) (ee (c1 y a m2).2),λx hx=>?_,λa f=>?_,λn cv e=>?_,F.code⟩
 ·obtain⟨o,v,ho,hd,_⟩:=F.cells x a (ee (c1 x a m).2);exact⟨o,v,ke a o ho,hd,ne a o ho⟩
 ·refine f4 (c2 x (MG ok.noCell hx)) λa ha _=>?_;exact⟨a,ha⟩
 ·rcases f with rfl|⟨x,m⟩
  ·exact⟨aC.i,aC.μ,aC.j⟩
  ·exact F.apart a (.inr ⟨x,ee (c1 x a m).2⟩)
 ·refine on (Ky e) λhn e=>?_;obtain⟨T6,v,va,r⟩:=F.var n cv e;have hf:=ok.caps n hn;have hk:env.kindOf (nm n)=γ .cell:=by unfold Env.kindOf;exists hs,ok.free _ hf
  refine⟨T6,v,?_,r.up (.grow ke)⟩;induction va with
  |l kk m hm e'=>rw[hk]at kk;replace kk:=ω kk;cases kk
  |cell kk a o e' ho hd=>refine f4 (c2 _ hf) λa' h1 h2=>?_;rw[e']at h2;replace h2:=ω h2;subst h2;exact .cell (.inl (Jx ok.nodup hf (ok.free _ hf))) a o h1 (ke a o ho) hd
structure Dr(X:Wd) (env:aa) (s:ν) (m:py) (s':ν) (m':py) (c':ad) (rs:List CV) (D C:υ):Prop where
 inv:AC X s'.heap m' c'
 aft:gl No s m s' m'
 acc:∃vs n,IsL s'.heap D vs.toArray n/\ce X s'.heap m' rs vs
 nD:s.heap.get? D=η
 nC:s.heap.get? C=η
 aD:bf m' env D
 aC:bf m' env C
 ne:D≠C
 ns:∃m,s'.heap.Ns C m
structure sx(X:Wd) (k:Nat) (Φ:Nat->Fn) (sc:Ω) (elt target iter:χ) (ifs:List χ) (rest:List bR) (scope:Ω) (t:T) (en:Bool) (it:Mine.E) (es:Es) (gs:Gs) (caps:List Nat):Prop where
 ok:vT scope sc caps
 it:ku X k Φ sc en iter it
 f:∀(env:aa) x,m9 iter env x=pure x
 a:fE X k Φ (iM scope sc) ε target t
 t:en=ε->gL target=ε
 es:cy X k Φ (iM scope sc) ifs es
 gs:mL X k Φ (iM scope sc) rest elt gs
theorem BF{elt target iter:χ}{ifs:List χ}{rest:List bR}{scope:Ω}{pos p:aK}{t:T}{en:Bool}{it:Mine.E}{es:Es}{gs:Gs}{caps own:List Nat}{use:Option (ι->aQ Unit)}{cell:Bool}{P:CV->ad->Prop}{Q:ι->ν->Prop}
  (M:sx X k Φ sc elt target iter ifs rest scope t en it es gs caps) (R:Pv k A) (hs:env.scope=sc) (O:Ok X env l s m c) (h:wE Φ (.comp cell caps own t en it es gs) l c P)
  (hq:∀D C s' m' c' rs,Dr X env s m s' m' c' rs D C->dI cell (.list rs) c' P->compPost X.M A Er use Q (.ref D) C (.ok .next) s'):
  τ X.M A (comprehension (.ListComp elt (⟨target,iter,ifs,0⟩::rest) scope pos) scope env p (newList []) ζ (eval iter env) use) Q Er s:=by
 have ok:=M.ok;refine KT (Jw (scope:=scope) (env:=env) λx mm=>O.F.all x (by unfold Env.kindOf;exists hs,ok.free x mm)) λcl ZM c1 c2=>?_;have Xf:∀x∈scope.names,x.2= .local->scope.names.lookup x.1=γ .local:=λx hx e=>by obtain⟨n,kd⟩:=x;obtain rfl:=e;exact yN ok.nodup hx
 refine wpAny_comprehension_free (g:=⟨target,iter,ifs,0⟩) (gs:=rest) TK (M.f env) ZM ok.kind Xf (M.it A env l s m c (λv xs c=>cA (λc'=>ct c c' v) (wq Φ t es gs) xs [] (caps.map (λx=>(x,pc l x))++own.map λx=>(x,η)) c λr _ c=>dI cell (.list r) c P) _ _ R hs O h ?_);intro cv xs src c1' a v H s₁ m₁ h1 UL US rv hv hi it₁ Vr fr;have nD:s₁.heap.get? s₁.heap.objs.size=η:=c6 _;refine wpAny_newList ?_ (by decide);let o0:af:={cls:=.type "list",data:=.seq ([]:List ι).toArray};obtain⟨Vn,V0⟩:=UL.grow (s':={s₁ with heap:=s₁.heap.push o0}) (dS _ _) TK TK;have aD:=UL.apart_new nD;have ZN:IsL (s₁.heap.push o0) s₁.heap.objs.size ([]:List ι).toArray 0:=IsL.new _ _;have nC:(s₁.heap.push o0).get? (s₁.heap.push o0).objs.size=η:=c6 _;refine wpAny_newFunctionEnv (s:={s₁ with heap:=s₁.heap.push o0}) ok.noCell (λ_ i=>nomatch i) (λh' Wb sb=>?_) ok.kind;have ke:∀b o,(s₁.heap.push o0).get? b=γ o->h'.get? b=γ o:=λb o e=>by exists sb.2 b (λq=>by rw[q]at e;exact nomatch e.symm.trans nC),dS _ _ b o e
 refine on (Vn.grow (s':={s₁ with heap:=h',toks:=s₁.toks+0}) ke TK TK) λUe Ul=>?_;have aC:=Vn.apart_new nC;have hDC:s₁.heap.objs.size≠(s₁.heap.push o0).objs.size:=λq=>by rw[q]at ZN;exact nomatch ZN.symm.trans nC
 have ZO:s₁.heap.get? (s₁.heap.push o0).objs.size=η:=V0.was_none nC;exists QA hs O.F.kind;have Lc:=MH (own:=own) (cl:=cl) ok hs Vn ke nC ⟨_,Wb⟩ c1 c2;have P13:gl No s m {s₁ with heap:=h',toks:=s₁.toks+0} m₁:=(US.trans V0).trans Ul;have Pc:cH X (wL scope sc env (s₁.heap.push o0).objs.size cl) s₁.heap.objs.size (caps.map (λx=>(x,pc l x))++own.map λx=>(x,η)) {s₁ with heap:=h',toks:=s₁.toks+0} m₁ c1' []:=
  ⟨⟨Ue.V,Lc⟩,⟨[],0,ke _ _ ZN,.nil⟩,aD.i,aD.μ,aD.j,aD.s,λf=>f.elim hDC λz0=>SZ z0 λx q=>aD.f (.inr ⟨x,ee (c1 x _ q).2⟩)⟩
 have itc:bA h' a v src en 0 H:=it₁.keep λb o mm e=>ke b o (dS _ _ b o e);have ZP:∀b,b∈H->bf m₁ (wL scope sc env (s₁.heap.push o0).objs.size cl) b:=λb mm=>
  let p:=Vr b mm
  ⟨p.i,p.μ,p.j,p.s,λf=>f.elim (λq=>by refine SZ (it₁.has b mm) λo ho=>?_;rw[q,ZO]at ho;exact pt ho) λz0=>SZ z0 λx q=>p.f (.inr ⟨x,ee (c1 x _ q).2⟩)⟩
 have hDH:s₁.heap.objs.size∉H:=λmm=>by refine SZ (it₁.has _ mm) λo ho=>?_;rw[nD]at ho;exact pt ho
 have inner:=Kx M.gs (gens:=⟨target,iter,ifs,0⟩::rest) (pre:=[⟨target,iter,ifs,0⟩]) (d:=0) TK TK;have Wc:∀g',(⟨target,iter,ifs,0⟩::rest:List bR)[0+1]? =γ g'->g'.is_async=0:=by
  intro g' U9;induction M.gs with
  |last _=>exact pt U9
  |cons=>replace U9:=ω U9;subst U9;rfl
 refine yO (d:=0) (i:=0) (s:={s₁ with heap:=h',toks:=s₁.toks+0}) TK itc ?_;refine BE (s:={s₁ with heap:=h',toks:=s₁.toks+0}) (s₀:=s) (m₀:=m) TK Wc M.a M.t M.es inner R TK Pc P13.up' ((rv.up (V0.upN UL.V)).up (Ul.upN Vn.V)) hv hi itc ZP fr hDH h1 λU5 l' c' s' m' h2 p' P'=>?_;refine hq _ _ s' m' c' U5 ⟨p'.ok.V,P'.back λa o e ho=>?_,p'.acc,US.was_none nD,US.was_none ZO,⟨p'.hid.i,p'.hid.μ,p'.hid.j,p'.hid.s,aD.f⟩,?_,hDC,p'.ok.F.ns⟩ h2
 ·rcases ho with rfl|rfl
  ·exact nomatch (US.was_none ZO).symm.trans e
  ·exact nomatch (US.was_none nD).symm.trans e
 ·refine bL (p'.ok.F.apart _ (.inl TK)) λq1 q2 q3=>?_;exact⟨q1,q2,q3,aC.s,aC.f⟩
theorem AE(O:Ok X env l s m c)(p:Dr X env s m s' m' c' rs D C)(h:dI cell (.list rs) c' P):
  ∃cv YT Vc,P cv YT/\Ok X env l s' Vc YT/\gl No s m s' Vc/\ch X s'.heap Vc cv (.ref D)/\bf Vc env C:=by
 refine eI p.acc λvs n h1 h2=>?_;have O':=O.go p.aft p.inv;have D0:∀{P:Prop},(∃o,s.heap.get? D=γ o)->P:=λz0=>SZ z0 λo e=>nomatch p.nD.symm.trans e;induction cell with
 |false=>exact⟨_,_,m'.put D,h,O'.adopt p.aD h1,p.aft.put p.nD,.obj (vs:=vs) (.inr TK) p.aD.s h1 ⟨n,rfl⟩ (h2.up .put),λi=>i.elim p.aC.i λq=>p.ne q.symm,p.aC.μ,p.aC.j,p.aC.s,p.aC.f⟩
 |true=>
  have V':=p.inv.cell' (a:=D) (x:=.list rs) ⟨_,vs,h1,⟨n,rfl⟩,h2⟩ p.aD.μ p.aD.i p.aD.j p.aD.s;have P':gl No s m s' (m'.cell D):={p.aft with pre:=λn a e=>qy (p.aft.pre n a e),ext:=λa o e i=>(aw.mp i).elim (p.aft.ext a o e) λq=>D0 ⟨o,Θ.mp q▸e⟩};exact⟨_,_,m'.cell D,h,O.go P' V',P',.ref _ _ (by refine(?_:(m'.μ++[D])[c'.length]? =_);rw[←p.inv.len,gh (aJ _),hU];rfl),
   p.aC.i,λi=>(aw.mp i).elim p.aC.μ λq=>p.ne (Θ.mp q).symm,p.aC.j,p.aC.s,p.aC.f⟩
theorem MI
  (M:sx X k Φ sc elt target iter ifs rest scope t en it es gs caps):lw X k Φ sc (.ListComp elt (⟨target,iter,ifs,0⟩::rest) scope pos) (.comp cell caps own t en it es gs):=by
 intro A env l s m c P Q Er R hs O h q;exists arm_eval_ListComp ..;refine BF M R hs O h λD C s' m' c' rs p hP=>?_;obtain⟨mm,hm⟩:=p.ns;refine⟨mm,hm,λTY sb=>?_⟩;obtain⟨cv,YT,Vc,hP,O',P',r,aC⟩:=AE O p hP;refine on (O'.hid (s':={s' with heap:=TY}) (H:=[C]) (λa i=>Θ.mp i▸aC) (λb o n e=>by exists sb.2 b (λq=>n (q▸ .head _)),e) TK TK) λO2 Q2=>?_;exact q _ _ _ _ _ hP O2 (P'.hid Q2 λa i=>Θ.mp i▸p.nC) (r.up (Q2.up λa i=>Θ.mp i▸aC))
theorem Ir(hn:n<Do.length)(hx:sc.names.lookup (nm n)=γ .local)
  (ZD:∀env:aa,env.scope=sc->env.scope.kind= .function->lH (.ListComp elt (⟨target,iter,ifs,0⟩::rest) scope pos) (γ (.Name (nm n) Xg)) Yg.line env=pure ε)
  (M:sx X k Φ sc elt target iter ifs rest scope t en it es gs caps):
  bz X k Φ sc (.Assign [.Name (nm n) Xg] (.ListComp elt (⟨target,iter,ifs,0⟩::rest) scope pos) Yg) (.g (.name n) (.comp cell caps own t en it es gs)):=by
 intro A env fl l s m c N C' W Q Er R hs O h q;exists exec_Assign_arm ..;refine θ (aV ?_);have ZQ:hJ [.Name (nm n) Xg] (.ListComp elt (⟨target,iter,ifs,0⟩::rest) scope pos) Yg.line env=pure ε:=ZD env hs O.F.kind;exists ZQ;refine θ (ο ?_);exists TG TK;refine θ ?_;refine(?_:τ X.M A (comprehension (.ListComp elt (⟨target,iter,ifs,0⟩::rest) scope pos) scope env _ (newList []) ζ (eval iter env) (γ _) >>= λ_=>pure ()) _ Er s);refine θ (BF (Q:=λ_ s'=>τ X.M A (pure ():aQ Unit) (λ_ s'=>τ X.M A (pure .next:aQ lD) Q Er s') Er s') M R hs O h λD C s' m' c' rs p hP=>?_);refine(?_:τ X.M A (assignAll (.ref D) _) _ Er s');exists pS TK ..;refine(?_:τ X.M A (assign (.Name (nm n) Xg) env (.ref D)) _ Er s');exists arm_assign_Name ..;obtain⟨cv,YT,Vc,hP,O',P',r,aC⟩:=AE O p hP;refine θ (aV (yB (O'.store (lo:=ζ) hn (.inl (l5 hs hx)) r λUx t Ue Ul _=>?_)));obtain⟨mm,o,es',ep,hC,rC⟩:=p.ns;have hC3:Ux.get? C=γ o:=Ul.keep C o hC (λow=>aC.f (rj ow)) aC.μ;refine⟨mm,⟨o,es',ep,hC3,rC⟩,λUr sb=>ο (ο ?_)⟩;have aC3:=aC.keep hC Ul;refine on (Ue.hid (s':={s' with heap:=Ur,toks:=t}) (H:=[C]) (λa i=>Θ.mp i▸aC3) (λb o n e=>by exists sb.2 b (λq=>n (q▸ .head _)),e) TK TK) λUA ZR=>?_;exact q.next _ _ _ _ hP UA ((P'.st.trans Ul.stL).hid ZR λa i=>Θ.mp i▸p.nC)
end
end Mine
end
section
open PySem PySem.W PyProof.Rows
set_option backward.match.sparseCases false
namespace Mine
variable {X:Wd}{k:Nat}{Φ:Nat->Fn}{at_:List Nat}
theorem jp{a b:Bool}(h:(a&&b)=ε):a=ε/\b=ε:=(aS _ _).mp h
theorem ba{c C:Prop}[i:Decidable c]{f:c->Bool}(h:(if q:c then f q else ζ)=ε)(k:∀q,f q=ε->C):C:=by
 induction i with
 |isTrue q=>exact k q h
 |isFalse q=>exact Db h
theorem Ps{a b:Bool}{C:Prop}(h:(a&&b)=ε)(k:a=ε->b=ε->C):C:=k (jp h).1 (jp h).2
theorem fk{a b c:Bool}{C:Prop}(h:(a&&(b&&c))=ε)(k:a=ε->b=ε->c=ε->C):C:=Ps h λx h=>Ps h (k x)
theorem gE{a b c d:Bool}{C:Prop}(h:(a&&(b&&(c&&d)))=ε)(k:a=ε->b=ε->c=ε->d=ε->C):C:=Ps h λx h=>fk h (k x)
theorem kj{a b c d e:Bool}{C:Prop}(h:(a&&(b&&(c&&(d&&e))))=ε)(k:a=ε->b=ε->c=ε->d=ε->e=ε->C):C:=Ps h λx h=>gE h (k x)
theorem km{a b c d e f:Bool}{C:Prop}(h:(a&&(b&&(c&&(d&&(e&&f)))))=ε)(k:a=ε->b=ε->c=ε->d=ε->e=ε->f=ε->C):C:=Ps h λx h=>kj h (k x)
theorem vU{a b c d e f g:Bool}{C:Prop}(h:(a&&(b&&(c&&(d&&(e&&(f&&g))))))=ε)(k:a=ε->b=ε->c=ε->d=ε->e=ε->f=ε->g=ε->C):C:=Ps h λx h=>km h (k x)
theorem kF{a b:Bool}{C:Prop}(h:(a || b)=ε)(k:a=ε->C)(k':b=ε->C):C:=((pU _ _).mp h).elim k k'
@[elab_as_elim] theorem eD{α:Type}[BEq α][LawfulBEq α]{a b:α}{c:Bool}{P:α->Prop}(h:(a==b&&c)=ε)(k:c=ε->P b):P a:=Ps h λx h=>ac (TM x) (k h)
@[elab_as_elim] theorem wt{α:Type}[BEq α][LawfulBEq α]{a b:α}{P:α->Prop}(h:(a==b)=ε)(k:P b):P a:=ac (TM h) k
@[elab_as_elim] theorem cG{α:Type}{a:List α}{P:List α->Prop}(h:a.isEmpty=ε)(k:P []):P a:=ac (F6.mp h) k
@[elab_as_elim] theorem sy{α:Type}{a:Option α}{P:Option α->Prop}(h:a.isNone=ε)(k:P η):P a:=ac (xd.mp h) k
section
variable (x:χ)
noncomputable def vV(f:BoolOp->List χ->Bool):Bool:=if h:x.ctorIdx=0 then xr (motive_1:=λ_=>Bool) x h λo xs _=>f o xs else ζ
noncomputable def CO(f:χ->Operator->χ->Bool):Bool:=if h:x.ctorIdx=2 then xC (motive_1:=λ_=>Bool) x h λl o r _=>f l o r else ζ
noncomputable def wM(f:UnaryOp->χ->Bool):Bool:=if h:x.ctorIdx=3 then xl (motive_1:=λ_=>Bool) x h λo r _=>f o r else ζ
noncomputable def Ds(f:χ->χ->χ->Bool):Bool:=if h:x.ctorIdx=5 then xD (motive_1:=λ_=>Bool) x h λa b c _=>f a b c else ζ
noncomputable def vW(f:List (Option χ)->List χ->Bool):Bool:=if h:x.ctorIdx=6 then xK (motive_1:=λ_=>Bool) x h λa b _=>f a b else ζ
noncomputable def CP(f:List χ->Nat->Bool):Bool:=if h:x.ctorIdx=7 then xQ (motive_1:=λ_=>Bool) x h λa b _=>f a b else ζ
noncomputable def vX(f:χ->List bR->Ω->Bool):Bool:=if h:x.ctorIdx=8 then tF (motive_1:=λ_=>Bool) x h λa b c _=>f a b c else ζ
noncomputable def wu(f:χ->List CmpOp->List χ->Bool):Bool:=if h:x.ctorIdx=15 then xm (motive_1:=λ_=>Bool) x h λa b c _=>f a b c else ζ
noncomputable def f5(f:χ->List χ->List Keyword->aK->Bool):Bool:=if h:x.ctorIdx=16 then tM (motive_1:=λ_=>Bool) x h f else ζ
noncomputable def vC(f:Const->Nat->Bool):Bool:=if h:x.ctorIdx=19 then xj (motive_1:=λ_=>Bool) x h λa b _=>f a b else ζ
noncomputable def Cf(f:χ->ψ->aK->Bool):Bool:=if h:x.ctorIdx=20 then xe (motive_1:=λ_=>Bool) x h f else ζ
noncomputable def kz(f:χ->χ->Bool):Bool:=if h:x.ctorIdx=21 then xf (motive_1:=λ_=>Bool) x h λa b _=>f a b else ζ
noncomputable def rS(f:ψ->Bool):Bool:=if h:x.ctorIdx=23 then xM (motive_1:=λ_=>Bool) x h λa _=>f a else ζ
noncomputable def Cg(f:List χ->Bool):Bool:=if h:x.ctorIdx=24 then xN (motive_1:=λ_=>Bool) x h λa _=>f a else ζ
noncomputable def mw(f:List χ->Bool):Bool:=if h:x.ctorIdx=25 then tK (motive_1:=λ_=>Bool) x h λa _ _=>f a else ζ
noncomputable def vD(f:Option χ->Option χ->Option χ->Bool):Bool:=if h:x.ctorIdx=26 then xE (motive_1:=λ_=>Bool) x h λa b c _=>f a b c else ζ
end
section
variable {x:χ}{P:χ->Prop}
@[elab_as_elim] theorem AF{f}(h:vV x f=ε)(k:∀o xs p,f o xs=ε->P (.BoolOp o xs p)):P x:=ba h λq h=>xr (motive_1:=λx=>∀q,xr (motive_1:=λ_=>Bool) x q _=ε->P x) x q (λo xs p _=>k o xs p) q h
@[elab_as_elim] theorem OF{f}(h:CO x f=ε)(k:∀l o r p,f l o r=ε->P (.BinOp l o r p)):P x:=ba h λq h=>xC (motive_1:=λx=>∀q,xC (motive_1:=λ_=>Bool) x q _=ε->P x) x q (λl o r p _=>k l o r p) q h
@[elab_as_elim] theorem Ci{f}(h:wM x f=ε)(k:∀o r p,f o r=ε->P (.UnaryOp o r p)):P x:=ba h λq h=>xl (motive_1:=λx=>∀q,xl (motive_1:=λ_=>Bool) x q _=ε->P x) x q (λo r p _=>k o r p) q h
@[elab_as_elim] theorem QB{f}(h:Ds x f=ε)(k:∀a b c p,f a b c=ε->P (.IfExp a b c p)):P x:=ba h λq h=>xD (motive_1:=λx=>∀q,xD (motive_1:=λ_=>Bool) x q _=ε->P x) x q (λa b c p _=>k a b c p) q h
@[elab_as_elim] theorem AG{f}(h:vW x f=ε)(k:∀a b p,f a b=ε->P (.Dict a b p)):P x:=ba h λq h=>xK (motive_1:=λx=>∀q,xK (motive_1:=λ_=>Bool) x q _=ε->P x) x q (λa b p _=>k a b p) q h
@[elab_as_elim] theorem OG{f}(h:CP x f=ε)(k:∀a b p,f a b=ε->P (.Set a b p)):P x:=ba h λq h=>xQ (motive_1:=λx=>∀q,xQ (motive_1:=λ_=>Bool) x q _=ε->P x) x q (λa b p _=>k a b p) q h
@[elab_as_elim] theorem MJ{f}(h:vX x f=ε)(k:∀a b c p,f a b c=ε->P (.ListComp a b c p)):P x:=ba h λq h=>tF (motive_1:=λx=>∀q,tF (motive_1:=λ_=>Bool) x q _=ε->P x) x q (λa b c p _=>k a b c p) q h
@[elab_as_elim] theorem BG{f}(h:wu x f=ε)(k:∀a b c p,f a b c=ε->P (.Compare a b c p)):P x:=ba h λq h=>xm (motive_1:=λx=>∀q,xm (motive_1:=λ_=>Bool) x q _=ε->P x) x q (λa b c p _=>k a b c p) q h
@[elab_as_elim] theorem ig{f}(h:f5 x f=ε)(k:∀a b c d,f a b c d=ε->P (.Call a b c d)):P x:=ba h λq h=>tM (motive_1:=λx=>∀q,tM (motive_1:=λ_=>Bool) x q _=ε->P x) x q (λa b c d _=>k a b c d) q h
@[elab_as_elim] theorem zW{f}(h:vC x f=ε)(k:∀a b p,f a b=ε->P (.Constant a b p)):P x:=ba h λq h=>xj (motive_1:=λx=>∀q,xj (motive_1:=λ_=>Bool) x q _=ε->P x) x q (λa b p _=>k a b p) q h
@[elab_as_elim] theorem MK{f}(h:Cf x f=ε)(k:∀a b d,f a b d=ε->P (.Attribute a b d)):P x:=ba h λq h=>xe (motive_1:=λx=>∀q,xe (motive_1:=λ_=>Bool) x q _=ε->P x) x q (λa b d _=>k a b d) q h
@[elab_as_elim] theorem l6{f}(h:kz x f=ε)(k:∀a b p,f a b=ε->P (.Subscript a b p)):P x:=ba h λq h=>xf (motive_1:=λx=>∀q,xf (motive_1:=λ_=>Bool) x q _=ε->P x) x q (λa b p _=>k a b p) q h
@[elab_as_elim] theorem AH{f}(h:rS x f=ε)(k:∀a p,f a=ε->P (.Name a p)):P x:=ba h λq h=>xM (motive_1:=λx=>∀q,xM (motive_1:=λ_=>Bool) x q _=ε->P x) x q (λa p _=>k a p) q h
@[elab_as_elim] theorem ML{f}(h:Cg x f=ε)(k:∀a p,f a=ε->P (.List a p)):P x:=ba h λq h=>xN (motive_1:=λx=>∀q,xN (motive_1:=λ_=>Bool) x q _=ε->P x) x q (λa p _=>k a p) q h
@[elab_as_elim] theorem n3{f}(h:mw x f=ε)(k:∀a m p,f a=ε->P (.Tuple a m p)):P x:=ba h λq h=>tK (motive_1:=λx=>∀q,tK (motive_1:=λ_=>Bool) x q _=ε->P x) x q (λa m p _=>k a m p) q h
@[elab_as_elim] theorem zX{f}(h:vD x f=ε)(k:∀a b c p,f a b c=ε->P (.Slice a b c p)):P x:=ba h λq h=>xE (motive_1:=λx=>∀q,xE (motive_1:=λ_=>Bool) x q _=ε->P x) x q (λa b c p _=>k a b c p) q h
end
noncomputable def eQ{α:Type}(xs:List α)(f:α->Bool):Bool:=match xs with
 |[]=>ζ
 |x::r=>match r with
  |[]=>f x
  |_::_=>ζ
noncomputable def eE{α:Type}(xs:List α)(f:α->List α->Bool):Bool:=match xs with
 |[]=>ζ
 |x::r=>f x r
noncomputable def IN{α:Type}(x:Option α)(f:α->Bool):Bool:=match x with
 |none=>ζ
 |some x=>f x
noncomputable def oZ{α:Type}(xs:List α)(f:α->α->Bool):Bool:=eE xs λx r=>eQ r λy=>f x y
@[elab_as_elim] theorem gM{α:Type}{xs:List α}{f:α->Bool}{P:List α->Prop}(h:eQ xs f=ε)(k:∀x,f x=ε->P [x]):P xs:=by
 induction xs using ar with
 |nil=>exact Db h
 |cons x r=>induction r using ar with
  |nil=>exact k x h
  |cons _ _=>exact Db h
@[elab_as_elim] theorem ij{α:Type}{xs:List α}{f:α->List α->Bool}{P:List α->Prop}(h:eE xs f=ε)(k:∀x r,f x r=ε->P (x::r)):P xs:=by
 induction xs using ar with
 |nil=>exact Db h
 |cons x r=>exact k x r h
@[elab_as_elim] theorem nK{α:Type}{x:Option α}{f:α->Bool}{P:Option α->Prop}(h:IN x f=ε)(k:∀y,f y=ε->P (γ y)):P x:=by
 induction x with
 |none=>exact Db h
 |some x=>exact k x h
@[elab_as_elim] theorem sz{α:Type}{xs:List α}{f:α->α->Bool}{P:List α->Prop}(h:oZ xs f=ε)(k:∀x y,f x y=ε->P [x,y]):P xs:=
 ij h λx r h=>gM (P:=λr=>P (x::r)) h (k x)
theorem AI{α:Type}{xs:List α}{f:α->List α->Bool}(h:eE xs f=ε):∃x r,xs=x::r/\f x r=ε:=ij h λx r h=>⟨x,r,rfl,h⟩
theorem cD{α:Type}{x:Option α}{f:α->Bool}(h:IN x f=ε):∃y,x=γ y/\f y=ε:=nK h λy h=>⟨y,rfl,h⟩
noncomputable def fF(x:χ)(s:ψ)(b:Bool):Bool:=rS x λid=>id==s&&b
@[elab_as_elim] theorem gF{x:χ}{s:ψ}{b:Bool}{P:χ->Prop}(h:fF x s b=ε)(k:∀p,b=ε->P (.Name s p)):P x:=
 AH h λ_ p h=>eD h (k p)
noncomputable def kG(x:χ)(s:ψ)(f:χ->aK->Bool):Bool:=Cf x λy id p=>id==s&&f y p
@[elab_as_elim] theorem mi{x:χ}{s:ψ}{f}{P:χ->Prop}(h:kG x s f=ε)(k:∀y p,f y p=ε->P (.Attribute y s p)):P x:=
 MK h λy _ p h=>eD h (k y p)
noncomputable def o_(x:ψ):Bool:=x==("__debug__":ψ)
noncomputable def DR(x:ψ):Bool:=x==("__classdict__":ψ)
noncomputable def jv(sc:Ω)(x:ψ):Bool:=sc.names.lookup x==γ .globalImplicit
noncomputable def SA:CV->Const->Bool
 |.none,c=>c== .none
 |.bool b,c=>c== .bool b
 |.int i,c=>c== .int i
 |.str n,c=>c== .str (nm n)&&decide (n<Do.length)
 |_,_=>ζ
noncomputable def sA(x:χ):Bool:= !(ae x.ctorIdx 7)
noncomputable def jw:Bi->ψ
 |.len=>"len" |.list=>"list" |.set=>"set" |.set0=>"set" |.range=>"range" |.sorted=>"sorted" |.any=>"any" |.abs=>"abs" |.int=>"int"
noncomputable def Cj(lo:Bool)(sc:Ω)(n:Nat):Bool:=decide (n<Do.length)&&(sc.names.lookup (nm n)==γ .local || (!lo&&sc.names.lookup (nm n)==γ .cell))
noncomputable def CQ(scope sc:Ω)(caps:List Nat):Bool:=
 scope.kind== .function&&(decide ((scope.names.map (·.1)).Nodup)&&(scope.names.all (λp=>p.2 != NameKind.cell)&&(scope.names.all (λp=>p.2 != .free || sc.names.lookup p.1==γ .cell)&&caps.all λn=>scope.names.contains (nm n,NameKind.free))))
noncomputable def vY:E->Bool
 |.l _=>ε
 |.glob _=>ε
 |_=>ζ
noncomputable def DS:Bi->Nat
 |.set0=>0
 |_=>1
mutual
noncomputable def mE(at_:List Nat):E->Ω->χ->Bool
 |.i v,_,x=>vC x λc _=>SA v c
 |.l n,_,x=>fF x (nm n) (!o_ (nm n)&& !DR (nm n))
 |.glob i,sc,x=>IN (jA[i]?) λp=>fF x (nm p.1) (!o_ (nm p.1)&&jv sc (nm p.1))
 |.bin op a b,sc,x=>CO x λl o r=>o==gQ op&&(mE at_ a sc l&&mE at_ b sc r)
 |.neg a,sc,x=>wM x λo y=>o== .USub&&mE at_ a sc y
 |.not a,sc,x=>wM x λo y=>o== .Not&&mE at_ a sc y
 |.cmp op a b,sc,x=>wu x λl os rs=>eQ os λo=>eQ rs λr=>o==bW op&&(!lh (bW op) r&&(mE at_ a sc l&&mE at_ b sc r))
 |.cmp2 o1 o2 a b d,sc,x=>wu x λl os rs=>oZ os λp1 p2=>oZ rs λr1 r2=>p1==bW o1&&(p2==bW o2&&(!lh (bW o2) r2&&(mE at_ a sc l&&(mE at_ b sc r1&&mE at_ d sc r2))))
 |.and a es,sc,x=>vV x λo xs=>o== .And&&eE xs λy ys=>mE at_ a sc y&&fK at_ es sc ys
 |.or a es,sc,x=>vV x λo xs=>o== .Or&&eE xs λy ys=>mE at_ a sc y&&fK at_ es sc ys
 |.ite t a b,sc,x=>Ds x λu y z=>mE at_ t sc u&&(mE at_ a sc y&&mE at_ b sc z)
 |.tup es,sc,x=>mw x λxs=>fK at_ es sc xs
 |.list _ es,sc,x=>Cg x λxs=>fK at_ es sc xs
 |.set1 _ i,_,x=>CP x λxs n=>eQ xs λy=>vC y λc _=>ae n 0&&c== .int i
 |.dict0 _ _,_,x=>vW x λks vs=>ks.isEmpty&&vs.isEmpty
 |.dict1 a b,sc,x=>vW x λks vs=>eQ ks λy=>IN y λy=>eQ vs λz=>mE at_ a sc y&&mE at_ b sc z
 |.attr a n,sc,x=>kG x (nm n) λy _=>at_.contains n&&(e_ y&&mE at_ a sc y)
 |.sub a i,sc,x=>kz x λy z=>lO z&&(mE at_ a sc y&&mE at_ i sc z)
 |.lo a i,sc,x=>kz x λy z=>vD z λl u st=>mf y&&(vY a&&(u.isNone&&(st.isNone&&(mE at_ a sc y&&IN l λl=>mE at_ i sc l))))
 |.hi a i,sc,x=>kz x λy z=>vD z λl u st=>mf y&&(vY a&&(l.isNone&&(st.isNone&&(mE at_ a sc y&&IN u λu=>mE at_ i sc u))))
 |.call f es,sc,x=>f5 x λg args kw _=>fF g (nm f) (oA.contains f&&(!o_ (nm f)&&(jv sc (nm f)&&(kw.isEmpty&&fK at_ es sc args))))
 |.new f cls fz es,sc,x=>f5 x λg args kw _=>fF g (nm f) (oB.contains (f,cls)&&(!o_ (nm f)&&(jv sc (nm f)&&(kw.isEmpty&&(!args.isEmpty&&fK at_ es sc args)))))
 |.bi b cell es,sc,x=>f5 x λg args kw _=>fF g (jw b) (!o_ (jw b)&&(jv sc (jw b)&&(kw.isEmpty&&(vP b cell&&(fK at_ es sc args&&ae args.length (DS b))))))
 |.me m o a,sc,x=>f5 x λg args kw p=>kG g (gR m:String) λy ap=>e_ y&&(ap.endLine==p.line&&(kw.isEmpty&&(mE at_ o sc y&&eQ args λz=>Da z&&mE at_ a sc z)))
 |.pop o,sc,x=>f5 x λg args kw p=>kG g (gR .pop:String) λy ap=>e_ y&&(ap.endLine==p.line&&(kw.isEmpty&&(mE at_ o sc y&&args.isEmpty)))
 |.get o a b,sc,x=>f5 x λg args kw p=>kG g (gR .get:String) λy ap=>e_ y&&(ap.endLine==p.line&&(kw.isEmpty&&(mE at_ o sc y&&oZ args λz w=>Da z&&(Da w&&(mE at_ a sc z&&mE at_ b sc w)))))
 |.setdef o a b,sc,x=>f5 x λg args kw p=>kG g (gR .setdefault:String) λy ap=>e_ y&&(ap.endLine==p.line&&(kw.isEmpty&&(mE at_ o sc y&&oZ args λz w=>Da z&&(Da w&&(mE at_ a sc z&&mE at_ b sc w)))))
 |.comp _ caps _ t en it es gs,sc,x=>vX x λelt gens scope=>eE gens λg rest=>CQ scope sc caps&&(g.is_async==0&&(sA g.iter&&((!en || gL g.target)&&((match en with
   |false=>mE at_ it sc g.iter
   |true=>f5 g.iter λh args kw _=>fF h ("enumerate":ψ) (jv sc ("enumerate":ψ)&&(kw.isEmpty&&eQ args λz=>Da z&&mE at_ it sc z)))&&(mT at_ t (iM scope sc) ε g.target&&(fK at_ es (iM scope sc) g.ifs&&mG at_ gs (iM scope sc) rest elt))))))
noncomputable def fK(at_:List Nat):Es->Ω->List χ->Bool
 |.nil,_,xs=>xs.isEmpty
 |.cons a es,sc,xs=>eE xs λx xs=>Da x&&(mE at_ a sc x&&fK at_ es sc xs)
noncomputable def mG(at_:List Nat):Gs->Ω->List bR->χ->Bool
 |.last a,sc,rest,elt=>rest.isEmpty&&mE at_ a sc elt
 |.cons t en it es gs,sc,rest,elt=>eE rest λg rest=>g.is_async==0&&(sA g.iter&&((!en || gL g.target)&&((match en with
   |false=>mE at_ it sc g.iter
   |true=>f5 g.iter λh args kw _=>fF h ("enumerate":ψ) (jv sc ("enumerate":ψ)&&(kw.isEmpty&&eQ args λz=>Da z&&mE at_ it sc z)))&&(mT at_ t sc ε g.target&&(fK at_ es sc g.ifs&&mG at_ gs sc rest elt)))))
noncomputable def mT(at_:List Nat):T->Ω->Bool->χ->Bool
 |.name n,sc,lo,x=>fF x (nm n) (Cj lo sc n)
 |.attr a n,sc,lo,x=>kG x (nm n) λy _=>at_.contains n&&mE at_ a sc y
 |.sub a i,sc,lo,x=>kz x λy z=>mE at_ a sc y&&mE at_ i sc z
 |.tup ts,sc,lo,x=>mw x λxs=>w5 at_ ts sc lo xs
noncomputable def w5(at_:List Nat):Ts->Ω->Bool->List χ->Bool
 |.nil,_,_,xs=>xs.isEmpty
 |.cons t ts,sc,lo,xs=>eE xs λx xs=>Da x&&(mT at_ t sc lo x&&w5 at_ ts sc lo xs)
end
end Mine
end
section
open PySem PySem.W PyProof.Rows
namespace Mine
section
variable {X:Wd}{k:Nat}{Φ:Nat->Fn}{at_:List Nat}{sc:Ω}{a:χ}
noncomputable def Ck(x:χ):Bool:= !(ae x.ctorIdx 0 || (ae x.ctorIdx 3 || (ae x.ctorIdx 5 || ae x.ctorIdx 15)))
theorem Jy{ast:χ}(h:Ck ast=ε):∀env whole,ox ast env whole=(do let v ←whole;jr ast.pos;eB [v] (truthy v)):=by intro env whole;refine oT ?_ h;clear h;induction ast using cW<;>rfl
structure Dt(X:Wd):Prop where
 none:∀b,X.mg (jw b)=uF
 some:∀b,X.mb (jw b)=II (mC b)
 eNone:X.mg ("enumerate":ψ)=uF
 eSome:X.mb ("enumerate":ψ)=II (.type "enumerate")
structure tm(X:Wd) (k:Nat) (Φ:Nat->Fn) (at_:List Nat):Prop where
 F:iG X at_
 B:Dt X
 G:∀(i:Nat) (p:Nat×CV),jA[i]? =γ p->rP X p.1 p.2
 C:∀f,f∈oA->wo X (k+1) f (Φ f)
 N:∀f cls,(f,cls)∈oB->oG X k f cls (Φ f)
def Du(X:Wd) (k:Nat) (Φ:Nat->Fn) (sc:Ω) (a:χ) (e:Mine.E):Prop:=lw X k Φ sc a e/\bV X k Φ sc a e
def SD(X:Wd) (k:Nat) (Φ:Nat->Fn) (sc:Ω) (as:List χ) (es:Es):Prop:=dc X k Φ sc as es/\cy X k Φ sc as es/\as.all Da=ε
def RF(X:Wd) (k:Nat) (Φ:Nat->Fn) (sc:Ω) (lo:Bool) (as:List χ) (ts:Ts):Prop:=oF X k Φ sc lo as ts/\as.all Da=ε/\jH ts=as.length
def ty(X:Wd) (k:Nat) (Φ:Nat->Fn) (at_:List Nat) (e:Mine.E):Prop:=∀{sc:Ω} {a:χ},mE at_ e sc a=ε->Du X (k+2) Φ sc a e
def b7(X:Wd) (k:Nat) (Φ:Nat->Fn) (at_:List Nat) (es:Es):Prop:=∀{sc:Ω} {as:List χ},fK at_ es sc as=ε->SD X (k+2) Φ sc as es
def gT(X:Wd) (k:Nat) (Φ:Nat->Fn) (at_:List Nat) (gs:Gs):Prop:=∀{sc:Ω} {rest:List bR} {elt:χ},mG at_ gs sc rest elt=ε->mL X (k+2) Φ sc rest elt gs
def eM(X:Wd) (k:Nat) (Φ:Nat->Fn) (at_:List Nat) (t:T):Prop:=∀{sc:Ω} {lo:Bool} {a:χ},mT at_ t sc lo a=ε->fE X (k+2) Φ sc lo a t
def jC(X:Wd) (k:Nat) (Φ:Nat->Fn) (at_:List Nat) (ts:Ts):Prop:=∀{sc:Ω} {lo:Bool} {as:List χ},w5 at_ ts sc lo as=ε->RF X (k+2) Φ sc lo as ts
theorem bB{e:Mine.E}(m:lw X k Φ sc a e)(h:Ck a=ε):Du X k Φ sc a e:=⟨m,.of_plain m (Jy h)⟩
theorem TI{a:Bool}(h:(!a)=ε):a=ζ:=by induction a with
 |false=>rfl
 |true=>cases h
theorem j5(h:jv sc x=ε):sc.names.lookup x=γ .globalImplicit:=TM h
theorem uJ(h:sA iter=ε)(env:aa)(x:ι):m9 iter env x=pure x:=by refine oT ?_ h;clear h;have r:(pure x:aQ ι)=pure x:=rfl;induction iter using cW<;>first|exact r|rfl
theorem MM(h:CQ scope sc caps=ε):vT scope sc caps:=by refine kj h λh1 h2 h3 h4 h5=>?_;refine⟨TM h1,TN h2,λp hp=>TP.mp (cg.mp h3 p hp),λx hx=>?_,λn hn=>ak.mp (cg.mp h5 n hn)⟩;exact kF (cg.mp h4 (x,.free) hx) (λq=>absurd TK (TP.mp q)) TM
theorem zY{lo:Bool}{n:Nat}(h:Cj lo sc n=ε):n<Do.length/\(sc.names.lookup (nm n)=γ .local\/(lo=ζ/\sc.names.lookup (nm n)=γ .cell)):=
 Ps h λh1 h=>⟨TN h1,kF h (λq=>.inl (TM q)) λq=>.inr ⟨TI (jp q).1,TM (jp q).2⟩⟩
theorem AJ(h:vY e=ε):oE Φ e:=by
 refine DL ?_ h;clear h;induction e using Mine.E.casesOn with
 |l=>exact Kn
 |glob=>exact Jn
 |_=>exact trivial
theorem nA(h:xs.isEmpty=ε):xs=[]:=F6.mp h
theorem rT(h:x.isNone=ε):x=η:=xd.mp h
variable (C:tm X k Φ at_)
theorem sC(v:CV):ty X k Φ at_ (.i v):=λh=>zW h λc n p h=>bB (by
 induction v using CV.casesOn with
 |none=>exact wt (P:=λc=>lw X _ Φ _ (.Constant c n p) _) h LH
 |bool b=>exact wt (P:=λc=>lw X _ Φ _ (.Constant c n p) _) h LJ
 |int i=>exact wt (P:=λc=>lw X _ Φ _ (.Constant c n p) _) h N1
 |str s=>exact eD (P:=λc=>lw X _ Φ _ (.Constant c n p) _) h λh2=>N2 (TN h2)
 |_=>exact Db h) TK
theorem sD(n:Nat):ty X k Φ at_ (.l n):=λh=>gF h λp h=>Ps h λh2 h3=>bB (N3 (TI h2) (TI h3)) TK
include C in
theorem rU(i:Nat):ty X k Φ at_ (.glob i):=λ{sc x} h=>by refine f4 (cD h) λq hq h=>?_;exact gF h λp h=>Ps h λh2 h3=>bB (LK hq (TI h2) (j5 h3) (C.G i q hq)) TK
theorem sE(op:Op)(a b:Mine.E)(ha:ty X k Φ at_ a)(hb:ty X k Φ at_ b):ty X k Φ at_ (.bin op a b):=λh=>OF h λl o r p h=>eD h λh=>Ps h λh2 h3=>bB (Oc (ha h2).1 (hb h3).1) TK
theorem sF(a:Mine.E)(ha:ty X k Φ at_ a):ty X k Φ at_ (.neg a):=λh=>Ci h λo r p h=>eD h λh=>⟨Bs (ha h).1,.of_plain (Bs (ha h).1) λ_ _=>rfl⟩
theorem sG(a:Mine.E)(ha:ty X k Φ at_ a):ty X k Φ at_ (.not a):=λh=>Ci h λo r p h=>eD h λh=>⟨N5 (ha h).1,N6 (ha h).2⟩
theorem sH(op:Cm)(a b:Mine.E)(ha:ty X k Φ at_ a)(hb:ty X k Φ at_ b):ty X k Φ at_ (.cmp op a b):=λh=>BG h λl os rs p h=>gM h λo h=>gM h λr h=>eD h λh=>fk h λh2 h3 h4=>⟨Of (TI h2) (ha h3).1 (hb h4).1,Og (TI h2) (ha h3).1 (hb h4).1⟩
theorem rV(o1 o2:Cm)(a b d:Mine.E)(ha:ty X k Φ at_ a)(hb:ty X k Φ at_ b)(hd:ty X k Φ at_ d):ty X k Φ at_ (.cmp2 o1 o2 a b d):=λh=>BG h λl os rs p h=>sz h λp1 p2 h=>sz h λr1 r2 h=>eD h λh=>eD h λh=>gE h λh3 h4 h5 h6=>⟨Mk (TI h3) (ha h4).1 (hb h5).1 (hd h6).1,Mj (TI h3) (ha h4).1 (hb h5).1 (hd h6).1⟩
theorem sI(a:Mine.E)(es:Es)(ha:ty X k Φ at_ a)(TZ:b7 X k Φ at_ es):ty X k Φ at_ (.and a es):=λh=>AF h λo xs p h=>eD h λh=>ij h λy ys h=>Ps h λh2 h3=>⟨N8 (ha h2).1 (TZ h3).2.1,N9 (ha h2).2 (TZ h3).2.1⟩
theorem sX(a:Mine.E)(es:Es)(ha:ty X k Φ at_ a)(TZ:b7 X k Φ at_ es):ty X k Φ at_ (.or a es):=λh=>AF h λo xs p h=>eD h λh=>ij h λy ys h=>Ps h λh2 h3=>⟨P_ (ha h2).1 (TZ h3).2.1,Qa (ha h2).2 (TZ h3).2.1⟩
theorem sJ(t a b:Mine.E)(ht:ty X k Φ at_ t)(ha:ty X k Φ at_ a)(hb:ty X k Φ at_ b):ty X k Φ at_ (.ite t a b):=λh=>QB h λu y z p h=>fk h λh1 h2 h3=>⟨N7 (ht h1).2 (ha h2).1 (hb h3).1,Oy (ht h1).2 (ha h2).2 (hb h3).2⟩
theorem sL(es:Es)(TZ:b7 X k Φ at_ es):ty X k Φ at_ (.tup es):=λh=>n3 h λxs n p h=>bB (N4 (TZ h).1) TK
theorem rW(c:Bool)(es:Es)(TZ:b7 X k Φ at_ es):ty X k Φ at_ (.list c es):=λh=>ML h λxs p h=>bB (LM (TZ h).1) TK
theorem rX(c:Bool)(i:Int):ty X k Φ at_ (.set1 c i):=λh=>OG h λxs n p h=>gM h λy h=>zW h λv n' p' h=>Ps h λh1 h2=>by cases aU h1;cases TM h2;exact bB Mi TK
theorem rk(pr c:Bool):ty X k Φ at_ (.dict0 pr c):=λh=>AG h λks vs p h=>Ps h λh1 h2=>cG h1 (cG h2 (bB Kq TK))
theorem rm(a b:Mine.E)(ha:ty X k Φ at_ a)(hb:ty X k Φ at_ b):ty X k Φ at_ (.dict1 a b):=λh=>AG h λks vs p h=>gM h λy h=>nK h λy h=>gM h λz h=>Ps h λh1 h2=>bB (Kr (ha h1).1 (hb h2).1) TK
include C in
theorem rY(a:Mine.E)(n:Nat)(ha:ty X k Φ at_ a):ty X k Φ at_ (.attr a n):=λh=>mi h λy p h=>fk h λh2 h3 h4=>bB (LY C.F (ak.mp h2) h3 (ha h4).1) TK
theorem sM(a i:Mine.E)(ha:ty X k Φ at_ a)(hi:ty X k Φ at_ i):ty X k Φ at_ (.sub a i):=λh=>l6 h λy z p h=>fk h λh1 h2 h3=>bB (Oi h1 (ha h2).1 (hi h3).1) TK
theorem sY(a i:Mine.E)(ha:ty X k Φ at_ a)(hi:ty X k Φ at_ i):ty X k Φ at_ (.lo a i):=λh=>l6 h λy z p h=>zX h λl u st p' h=>km h λh1 h2 h3 h4 h5 h=>sy h3 (sy h4 (nK h λl h=>bB (Qj h1 (AJ h2) (ha h5).1 (hi h).1) TK))
theorem sZ(a i:Mine.E)(ha:ty X k Φ at_ a)(hi:ty X k Φ at_ i):ty X k Φ at_ (.hi a i):=λh=>l6 h λy z p h=>zX h λl u st p' h=>km h λh1 h2 h3 h4 h5 h=>sy h3 (sy h4 (nK h λl h=>bB (Qi h1 (AJ h2) (ha h5).1 (hi h).1) TK))
include C in
theorem rZ(f:Nat)(es:Es)(TZ:b7 X k Φ at_ es):ty X k Φ at_ (.call f es):=λh=>ig h λg args kw p h=>gF h λp' h=>kj h λh2 h3 h4 h5 h=>cG h5 (bB (Mx (TI h3) (j5 h4) (TZ h).2.2 (C.C f (ak.mp h2)) (TZ h).1) TK)
include C in
theorem sN(f cls:Nat)(fz:Bool)(es:Es)(TZ:b7 X k Φ at_ es):ty X k Φ at_ (.new f cls fz es):=λh=>
 ig h λg args kw p h=>gF h λp' h=>km h λh2 h3 h4 h5 h6 h9=>cG h5 (by
  have ne:args≠[]:=λe=>by rw[e]at h6;exact Db h6
  have N:=C.N f cls (ak.mp h2);induction fz with
  |true=>exact bB (MB C.F (TI h3) (j5 h4) (TZ h9).2.2 ne N (TZ h9).1) TK
  |false=>exact bB (MA C.F (TI h3) (j5 h4) (TZ h9).2.2 ne N (TZ h9).1) TK)
theorem Dv(h:cy X k Φ sc xs es)(e:δ xs=0):xs=[]/\es= .nil:=by
 cases h with
 |nil=>exact⟨rfl,rfl⟩
 |cons _ _ _=>exact nomatch e
theorem SE(h:cy X k Φ sc xs es)(e:δ xs=1):∃x e,xs=[x]/\es= .cons e .nil/\lw X k Φ sc x e:=by
 cases h with
 |nil=>exact nomatch e
 |cons ha _ hr=>obtain⟨rfl,rfl⟩:=Dv hr (c7 e);exact⟨_,_,rfl,rfl,ha⟩
theorem SF{b:Bi}(h:vO b=ζ):DS b=1:=by induction b<;>first|rfl|exact eH h
include C in
theorem QC(c:Bool)(es:Es)(TZ:b7 X k Φ at_ es):ty X k Φ at_ (.bi .set0 c es):=λh=>ig h λg args kw p h=>gF h λp' h=>km h λh3 h4 h5 h6 h7 h8=>cG h5 (by obtain⟨rfl,rfl⟩:=Dv (TZ h7).2.1 (aU h8);exact bB (L6 (TI h3) (j5 h4) (C.B.none .set0) (C.B.some .set0)) TK)
include C in
theorem RG(b:Bi)(c:Bool)(es:Es)(TZ:b7 X k Φ at_ es)(hb:vO b=ζ):ty X k Φ at_ (.bi b c es):=λh=>ig h λg args kw p h=>gF h λp' h=>km h λh3 h4 h5 h6 h7 h8=>cG h5 (by obtain⟨x,e,rfl,rfl,ha⟩:=SE (TZ h7).2.1 ((aU h8).trans (SF hb));exact bB (Ql h6 hb (TI h3) (j5 h4) (C.B.none b) (C.B.some b) (jp (TZ h7).2.2).1 ha) TK)
include C in
theorem s8(b:Bi)(c:Bool)(es:Es)(TZ:b7 X k Φ at_ es):ty X k Φ at_ (.bi b c es):=by
 induction b with
 |set0=>exact QC C c es TZ
 |_=>exact RG C _ c es TZ TK
theorem s9(me:Me)(o a:Mine.E)(ho:ty X k Φ at_ o)(ha:ty X k Φ at_ a):ty X k Φ at_ (.me me o a):=λh=>ig h λg args kw p h=>mi h λy ap h=>kj h λh2 h3 h4 h5 h=>cG h4 (gM h λz h=>Ps h λh6 h7=>bB (Qn h2 h3 h6 (ho h5).1 (ha h7).1) TK)
theorem sO(o:Mine.E)(ho:ty X k Φ at_ o):ty X k Φ at_ (.pop o):=λh=>ig h λg args kw p h=>mi h λy ap h=>kj h λh2 h3 h4 h5 h6=>cG h4 (cG h6 (bB (Oo h2 h3 (ho h5).1) TK))
theorem sP(o a b:Mine.E)(ho:ty X k Φ at_ o)(ha:ty X k Φ at_ a)(hb:ty X k Φ at_ b):ty X k Φ at_ (.get o a b):=λh=>ig h λg args kw p h=>mi h λy ap h=>kj h λh2 h3 h4 h5 h=>cG h4 (sz h λz w h=>gE h λh6 h7 h8 h9=>bB (Oq h2 h3 h6 h7 (ho h5).1 (ha h8).1 (hb h9).1) TK)
theorem qV(o a b:Mine.E)(ho:ty X k Φ at_ o)(ha:ty X k Φ at_ a)(hb:ty X k Φ at_ b):ty X k Φ at_ (.setdef o a b):=λh=>ig h λg args kw p h=>mi h λy ap h=>kj h λh2 h3 h4 h5 h=>cG h4 (sz h λz w h=>gE h λh6 h7 h8 h9=>bB (Jp h2 h3 h6 h7 (ho h5).1 (ha h8).1 (hb h9).1) TK)
noncomputable def DT(at_:List Nat)(en:Bool)(it:Mine.E)(sc:Ω)(iter:χ):Bool:=match en with
 |false=>mE at_ it sc iter
 |true=>f5 iter λh args kw _=>fF h ("enumerate":ψ) (jv sc ("enumerate":ψ)&&(kw.isEmpty&&eQ args λz=>Da z&&mE at_ it sc z))
include C in
theorem wx(hit:ty X k Φ at_ it)(h:DT at_ en it sc iter=ε):ku X (k+2) Φ sc en iter it:=by
 induction en with
 |false=>exact Qw (hit h).1
 |true=>exact ig h λg args kw p h=>gF h λp' h=>fk h λh2 h3 h=>cG h3 (gM h λz h=>Ps h λh4 h5=>ME (by decide+kernel) (j5 h2) C.B.eNone C.B.eSome h4 (hit h5).1)
theorem wN(h:(!en || b)=ε):en=ε->b=ε:=λe=>by rw[e]at h;exact h
omit C in
theorem AK{g:bR}{n:Nat}(h:g.is_async=n):g=⟨g.target,g.iter,g.ifs,n⟩:=by cases g;exact h▸rfl
include C in
theorem BH(ht:eM X k Φ at_ t)(hit:ty X k Φ at_ it)(TZ:b7 X k Φ at_ es)(Yh:gT X k Φ at_ gs)(h:mE at_ (.comp c caps own t en it es gs) sc x=ε):
  ∃elt target iter ifs rest scope p,x= .ListComp elt (⟨target,iter,ifs,0⟩::rest) scope p/\sx X (k+2) Φ sc elt target iter ifs rest scope t en it es gs caps:=
 MJ h λelt gens scope p h=>ij h λg rest h=>Ps h λh1 h=>vU h λh2 h3 h4 h5 h6 h7 h8=>by exact⟨elt,g.target,g.iter,g.ifs,rest,scope,p,TL (λg=>PySem.Expr.ListComp elt (g::rest) scope p) (AK (TM h2)),MM h1,wx C hit h5,uJ h3,ht h6,wN h4,(TZ h7).2.1,Yh h8⟩
include C in
theorem r0(c:Bool)(caps own:List Nat)(t:T)(en:Bool)(it:Mine.E)(es:Es)(gs:Gs)(ht:eM X k Φ at_ t)(hit:ty X k Φ at_ it)(TZ:b7 X k Φ at_ es)(Yh:gT X k Φ at_ gs):ty X k Φ at_ (.comp c caps own t en it es gs):=λh=>by obtain⟨elt,target,iter,ifs,rest,scope,p,rfl,M⟩:=BH C ht hit TZ Yh h;exact bB (MI M) TK
theorem sQ:b7 X k Φ at_ .nil:=λh=>cG h ⟨Bq,.nil,rfl⟩
theorem zo(h:Da x=ε)(hs:xs.all Da=ε):(x::xs).all Da=ε:=(aS _ _).mpr ⟨h,hs⟩
theorem r8(a:Mine.E)(es:Es)(ha:ty X k Φ at_ a)(TZ:b7 X k Φ at_ es):b7 X k Φ at_ (.cons a es):=λh=>ij h λx xs h=>fk h λh1 h2 h3=>⟨Aw h1 (ha h2).1 (TZ h3).1,.cons (ha h2).1 (ha h2).2 (TZ h3).2.1,zo h1 (TZ h3).2.2⟩
theorem r9(a:Mine.E)(ha:ty X k Φ at_ a):gT X k Φ at_ (.last a):=λh=>Ps h λh1 h=>cG h1 (.last (ha h).1)
include C in
theorem rn(t:T)(en:Bool)(it:Mine.E)(es:Es)(gs:Gs)(ht:eM X k Φ at_ t)(hit:ty X k Φ at_ it)(TZ:b7 X k Φ at_ es)(Yh:gT X k Φ at_ gs):gT X k Φ at_ (.cons t en it es gs):=λh=>ij h λg rest h=>vU h λh2 h3 h4 h5 h6 h7 h8=>by exists AK (TM h2),.cons (ht h6) (wN h4) (wx C hit h5) (uJ h3) (TZ h7).2.1 (Yh h8)
theorem rt(n:Nat):eM X k Φ at_ (.name n):=λh=>gF h λp h=>Mb (zY h).1 (zY h).2
include C in
theorem rx(a:Mine.E)(n:Nat)(ha:ty X k Φ at_ a):eM X k Φ at_ (.attr a n):=λh=>mi h λy p h=>Ps h λh2 h3=>Mf C.F (ak.mp h2) (ha h3).1
theorem r_(a i:Mine.E)(ha:ty X k Φ at_ a)(hi:ty X k Φ at_ i):eM X k Φ at_ (.sub a i):=λh=>l6 h λy z p h=>Ps h λh1 h2=>Ot (ha h1).1 (hi h2).1
theorem sd(ts:Ts)(hs:jC X k Φ at_ ts):eM X k Φ at_ (.tup ts):=λh=>n3 h λxs n p h=>Ov (hs h).2.1 (hs h).2.2 (hs h).1
theorem sf:jC X k Φ at_ .nil:=λh=>cG h ⟨Ou,rfl,rfl⟩
theorem rA(t:T)(ts:Ts)(ht:eM X k Φ at_ t)(We:jC X k Φ at_ ts):jC X k Φ at_ (.cons t ts):=λh=>ij h λx xs h=>fk h λh1 h2 h3=>⟨Mg h1 (ht h2) (We h3).1,zo h1 (We h3).2.1,TL (· +1) (We h3).2.2⟩
include C in
theorem dX(e:Mine.E):ty X k Φ at_ e:=
 Mine.E.rec (motive_1:=ty X k Φ at_) (motive_2:=b7 X k Φ at_) (motive_3:=gT X k Φ at_) (motive_4:=eM X k Φ at_) (motive_5:=jC X k Φ at_)
  sC sD (rU C) sE sF sG sH rV sI sX sJ sL rW rX rk rm (rY C) sM sY sZ (rZ C) (sN C) (s8 C) s9 sO sP qV (r0 C) sQ r8 r9 (rn C) rt (rx C) r_ sd sf rA e
include C in
theorem vZ(e:Es):b7 X k Φ at_ e:=
 Mine.Es.rec (motive_1:=ty X k Φ at_) (motive_2:=b7 X k Φ at_) (motive_3:=gT X k Φ at_) (motive_4:=eM X k Φ at_) (motive_5:=jC X k Φ at_)
  sC sD (rU C) sE sF sG sH rV sI sX sJ sL rW rX rk rm (rY C) sM sY sZ (rZ C) (sN C) (s8 C) s9 sO sP qV (r0 C) sQ r8 r9 (rn C) rt (rx C) r_ sd sf rA e
include C in
theorem RH(e:Gs):gT X k Φ at_ e:=
 Mine.Gs.rec (motive_1:=ty X k Φ at_) (motive_2:=b7 X k Φ at_) (motive_3:=gT X k Φ at_) (motive_4:=eM X k Φ at_) (motive_5:=jC X k Φ at_)
  sC sD (rU C) sE sF sG sH rV sI sX sJ sL rW rX rk rm (rY C) sM sY sZ (rZ C) (sN C) (s8 C) s9 sO sP qV (r0 C) sQ r8 r9 (rn C) rt (rx C) r_ sd sf rA e
include C in
theorem sR(e:T):eM X k Φ at_ e:=
 Mine.T.rec (motive_1:=ty X k Φ at_) (motive_2:=b7 X k Φ at_) (motive_3:=gT X k Φ at_) (motive_4:=eM X k Φ at_) (motive_5:=jC X k Φ at_)
  sC sD (rU C) sE sF sG sH rV sI sX sJ sL rW rX rk rm (rY C) sM sY sZ (rZ C) (sN C) (s8 C) s9 sO sP qV (r0 C) sQ r8 r9 (rn C) rt (rx C) r_ sd sf rA e
end
end Mine
end
section
open PySem PySem.W PyProof.Rows
namespace Mine
variable {X:Wd}{k:Nat}{Φ:Nat->Fn}{at_:List Nat}{sc:Ω}{env:aa}
noncomputable def bk(n:Nat)(x:χ):Bool:=ae x.ctorIdx n
noncomputable def sg(x:χ):Bool:= !(bk 8 x || (bk 9 x || bk 10 x))
theorem Kz{x:χ}(h:bk 16 x=ε):sg x=ε:=by unfold sg bk;rw[aU h];rfl
theorem AL{v:χ}{t:Option χ}{line:Nat}(h:sg v=ε):lH v t line env=pure ζ:=by refine oT ?_ h;clear h;have r:(pure ζ:aQ Bool)=pure ζ:=rfl;induction v using cW<;>first|exact r|rfl
theorem KA{a elt:χ}{gens:List bR}{scope:Ω}{p:aK}{line:Nat}(h:bk 23 a=ζ):lH (.ListComp elt gens scope p) (γ a) line env=pure ζ:=by refine wY ?_ h;clear h;have r:(pure ζ:aQ Bool)=pure ζ:=rfl;induction a using cW<;>first|exact r|rfl
theorem Jz{id:ψ}{elt:χ}{gens:List bR}{scope:Ω}{np p:aK}{line:Nat}(hs:env.scope=sc)(hk:env.scope.kind= .function)(h1:sc.names.lookup id=γ .local)(h2:(np.line==p.line)=ε)(h3:(scope.names.any λ(n,k)=>n==id&&(k== .local || k== .cell))=ζ):
  lH (.ListComp elt gens scope p) (γ (.Name id np)) line env=pure ε:=by
 have hb:env.blockKind= .function:=by unfold Env.blockKind;rw[hk];try rfl
 show pure (env.blockKind== .function&&env.kindOf id==γ .local&&np.line==p.line&& !(scope.names.any λ(n,k)=>n==id&&(k== .local || k== .cell)))=_;rw[hb,h2,h3,show env.kindOf id=γ .local by unfold Env.kindOf;rw[hs];exact h1];rfl
theorem JA{id:ψ}{elt:χ}{gens:List bR}{scope:Ω}{np p:aK}{line:Nat}(hs:env.scope=sc)(h1:(sc.names.lookup id==γ NameKind.local)=ζ):
  lH (.ListComp elt gens scope p) (γ (.Name id np)) line env=pure ζ:=by
 show pure (env.blockKind== .function&&env.kindOf id==γ .local&&np.line==p.line&& !(scope.names.any λ(n,k)=>n==id&&(k== .local || k== .cell)))=_;rw[show(env.kindOf id==γ NameKind.local)=ζ by unfold Env.kindOf;rw[hs];exact h1,k8];rfl
theorem yP{a v:χ}(h:(!(bk 24 a || bk 25 a))=ε):gq [a] v env=pure η:=by refine oT ?_ h;clear h;have r:(pure η:aQ (Option (List ψ)))=pure η:=rfl;induction a using cW<;>first|exact r|rfl
theorem yG{ts:List χ}{n:Nat}{tp:aK}{v:χ}(h:bk 25 v=ζ):gq [.Tuple ts n tp] v env=pure η:=by refine wY ?_ h;clear h;have r:(pure η:aQ (Option (List ψ)))=pure η:=rfl;induction v using cW<;>first|exact r|rfl
noncomputable def n4(sc:Ω)(x:χ):Bool:=rS x λid=>sc.names.lookup id==γ .local
noncomputable def nu(sc:Ω)(ts:List χ):Bool:=ts.any λt=> !n4 sc t
theorem OH{f:χ->Option ψ}(hf:∀t,n4 sc t=ζ->f t=η){ts:List χ}(h:nu sc ts=ε):(ts.filterMap f).length<δ ts:=by
 induction ts with
 |nil=>cases h
 |cons t ts ih=>
  cases q:n4 sc t with
  |false=>rw[Et (hf t q)];exact tX (List.length_filterMap_le _ _)
  |true=>
   have h':nu sc ts=ε:=(by have h2:(!n4 sc t || nu sc ts)=ε:=h;rw[q]at h2;exact h2);have:=ih h';cases q:f t with
   |none=>rw[Et q];exact kX this
   |some y=>rw[xi q];exact jW this
theorem AM{α:Sort u}{c:Prop}[Decidable c]{x y:α}(h:y=x):(if c then x else y)=x:=by
 by_cases q:c
 ·exact TG q
 ·exact(TH q).trans h
theorem KC{x:χ}(h:bk 25 x=ε):∃a b p,x= .Tuple a b p:=by exact tK (motive_1:=λx=>∃a b p,x= .Tuple a b p) x (aU h) λa b p=>⟨a,b,p,rfl⟩
theorem It{ts:List χ}{n:Nat}{tp:aK}{v:χ}(hs:env.scope=sc)(h:nu sc ts=ε):gq [.Tuple ts n tp] v env=pure η:=by
 cases q:bk 25 v with
 |false=>exact yG q
 |true=>
  obtain⟨_,_,_,rfl⟩:=KC q;clear q;unfold gq;dsimp only;refine AM (AM (TG ?_));rw[pU];refine .inl (TP.mpr (fT (OH (sc:=sc) (λt ht=>wY (b:=n4 sc t) ?_ ht) h)));clear h ht;have r:(η:Option ψ)=η:=rfl;induction t using cW<;>first|exact r|skip
  rename_i id p;show(if(env.kindOf id==γ .local&&_)=ε then γ id else η)=cond (sc.names.lookup id==γ .local) (if(env.kindOf id==γ .local&&_)=ε then γ id else η) η;rw[show env.kindOf id=sc.names.lookup id by unfold Env.kindOf;rw[hs]];cases sc.names.lookup id==γ .local<;>rfl
noncomputable def vE(sc:Ω)(ts vs:List χ):Option (List ψ):=
 let line:=(ts.head?.map (·.pos.line)).getD 0;let names:=ts.filterMap λx=>swappedStores.match_8 (λ_=>Option ψ) x (λid pos=>if sc.names.lookup id==γ .local&&pos.line==line then γ id else η) λ_=>η
 if !(δ ts==2 || δ ts==3) || δ vs != δ ts then η
 else if vs.any λx=>swappedStores.match_5 (λ_=>Bool) x (λ_ _=>ε) λ_=>ζ then η
 else if names.length != δ ts || names.eraseDups.length != names.length then η
 else if vs.all (foldedForSure 8)then η
 else if vs.all (constantsAlone 8)then η
 else γ names
theorem nL{α:Type}{c:Prop}[Decidable c]{x:Option α}{y:α}(h:(if c then η else x)=γ y):¬c/\x=γ y:=by
 by_cases q:c
 ·rw[TG q]at h;cases h
 ·rw[TH q]at h;exact⟨q,h⟩
theorem yQ{ts vs:List χ}{n m:Nat}{tp vp:aK}{ns:List ψ}(hs:env.scope=sc)(hk:env.scope.kind= .function)(h:vE sc ts vs=γ ns):gq [.Tuple ts n tp] (.Tuple vs m vp) env=pure (γ ns):=by
 subst hs;have hb:env.blockKind= .function:=by unfold Env.blockKind;rw[hk];rfl
 refine on (nL h) λh1 h=>?_;refine on (nL h) λh2 h=>?_;refine on (nL h) λh3 h=>?_;refine on (nL h) λh4 h=>?_;refine on (nL h) λh5 h=>?_;have h:=ω h;subst h;unfold gq;dsimp only;refine(TH (λq=>h1 ?_)).trans ((TH (λq=>h2 q)).trans ((TH (λq=>h3 q)).trans ((TH (λq=>h4 q)).trans ((TH (λq=>h5 q)).trans TK))));rw[hb,show((Fk != Fk)=ζ)from rfl,p_]at q;exact q
set_option backward.match.sparseCases false
section
variable (x:bY)
noncomputable def CR(f:Option χ->Bool):Bool:=if h:x.ctorIdx=3 then xt (motive_2:=λ_=>Bool) x h λa _=>f a else ζ
noncomputable def CS(f:List χ->Bool):Bool:=if h:x.ctorIdx=4 then xu (motive_2:=λ_=>Bool) x h λa _=>f a else ζ
noncomputable def CT(f:List χ->χ->aK->Bool):Bool:=if h:x.ctorIdx=5 then xv (motive_2:=λ_=>Bool) x h f else ζ
noncomputable def wy(f:χ->Operator->χ->Bool):Bool:=if h:x.ctorIdx=7 then xg (motive_2:=λ_=>Bool) x h λa b c _=>f a b c else ζ
noncomputable def CU(f:χ->χ->List bY->List bY->Bool):Bool:=if h:x.ctorIdx=9 then xR (motive_2:=λ_=>Bool) x h λa b c d _=>f a b c d else ζ
noncomputable def CW(f:χ->List bY->List bY->Bool):Bool:=if h:x.ctorIdx=11 then xF (motive_2:=λ_=>Bool) x h λa b c _=>f a b c else ζ
noncomputable def CX(f:χ->List bY->List bY->Bool):Bool:=if h:x.ctorIdx=12 then xV (motive_2:=λ_=>Bool) x h λa b c _=>f a b c else ζ
noncomputable def Dw(f:χ->Bool):Bool:=if h:x.ctorIdx=24 then xO (motive_2:=λ_=>Bool) x h λa _=>f a else ζ
end
section
variable {x:bY}{P:bY->Prop}
@[elab_as_elim] theorem OI{f}(h:CR x f=ε)(k:∀a p,f a=ε->P (.Return a p)):P x:=ba h λq h=>xt (motive_2:=λx=>∀q,xt (motive_2:=λ_=>Bool) x q _=ε->P x) x q (λa p _=>k a p) q h
@[elab_as_elim] theorem OJ{f}(h:CS x f=ε)(k:∀a p,f a=ε->P (.Delete a p)):P x:=ba h λq h=>xu (motive_2:=λx=>∀q,xu (motive_2:=λ_=>Bool) x q _=ε->P x) x q (λa p _=>k a p) q h
@[elab_as_elim] theorem OK{f}(h:CT x f=ε)(k:∀a b d,f a b d=ε->P (.Assign a b d)):P x:=ba h λq h=>xv (motive_2:=λx=>∀q,xv (motive_2:=λ_=>Bool) x q _=ε->P x) x q (λa b d _=>k a b d) q h
@[elab_as_elim] theorem BI{f}(h:wy x f=ε)(k:∀a b c p,f a b c=ε->P (.AugAssign a b c p)):P x:=ba h λq h=>xg (motive_2:=λx=>∀q,xg (motive_2:=λ_=>Bool) x q _=ε->P x) x q (λa b c p _=>k a b c p) q h
@[elab_as_elim] theorem OL{f}(h:CU x f=ε)(k:∀a b c d p,f a b c d=ε->P (.For a b c d p)):P x:=ba h λq h=>xR (motive_2:=λx=>∀q,xR (motive_2:=λ_=>Bool) x q _=ε->P x) x q (λa b c d p _=>k a b c d p) q h
@[elab_as_elim] theorem OM{f}(h:CW x f=ε)(k:∀a b c p,f a b c=ε->P (.While a b c p)):P x:=ba h λq h=>xF (motive_2:=λx=>∀q,xF (motive_2:=λ_=>Bool) x q _=ε->P x) x q (λa b c p _=>k a b c p) q h
@[elab_as_elim] theorem ON{f}(h:CX x f=ε)(k:∀a b c p,f a b c=ε->P (.If a b c p)):P x:=ba h λq h=>xV (motive_2:=λx=>∀q,xV (motive_2:=λ_=>Bool) x q _=ε->P x) x q (λa b c p _=>k a b c p) q h
@[elab_as_elim] theorem QD{f}(h:Dw x f=ε)(k:∀a p,f a=ε->P (.Expr a p)):P x:=ba h λq h=>xO (motive_2:=λx=>∀q,xO (motive_2:=λ_=>Bool) x q _=ε->P x) x q (λa p _=>k a p) q h
theorem MN(h:ae x.ctorIdx 27=ε):∃p,x= .Continue p:=by exact Tz (motive_2:=λx=>∃p,x= .Continue p) x (aU h) λp=>⟨p,rfl⟩
end
theorem AN{x:χ}(h:bk 8 x=ε):∃a b c p,x= .ListComp a b c p:=by exact tF (motive_1:=λx=>∃a b c p,x= .ListComp a b c p) x (aU h) λa b c p=>⟨a,b,c,p,rfl⟩
noncomputable def wz:T->Option Nat|.name n=>γ n|_=>η
noncomputable def tupE:Mine.E->Option Es|.tup es=>γ es|_=>η
noncomputable def s_:T->Option (Nat×Nat)
 |.tup (.cons (.name x) (.cons (.name y) .nil))=>γ (x,y)
 |_=>η
noncomputable def si:T->Option (Nat×Nat×Nat)
 |.tup (.cons (.name x) (.cons (.name y) (.cons (.name w) .nil)))=>γ (x,y,w)
 |_=>η
noncomputable def BJ:Mine.E->Bool|.comp ..=>ε|_=>ζ
theorem KD{e:Mine.E}(h:BJ e=ε):∃c caps own t en it es gs,e= .comp c caps own t en it es gs:=by refine DL ?_ h;clear h;induction e using Mine.E.casesOn<;>first|exact trivial|exact⟨_,_,_,_,_,_,_,_,rfl⟩
noncomputable def kH(sc:Ω)(n:Nat):Bool:=decide (n<Do.length)&&sc.names.lookup (nm n)==γ .local
noncomputable def RI(t:T)(e:Mine.E)(sc:Ω)(a v:χ):Bool:=BJ e&&((a.pos.line==v.pos.line)&&IN (wz t) λn=>fF a (nm n) (kH sc n&&vX v λ_ _ s=> !(s.names.any λ(m,k)=>m==nm n&&(k== .local || k== .cell))))
noncomputable def Dx(sc:Ω)(a v:χ):Bool:= !(bk 24 a || bk 25 a) || mw a λts=> !(bk 25 v) || nu sc ts
noncomputable def CY(sc:Ω)(p:Nat×Nat)(ts vs:List χ):Bool:=kH sc p.1&&(kH sc p.2&&(p.1 != p.2&&vE sc ts vs==γ [nm p.1,nm p.2]))
noncomputable def CZ(sc:Ω)(p:Nat×Nat×Nat)(ts vs:List χ):Bool:=kH sc p.1&&(kH sc p.2.1&&(kH sc p.2.2&&(p.1 != p.2.1&&(p.1 != p.2.2&&(p.2.1 != p.2.2&&vE sc ts vs==γ [nm p.1,nm p.2.1,nm p.2.2])))))
noncomputable def RJ(at_:List Nat)(t:T)(e:Mine.E)(sc:Ω)(a v:χ):Bool:=mw a λts=>mw v λvs=>IN (tupE e) λes=>fK at_ es sc vs&&(IN (s_ t) (λp=>CY sc p ts vs) || IN (si t) λp=>CZ sc p ts vs)
noncomputable def Dy(at_:List Nat)(t:T)(e:Mine.E)(sc:Ω)(a v:χ):Bool:=RI t e sc a v || ((rS a λid=> !(sc.names.lookup id==γ .local))&&mT at_ t sc ζ a)
noncomputable def Dz(at_:List Nat)(t:T)(e:Mine.E)(sc:Ω)(a v:χ):Bool:=(Dx sc a v&&mT at_ t sc ζ a) || RJ at_ t e sc a v
noncomputable def SG(at_:List Nat)(t:T)(e:Mine.E)(sc:Ω)(a v:χ):Bool:=Da a&&(mE at_ e sc v&&match bk 8 v&&bk 23 a with
 |true=>Dy at_ t e sc a v
 |false=>(bk 8 v || sg v)&&Dz at_ t e sc a v)
mutual
noncomputable def mS(at_:List Nat):S->Ω->bY->Bool
 |.g t e,sc,x=>CT x λts v _=>eQ ts λa=>SG at_ t e sc a v
 |.aug n op e,sc,x=>wy x λt o v=>fF t (nm n) (o==gQ op&&(decide (n<Do.length)&&(!DR (nm n)&&((sc.names.lookup (nm n)==γ .local || sc.names.lookup (nm n)==γ .cell)&&mE at_ e sc v))))
 |.augSub a i op e,sc,x=>wy x λt o v=>kz t λy z=>o==gQ op&&(lO z&&(mE at_ a sc y&&(mE at_ i sc z&&mE at_ e sc v)))
 |.ex e,sc,x=>Dw x λv=>bk 16 v&&mE at_ e sc v
 |.ret e,sc,x=>CR x λv=>IN v λv=>mE at_ e sc v
 |.ife t a b,sc,x=>CX x λu y z=>mE at_ t sc u&&(dK at_ a sc y&&dK at_ b sc z)
 |.whl t b,sc,x=>CW x λu y z=>mE at_ t sc u&&(z.isEmpty&&dK at_ b sc y)
 |.for t en it b,sc,x=>CU x λa i y z=>sA i&&((!en || gL a)&&(z.isEmpty&&(mT at_ t sc ζ a&&(DT at_ en it sc i&&dK at_ b sc y))))
 |.del a i,sc,x=>CS x λts=>eQ ts λt=>kz t λy z=>mE at_ a sc y&&mE at_ i sc z
 |.cont,_,x=>ae x.ctorIdx 27
 |.frz _,_,_=>ζ
noncomputable def dK(at_:List Nat):Ss->Ω->List bY->Bool
 |.nil,_,xs=>xs.isEmpty
 |.cons s ss,sc,xs=>match s with
  |.frz _=>dK at_ ss sc xs
  |s=>eE xs λx xs=>mS at_ s sc x&&dK at_ ss sc xs
end
def eN(X:Wd) (k:Nat) (Φ:Nat->Fn) (at_:List Nat) (t:S):Prop:=∀{sc:Ω} {x:bY},sc.kind= .function->mS at_ t sc x=ε->bz X (k+2) Φ sc x t
def iH(X:Wd) (k:Nat) (Φ:Nat->Fn) (at_:List Nat) (ts:Ss):Prop:=∀{sc:Ω} {xs:List bY},sc.kind= .function->dK at_ ts sc xs=ε->dW X (k+2) Φ sc xs ts
variable (C:tm X k Φ at_)
theorem JB{t:T}{n:Nat}(h:wz t=γ n):t= .name n:=cT (o:=wz t) (P:=λn=>t= .name n) (by clear h;cases t<;>first|exact trivial|rfl) h
theorem KE{t:T}{p}(h:s_ t=γ p):t= .tup (.cons (.name p.1) (.cons (.name p.2) .nil)):=by
 have:∀ts:Ts,s_ (.tup ts)=γ p->T.tup ts= .tup (.cons (.name p.1) (.cons (.name p.2) .nil)):=λts=>by
  induction ts using Ts.casesOn with
  |nil=>exact λh=>pt h
  |cons a r=>
   cases a<;>first|exact λh=>pt h|skip
   induction r using Ts.casesOn with
   |nil=>exact λh=>pt h
   |cons b r=>
    cases b<;>first|exact λh=>pt h|skip
    induction r using Ts.casesOn with
    |nil=>exact λh=>ω h▸rfl
    |cons _ _=>exact λh=>pt h
 cases t<;>first|exact this _ h|exact pt h
theorem Iu{t:T}{p}(h:si t=γ p):t= .tup (.cons (.name p.1) (.cons (.name p.2.1) (.cons (.name p.2.2) .nil))):=by
 have:∀ts:Ts,si (.tup ts)=γ p->T.tup ts= .tup (.cons (.name p.1) (.cons (.name p.2.1) (.cons (.name p.2.2) .nil))):=λts=>by
  induction ts using Ts.casesOn with
  |nil=>exact λh=>pt h
  |cons a r=>
   cases a<;>first|exact λh=>pt h|skip
   induction r using Ts.casesOn with
   |nil=>exact λh=>pt h
   |cons b r=>
    cases b<;>first|exact λh=>pt h|skip
    induction r using Ts.casesOn with
    |nil=>exact λh=>pt h
    |cons d r=>
     cases d<;>first|exact λh=>pt h|skip
     induction r using Ts.casesOn with
     |nil=>exact λh=>ω h▸rfl
     |cons _ _=>exact λh=>pt h
 cases t<;>first|exact this _ h|exact pt h
theorem eF{n:Nat}(h:kH sc n=ε):n<Do.length/\sc.names.lookup (nm n)=γ .local:=(on (jp h) λa b=>⟨TN a,TM b⟩)
include C in
theorem OO{t:T}{e:Mine.E}{a v:χ}{pos:aK}(h1:Da a=ε)(he:mE at_ e sc v=ε)(q:(bk 8 v&&bk 23 a)=ε)(h:Dy at_ t e sc a v=ε):bz X (k+2) Φ sc (.Assign [a] v pos) (.g t e):=kF h
 (λh=>fk h λq1 q4 h=>by refine f4 (cD h) λn hn h=>?_;cases JB hn;refine gF (P:=λa=>(a.pos.line==v.pos.line)=ε->bz X (k+2) Φ sc (.Assign [a] v pos) (.g (.name n) e)) h (λnp h q4=>Ps h λq3 h3=>?_) q4;obtain⟨c,caps,own,t,en,it,es,gs,rfl⟩:=KD q1;obtain⟨elt,target,iter,ifs,rest,scope,p,rfl,M⟩:=BH C (sR C t) (dX C it) (vZ C es) (RH C gs) he;exact Ir (eF q3).1 (eF q3).2 (λenv hs Yi=>Jz hs Yi (eF q3).2 q4 (TI h3)) M)
 (λh=>Ps h λh4 h5=>by obtain⟨_,_,_,_,rfl⟩:=AN (jp q).1;have iv:=dX C e he;exact AH (P:=λa=>Da a=ε->mT at_ t sc ζ a=ε->bz X (k+2) Φ sc (.Assign [a] _ pos) (.g t e)) h4 (λid np h4 h1 h5=>Cc (λenv hs=>JA (line:=pos.line) hs (TI h4)) (λenv hs=>yP TK) h1 iv.1 (sR C t h5)) h1 h5)
theorem OP{a v:χ}{env:aa}(hs:env.scope=sc)(h:Dx sc a v=ε):gq [a] v env=pure η:=
 kF h yP λh=>n3 h λts n p h=>kF h (λh=>yG (TI h)) (It hs)
theorem MO{t:T}{es:Es}{ts vs:List χ}{n n':Nat}{tp vp pos:aK}(UG:∀env:aa,env.scope=sc->hJ [.Tuple ts n tp] (.Tuple vs n' vp) pos.line env=pure ζ)(hv:dc X (k+2) Φ sc vs es)(h:IN (s_ t) (λp=>CY sc p ts vs)=ε):bz X (k+2) Φ sc (.Assign [.Tuple ts n tp] (.Tuple vs n' vp) pos) (.g t (.tup es)):=by refine f4 (cD h) λp ht h=>?_;rw[KE ht];exact gE h λr1 r2 r3 r4=>Mn (eF r1).1 (eF r2).1 (TP.mp r3) (eF r1).2 (eF r2).2 UG (λenv hs Yi=>yQ hs Yi (TM r4)) hv
theorem MP{t:T}{es:Es}{ts vs:List χ}{n n':Nat}{tp vp pos:aK}(UG:∀env:aa,env.scope=sc->hJ [.Tuple ts n tp] (.Tuple vs n' vp) pos.line env=pure ζ)(hv:dc X (k+2) Φ sc vs es)(h:IN (si t) (λp=>CZ sc p ts vs)=ε):bz X (k+2) Φ sc (.Assign [.Tuple ts n tp] (.Tuple vs n' vp) pos) (.g t (.tup es)):=by refine f4 (cD h) λp ht h=>?_;rw[Iu ht];exact vU h λr1 r2 r3 r4 r5 r6 r7=>Mp (eF r1).1 (eF r2).1 (eF r3).1 (TP.mp r4) (TP.mp r5) (TP.mp r6) (eF r1).2 (eF r2).2 (eF r3).2 UG (λenv hs Yi=>yQ hs Yi (TM r7)) hv
@[elab_as_elim] theorem QE{P:Mine.E->Prop}{e:Mine.E}{f:Es->Bool}(h:IN (tupE e) f=ε)(k:∀es,f es=ε->P (.tup es)):P e:=by refine f4 (cD h) λes q h=>?_;have q:e= .tup es:=cT (P:=λes=>e= .tup es) (by clear h q k;induction e using Mine.E.casesOn<;>first|exact trivial|rfl) q;subst q;exact k es h
include C in
theorem OQ{t:T}{e:Mine.E}{a v:χ}{pos:aK}(h1:Da a=ε)(he:mE at_ e sc v=ε)(UG:∀env:aa,env.scope=sc->hJ [a] v pos.line env=pure ζ)(h:Dz at_ t e sc a v=ε):bz X (k+2) Φ sc (.Assign [a] v pos) (.g t e):=kF h
 (λh=>Ps h λh4 h5=>Cc UG (λenv hs=>OP hs h4) h1 (dX C e he).1 (sR C t h5))
 (λh=>n3 (P:=λa=>(∀env:aa,env.scope=sc->hJ [a] v pos.line env=pure ζ)->bz X (k+2) Φ sc (.Assign [a] v pos) (.g t e)) h (λts n p h=>n3 (P:=λv=>(∀env:aa,env.scope=sc->hJ [.Tuple ts n p] v pos.line env=pure ζ)->bz X (k+2) Φ sc (.Assign [.Tuple ts n p] v pos) (.g t e)) h λvs n' p' h UG=>QE h λes h=>Ps h λh5 h=>kF h (MO UG (vZ C es h5).1) (MP UG (vZ C es h5).1)) UG)
include C in
theorem RK(t:T)(e:Mine.E):eN X k Φ at_ (.g t e):=λ{sc x} hk h=>OK h λts v pos h=>gM h λa h=>fk h λh1 h2 h3=>by
 cases q:bk 8 v&&bk 23 a with
 |true=>rw[q]at h3;exact OO C h1 h2 q h3
 |false=>
  rw[q]at h3;refine Ps h3 λq1 h3=>OQ C h1 h2 (λenv hs=>(?_:lH v (γ a) pos.line env=pure ζ)) h3;cases q':bk 8 v with
  |false=>rw[q']at q1;exact AL q1
  |true=>rw[q']at q;obtain⟨_,_,_,_,rfl⟩:=AN q';exact KA q
include C in
theorem RL(n:Nat)(op:Op)(e:Mine.E):eN X k Φ at_ (.aug n op e):=λhk h=>BI h λt o v p h=>gF h λp' h=>eD h λh=>gE h λh3 h4 h5 h6=>Qt (TN h3) (TI h4) (((pU _ _).mp h5).imp TM TM) (dX C e h6).1
theorem GF{z:χ}(h:lO z=ε)(ov iv new:ι):augStore z ov iv new=(do eB [new,ov,iv] (ki ov iv new);release [new,ov,iv] [];pure .next):=by refine oT ?_ h;clear h;generalize r:(do eB [new,ov,iv] (ki ov iv new);release [new,ov,iv] [];pure .next:aQ Flow)=g;induction z using cW<;>first|exact r|rfl
include C in
theorem MQ(a i:Mine.E)(op:Op)(e:Mine.E):eN X k Φ at_ (.augSub a i op e):=λhk h=>BI h λt o v p h=>l6 h λy z p' h=>eD h λh=>gE h λh2 h3 h4 h5=>Ko (GF h2) (dX C a h3).1 (dX C i h4).1 (dX C e h5).1
include C in
theorem SH(e:Mine.E):eN X k Φ at_ (.ex e):=λhk h=>QD h λv p h=>Ps h λh1 h2=>RA h1 (λenv _=>AL (Kz h1)) (dX C e h2).1
include C in
theorem RM(e:Mine.E):eN X k Φ at_ (.ret e):=λhk h=>OI h λv p h=>nK h λv h=>Qp (dX C e h).1
include C in
theorem RN(t:Mine.E)(a b:Ss)(ha:iH X k Φ at_ a)(hb:iH X k Φ at_ b):eN X k Φ at_ (.ife t a b):=λhk h=>ON h λu y z p h=>fk h λh1 h2 h3=>Qq (dX C t h1).2 (ha hk h2) (hb hk h3)
include C in
theorem RO(t:Mine.E)(b:Ss)(hb:iH X k Φ at_ b):eN X k Φ at_ (.whl t b):=λhk h=>OM h λu y z p h=>fk h λh1 h2 h3=>cG h2 (Qr (dX C t h1).2 (hb hk h3))
include C in
theorem RP(t:T)(en:Bool)(it:Mine.E)(b:Ss)(hb:iH X k Φ at_ b):eN X k Φ at_ (.for t en it b):=λhk h=>OL h λa i y z p h=>km h λh1 h2 h3 h4 h5 h6=>cG h3 (Qy (uJ h1) (wN h2) (wx C (dX C it) h5) (sR C t h4) (hb hk h6))
include C in
theorem RQ(a i:Mine.E):eN X k Φ at_ (.del a i):=λhk h=>OJ h λts p h=>gM h λt h=>l6 h λy z p' h=>Ps h λh1 h2=>Qs (dX C a h1).1 (dX C i h2).1
theorem QF:eN X k Φ at_ .cont:=λhk h=>by obtain⟨p,rfl⟩:=MN h;exact Ox
theorem RS(n:Nat):eN X k Φ at_ (.frz n):=λ_ h=>Db h
theorem QG:iH X k Φ at_ .nil:=λhk h=>cG h Ow
theorem OR(t:S)(ts:Ss)(ht:eN X k Φ at_ t)(We:iH X k Φ at_ ts):iH X k Φ at_ (.cons t ts):=λ{sc xs} hk h0=>by
 have go:(eE xs λx xs=>mS at_ t sc x&&dK at_ ts sc xs)=ε->dW X (k+2) Φ sc xs (.cons t ts):=λh=>ij h λx xs h=>Ps h λh1 h2=>Mh (ht hk h1) (We hk h2);induction t using Mine.S.casesOn with
 |frz n=>exact OD (We hk h0)
 |_=>exact go h0
include C in
theorem Cn(ts:Ss):iH X k Φ at_ ts:=
 Mine.Ss.rec (motive_1:=eN X k Φ at_) (motive_2:=iH X k Φ at_) (RK C) (RL C) (MQ C) (SH C) (RM C) (RN C) (RO C) (RP C) (RQ C) QF RS QG OR ts
end Mine
end
section
open PySem PySem.W PyProof.Rows
namespace Mine
section
set_option backward.match.sparseCases false
variable {X:Wd}{k:Nat}{Φ:Nat->Fn}
noncomputable def BK(p:Arguments):Bool:=p.posonlyargs.isEmpty&&(p.vararg.isNone&&(p.kwonlyargs.isEmpty&&p.kwarg.isNone))
theorem yw{α:Type}{a n:ψ}{v:α}{l:List (ψ×α)}(h:n≠a):((a,v)::l).lookup n=l.lookup n:=by exists g8,ac (TO.mpr h) TK
theorem yx{α:Type}{a:ψ}{v:α}{l:List (ψ×α)}:((a,v)::l).lookup a=γ v:=by rw[g8,TJ]
theorem MR{n:ψ}:∀{ns:List ψ} {vs:List ι},δ vs=δ ns->n∈ns->((ns.zip vs).lookup n).isSome=ε:=by
 intro ns;induction ns with
 |nil=>exact λ_ h=>nomatch h
 |cons a ns ih=>
  intro vs hl h;induction vs using ar with
  |nil=>cases hl
  |cons v vs=>
   exists kT;by_cases q:n=a
   ·subst q;exists yx;rfl
   ·exists yw q,ih (c7 hl) ((ab.mp h).resolve_left q)
theorem KG{a:ψ}{v:ι}{l:List (ψ×ι)}:∀{ns:List ψ},(∀n∈ns,n≠a)->ns.filterMap (λn=>(((a,v)::l).lookup n).map (n,·))=ns.filterMap (λn=>(l.lookup n).map (n,·)):=by
 intro ns;induction ns with
 |nil=>exact λ_=>rfl
 |cons n ns ih=>exact λh=>by exists E9,ac E9 (ac (yw (h n (.head _))) (ac (ih λn hn=>h n (.tail _ hn)) TK))
theorem MS:∀{ns:List ψ} {vs:List ι},δ vs=δ ns->ns.Nodup->ns.filterMap (λn=>((ns.zip vs).lookup n).map (n,·))=ns.zip vs:=by
 intro ns;induction ns with
 |nil=>exact λ_ _=>rfl
 |cons a ns ih=>
  intro vs hl hn;induction vs using ar with
  |nil=>cases hl
  |cons v vs=>refine on (dO.mp hn) λh1 h2=>?_;exists kT,ac (xi (b:=(a,v)) (by rw[yx];rfl)) (ac (KG λn Xs e=>h1 (by rw[←e];exact Xs)) (ac (ih (c7 hl) h2) TK))
theorem QH{α β:Type}{a:α}{f:α->aQ β}:(pure a >>= f)=f a:=rfl
theorem QI{α β:Type}{b:β}{f:α->β->aQ (ForInStep β)}:forIn (m:=aQ) ([]:List α) b f=pure b:=rfl
theorem MT:seqItems? Value.none=pure η:=rfl
theorem OS{fd:c9}{vs:List ι}{ns:List ψ}(hn:fd.params.args.map (·.arg)=ns)(T_:ns.Nodup)(hl:δ vs=δ ns):bindArgs {fd with defaults:=.none,params:={fd.params with posonlyargs:=[],vararg:=η,kwonlyargs:=[],kwarg:=η}} ⟨vs,[]⟩=pure (ns.zip vs):=by
 have hm:(ns.take (δ ns)).filter (λn=>((ns.zip vs).lookup n).isNone)=[]:=by exists F7,xw.mpr λn hn q=>by have:=MR hl hn;rw[xd.mp q]at this;exact Db this
 dsimp only[bindArgs,qg,aB,QH,QI,MT,Option.getD_none,p8,cC,Nat.sub_zero,Option.isNone_none];subst hn;refine(TH ?_).trans ((TH ?_).trans ?_)
 ·exact λh=>fS _ (kS (TN (jp h).1) hl)
 ·intro h;rw[p8]at h;exact Db ((TL (λl:List ψ=> !l.isEmpty) hm).symm.trans h)
 ·exists p8;exists List.zip_nil_right,TL (λx=>(pure x:aQ _)) ((TL (GH _) (aL _)).trans (MS hl T_))
theorem QJ{fd:c9}{po ko va kw d}(h1:fd.params.posonlyargs=po)(h2:fd.params.vararg=va)(h3:fd.params.kwonlyargs=ko)(h4:fd.params.kwarg=kw)(h5:fd.defaults=d):fd={fd with defaults:=d,params:={fd.params with posonlyargs:=po,vararg:=va,kwonlyargs:=ko,kwarg:=kw}}:=by subst h1 h2 h3 h4 h5;obtain⟨_,_,⟨_,_,_,_,_,_,_⟩,_,_,_,_,_,_,_,_,_,_,_,_⟩:=fd;exact rfl
theorem Iv(hp:BK fd.params=ε)(hd:fd.defaults= .none)(hn:fd.params.args.map (·.arg)=ns)(T_:ns.Nodup)(vs:List ι)(hl:δ vs=δ ns):bindArgs fd ⟨vs,[]⟩=pure (ns.zip vs):=by refine gE hp λh1 h2 h3 h4=>?_;exists QJ (nA h1) (rT h2) (nA h3) (rT h4) hd,OS hn T_ hl
noncomputable def w6:Data->Option c9|.func fd=>γ fd|_=>η
noncomputable def f9:Data->Option (Array fV)|.dict es _=>γ es|_=>η
noncomputable def refV:ι->Option υ|.ref a=>γ a|_=>η
noncomputable def DA(K:cJ)(a:υ):Option c9:=(K.lookup a).bind λo=>w6 o.data
noncomputable def v5:FuncBody->Option (List bY)|.stmts b=>γ b|_=>η
noncomputable def C0(K:cJ)(v:ι)(q:ψ):Bool:=IN (refV v) λc=>IN (K.lookup c) λo=>match o.data with
 |.fields vs=>IN (vs[1]?) λv=>Yj v==γ q
 |_=>ζ
where Yj:ι->Option ψ|.str q _=>γ q|_=>η
theorem MU(h:w6 d=γ fd):d= .func fd:=cT (o:=w6 d) (P:=λfd=>d= .func fd) (by clear h;induction d using qf<;>first|exact trivial|rfl) h
theorem uZ{d:ι}{a:υ}(h:refV d=γ a):d= .ref a:=cT (o:=refV d) (P:=λa=>d= .ref a) (by clear h;induction d using Value.casesOn<;>first|exact trivial|rfl) h
theorem Iw{d:FuncBody}{b:List bY}(h:v5 d=γ b):d= .stmts b:=cT (o:=v5 d) (P:=λb=>d= .stmts b) (by clear h;induction d<;>first|exact trivial|rfl) h
theorem KI{K:cJ}{a:υ}{fd:c9}(h:DA K a=γ fd):∃o,K.lookup a=γ o/\o.data= .func fd:=by refine TE h λo e1 e2=>?_;exact⟨o,e1,MU e2⟩
theorem OT{K:cJ}{v:ι}{q:ψ}(h:C0 K v q=ε):∀h:Ξ,K.In h->h.CodeRec v q:=by
 refine f4 (cD h) λc e1 h=>?_;refine f4 (cD h) λo e2 h=>?_;have hz:=uZ e1;subst hz;intro hp hK;obtain⟨c',d',dt,sl⟩:=o;induction dt using qf with
 |fields vs=>
  refine f4 (cD (show IN (vs[1]?) _=ε from h)) λw e3 h=>?_;have e4:=TM h;induction w using Value.casesOn with
  |str q' t=>replace e4:=ω e4;subst e4;exact⟨c,_,vs,t,rfl,hK _ _ e2,rfl,e3⟩
  |_=>exact pt e4
 |_=>exact Db h
noncomputable def DU(fd:c9)(d:BT):Bool:=BK fd.params&&(fd.defaults== .none&&((fd.params.args.map (·.arg)==d.ps.map nm)&&(decide ((d.ps.map nm).Nodup)&&(IN (v5 fd.body) (λbody=>dK fB d.b fd.scope body)&&
  (!fd.scope.isCoroutine&&(!fd.scope.isGenerator&&(fd.scope.kind== .function&&(fd.globals==c8&&(fd.builtins==lC&&(fd.closure.isEmpty&&(decide ((fd.scope.names.map (·.1)).Nodup)&&(d.ps.all (λp=>decide (p<Do.length))&&
  d.ps.all (λp=>fd.scope.names.lookup (nm p)==γ .local || fd.scope.names.lookup (nm p)==γ .cell)))))))))))))
noncomputable def wO(K:cJ)(fa:υ)(d:BT):Bool:=IN (DA K fa) λfd=>DU fd d&&C0 K fd.code fd.qualname
theorem RT(e:∃o,X.H.get? fa=γ o/\o.data= .func fd)(c:X.H.CodeRec fd.code fd.qualname)(h:DU fd d=ε):∃body,kE X fa fd d.ps body/\dK fB d.b fd.scope body=ε:=by
 refine on (jp h) λh1 h=>?_;refine on (jp h) λh2 h=>?_;refine on (jp h) λh3 h=>?_;refine on (jp h) λh4 h=>?_;refine on (jp h) λh5 h=>?_;refine on (jp h) λh6 h=>?_;refine on (jp h) λh7 h=>?_;refine on (jp h) λh8 h=>?_;refine on (jp h) λh9 h=>?_;refine on (jp h) λh10 h=>?_;refine on (jp h) λh11 h=>?_;refine on (jp h) λh12 h=>?_;refine on (jp h) λh13 h14=>?_;refine f4 (cD h5) λbody hb h5=>?_;exact⟨body,⟨e,Iw hb,c,TI h6,TI h7,TM h8,TM h9,TM h10,nA h11,TN h12,TN h4,λp hp=>TN (cg.mp h13 p hp),
  λp hp=>((pU _ _).mp (cg.mp h14 p hp)).imp TM TM,λvs hl=>Iv h1 (TM h2) (TM h3) (TN h4) vs (by exists φ ..,hl)⟩,h5⟩
theorem BL(h:wO X.K fa d=ε):∃fd body,kE X fa fd d.ps body/\dK fB d.b fd.scope body=ε:=by refine f4 (cD h) λfd e h=>?_;refine on (jp h) λh1 h2=>?_;refine f4 (KI e) λo e1 e2=>?_;exact⟨fd,RT ⟨o,X.KH _ _ e1,e2⟩ (OT h2 _ X.KH) h1⟩
theorem RU(C:tm X k Φ fB)(h:∃fd body,kE X fa fd d.ps body/\dK fB d.b fd.scope body=ε):oN X (k+2) fa (run Φ d):=by refine eI h λfd body F hm=>?_;clear h;exact RD F (Cn C d.b F.kind hm)
noncomputable def eR(K:cJ)(x:ψ):Option ι:=((K.lookup c8).bind λo=>f9 o.data).bind λes=>nsFind es x
noncomputable def tn(K:cJ)(x:ψ):Option υ:=(eR K x).bind refV
noncomputable def JC:List Nat:=oB.map (·.1)
noncomputable def dZ(K:cJ)(c:Nat):υ:=((JC[c]?).bind λn=>tn K (nm n)).getD 0
noncomputable def DB:List Nat:=[0,1,2,3]
noncomputable def Co(K:cJ):Bool:=DB.all λc=>(kp K (.ref (dZ K c)) "__getattribute__"==γ (γ (.builtin "object.__getattribute__")))&&((kp K (.ref (dZ K c)) "__setattr__"==γ (γ (.builtin "object.__setattr__")))&&
 (plainOver K (dZ K c)&&(hasDictIn K (dZ K c)&&(fB.all (λn=>kp K (.ref (dZ K c)) (nm n)==γ η&&(takerIn K (dZ K c) (nm n)==γ uF&&decide (n<Do.length)))&&(keepIn K (.ref (dZ K c))&&(makesIn K (dZ K c)&&(clsIn K (dZ K c)).any (·.hasDict)))))))
theorem MV(h:c<4):c∈DB:=by
 match c,h with
 |0,_=>exact .head _
 |1,_=>exact .tail _ (.head _)
 |2,_=>exact .tail _ (.tail _ (.head _))
 |3,_=>exact .tail _ (.tail _ (.tail _ (.head _)))
 |c+4,h=>exact absurd h (qt.mpr (eZ _ _))
theorem MW(hc:X.cls=dZ X.K)(h:Co X.K=ε):iG X fB:=by
 have p:∀c,c<4->_:=λc hc=>cg.mp h c (MV hc);have q:∀c n,c<4->n∈fB->_:=λc n hc hn=>cg.mp (jp (jp (jp (jp (jp (p c hc)).2).2).2).2).1 n hn;refine⟨λc h=>?_,λc h=>?_,λc h=>?_,λc h=>?_,λc n h hn=>?_,λn hn=>?_,λc n h hn=>?_,λc h=>?_,λc h=>?_,λc h=>?_⟩
 ·exists hc,TM (jp (p c h)).1
 ·exists hc,TM (jp (jp (p c h)).2).1
 ·exists hc,(jp (jp (jp (p c h)).2).2).1
 ·exists hc,(jp (jp (jp (jp (p c h)).2).2).2).1
 ·exists hc,TM (jp (q c n h hn)).1
 ·exact TN (jp (jp (q 0 n (by decide) hn)).2).2
 ·exists hc,TM (jp (jp (q c n h hn)).2).1
 ·exists hc,(jp (jp (jp (jp (jp (jp (p c h)).2).2).2).2).2).1
 ·exists hc,(jp (jp (jp (jp (jp (jp (jp (p c h)).2).2).2).2).2).2).1
 ·exists hc,(jp (jp (jp (jp (jp (jp (jp (p c h)).2).2).2).2).2).2).2
noncomputable def sS:List Bi:=[.len,.list,.set,.set0,.range,.sorted,.any,.abs,.int]
theorem Cp(b:Bi):b∈sS:=av (show sS[b.ctorIdx]? =γ b by induction b<;>rfl)
noncomputable def DC(K:cJ):Bool:=(eR K ("enumerate":ψ)==η)&&sS.all λb=>eR K (jw b)==η
theorem OU:(sS.all λb=>qh (jw b)==γ (mC b)&&jw b != ("__name__":ψ))=ε:=by kernel_rfl
theorem QK:qh ("enumerate":ψ)=γ (.type "enumerate"):=by kernel_rfl
theorem RV(hm:X.mg=eR X.K)(hb:∀x:ψ,x≠"__name__"->X.mb x=qh x)(h:DC X.K=ε):Dt X:=by
 refine on (jp h) λh1 h2=>?_;refine⟨λb=>?_,λb=>?_,?_,?_⟩
 ·exists hm,TM (cg.mp h2 b (Cp b))
 ·refine on (jp (cg.mp OU b (Cp b))) λq1 q2=>?_;exists hb _ (TP.mp q2),TM q1
 ·exists hm,TM h1
 ·exists hb _ (by decide),QK
noncomputable def C1:CV->ι->Bool
 |.int i,v=>intV v==γ i
 |.str n,v=>strV v==γ (nm n)&&decide (n<Do.length)
 |_,_=>ζ
noncomputable def vF:List CV->List ι->Bool
 |[],vs=>vs.isEmpty
 |x::xs,vs=>eE vs λv vs=>C1 x v&&vF xs vs
noncomputable def wA:List Nat->List fV->Bool
 |[],es=>es.isEmpty
 |k::ks,es=>eE es λe es=>strV e.key==γ (nm k)&&wA ks es
noncomputable def wQ:Data->Option (Array ι)|.seq us _=>γ us|_=>η
noncomputable def Cq(o:af)(xs:List CV):Bool:=(o.cls== .type "tuple")&&(o.dict.isNone&&(o.slots.isEmpty&&IN (wQ o.data) λus=>vF xs us.toList))
noncomputable def RW(o:af)(ks:List Nat):Bool:=(o.cls== .type "dict")&&(o.dict.isNone&&(o.slots.isEmpty&&IN (f9 o.data) λes=>wA ks es.toList&&(ax Do.length).all λn=>(findBy (λk v=>Value.isStrOf k v) es (nm n)).isSome==ks.contains n))
noncomputable def gB(K:cJ)(p:Nat×CV):Bool:=IN (eR K (nm p.1)) λv=>match p.2 with
 |.int i=>intV v==γ i
 |.tup xs=>IN (refV v) λa=> !(a==aF)&&IN (K.lookup a) λo=>Cq o xs
 |.kdict ks=>IN (refV v) λa=> !(a==aF)&&IN (K.lookup a) λo=>RW o ks
 |_=>ζ
noncomputable def om(K:cJ)(i:Nat):List Int:=(((tn K (nm i)).bind λa=>(K.lookup a).bind λo=>f9 o.data).map λes=>es.toList.map (·.hash)).getD []
theorem zZ(h:intV v=γ i):∃t,v= .int i t:=cT (o:=intV v) (P:=λi=>∃t,v= .int i t) (by clear h;induction v using Value.casesOn<;>first|exact trivial|exact⟨_,rfl⟩) h
theorem z6{v:ι}{i:ψ}(h:strV v=γ i):∃t,v= .str i t:=cT (o:=strV v) (P:=λi=>∃t,v= .str i t) (by clear h;induction v using Value.casesOn<;>first|exact trivial|exact⟨_,rfl⟩) h
theorem MX{x:CV}{v:ι}{h:Ξ}{m:py}(e:C1 x v=ε):ch X h m x v:=by
 induction x using CV.casesOn with
 |int i=>obtain⟨t,rfl⟩:=zZ (TM e);exact .int _ _
 |str n=>refine on (jp e) λe1 e2=>?_;obtain⟨t,rfl⟩:=z6 (TM e1);exact .str _ _ (TN e2)
 |_=>exact Db e
theorem JD{h:Ξ}{m:py}:∀{xs:List CV} {vs:List ι},vF xs vs=ε->ce X h m xs vs:=by
 intro xs;induction xs with
 |nil=>intro vs e;have hz:=nA e;subst hz;exact .nil
 |cons x xs ih=>intro vs e;obtain⟨v,vs,rfl,e⟩:=AI e;refine on (jp e) λe1 e2=>?_;exact .cons (MX e1) (ih e2)
theorem OV{kh:Nat->Int}:∀{ks:List Nat} {es:List fV},wA ks es=ε->es.map (·.hash)=ks.map kh->∀e∈es,∃k:Nat,Value.isStrOf (nm k) e.key=ε/\e.hash=kh k:=by
 intro ks;induction ks with
 |nil=>intro es e _ x hx;have hz:=nA e;subst hz;cases hx
 |cons k ks ih=>
  intro es e hh x hx;obtain⟨y,es,rfl,e⟩:=AI e;refine on (jp e) λe1 e2=>?_;refine on (ja hh) λh1 h2=>?_;rcases ab.mp hx with rfl|hx
  ·refine SZ (z6 (TM e1)) λt ht=>?_;exact⟨k,by exists ht;exact TJ (nm k),h1⟩
  ·exact ih e2 h2 x hx
theorem QL{o:af}{T:String}{d:Data}(h1:(o.cls== .type T)=ε)(h2:o.dict.isNone=ε)(h3:o.slots.isEmpty=ε)(h4:o.data=d):o={cls:=.type T,dict:=η,data:=d,slots:=#[]}:=by obtain⟨c,dd,dt,sl⟩:=o;have hz:=TM h1;subst hz;have hz:=rT h2;subst hz;have hz:=FK.mp h3;subst hz;subst h4;rfl
theorem KJ{d:Data}{us:Array ι}(h:wQ d=γ us):∃n,d= .seq us n:=cT (o:=wQ d) (P:=λus=>∃n,d= .seq us n) (by clear h;induction d using qf<;>first|exact trivial|exact⟨_,rfl⟩) h
theorem JE{d:Data}{es:Array fV}(h:f9 d=γ es):∃n,d= .dict es n:=cT (o:=f9 d) (P:=λes=>∃n,d= .dict es n) (by clear h;induction d using qf<;>first|exact trivial|exact⟨_,rfl⟩) h
@[elab_as_elim] theorem BM{v:ι}{f:υ->Bool}{P:ι->Prop}(h:IN (refV v) f=ε)(k:∀a,f a=ε->P (.ref a)):P v:=by induction v using Value.casesOn<;>first|exact Db h|exact k _ h
theorem nM{α:Type}{x:Option α}{f:α->Bool}{C:Prop}(h:IN x f=ε)(k:∀y,x=γ y->f y=ε->C):C:=f4 (cD h) k
theorem QM{h:Ξ}{m:py}{c:ad}{v:ι}{xs:List CV}(V:AC X h m c)(e:(IN (refV v) λa=> !(a==aF)&&IN (X.K.lookup a) λo=>Cq o xs)=ε):ch X h m (.tup xs) v:=
 BM (P:=λv=>ch X h m (.tup xs) v) e λa e=>Ps e λh1 e=>nM e λo ho e=>gE e λh2 h3 h4 e=>nM e λus hu e=>by obtain⟨n,hd⟩:=KJ hu;exact .obj (vs:=us.toList) (V.gnd.kI _ _ ho) (TO.mp (TI h1)) (V.gnd.kIn _ _ ho) ⟨n,QL h2 h3 h4 hd⟩ (JD e)
theorem OW(hm:X.mg=eR X.K)(h:gB X.K p=ε)(hh:∀ks,p.2= .kdict ks->om X.K p.1=ks.map λk=>fR X.w.params (nm k)):rP X p.1 p.2:=by
 obtain⟨i,x⟩:=p;refine nM h λv hv h=>⟨v,by rw[hm];exact hv,λhp m c V=>?_⟩;induction x using CV.casesOn with
 |int i=>obtain⟨t,rfl⟩:=zZ (TM h);exact .int _ _
 |tup xs=>exact QM V h
 |kdict ks=>
  revert hv;refine BM (P:=λv=>eR X.K (nm i)=γ v->ch X hp m (.kdict ks) v) h λa h hv=>Ps h λh1 h=>nM h λo ho h=>gE h λh2 h3 h4 h=>nM h λes he h=>Ps h λh5 h6=>?_;have hash:es.toList.map (·.hash)=ks.map λk=>fR X.w.params (nm k):=by rw[←hh ks TK];show _=((((tn X.K (nm i)).bind λa=>(X.K.lookup a).bind λo=>f9 o.data)).map λes=>es.toList.map (·.hash)).getD [];unfold tn;rw[hv];show _=((((X.K.lookup a).bind λo=>f9 o.data)).map λes=>es.toList.map (·.hash)).getD [];rw[ho];show _=((f9 o.data).map λes=>es.toList.map (·.hash)).getD [];rw[he];rfl
  obtain⟨n,hd⟩:=JE he;refine .obj (vs:=[]) (V.gnd.kI _ _ ho) (TO.mp (TI h1)) (V.gnd.kIn _ _ ho) ⟨rfl,λk=>findBy (λk v=>Value.isStrOf k v) es k,⟨es,n,⟨TM h2,rT h3,FK.mp h4⟩,hd,λe he=>?_,λ_=>rfl⟩,λn hn=>TM (cg.mp h6 n (fQ.mpr hn))⟩ .nil;obtain⟨k,q1,q2⟩:=OV h5 hash e (Array.mem_toList_iff.mpr he);exact⟨nm k,q1,q2⟩
 |_=>exact Db h
noncomputable def RX(K:cJ):Bool:=oB.all λp=>IN (gX.lookup p.1) λd=>decide (p.2<4)&&((eR K (nm p.1)==γ (.ref (dZ K p.2)))&&IN (kp K (.ref (dZ K p.2)) "__init__") λv=>IN v λv=>IN (refV v) λfi=>(typeIn K (.ref fi)==γ (.type "function"))&&wO K fi d)
noncomputable def chk(K:cJ):Bool:=(((K.lookup c8).bind λo=>f9 o.data).isSome&&(Co K&&DC K))&&(jA.all (gB K)&&RX K)
noncomputable def fL:Nat->Nat->Fn
 |0,_=>λ_ _ _=>False
 |n+1,f=>λxs c Q=>ld (gX.lookup f) λd=>run (fL n) d xs c Q
structure oP(X:Wd):Prop where
 mg:X.mg=eR X.K
 cls:X.cls=dZ X.K
 mb:∀x:ψ,x≠"__name__"->X.mb x=qh x
 chk:chk X.K=ε
 fns:∀f,f∈oA->∃d fa,gX.lookup f=γ d/\X.mg (nm f)=γ (.ref fa)/\∃fd body,kE X fa fd d.ps body/\dK fB d.b fd.scope body=ε
 h2:om X.K 2=[8,9,10,11].map λk=>fR X.w.params (nm k)
 h3:om X.K 3=[12,13,14,15].map λk=>fR X.w.params (nm k)
theorem Pv.down(R:Pv k' A)(h:k<=k'):Pv k A:=
 ⟨R.h,κ (dM (dq (d8 2 h) _) 20) R.d,κ (dq (d8 100 (bZ h)) _) R.u⟩
theorem mD.up{k':Nat}{fa:υ}{d:Fn}(r:mD X k fa d)(h:k<=k'):mD X k' fa d:=λA s m c xs vs P Q Er R=>r A s m c xs vs P Q Er (R.down (bZ h))
theorem AO(B:oP X)(i:Nat)(p:Nat×CV)(e:jA[i]? =γ p):rP X p.1 p.2:=by
 have h:=cg.mp (jp (jp B.chk).2).1 p (av e);refine OW B.mg h λks hk=>?_;have hm:=av e;unfold jA at hm;simp only[ab,t9,or_false]at hm;rcases hm with rfl|rfl|rfl|rfl|rfl|rfl|rfl|rfl
 all_goals first|cases hk;exact B.h2|cases hk;exact B.h3|cases hk
theorem Cr(B:oP X){k:Nat}{Ψ:Nat->Fn}(h:∀fa d f,gX.lookup f=γ d->(∃fd body,kE X fa fd d.ps body/\dK fB d.b fd.scope body=ε)->oN X k fa (Ψ f)):(∀f,f∈oA->wo X (k+1) f (Ψ f))/\∀f cls,(f,cls)∈oB->oG X k f cls (Ψ f):=by
 have h2:=(jp (jp B.chk).2).2;refine⟨λf hf=>?_,λf cls hf=>?_⟩
 ·obtain⟨d,fa,hd,hm,q⟩:=B.fns f hf;refine on (h fa d f hd q) λa b=>?_;exact⟨fa,hm,a,b.up (jc _)⟩
 ·refine f4 (cD (cg.mp h2 (f,cls) hf)) λd hd q=>?_;replace q:=jp q;obtain⟨q1,q⟩:=q;replace q:=jp q;obtain⟨q2,q⟩:=q;replace q:=cD q;obtain⟨v,hv,q⟩:=q;replace q:=cD q;obtain⟨v,rfl,q⟩:=q;replace q:=cD q;obtain⟨fi,hi,q⟩:=q;replace q:=jp q;obtain⟨q3,q⟩:=q;have hz:=uZ hi;subst hz;exact⟨TN q1,by exists B.mg;exists B.cls;exact TM q2,fi,by exists B.cls;exact hv,TM q3,h fi d f hd (BL q)⟩
theorem QN(B:oP X):∀n:Nat,tm X (2*n) (fL n) fB:=by
 refine on (jp (jp (jp B.chk).1).2) λh1 h2=>?_;have F:=MW B.cls h1;have Bi:=RV B.mg B.mb h2;intro n;induction n with
 |zero=>
  obtain⟨q1,q2⟩:=Cr B (k:=0) (Ψ:=fL 0) λfa d f _ h=>by refine eI h λfd body F _=>?_;clear h;refine f4 F.at' λo a b=>?_;exact⟨⟨o,fd,a,b⟩,λ_ _ _ _ _ _ _ _ _ _ _ _ e=>e.elim⟩
  exact⟨F,Bi,AO B,q1,q2⟩
 |succ n ih=>
  obtain⟨q1,q2⟩:=Cr B (k:=2*(n+1)) (Ψ:=fL (n+1)) λfa d f hd h=>by have S:=RU ih h;have e:fL (n+1) f=run (fL n) d:=(by funext xs c Q;show ld (gX.lookup f) _=_;exists hd;rfl);exists e,S
  exact⟨F,Bi,AO B,q1,q2⟩
end
section
set_option Elab.async false
set_option maxRecDepth 100000
set_option maxHeartbeats 8000000
set_option backward.match.sparseCases false
noncomputable def prog:da:=tA.row.prog
noncomputable def QO:List Nat:=(ax 52).filter λi=>i != 0&&i != 6&&i != 20&&i != 32
noncomputable def vw:da:=PySem.W.view prog QO
noncomputable def loose:List ψ:=["ROUND","EFFECTS","DIVISIONS"]
noncomputable def lv:List (ψ×WData):=[("ROUND",.int 4294967296)]
noncomputable def DV(o:Option bY):c9:=match o with
 |some (.FunctionDef n ps b _ _ _ sc _ _ _)=>{name:=n,qualname:=n,params:=ps,body:=.stmts b,scope:=sc,globals:=c8,closure:=[],defaults:=.none,kwdefaults:=.none}
 |_=>{name:="",qualname:="",params:={posonlyargs:=[],args:=[],vararg:=η,kwonlyargs:=[],kw_defaults:=[],kwarg:=η,defaults:=[]},body:=.stmts [],scope:={kind:=.function,names:=[],isGenerator:=ζ,isCoroutine:=ζ},globals:=c8,closure:=[],defaults:=.none,kwdefaults:=.none}
noncomputable def fb(i:Nat):c9:=DV (prog.main.body[i]?)
noncomputable def fc(i:Nat):c9:=DV (match prog.main.body[i]? with
 |some (.ClassDef _ _ _ b _ _ _ _ _ _ _)=>b.head?
 |_=>η)
noncomputable def en(P:jx)(k:ψ)(t:Nat)(v:ι):fV:={hash:=fR P k,key:=.str k t,val:=v}
noncomputable def ob(c:String)(d:Data):af:={cls:=.type c,data:=d}
noncomputable def eS:af:=ob "tuple" (.seq #[])
noncomputable def w7:af:={cls:=.none,data:=.fields #[]}
noncomputable def fg(f:c9)(n:Nat):af:={cls:=.none,data:=.func {f with globals:=n}}
noncomputable def fq(f:c9)(q:ψ):c9:={f with qualname:=q}
noncomputable def fp(f:c9)(m:ψ)(t n:Nat):af:=ob "function" (.func {f with pyModule:=.str m t,code:=.ref n})
noncomputable def co(a b:ψ)(t l n f r:Nat)(i:Bool)(p q:Nat)(u v w:ι)(z:Nat):af:=ob "code" (.fields #[.str a t,.str b (t+1),.str "/claim/cut.py" (t+2),.int l 0,.int n 0,.int 0 0,.int 0 0,.int f 0,.ref r,.bool i,.int p 0,.ref q,.none,u,v,w,.int z 0,.int l 0,.str "/claim/cut.py" (z+1)])
noncomputable def sq:List ψ->Nat->List ι
 |[],_=>[]
 |x::l,t=>.str x t::sq l (t+1)
noncomputable def lt:List Nat->List ι
 |a::b::l=>.int a 0:: .int 0 0:: .ref b::lt l
 |_=>[]
noncomputable def er(P:jx)(l:List (ψ×Nat×Nat)):List fV:=l.map λx=>en P x.1 x.2.1 (.ref x.2.2)
noncomputable def fu(F:c9)(a b:ψ)(t l n f r:Nat)(m:ψ)(mt:Nat)(ns:List ψ):List af:=match ns with
 |[]=>[eS,w7,fg F 0,co a b t l n f r ε 181 (r+1) .none .none (.ref (r+2)) (t+3),fp F m mt (r+3)]
 |_=>[eS,w7,ob "tuple" (.seq (sq ns (t+3)).toArray),eS,fg F 0,co a b t l n f r ε 181 (r+1) (.ref (r+2)) (.ref (r+3)) (.ref (r+4)) (t+3+ns.length),fp F m mt (r+5)]
noncomputable def SI(P:jx):List af:=[boot_o_0 P,
 boot_o_1 P,
 boot_o_2 P,
 ob "dict" (.dict ([en P "__name__" 165 (.str "law_sa0179_01" 548),en P "__doc__" 166 (.none),en P "__package__" 167 (.none),en P "__loader__" 168 (.builtin "__main__.__loader__#opaque"),en P "__spec__" 169 (.none),en P "__annotations__" 170 (.ref 6),en P "__builtins__" 171 (.ref 4),en P "__file__" 173 (.str "/claim/cut.py" 172),en P "__cached__" 174 (.none),en P "MASK" 190 (.int 4294967295 189)]++er P [("Step",227,31),("Block",258,52),("Func",293,73),("followers",301,84)]++[en P "ROUND" 307 (.int 4294967296 306)]++er P [("EFFECTS",320,85),("DIVISIONS",333,86),("Loop",366,103),("has_effect",373,114),("can_fault",382,121),("is_plain",389,128),("preds",395,133),("postorder",407,140),("needs_of",419,147),("live",425,152),("in_place_of",437,159),("led_end",443,164),("steps_in",457,171),("times_set",468,178),("is_settled",478,185),("single_rows",484,190),("steps_led_out",490,195),("rows_led_out",496,200),("sum_with",506,207),("growth_at",517,214),("counters_of",530,221),("freed_entry",541,228),("block_ahead",547,233)]++[en P "_law_ALL" 551 (.int 4294967296 550)]++er P [("_law_REST",560,234),("_law_ADDED",567,235),("_law_plain_ops",574,236),("_law_row",587,243),("_law_program",593,248),("_law_made",599,253),("_law_shown",605,258),("_law_leads",615,265),("_law_worth",621,270),("_law_gone",642,277),("_law_alike",648,282),("_law_seen",654,287),("_law_is_live",673,294),("_law_freed_right",679,299),("_law_ahead_right",685,304),("_law_led_right",691,309),("_law_counters_right",697,314),("law",703,319)]).toArray 57),
 boot_o_4 P,
 boot_o_5 P,
 boot_o_6 P,
 boot_o_7 P,
 boot_o_8 P,
 boot_o_9 P,
 boot_o_10 P,
 eS,
 {cls:=.none,data:=.fields (lt [3,20,12,41,18,62,28,83,41,92,47,113,49,120,56,127,58,132,65,139,81,146,93,151,121,158,125,163,137,170,143,177,149,184,154,189,156,194,171,199,178,206,187,213,198,220,208,227,220,232,235,242,242,247,263,252,272,257,278,264,285,269,297,276,317,281,320,286,322,293,339,298,348,303,361,308,387,313,403,318]).toArray},
 co "<module>" "<module>" 182 1 0 0 11 ζ 181 12 .none .none .none 185,
 {cls:=.type "frame",slots:=#[γ (.ref 13),γ (.ref 3),γ (.ref 3),η,γ (.str "__main__" 164),η,γ (.ref 0)]},
 eS,
 ob "builtin_function_or_method" (.fields #[.builtin "type.__prepare__",.type "type"]),
 ob "dict" (.dict #[en P "__module__" 198 (.str "corecc.code" 187),en P "__qualname__" 200 (.str "Step" 199),en P "__firstlineno__" 202 (.int 3 201),en P "__init__" 213 (.ref 28),en P "__static_attributes__" 220 (.ref 29)] 5),
 eS,
 {cls:=.none,data:=.fields #[.int 5 0,.int 4 0,.ref 27]},
 co "Step" "Step" 193 3 0 0 18 ζ 181 19 .none .none .none 196,
 {cls:=.type "frame",slots:=#[γ (.ref 20),γ (.ref 3),γ (.ref 17),η,γ (.str "corecc.code" 187),η,γ (.ref 0)]}]++(fu (fq (fc 2) "Step.__init__") "__init__" "Step.__init__" 203 5 5 3 22 "corecc.code" 187 ["self","op","dst","args","more"]++([ob "tuple" (.seq #[.str "args" 214,.str "dst" 215,.str "is_volatile" 216,.str "line" 217,.str "more" 218,.str "op" 219]),
 ob "dict" (.dict ([en P "__module__" 198 (.str "corecc.code" 187),en P "__firstlineno__" 202 (.int 3 201)]++er P [("__init__",213,28),("__static_attributes__",220,29),("__dict__",222,32),("__weakref__",224,33)]++[en P "__doc__" 225 (.none)]).toArray 4),
 {cls:=.type "type",data:=.cls {name:="Step",bases:=[.type "object"],mro:=[.ref 31,.type "object"],ns:=30,qualname:="Step"},slots:=#[η,η,γ (.str "Step" 191),γ (.str "Step" 199),γ (.builtin "object.__new__"),γ (.bool ε)]},
 ob "getset_descriptor" (.fields #[.str "__dict__" 221,.ref 31,.builtin "function.__dict__",.builtin "function.__dict__#set"]),
 ob "getset_descriptor" (.fields #[.str "__weakref__" 223,.ref 31,.builtin "ExceptionGroup.__weakref__",.none]),
 ob "super" (.fields #[.ref 31,.ref 31,.ref 31]),
 ob "builtin_function_or_method" (.fields #[.builtin "object.__init_subclass__",.ref 31]),
 eS,
 ob "builtin_function_or_method" (.fields #[.builtin "type.__prepare__",.type "type"]),
 ob "dict" (.dict #[en P "__module__" 235 (.str "corecc.code" 187),en P "__qualname__" 237 (.str "Block" 236),en P "__firstlineno__" 239 (.int 12 238),en P "__init__" 247 (.ref 49),en P "__static_attributes__" 251 (.ref 50)] 5),
 eS,
 {cls:=.none,data:=.fields #[.int 14 0,.int 4 0,.ref 48]},
 co "Block" "Block" 230 12 0 0 39 ζ 181 40 .none .none .none 233,
 {cls:=.type "frame",slots:=#[γ (.ref 41),γ (.ref 3),γ (.ref 38),η,γ (.str "corecc.code" 187),η,γ (.ref 0)]}]++(fu (fq (fc 3) "Block.__init__") "__init__" "Block.__init__" 240 14 2 3 43 "corecc.code" 187 ["self","number"]++([ob "tuple" (.seq #[.str "end" 248,.str "number" 249,.str "steps" 250]),
 ob "dict" (.dict ([en P "__module__" 235 (.str "corecc.code" 187),en P "__firstlineno__" 239 (.int 12 238)]++er P [("__init__",247,49),("__static_attributes__",251,50),("__dict__",253,53),("__weakref__",255,54)]++[en P "__doc__" 256 (.none)]).toArray 4),
 {cls:=.type "type",data:=.cls {name:="Block",bases:=[.type "object"],mro:=[.ref 52,.type "object"],ns:=51,qualname:="Block"},slots:=#[η,η,γ (.str "Block" 228),γ (.str "Block" 236),γ (.builtin "object.__new__"),γ (.bool ε)]},
 ob "getset_descriptor" (.fields #[.str "__dict__" 252,.ref 52,.builtin "function.__dict__",.builtin "function.__dict__#set"]),
 ob "getset_descriptor" (.fields #[.str "__weakref__" 254,.ref 52,.builtin "ExceptionGroup.__weakref__",.none]),
 ob "super" (.fields #[.ref 52,.ref 52,.ref 52]),
 ob "builtin_function_or_method" (.fields #[.builtin "object.__init_subclass__",.ref 52]),
 eS,
 ob "builtin_function_or_method" (.fields #[.builtin "type.__prepare__",.type "type"]),
 ob "dict" (.dict #[en P "__module__" 266 (.str "corecc.code" 187),en P "__qualname__" 268 (.str "Func" 267),en P "__firstlineno__" 270 (.int 18 269),en P "__init__" 278 (.ref 70),en P "__static_attributes__" 286 (.ref 71)] 5),
 eS,
 {cls:=.none,data:=.fields #[.int 20 0,.int 4 0,.ref 69]},
 co "Func" "Func" 261 18 0 0 60 ζ 181 61 .none .none .none 264,
 {cls:=.type "frame",slots:=#[γ (.ref 62),γ (.ref 3),γ (.ref 59),η,γ (.str "corecc.code" 187),η,γ (.ref 0)]}]++(fu (fq (fc 4) "Func.__init__") "__init__" "Func.__init__" 271 20 2 3 64 "corecc.code" 187 ["self","name"]++([ob "tuple" (.seq #[.str "blocks" 279,.str "has_value" 280,.str "is_static" 281,.str "name" 282,.str "params" 283,.str "registers" 284,.str "slots" 285]),
 ob "dict" (.dict ([en P "__module__" 266 (.str "corecc.code" 187),en P "__firstlineno__" 270 (.int 18 269)]++er P [("__init__",278,70),("__static_attributes__",286,71),("__dict__",288,74),("__weakref__",290,75)]++[en P "__doc__" 291 (.none)]).toArray 4),
 {cls:=.type "type",data:=.cls {name:="Func",bases:=[.type "object"],mro:=[.ref 73,.type "object"],ns:=72,qualname:="Func"},slots:=#[η,η,γ (.str "Func" 259),γ (.str "Func" 267),γ (.builtin "object.__new__"),γ (.bool ε)]},
 ob "getset_descriptor" (.fields #[.str "__dict__" 287,.ref 73,.builtin "function.__dict__",.builtin "function.__dict__#set"]),
 ob "getset_descriptor" (.fields #[.str "__weakref__" 289,.ref 73,.builtin "ExceptionGroup.__weakref__",.none]),
 ob "super" (.fields #[.ref 73,.ref 73,.ref 73]),
 ob "builtin_function_or_method" (.fields #[.builtin "object.__init_subclass__",.ref 73])]++(fu (fb 5) "followers" "followers" 294 28 1 3 78 "corecc.code" 187 ["block","end"]++([ob "dict" (.dict #[en P "store" 308 (.int 1 309),en P "move" 310 (.int 1 311),en P "call" 312 (.int 1 313),en P "callreg" 314 (.int 1 315)] 4),
 ob "dict" (.dict #[en P "div" 321 (.int 1 322),en P "divu" 323 (.int 1 324),en P "rem" 325 (.int 1 326),en P "remu" 327 (.int 1 328)] 4),
 eS,
 ob "builtin_function_or_method" (.fields #[.builtin "type.__prepare__",.type "type"]),
 ob "dict" (.dict #[en P "__module__" 341 (.str "corecc.flow" 302),en P "__qualname__" 343 (.str "Loop" 342),en P "__firstlineno__" 345 (.int 41 344),en P "__init__" 355 (.ref 100),en P "__static_attributes__" 359 (.ref 101)] 5),
 eS,
 {cls:=.none,data:=.fields #[.int 43 0,.int 4 0,.ref 99]},
 co "Loop" "Loop" 336 41 0 0 90 ζ 181 91 .none .none .none 339,
 {cls:=.type "frame",slots:=#[γ (.ref 92),γ (.ref 3),γ (.ref 89),η,γ (.str "corecc.flow" 302),η,γ (.ref 0)]}]++(fu (fq (fc 10) "Loop.__init__") "__init__" "Loop.__init__" 346 43 4 3 94 "corecc.flow" 302 ["self","header","blocks","tails"]++([ob "tuple" (.seq #[.str "blocks" 356,.str "header" 357,.str "tails" 358]),
 ob "dict" (.dict ([en P "__module__" 341 (.str "corecc.flow" 302),en P "__firstlineno__" 345 (.int 41 344)]++er P [("__init__",355,100),("__static_attributes__",359,101),("__dict__",361,104),("__weakref__",363,105)]++[en P "__doc__" 364 (.none)]).toArray 4),
 {cls:=.type "type",data:=.cls {name:="Loop",bases:=[.type "object"],mro:=[.ref 103,.type "object"],ns:=102,qualname:="Loop"},slots:=#[η,η,γ (.str "Loop" 334),γ (.str "Loop" 342),γ (.builtin "object.__new__"),γ (.bool ε)]},
 ob "getset_descriptor" (.fields #[.str "__dict__" 360,.ref 103,.builtin "function.__dict__",.builtin "function.__dict__#set"]),
 ob "getset_descriptor" (.fields #[.str "__weakref__" 362,.ref 103,.builtin "ExceptionGroup.__weakref__",.none]),
 ob "super" (.fields #[.ref 103,.ref 103,.ref 103]),
 ob "builtin_function_or_method" (.fields #[.builtin "object.__init_subclass__",.ref 103])]++(fu (fb 11) "has_effect" "has_effect" 367 47 1 3 108 "corecc.flow" 302 ["step"]++(fu (fb 12) "can_fault" "can_fault" 374 49 1 3 115 "corecc.flow" 302 ["step","kind","value"]++(fu (fb 13) "is_plain" "is_plain" 383 56 1 3 122 "corecc.flow" 302 ["step"]++(fu (fb 14) "preds" "preds" 390 58 1 3 129 "corecc.flow" 302 []++(fu (fb 15) "postorder" "postorder" 396 65 1 3 134 "corecc.flow" 302 ["func","found","seen","stack","top","number"]++(fu (fb 16) "needs_of" "needs_of" 408 81 1 3 141 "corecc.flow" 302 ["block","needed","given","step","kind","value"]++(fu (fb 17) "live" "live" 420 93 1 3 148 "corecc.flow" 302 []++(fu (fb 18) "in_place_of" "in_place_of" 426 121 5 3 153 "corecc.flow" 302 ["step","op","dst","args","more","found"]++(fu (fb 19) "led_end" "led_end" 438 125 2 3 160 "corecc.flow" 302 []++(fu (fb 21) "steps_in" "steps_in" 446 137 2 3 165 "corecc.loops" 444 ["func","loop","found","number","place","step"]++(fu (fb 22) "times_set" "times_set" 458 143 1 3 172 "corecc.loops" 444 ["rows","found","number","place","step"]++(fu (fb 23) "is_settled" "is_settled" 469 149 2 3 179 "corecc.loops" 444 ["step","often","kind","value"]++(fu (fb 24) "single_rows" "single_rows" 479 154 2 3 186 "corecc.loops" 444 []++(fu (fb 25) "steps_led_out" "steps_led_out" 485 156 3 3 191 "corecc.loops" 444 []++(fu (fb 26) "rows_led_out" "rows_led_out" 491 171 3 3 196 "corecc.loops" 444 []++(fu (fb 27) "sum_with" "sum_with" 497 178 2 3 201 "corecc.loops" 444 ["step","register","one","other"]++(fu (fb 28) "growth_at" "growth_at" 507 187 2 3 208 "corecc.loops" 444 ["steps","place","step","source","at"]++(fu (fb 29) "counters_of" "counters_of" 518 198 2 3 215 "corecc.loops" 444 ["func","rows","found","others","number","place","step"]++(fu (fb 30) "freed_entry" "freed_entry" 531 208 1 3 222 "corecc.loops" 444 ["func","entry","number","moved","block"]++(fu (fb 31) "block_ahead" "block_ahead" 542 220 2 3 229 "corecc.loops" 444 []++([ob "tuple" (.seq #[.int 1 552,.int 2 553,.int 5 554,.int 6 555,.int 8 556,.int 11 557,.int 20 558,.int 0 559]),
 ob "tuple" (.seq #[.int 1 561,.int 2 562,.int 4294967295 563,.int 7 564,.int 16 565,.int 2147483648 566]),
 ob "tuple" (.seq #[.str "add" 568,.str "sub" 569,.str "mul" 570,.str "xor" 571,.str "copy" 572,.str "const" 573])]++(fu (fb 37) "_law_row" "_law_row" 575 235 1 3 237 "law_sa0179_01" 548 ["number","kind","more","one","other","extra","rows"]++(fu (fb 38) "_law_program" "_law_program" 588 242 1 3 244 "law_sa0179_01" 548 []++(fu (fb 39) "_law_made" "_law_made" 594 263 1 3 249 "law_sa0179_01" 548 []++(fu (fb 40) "_law_shown" "_law_shown" 600 272 1 3 254 "law_sa0179_01" 548 []++(fu (fb 41) "_law_leads" "_law_leads" 606 278 1 3 259 "law_sa0179_01" 548 ["end","op","args","more"]++(fu (fb 42) "_law_worth" "_law_worth" 616 285 2 3 266 "law_sa0179_01" 548 []++(fu (fb 43) "_law_gone" "_law_gone" 622 297 2 3 271 "law_sa0179_01" 548 ["placed","first","held","trail","at","visit","rows","end","place","row","worth","op","args","more","spot"]++(fu (fb 44) "_law_alike" "_law_alike" 643 317 4 3 278 "law_sa0179_01" 548 []++(fu (fb 45) "_law_seen" "_law_seen" 649 320 1 3 283 "law_sa0179_01" 548 []++(fu (fb 46) "_law_is_live" "_law_is_live" 655 322 3 3 288 "law_sa0179_01" 548 ["placed","at","cell","waiting","met","number","rows","end","is_set","op","dst","args","more"]++(fu (fb 47) "_law_freed_right" "_law_freed_right" 674 339 4 3 295 "law_sa0179_01" 548 []++(fu (fb 48) "_law_ahead_right" "_law_ahead_right" 680 348 5 3 300 "law_sa0179_01" 548 []++(fu (fb 49) "_law_led_right" "_law_led_right" 686 361 6 3 305 "law_sa0179_01" 548 []++(fu (fb 50) "_law_counters_right" "_law_counters_right" 692 387 3 3 310 "law_sa0179_01" 548 []++([eS,
 w7,
 fg (fb 51) 0,
 co "law" "law" 698 403 1 3 315 ε 181 316 .none .none (.ref 317) 701,
 {cls:=.type "function",data:=.func {(fb 51)with pyModule:=.str "law_sa0179_01" 548,code:=.ref 318}}]))))))))))))))))))))))))))))))))))))))))))))))
noncomputable def gU(P:jx):Ξ:={objs:=⟨SI P⟩}
end
section
set_option Elab.async false
set_option maxRecDepth 100000
set_option maxHeartbeats 8000000
def oQ(w:aM):Prop:=(λos=>Fast.tw14082659384304107361 Fast.tw14364793385576792824 prog w 11 (γ (.ref 6)) 2300 ⟨j8 w.params,⟨[]⟩,zI,An,os⟩ (topStub prog))=λos=>γ ⟨gU w.params,⟨[]⟩,{},704,os⟩
theorem SJ:∀w:aM,oQ (World.withFollow w "special-get-raises" ζ):=λw=>by unfold oQ;kernel_rfl
theorem SK:∀w:aM,oQ (World.withFollow w "special-get-raises" ε):=λw=>by unfold oQ;kernel_rfl
end
section
set_option Elab.async false
set_option maxRecDepth 100000
set_option maxHeartbeats 8000000
theorem RY(w:aM)(os:OsState):topRun treeTable prog w 11 (γ (.ref 6)) 2300 ⟨j8 w.params,⟨[]⟩,zI,An,os⟩ (topStub prog)=γ ⟨gU w.params,⟨[]⟩,{},704,os⟩:=by have h:oQ w:=byRow2 "special-get-raises" SJ SK w;rw[Fast.te14082659384304107361,Fast.te14364793385576792824];exact congrFun h os
noncomputable def Xt(s:ν):Bool:=xlAt vw lv s&&recOk (RowW.records tA.row.toRowW) s
noncomputable def wR(w:aM)(os:OsState):ν:=⟨gU w.params,⟨[]⟩,{},704,os⟩
theorem QP(w:aM):((j8 w.params).isNs c8&&(Array.mk ([]:List GenState)).size==0,(j8 w.params).objs.size,(j8 w.params).nsMap c8 "__annotations__")=(ε,11,γ (.ref 6)):=by kernel_rfl
theorem RZ(w:aM)(os:OsState):(staticsOk (yt prog.main.body) (j8 w.params) (gU w.params)&&namesBound prog (gU w.params)&&gensDone (wR w os)&&laidKept (j8 w.params) (gU w.params))=ε:=by kernel_rfl
theorem R0(w:aM)(os:OsState):Fast.tw4187177175401517315 vw loose (yt prog.main.body) Xt ε (wR w os)=openGood vw loose:=by kernel_rfl
theorem R2(w:aM):(fencedOpening treeTable prog w 4604).map (λs=>(s.heap,s.gens,s.drawn,s.toks))=γ (j8 w.params,Array.mk [],zI,An):=boot_open TK (by decide) (λs=>rfl) w
theorem QQ:LeftO prog vw loose Xt (λs=>s.heap) (λw=>gU w.params) 4604:=
 LeftO.of_pieces R2 QP RY (by decide) λw=>by funext os;refine lX (RZ w os) (lX ?_ TK);show openSeen vw loose (yt prog.main.body) Xt ε (wR w os)=openGood vw loose;rw[Fast.te4187177175401517315];exact R0 w os
end
section
set_option Elab.async false
set_option maxRecDepth 100000
set_option maxHeartbeats 8000000
noncomputable def v7(as:List υ)(h:Ξ):cJ:=as.filterMap λa=>(h.get? a).map λo=>(a,o)
theorem OX(as:List υ)(h:Ξ):(v7 as h).In h:=by
 intro a o e;obtain⟨l1,l2,q,_⟩:=pz.mp e;have hm:(a,o)∈v7 as h:=by rw[q];exact aI _ (.head _)
 obtain⟨b,_,hb⟩:=xW.mp hm;obtain⟨o',h1,h2⟩:=map_some hb;cases h2;exact h1
noncomputable def KP(P:jx):cJ:=v7 (ax 320) (gU P)
noncomputable def Td(K:cJ)(f:Nat):Bool:=IN (gX.lookup f) λd=>IN (eR K (nm f)) λv=>IN (refV v) λfa=>wO K fa d
theorem C2(P:jx):chk (KP P)=ε:=by kernel_rfl
theorem R3(P:jx):oA.all (Td (KP P))=ε:=by kernel_rfl
theorem SM(P:jx):om (KP P) 2=[8,9,10,11].map λk=>fR P (nm k):=by kernel_rfl
theorem SN(P:jx):om (KP P) 3=[12,13,14,15].map λk=>fR P (nm k):=by kernel_rfl
end
end Mine
end
section
namespace Mine
inductive bl where|r (n:Nat)|k (i:Int)
inductive mM where|add|sub|mul|xor|divu
inductive bv where|bin (o:mM) (d:Nat) (a b:bl)|copy (d:Nat) (a:bl)|const (d:Nat) (a:bl)|call (a:bl)
inductive Id where|jump (t:Nat)|branch (a x y:Nat)|table (a x y z o:Nat)|give (a:Nat)
abbrev bn:=List bv×Id
noncomputable def bv.dst:bv->Int|.bin _ d _ _=>d|.copy d _=>d|.const d _=>d|.call _=> -1
noncomputable def bv.args:bv->List bl|.bin _ _ a b=>[a,b]|.copy _ a=>[a]|.const _ a=>[a]|.call a=>[a]
noncomputable def mM.word:mM->Nat|.add=>16|.sub=>17|.mul=>18|.xor=>19|.divu=>13
noncomputable def bv.word:bv->Nat|.bin o _ _ _=>o.word|.copy _ _=>20|.const _ _=>21|.call _=>10
noncomputable def bv.more:bv->CV|.call _=>.str 118|_=>.int 0
noncomputable def bX:bl->CV|.r n=>.tup [.str 71,.int n]|.k i=>.tup [.str 57,.int i]
noncomputable def Id.word:Id->Nat|.jump _=>48|.branch _ _ _=>47|.table _ _ _ _ _=>46|.give _=>131
noncomputable def Id.args:Id->List bl|.jump _=>[]|.branch a _ _=>[.r a]|.table a _ _ _ _=>[.r a]|.give a=>[.r a]
noncomputable def Id.more:Id->CV|.jump t=>.int t|.branch _ x y=>.tup [.int x,.int y]|.table _ x y z o=>.tup [.int 0,.list [.int x,.int y,.int z],.int o]|.give _=>.int 0
noncomputable def Id.succ:Id->List Nat|.jump t=>[t]|.branch _ x y=>[x,y]|.table _ x y z o=>[x,y,z,o]|.give _=>[]
noncomputable def sB(l:List Nat):CV:=.list (l.map λ(i:Nat)=>.int i)
noncomputable def sK(r:bv):CV:=.tup [.str r.word,.int r.dst,.list (r.args.map bX),r.more]
noncomputable def dg(e:Id):CV:=.tup [.str e.word,.list (e.args.map bX),e.more]
noncomputable def un(b:bn):CV:=.tup [.list (b.1.map sK),dg b.2]
noncomputable def wn(P:List bn):CV:=.list (P.map un)
noncomputable def TW(r:bv):CV:=.inst 0 (.sdict [32,31,30,29,28,26] [.str r.word,.int r.dst,.list (r.args.map bX),r.more,.bool ζ,.int 0])
noncomputable def cS(e:Id):CV:=.inst 0 (.sdict [32,31,30,29,28,26] [.str e.word,.int (-1),.list (e.args.map bX),e.more,.bool ζ,.int 0])
noncomputable def cI(i:Nat)(b:bn):CV:=.sdict [36,35,34] [.int i,.list (b.1.map TW),cS b.2]
noncomputable def b8(i:Nat)(b:bn):CV:=.inst 1 (.lend (cI i b))
noncomputable def dD:Nat->List bn->List CV|_,[]=>[]|i,b::P=>b8 i b::dD (i+1) P
noncomputable def gN(x:CV):CV:=.sdict [44,43,42,41,40,39,38] [.str 134,.list (cn 12),.bool ζ,.list [],x,.int 12,.bool ε]
noncomputable def Sc(P:List bn):CV:=.inst 2 (.lend (gN (.lend (.list (dD 0 P)))))
theorem KM{α:Type}{f:α->CV}(h:∀x,(f x).solid=ε):∀l:List α,Go (l.map f)=ε
 |[]=>rfl
 |x::l=>by refine(?_:(CV.solid (f x)&&Go (l.map f))=ε);exists h x;exists KM h l;rfl
theorem bq{α:Type}{f:α->CV}(h:∀x,(f x).calm=ε):∀l:List α,SC (l.map f)=ε
 |[]=>rfl
 |x::l=>by refine(?_:(CV.calm (f x)&&SC (l.map f))=ε);exists h x;exists bq h l;rfl
theorem dl{a b:Bool}(x:a=ε)(y:b=ε):(a&&b)=ε:=by exists x;exists y;rfl
theorem j6(l:List Nat):(sB l).solid=ε:=KM (λ_=>rfl) l
theorem ly(a:bl):(bX a).solid=ε:=by induction a<;>rfl
theorem qB(a:bl):(bX a).calm=ε:=by induction a<;>rfl
theorem qp(r:bv):r.more.solid=ε:=by induction r<;>rfl
theorem z7(r:bv):r.more.calm=ε:=by induction r<;>rfl
theorem y8(e:Id):e.more.solid=ε:=by induction e<;>rfl
theorem zp(e:Id):e.more.calm=ε:=by induction e<;>rfl
theorem lz(r:bv):(sK r).solid=ε:=dl (KM ly _) (dl (qp r) TK)
theorem u0(r:bv):(sK r).calm=ε:=dl (bq qB _) (dl (z7 r) TK)
theorem JF(r:bv):(TW r).solid=ε:=dl (KM ly _) (dl (qp r) TK)
theorem je(r:bv):(TW r).calm=ε:=dl (bq qB _) (dl (z7 r) TK)
theorem z8(e:Id):(cS e).calm=ε:=dl (bq qB _) (dl (zp e) TK)
theorem JG(e:Id):(dg e).solid=ε:=dl (KM ly _) (dl (y8 e) TK)
theorem z9(e:Id):(dg e).calm=ε:=dl (bq qB _) (dl (zp e) TK)
theorem zq(b:bn):(un b).solid=ε:=dl (KM lz _) (dl (JG _) TK)
theorem KL(b:bn):(un b).calm=ε:=dl (bq u0 _) (dl (z9 _) TK)
theorem lj(P:List bn):(wn P).solid=ε:=KM zq P
theorem y9(P:List bn):(wn P).calm=ε:=bq KL P
theorem u3(i:Nat)(b:bn):(b8 i b).calm=ε:=dl (bq je _) (dl (z8 _) TK)
theorem zr:∀(P:List bn) (i:Nat),SC (dD i P)=ε
 |[],_=>rfl
 |b::P,i=>dl (u3 i b) (zr P (i+1))
theorem fU(P:List bn):(Sc P).calm=ε:=dl (zr P 0) TK
@[irreducible] noncomputable def Ph(n:Nat):Nat->Fn:=fL n
theorem C3(n:Nat):Ph n=fL n:=by unfold Ph;rfl
theorem fm{n f:Nat}{d:BT}{args:List CV}{c:ad}{Q:CV->ad->Prop}(hd:gX.lookup f=γ d)(b:run (Ph n) d args c Q):Ph (n+1) f args c Q:=by rw[C3]at b ⊢;refine(?_:ld (gX.lookup f) _);exists hd,b
theorem TT{n f:Nat}{d:BT}{args UO:List CV}{c:ad}{Q:CV->ad->Prop}(hd:gX.lookup f=γ d)(hm:d.m= .pure)(e:args.map (ul c 8)=UO)(hc:SC UO=ε)
  (b:body (Ph n) d UO [] λv c'=>∃w,Fz c' v w/\w.solid=ε/\Q w c):Ph (n+1) f args c Q:=by
 refine fm hd ?_;unfold run;exists hm;exists e;exact⟨hc,b⟩
theorem an{n m:Nat}(h:iz n m=ε):n<=m:=pC h
theorem ret{v:CV}{c c':ad}{Q:CV->ad->Prop}(h:v.solid=ε)(q:Q v c):∃w,Fz c' v w/\w.solid=ε/\Q w c:=⟨v,.solid h,h,q⟩
theorem qb{n:Nat}{args:List CV}{c:ad}{Q:CV->ad->Prop}{i:Nat}{b:bn}(e:args.map (ul c 8)=[b8 i b])(q:Q (sB b.2.succ) c):Ph (n+1) 50 args c Q:=by
 refine TT TK TK e (dl (u3 i b) TK) (ξ TK ?_);obtain⟨rs,en⟩:=b;induction en with
 |jump t=>exact ξ (an TK) (ret TK q)
 |branch a x y=>exact ξ (an TK) (ξ (an TK) (ξ (an TK) (ret TK q)))
 |table a x y z o=>exact ξ (an TK) (ξ (an TK) (ξ (an TK) (ξ (an TK) (ξ (an TK) (ret TK q)))))
 |give a=>exact ξ (an TK) (ret TK q)
theorem kJ{α σ:Type}{enc:α->CV}{sm:ad->Prop}{f:CV->L->ad->(L->ad->Prop)->Prop}{N:L->ad->Prop}(lf:σ->L)(cf:σ->ad)(I:List α->σ->Prop)
  (turn:∀x xs s K,I (x::xs) s->(∀s,sm (cf s)->I xs s->K (lf s) (cf s))->f (enc x) (lf s) (cf s) K):∀xs s,I xs s->(∀s,I [] s->N (lf s) (cf s))->ZB sm f (xs.map enc) (lf s) (cf s) N
 |[],s,h,k=>k s h
 |x::xs,s,h,k=>turn x xs s _ h λs m h=>⟨m,kJ lf cf I turn xs s h k⟩
theorem Ev{b:Bool}{A B:Prop}(h:b=ε->A)(k:b=ζ->B):br b A B:=by cases b;exact k TK;exact h TK
noncomputable def gV(ks:List Int):List bl->Bool
 |[]=>ε
 |.r n::as=> !ks.contains (n:Int)&&gV ks as
 |.k _::as=>gV ks as
theorem zt{n:Nat}{args:List CV}{c:ad}{Q:CV->ad->Prop}{r:bv}{ks:List Int}{vs:List CV}(e:args.map (ul c 8)=[TW r,.lend (.dict ks vs)])(hv:SC vs=ε)
  (q:Q (.bool (gV ks r.args)) c):Ph (n+1) 98 args c Q:=by
 refine TT TK TK e (dl (je r) (dl hv TK)) (ξ TK ?_);refine kJ (σ:=Option CV×Option CV) (λs=>[(54,γ (TW r)),(97,γ (.lend (.dict ks vs))),(56,s.1),(58,s.2)]) (λ_=>[]) (λas _=>Q (.bool (gV ks as)) c) (λa as s K h k=>?_) r.args (η,η) q λs h=>ret TK h;induction a with
 |k i=>exact k (_,_) TQ h
 |r m=>
  refine Ev (λh1=>ret TK ?_) λh1=>k (_,_) TQ ?_
  ·have:gV ks (.r m::as)=ζ:=(by show(!ks.contains (m:Int)&&_)=ζ;exists show ks.contains (m:Int)=ε from h1;rfl);rw[this]at h;exact h
  ·have:gV ks (.r m::as)=gV ks as:=(by show(!ks.contains (m:Int)&&_)=_;exists show ks.contains (m:Int)=ζ from h1;rfl);rw[this]at h;exact h
set_option backward.match.sparseCases false
noncomputable def w8:bv->Bool|.call _=>ε|_=>ζ
noncomputable def C4:bv->Bool
 |.bin o _ _ b=>match o with
  |.divu=>match b with|.k i=>i%4294967296==0|.r _=>ε
  |_=>ζ
 |_=>ζ
theorem KN{n:Nat}{args:List CV}{c:ad}{Q:CV->ad->Prop}{r:bv}(e:args.map (ul c 8)=[TW r])(q:Q (.bool (w8 r)) c):Ph (n+1) 55 args c Q:=by
 refine TT TK TK e (dl (je r) TK) (ξ TK ?_);induction r with
 |bin o d a b=>induction o<;>exact ret rfl q
 |copy d a=>exact ret TK q
 |const d a=>exact ret TK q
 |call a=>exact ret TK q
theorem MY{n:Nat}{args:List CV}{c:ad}{Q:CV->ad->Prop}{r:bv}(e:args.map (ul c 8)=[TW r])(q:Q (.bool (C4 r)) c):Ph (n+1) 60 args c Q:=by
 refine TT TK TK e (dl (je r) TK) (ξ TK ?_);induction r with
 |bin o d a b=>
  induction o with
  |divu=>
   induction b with
   |k i=>exact ξ (an TK) (ξ (by decide) (ret TK q))
   |r m=>exact ξ (an TK) (ret TK q)
  |_=>exact ret TK q
 |copy d a=>exact ret TK q
 |const d a=>exact ret TK q
 |call a=>exact ret TK q
noncomputable def plain(r:bv):Bool:= !w8 r&& !C4 r
theorem MZ{n:Nat}{args:List CV}{c:ad}{Q:CV->ad->Prop}{r:bv}(e:args.map (ul c 8)=[TW r])(q:Q (.bool (plain r)) c):Ph (n+2) 61 args c Q:=by
 refine TT TK TK e (dl (je r) TK) (ξ TK ?_);refine KN (r:=r) (by rfl) ?_;unfold plain at q;cases h:w8 r with
 |true=>rw[h]at q;exact ret TK q
 |false=>rw[h]at q;exact MY (r:=r) (by rfl) (ret TK q)
end Mine
end
section
namespace Mine
theorem jD{α σ:Type}{enc:α->CV}{sm:ad->Prop}{f:CV->List CV->L->ad->(List CV->L->ad->Prop)->Prop}{N:List CV->L->ad->Prop}(lf:σ->L)(c:ad)(out:α->List CV)(I:α->Prop)
  (turn:∀x s r K,I x->δ (r++out x)<=1000->(∀s,K (r++out x) (lf s) c)->f (enc x) r (lf s) c K) (hs:sm c):∀(xs:List α) (r:List CV) (s:σ),(∀x∈xs,I x)->δ (r++xs.flatMap out)<=1000->(∀s,N (r++xs.flatMap out) (lf s) c)->cA sm f (xs.map enc) r (lf s) c N:=by
 intro xs;induction xs with
 |nil=>exact λr s _ _ k=>by have:=k s;rw[List.flatMap_nil,aL]at this;exact this
 |cons x xs ih=>intro r s hi hb k;rw[kY,←bF]at hb;refine turn x s r _ (hi x (.head _)) (by rw[Δ]at hb;exact κ (ao _ _) hb) λs=>⟨hs,ih _ s (λy h=>hi y (.tail _ h)) hb λs=>?_⟩;have:=k s;rw[kY,←bF]at this;exact this
theorem On{α:Type}{g:α->CV}:∀xs:List α,(xs.flatMap λx=>[g x])=xs.map g
 |[]=>rfl
 |x::xs=>by exists kY;exists On xs;rfl
section
variable {K:Type}[BEq K][LawfulBEq K]{k k':K}{v w:CV}{ks:List K}{vs:List CV}
theorem nB(h:δ ks=δ vs):wf k (wv k ks) (IO k v ks vs)=γ v:=by
 refine lY (M:=λks vs=>wf k (wv k ks) (IO k v ks vs)=γ v) (e9 (TJ k)) (λa w ks vs _ ih=>?_) h;cases q:k==a with
 |true=>exact ac (lZ q) (ac (lM q) (ac (e9 q) TK))
 |false=>refine ac (l4 q) (ac (j9 q) (ac (dy q) ?_));exact ih
theorem n5(hn:k'≠k)(h:δ ks=δ vs):wf k' (wv k ks) (IO k v ks vs)=wf k' ks vs:=by
 have q:(k'==k)=ζ:=TO.mpr hn;refine lY (M:=λks vs=>wf k' (wv k ks) (IO k v ks vs)=wf k' ks vs) (dy q) (λa w ks vs _ ih=>?_) h;cases p:k==a with
 |true=>rw[TM p]at q;exists lZ p,ac (lM p) (ac (dy q) (ac (dy q) TK))
 |false=>
  exists l4 p;exists j9 p;cases r:k'==a with
  |true=>exact ac (e9 r) (ac (e9 r) TK)
  |false=>refine ac (dy r) (ac (dy r) ?_);exact ih
theorem fX:k'∈wv k ks↔k'=k\/k'∈ks:=by
 cases q:ks.contains k with
 |true=>refine ac (ie q) ?_;exact⟨.inr,λh=>h.elim (λe=>e▸ak.mp q) id⟩
 |false=>rw[jj q,aw,Θ,or_comm]
theorem uK(h:ks.Nodup):(wv k ks).Nodup:=by
 cases q:ks.contains k with
 |true=>refine ac (ie q) ?_;exact h
 |false=>refine ac (jj q) ?_;exact cL.mpr ⟨h,mX _ _,λa ha b hb e=>by rw[e,Θ.mp hb,←ak,q]at ha;nomatch ha⟩
omit [LawfulBEq K] in
theorem rB(h:δ ks=δ vs):δ (wv k ks)=δ (IO k v ks vs):=by
 refine lY (M:=λks vs=>δ (wv k ks)=δ (IO k v ks vs)) TK (λa w ks vs e ih=>?_) h;cases q:k==a with
 |true=>refine ac (lZ q) (ac (lM q) ?_);exact TL (· +1) e
 |false=>refine ac (l4 q) (ac (j9 q) ?_);exact TL (· +1) ih
omit [LawfulBEq K] in
theorem vi:δ (wv k ks)<=δ ks+1:=By
theorem KO(h:¬k∈ks):wf k ks vs=η:=by
 induction ks generalizing vs with
 |nil=>rfl
 |cons a ks ih=>induction vs using ar with
  |nil=>rfl
  |cons v vs=>exact(dy (TO.mpr λe=>h (by exists e,.head _))).trans (ih λm=>h (.tail _ m))
theorem KQ:δ ks=δ vs->k∈ks->∃w,wf k ks vs=γ w:=by
 refine lY (M:=λks vs=>k∈ks->∃w,wf k ks vs=γ w) (λm=>nomatch m) (λa v ks vs _ ih m=>?_);cases q:k==a with
 |true=>exact⟨v,e9 q⟩
 |false=>refine ac (dy q) ?_;exact ih ((ab.mp m).resolve_left (TO.mp q))
theorem M0(h:δ ks=δ vs)(e:wf k' (wv k ks) (IO k v ks vs)=γ w):(k'=k/\w=v)\/wf k' ks vs=γ w:=by
 by_cases q:k'=k
 ·rw[q,nB h]at e;exact .inl ⟨q,(ω e).symm⟩
 ·rw[n5 q h]at e;exact .inr e
end
end Mine
end
section
namespace Mine
theorem Cs(hd:gX.lookup f=γ d)(hm:d.m= .fresh)(e:args.map (ul c 8)=UO)(hc:SC UO=ε)
  (b:body (Ph n) d UO [] λv c'=>∃n x,v= .ref n/\f8 c' n=γ x/\Go x.kids=ε/\Q (.ref (δ c)) (c++[γ x])):Ph (n+1) f args c Q:=by
 refine fm hd ?_;unfold run;exists hm;exists e;exact⟨hc,b⟩
theorem KF(a:A)(b:B)(c:C):A/\B/\C:=⟨a,b,c⟩
theorem gY(a:A)(b:B)(c:C)(d:D):A/\B/\C/\D:=⟨a,b,c,d⟩
theorem bN{A B C D E:Prop}(a:A)(b:B)(c:C)(d:D)(e:E):A/\B/\C/\D/\E:=⟨a,b,c,d,e⟩
theorem wl(a:A)(h:o=γ v)(k:K v):A/\ld o K:=⟨a,by rw[h];exact k⟩
theorem jI(a:A)(b:B)(h:o=γ v)(k:K v):A/\B/\ld o K:=⟨a,wl b h k⟩
theorem mF(a:A)(b:B)(c:C)(h:o=γ v)(k:K v):A/\B/\C/\ld o K:=⟨a,jI b c h k⟩
theorem TF(a:A)(b:B)(c:C)(d:D)(h:o=γ v)(k:K v):A/\B/\C/\D/\ld o K:=⟨a,mF b c d h k⟩
theorem db(h:o=γ a)(k:K a):ld o K:=by exists h,k
abbrev v6:=Nat×Nat×bv
noncomputable def eT(t:v6):CV:=.tup [.int t.1,.int t.2.1,TW t.2.2]
theorem ik(t:v6):(eT t).solid=ε:=dl (JF t.2.2) TK
theorem rD(t:v6):(eT t).calm=ε:=dl (je t.2.2) TK
noncomputable def KK(ts:List v6):CV:=.list (ts.map eT)
noncomputable def St(ts:List v6):List Int:=ts.map λt=>t.2.2.dst
structure iU(ks:List Int) (vs:List CV) (ds:List Int):Prop where
 nd:ks.Nodup
 mem:∀d:Int,d∈ks↔0<=d/\d∈ds
 get:∀d:Int,d∈ks->wf d ks vs=γ (.int (ds.count d))
 len:δ ks=δ vs
 bound:δ ks<=δ ds
 sol:Go vs=ε
theorem uC{k:Int}{v:CV}(hv:v.solid=ε){ks:List Int}:∀{vs:List CV},Go vs=ε->Go (IO k v ks vs)=ε:=by
 induction ks with
 |nil=>exact λ_=>dl hv TK
 |cons a ks ih=>intro vs h;induction vs using ar with
  |nil=>exact dl hv TK
  |cons w vs=>
   obtain⟨h1,h2⟩:=jp h;cases q:k==a with
   |true=>refine ac (lM q) ?_;exact dl hv h2
   |false=>refine ac (j9 q) ?_;exact dl h1 (ih h2)
theorem He:∀(v:CV),v.solid=ε->v.calm=ε:=by
 intro v;refine CV.rec (motive_1:=λv=>v.solid=ε->v.calm=ε) (motive_2:=λl=>Go l=ε->SC l=ε) ?_ ?_ ?_ ?_ ?_ ?_ ?_ ?_ ?_ ?_ ?_ ?_ ?_ ?_ ?_ ?_ ?_ ?_ v
 all_goals first
  |exact λ_=>rfl
  |exact λ_ _=>rfl
  |exact λ_ _ _=>rfl
  |(exact λ_ h=>(nomatch (show ζ=ε from h)))
  |(exact λ_ _ h=>(nomatch (show ζ=ε from h)))
  |exact λ_ ih h=>ih h
  |exact λ_ _ ih h=>ih h
  |(intro a l i1 i2 h;obtain⟨h1,h2⟩:=jp h;exact dl (i1 h1) (i2 h2))
theorem lQ(h:Go l=ε):SC l=ε:=He (.list l) h
theorem iU.step{ks:List Int}{vs:List CV}{ds:List Int}(D:iU ks vs ds){d:Int}(hd:0<=d):(wf d ks vs).getD (.int 0)= .int (ds.count d)/\iU (wv d ks) (IO d (.int ((ds.count d:Int)+1)) ks vs) (ds++[d]):=by
 have hc:(ds++[d]).count d=ds.count d+1:=by exists x9,ac List.count_singleton_self TK
 refine⟨?_,uK D.nd,λx=>?_,λx hx=>?_,?_,?_,uC TK D.sol⟩
 ·by_cases h:d∈ks
  ·exists D.get d h;rfl
  ·exists KO h;have:¬d∈ds:=λm=>h ((D.mem d).mpr ⟨hd,m⟩);exists List.count_eq_zero.mpr this;rfl
 ·rw[fX,D.mem,aw,Θ];constructor
  ·rintro(rfl|⟨a,b⟩)
   ·exact⟨hd,.inr TK⟩
   ·exact⟨a,.inl b⟩
  ·rintro⟨a,b|b⟩
   ·exact .inr ⟨a,b⟩
   ·exact .inl b
 ·by_cases q:x=d
  ·exists q;exists nB D.len;exists hc;rfl
  ·exists n5 q D.len;exists D.get x ((fX.mp hx).resolve_left q);exists x9;exists EU;exists TO.mpr (aO q);rfl
 ·exact rB D.len
 ·exists Δ,κ vi (bZ D.bound)
theorem iU.skip(D:iU ks vs ds)(hd:¬0<=d):iU ks vs (ds++[d]):=by
 refine⟨D.nd,λx=>?_,λx hx=>?_,D.len,κ D.bound (by exists Δ,ao _ _),D.sol⟩
 ·rw[D.mem,aw,Θ];exact⟨λz0=>by obtain⟨a,b⟩:=z0;exact⟨a,.inl b⟩,λz0=>by obtain⟨a,b⟩:=z0;exact⟨a,b.resolve_right λe=>hd (e▸a)⟩⟩
 ·have:x≠d:=λe=>hd (e▸((D.mem x).mp hx).1);exists D.get x hx;exists x9;exists EU;exists TO.mpr (aO this);rfl
theorem M1(e:args.map (ul c 8)=[KK ts])(hl:δ ts<=1000)(q:∀ks vs,iU ks vs (St ts)->Q (.ref (δ c)) (c++[γ (.dict ks vs)])):Ph (n+1) 96 args c Q:=by
 refine Cs TK TK e (dl (bq rD ts) TK) (ξ TK ?_);refine kJ (σ:=(List Int×List CV)×Option CV×Option CV×Option CV) (λs=>[(95,γ (KK ts)),(62,γ (.ref 0)),(36,s.2.1),(93,s.2.2.1),(54,s.2.2.2)]) (λs=>[γ (.dict s.1.1 s.1.2)])
  (λxs s=>∃ys,ys++xs=ts/\iU s.1.1 s.1.2 (St ys)) (λx xs s K h k=>?_) ts (([],[]),η,η,η) ⟨[],rfl,⟨ui,λd=>⟨λh=>(nomatch h),λh=>(nomatch h.2)⟩,λd h=>(nomatch h),rfl,aJ _,rfl⟩⟩ λs h=>?_
 ·obtain⟨⟨ks,vs⟩,o1,o2,o3⟩:=s;obtain⟨ys,hy,D⟩:=h;have XZ:(ys++[x])++xs=ts:=by exists bF ..,hy
  have hlen:δ ys<=1000:=κ (by refine io hy (ac Δ ?_);exact ao _ _) hl;have Wa:St (ys++[x])=St ys++[x.2.2.dst]:=aj;refine Ev (λh1=>?_) λh1=>k (_,_,_,_) TQ ⟨ys++[x],XZ,by exists Wa,D.skip (of_decide_eq_false h1)⟩;obtain⟨g1,g2⟩:=D.step (TN h1);refine db (a:=CV.int _) ((TL (view _) g1).trans (by rfl)) (ξ (κ D.bound (by rw[St,φ];exact hlen)) (k ((_,_),_,_,_) TQ ⟨ys++[x],XZ,by exists Wa,g2⟩))
 ·obtain⟨⟨ks,vs⟩,o1,o2,o3⟩:=s;obtain⟨ys,hy,D⟩:=h;rw[aL]at hy;subst hy;exact⟨0,_,rfl,rfl,D.sol,q _ _ D⟩
theorem bC{b:Bool}{A B:Prop}(h:b=ε)(k:A):br b A B:=by exists h,k
theorem ww{b:Bool}{A B:Prop}(h:b=ζ)(k:B):br b A B:=by exists h,k
theorem dY{α σ:Type}{enc:α->CV}{sm:ad->Prop}{f:CV->List CV->L->ad->(List CV->L->ad->Prop)->Prop}{N:List CV->L->ad->Prop}(lf:σ->L)(c:ad)(p:α->Bool)(g:α->CV)(I:α->Prop)
  (turn:∀x s r K,I x->δ r<=1000->(p x=ε->∀s,K (r++[g x]) (lf s) c)->(p x=ζ->∀s,K r (lf s) c)->f (enc x) r (lf s) c K) (hs:sm c):∀(xs:List α) (r:List CV) (s:σ),(∀x∈xs,I x)->δ r+δ xs<=1000->(∀s,N (r++(xs.filter p).map g) (lf s) c)->cA sm f (xs.map enc) r (lf s) c N:=by
 intro xs;induction xs with
 |nil=>exact λr s _ _ k=>by have:=k s;rw[List.filter_nil,qg,aL]at this;exact this
 |cons x xs ih=>
  intro r s hi hb k;have hr:δ r<=1000:=κ (ao _ _) hb;refine turn x s r _ (hi x (.head _)) hr (λhp s=>⟨hs,ih _ s (λy h=>hi y (.tail _ h)) ?_ λs=>?_⟩) λhp s=>⟨hs,ih _ s (λy h=>hi y (.tail _ h)) ?_ λs=>?_⟩
  ·rw[Δ,bP,b4 [g x].length];exact hb
  ·have:=k s;rw[ub,hp]at this;exists bF ..,this
  ·exact κ (dq (jc _) _) hb
  ·have:=k s;rw[ub,hp]at this;exact this
theorem iN{α σ:Type}{enc:α->CV}{ys:List CV}{sm:ad->Prop}{f:CV->L->ad->(L->ad->Prop)->Prop}{N:L->ad->Prop}(lf:σ->L)(cf:σ->ad)(I:List α->σ->Prop)
  (turn:∀x xs s K,I (x::xs) s->(∀s,sm (cf s)->I xs s->K (lf s) (cf s))->f (enc x) (lf s) (cf s) K) (xs:List α) (he:ys=xs.map enc) (s:σ) (h:I xs s) (k:∀s,I [] s->N (lf s) (cf s)):ZB sm f ys (lf s) (cf s) N:=by
 exists he,kJ lf cf I turn xs s h k
noncomputable def fo(ds:List Int)(r:bv):Bool:=decide (0<=r.dst)&&((ds.count r.dst:Int)==1&&plain r)
theorem KR{n:Nat}{args:List CV}{c:ad}{Q:CV->ad->Prop}{ts:List v6}{ks:List Int}{vs:List CV}(D:iU ks vs (St ts))(e:args.map (ul c 8)=[KK ts,.lend (.dict ks vs)])(hl:δ ts<=1000)
  (q:Q (KK (ts.filter λt=>fo (St ts) t.2.2)) c):Ph (n+3) 99 args c Q:=by
 refine TT TK TK e (dl (bq rD ts) (dl (lQ D.sol) TK)) (ξ TK ?_);refine dY (σ:=Option CV) (λs=>[(97,γ (.lend (.dict ks vs))),(87,s)]) [] (λt=>fo (St ts) t.2.2) eT (λt=>t∈ts) (λt s r K ht hr k1 k2=>?_) TQ ts [] η (λ_ h=>h) (by rw[cC,az];exact hl) λs=>?_
 rotate_left
 ·exact ret (KM ik _) q
 refine ξ (an TK) (Ev (λh1=>?_) λh1=>ww h1 (k2 (by unfold fo;rw[show(decide (0<=t.2.2.dst))=ζ from h1,uj]) _));have hd:wf t.2.2.dst ks vs=γ (.int ((St ts).count t.2.2.dst)):=D.get _ ((D.mem _).mpr ⟨TN h1,i7 ht⟩);refine wl (an TK) (o:=wf t.2.2.dst ks vs) hd (Ev (λh2=>?_) λh2=>ww h2 (k2 (by unfold fo;rw[show(((St ts).count t.2.2.dst:Int)==1)=ζ from h2,uj,k8]) _));refine ξ (an TK) (MZ (r:=t.2.2) (by rfl) ?_);exact Ev (λh3=>ξ hr (k1 (dl h1 (dl h2 h3)) _)) λh3=>k2 (by unfold fo;rw[h3,k8,k8]) _
theorem qC{c:ad}:∀{l:List CV},Go l=ε->d6 c l l
 |[],_=>.nil
 |v::l,h=>by obtain⟨h1,h2⟩:=jp h;exact .cons (.solid h1) (qC h2)
noncomputable def GT(n:Nat):Nat->List bv->List v6
 |_,[]=>[]
 |p,r::rs=>(n,p,r)::GT n (p+1) rs
theorem ve{f:bv->CV}{n:Nat}{rs:List bv}:∀{p:Nat},fj p (rs.map f)=(GT n p rs).map λt=>.tup [.int t.2.1,f t.2.2]:=by
 induction rs with
 |nil=>exact rfl
 |cons r rs ih=>exact TL (CV.tup [.int _,f r]::·) ih
theorem zu{n:Nat}{rs:List bv}:∀{p:Nat} {t:v6},t∈GT n p rs->t.1=n:=by
 induction rs with
 |nil=>exact λh=>nomatch h
 |cons r rs ih=>exact λh=>(ab.mp h).elim (λe=>by exists e,TK) ih
theorem qD{P:List bn}:∀{i n:Nat} {b:bn},P[n]? =γ b->(dD i P)[n]? =γ (b8 (i+n) b):=by
 induction P with
 |nil=>exact λh=>nomatch h
 |cons a P ih=>
  intro i n b h;induction n using b5 with
  |zero=>replace h:=ω h;subst h;rfl
  |succ n=>have:=ih (i:=i+1) h;rw[cV]at this;exact this
theorem jf:∀{P:List bn} {i:Nat},δ (dD i P)=δ P
 |[],_=>rfl
 |_::P,_=>TL (· +1) jf
noncomputable def re(P:List bn)(n:Nat):List bv:=match P[n]? with|some b=>b.1|none=>[]
noncomputable def xz(P:List bn)(bs:List Nat):List v6:=bs.flatMap λn=>GT n 0 (re P n)
noncomputable def cR(h:Nat)(bs tl:List Nat):CV:=.inst 3 (.sdict [52,40,51] [.int h,.set (bs.map λ(n:Nat)=>(n:Int)),sB tl])
theorem z_(h:Nat)(bs tl:List Nat):(cR h bs tl).calm=ε:=dl (bq (λ_=>rfl) tl) TK
theorem AP{n:Nat}{args:List CV}{c:ad}{Q:CV->ad->Prop}{P:List bn}{h:Nat}{bs tl:List Nat}(e:args.map (ul c 8)=[Sc P,cR h bs tl])(hP:δ P<=1000)(hb:∀n∈bs,n<δ P)(hl:δ (xz P bs)<=1000)
  (q:Q (KK (xz P bs)) c):Ph (n+1) 94 args c Q:=by
 refine TT TK TK e (dl (fU P) (dl (z_ _ _ _) TK)) (ξ TK ?_);refine ξ (an TK) ?_;refine iN (σ:=List v6×Option CV×Option CV×Option CV) (enc:=λ(n:Nat)=>CV.int n) (λs=>[(63,γ (Sc P)),(92,γ (cR h bs tl)),(62,γ (.ref 0)),(36,s.2.1),(93,s.2.2.1),(54,s.2.2.2)]) (λs=>[γ (KK s.1)])
  (λxs s=>s.1++xz P xs=xz P bs/\∀n∈xs,n<δ P) (λx xs s K hs k=>?_) bs cM ([],η,η,η) ⟨rfl,hb⟩ λs hs=>?_
 ·obtain⟨ts,o1,o2,o3⟩:=s;obtain⟨h1,h2⟩:=hs;have hx:=h2 x (.head _);have hg:=ag hx;have hr:re P x=(P[x]).1:=by unfold re;exists hg,TK
  refine wl (by exists jf,hP) (o:=s0 (dD 0 P) (x:Int)) (qD hg) ?_;exists az ..;refine iN (σ:=List v6×Option CV×Option CV) (λs=>[(63,γ (Sc P)),(92,γ (cR h bs tl)),(62,γ (.ref 0)),(36,γ (.int x)),(93,s.2.1),(54,s.2.2)]) (λs=>[γ (KK s.1)])
   (λys s=>(s.1++ys)++xz P xs=xz P bs/\∀t∈ys,t.1=x) (λt ys s K hs k=>?_) (GT x 0 (P[x]).1) ve (ts,o2,o3) ⟨by refine ac (bF ..) (io (hr ..) ?_);exact h1,λt=>zu⟩ λs hs=>?_
  ·obtain⟨ts,o2,o3⟩:=s;obtain⟨h3,h4⟩:=hs;have hlen:δ ts<=1000:=κ (by rw[←h3,bF,Δ];exact ao _ _) hl;have ht:=h4 t (.head _);refine KF (an TK) (by exists φ ..,hlen) ?_;have:=k (ts++[t],γ (.int t.2.1),γ (TW t.2.2)) TQ ⟨by refine io (dr ..) ?_;exact h3,λu hu=>h4 u (.tail _ hu)⟩;rw[show KK (ts++[t])= .list (ts.map eT++[eT t]) by unfold KK;exists aj;rfl]at this;rw[show eT t= .tup [.int x,.int t.2.1,TW t.2.2] by unfold eT;rw[ht]]at this;exact this
  ·obtain⟨ts,o2,o3⟩:=s;obtain⟨h3,_⟩:=hs;rw[aL]at h3;exact k (ts,γ (.int x),o2,o3) TQ ⟨h3,λn hn=>h2 n (.tail _ hn)⟩
 ·obtain⟨ts,o1,o2,o3⟩:=s;have h1:=hs.1;rw[show xz P []=[] from rfl,aL]at h1;exists h1;exact⟨_,.ref (c:=[γ (KK (xz P bs))]) (x:=KK (xz P bs)) TK TK (qC (KM ik _)),KM ik _,q⟩
def Ch(l:List Int):Prop:=l.Pairwise (· < ·)/\∀x∈l, -1<=x/\x<=11
theorem Iy{x:Int}{l:List Int}(h:l.Pairwise (· < ·)):(NE x l).Pairwise (· < ·):=by
 induction l with
 |nil=>exact mX _ _
 |cons a l ih=>
  obtain⟨h1,h2⟩:=bO.mp h;rw[NE];by_cases q:x<a
  ·exists TG q,bO.mpr ⟨λy hy=>(ab.mp hy).elim (λe=>e▸q) λm=>jb q (h1 y m),h⟩
  ·exists TH q;by_cases q':x=a
   ·exists TG q',h
   ·exists TH q',bO.mpr ⟨λy hy=>(b6.mp hy).elim (λe=>by exists e;exact pE.mpr ⟨hZ.mp q,aO q'⟩) (h1 y),ih h2⟩
theorem Aa{l:List Int}:∀{a b:Int},l.Pairwise (· < ·)->(∀x∈l,a<=x/\x<b)->a<=b->(δ l:Int)<=b - a:=by
 induction l with
 |nil=>intro a b _ _ h;exact xI h
 |cons x l ih=>intro a b h hb UE;obtain⟨h1,h2⟩:=bO.mp h;obtain⟨q1,q2⟩:=hb x (.head _);have:=ih (a:=x+1) (b:=b) h2 (λy hy=>⟨h1 y hy,(hb y (.tail _ hy)).2⟩) q2;exists pR;lia
theorem Ch.ok{l:List Int}(h:Ch l):fx l:=by have:=Aa (a:= -1) (b:=12) h.1 (λx hx=>⟨(h.2 x hx).1,pG (h.2 x hx).2⟩) (by decide);exact⟨by lia,λx hx=>⟨(h.2 x hx).1,jZ (h.2 x hx).2 (by decide)⟩⟩
theorem Ch.ins(h:Ch l)(hx: -1<=x/\x<=11):Ch (NE x l):=⟨Iy h.1,λy hy=>(b6.mp hy).elim (λe=>e▸hx) (h.2 y)⟩
theorem Ch.nil:Ch []:=⟨.nil,λ_ h=>nomatch h⟩
theorem Ch.uni(ha:Ch a)(hb:Ch b):Ch (Re a b):=by
 have:∀l:List Int,(∀x∈l, -1<=x/\x<=11)->Ch (l.foldr NE b):=by
  intro l;induction l with
  |nil=>exact λ_=>hb
  |cons x l ih=>exact λh=>(ih λy hy=>h y (.tail _ hy)).ins (h x (.head _))
 exact this a ha.2
theorem Ch.diff(ha:Ch a):Ch (cu a b):=⟨ha.1.filter _,λx hx=>ha.2 x (b3.mp hx).1⟩
noncomputable def FM(as:List bl):List Nat:=as.filterMap λa=>match a with|.r n=>γ n|.k _=>η
def a7(d:Nat):List bv->Prop->Prop
 |[],T=>T
 |r::rs,T=>d∈FM r.args\/(r.dst≠d/\a7 d rs T)
theorem qE{d:Nat}{T:Prop}{rs:List bv}:a7 d rs T↔a7 d rs False\/((∀r∈rs,r.dst≠d)/\T):=by
 induction rs with
 |nil=>exact⟨λh=>.inr ⟨λ_ h=>(nomatch h),h⟩,λh=>h.elim aG (·.2)⟩
 |cons r rs ih=>show(_\/(_/\a7 d rs T))↔((_\/(_/\a7 d rs False))\/_);rw[ih,tN,and_or_left,or_assoc,and_assoc]
theorem BN{d:Nat}{T:Prop}{rs qs:List bv}:a7 d (rs++qs) T↔a7 d rs (a7 d qs T):=by
 induction rs with
 |nil=>exact .rfl
 |cons r rs ih=>show(_\/(_/\a7 d (rs++qs) T))↔(_\/(_/\a7 d rs _));rw[ih]
def eU:bl->Prop|.r n=>n<12|.k i=>0<i/\i<4294967296
def GM(r:bv):Prop:=(∀a∈r.args,eU a)/\r.dst<12
def mN(b:bn):Prop:=(∀r∈b.1,GM r)/\∀a∈b.2.args,eU a
theorem Ct(r:bv): -1<=r.dst:=by
 induction r with
 |call a=>exact Int.le_refl _
 |_=>exact jZ (by decide) (aE _)
structure fM(ys:List bv) (as:List bl) (nd gv:List Int):Prop where
 n:Ch nd
 g:Ch gv
 nm:∀d:Nat,(d:Int)∈nd↔a7 d ys False\/((∀r∈ys,r.dst≠d)/\d∈FM as)
 gm:∀d:Nat,(d:Int)∈gv↔∃r∈ys,r.dst=d
theorem vj:FM (as++bs)=FM as++FM bs:=List.filterMap_append
theorem fM.arg(D:fM ys as nd gv)(a:bl)(ha:eU a):(∀k,a= .k k->fM ys (as++[a]) nd gv)/\∀m,a= .r m->(gv.contains (m:Int)=ε->fM ys (as++[a]) nd gv)/\(gv.contains (m:Int)=ζ->fM ys (as++[a]) (NE m nd) gv):=by
 refine⟨λk e=>⟨D.n,D.g,λd=>?_,D.gm⟩,λm e=>⟨λh=>⟨D.n,D.g,λd=>?_,D.gm⟩,λh=>⟨D.n.ins ?_,D.g,λd=>?_,D.gm⟩⟩⟩
 ·subst e;rw[D.nm,vj];show _↔_\/(_/\d∈FM as++[]);rw[aL]
 ·exists e;rw[D.nm,vj];show _↔_\/(_/\d∈FM as++[m]);obtain⟨r,hr,hd⟩:=(D.gm m).mp (ak.mp h);rw[aw,Θ];exact⟨λq=>q.imp id λz0=>by obtain⟨x,y⟩:=z0;exact⟨x,.inl y⟩,λq=>q.imp id λz0=>by obtain⟨x,y⟩:=z0;exact⟨x,y.resolve_right λe=>x r hr (by exists hd,ac e TK)⟩⟩
 ·subst e;have:m<12:=ha;exact⟨jZ (by decide) (aE _),d_.mpr (gn ‹_›)⟩
 ·exists e;have hn:∀r∈ys,r.dst≠m:=λr hr e=>by have:=ak.mpr ((D.gm m).mpr ⟨r,hr,e⟩);rw[h]at this;cases this
  rw[b6,D.nm,vj];show _↔_\/(_/\d∈FM as++[m]);rw[aw,Θ];constructor
  ·rintro(e|h|⟨x,y⟩)
   ·have e:=aW e;exists e,.inr ⟨hn,.inr TK⟩
   ·exact .inl h
   ·exact .inr ⟨x,.inl y⟩
  ·rintro(h|⟨x,y|y⟩)
   ·exact .inr (.inl h)
   ·exact .inr (.inr ⟨x,y⟩)
   ·exact .inl (TL _ y)
theorem fM.row(D:fM ys r.args nd gv)(hr:GM r):fM (ys++[r]) [] nd (NE r.dst gv):=by
 refine⟨D.n,D.g.ins ⟨Ct r,EV hr.2⟩,λd=>?_,λd=>?_⟩
 ·rw[D.nm,BN,qE (T:=a7 d [r] False)];show _↔(_\/(_/\(_\/(_/\False))))\/(_/\d∈([]:List Nat));rw[and_false,or_false,show(d∈([]:List Nat))=False from eq_false (by exact λh=>nomatch h),and_false,or_false]
 ·rw[b6,D.gm];constructor
  ·rintro(e|⟨q,h,e⟩)
   ·exact⟨r,aI _ (.head _),e.symm⟩
   ·exact⟨q,b_ _ h,e⟩
  ·rintro⟨q,h,e⟩;rcases aw.mp h with h|h
   ·exact .inr ⟨q,h,e⟩
   ·cases Θ.mp h;exact .inl e.symm
noncomputable def R4:Ss:=.cons (.ife (.and (.cmp .eq (.l 56) (.i (.str 71))) (.cons (.cmp .notin (.l 58) (.l 69)) .nil)) (.cons (.ex (.me .add (.l 70) (.l 58))) .nil) .nil) .nil
theorem zv(hs:∀c,sm c)(as:List bl)(ha:∀a∈as,eU a)(D:fM ys [] nd gv)(o1 o2:Option CV)
  (k:∀o1 o2 nd,fM ys as nd gv->N [(49,B),(70,γ (.ref 0)),(69,γ (.ref 1)),(54,o54),(56,o1),(58,o2)] [γ (.set nd),γ (.set gv)]):
  ZB sm (λx l c' K=>wT Φ (.tup (.cons (.name 56) (.cons (.name 58) .nil))) x l c' λl c'=>fn Φ R4 fl l c' K K R) (as.map bX) [(49,B),(70,γ (.ref 0)),(69,γ (.ref 1)),(54,o54),(56,o1),(58,o2)] [γ (.set nd),γ (.set gv)] N:=by
 refine kJ (σ:=List Int×Option CV×Option CV) (λs=>[(49,B),(70,γ (.ref 0)),(69,γ (.ref 1)),(54,o54),(56,s.2.1),(58,s.2.2)]) (λs=>[γ (.set s.1),γ (.set gv)])
  (λbs s=>∃cs,cs++bs=as/\fM ys cs s.1 gv) (λa bs s K h k=>?_) as (nd,o1,o2) ⟨[],rfl,D⟩ λs h=>?_
 ·obtain⟨nd,o1,o2⟩:=s;obtain⟨cs,h1,D⟩:=h;obtain⟨d1,d2⟩:=D.arg a (ha a (by refine io h1 ?_;exact aI _ (.head _)));have Uk:(cs++[a])++bs=as:=by exists bF ..,h1
  induction a with
  |k i=>exact k (_,_,_) (hs _) ⟨_,Uk,d1 i TK⟩
  |r m=>
   obtain⟨e1,e2⟩:=d2 m TK;refine Ev (λq=>ξ (e2 (TI q)).n.ok (k (_,_,_) (hs _) ⟨_,Uk,e2 (TI q)⟩)) λq=>k (_,_,_) (hs _) ⟨_,Uk,e1 ?_⟩;have q':(!gv.contains (m:Int))=ζ:=q;cases z:gv.contains (m:Int)with
   |true=>rfl
   |false=>rw[z]at q';cases q'
 ·obtain⟨nd,o1,o2⟩:=s;obtain⟨cs,h1,D⟩:=h;rw[aL]at h1;subst h1;exact k o1 o2 nd D
theorem Cu(h:f8 c n=γ (.set l)):Fz c (.ref n) (.set l):=.ref (ys:=[]) h TK .nil
theorem M2(e:args.map (ul c 8)=[b8 i b])(hb:mN b)
  (q:∀nd gv,Ch nd->Ch gv->(∀d:Nat,(d:Int)∈nd↔a7 d b.1 (d∈FM b.2.args))->(∀d:Nat,(d:Int)∈gv↔∃r∈b.1,r.dst=d)->Q (.tup [.set nd,.set gv]) c):Ph (n+1) 72 args c Q:=by
 refine TT TK TK e (dl (u3 i b) TK) (ξ TK ?_);refine kJ (σ:=(List Int×List Int)×Option CV×Option CV×Option CV) (λs=>[(49,γ (b8 i b)),(70,γ (.ref 0)),(69,γ (.ref 1)),(54,s.2.1),(56,s.2.2.1),(58,s.2.2.2)]) (λs=>[γ (.set s.1.1),γ (.set s.1.2)])
  (λxs s=>∃ys,ys++xs=b.1/\fM ys [] s.1.1 s.1.2) (λr xs s K h k=>?_) b.1 (([],[]),η,η,η) ⟨[],rfl,Ch.nil,Ch.nil,λd=>⟨λh=>(nomatch h),λh=>h.elim aG λh=>(nomatch h.2)⟩,λd=>⟨λh=>(nomatch h),λz0=>f4 z0 λ_ h _=>(nomatch h)⟩⟩ λs h=>?_
 ·obtain⟨⟨nd,gv⟩,o1,o2,o3⟩:=s;obtain⟨ys,h1,D⟩:=h;have hr:GM r:=hb.1 r (by refine io h1 ?_;exact aI _ (.head _));refine zv (B:=γ (b8 i b)) (λ_=>trivial) r.args hr.1 D o2 o3 λp1 p2 nd D=>?_;have D':=D.row hr;exact ξ D'.g.ok (k ((_,_),_,_,_) TQ ⟨_,by exists bF ..;exact h1,D'⟩)
 ·obtain⟨⟨nd,gv⟩,o1,o2,o3⟩:=s;obtain⟨ys,h1,D⟩:=h;rw[aL]at h1;subst h1;refine zv (B:=γ (b8 i b)) (λ_=>trivial) b.2.args hb.2 D o2 o3 λp1 p2 nd D=>?_;refine ξ (an TK) ⟨.tup [.set nd,.set gv],.kids (v:=.tup [.ref 0,.ref 1]) (ys:=[.set nd,.set gv]) (.cons (Cu TK) (.cons (Cu TK) .nil)) TK,rfl,q nd gv D.n D.g (λd=>?_) D.gm⟩;rw[D.nm,←qE]
theorem qW{n:Nat}{args:List CV}{c:ad}{Q:CV->ad->Prop}{e:Id}(he:args.map (ul c 8)=[dg e])(q:Q (sB e.succ) c):Ph (n+1) 138 args c Q:=by
 refine TT TK TK he (dl (z9 e) TK) (ξ TK ?_);induction e with
 |jump t=>exact ξ (an TK) (ret TK q)
 |branch a x y=>exact ξ (an TK) (ret TK q)
 |table a x y z o=>exact ξ (an TK) (bN (an TK) (an TK) (an TK) (an TK) (ret TK q))
 |give a=>exact ξ (an TK) (ret TK q)
abbrev kt:=List Int
def v1(h:kt):Prop:=δ h=12/\∀x∈h,0<=x/\x<4294967296
noncomputable def at'(h:kt)(n:Nat):Int:=(h[n]?).getD 0
noncomputable def val(h:kt):bl->Int|.r n=>at' h n|.k i=>i
noncomputable def bin(o:mM)(x y:Int):Int:=match o with
 |.add=>(x+y)%4294967296
 |.sub=>(x - y)%4294967296
 |.mul=>(x*y)%4294967296
 |.xor=>aY (x.toNat ||| y.toNat) - aY (x.toNat&&& y.toNat)
 |.divu=>match decide (0<y)with|true=>x / y|false=>4294967295
noncomputable def worth(r:bv)(h:kt):Int:=match r with
 |.bin o _ a b=>bin o (val h a) (val h b)
 |.copy _ a=>val h a
 |.const _ a=>val h a
 |.call a=>val h a
theorem QR{h:kt}(hh:v1 h){n:Nat}(hn:n<12):h[n]? =γ (at' h n):=by unfold at';exists ag (by rw[hh.1];exact hn);rfl
theorem C5{h:kt}(hh:v1 h)(n:Nat):0<=at' h n/\at' h n<4294967296:=by
 unfold at';cases q:h[n]? with
 |none=>exact⟨by decide,by decide⟩
 |some x=>exact hh.2 x (av q)
theorem mj{h:kt}(hh:v1 h){a:bl}(ha:eU a):0<=val h a/\val h a<4294967296:=by
 induction a with
 |r n=>exact C5 hh n
 |k i=>exact⟨j0 ha.1,ha.2⟩
theorem v8(x:Int):0<=x%4294967296/\x%4294967296<4294967296:=⟨Int.emod_nonneg _ (by decide),Int.emod_lt_of_pos _ (by decide)⟩
theorem QS{o:mM}{x y:Int}(hx:0<=x/\x<4294967296)(hy:0<=y/\y<4294967296):0<=bin o x y/\bin o x y<4294967296:=by
 induction o with
 |add=>exact v8 _
 |sub=>exact v8 _
 |mul=>exact v8 _
 |xor=>have h1:x.toNat&&& y.toNat<=x.toNat ||| y.toNat:=κ Nat.and_le_left Nat.left_le_or;have h2:x.toNat ||| y.toNat<2 ^32:=Nat.or_lt_two_pow ((uz hx.1).mpr hx.2) ((uz hy.1).mpr hy.2);refine(?_:0<=((x.toNat ||| y.toNat:Nat):Int) - ((x.toNat&&& y.toNat:Nat):Int)/\((x.toNat ||| y.toNat:Nat):Int) - ((x.toNat&&& y.toNat:Nat):Int)<4294967296);exact⟨xI (d_.mpr h1),pL (Int.sub_le_self _ (aE _)) (aX.mpr h2)⟩
 |divu=>
  show 0<=(match decide (0<y)with|true=>x / y|false=>4294967295)/\(match decide (0<y)with|true=>x / y|false=>4294967295)<4294967296;by_cases h:0<y
  ·exists TR h;exact⟨Int.ediv_nonneg hx.1 hy.1,pL (Int.ediv_le_self _ hx.1) hx.2⟩
  ·exists TS h;refine(?_:(0:Int)<=4294967295/\(4294967295:Int)<4294967296);exact⟨by decide,by decide⟩
theorem M3{r:bv}{h:kt}(hh:v1 h)(hr:GM r):0<=worth r h/\worth r h<4294967296:=by
 induction r with
 |bin o d a b=>exact QS (mj hh (hr.1 a (.head _))) (mj hh (hr.1 b (.tail _ (.head _))))
 |copy d a=>exact mj hh (hr.1 a (.head _))
 |const d a=>exact mj hh (hr.1 a (.head _))
 |call a=>exact mj hh (hr.1 a (.head _))
noncomputable def zn(h:kt):CV:=.list (h.map .int)
theorem n6{h:kt}(hh:v1 h){n:Nat}(hn:n<12):s0 (h.map CV.int) (n:Int)=γ (.int (at' h n)):=by refine(?_:(h.map CV.int)[n]? =_);exists aA;exists QR hh hn;rfl
theorem jg(h:kt):(zn h).calm=ε:=bq (λ_=>rfl) h
theorem nN{h:kt}(hh:v1 h):δ (h.map CV.int)<=1000:=by exists φ ..;exists hh.1 ..;decide
theorem BO{x:Int}(h:0<=x/\x<4294967296):kq x:=⟨tS (by decide) h.1,jb h.2 (by decide)⟩
theorem M4{n:Nat}{args:List CV}{c:ad}{Q:CV->ad->Prop}{r:bv}{h:kt}(hr:GM r)(hh:v1 h)(e:args.map (ul c 8)=[sK r,.lend (zn h)])(q:Q (.int (worth r h)) c):Ph (n+1) 141 args c Q:=by
 refine TT TK TK e (dl (u0 r) (dl (jg h) TK)) (ξ TK ?_);refine jD (σ:=Option CV×Option CV) (λs=>[(120,γ (.lend (zn h))),(56,s.1),(140,s.2)]) [] (λa=>[.int (val h a)]) eU (λa s r K ha hr k=>?_) TQ r.args [] (η,η) hr.1 ?_ λs=>?_
 ·have VO:δ r<=1000:=by rw[Δ]at hr;exact κ (ao _ _) hr
  induction a with
  |k i=>exact ξ VO (k (_,_))
  |r m=>exact wl (nN hh) (n6 hh ha) (ξ VO (k (_,_)))
 ·exists On ..;exists aB ..;exists φ ..;induction r<;>exact an rfl
 ·have hv:∀a∈r.args,0<=val h a/\val h a<4294967296:=λa ha=>mj hh (hr.1 a ha);induction r with
  |bin o d a b=>
   have ha:=hv a (.head _);have hb:=hv b (.tail _ (.head _));induction o with
   |add=>exact bN (an TK) (an TK) (an TK) (by decide) (ret TK q)
   |sub=>exact bN (an TK) (an TK) (an TK) (by decide) (ret TK q)
   |mul=>exact ξ (an TK) (ξ (an TK) (bN (an TK) (BO ha) (BO hb) (by decide) (ret TK q)))
   |xor=>exact bN (an TK) (an TK) (an TK) ⟨ha.1,hb.1⟩ (ret TK q)
   |divu=>
    refine KF (an TK) (an TK) (Ev (λz=>?_) λz=>?_)
    ·have z':decide (0<val h b)=ε:=z;have e:worth (.bin .divu d a b) h=val h a / val h b:=(by refine(?_:(match decide (0<val h b)with|true=>_|false=>_)=_);exists z',TK);rw[e]at q;exact gY (an TK) (an TK) ⟨TN z',jb hb.2 (by decide)⟩ (ret TK q)
    ·have z':decide (0<val h b)=ζ:=z;have e:worth (.bin .divu d a b) h=4294967295:=(by refine(?_:(match decide (0<val h b)with|true=>_|false=>_)=_);exists z',TK);rw[e]at q;exact ret TK q
  |copy d a=>exact KF (an TK) (an TK) (ret TK q)
  |const d a=>exact KF (an TK) (an TK) (ret TK q)
  |call a=>exact KF (an TK) (an TK) (ret TK q)
end Mine
end
section
namespace Mine
abbrev Ix:=Nat×Nat×bv×Int×Int
noncomputable def dG(a:Ix):CV:=.tup [.int a.1,.int a.2.1,sK a.2.2.1,.int a.2.2.2.1,.int a.2.2.2.2]
noncomputable def AT(l:List Ix):CV:=.list (l.map dG)
theorem zw(a:Ix):(dG a).solid=ε:=dl (lz _) TK
theorem qF(a:Ix):(dG a).calm=ε:=dl (u0 _) TK
noncomputable def SL(h:kt)(r:bv):kt:=match decide (0<=r.dst)with|true=>h.set r.dst.toNat (worth r h)|false=>h
noncomputable def was(r:bv)(h:kt):Int:=match decide (0<=r.dst)with|true=>at' h r.dst.toNat|false=>0
noncomputable def XV:List v6->kt->List Ix
 |[],_=>[]
 |t::ts,h=>(t.1,t.2.1,t.2.2,was t.2.2 h,worth t.2.2 h)::XV ts (SL h t.2.2)
noncomputable def lm:List bv->kt->kt
 |[],h=>h
 |r::rs,h=>lm rs (SL h r)
noncomputable def next(e:Id)(h:kt):Nat:=match e with
 |.jump t=>t
 |.branch a x y=>match decide (at' h a=0)with|true=>y|false=>x
 |.table a x y z o=>match at' h a with|0=>x|1=>y|2=>z|_=>o
 |.give _=>0
noncomputable def wP(P:List bn):Nat->Nat->kt->List Ix×Int
 |0,_,_=>([], -1)
 |n+1,at_,h=>match P[at_]? with
  |none=>([], -1)
  |some b=>match b.2 with
   |.give a=>(XV (GT at_ 0 b.1) h,at' (lm b.1 h) a)
   |e=>(XV (GT at_ 0 b.1) h++(wP P n (next e (lm b.1 h)) (lm b.1 h)).1,(wP P n (next e (lm b.1 h)) (lm b.1 h)).2)
theorem jl(hh:v1 h)(hr:GM r):v1 (SL h r):=by
 unfold SL;by_cases q:0<=r.dst
 ·exists TR q;exact⟨by exists cZ;exact hh.1,λx hx=>(Ei hx).elim (hh.2 x) λe=>e▸M3 hh hr⟩
 ·exists TS q,hh
theorem fh:∀{h:kt},v1 h->(∀r∈rs,GM r)->v1 (lm rs h):=by
 induction rs with
 |nil=>exact λh _=>h
 |cons r rs ih=>exact λh hr=>ih (jl h (hr r (.head _))) λq hq=>hr q (.tail _ hq)
theorem KS{c:ad}{k:Nat}{h:kt}{n:Nat}(e:f8 c k=γ (zn h)):ul c (n+1) (.ref k)= .lend (zn h):=by refine(?_:(match f8 c k with|some (.list l)=>CV.lend (.list (l.map (ul c n)))|some (.sdict ks l)=>.lend (.sdict ks (l.map (ul c n)))|some x=>.lend x|.none=>.ref k)=_);exists e;refine(?_:CV.lend (.list ((h.map CV.int).map (ul c n)))=_);exists cM;induction n<;>rfl
theorem tb{f:CV->CV}{a b a' b':CV}(h1:f a=a')(h2:f b=b'):[a,b].map f=[a',b']:=by refine io h1 (io h2 ?_);rfl
theorem OY{r:bv}(h:0<=r.dst):r.dst=(r.dst.toNat:Int):=(i0 h).symm
noncomputable def iI(P:List bn)(X:CV)(at_:Nat)(o1 o2 o3 o4 o5 o6 o7 o8 o9 U_:Option CV):L:=[(129,γ (wn P)),(146,γ X),(120,γ (.ref 0)),(142,γ (.ref 1)),(75,γ (.int at_)),(143,o1),(95,o2),(34,o3),(93,o4),(87,o5),(145,o6),(32,o7),(30,o8),(29,o9),(144,U_)]
noncomputable def sT:Ss:=(.cons (.g (.name 145) (.call 141 (.cons (.l 87) (.cons (.l 120) .nil))))
 (.cons (.ex (.me .append (.l 142) (.tup (.cons (.l 75) (.cons (.l 93) (.cons (.l 87) (.cons (.ite (.cmp .ge (.sub (.l 87) (.i (.int 1))) (.i (.int 0))) (.sub (.l 120) (.sub (.l 87) (.i (.int 1)))) (.i (.int 0))) (.cons (.l 145) .nil))))))))
 (.cons (.ife (.cmp .ge (.sub (.l 87) (.i (.int 1))) (.i (.int 0))) (.cons (.g (.sub (.l 120) (.sub (.l 87) (.i (.int 1)))) (.l 145))
 .nil) .nil)
 .nil)))
section
variable {n fl:Nat}{N:L->ad->Prop}{R:CV->ad->Prop}{P:List bn}{X:CV}{at_:Nat}{o1 o2 o3 o4 o5 o6 o7 o8 o9 U_:Option CV}
theorem M5{C:L->ad->Prop}{r:bv}{p:Nat}{tr:List Ix}{h:kt}(hr:GM r)(hh:v1 h)(hl:δ tr<=1000)(k:∀o4 o5 o6,N (iI P X at_ o1 o2 o3 o4 o5 o6 o7 o8 o9 U_) [γ (zn (SL h r)),γ (AT (tr++[(at_,p,r,was r h,worth r h)]))]):
  wT (Ph (n+1)) (.tup (.cons (.name 93) (.cons (.name 87) .nil))) (.tup [.int p,sK r]) (iI P X at_ o1 o2 o3 o4 o5 o6 o7 o8 o9 U_) [γ (zn h),γ (AT tr)] λl c'=>fn (Ph (n+1)) sT fl l c' N C R:=by
 have Xh:δ (tr.map dG)<=1000:=by exists φ ..,hl
 have k:=k (γ (.int p)) (γ (sK r)) (γ (.int (worth r h)));rw[show AT (tr++[(at_,p,r,was r h,worth r h)])= .list (tr.map dG++[.tup [.int at_,.int p,sK r,.int (was r h),.int (worth r h)]])from TL CV.list aj]at k;refine M4 (r:=r) (h:=h) hr hh (tb (by rfl) (KS (by rfl))) (ξ (an TK) ?_);by_cases q:0<=r.dst
 ·have q1:decide (0<=r.dst)=ε:=TR q;have e:=OY q;have hg:s0 (h.map CV.int) r.dst=γ (.int (at' h r.dst.toNat)):=by exists e,n6 hh ((uz q).mpr hr.2)
  rw[show was r h=at' h r.dst.toNat by unfold was;exact ac q1 TK,show SL h r=h.set r.dst.toNat (worth r h) by unfold SL;exact ac q1 TK,show zn (h.set r.dst.toNat (worth r h))= .list ((h.map CV.int).set r.dst.toNat (.int (worth r h)))from TL CV.list uA]at k;exact bC q1 (jI (an TK) (nN hh) (o:=s0 (h.map CV.int) r.dst) hg (ξ (an TK) (ξ Xh (ξ (an TK) (bC q1 (ξ (an TK) (ξ ⟨q,by exists φ ..;exists hh.1 ..;exact hr.2,nN hh⟩ k)))))))
 ·have q1:decide (0<=r.dst)=ζ:=TS q;rw[show was r h=0 by unfold was;rw[q1],show SL h r=h by unfold SL;rw[q1]]at k;exact ww q1 (gY (an TK) Xh (an TK) (ww q1 k))
theorem KU(hs:∀c,sm c)(rs:List bv):(∀r∈rs,GM r)->∀(p:Nat) (tr:List Ix) (h:kt),v1 h->
  δ (tr++XV (GT at_ p rs) h)<=1000->∀(o4 o5 o6:Option CV),
  (∀o4 o5 o6,N (iI P X at_ o1 o2 o3 o4 o5 o6 o7 o8 o9 U_) [γ (zn (lm rs h)),γ (AT (tr++XV (GT at_ p rs) h))])->
  ZB sm (λx l c' K=>wT (Ph (n+1)) (.tup (.cons (.name 93) (.cons (.name 87) .nil))) x l c' λl c'=>fn (Ph (n+1)) sT fl l c' K K R) ((GT at_ p rs).map λt=>.tup [.int t.2.1,sK t.2.2]) (iI P X at_ o1 o2 o3 o4 o5 o6 o7 o8 o9 U_) [γ (zn h),γ (AT tr)] N:=by
 induction rs with
 |nil=>exact λ_ p tr h _ _ o4 o5 o6 k=>by have:=k o4 o5 o6;rw[show XV (GT at_ p []) h=[] from rfl,aL]at this;exact this
 |cons r rs ih=>exact λhr p tr h hh hl o4 o5 o6 k=>M5 (hr r (.head _)) hh (by rw[Δ]at hl;exact κ (ao _ _) hl) λo4 o5 o6=>⟨hs _,ih (λq hq=>hr q (.tail _ hq)) (p+1) _ (SL h r) (jl hh (hr r (.head _))) (by refine io (dr ..) ?_;exact hl) o4 o5 o6 λo4 o5 o6=>by refine io (dr ..) ?_;exact k o4 o5 o6⟩
end
end Mine
end
section
namespace Mine
structure bE(P:List bn):Prop where
 b:∀b∈P,mN b
 s:∀b∈P,∀t∈b.2.succ,t<δ P
 z:0<δ P
 l:δ P<=1000
theorem nE{e:Id}{h:kt}(g:∀a,e≠.give a):next e h∈e.succ:=by
 induction e with
 |jump t=>exact .head _
 |branch a x y=>
  show(match decide (at' h a=0)with|true=>y|false=>x)∈_;induction decide (at' h a=0)with
  |true=>exact .tail _ (.head _)
  |false=>exact .head _
 |table a x y z o=>
  refine(?_:(match at' h a with|0=>x|1=>y|2=>z|_=>o)∈[x,y,z,o]);split
  ·exact .head _
  ·exact .tail _ (.head _)
  ·exact .tail _ (.tail _ (.head _))
  ·exact .tail _ (.tail _ (.tail _ (.head _)))
 |give a=>exact absurd TK (g a)
theorem u5{P:List bn}{n at_:Nat}{h:kt}{rs:List bv}{a:Nat}(hb:P[at_]? =γ (rs,.give a)):wP P (n+1) at_ h=(XV (GT at_ 0 rs) h,at' (lm rs h) a):=by refine(?_:(match P[at_]? with|none=>_|some b=>_)=_);exists hb,TK
theorem u6{P:List bn}{n at_:Nat}{h:kt}{rs:List bv}{e:Id}(hb:P[at_]? =γ (rs,e))(g:∀a,e≠.give a):wP P (n+1) at_ h=(XV (GT at_ 0 rs) h++(wP P n (next e (lm rs h)) (lm rs h)).1,(wP P n (next e (lm rs h)) (lm rs h)).2):=by
 refine(?_:(match P[at_]? with|none=>_|some b=>_)=_);exists hb;induction e with
 |give a=>exact absurd TK (g a)
 |_=>rfl
theorem jm{c:ad}{n:Nat}{l:List CV}(h:f8 c n=γ (.list l))(hs:Go l=ε):Fz c (.ref n) (.list l):=.ref (ys:=l) h TK (qC hs)
noncomputable def C6:Ss:=(.cons (.g (.tup (.cons (.name 32) (.cons (.name 30) (.cons (.name 29) .nil)))) (.l 34))
 (.cons (.ife (.cmp .eq (.l 32) (.i (.str 131))) (.cons (.ret (.tup (.cons (.l 142) (.cons (.sub (.l 120) (.sub (.sub (.l 30) (.i (.int 0))) (.i (.int 1)))) .nil))))
 .nil) .nil)
 (.cons (.ife (.cmp .eq (.l 32) (.i (.str 47))) (.cons (.g (.name 75) (.ite (.cmp .ne (.sub (.l 120) (.sub (.sub (.l 30) (.i (.int 0))) (.i (.int 1)))) (.i (.int 0))) (.sub (.l 29) (.i (.int 0))) (.sub (.l 29) (.i (.int 1)))))
 .nil) (.cons (.ife (.cmp .eq (.l 32) (.i (.str 46))) (.cons (.g (.name 144) (.bin .sub (.sub (.l 120) (.sub (.sub (.l 30) (.i (.int 0))) (.i (.int 1)))) (.sub (.l 29) (.i (.int 0)))))
 (.cons (.g (.name 75) (.ite (.cmp2 .le .lt (.i (.int 0)) (.l 144) (.bi .len ζ (.cons (.sub (.l 29) (.i (.int 1))) .nil))) (.sub (.sub (.l 29) (.i (.int 1))) (.l 144)) (.sub (.l 29) (.i (.int 2)))))
 .nil)) (.cons (.g (.name 75) (.l 29))
 .nil))
 .nil))
 .nil)))
noncomputable def C7:Ss:=(.cons (.g (.tup (.cons (.name 95) (.cons (.name 34) .nil))) (.sub (.l 129) (.l 75)))
 (.cons (.for (.tup (.cons (.name 93) (.cons (.name 87) .nil))) ε (.l 95) sT) C6))
section
variable {n fl:Nat}{N:L->ad->Prop}{R:CV->ad->Prop}{P:List bn}{X:CV}{at_:Nat}{o1 o2 o3 o4 o5 o6 o7 o8 o9 U_:Option CV}
theorem M6{C:L->ad->Prop}{h:kt}{en:Id}{v:CV}(hh:v1 h)(hr:∀a∈en.args,eU a)(kr:∀a,en= .give a->R (.tup [.ref 1,.int (at' h a)]) [γ (zn h),γ v])(k:(∀a,en≠.give a)->∀o7 o8 o9 U_,N (iI P X (next en h) o1 o2 (γ (dg en)) o4 o5 o6 o7 o8 o9 U_) [γ (zn h),γ v]):
  fn (Ph (n+1)) C6 fl (iI P X at_ o1 o2 (γ (dg en)) o4 o5 o6 o7 o8 o9 U_) [γ (zn h),γ v] N C R:=by
 have hl:=nN hh;induction en with
 |give a=>exact mF (an TK) (an TK) hl (o:=s0 (h.map CV.int) (a:Int)) (n6 hh (hr _ (.head _))) (ξ (an TK) (kr a TK))
 |jump t=>exact k (λa e=>nomatch e) _ _ _ _
 |branch a x y=>
  have k:=k (λa e=>nomatch e);refine mF (an TK) (an TK) hl (o:=s0 (h.map CV.int) (a:Int)) (n6 hh (hr _ (.head _))) (Ev (b:= !decide (at' h a=0)) (λz=>ξ (an TK) ?_) λz=>ξ (an TK) ?_)
  ·rw[show next (.branch a x y) h=x by refine(?_:(match decide (at' h a=0)with|true=>y|false=>x)=x);rw[(FL _).mp z]]at k;exact k _ _ _ _
  ·rw[show next (.branch a x y) h=y by refine(?_:(match decide (at' h a=0)with|true=>y|false=>x)=y);rw[(Bool.not_eq_false' _).mp z]]at k;exact k _ _ _ _
 |table a x y z o=>
  have k:=k (λa e=>nomatch e);have hv:=(C5 hh a).1;rw[show next (.table a x y z o) h=(match at' h a with|0=>x|1=>y|2=>z|_=>o)from rfl]at k;have hat:=n6 hh (hr _ (.head _));generalize at' h a=v at k hv hat;refine mF (an TK) (an TK) hl (o:=s0 (h.map CV.int) (a:Int)) hat (ξ (an TK) ?_);induction v with
  |negSucc m=>exact(nomatch hv)
  |ofNat m=>
   induction m using b5 with
   |zero=>exact bN (an TK) (an TK) (an TK) (an TK) (k _ _ _ _)
   |succ m=>
    induction m using b5 with
    |zero=>exact bN (an TK) (an TK) (an TK) (an TK) (k _ _ _ _)
    |succ m=>
     induction m using b5 with
     |zero=>exact bN (an TK) (an TK) (an TK) (an TK) (k _ _ _ _)
     |succ m=>exact gY (an TK) (an TK) (an TK) (k _ _ _ _)
theorem M7{P:List bn}{n at_:Nat}{h:kt}{rs:List bv}{e:Id}(hb:P[at_]? =γ (rs,e)):δ (XV (GT at_ 0 rs) h)<=(wP P (n+1) at_ h).1.length:=by
 induction e with
 |give a=>refine ac (u5 hb) ?_;exact aJ _
 |_=>refine ac (u6 hb (λa e=>nomatch e)) (ac Δ ?_);exact ao _ _
theorem JH{sm:ad->Prop}{zs:List CV}(hs:∀c,sm c)(rs:List bv)(hr:∀r∈rs,GM r)(tr:List Ix)(h:kt)(hh:v1 h)(hl:δ (tr++XV (GT at_ 0 rs) h)<=1000)(o4 o5 o6:Option CV)(he:zs=rs.map sK)
  (k:∀o4 o5 o6,N (iI P X at_ o1 o2 o3 o4 o5 o6 o7 o8 o9 U_) [γ (zn (lm rs h)),γ (AT (tr++XV (GT at_ 0 rs) h))]):
  ZB sm (λx l c' K=>wT (Ph (n+1)) (.tup (.cons (.name 93) (.cons (.name 87) .nil))) x l c' λl c'=>fn (Ph (n+1)) sT fl l c' K K R) (fj 0 zs) (iI P X at_ o1 o2 o3 o4 o5 o6 o7 o8 o9 U_) [γ (zn h),γ (AT tr)] N:=by
 exists he;exists ve (n:=at_),KU hs rs hr 0 tr h hh hl o4 o5 o6 k
theorem KV{sm:ad->Prop}(hs:∀c,sm c)(hP:bE P)(F:List Ix×Int)(hl:δ F.1<=1000)(xs:List Nat)
  (hR:∀h,R (.tup [.ref 1,.int F.2]) [γ (zn h),γ (AT F.1)]) (hN:∀l h,pc l 142=γ (.ref 1)->F.2= -1->N l [γ (zn h),γ (AT F.1)]):∀(h:kt) (tr:List Ix) (at_:Nat) (o1 o2 o3 o4 o5 o6 o7 o8 o9 U_:Option CV),
  (tr++(wP P (δ xs) at_ h).1,(wP P (δ xs) at_ h).2)=F->at_<δ P->v1 h->
  ZB sm (λx l c' K=>wT (Ph (n+1)) (.name 143) x l c' λl c'=>fn (Ph (n+1)) C7 fl l c' K K R) (xs.map λ(i:Nat)=>.int (aY i)) (iI P X at_ o1 o2 o3 o4 o5 o6 o7 o8 o9 U_) [γ (zn h),γ (AT tr)] N:=by
 induction xs with
 |nil=>intro h tr at_ o1 o2 o3 o4 o5 o6 o7 o8 o9 U_ h1 h2 h3;rw[show wP P (δ ([]:List Nat)) at_ h=([], -1)from rfl,aL]at h1;subst h1;exact hN _ h TK TK
 |cons x xs ih=>
  intro h tr at_ o1 o2 o3 o4 o5 o6 o7 o8 o9 U_ h1 h2 h3;have hg:=ag h2;have hm:=m_ h2;generalize P[at_]=b at hg hm;obtain⟨rs,en⟩:=b;have Wk:=hP.b _ hm;have Vs:s0 (P.map un) (at_:Int)=γ (un (rs,en)):=by refine(?_:(P.map un)[at_]? =_);exists aA;exists hg;rfl
  replace h1:(tr++(wP P (δ xs+1) at_ h).1,(wP P (δ xs+1) at_ h).2)=F:=h1;have hE:=fh h3 Wk.1;have hlen:δ (tr++XV (GT at_ 0 rs) h)<=1000:=by refine κ ?_ hl;refine io h1 (ac Δ (ac Δ ?_));exact dq (M7 hg) _
  refine wl (by exists φ ..,hP.l) (o:=s0 (P.map un) (at_:Int)) Vs ?_;refine JH (λ_=>trivial) rs Wk.1 tr h h3 hlen _ _ _ TK λp1 p2 p3=>?_;exact M6 hE Wk.2 (λa e=>by subst e;rw[u5 hg]at h1;subst h1;exact hR _) λg o7 o8 o9 U_=>⟨hs _,ih _ _ _ _ _ _ _ _ _ _ _ _ _ (by rw[u6 hg g,←bF]at h1;exact h1) (hP.s _ hm _ (nE g)) hE⟩
end
end Mine
end
section
namespace Mine
theorem eG(hh:v1 h)(hr:GM r)(x:Nat):(r.dst=x->at' (SL h r) x=worth r h)/\(r.dst≠x->at' (SL h r) x=at' h x):=by
 unfold SL;refine⟨λe=>?_,λn=>?_⟩
 ·have h0:0<=r.dst:=by exists e,aE x
  have hx:r.dst.toNat=x:=e▸xZ x;have hl:x<δ h:=by exists hh.1,aX.mp (e▸hr.2)
  exists TR h0;show((h.set r.dst.toNat (worth r h))[x]?).getD 0=_;exists hx;exists eW hl;rfl
 ·by_cases h0:0<=r.dst
  ·have hx:r.dst.toNat≠x:=λq=>n (q▸(i0 h0).symm);exists TR h0;show((h.set r.dst.toNat (worth r h))[x]?).getD 0=_;exists eX hx;rfl
  ·exists TS h0,TK
theorem QT(e:∀x∈FM [a],at' h x=at' h' x):val h a=val h' a:=by
 induction a with
 |k i=>rfl
 |r n=>exact e n (.head _)
theorem M8(ha:a∈as)(hx:x∈FM [a]):x∈FM as:=by
 induction a with
 |k i=>cases hx
 |r n=>have hz:=Θ.mp hx;subst hz;exact xW.mpr ⟨_,ha,rfl⟩
theorem nO(e:∀x∈FM r.args,at' h x=at' h' x):worth r h=worth r h':=by
 have v:∀a∈r.args,val h a=val h' a:=λa ha=>QT λx hx=>e x (M8 ha hx);induction r with
 |bin o d a b=>show bin o _ _=bin o _ _;exists v a (.head _),ac (v b (.tail _ (.head _))) TK
 |copy d a=>exact v a (.head _)
 |const d a=>exact v a (.head _)
 |call a=>exact v a (.head _)
noncomputable def bw:List bv->kt->List Int
 |[],_=>[]
 |r::rs,h=>match r with
  |.call _=>worth r h::bw rs (SL h r)
  |_=>bw rs (SL h r)
theorem bT{a b:List bv}:∀{h:kt},lm (a++b) h=lm b (lm a h):=by
 induction a with
 |nil=>exact rfl
 |cons r a ih=>exact ih
theorem lR{G:List bv}{x:Nat}:∀{h:kt},v1 h->(∀r∈G,GM r)->(∀r∈G,r.dst≠x)->at' (lm G h) x=at' h x:=by
 induction G with
 |nil=>exact λ_ _ _=>rfl
 |cons r G ih=>intro h hh hG hx;show at' (lm G (SL h r)) x=_;exists ih (jl hh (hG r (.head _))) (λq hq=>hG q (.tail _ hq)) (λq hq=>hx q (.tail _ hq)),ac ((eG hh (hG r (.head _)) x).2 (hx r (.head _))) TK
theorem JI(l:List Ix):(AT l).solid=ε:=KM zw l
theorem KW(hk:0<=k/\k<=1000)
  (h:ZB (λc'=>ct c c' (.rng k.toNat)) (λx l c' K=>wT Φ t x l c' λl c'=>fn Φ b (fl+δ c) l c' K K R) (cn k.toNat) l c λl c=>fn Φ ss fl l c N C R):
  fn Φ (.cons (.for t ζ (.bi .range ζ (.cons (.i (.int k)) .nil)) b) ss) fl l c N C R:=ξ hk h
theorem n7(hP:bE P)(hh:v1 h)(hl:(wP P 24 0 h).1.length<=1000)(e:args.map (ul c 8)=[wn P,X])(hX:view [] X=γ (zn h))(hc:X.calm=ε)
  (q:Q (.tup [AT (wP P 24 0 h).1,.int (wP P 24 0 h).2]) c):Ph (n+2) 147 args c Q:=by
 generalize hF:wP P 24 0 h=F at hl q;have fin:∀{h':kt} {v:Int},v=F.2->∃w,Fz [γ (zn h'),γ (AT F.1)] (.tup [.ref 1,.int v]) w/\w.solid=ε/\Q w c:=λ{h' v} e=>by exists e;exact⟨_,.kids (v:=.tup [.ref 1,.int F.2]) (ys:=[AT F.1,.int F.2]) (.cons (jm TK (KM zw _)) (.cons (.solid TK) .nil)) TK,dl (JI _) TK,q⟩
 refine TT TK TK e (dl (y9 P) (dl hc TK)) (wl TK (o:=view [] X) hX (ξ (nN hh) (ξ (an TK) (ξ (an TK) ?_))));refine KW (k:=24) (b:=C7) ⟨by decide,by decide⟩ ?_;refine KV (n:=n) (X:=X) (λ_=>trivial) hP F hl (ax 24) (λh'=>fin TK) (λl h' hl hv=>?_) h [] 0 η η η η η η η η η η ?_ hP.z hh
 ·exact db hl (ξ (an TK) (fin hv.symm))
 ·exists bG,hF
noncomputable def gf:Nat->List bn->List (Nat×bn)|_,[]=>[]|i,b::P=>(i,b)::gf (i+1) P
theorem qG:∀{i:Nat},dD i P=(gf i P).map λp=>b8 p.1 p.2:=by
 induction P with
 |nil=>exact rfl
 |cons b P ih=>exact TL (b8 _ b::·) ih
theorem rE:∀{i:Nat},(gf i P).map (·.2)=P:=by
 induction P with
 |nil=>exact rfl
 |cons b P ih=>exact TL (b::·) ih
theorem vk(r:bv):δ (r.args.map bX)<=1000:=by induction r<;>exact an rfl
theorem Ab(e:Id):δ (e.args.map bX)<=1000:=by induction e<;>exact an rfl
theorem ka(hP:δ P<=1000)(hr:∀b∈P,δ b.1<=1000)(e:args.map (ul c 8)=[Sc P])(q:Q (wn P) c):Ph (n+1) 137 args c Q:=by
 refine TT TK TK e (dl (fU P) TK) (KF TK (an TK) ?_);refine iN (σ:=List bn×Option CV×Option CV) (λs=>[(63,γ (Sc P)),(129,γ (.ref 0)),(49,s.2.1),(95,s.2.2)]) (λs=>[γ (wn s.1)]) (λxs s=>s.1++xs.map (·.2)=P) (λx xs s K hi k=>?_) (gf 0 P) qG ([],η,η) rE λs hi=>?_
 ·obtain⟨bs,o1,o2⟩:=s;obtain⟨i,b⟩:=x;have h1:bs++b::xs.map (·.2)=P:=hi;have hb:b∈P:=by refine io h1 ?_;exact aI _ (.head _)
  have hl:δ bs<=1000:=κ (by refine io h1 (ac Δ ?_);exact ao _ _) hP;have k1:=k (bs++[b],γ (b8 i b),γ (.list (b.1.map sK))) TQ (by refine io (dr ..) ?_;exact h1);rw[show wn (bs++[b])= .list (bs.map un++[un b]) by unfold wn;exists aj;rfl]at k1;refine jD (σ:=Option CV) (λs=>[(136,s)]) [γ (wn bs)] (λr=>[sK r]) (λ_=>True) (λr s rs K _ WM k=>gY (vk r) (an TK) ?_ (k _)) TQ b.1 [] η (λ_ _=>trivial) ?_ λs=>?_
  ·rw[Δ]at WM;exact κ (ao _ _) WM
  ·exists On ..;exists aB ..;exists φ ..,hr b hb
  ·exists On ..,bN (Ab b.2) (an TK) (an TK) (by exists φ ..;exact hl) k1
 ·have h1:=hi;rw[qg,aL]at h1;obtain⟨bs,o1,o2⟩:=s;exists h1;exact⟨_,jm TK (KM zq _),lj _,q⟩
noncomputable def bx(l:List Ix):List Int:=(l.filter λa=>match a.2.2.1 with|.call _=>ε|_=>ζ).map λa=>a.2.2.2.2
theorem BP(hl:δ l<=1000)(e:args.map (ul c 8)=[AT l])(q:Q (.list ((bx l).map .int)) c):Ph (n+1) 152 args c Q:=by
 refine TT TK TK e (dl (bq qF l) TK) (ξ TK ?_);refine dY (σ:=Option CV) (λs=>[(150,s)]) [] (λa=>match a.2.2.1 with|.call _=>ε|_=>ζ) (λa:Ix=>.int a.2.2.2.2) (λ_=>True) (λa s r K _ hr k1 k2=>?_) TQ l [] η (λ_ _=>trivial) (by rw[cC,az];exact hl) λs=>?_
 ·refine KF (an TK) (an TK) ?_;obtain⟨x1,x2,r',x4,x5⟩:=a;induction r' with
  |call a=>exact KF (an TK) hr (k1 TK _)
  |bin o d a b=>induction o<;>exact k2 rfl _
  |_=>exact k2 TK _
 ·refine ret (KM (λ_=>rfl) _) ?_;unfold bx at q;rw[cM]at q;exact q
set_option maxRecDepth 20000
noncomputable def jE(a b d m:CV):CV:=.sdict [32,31,30,29,28,26] [a,b,d,m,.bool ζ,.int 0]
theorem n8(q:Q .none [γ (jE a b d m)]):Ph (n+1) 33 [.inst 0 (.ref 0),a,b,d,m] [γ (.sdict [] [])] Q:=
 fm TK (ξ TK (ξ (an TK) (ξ (an TK) (bN (an TK) (an TK) (an TK) (an TK) q))))
theorem wU{f:CV->CV}{a b c d e a' b' c' d' e':CV}(h1:f a=a')(h2:f b=b')(h3:f c=c')(h4:f d=d')(h5:f e=e'):[a,b,c,d,e].map f=[a',b',c',d',e']:=by refine io h1 (io h2 (io h3 (io h4 (io h5 ?_))));rfl
theorem uL{n:Nat}{args:List CV}{c:ad}{Q:CV->ad->Prop}{s a b d m:CV}(hs:∃x1 x2 x3 x4,s= .inst 0 (jE x1 x2 x3 x4))(hc:Go [s,a,b,d,m]=ε)(e:args.map (ul c 8)=[s,a,b,d,m])(q:Q (.inst 0 (jE a b d m)) c):Ph (n+2) 85 args c Q:=by refine TT TK TK e (lQ hc) (ξ TK ?_);obtain⟨x1,x2,x3,x4,rfl⟩:=hs;obtain⟨_,hc⟩:=jp hc;obtain⟨ha,hc⟩:=jp hc;obtain⟨hb,hc⟩:=jp hc;refine on (jp hc) λhd hc=>?_;refine on (jp hc) λhm _=>?_;have Yk:Go [a,b,d,m,.bool ζ,.int 0]=ε:=dl ha (dl hb (dl hd (dl hm TK)));refine n8 (KF TK (an TK) ⟨.inst 0 (jE a b d m),.kids (v:=.inst 0 (.ref 0)) (ys:=[jE a b d m]) (.cons (.ref (x:=jE a b d m) (ys:=[a,b,d,m,.bool ζ,.int 0]) TK TK (qC Yk)) .nil) TK,Yk,q⟩)
noncomputable def lk(a b x:Nat):Nat:=match(x:Int)==(a:Int)with|true=>b|false=>x
noncomputable def fG(f:Nat->Nat):Id->Id|.jump t=>.jump (f t)|.branch a x y=>.branch a (f x) (f y)|.table a x y z o=>.table a (f x) (f y) (f z) (f o)|.give a=>.give a
theorem kA{a b x:Nat}:(wf (x:Int) [(a:Int)] [.int b]).getD (.int x)= .int (lk a b x):=by show(match(x:Int)==(a:Int)with|true=>γ (CV.int b)|false=>η).getD (.int x)=_;unfold lk;cases(x:Int)==(a:Int)<;>rfl
theorem Cv{n:Nat}{args:List CV}{c:ad}{Q:CV->ad->Prop}{en:Id}{a b:Nat}(e:args.map (ul c 8)=[cS en,.dict [(a:Int)] [.int b]])(q:Q (cS (fG (lk a b) en)) c):Ph (n+3) 91 args c Q:=by
 refine TT TK TK e (dl (z8 en) TK) (ξ TK ?_);have hs:∃x1 x2 x3 x4,cS en= .inst 0 (jE x1 x2 x3 x4):=⟨_,_,_,_,rfl⟩;induction en with
 |jump t=>exact ξ (an TK) (uL (m:=.int (lk a b t)) hs TK (wU (by rfl) (by rfl) (by rfl) (by rfl) (TL (ul [] 8) kA)) (ret TK q))
 |branch r x y=>exact ξ (an TK) (uL (m:=.tup [.int (lk a b x),.int (lk a b y)]) hs TK (wU (by rfl) (by rfl) (by rfl) (by rfl) (by show CV.tup [_,_]=_;exists kA,ac kA TK)) (ret TK q))
 |table r x y z o=>exact ξ (an TK) (ξ TQ (ξ (an TK) (bN TQ (an TK) TQ (an TK) (uL (m:=.tup [.int 0,.list [.int (lk a b x),.int (lk a b y),.int (lk a b z)],.int (lk a b o)]) hs TK (wU (by rfl) (by rfl) (by rfl) (by rfl) (by show CV.tup [_,.list [_,_,_],_]=_;exists kA,ac kA (ac kA (ac kA TK)))) (ret TK q)))))
 |give r=>exact ret TK q
inductive IR(P:List bn):Nat->kt->List Nat->Nat->Prop
 |done {b h rs a}:P[b]? =γ (rs,.give a)->IR P b h [b] a
 |step {b h rs e π a}:P[b]? =γ (rs,e)->(∀a,e≠.give a)->IR P (next e (lm rs h)) (lm rs h) π a->IR P b h (b::π) a
noncomputable def GE(P:List bn)(π:List Nat):List bv:=π.flatMap (re P)
noncomputable def Os(P:List bn):List Nat->kt->List Ix
 |[],_=>[]
 |b::π,h=>XV (GT b 0 (re P b)) h++Os P π (lm (re P b) h)
theorem SB(h:P[b]? =γ (rs,e)):re P b=rs:=by unfold re;exists h,TK
theorem Pi:GE P (b::π)=re P b++GE P π:=kY
theorem nF(p:IR P b h π a):∀{n:Nat},δ π<=n->wP P n b h=(Os P π h,at' (lm (GE P π) h) a):=by
 induction p with
 |@done b h rs a e=>
  intro n hn;induction n using b5 with
  |zero=>cases hn
  |succ n=>refine ac (u5 e) (ac Pi (ac (SB e) ?_));show _=(XV (GT b 0 (re P b)) h++[],at' (lm (rs++[]) h) a);rw[SB e,aL,aL]
 |@step b h rs e π a hb he p ih=>
  intro n hn;induction n using b5 with
  |zero=>cases hn
  |succ n=>refine ac (u6 hb he) (ac (ih (tJ hn)) (ac Pi (ac bT ?_)));show _=(XV (GT b 0 (re P b)) h++Os P π (lm (re P b) h),_);exists SB hb,TK
noncomputable def f_:List bv->kt->List (bv×Int×Int)
 |[],_=>[]
 |r::rs,h=>(r,was r h,worth r h)::f_ rs (SL h r)
theorem KX:∀{h:kt},f_ (a++b) h=f_ a h++f_ b (lm a h):=by
 induction a with
 |nil=>exact rfl
 |cons r a ih=>exact TL (_::·) ih
theorem JJ:∀{p:Nat} {h:kt},(XV (GT b p rs) h).map (·.2.2)=f_ rs h:=by
 induction rs with
 |nil=>exact rfl
 |cons r rs ih=>exact TL (_::·) ih
theorem hV:∀{h:kt},(Os P π h).map (·.2.2)=f_ (GE P π) h:=by
 induction π with
 |nil=>exact rfl
 |cons b π ih=>intro h;exists Pi;refine ac KX (io ih (io (JJ (b:=b) (p:=0)) ?_));exact aj
structure pa(P P':List bn) (f:Nat->Nat):Prop where
 at_:∀b rs e,P[b]? =γ (rs,e)->∃g:Nat->Nat,P'[f b]? =γ (rs,fG g e)/\∀t∈e.succ,g t=f t\/P'[g t]? =γ ([],.jump (f t))
theorem AQ(he:∀a,e≠.give a):next (fG g e) h=g (next e h):=by
 induction e with
 |jump t=>rfl
 |branch a x y=>show(match decide (at' h a=0)with|true=>g y|false=>g x)=g (match decide (at' h a=0)with|true=>y|false=>x);cases decide (at' h a=0)<;>rfl
 |table a x y z o=>show(match at' h a with|0=>g x|1=>g y|2=>g z|_=>g o)=g (match at' h a with|0=>x|1=>y|2=>z|_=>o);split<;>rfl
 |give a=>exact absurd TK (he a)
theorem qX(S:pa P P' f)(p:IR P b h π a):∃π',IR P' (f b) h π' a/\GE P' π'=GE P π/\δ π'+1<=2*δ π:=by
 induction p with
 |@done b h rs a e=>refine f4 (S.at_ b rs _ e) λg h1 _=>?_;refine⟨[f b],.done h1,?_,by show 1+1<=2*1;decide⟩;exists Pi;exists Pi;exists SB e;exists SB h1;rfl
 |@step b h rs e π a hb he p ih=>
  refine KT ih λπ' q1 q2 q3=>?_;clear ih;refine f4 (S.at_ b rs e hb) λg h1 h2=>?_;have Wi:∀a,fG g e≠.give a:=λa x=>by
   induction e with
   |give c=>exact he c TK
   |_=>cases x
  have hl:δ (b::π)=δ π+1:=rfl;rcases h2 _ (nE he)with h3|h3
  ·refine⟨f b::π',.step h1 Wi (by exists AQ he;exists h3,q1),by exact ac Pi (ac Pi (ac (SB hb) (ac (SB h1) (ac q2 TK)))),by show δ π'+1+1<=2*(δ π+1);exact κ (bZ q3) (jc _)⟩
  ·refine⟨f b::g (next e (lm rs h))::π',.step h1 Wi (by exists AQ he,.step h3 (λa x=>nomatch x) q1),by exists Pi;exists Pi;exists Pi;exists SB hb;exists SB h1;exists SB h3;exists q2;rfl,by show δ π'+1+1+1<=2*(δ π+1);lia⟩
theorem M9{pre post:List bv}{q:bv}{h:kt}{d:Nat}(hh:v1 h)(hG:∀r∈pre++q::post,GM r)(hd:q.dst=d)(ha:∀x∈FM q.args,∀r∈q::post,r.dst≠x)(hn:∀r∈post,r.dst≠d):at' (lm (pre++q::post) h) d=worth q (lm (pre++q::post) h):=by
 exists bT;have hp:=fh hh λr hr=>hG r (b_ _ hr);have hq:GM q:=hG q (aI _ (.head _));have Xi:∀r∈post,GM r:=λr hr=>hG r (aI _ (.tail _ hr));have e1:at' (lm (q::post) (lm pre h)) d=worth q (lm pre h):=by show at' (lm post (SL _ q)) d=_;exists lR (jl hp hq) Xi hn,ac ((eG hp hq d).1 hd) TK
 exists e1,nO λx hx=>(lR hp (λr hr=>hG r (aI _ hr)) (ha x hx)).symm
def kB(D:Nat->Prop) (U:List bv) (F:Nat->Prop) (h h':kt):Prop:=∀x,at' h x=at' h' x\/(D x/\¬a7 x U (F x))
theorem JK{D:Nat->Prop}{r:bv}{U:List bv}{F:Nat->Prop}{h h':kt}(hh:v1 h)(Vd:v1 h')(hr:GM r)(A:kB D (r::U) F h h'):worth r h=worth r h'/\kB D U F (SL h r) (SL h' r):=by
 have e:∀x∈FM r.args,at' h x=at' h' x:=λx hx=>(A x).resolve_right λn=>n.2 (.inl hx);have w:=nO e;refine⟨w,λx=>?_⟩;by_cases q:r.dst=x
 ·exact .inl (by exists(eG hh hr x).1 q,ac ((eG Vd hr x).1 q) (ac w TK))
 ·exists(eG hh hr x).2 q;exists(eG Vd hr x).2 q,(A x).imp id λz0=>on z0 λa b=>⟨a,λu=>b (.inr ⟨q,u⟩)⟩
theorem zx(h:∀v∈l,f v v=γ ε):eJ f l l=γ ε:=by
 induction l with
 |nil=>rfl
 |cons a l ih=>refine(?_:(f a a).bind _=_);exists h a (.head _);refine(?_:(eJ f l l).bind _=_);exists(ih λv hv=>h v (.tail _ hv));rfl
theorem gz(h:∀v∈l,Uf n v v=γ ε):Uf (n+1) (.list l) (.list l)=γ ε:=by refine(?_:(match ae (δ l) (δ l)with|true=>eJ (Uf n) l l|false=>γ ζ)=_);exists qe ..,zx h
theorem fv(h:∀v∈l,Uf n v v=γ ε):Uf (n+1) (.tup l) (.tup l)=γ ε:=by refine(?_:(match ae (δ l) (δ l)with|true=>eJ (Uf n) l l|false=>.none)=_);exists qe ..,zx h
theorem a6(i:Int):Uf (n+1) (.int i) (.int i)=γ ε:=TL γ (TJ i)
theorem mu{n:Nat}(i:Nat):Uf (n+1) (.str i) (.str i)=γ ε:=TL γ (TJ i)
theorem d4{p:CV->Prop}{a:CV}(h:p a):∀v∈[a],p v:=λv hv=>by cases Θ.mp hv;exact h
theorem bD{p:CV->Prop}{a:CV}{l:List CV}(h:p a)(k:∀v∈l,p v):∀v∈a::l,p v:=λv hv=>(ab.mp hv).elim (λe=>e▸h) (k v)
theorem kK{α:Type}{p:CV->Prop}{f}(h:∀x,p (f x))(l:List α):∀v∈l.map f,p v:=λv hv=>by refine f4 (au.mp hv) λx _ e=>?_;exact e▸h x
theorem v9(a:bl):Uf (n+2) (bX a) (bX a)=γ ε:=by
 induction a with
 |r m=>exact fv (bD (mu _) (d4 (a6 _)))
 |k i=>exact fv (bD (mu _) (d4 (a6 _)))
theorem OZ(r:bv):Uf (n+1) r.more r.more=γ ε:=by
 induction r with
 |call a=>exact mu _
 |_=>exact a6 _
theorem v_(r:bv):Uf (n+4) (sK r) (sK r)=γ ε:=fv (bD (mu _) (bD (a6 _) (bD (gz (kK v9 _)) (d4 (OZ r)))))
noncomputable def gO(a:bv×Int×Int):CV:=.tup [sK a.1,.int a.2.1,.int a.2.2]
theorem M'(l:List (bv×Int×Int)):iL (.list (l.map gO)) (.list (l.map gO))=γ ε:=gz (kK (λa=>fv (bD (v_ _) (bD (a6 _) (d4 (a6 _))))) _)
theorem AR(hP:bE P)(hr:∀b∈P,δ b.1<=1000)(hh:v1 h)(hl:(wP P 24 0 h).1.length<=1000)(ht:δ tr<=1000)
  (e:args.map (ul c 8)=[Sc P,zn h,AT tr,.int g]) (h1:(wP P 24 0 h).2=g) (h2:(wP P 24 0 h).1.map (·.2.2)=tr.map (·.2.2)) (q:Q (.bool ε) c):Ph (n+3) 151 args c Q:=by
 refine TT TK TK e (dl (fU P) (dl (jg h) (dl (bq qF tr) TK))) (ξ TK ?_);generalize hF:wP P 24 0 h=F at hl h1 h2;refine ka (P:=P) hP.l hr (by rfl) (n7 (P:=P) (h:=h) (X:=zn h) hP hh (by exists hF,hl) (by rfl) TK (jg h) ?_);exists hF;have turn:∀(a:Ix) (s:Option CV) (r:List CV) (K:List CV->L->ad->Prop),True->δ (r++[gO a.2.2])<=1000->(∀s,K (r++[gO a.2.2]) [(150,s)] [])->wT (Ph (n+2)) (.name 150) (dG a) [(150,s)] [] (λl c=>cx (Ph (n+2)) .nil l c λb c=>br b (wG (Ph (n+2)) (.last (.lo (.l 150) (.i (.int 2)))) r l c K) (K r l c)):=
  λa s r K _ hr k=>KF ⟨an TK,by decide⟩ (by rw[Δ]at hr;exact κ (ao _ _) hr) (k _)
 refine bC (TR h1) ?_;refine jD (σ:=Option CV) (λs=>[(150,s)]) [] (λa:Ix=>[gO a.2.2]) (λ_=>True) turn TQ F.1 [] η (λ_ _=>trivial) (by exists On ..;exists aB ..;exists φ ..,hl) λs=>?_;refine jD (σ:=Option CV) (λs=>[(150,s)]) [] (λa:Ix=>[gO a.2.2]) (λ_=>True) turn TQ tr [] η (λ_ _=>trivial) (by exists On ..;exists aB ..;exists φ ..,ht) λs=>?_;have eqv:bh [] .eq (.list ([]++F.1.flatMap λa:Ix=>[gO a.2.2])) (.list ([]++tr.flatMap λa:Ix=>[gO a.2.2]))=γ ε:=by rw[On,On,aB,aB,show(λa:Ix=>gO a.2.2)=gO∘(·.2.2)from rfl,←cM,←cM,h2];exact M' _
 exact db eqv (ret TK q)
theorem DW{σ:Type}{t:L->ad->(Bool->ad->Prop)->Prop}{f:L->ad->(L->ad->Prop)->Prop}{N:L->ad->Prop}(lf:σ->L)(cf:σ->ad)(I:σ->Prop)(μ:σ->Nat)
  (turn:∀s K,I s->(∀s',I s'->μ s' < μ s->K (lf s') (cf s'))->t (lf s) (cf s) λb c=>br b (f (lf s) c K) (N (lf s) c)):∀(n:Nat) (s:σ),I s->μ s<n->kO t f n (lf s) (cf s) N
 |0,s,_,h=>absurd h (pT _)
 |n+1,s,h,hm=>turn s _ h λs' h' hm'=>DW lf cf I μ turn n s' h' (bp hm' (gn hm))
theorem tq{σ:Type}{Φ:Nat->Fn}{e:E}{b ss:Ss}{fl:Nat}{N C:L->ad->Prop}{R:CV->ad->Prop}(lf:σ->L)(cf:σ->ad)(I:σ->Prop)(μ:σ->Nat)
  (turn:∀s K,I s->(∀s',I s'->μ s' < μ s->K (lf s') (cf s'))->jB Φ e (lf s) (cf s) λu c=>br u (fn Φ b fl (lf s) c K K R) (fn Φ ss fl (lf s) c N C R)) (s:σ) (h:I s) (hm:μ s<1000):fn Φ (.cons (.whl e b) ss) fl (lf s) (cf s) N C R:=
 DW (t:=λl c Q=>jB Φ e l c Q) (f:=λl c K=>fn Φ b fl l c K K R) (N:=λl c=>fn Φ ss fl l c N C R) lf cf I μ turn 1000 s h hm
theorem AS{d:Nat}{as:List bl}:bM (.tup [.str 71,.int d]) (as.map bX)=γ (decide (d∈FM as)):=by
 induction as with
 |nil=>rfl
 |cons a as ih=>
  refine(?_:(iL (bX a) _).bind (λx=>(bM _ (as.map bX)).bind λb=>γ (x || b))=_);exists ih;induction a with
  |r m=>
   refine(?_:γ ((ε&&(((m:Int)==(d:Int))&&ε)) || decide (d∈FM as))=γ (decide (d∈m::FM as)));exists p6 ..;exists g_ ..;by_cases h:d=m
   ·rw[h,TJ,TR (tR),HM]
   ·rw[show((m:Int)==(d:Int))=ζ from TO.mpr λe=>h (aW e).symm,p9];exact TL γ (decide_eq_decide.mpr ⟨λq=>.tail _ q,λq=>(ab.mp q).resolve_left h⟩)
  |k i=>rfl
theorem QU(h:f8 c n=γ (.list l)):bh c .ne (.ref n) (.list [])=γ (!l.isEmpty):=by refine(?_:((f8 c n).bind λx=>(mK x (.list [])))=_);exists h;induction l<;>rfl
def mH(P:List bn) (b d:Nat):Prop:=∃M:Nat->Prop,M b/\∀m,M m->∃k,P[m]? =γ k/\¬a7 d k.1 (d∈FM k.2.args)/\((∃r∈k.1,r.dst=d)\/∀t∈k.2.succ,M t)
structure Lv(P:List bn) (b d:Nat) (W:List Nat) (ks:List Int):Prop where
 w:∀x∈W,x<δ P
 k:∀x∈ks,0<=x/\x<δ P
 nd:ks.Nodup
 st:b∈W\/(b:Int)∈ks
 cl:∀m:Nat,(m:Int)∈ks->∃k,P[m]? =γ k/\¬a7 d k.1 (d∈FM k.2.args)/\((∃r∈k.1,r.dst=d)\/∀t∈k.2.succ,t∈W\/(t:Int)∈ks)
theorem qH:∀(n:Nat) (l:List Int),l.Nodup->(∀x∈l,0<=x/\x<n)->δ l<=n:=by
 intro n;induction n with
 |zero=>
  intro l _ h;induction l using ar with
  |nil=>exact aJ _
  |cons a l=>exact absurd (h a (.head _)).2 (hZ.mpr (h a (.head _)).1)
 |succ n ih=>
  intro l hn h;by_cases q:(n:Int)∈l
  ·have:=ih (l.erase n) (hn.erase _) λx hx=>(by have h1:=h x (List.mem_of_mem_erase hx);exact⟨h1.1,pE.mpr ⟨Fl.mp h1.2,((hn.mem_erase_iff).mp hx).1⟩⟩);rw[List.length_erase_of_mem q]at this;exact Nat.le_add_of_sub_le this
  ·exact eY (ih l hn λx hx=>by have h1:=h x hx;exact⟨h1.1,pE.mpr ⟨Fl.mp h1.2,λe=>q (e▸hx)⟩⟩)
theorem Lv.len(h:Lv P b d W ks):δ ks<=δ P:=qH _ _ h.nd h.k
noncomputable def mI(i:Nat):Int:=match i with|0=>1|1=>2|2=>4294967295|3=>7|4=>16|_=>2147483648
noncomputable def oR(Rs:Nat)(i:Nat):Nat:=match i with|0=>5|1=>6|2=>9|_=>Rs
noncomputable def tc(kind Rs other:Nat)(ex:Int)(se:Nat)(ev:Bool):bv:=match kind with
 |0=>.bin .add Rs (.r Rs) (.k ex)
 |1=>.bin .sub Rs (.r Rs) (.k ex)
 |2=>.bin .add other (.k ex) (.r Rs)
 |3=>.copy Rs (.r other)
 |4=>.const Rs (.k ex)
 |5=>.bin .xor 5 (.r 7) (.r 8)
 |6=>.bin .add 6 (.r 5) (.k ex)
 |7=>.bin .mul 9 (.r Rs) (.k ex)
 |8=>.call (.r se)
 |9=>.bin .divu 10 (.r 7) (match ev with|true=>.k ex|false=>.r 8)
 |10=>.bin .sub 5 (.r 8) (.k ex)
 |_=>.bin .add 10 (.r 6) (.r 7)
noncomputable def de(m:Nat):bv:=tc (m%12) (m / 12%3) ((m / 12%3+1+m / 12 / 3%2)%3) (mI (m / 12 / 6%6)) (oR (m / 12%3) (m / 12 / 3%4)) (m / 12%2==0)
theorem kc{f:Nat->CV}{k i:Nat}(h:i<k):s0 ((ax k).map f) (i:Int)=γ (f i):=by show((ax k).map f)[i]? =_;exists aA;exists jS h;rfl
theorem Te{i:Nat}(h:i<6):s0 [CV.int 1,.int 2,.int 4294967295,.int 7,.int 16,.int 2147483648] (i:Int)=γ (.int (mI i)):=kc (f:=λi=>.int (mI i)) h
theorem Tf{i Rs:Nat}(h:i<4):s0 [CV.int 5,.int 6,.int 9,.int Rs] (i:Int)=γ (.int (oR Rs i)):=kc (f:=λi=>.int (oR Rs i)) h
def EQ:List Nat->Prop->Prop
 |[],P=>P
 |n::ns,P=>n<=1000/\EQ ns P
theorem FS:∀(ns:List Nat),(ns.all λn=>iz n 1000)=ε->P->EQ ns P
 |[],_,p=>p
 |n::ns,h,p=>⟨pC (jp h).1,FS ns (jp h).2 p⟩
theorem M_{a:Nat}:((a:Int)==0)=(a==0):=by induction a<;>rfl
theorem wa{n:Nat}{args:List CV}{c:ad}{Q:CV->ad->Prop}{m:Nat}(e:args.map (ul c 8)=[.int m])(q:Q (sK (de m)) c):Ph (n+1) 119 args c Q:=by
 refine TT TK TK e TK (ξ TK ?_);have h6:m / 12 / 6%6<6:=ef _ (by decide);have h4:m / 12 / 3%4<4:=ef _ (by decide);have hk:m%12<12:=ef _ (by decide);refine ξ (by decide) (ξ ⟨by decide,by decide⟩ (ξ (an TK) (ξ (by decide) (ξ ⟨by decide,by decide⟩ (ξ (by decide) (bN (by decide) ⟨by decide,by decide⟩ (by decide) (an TK) ?_))))));refine db (o:=s0 [CV.int 1,.int 2,.int 4294967295,.int 7,.int 16,.int 2147483648] ((m / 12 / 6%6:Nat):Int)) (Te h6) ?_;unfold de at q;generalize mI (m / 12 / 6%6)=ex at q ⊢;refine(FS [2,2,2,4,2,2,4,2,2,4,2,1,4,1,4,2,2,2,4,2,2,4,2,2,4,4] TK ?_:EQ _ _);refine mF ⟨by decide,by decide⟩ (by decide) (an TK) (o:=s0 [CV.int 5,.int 6,.int 9,.int (m / 12%3:Nat)] ((m / 12 / 3%4:Nat):Int)) (Tf h4) ?_;generalize oR (m / 12%3) (m / 12 / 3%4)=se at q ⊢;refine(FS [2,1,4,2] TK ?_:EQ _ _);refine ξ (by decide) ?_;generalize hv:(m / 12%2==0)=ev at q;have YM:(((m / 12%2:Nat):Int)==0)=ev:=M_.trans hv;induction ev with
 |true=>refine bC (b:=(((m / 12%2:Nat):Int)==0)) YM (FS [2,4,2,2,4,2,2,2,4,12,12] TK ?_:EQ _ _);exact db (kc (f:=λk=>sK (tc k (m / 12%3) ((m / 12%3+1+m / 12 / 3%2)%3) ex se ε)) hk) (ret (lz _) q)
 |false=>refine ww (b:=(((m / 12%2:Nat):Int)==0)) YM (FS [2,2,4,2,2,4,2,2,2,4,12,12] TK ?_:EQ _ _);exact db (kc (f:=λk=>sK (tc k (m / 12%3) ((m / 12%3+1+m / 12 / 3%2)%3) ex se ζ)) hk) (ret (lz _) q)
theorem R5{α σ:Type}{enc:α->CV}{ys:List CV}{sm:ad->Prop}{f:CV->List CV->L->ad->(List CV->L->ad->Prop)->Prop}{N:List CV->L->ad->Prop}(rf:σ->List CV)(lf:σ->L)(cf:σ->ad)(I:List α->σ->Prop)
  (turn:∀x xs s K,I (x::xs) s->(∀s,sm (cf s)->I xs s->K (rf s) (lf s) (cf s))->f (enc x) (rf s) (lf s) (cf s) K) (xs:List α) (he:ys=xs.map enc) (s:σ) (h:I xs s) (k:∀s,I [] s->N (rf s) (lf s) (cf s)):cA sm f ys (rf s) (lf s) (cf s) N:=by
 subst he;induction xs generalizing s with
 |nil=>exact k s h
 |cons x xs ih=>exact turn x xs s _ h λs m h=>⟨m,ih s h⟩
theorem nG{i:Nat}{l:List Nat}:bM (.int i) (l.map λ(j:Nat)=>CV.int j)=γ (l.contains i):=by
 induction l with
 |nil=>rfl
 |cons a l ih=>
  show(γ ((a:Int)==(i:Int))).bind (λx=>(bM _ (l.map λ(j:Nat)=>CV.int j)).bind λb=>γ (x || b))=_;exists ih;exists g7;show γ (((a:Int)==(i:Int)) || l.contains i)=_;by_cases h:i=a
  ·rw[h,TJ,TJ]
  ·exists TO.mpr h,ac (show((a:Int)==(i:Int))=ζ from TO.mpr λe=>h (aW e).symm) TK
noncomputable def wr(P:List bn)(b:Nat):List Nat:=match P[b]? with|some b=>b.2.succ|none=>[]
noncomputable def pf(P:List bn)(i t:Nat):List Nat:=(ax i).filter λb=>(wr P b).contains t
noncomputable def Rs(b:Bool)(i:Nat):List Nat:=match b with|true=>[i]|false=>[]
theorem BQ{P:List bn}{i t:Nat}:pf P (i+1) t=pf P i t++Rs ((wr P i).contains t) i:=by unfold pf;rw[ud,Fm];show _++(List.filter _ [i])=_;rw[ub];cases(wr P i).contains t<;>rfl
theorem QV{P:List bn}{i t:Nat}:(pf P i t).contains i=ζ:=by
 cases h:(pf P i t).contains i with
 |false=>rfl
 |true=>exact absurd (fQ.mp (b3.mp (ak.mp h)).1) (fS _)
theorem KY{α:Type}{P rest:List α}{b:α}{i:Nat}(h:P.drop i=b::rest):P[i]? =γ b/\P.drop (i+1)=rest:=by
 have h1:(P.drop i)[0]? =γ b:=by exists h;rfl
 rw[Fd]at h1;refine⟨h1,?_⟩;refine io GK (ac h ?_);rfl
noncomputable def di(n:Nat):List CV:=(ax n).map λ(i:Nat)=>CV.ref i
noncomputable def cp(n:Nat)(LL:List (List Nat)):ad:=(LL.map λl=>γ (sB l))++[γ (.list (di n))]
theorem C8{n t:Nat}{LL:List (List Nat)}{l:List Nat}(h:LL[t]? =γ l):f8 (cp n LL) t=γ (sB l):=by have hl:=(ay.mp h).1;unfold f8 cp;exists pv (by rw[φ];exact hl);exists aA;exists h;rfl
theorem QW{n t:Nat}{LL:List (List Nat)}{l:List Nat}(h:t<δ LL):dL (cp n LL) t (sB l)=cp n (LL.set t l):=by unfold dL cp;exists List.set_append_left _ _ (by rw[φ];exact h),ac uA TK
theorem BR{n:Nat}{LL:List (List Nat)}(h:δ LL=n):f8 (cp n LL) n=γ (.list (di n)):=by
 unfold f8 cp;have:δ (LL.map λl=>γ (sB l))=n:=by exists φ ..,h
 rw[gh (by rw[this];exact aJ _),this,hU];rfl
theorem Cw{n t:Nat}(h:t<n):s0 (di n) (t:Int)=γ (.ref t):=kc (f:=λi=>.ref i) h
def PI(P:List bn) (i:Nat) (ys:List Nat) (LL:List (List Nat)):Prop:=δ LL=δ P/\∀t,t<δ P->LL[t]? =γ (pf P i t++Rs (ys.contains t) i)
theorem O6{i:Nat}{l:List Nat}(h:l.contains i=ζ){b:Bool}:(l++Rs b i).contains i=b:=by
 induction b with
 |false=>show(l++[]).contains i=ζ;exists aL ..,h
 |true=>exact ak.mpr (aI _ (.head _))
theorem um{x t:Nat}{l:List Nat}:(l++[x]).contains t=(l.contains t || (t==x)):=by exists Eu;exists Eu;exists List.any_append,TL (l.any (λx=>t==x) || ·) (p_ _)
theorem PI.old{P:List bn}{i t:Nat}{ys:List Nat}{LL:List (List Nat)}(h:PI P i ys LL)(ht:ys.contains t=ε):PI P i (ys++[t]) LL:=by
 refine⟨h.1,λu hu=>?_⟩;exists h.2 u hu;exists um;by_cases e:u=t
 ·subst e;exists ht;rfl
 ·rw[TO.mpr e,p_]
theorem PI.new{P:List bn}{i t:Nat}{ys:List Nat}{LL:List (List Nat)}(h:PI P i ys LL)(ht:ys.contains t=ζ):PI P i (ys++[t]) (LL.set t (pf P i t++[i])):=by
 refine⟨by exists cZ;exact h.1,λu hu=>?_⟩;exists um;by_cases e:u=t
 ·subst e;rw[eW (by rw[h.1];exact hu),ht,TJ];rfl
 ·rw[eX (aO e),h.2 u hu,TO.mpr e,p_]
theorem O7{c:ad}{R:List (List Nat)}:∀{i:Nat},(∀j s,R[j]? =γ s->f8 c (i+j)=γ (sB s))->d6 c ((ze i (δ R)).map λ(i:Nat)=>CV.ref i) (R.map sB):=by
 induction R with
 |nil=>exact λ_=>.nil
 |cons a R ih=>exact λ{i} h=>.cons (jm (h 0 a TK) (KM (λ_=>rfl) _)) (ih λj s e=>by have:=h (j+1) s e;exists bP ..;exists b4 1 ..,this)
theorem uM{l:List Nat}{i:Nat}:sB (l++[i])= .list ((l.map λ(j:Nat)=>CV.int j)++[.int i]):=TL CV.list aj
noncomputable def C9:Ss:=.cons (.ife (.cmp .notin (.attr (.l 49) 36) (.sub (.l 62) (.l 36))) (.cons (.ex (.me .append (.sub (.l 62) (.l 36)) (.attr (.l 49) 36)))
 .nil) .nil)
 .nil
theorem KZ{n fl i t:Nat}{P:List bn}{b:bn}{A:Option CV}{K C:L->ad->Prop}{R:CV->ad->Prop}{ys:List Nat}{LL:List (List Nat)}(hP:δ P<=900)(hi:i<δ P)(ht:t<δ P)(h:PI P i ys LL)
  (k:∀LL,PI P i (ys++[t]) LL->K [(63,A),(62,γ (.ref (δ P))),(49,γ (b8 i b)),(36,γ (.int t))] (cp (δ P) LL)):fn (Ph n) C9 fl [(63,A),(62,γ (.ref (δ P))),(49,γ (b8 i b)),(36,γ (.int t))] (cp (δ P) LL) K C R:=by
 have hc:=C8 (n:=δ P) (h.2 t ht);have hr:δ (di (δ P))<=1000:=by unfold di;exists φ ..;exists bG ..,κ ‹_› (by decide)
 have UH:(view (cp (δ P) LL) (.ref t)).bind (th (.int i))=γ (ys.contains t):=by show(f8 (cp (δ P) LL) t).bind _=_;exists hc;show bM (.int i) _=_;exists nG,ac (O6 QV) TK
 have hv:view (cp (δ P) LL) (.ref (δ P))=γ (.list (di (δ P))):=BR h.1;have hq:bh (cp (δ P) LL) .notin (.int i) (.ref t)=γ (!ys.contains t):=by show((view (cp (δ P) LL) (.ref t)).bind _).map _=_;exists UH;rfl
 refine db hv (ξ hr (db (o:=s0 (di (δ P)) (t:Int)) (Cw ht) (db hq (Ev (λz=>?_) λz=>?_))))
 ·have hn:ys.contains t=ζ:=TI z;refine db hv (ξ hr (db (o:=s0 (di (δ P)) (t:Int)) (Cw ht) ?_));have hk:dB .append (cp (δ P) LL) (.ref t)=γ ():=by show(f8 (cp (δ P) LL) t).bind _=_;exists hc;rfl
  refine db hk (db (o:=(f8 (cp (δ P) LL) t).bind a9) (by exists hc;rfl) (ξ ?_ ?_))
  ·exists φ ..;exists Δ ..;have:δ (pf P i t)<=i:=(by exact κ (fP _ _) (by exists bG,aJ _));cases ys.contains t<;>simp only[Rs,cC,List.length_singleton]<;>lia
  ·have:=k _ (h.new hn);rw[←QW (by exists h.1,ht),uM]at this;exists hn;show K _ (dL _ _ (.list (((pf P i t++[]).map λ(i:Nat)=>CV.int i)++_)));exists aL ..,this
 ·have hn:ys.contains t=ε:=by
   have z':(!ys.contains t)=ζ:=z;cases e:ys.contains t with
   |true=>rfl
   |false=>rw[e]at z';exact eH z'
  exact k _ (h.old hn)
theorem DX{P:List bn}{b:Nat}{k:bn}(h:P[b]? =γ k):wr P b=k.2.succ:=by unfold wr;exists h,TK
theorem Iz{P:List bn}{M:Nat->Prop}(hM:∀b,M b->∀t∈wr P b,M t){b:Nat}{h:kt}{π:List Nat}{a:Nat}(p:IR P b h π a):M b->∀x∈π,M x:=by
 induction p with
 |done e=>exact λhb x hx=>by have hz:=Θ.mp hx;subst hz;exact hb
 |step e he p ih=>exact λhb x hx=>(ab.mp hx).elim (λq=>q▸hb) (ih (hM _ hb _ (by exists DX e,nE he)) x)
theorem JL{P:List bn}{rg:Nat->Prop}{ah hd:Nat}{Uu:List bv}(ZS:∀b,¬rg b->∀t∈wr P b,rg t->b=ah)(Va:P[ah]? =γ (Uu,.jump hd))(hna:¬rg ah){b:Nat}{h:kt}{π:List Nat}{a:Nat}(p:IR P b h π a):
  ¬rg b->(∀x∈π,¬rg x/\x≠ah)\/∃pre VC,π=pre++ah::VC/\(∀x∈pre,¬rg x/\x≠ah)/\IR P hd (lm Uu (lm (GE P pre) h)) VC a:=by
 induction p with
 |@done b h rs a e=>intro hb;refine .inl λx hx=>?_;have hz:=Θ.mp hx;subst hz;exact⟨hb,λq=>by rw[q,Va]at e;replace e:=ω e;cases e⟩
 |@step b h rs e π a eb he p ih=>
  intro hb;by_cases q:b=ah
  ·subst q;rw[Va]at eb;replace eb:=ω eb;cases eb;exact .inr ⟨[],π,rfl,λx hx=>(nomatch hx),p⟩
  ·have hn:¬rg (next e (lm rs h)):=λm=>q (ZS b hb _ (by exists DX eb,nE he) m);rcases ih hn with k|⟨pre,VC,e1,e2,e3⟩
   ·exact .inl λx hx=>(ab.mp hx).elim (λz=>z▸⟨hb,q⟩) (k x)
   ·refine .inr ⟨b::pre,VC,by exists e1;rfl,λx hx=>(ab.mp hx).elim (λz=>z▸⟨hb,q⟩) (e2 x),?_⟩;exists Pi;exists SB eb;exists bT,e3
theorem AU:∀{h:kt},Os P (π++ρ) h=Os P π h++Os P ρ (lm (GE P π) h):=by
 induction π with
 |nil=>exact rfl
 |cons b π ih=>intro h;show XV _ _++Os P (π++ρ) _=(XV _ _++Os P π _)++Os P ρ (lm (GE P (b::π)) h);rw[ih,bF,Pi,bT]
theorem qY:GE P (π++ρ)=GE P π++GE P ρ:=List.flatMap_append
theorem rF:∀{p:Nat} {h:kt} {x:Ix},x∈XV (GT b p rs) h->∃i r,rs[i]? =γ r/\x=(b,p+i,r,was r (lm (rs.take i) h),worth r (lm (rs.take i) h)):=by
 induction rs with
 |nil=>exact λhx=>nomatch hx
 |cons r rs ih=>
  intro p h x hx;rcases ab.mp hx with e|m
  ·exact⟨0,r,rfl,e⟩
  ·obtain⟨i,q,h1,h2⟩:=ih m;exact⟨i+1,q,h1,by exists h2;exists bP p 1 i;exists b4 1 i;rfl⟩
structure R6(P:List bn) (x:Ix) (h:kt):Prop where
 row:(re P x.1)[x.2.1]? =γ x.2.2.1
 was:x.2.2.2.1=Mine.was x.2.2.1 (lm ((re P x.1).take x.2.1) h)
 worth:x.2.2.2.2=Mine.worth x.2.2.1 (lm ((re P x.1).take x.2.1) h)
theorem kn(hP:∀b∈P,mN b)(hr:r∈re P b):GM r:=by
 unfold re at hr;cases e:P[b]? with
 |none=>rw[e]at hr;cases hr
 |some k=>rw[e]at hr;exact(hP k (av e)).1 r hr
theorem Na(hP:∀b∈P,mN b)(hr:r∈GE P π):GM r:=by obtain⟨b,_,hr⟩:=pP.mp hr;exact kn hP hr
theorem jn(hP:∀b∈P,mN b):∀{h:kt} {x:Ix},v1 h->x∈Os P π h->x.1∈π/\∃h',v1 h'/\R6 P x h':=by
 induction π with
 |nil=>exact λ_ hx=>nomatch hx
 |cons b π ih=>
  intro h x hh hx;rcases aw.mp hx with m|m
  ·obtain⟨i,r,h1,rfl⟩:=rF m;refine⟨.head _,h,hh,?_,?_,?_⟩
   ·show(re P b)[0+i]? =γ r;exists az ..,h1
   ·show was r _=was r (lm ((re P b).take (0+i)) h);exists az ..,TK
   ·show worth r _=worth r (lm ((re P b).take (0+i)) h);exists az ..,TK
  ·obtain⟨h1,h2⟩:=ih (fh hh λr hr=>kn hP hr) m;exact⟨.tail _ h1,h2⟩
theorem K0:∀{p:Nat} {h:kt},bx (XV (GT b p rs) h)=bw rs h:=by
 induction rs with
 |nil=>exact rfl
 |cons r rs ih=>
  intro p h;have:=ih (p:=p+1) (h:=SL h r);induction r with
  |call a=>exact TL (worth (.call a) h::·) this
  |_=>exact this
theorem K1:bx (a++b)=bx a++bx b:=by unfold bx;exists Fm ..,ac (aj ..) TK
theorem gy:∀{h:kt},bw (a++b) h=bw a h++bw b (lm a h):=by
 induction a with
 |nil=>exact rfl
 |cons r a ih=>
  intro h;induction r with
  |call x=>exact TL (worth (.call x) h::·) ih
  |_=>exact ih
theorem Ac:∀{h:kt},bx (Os P π h)=bw (GE P π) h:=by
 induction π with
 |nil=>exact rfl
 |cons b π ih=>intro h;show bx (XV _ _++Os P π _)=_;exists K1,ac K0 (ac ih (ac Pi (ac gy TK)))
theorem Nb:∀{h:kt},δ (XV l h)=δ l:=by
 induction l with
 |nil=>exact rfl
 |cons t l ih=>exact TL (· +1) ih
theorem y_:∀{p:Nat},δ (GT n p rs)=δ rs:=by
 induction rs with
 |nil=>exact rfl
 |cons r rs ih=>exact TL (· +1) ih
theorem il(hm:∀b∈P,δ b.1<=m):∀{h:kt},δ (Os P π h)<=δ π*m:=by
 have hb:∀b,δ (re P b)<=m:=λb=>by
  unfold re;cases e:P[b]? with
  |none=>exact cN _
  |some k=>exact hm k (av e)
 induction π with
 |nil=>exact cN _
 |cons b π ih=>intro h;show δ (XV (GT b 0 (re P b)) h++Os P π _)<=(δ π+1)*m;rw[Δ,Nb,y_,Nat.add_mul,Nat.one_mul,b4];exact g9 ih (hb b)
theorem O8{α:Type}{r:α}{pre post:List α}{C:Prop}(e:[]=pre++r::post):C:=by induction pre using ar<;>exact nomatch e
theorem AV{α:Type}{r:α}{T:List α}{P:List α->α->List α->Prop}(h0:P [] r T)(h1:∀pre q post,T=pre++q::post->P (r::pre) q post):∀pre q post,r::T=pre++q::post->P pre q post:=by
 intro pre q post e;induction pre using ar with
 |nil=>exact(ja e).1▸(ja e).2▸h0
 |cons p pre=>exact(ja e).1▸h1 pre q post (ja e).2
theorem JM{r:bv}{T T':List bv}{h h':kt}(w:worth r h=worth r h')(k:bw T (SL h r)=bw T' (SL h' r)):bw (r::T) h=bw (r::T') h':=by
 induction r with
 |call a=>show worth (.call a) h::_=worth (.call a) h'::_;exists w,ac k TK
 |_=>exact k
theorem JN{r:bv}{T:List bv}{h:kt}(k:∀a,r≠.call a):bw (r::T) h=bw T (SL h r):=by
 induction r with
 |call a=>exact absurd TK (k a)
 |_=>rfl
theorem Cx{D Kp F:Nat->Prop}{Z:List bv}{kept:bv->Bool}{hG:kt}{T:List bv}:(∀r∈T,GM r)->(∀r∈T,kept r=ε->∀x:Nat,Kp x->r.dst≠x)->
  (∀r∈T,kept r=ζ->(∃d:Nat,r.dst=d/\Kp d/\at' hG d=worth r hG)/\(∀x∈FM r.args,Kp x)/\∀a,r≠.call a)->
  ∀{h h':kt},v1 h->v1 h'->kB D (T++Z) F h h'->(∀x,Kp x->at' h' x=at' hG x)->
  bw T h=bw (T.filter kept) h'/\kB D Z F (lm T h) (lm (T.filter kept) h')/\v1 (lm (T.filter kept) h')/\∀pre r post,T=pre++r::post->kept r=ζ->worth r (lm pre h)=worth r hG:=by
 induction T with
 |nil=>exact λ_ _ _=>λhh Vd A _=>⟨rfl,A,Vd,λ_ _ _ e=>O8 e⟩
 |cons r T ih=>
  intro hT h1 h2 h h' hh Vd A K;have hr:=hT r (.head _);have ih:=λ{h h':kt}=>ih (h:=h) (h':=h') (λq hq=>hT q (.tail _ hq)) (λq hq=>h1 q (.tail _ hq)) (λq hq=>h2 q (.tail _ hq));cases hk:kept r with
  |true=>refine on (JK hh Vd hr A) λw A'=>?_;obtain⟨i1,i2,i3,i4⟩:=ih (jl hh hr) (jl Vd hr) A' λx hx=>(by exists(eG Vd hr x).2 (h1 r (.head _) hk x hx),K x hx);exists List.filter_cons_of_pos hk;exact⟨JM w i1,i2,i3,AV (λhq=>eH (hk.symm.trans hq)) i4⟩
  |false=>
   obtain⟨⟨d,e1,e2,e3⟩,e4,e5⟩:=h2 r (.head _) hk;have w1:worth r h=worth r h':=nO λx hx=>(A x).resolve_right λn=>n.2 (.inl hx);have w2:worth r h'=worth r hG:=nO λx hx=>K x (e4 x hx);have A':kB D (T++Z) F (SL h r) h':=λx=>by
    by_cases q:r.dst=x
    ·have:x=d:=(by rw[e1]at q;exact(aW q).symm);subst this;exact .inl (by exists(eG hh hr x).1 q,ac w1 (ac w2 (io e3 (ac (K x e2) TK))))
    ·exists(eG hh hr x).2 q,(A x).imp id λz0=>on z0 λa b=>⟨a,λu=>b (.inr ⟨q,u⟩)⟩
   refine Rt (ih (jl hh hr) Vd A' K) λi1 i2 i3 i4=>?_;exists List.filter_cons_of_neg (by rw[hk];exact jU);exact⟨(JN e5).trans i1,i2,i3,AV (λ_=>w1.trans w2) i4⟩
theorem Nc{k x:Int}{ks:List Int}(h:ks.Nodup):x∈cw k ks↔x∈ks/\x≠k:=by
 induction ks with
 |nil=>exact⟨λh=>(nomatch h),λh=>(nomatch h.1)⟩
 |cons a ks ih=>
  refine on (dO.mp h) λh1 h2=>?_;rw[cw];cases q:k==a with
  |true=>have hz:=TM q;subst hz;show x∈ks↔_;rw[ab];exact⟨λm=>⟨.inr m,λe=>h1 (e▸m)⟩,λz0=>on z0 λm n=>m.resolve_left n⟩
  |false=>show x∈a::cw k ks↔_;rw[ab,ab,ih h2];have hn:a≠k:=λe=>(TO.mp q) e.symm;exact⟨λm=>m.elim (λe=>⟨.inl e,λe'=>hn (e▸e')⟩) λm=>⟨.inr m.1,m.2⟩,λz0=>on z0 λm n=>m.imp id λm=>⟨m,n⟩⟩
theorem AW{k:Int}{ks:List Int}:(cw k ks).Sublist ks:=by
 induction ks with
 |nil=>exact .slnil
 |cons a ks ih=>
  rw[cw];induction k==a with
  |true=>exact List.sublist_cons_self _ _
  |false=>exact ih.cons₂ _
theorem IB{k:Int}{ks:List Int}:∀{vs:List CV},Go vs=ε->Go (eL k ks vs)=ε:=by
 induction ks with
 |nil=>exact λ_=>rfl
 |cons a ks ih=>
  intro vs h;induction vs using ar with
  |nil=>exact rfl
  |cons v vs=>
   refine on (jp h) λh1 h2=>?_;rw[eL];induction k==a with
   |true=>exact h2
   |false=>exact dl h1 (ih h2)
theorem Ad(n:Nat):∀(v:CV),v.solid=ε->v.hasNot n=ε:=by
 intro v;refine CV.rec (motive_1:=λv=>v.solid=ε->v.hasNot n=ε) (motive_2:=λl=>Go l=ε->c_ n l=ε) ?_ ?_ ?_ ?_ ?_ ?_ ?_ ?_ ?_ ?_ ?_ ?_ ?_ ?_ ?_ ?_ ?_ ?_ v
 all_goals first
  |exact λ_=>rfl
  |exact λ_ _=>rfl
  |exact λ_ _ _=>rfl
  |(exact λ_ h=>(nomatch (show ζ=ε from h)))
  |(exact λ_ _ h=>(nomatch (show ζ=ε from h)))
  |exact λ_ ih h=>ih h
  |exact λ_ _ ih h=>ih h
  |(intro a l i1 i2 h;refine on (jp h) λh1 h2=>?_;exact dl (i1 h1) (i2 h2))
theorem hY{n:Nat}{l:List CV}(h:Go l=ε):c_ n l=ε:=Ad n (.list l) h
noncomputable def d7(ks:List Int)(t:v6):Bool:=gV ks t.2.2.args
noncomputable abbrev x0(t:v6):Int:=t.2.2.dst
structure mO(ts:List v6) (A Wf:List Int) (fnd left:List v6) (ks:List Int):Prop where
 sub:∀t∈fnd++left,t∈ts/\x0 t∈Wf/\¬x0 t∈A
 nd:((fnd++left).map x0).Nodup
 knd:ks.Nodup
 key:∀x,x∈ks↔x∈Wf/\¬x∈fnd.map x0
 all:∀t∈ts,¬x0 t∈A->t∈fnd++left
 ord:∀pre t post,fnd=pre++t::post->∀r∈FM t.2.2.args,(r:Int)∈Wf->(r:Int)∈pre.map x0
theorem AX{ks:List Int}{as:List bl}:gV ks as=ε↔∀r∈FM as,¬(r:Int)∈ks:=by
 induction as with
 |nil=>exact⟨λ_ _ h=>(nomatch h),λ_=>rfl⟩
 |cons a as ih=>
  induction a with
  |k i=>exact ih
  |r m=>show(!ks.contains (m:Int)&&gV ks as)=ε↔∀r∈m::FM as,_;rw[aS,ih,tN,FL,←Bool.not_eq_true,ak]
theorem mO.step{ts:List v6}{A Wf:List Int}{fnd w xs:List v6}{ks:List Int}{t:v6}(h:mO ts A Wf fnd (w++t::xs) ks)(hs:d7 ks t=ε):x0 t∈ks/\mO ts A Wf (fnd++[t]) (w++xs) (cw (x0 t) ks):=by
 have hm:∀u,u∈(fnd++[t])++(w++xs)↔u∈fnd++(w++t::xs):=λu=>by
  simp only[aw,ab,t9,or_false];constructor
  ·rintro((a|a)|a|a)
   ·exact .inl a
   ·exact .inr (.inr (.inl a))
   ·exact .inr (.inl a)
   ·exact .inr (.inr (.inr a))
  ·rintro(a|a|a|a)
   ·exact .inl (.inl a)
   ·exact .inr (.inl a)
   ·exact .inl (.inr a)
   ·exact .inr (.inr a)
 have hp:((fnd++[t])++(w++xs)).Perm (fnd++(w++t::xs)):=by exists bF ..,xy _ (FW (l₁:=w)).symm
 have T_:=(hp.map x0).nodup_iff.mpr h.nd;have hk:¬x0 t∈fnd.map x0:=λm=>by rw[aj,aj]at T_;exact(cL.mp (cL.mp T_).1).2.2 _ m _ (.head _) TK
 have ht:=h.sub t (aI _ (aI _ (.head _)));refine⟨(h.key _).mpr ⟨ht.2.1,hk⟩,λu hu=>h.sub u ((hm u).mp hu),T_,AW.nodup h.knd,λx=>?_,λu hu hA=>(hm u).mpr (h.all u hu hA),λpre u post e r hr YU=>?_⟩
 ·rw[Nc h.knd,h.key,aj,aw,not_or,and_assoc];exact and_congr_right λ_=>and_congr_right λ_=>⟨λn m=>n (Θ.mp m),λn e=>n (Θ.mpr e)⟩
 ·rcases xG post with rfl|⟨p',z,rfl⟩
  ·refine on (F8 e TK) λe1 e2=>?_;cases e2;refine io e1 ?_;have:=AX.mp hs r hr;rw[h.key]at this;exact tD λn=>this ⟨YU,n⟩
  ·rw[xH,←uc,←bF]at e;refine on (F8 e TK) λe1 e2=>?_;exact h.ord pre u p' e1 r hr YU
theorem BS(l:List v6)(t:v6):KK (l++[t])= .list (l.map eT++[eT t]):=by unfold KK;exists aj;rfl
noncomputable def wV(n:Nat)(o:Option CV):Bool:=match o with|some v=>v.hasNot n|.none=>ε
theorem jo(h:∀v,o=γ v->v.solid=ε):wV n o=ε:=by
 induction o with
 |none=>rfl
 |some v=>exact Ad n v (h v TK)
theorem oo(l:List v6):(KK l).hasNot n=ε:=hY (KM ik l)
structure Lo(ts:List v6) (A Wf:List Int) (fnd left:List v6) (ks:List Int) (vs:List CV):Prop where
 led:mO ts A Wf fnd left ks
 kl:δ ks<=1000
 sol:Go vs=ε
def Sd(o:Option CV):Prop:=∀v,o=γ v->v.solid=ε
noncomputable def mP(ts:List v6)(A:List Int)(left:List v6)(nw:Bool)(o1 o2:Option CV):L:=[(95,γ (KK ts)),(97,γ (.ref 0)),(77,γ (.set A)),(62,γ (.ref 1)),(101,γ (KK left)),(100,γ (.bool nw)),(76,o1),(87,o2)]
noncomputable def DD:Ss:=.cons (.ife (.call 98 (.cons (.sub (.l 87) (.i (.int 2))) (.cons (.l 97) .nil))) (.cons (.ex (.me .append (.l 62) (.l 87)))
 (.cons (.del (.l 97) (.attr (.sub (.l 87) (.i (.int 2))) 31))
 .nil)) (.cons (.ex (.me .append (.l 76) (.l 87)))
 .nil))
 .nil
theorem QX(hk:δ ks<=1000)(hv:Go vs=ε)(hf:δ fnd<=1000)(hw:δ w<=1000)(hm:d7 ks t=ε->x0 t∈ks)
  (k1:d7 ks t=ε->K (mP ts A left ε (γ (.ref 2)) (γ (eT t))) [γ (.dict (cw (x0 t) ks) (eL (x0 t) ks vs)),γ (KK (fnd++[t])),γ (KK w)]) (k2:d7 ks t=ζ->K (mP ts A left ε (γ (.ref 2)) (γ (eT t))) [γ (.dict ks vs),γ (KK fnd),γ (KK (w++[t]))]):
  wT (Ph (n+1)) (.name 87) (eT t) (mP ts A left ε (γ (.ref 2)) o) [γ (.dict ks vs),γ (KK fnd),γ (KK w)] λl c=>fn (Ph (n+1)) DD fl l c K C R:=by
 refine ξ (an TK) (zt (r:=t.2.2) (ks:=ks) (vs:=vs) (tb (by rfl) (by rfl)) (lQ hv) (Ev (b:=d7 ks t) (λh=>?_) λh=>?_))
 ·have:=k1 h;rw[BS]at this;exact gY (by exists φ ..,hf) (an TK) ⟨ak.mpr (hm h),hk⟩ this
 ·have:=k2 h;rw[BS]at this;exact ξ (by exists φ ..,hw) this
theorem lS:δ (l++[a])=δ l+1:=Δ
theorem O9(hs:∀c,sm c)(xs:List v6):∀(fnd w:List v6) (ks:List Int) (vs:List CV) (o:Option CV),Lo ts A Wf fnd (w++xs) ks vs->δ fnd+(δ w+δ xs)<=400->f0<=δ fnd->(δ fnd=f0->∀t∈w,d7 ks t=ζ)->Sd o->
  (∀UM w' Ve vs' o',Lo ts A Wf UM w' Ve vs'->δ UM+δ w'=δ fnd+(δ w+δ xs)->f0<=δ UM->(δ UM=f0->∀t∈w',d7 Ve t=ζ)->Sd o'->N (mP ts A left ε (γ (.ref 2)) o') [γ (.dict Ve vs'),γ (KK UM),γ (KK w')])->
  ZB sm (λx l c K=>wT (Ph (n+1)) (.name 87) x l c λl c=>fn (Ph (n+1)) DD fl l c K K R) (xs.map eT) (mP ts A left ε (γ (.ref 2)) o) [γ (.dict ks vs),γ (KK fnd),γ (KK w)] N:=by
 induction xs with
 |nil=>exact λfnd w ks vs o I _ h1 h2 h3 k=>k fnd w ks vs o (by rw[aL]at I;exact I) TK h1 h2 h3
 |cons t xs ih=>
  intro fnd w ks vs o I hl h1 h2 h3 k;have hst:Sd (γ (eT t)):=λv e=>by replace e:=ω e;subst e;exact ik t
  have hlen:δ fnd+(δ w+(δ xs+1))<=400:=hl;refine QX I.kl I.sol (κ (ao _ _) (κ ‹_› (by decide))) (by exact κ (κ (κ (ao _ _) (eZ _ _)) hlen) (by decide)) (λh=>(I.led.step h).1) (λh=>⟨hs _,ih _ _ _ _ _ ⟨(I.led.step h).2,κ AW.length_le I.kl,IB I.sol⟩ ?_ ?_ ?_ hst λf' w' Ve vs' o' J j1=>k f' w' Ve vs' o' J (j1.trans ?_)⟩) λh=>⟨hs _,ih _ _ _ _ _ ⟨by refine io (dr ..) ?_;exact I.led,I.kl,I.sol⟩ ?_ h1 ?_ hst λf' w' Ve vs' o' J j1=>k f' w' Ve vs' o' J (j1.trans ?_)⟩
  ·exists lS;lia
  ·exists lS,eY h1
  ·exists lS,λe=>absurd h1 (by exact e▸Nat.not_succ_le_self _)
  ·rw[lS,cV];rfl
  ·exists lS,κ (a5 (TL (δ fnd+·) (cV (δ w) 1 _))) hlen
  ·exact λe u hu=>(aw.mp hu).elim (h2 e u) λhu=>by cases Θ.mp hu;exact h
  ·rw[lS,cV (δ w) 1];rfl
theorem K2(hl:δ ts<=400)(hk:δ ks<=1000)(hv:Go vs=ε)(L0:mO ts A ks [] (ts.filter λt=> !A.contains (x0 t)) ks)
  (q:∀fnd left Ve vs',mO ts A ks fnd left Ve->(∀t∈left,d7 Ve t=ζ)->Q (KK fnd) [γ (.dict Ve vs')]):Ph (n+2) 102 [KK ts,.ref 0,.set A] [γ (.dict ks vs)] Q:=by
 refine fm TK (ξ TK (FS [0] TK ?_:EQ _ _));refine dY (σ:=Option CV) (λs=>[(77,γ (.set A)),(87,s)]) [γ (.dict ks vs),γ (.list [])] (λt=> !A.contains (x0 t)) eT (λ_=>True) (λt s r K _ hr k1 k2=>ξ (an TK) (Ev (λh=>ξ hr (k1 h _)) λh=>k2 h _)) TQ ts [] η (λ_ _=>trivial) (by rw[cC,az];exact κ hl (by decide)) λs=>?_;have YV:δ (ts.filter λt=> !A.contains (x0 t))<=400:=κ (fP _ _) hl;refine tq (σ:=(List v6×List v6×List Int×List CV)×Bool×Option CV×Option CV) (λs=>mP ts A s.1.2.1 s.2.1 s.2.2.1 s.2.2.2)
  (λs=>[γ (.dict s.1.2.2.1 s.1.2.2.2),γ (KK s.1.1)]) (λs=>Lo ts A ks s.1.1 s.1.2.1 s.1.2.2.1 s.1.2.2.2/\δ s.1.1+δ s.1.2.1<=400/\(Sd s.2.2.1/\Sd s.2.2.2)/\(s.2.1=ζ->∀t∈s.1.2.1,d7 s.1.2.2.1 t=ζ)) (λs=>2*δ s.1.2.1+s.2.1.toNat) (λs K hi k=>?_) (([],ts.filter λt=> !A.contains (x0 t),ks,vs),ε,η,η) ⟨⟨L0,hk,hv⟩,?_,⟨λv h=>(nomatch h),λv h=>(nomatch h)⟩,λh=>(nomatch h)⟩ ?_
 ·obtain⟨⟨fnd,left,Ve,vs'⟩,nw,o1,o2⟩:=s;obtain⟨I,i1,⟨i4,i5⟩,i6⟩:=hi;replace I:Lo ts A ks fnd left Ve vs':=I;replace i1:δ fnd+δ left<=400:=i1;induction nw with
  |false=>
   refine⟨⟨an TK,rfl,KM ik fnd,?_,?_⟩,q fnd left Ve vs' I.led (i6 TK)⟩
   ·exact dl (oo _) (dl TK (dl TK (dl TK (dl (oo _) (dl TK (dl (jo i4) (dl (jo i5) TK)))))))
   ·exact dl (hY I.sol) TK
  |true=>
   refine(FS [0] TK ?_:EQ _ _);refine O9 (f0:=δ fnd) (λ_=>trivial) left fnd [] Ve vs' o2 I (by rw[cC,az];exact i1) (aJ _) (λ_ t h=>(nomatch h)) i5 λf2 w T5 T8 o2 J j1 j2 j3 j4=>?_;rw[cC,az]at j1;have hwl:δ w<=400:=κ (eZ _ _) (κ (a5 j1) i1);have Yl:δ left<=400:=κ (eZ _ _) i1;refine gY (by exists φ ..,κ hwl (by decide)) (by exists φ ..,κ Yl (by decide)) ⟨an TK,rfl,KM ik w,?_,?_⟩ (k ((f2,w,T5,T8),decide ((δ (w.map eT):Int)<(δ (left.map eT):Int)),γ (KK w),o2) ⟨J,κ (a5 j1) i1,⟨λv e=>by replace e:=ω e;subst e;exact KM ik w,j4⟩,λe=>j3 ?_⟩ ?_)
   ·exact dl (oo _) (dl TK (dl TK (dl TK (dl (oo _) (dl TK (dl TK (dl (jo j4) TK)))))))
   ·exact dl (hY J.sol) (dl (oo _) TK)
   ·have e:=of_decide_eq_false e;rw[φ,φ]at e;clear k q i6 j3;exact Gr (Nat.le_of_add_le_add_right (κ (a5 j1) (dq (d_.mp (hZ.mp e)) _))) j2
   ·show 2*δ w+(decide _).toNat<2*δ left+1;by_cases z:(δ (w.map eT):Int)<(δ (left.map eT):Int)
    ·exists TR z;rw[φ,φ]at z;show 2*δ w+1<_;clear k q i6 j3;lia
    ·exists TS z;show 2*δ w+0<_;clear k q i6 j3;lia
 ·show 0+δ (ts.filter λt=> !A.contains (x0 t))<=400;exists az ..,YV
 ·show 2*δ (ts.filter λt=> !A.contains (x0 t))+1<1000;exact aR (bZ (d8 2 YV)) (by decide)
section
theorem vm(e:Id):e.succ.length<=4:=by induction e<;>exact an rfl
theorem u7{a b:List Nat}:sB (a++b)= .list ((a.map λ(i:Nat)=>CV.int i)++b.map λ(i:Nat)=>CV.int i):=TL CV.list aj
theorem K3{L:List Nat}{w:Nat}:((L++[w]).map λ(i:Nat)=>CV.int i).dropLast=L.map λ(i:Nat)=>CV.int i:=by exists aj,EW
theorem K4{L:List Nat}{w:Nat}:((L++[w]).map λ(i:Nat)=>CV.int i).getLast? =γ (.int w):=by exists aj,EX
theorem zy{l:List Int}{x:Int}(h:l.contains x=ζ):¬x∈l:=λm=>by rw[ak.mpr m]at h;cases h
theorem Nd{k:Int}{ks:List Int}(h:ks.contains k=ζ):wv k ks=ks++[k]:=by unfold wv;exists h,TK
variable {P:List bn}{b d w:Nat}{W nx:List Nat}{ks:List Int}
theorem AY{x:Nat}(h:x∈W++[w]):x∈W\/x=w:=(aw.mp h).imp id Θ.mp
theorem Lv.skip(I:Lv P b d (W++[w]) ks)(hk:(w:Int)∈ks):Lv P b d W ks:=
 have k:∀x,x∈W++[w]->x∈W\/(x:Int)∈ks:=λx h=>(AY h).imp id λ(e:x=w)=>(by exists e,hk)
 ⟨λx hx=>I.w x (b_ _ hx),I.k,I.nd,I.st.elim (k b) .inr,λm hm=>(KT (I.cl m hm) λq q1 q2 q3=>⟨q,q1,q2,q3.imp id λh t ht=>(h t ht).elim (k t) .inr⟩)⟩
theorem Lv.visit{rs:List bv}{en:Id}(I:Lv P b d (W++[w]) ks)(hg:P[w]? =γ (rs,en))(hS:∀b∈P,∀t∈b.2.succ,t<δ P)(hu:¬a7 d rs (d∈FM en.args))(hn:nx=en.succ\/nx=[])(hx:(∃r∈rs,r.dst=d)\/nx=en.succ):Lv P b d (W++nx) (wv (w:Int) ks):=
 have k:∀x,x∈W++[w]->x∈W++nx\/(x:Int)∈wv (w:Int) ks:=λx h=>(AY h).imp (b_ _) λ(e:x=w)=>fX.mpr (.inl (TL _ e));have hw:w<δ P:=I.w w (aI _ (.head _))
 ⟨λx hx=>(aw.mp hx).elim (λh=>I.w x (b_ _ h)) λh=>hn.elim (λ(e:nx=en.succ)=>hS _ (av hg) x (by refine io e ?_;exact h)) λe=>(by rw[e]at h;cases h),
  λx hx=>(fX.mp hx).elim (λ(e:x=(w:Int))=>by exists e;exact⟨aE _,aX.mpr hw⟩) (I.k x),uK I.nd,I.st.elim (k b) λh=>.inr (fX.mpr (.inr h)),λm hm=>(fX.mp hm).elim (λe=>(by cases aW e;exact⟨_,hg,hu,hx.imp id λ(e:nx=en.succ) t ht=>.inl (aI _ (by exists e,ht))⟩)) λhm=>(KT (I.cl m hm) λq q1 q2 q3=>⟨q,q1,q2,q3.imp id λh t ht=>(h t ht).elim (k t) λh=>.inr (fX.mpr (.inr h))⟩)⟩
noncomputable def iV(P:List bn)(W:List Nat)(ks:List Int):Nat:=δ W+5*(δ P - δ ks)
theorem AZ:iV P W ks<iV P (W++[w]) ks:=by unfold iV;exists Δ,pD (cY _) _
theorem Ae{en:Id}(I:Lv P b d (W++[w]) ks)(hk:ks.contains (w:Int)=ζ)(hn:nx=en.succ\/nx=[]):iV P (W++nx) (wv (w:Int) ks)<iV P (W++[w]) ks:=by
 have hw:w<δ P:=I.w w (aI _ (.head _));have h:=qH (δ P) (wv (w:Int) ks) (uK I.nd) λx hx=>(fX.mp hx).elim (λ(e:x=(w:Int))=>by exists e;exact⟨aE _,aX.mpr hw⟩) (I.k x);have hl:δ nx<=4:=hn.elim (λe=>by exists e,vm en) λe=>by exists e,cN _
 unfold iV;rw[Nd hk,Δ]at h ⊢;exists Δ;exists Δ;clear I hn hk;generalize(δ W)=x at*;generalize(δ nx)=y at*;generalize(δ ks)=z at*;generalize(δ P)=u at*;replace h:z+1<=u:=h;refine(?_:x+y+5*(u - (z+1))<x+1+5*(u - z));rw[show u - z=(u - (z+1))+1 from(xn (tY h)).symm,bP,bP];exact kR (aR (dM hl _) (by rw[Nat.mul_succ,b4 4,b4 1];exact kX (cY _))) x
noncomputable def gZ(P:List bn)(a d:Nat)(o1 o2 o3 o4 o5 o6 o7 o8:Option CV):L:=[(129,γ (wn P)),(75,γ (.int a)),(130,γ (.int d)),(76,γ (.ref 0)),(154,γ (.ref 1)),(36,o1),(95,o2),(34,o3),(153,o4),(32,o5),(31,o6),(30,o7),(29,o8)]
noncomputable def wW:Ss:=.cons (.ife (.and (.not (.l 153)) (.cons (.cmp .isin (.tup (.cons (.i (.str 71)) (.cons (.l 130) .nil))) (.l 30)) .nil)) (.cons (.ret (.i (.bool ε)))
 .nil) .nil)
 (.cons (.g (.name 153) (.or (.l 153) (.cons (.cmp .eq (.l 31) (.l 130)) .nil)))
 .nil)
theorem QY{Φ:Nat->Fn}{fl:Nat}{P:List bn}{a d:Nat}{o1 o2 o3 o5 o6 o7 o8:Option CV}{c:ad}{K C:L->ad->Prop}{R:CV->ad->Prop}{r:bv}{b:Bool}(q:b=ζ->d∈FM r.args->R (.bool ε) c)(k:(b=ζ->¬d∈FM r.args)->∀o5 o6 o7 o8,K (gZ P a d o1 o2 o3 (γ (.bool (b || r.dst==(d:Int)))) o5 o6 o7 o8) c):
  wT Φ (.tup (.cons (.name 32) (.cons (.name 31) (.cons (.name 30) (.cons (.name 29) .nil))))) (sK r) (gZ P a d o1 o2 o3 (γ (.bool b)) o5 o6 o7 o8) c λl c=>fn Φ wW fl l c K C R:=by
 induction b with
 |true=>exact k (λh=>nomatch h) _ _ _ _
 |false=>exact wl (an TK) (o:=bM (.tup [.str 71,.int d]) (r.args.map bX)) AS (Ev (b:=decide (d∈FM r.args)) (λh=>q TK (TN h)) λh=>k (λ_=>of_decide_eq_false h) _ _ _ _)
theorem O_{Φ:Nat->Fn}{fl:Nat}{P:List bn}{a d:Nat}{o1 o2 o3:Option CV}{c:ad}{N:L->ad->Prop}{R:CV->ad->Prop}{sm:ad->Prop}(hs:sm c)(q:R (.bool ε) c)(rs:List bv):∀(b:Bool) (o5 o6 o7 o8:Option CV),
  (∀b' o5 o6 o7 o8,(b=ζ->¬a7 d rs False)->(b'=ε↔b=ε\/∃r∈rs,r.dst=d)->N (gZ P a d o1 o2 o3 (γ (.bool b')) o5 o6 o7 o8) c)->
  ZB sm (λx l c K=>wT Φ (.tup (.cons (.name 32) (.cons (.name 31) (.cons (.name 30) (.cons (.name 29) .nil))))) x l c λl c=>fn Φ wW fl l c K K R) (rs.map sK) (gZ P a d o1 o2 o3 (γ (.bool b)) o5 o6 o7 o8) c N:=by
 induction rs with
 |nil=>exact λb _ _ _ _ k=>k b _ _ _ _ (λ_ h=>h) ⟨.inl,λh=>h.resolve_right λz0=>f4 z0 λ_ h _=>nomatch h⟩
 |cons r rs ih=>
  refine λb _ _ _ _ k=>QY (λ_ _=>q) λh o5 o6 o7 o8=>⟨hs,ih _ o5 o6 o7 o8 λb' o5 o6 o7 o8 h1 h2=>k b' o5 o6 o7 o8 (λe u=>?_) (h2.trans ?_)⟩
  ·exact u.elim (h e) λz0=>on z0 λu1 u2=>h1 (by rw[e,p9];exact TO.mpr u1) u2
  ·rw[pU,beq_iff_eq,or_assoc];exact or_congr_right ⟨λh=>h.elim (λe=>⟨r,.head _,e⟩) λz0=>f4 z0 λz hz e=>⟨z,.tail _ hz,e⟩,λz0=>f4 z0 λz hz e=>(ab.mp hz).elim (λq=>.inl (q▸e)) λhz=>.inr ⟨z,hz,e⟩⟩
noncomputable def DE:Ss:=.cons (.ife (.and (.not (.l 153)) (.cons (.cmp .isin (.tup (.cons (.i (.str 71)) (.cons (.l 130) .nil))) (.sub (.l 34) (.i (.int 1)))) .nil)) (.cons (.ret (.i (.bool ε)))
 .nil) .nil)
 (.cons (.ex (.me .extend (.l 76) (.ite (.l 153) (.list ζ .nil) (.call 138 (.cons (.l 34) .nil)))))
 .nil)
theorem QZ{n fl:Nat}{P:List bn}{a d:Nat}{o1 o2 o5 o6 o7 o8:Option CV}{W:List Nat}{v:CV}{K C:L->ad->Prop}{R:CV->ad->Prop}{en:Id}{b:Bool}(hW:δ W<=990)(q:∀c,R (.bool ε) c)(k:∀nx,(b=ζ->nx=en.succ/\¬d∈FM en.args)->(b=ε->nx=[])->K (gZ P a d o1 o2 (γ (dg en)) (γ (.bool b)) o5 o6 o7 o8) [γ (sB (W++nx)),γ v]):
  fn (Ph (n+1)) DE fl (gZ P a d o1 o2 (γ (dg en)) (γ (.bool b)) o5 o6 o7 o8) [γ (.list (W.map λ(i:Nat)=>CV.int i)),γ v] K C R:=by
 induction b with
 |true=>have:=k [] (λh=>nomatch h) λ_=>rfl;rw[u7]at this;exact KF (an TK) (by rw[Δ,φ];exact κ hW (by decide)) this
 |false=>refine jI (an TK) (an TK) (o:=bM (.tup [.str 71,.int d]) (en.args.map bX)) AS (Ev (b:=decide (d∈FM en.args)) (λh=>q _) λh=>?_);have:=k en.succ (λ_=>⟨rfl,of_decide_eq_false h⟩) λh=>nomatch h;rw[u7]at this;refine qW (e:=en) (by rfl) (ξ ?_ this);rw[Δ,φ,φ];exact κ (g9 hW (vm en)) (by decide)
noncomputable def Tg:Ss:=(.cons (.g (.name 36) (.pop (.l 76)))
 (.cons (.ife (.cmp .isin (.l 36) (.l 154)) (.cons .cont
 .nil) .nil)
 (.cons (.g (.sub (.l 154) (.l 36)) (.i (.bool ε)))
 (.cons (.g (.tup (.cons (.name 95) (.cons (.name 34) .nil))) (.sub (.l 129) (.l 36)))
 (.cons (.g (.name 153) (.i (.bool ζ)))
 (.cons (.for (.tup (.cons (.name 32) (.cons (.name 31) (.cons (.name 30) (.cons (.name 29) .nil))))) ζ (.l 95) wW)
 DE))))))
theorem Pb{n fl:Nat}{P:List bn}{a d w:Nat}{o1 o2 o3 o4 o5 o6 o7 o8:Option CV}{W:List Nat}{ks:List Int}{vs:List CV}{K:L->ad->Prop}{R:CV->ad->Prop}{rs:List bv}{en:Id}(hP:δ P<=100)(hg:P[w]? =γ (rs,en))(hk:δ ks<=100)(hW:δ W<=990)(q:∀c,R (.bool ε) c)
  (k1:(w:Int)∈ks->∀o1 o2 o3 o4 o5 o6 o7 o8,K (gZ P a d o1 o2 o3 o4 o5 o6 o7 o8) [γ (sB W),γ (.dict ks vs)])
  (k2:ks.contains (w:Int)=ζ->¬a7 d rs (d∈FM en.args)->∀nx,(nx=en.succ\/nx=[])->((∃r∈rs,r.dst=d)\/nx=en.succ)->∀o1 o2 o3 o4 o5 o6 o7 o8,K (gZ P a d o1 o2 o3 o4 o5 o6 o7 o8) [γ (sB (W++nx)),γ (.dict (wv (w:Int) ks) (IO (w:Int) (.bool ε) ks vs))]):
  fn (Ph (n+1)) Tg fl (gZ P a d o1 o2 o3 o4 o5 o6 o7 o8) [γ (sB (W++[w])),γ (.dict ks vs)] K K R:=by
 have hlen:δ ((W++[w]).map λ(i:Nat)=>CV.int i)<=1000:=by exists φ ..;exists Δ ..,κ (bZ hW) (by decide)
 have Vs:s0 (P.map un) (w:Int)=γ (un (rs,en)):=by refine(?_:(P.map un)[w]? =_);exists aA;exists hg;rfl
 refine wl hlen K4 ?_;exists K3;refine Ev (b:=ks.contains (w:Int)) (λh=>k1 (ak.mp h) _ _ _ _ _ _ _ _) λh=>?_;refine jI (κ hk (by decide)) (by exists φ ..,κ hP (by decide)) (o:=s0 (P.map un) (w:Int)) Vs ?_;refine O_ (P:=P) (a:=a) (d:=d) TQ (q _) rs ζ o5 o6 o7 o8 λb' o5 o6 o7 o8 h1 h2=>?_;refine QZ hW q λnx e1 e2=>k2 h (λu=>(qE.mp u).elim (h1 TK) λz0=>on z0 λu1 u2=>?_) nx ?_ ?_ _ _ _ _ _ _ _ _
 ·induction b' with
  |true=>refine f4 ((h2.mp TK).resolve_left λh=>nomatch h) λr hr e=>?_;exact u1 r hr e
  |false=>exact(e1 TK).2 u2
 ·induction b' with
  |true=>exact .inr (e2 TK)
  |false=>exact .inl (e1 TK).1
 ·induction b' with
  |true=>exact .inl ((h2.mp TK).resolve_left λh=>nomatch h)
  |false=>exact .inr (e1 TK).1
theorem K5{n:Nat}{args:List CV}{c:ad}{Q:CV->ad->Prop}{P:List bn}{a d:Nat}(hP:δ P<=100)(hS:∀b∈P,∀t∈b.2.succ,t<δ P)(ha:a<δ P)(e:args.map (ul c 8)=[wn P,.int a,.int d])
  (q:∀b,(b=ζ->mH P a d)->Q (.bool b) c):Ph (n+2) 155 args c Q:=by
 refine TT TK TK e (dl (y9 P) TK) (gY TK (an TK) (an TK) ?_);refine tq (σ:=(List Nat×List Int×List CV)×Option CV×Option CV×Option CV×Option CV×Option CV×Option CV×Option CV×Option CV)
  (λs=>gZ P a d s.2.1 s.2.2.1 s.2.2.2.1 s.2.2.2.2.1 s.2.2.2.2.2.1 s.2.2.2.2.2.2.1 s.2.2.2.2.2.2.2.1 s.2.2.2.2.2.2.2.2) (λs=>[γ (sB s.1.1),γ (.dict s.1.2.1 s.1.2.2)]) (λs=>Lv P a d s.1.1 s.1.2.1/\iV P s.1.1 s.1.2.1<=501) (λs=>iV P s.1.1 s.1.2.1) (λs K hi k=>?_)
  (([a],[],[]),η,η,η,η,η,η,η,η) ⟨⟨λx hx=>by cases Θ.mp hx;exact ha,λx h=>(nomatch h),ui,.inl (.head _),λm h=>(nomatch h)⟩,?_⟩ ?_
 ·obtain⟨⟨W,ks,vs⟩,os⟩:=s;obtain⟨I,hm⟩:=hi;replace I:Lv P a d W ks:=I;replace hm:iV P W ks<=501:=hm;refine wl (an TK) (QU (c:=[γ (sB W),γ (.dict ks vs)]) (n:=0) TK) ?_;rcases xG W with rfl|⟨V,w,hW⟩
  ·exact ret TK (q _ λ_=>⟨λm=>(m:Int)∈ks,I.st.resolve_left (λh=>nomatch h),λm hm=>(KT (I.cl m hm) λb h1 h2 h3=>⟨b,h1,h2,h3.imp id λh t ht=>(h t ht).resolve_left (λh=>nomatch h)⟩)⟩)
  ·rw[xH]at hW;subst hW;have hg:=ag (I.w w (aI _ (.head _)));generalize P[w]'(I.w w (aI _ (.head _)))=kb at hg;refine bC (by exists aj;induction V<;>rfl) (Pb (n:=n) (rs:=kb.1) (en:=kb.2) hP hg (κ I.len hP) ?_ (λc=>ret TK (q ε λh=>nomatch h)) (λhk o1 o2 o3 o4 o5 o6 o7 o8=>k ((V,ks,vs),o1,o2,o3,o4,o5,o6,o7,o8) ⟨I.skip hk,κ (gr AZ) hm⟩ AZ)
    λhk hu nx hn hx o1 o2 o3 o4 o5 o6 o7 o8=>k ((V++nx,_,_),o1,o2,o3,o4,o5,o6,o7,o8) ⟨I.visit hg hS hu hn hx,κ (gr (Ae I hk hn)) hm⟩ (Ae I hk hn))
   have:=κ (ao _ _) hm;rw[Δ]at this;exact κ (x8 this) (by decide)
 ·refine(?_:1+5*(δ P - 0)<=501);exact g9 (aJ 1) (d8 5 hP)
 ·refine(?_:1+5*(δ P - 0)<1000);exact aR (g9 (aJ 1) (d8 5 hP)) (by decide)
end
structure sj(P:List bn) (li:List (List Int)):Prop where
 len:δ li=δ P
 w:∀s∈li,Ch s
 up:∀(b:Nat) (k:bn) (s:List Int),P[b]? =γ k->li[b]? =γ s->∀d:Nat,(a7 d k.1 (d∈FM k.2.args)\/((∀r∈k.1,r.dst≠d)/\∃t∈k.2.succ,∃s',li[t]? =γ s'/\(d:Int)∈s'))->(d:Int)∈s
 lo:∀(b d:Nat) (s:List Int),mH P b d->li[b]? =γ s->¬(d:Int)∈s
noncomputable def R7(li:List (List Int)):CV:=.list (li.map .set)
def wb(P:List bn):Prop:=∀(n:Nat) (args:List CV) (c:ad) (Q:CV->ad->Prop),args.map (ul c 8)=[Sc P]->(∀li lo,lo.solid=ε->sj P li->Q (.tup [R7 li,lo]) c)->Ph (n+3) 84 args c Q
structure cB(P:List bn) (h:Nat) (ts fnd:List v6):Prop where
 sub:∀t∈fnd,t∈ts/\fo (St ts) t.2.2=ε
 nd:(fnd.map x0).Nodup
 nl:fnd=[]\/∃li s,sj P li/\li[h]? =γ s/\∀t∈fnd,¬x0 t∈s
 ord:∀pre t post,fnd=pre++t::post->∀r∈FM t.2.2.args,(r:Int)∈St ts->(r:Int)∈pre.map x0
 max:∀t∈ts,fo (St ts) t.2.2=ε->(∀d:Nat,x0 t=d->mH P h d)->t∈fnd\/∃r∈FM t.2.2.args,(r:Int)∈St ts/\¬(r:Int)∈fnd.map x0
theorem R8{α:Type}{f:α->Bool}:∀{l:List α},nR (l.map λx=>CV.bool (f x))=γ (l.map f):=by
 intro l;induction l with
 |nil=>rfl
 |cons a l ih=>show(nR (l.map λx=>CV.bool (f x))).map (f a::·)=_;exists ih;rfl
theorem Af{ks:List Int}{t:v6}(h:d7 ks t=ζ):∃r∈FM t.2.2.args,(r:Int)∈ks:=
 tD λn=>by have:d7 ks t=ε:=AX.mpr λr hr hk=>n ⟨r,hr,hk⟩;rw[h]at this;exact Db this
theorem Pd{n:Nat}{args:List CV}{c:ad}{Q:CV->ad->Prop}{P:List bn}{ts:List v6}{h:Nat}{bs tl:List Nat}(hL:wb P)(hh:h<δ P)(hP:δ P<=1000)(hl:δ ts<=400)(hsd:∀t∈ts,∀u∈ts,fo (St ts) t.2.2=ε->x0 t=x0 u->t=u)(hn:ts.Nodup)
  (e:args.map (ul c 8)=[Sc P,cR h bs tl,KK ts]) (q:∀fnd,cB P h ts fnd->Q (KK fnd) c):Ph (n+4) 104 args c Q:=by
 refine TT TK TK e (dl (fU P) (dl (z_ _ _ _) (dl (bq rD ts) TK))) (ξ TK ?_);refine M1 (ts:=ts) (by rfl) (κ hl (by decide)) λks vs D=>?_;refine KR (ts:=ts) D (tb (by rfl) (by rfl)) (κ hl (by decide)) ?_;generalize hS:ts.filter (λt=>fo (St ts) t.2.2)=S;have ZT:δ S<=400:=by refine io hS ?_;exact κ (fP _ _) hl
 have Xu:∀t,t∈S↔t∈ts/\fo (St ts) t.2.2=ε:=λt=>by rw[←hS,b3]
 refine jD (σ:=Option CV) (λs=>[(97,γ (.ref 0)),(87,s)]) [γ (.dict ks vs)] (λt=>[.bool (d7 ks t)]) (λ_=>True) (λt s r K _ hr k=>ξ (an TK) (zt (r:=t.2.2) (ks:=ks) (vs:=vs) (tb (by rfl) (by rfl)) (lQ D.sol) (ξ (by rw[Δ]at hr;exact κ (ao _ _) hr) (k _)))) TQ S [] η (λ_ _=>trivial) (by rw[On,aB,φ];exact κ ZT (by decide)) λs=>?_;rw[On,aB];refine wl (by rw[φ];exact κ ZT (by decide)) R8 (Ev (λz=>?_) λz=>?_)
 ·have hf:∀t∈S,d7 ks t=ζ:=λt ht=>by have z':(S.map λt=>d7 ks t).any id=ζ:=TI z;exact Bool.eq_false_iff.mpr (List.any_eq_false.mp z' _ (i7 ht))
  refine(FS [0] TK (ret TK (q [] ⟨λ_ h=>(nomatch h),.nil,.inl TK,λpre t post e=>(by induction pre<;>cases e),λt ht hs hd=>.inr ?_⟩)):EQ _ _);refine f4 (Af (hf t ((Xu t).mpr ⟨ht,hs⟩))) λr h1 h2=>?_;exact⟨r,h1,((D.mem _).mp h2).2,λh=>nomatch h⟩
 ·refine hL n _ _ _ (by rfl) λli lo hlo L=>?_;obtain⟨s,hs⟩:∃s,li[h]? =γ s:=⟨_,ag (by rw[L.len];exact hh)⟩;have hat:s0 (li.map CV.set) (h:Int)=γ (.set s):=by show(li.map CV.set)[h]? =_;rw[aA,hs];rfl
  have hdk:∀t∈S,x0 t∈ks:=λt ht=>by refine on ((Xu t).mp ht) λh1 h2=>?_;exact(D.mem _).mpr ⟨TN (jp h2).1,i7 h1⟩
  refine wl (by rw[φ,L.len];exact hP) (o:=s0 (li.map CV.set) (h:Int)) hat (K2 (n:=n+1) (ts:=S) (A:=s) ZT (κ D.bound (by rw[St,φ];exact κ hl (by decide))) D.sol ?_ λfnd left Ve vs' I hu=>ret (KM ik fnd) (q fnd ?_))
  ·refine⟨λt ht=>?_,?_,D.nd,λx=>⟨λm=>⟨m,λh=>nomatch h⟩,λm=>m.1⟩,λt ht hA=>?_,λpre t post e=>(by induction pre<;>cases e)⟩
   ·refine on (b3.mp ht) λh1 h2=>?_;exact⟨h1,hdk t h1,zy (TI h2)⟩
   ·refine tU.mpr (TA (R:=λa b=>a≠b) (λ{a b} ha hb UE hd=>?_) (by rw[aB,←hS];exact(hn.filter _).filter _));refine on ((Xu a).mp (b3.mp ha).1) λa1 a2=>?_;refine on ((Xu b).mp (b3.mp hb).1) λb1 _=>?_;exact UE (hsd a a1 b b1 a2 hd)
   ·refine b3.mpr ⟨ht,?_⟩;cases w:s.contains (x0 t)with
    |true=>exact absurd (ak.mp w) hA
    |false=>rfl
  ·refine⟨λt ht=>(Xu t).mp (I.sub t (b_ _ ht)).1,?_,.inr ⟨li,s,L,hs,λt ht=>(I.sub t (b_ _ ht)).2.2⟩,λpre t post e r hr hd=>I.ord pre t post e r hr ((D.mem _).mpr ⟨aE r,hd⟩),λt ht YW hd=>?_⟩
   ·have:=I.nd;rw[aj]at this;exact(cL.mp this).1
   ·have h0:0<=x0 t:=TN (jp YW).1;have hA:¬x0 t∈s:=(by have:=L.lo h (x0 t).toNat s (hd _ (i0 h0).symm) hs;rwa[i0 h0]at this);rcases aw.mp (I.all t ((Xu t).mpr ⟨ht,YW⟩) hA)with m|m
    ·exact .inl m
    ·refine f4 (Af (hu t m)) λr h1 h2=>?_;obtain⟨h3,h4⟩:=(I.key _).mp h2;exact .inr ⟨r,h1,((D.mem _).mp h3).2,h4⟩
theorem Pe{e:Id}{h h':kt}(hx:∀x∈FM e.args,at' h x=at' h' x):next e h=next e h':=by
 induction e with
 |jump t=>rfl
 |branch a x y=>show(match decide (at' h a=0)with|true=>y|false=>x)=(match decide (at' h' a=0)with|true=>y|false=>x);exists hx a (.head _),TK
 |table a x y z o=>show(match at' h a with|0=>x|1=>y|2=>z|_=>o)=(match at' h' a with|0=>x|1=>y|2=>z|_=>o);exists hx a (.head _),TK
 |give a=>rfl
theorem qZ{α:Type}{l:List α}{i:Nat}{a:α}(h:l[i]? =γ a):l=l.take i++a::l.drop (i+1):=by obtain⟨hl,e⟩:=ay.mp h;refine io e ?_;rw[←iX hl,xA]
theorem K6{P P2:List bn}{D Kp:Nat->Prop}{kept:bv->Bool}{hG:kt}{M:Nat->Prop}(hP:∀b∈P,mN b)(h2:∀b rs e,M b->P[b]? =γ (rs,e)->P2[b]? =γ (rs.filter kept,e))(hk:∀b,M b->∀r∈re P b,kept r=ε->∀x:Nat,Kp x->r.dst≠x)
  (hl:∀b,M b->∀r∈re P b,kept r=ζ->(∃d:Nat,r.dst=d/\Kp d/\at' hG d=worth r hG)/\(∀x∈FM r.args,Kp x)/\∀a,r≠.call a) (hbr:∀b rs e,M b->P[b]? =γ (rs,e)->(∀a,e≠.give a)->∀x∈FM e.args,¬D x)
  {b:Nat} {h:kt} {π:List Nat} {a:Nat} (p:IR P b h π a):(∀x∈π,M x)->∀{h':kt},v1 h->v1 h'->kB D (GE P π) (λx=>x=a) h h'->(∀x,Kp x->at' h' x=at' hG x)->
   IR P2 b h' π a/\bw (GE P π) h=bw (GE P2 π) h'/\at' (lm (GE P π) h) a=at' (lm (GE P2 π) h') a/\∀x∈Os P π h,kept x.2.2.1=ζ->x.2.2.2.2=worth x.2.2.1 hG:=by
 have inT:∀{b:Nat} {rs:List bv} {h:kt},(∀pre r post,rs=pre++r::post->kept r=ζ->worth r (lm pre h)=worth r hG)->∀x∈XV (GT b 0 rs) h,kept x.2.2.1=ζ->x.2.2.2.2=worth x.2.2.1 hG:=λk x hx hf=>by obtain⟨i,r,h1,rfl⟩:=rF hx;exact k _ r _ (qZ h1) hf
 induction p with
 |@done b h rs a e=>
  intro hM h' hh Vd A K;have hb:=hM b (.head _);have er:=SB e;have e2:=h2 b rs _ hb e;rw[Pi,er]at A;obtain⟨i1,i2,i3,i4⟩:=Cx (Kp:=Kp) (kept:=kept) (hG:=hG) (T:=rs) (λr hr=>kn hP (by exists er,hr)) (λr hr=>hk b hb r (by exists er,hr)) (λr hr=>hl b hb r (by exists er,hr)) hh Vd A K;refine⟨.done e2,?_,?_,λx hx hf=>?_⟩
  ·exists Pi;exists Pi;exists er;exists SB e2;exists gy;exists gy;exists i1;rfl
  ·exists Pi;exists Pi;exists er;exists SB e2;exists bT;exists bT,(i2 a).resolve_right λn=>n.2 TK
  ·rcases aw.mp hx with m|m
   ·rw[er]at m;exact inT i4 x m hf
   ·cases m
 |@step b h rs e π a eb he p ih=>
  intro hM h' hh Vd A K;have hb:=hM b (.head _);have er:=SB eb;have e2:=h2 b rs _ hb eb;rw[Pi,er]at A;have VM:∀r∈rs,GM r:=λr hr=>kn hP (by exists er,hr);have hkb:∀r∈rs,kept r=ε->∀x:Nat,Kp x->r.dst≠x:=λr hr=>hk b hb r (by exists er,hr);obtain⟨i1,i2,i3,i4⟩:=Cx (Kp:=Kp) (kept:=kept) (hG:=hG) (T:=rs) VM hkb (λr hr=>hl b hb r (by exists er,hr)) hh Vd A K;have hn:next e (lm rs h)=next e (lm (rs.filter kept) h'):=Pe λx hx=>(i2 x).resolve_right λn=>hbr b rs e hb eb he x hx n.1
  have K':∀x,Kp x->at' (lm (rs.filter kept) h') x=at' hG x:=λx hx=>by exists(lR Vd (λr hr=>VM r (b3.mp hr).1) λr hr=>hkb r (b3.mp hr).1 (b3.mp hr).2 x hx),K x hx
  obtain⟨j1,j2,j3,j4⟩:=ih (λx hx=>hM x (.tail _ hx)) (fh hh VM) i3 i2 K';refine⟨.step e2 he (by refine io hn ?_;exact j1),?_,?_,λx hx hf=>?_⟩
  ·exists Pi,ac Pi (ac er (ac (SB e2) (ac gy (ac gy (ac i1 (ac j2 TK))))))
  ·exists Pi;exists Pi;exists er;exists SB e2;exists bT;exists bT,j3
  ·rcases aw.mp hx with m|m
   ·rw[er]at m;exact inT i4 x m hf
   ·rw[er]at m;exact j4 x m hf
theorem A0{d:Nat}{T T':Prop}(k:T->T'){rs:List bv}:a7 d rs T->a7 d rs T':=by
 induction rs with
 |nil=>exact k
 |cons r rs ih=>exact Or.imp id λz0=>on z0 λx y=>⟨x,ih y⟩
theorem K7{P:List bn}{li:List (List Int)}(L:sj P li)(hP:∀b∈P,∀t∈b.2.succ,t<δ P){d b:Nat}{h:kt}{π:List Nat}{a:Nat}(p:IR P b h π a):∀s,li[b]? =γ s->a7 d (GE P π) (d=a)->(d:Int)∈s:=by
 induction p with
 |@done b h rs a e=>intro s hs u;rw[Pi,SB e]at u;have u:a7 d (rs++[]) (d=a):=u;rw[aL]at u;exact L.up b _ s e hs d (.inl (A0 (λq=>by exists q,.head _) u))
 |@step b h rs e π a eb he p ih=>
  intro s hs u;rw[Pi,SB eb,BN]at u;rcases qE.mp u with u|⟨u1,u2⟩
  ·exact L.up b _ s eb hs d (.inl (A0 aG u))
  ·have hm:=nE (h:=lm rs h) he;have T6:=hP _ (av eb) _ hm;have VX:=ag (l:=li) (i:=next e (lm rs h)) (by exists L.len,T6);exact L.up b _ s eb hs d (.inr ⟨u1,_,hm,_,VX,ih _ VX u2⟩)
theorem PI.next(h:PI P i (wr P i) LL):PI P (i+1) [] LL:=by refine⟨h.1,λt ht=>?_⟩;exists h.2 t ht;exists BQ;show _=γ (_++[]);exists aL ..,TK
theorem K8(hs:∀c,sm c)(hP:δ P<=900)(hS:∀b∈P,∀t∈b.2.succ,t<δ P)(rest:List bn):∀(i:Nat) (LL:List (List Nat)) (o1 o2:Option CV),P.drop i=rest->PI P i [] LL->
  (∀LL o1 o2,PI P (δ P) [] LL->N [(63,A),(62,γ (.ref (δ P))),(49,o1),(36,o2)] (cp (δ P) LL))->
  ZB sm (λx l c' K=>wT (Ph (n+1)) (.name 49) x l c' λl c'=>fn (Ph (n+1)) (.cons (.for (.name 36) ζ (.call 50 (.cons (.l 49) .nil)) C9) .nil) fl l c' K K R) (dD i rest) [(63,A),(62,γ (.ref (δ P))),(49,o1),(36,o2)] (cp (δ P) LL) N:=by
 induction rest with
 |nil=>
  intro i LL o1 o2 hd h k;have hi:δ P<=i:=List.drop_eq_nil_iff.mp hd;refine k LL o1 o2 ⟨h.1,λt ht=>?_⟩;exists h.2 t ht;show γ (_++[])=γ (_++[]);obtain⟨d,rfl⟩:=Ez hi;clear k hd h hi;congr 2;induction d with
  |zero=>rfl
  |succ d ih=>refine ac (show δ P+(d+1)=δ P+d+1 from rfl) (ac BQ (ac ih ?_));have:wr P (δ P+d)=[]:=(by unfold wr;exists dp (ao _ _),TK);exists this,aL _
 |cons b rest ih=>
  intro i LL o1 o2 hd h k;refine on (KY hd) λhb T9=>?_;have hi:i<δ P:=(ay.mp hb).1;have hsu:wr P i=b.2.succ:=by unfold wr;exists hb,TK
  refine qb (i:=i) (b:=b) (by rfl) ?_;refine iN (σ:=List (List Nat)×Option CV) (enc:=λ(t:Nat)=>CV.int t) (λs=>[(63,A),(62,γ (.ref (δ P))),(49,γ (b8 i b)),(36,s.2)]) (λs=>cp (δ P) s.1) (λxs s=>∃ys,ys++xs=b.2.succ/\PI P i ys s.1) (λt xs s K U2 k=>?_) b.2.succ TK (LL,o2) ⟨[],rfl,h⟩ λs VX=>?_
  ·obtain⟨LL,o2⟩:=s;refine f4 U2 λys h1 h2=>?_;clear U2;have ht:t<δ P:=hS b (av hb) t (by refine io h1 ?_;exact aI _ (.head _));exact KZ hP hi ht h2 λLL h=>k (LL,γ (.int t)) TQ ⟨ys++[t],by refine io (dr ..) ?_;exact h1,h⟩
  ·obtain⟨LL,o2⟩:=s;refine f4 VX λys h1 h2=>?_;clear VX;rw[aL]at h1;rw[h1,←hsu]at h2;exact⟨hs _,ih (i+1) LL _ _ T9 h2.next k⟩
theorem Nf:di (i+1)=di i++[.ref i]:=by unfold di;exists ud;exists aj;rfl
theorem A2(hP:δ P<=900)(hS:∀b∈P,∀t∈b.2.succ,t<δ P)(e:args.map (ul c 8)=[Sc P])(q:Q (.list ((ax (δ P)).map λt=>sB (pf P (δ P) t))) c):Ph (n+2) 64 args c Q:=by
 refine TT TK TK e (dl (fU P) TK) (ξ TK ?_);refine R5 (σ:=Nat×Option CV) (enc:=λx:Nat×bn=>b8 x.1 x.2) (λs=>di s.1) (λs=>[(49,s.2)]) (λs=>dP s.1 (γ (.list []))) (λxs s=>s.1+δ xs=δ P) (λx xs s K h k=>?_) (gf 0 P) qG (0,η) ?_ λs h=>?_
 ·obtain⟨i,o⟩:=s;have h':i+(δ xs+1)=δ P:=h;have:=k (i+1,γ (b8 x.1 x.2)) TQ (by show i+1+δ xs=_;exact(cV i 1 _).trans h');rw[Nf,List.replicate_succ']at this;refine KF (an TK) (by unfold di;exists φ ..;exists bG ..,κ (κ (ao i _) (a5 h')) (κ hP (by decide))) ?_;show K (di i++[.ref (δ (dP i (γ (CV.list []))))]) _ _;exists mZ,this
 ·show 0+δ (gf 0 P)=δ P;exists az ..,io (φ (f:=λp:Nat×bn=>p.2) ..) (ac (rE ..) TK)
 ·obtain⟨i,o⟩:=s;have h':i=δ P:=h;subst h';show fn _ _ _ (putL _ _ (.ref (δ (dP (δ P) (γ (CV.list [])))))) _ _ _ _;exists mZ;have hc:dP (δ P) (γ (CV.list []))++[γ (.list (di (δ P)))]=cp (δ P) (dP (δ P) []):=by unfold cp;exists Fo;rfl
  exists hc;refine K8 (n:=n) (λ_=>trivial) hP hS P 0 _ η η TK ⟨mZ,λt ht=>?_⟩ λLL o1 o2 h=>?_
  ·exists List.getElem?_replicate;exists TG ht;rfl
  ·have ZU:LL=(ax (δ P)).map λt=>pf P (δ P) t:=by
    refine m6 λt=>?_;by_cases ht:t<δ P
    ·exists h.2 t ht;exists aA;exists jS ht,TL γ (aL _)
    ·exists dp (by rw[h.1];exact cb ht),ac (dp (by rw[φ,bG];exact cb ht)) TK
   have hz:=O7 (c:=cp (δ P) LL) (R:=LL) (i:=0) λj s e=>(by rw[az];exact C8 e);rw[←EY,h.1]at hz;have hs:Go (LL.map sB)=ε:=KM (λl=>j6 l) LL;rw[show(λt=>sB (pf P (δ P) t))=sB∘λt=>pf P (δ P) t from rfl,←cM,←ZU]at q;exact⟨.list (LL.map sB),.ref (x:=.list (di (δ P))) (ys:=LL.map sB) (BR h.1) TK hz,hs,q⟩
theorem jh:f8 (c++[a]) (δ c)=a:=by unfold f8;exists xa,TK
theorem vn:dL (c++[a]) (δ c) v=c++[γ v]:=by unfold dL;rw[tL _ _ (aJ _),hU];rfl
theorem A9(q:Q .none (c++[γ (.sdict [36,35,34] [i,.list [],.none])])):Ph (n+1) 37 [.inst 1 (.ref (δ c)),i] (c++[γ (.sdict [] [])]) Q:=by have e1:=vn (c:=c) (a:=γ (.sdict [] [])) (v:=.sdict [36] [i]);have e2:=vn (c:=c) (a:=γ (.sdict [36] [i])) (v:=.sdict [36,35] [i,.list []]);have e3:=vn (c:=c) (a:=γ (.sdict [36,35] [i,.list []])) (v:=.sdict [36,35,34] [i,.list [],.none]);refine fm TK (wl TK (o:=f8 (c++[γ (.sdict [] [])]) (δ c)) jh (ξ (an TK) (ξ (an TK) (db (o:=f8 (dL (c++[γ (.sdict [] [])]) (δ c) (.sdict [36] [i])) (δ c)) (by exists e1,jh) (ξ (an TK) (db (o:=f8 (dL (dL (c++[γ (.sdict [] [])]) (δ c) (.sdict [36] [i])) (δ c) (.sdict [36,35] [i,.list []])) (δ c)) (by exists e1;exists e2,jh) (ξ (an TK) ?_)))))));rw[←e3,←e2,←e1]at q;exact q
theorem WF{c:ad}{n m:Nat}{v:CV}(h:m≠n):f8 (dL c n v) m=f8 c m:=by unfold f8 dL;exists eX (aO h),TK
theorem l7{c:ad}{n:Nat}{v w:CV}(h:f8 c n=γ w):f8 (dL c n v) n=γ v:=by
 unfold f8 at h;unfold f8 dL;have:n<δ c:=by
  cases q:c[n]? with
  |none=>rw[q]at h;exact pt h
  |some o=>exact(ay.mp q).1
 exists eW this,TK
theorem oq{c:ad}{n:Nat}{v w:CV}(h:f8 c n=γ w):f8 (c++[γ v]) n=γ w:=by
 unfold f8 at h ⊢;have:n<δ c:=by
  cases q:c[n]? with
  |none=>rw[q]at h;exact pt h
  |some o=>exact(ay.mp q).1
 exists pv this,h
theorem sU{c:ad}{n:Nat}{w:CV}(h:f8 c n=γ w):n<δ c:=by
 unfold f8 at h;cases q:c[n]? with
 |none=>rw[q]at h;exact pt h
 |some o=>exact(ay.mp q).1
abbrev bo:=Nat×Nat×Nat
noncomputable def UF(P:List bn)(b j:Nat):CV:=.list [.int b,sB (wr P b),.int j]
noncomputable def gW:List bo->Nat|[]=>0|x::l=>(5 - x.2.2)+gW l
theorem q0{l:List bo}{x:bo}:gW (l++[x])=gW l+(5 - x.2.2):=by
 induction l with
 |nil=>exact b4 _ _
 |cons a l ih=>show _+gW (l++[x])=_+gW l+_;rw[ih,bP]
structure PO(P:List bn) (c:ad) (fnd:List Nat) (sn:List Int) (st:List bo):Prop where
 c0:f8 c 0=γ (sB fnd)
 c1:f8 c 1=γ (.set sn)
 c3:f8 c 3=γ (.list (st.map λx=>.ref x.1))
 fr:∀x∈st,(x.1≠0/\x.1≠1/\x.1≠3)/\f8 c x.1=γ (UF P x.2.1 x.2.2)/\x.2.2<=δ (wr P x.2.1)
 nd:(st.map (·.1)).Nodup
 sw:Ch sn
 nn:(fnd++st.map (·.2.1)).Nodup
 lt:∀b∈fnd++st.map (·.2.1),b<δ P
 mem:∀b:Nat,(b:Int)∈sn↔b∈fnd++st.map (·.2.1)
 z:0∈fnd++st.map (·.2.1)
 fol:∀b∈fnd,∀t∈wr P b,(t:Int)∈sn
 fos:∀x∈st,∀t∈(wr P x.2.1).take x.2.2,(t:Int)∈sn
theorem Ng{l:List CV}{v:CV}:s0 (l++[v]) (-1)=γ v:=by show(match iz (0+1) (δ (l++[v]))with|true=>(l++[v])[δ (l++[v]) - (0+1)]?|false=>η)=_;exists show iz (0+1) (δ (l++[v]))=ε from Nat.ble_eq_true_of_le (by rw[Δ];exact eZ _ _);show(l++[v])[δ (l++[v]) - 1]? =γ v;rw[Δ];exact xa
theorem A_{l:List Nat}{n:Nat}(h:l.Nodup)(hb:∀x∈l,x<n):δ l<=n:=by
 have:=qH n (l.map λ(i:Nat)=>(i:Int)) (tU.mpr (h.imp λ{a b} UE e=>UE (aW e))) λx hx=>by refine f4 (au.mp hx) λy hy e=>?_;have:=hb y hy;exact e▸⟨aE y,aX.mpr this⟩
 rw[φ]at this;exact this
theorem PO.cnt{P:List bn}{c:ad}{fnd:List Nat}{sn:List Int}{st:List bo}(h:PO P c fnd sn st):δ fnd+δ st<=δ P:=by have:=A_ h.nn h.lt;rw[Δ,φ]at this;exact this
theorem q5{fnd:List Nat}{st:List bo}{x:bo}:(fnd++(st++[x]).map (·.2.1)).Perm ((fnd++[x.2.1])++st.map (·.2.1)):=by rw[aj,bF];exact xy _ List.perm_append_comm
theorem PO.pop{P:List bn}{c:ad}{fnd:List Nat}{sn:List Int}{st:List bo}{x:bo}(h:PO P c fnd sn (st++[x]))(hj:x.2.2=δ (wr P x.2.1)):
  PO P (dL (dL c 0 (sB (fnd++[x.2.1]))) 3 (.list (st.map λx=>.ref x.1))) (fnd++[x.2.1]) sn st:=by
 have hx:x∈st++[x]:=aI _ (.head _);refine⟨?_,?_,?_,λy hy=>?_,?_,h.sw,q5.nodup_iff.mp h.nn,λb hb=>h.lt b (q5.mem_iff.mpr hb),λb=>(h.mem b).trans q5.mem_iff,q5.mem_iff.mp h.z,λb hb t ht=>?_,λy hy=>h.fos y (b_ _ hy)⟩
 ·rw[WF (by decide)];exact l7 h.c0
 ·rw[WF (by decide),WF (by decide)];exact h.c1
 ·refine l7 (w:=.list ((st++[x]).map λx=>.ref x.1)) ?_;rw[WF (by decide)];exact h.c3
 ·obtain⟨⟨h1,h2,h3⟩,h4,h5⟩:=h.fr y (b_ _ hy);exact⟨⟨h1,h2,h3⟩,by rw[WF h3,WF h1];exact h4,h5⟩
 ·have:=h.nd;rw[aj]at this;exact(cL.mp this).1
 ·rcases aw.mp hb with hb|hb
  ·exact h.fol b hb t ht
  ·have hz:=Θ.mp hb;subst hz;exact h.fos x hx t (by rw[hj,F7];exact ht)
theorem PO.step{P:List bn}{c:ad}{fnd:List Nat}{sn:List Int}{st:List bo}{m b j t:Nat}(h:PO P c fnd sn (st++[(m,b,j)]))(hj:(wr P b)[j]? =γ t)(ht:(t:Int)∈sn):
  PO P (dL c m (UF P b (j+1))) fnd sn (st++[(m,b,j+1)]):=by
 have hx:(m,b,j)∈st++[(m,b,j)]:=aI _ (.head _);obtain⟨⟨m0,m1,m3⟩,m4,m5⟩:=h.fr _ hx;have e1:(st++[(m,b,j+1)]).map (·.1)=(st++[(m,b,j)]).map (·.1):=by rw[aj,aj];rfl
 have e2:(st++[(m,b,j+1)]).map (·.2.1)=(st++[(m,b,j)]).map (·.2.1):=by rw[aj,aj];rfl
 have e3:(st++[(m,b,j+1)]).map (λx=>CV.ref x.1)=(st++[(m,b,j)]).map (λx=>CV.ref x.1):=by rw[aj,aj];rfl
 have T6:j<δ (wr P b):=(ay.mp hj).1;have T_:=h.nd;rw[aj]at T_;refine⟨by rw[WF (aO m0)];exact h.c0,by rw[WF (aO m1)];exact h.c1,by rw[WF (aO m3),e3];exact h.c3,λy hy=>?_,by rw[e1];exact h.nd,h.sw,by rw[e2];exact h.nn,by rw[e2];exact h.lt,by rw[e2];exact h.mem,by rw[e2];exact h.z,h.fol,λy hy u hu=>?_⟩
 ·rcases aw.mp hy with hy|hy
  ·refine bL (h.fr y (b_ _ hy)) λy1 y2 y3=>?_;refine⟨y1,?_,y3⟩;rw[WF ((cL.mp T_).2.2 _ (i7 hy) _ (.head _))];exact y2
  ·have hz:=Θ.mp hy;subst hz;exact⟨⟨m0,m1,m3⟩,l7 m4,T6⟩
 ·rcases aw.mp hy with hy|hy
  ·exact h.fos y (b_ _ hy) u hu
  ·have hz:=Θ.mp hy;subst hz;rw[show(wr P b).take (j+1)=(wr P b).take j++[t] by rw[x_,hj];rfl]at hu;rcases aw.mp hu with hu|hu
   ·exact h.fos _ hx u hu
   ·have hz:=Θ.mp hu;subst hz;exact ht
theorem PO.push{P:List bn}{c:ad}{fnd:List Nat}{sn:List Int}{st:List bo}{m b j t:Nat}(h:PO P c fnd sn (st++[(m,b,j)]))(hj:(wr P b)[j]? =γ t)(ht:¬(t:Int)∈sn)(T6:t<δ P)(hP:δ P<=12):
  PO P (dL (dL (dL c m (UF P b (j+1))) 1 (.set (NE (t:Int) sn))++[γ (UF P t 0)]) 3 (.list ((st++[(m,b,j+1)]).map (λx=>.ref x.1)++[.ref (δ c)]))) fnd (NE (t:Int) sn) ((st++[(m,b,j+1)])++[(δ c,t,0)]):=by
 have hx:(m,b,j)∈st++[(m,b,j)]:=aI _ (.head _);obtain⟨⟨m0,m1,m3⟩,m4,m5⟩:=h.fr _ hx;have hjl:j<δ (wr P b):=(ay.mp hj).1;have T_:=h.nd;rw[aj]at T_;have l0:=sU h.c0;have l1:=sU h.c1;have l3:=sU h.c3;have Wy:∀y∈st++[(m,b,j+1)],(y.1≠0/\y.1≠1/\y.1≠3)/\f8 (dL c m (UF P b (j+1))) y.1=γ (UF P y.2.1 y.2.2)/\y.2.2<=δ (wr P y.2.1):=λy hy=>by
  rcases aw.mp hy with hy|hy
  ·refine bL (h.fr y (b_ _ hy)) λy1 y2 y3=>?_;refine⟨y1,?_,y3⟩;rw[WF ((cL.mp T_).2.2 _ (i7 hy) _ (.head _))];exact y2
  ·have hz:=Θ.mp hy;subst hz;exact⟨⟨m0,m1,m3⟩,l7 m4,hjl⟩
 have e1:(st++[(m,b,j+1)]).map (·.1)=(st++[(m,b,j)]).map (·.1):=by rw[aj,aj];rfl
 have e2:(st++[(m,b,j+1)]).map (·.2.1)=(st++[(m,b,j)]).map (·.2.1):=by rw[aj,aj];rfl
 have ZV:∀u,u∈fnd++((st++[(m,b,j+1)])++[(δ c,t,0)]).map (λx:bo=>x.2.1)↔u∈fnd++(st++[(m,b,j)]).map (·.2.1)\/u=t:=λu=>by rw[aj,e2,←bF,aw];exact or_congr_right Θ
 have htn:¬t∈fnd++(st++[(m,b,j)]).map (·.2.1):=λq=>ht ((h.mem t).mpr q);refine⟨?_,?_,?_,λy hy=>?_,?_,h.sw.ins ⟨by exact aE _,by lia⟩,?_,λu hu=>((ZV u).mp hu).elim (h.lt u) λe=>e▸T6,λu=>?_,(ZV 0).mpr (.inl h.z),λu hu v hv=>b6.mpr (.inr (h.fol u hu v hv)),λy hy u hu=>?_⟩
 ·rw[WF (show 0≠3 by decide)];exact oq (w:=sB fnd) (by rw[WF (show 0≠1 by decide),WF (aO m0)];exact h.c0)
 ·rw[WF (show 1≠3 by decide)];exact oq (l7 (w:=.set sn) (by rw[WF (aO m1)];exact h.c1))
 ·have e4:((st++[(m,b,j+1)])++[(δ c,t,0)]).map (λx:bo=>CV.ref x.1)=(st++[(m,b,j+1)]).map (λx:bo=>CV.ref x.1)++[.ref (δ c)]:=aj;rw[e4];exact l7 (w:=.list ((st++[(m,b,j)]).map λx=>.ref x.1)) (oq ((WF (show 3≠1 by decide)).trans ((WF (aO m3)).trans h.c3)))
 ·rcases aw.mp hy with hy|hy
  ·obtain⟨⟨y0,y1,y3⟩,y4,y5⟩:=Wy y hy;exact⟨⟨y0,y1,y3⟩,by rw[WF y3];exact oq (by rw[WF y1];exact y4),y5⟩
  ·have hz:=Θ.mp hy;subst hz;refine⟨⟨by show δ c≠0;exact e7 ‹_›,by show δ c≠1;exact e7 ‹_›,by show δ c≠3;exact e7 ‹_›⟩,?_,cN _⟩;rw[WF (by show δ c≠3;exact e7 ‹_›)];have:δ (dL (dL c m (UF P b (j+1))) 1 (.set (NE (t:Int) sn)))=δ c:=(by unfold dL;rw[cZ,cZ]);show f8 _ (δ c)=_;rw[←this];exact jh
 ·rw[aj,e1];refine cL.mpr ⟨h.nd,mX _ _,λa ha u hu e=>?_⟩;have hz:=Θ.mp hu;subst hz;obtain⟨y,hy,rfl⟩:=au.mp ha;have:=sU (h.fr y hy).2.1;rw[e]at this;exact fS _ this
 ·rw[aj,e2,←bF];refine cL.mpr ⟨h.nn,mX _ _,λa ha u hu e=>?_⟩;have hz:=Θ.mp hu;subst hz;subst e;exact htn ha
 ·rw[b6,h.mem,ZV,or_comm];exact or_congr_right ⟨λe=>aW e,λe=>TL _ e⟩
 ·rcases aw.mp hy with hy|hy
  ·rcases aw.mp hy with hy|hy
   ·exact b6.mpr (.inr (h.fos y (b_ _ hy) u hu))
   ·have hz:=Θ.mp hy;subst hz;rw[show(wr P b).take (j+1)=(wr P b).take j++[t] by rw[x_,hj];rfl]at hu;rcases aw.mp hu with hu|hu
    ·exact b6.mpr (.inr (h.fos _ hx u hu))
    ·cases Θ.mp hu;exact b6.mpr (.inl TK)
  ·have hz:=Θ.mp hy;subst hz;cases hu
section
structure td(P:List bn) (l:List Nat):Prop where
 nd:l.Nodup
 lt:∀b∈l,b<δ P
 z:0∈l
 cl:∀b∈l,∀t∈wr P b,t∈l
theorem BU(P:List bn)(b:Nat):δ (wr P b)<=4:=by
 unfold wr;induction P[b]? with
 |none=>exact an TK
 |some b=>exact vm b.2
theorem rG{P:List bn}{i:Nat}{b:bn}(h:P[i]? =γ b):s0 (dD 0 P) (i:Int)=γ (b8 i b):=by have:=qD (i:=0) h;rw[az]at this;exact this
noncomputable def jM(P:List bn)(o1 o2:Option CV):L:=[(63,γ (Sc P)),(62,γ (.ref 0)),(66,γ (.ref 1)),(65,γ (.ref 3)),(67,o1),(36,o2)]
noncomputable def DF:Ss:=(.cons (.g (.name 36) (.sub (.sub (.l 67) (.i (.int 1))) (.sub (.l 67) (.i (.int 2)))))
 (.cons (.augSub (.l 67) (.i (.int 2)) .add (.i (.int 1)))
 (.cons (.ife (.cmp .notin (.l 36) (.l 66)) (.cons (.ex (.me .add (.l 66) (.l 36)))
 (.cons (.ex (.me .append (.l 65) (.list ε (.cons (.l 36) (.cons (.call 50 (.cons (.sub (.attr (.l 63) 40) (.l 36)) .nil)) (.cons (.i (.int 0)) .nil))))))
 .nil)) .nil)
 .nil)))
noncomputable def Th:Ss:=(.cons (.g (.name 67) (.sub (.l 65) (.neg (.i (.int 1)))))
 (.cons (.ife (.cmp .eq (.sub (.l 67) (.i (.int 2))) (.bi .len ζ (.cons (.sub (.l 67) (.i (.int 1))) .nil))) (.cons (.ex (.me .append (.l 62) (.sub (.l 67) (.i (.int 0)))))
 (.cons (.ex (.pop (.l 65)))
 (.cons .cont
 .nil))) .nil)
 DF))
variable {P:List bn}{c:ad}{fnd:List Nat}{sn:List Int}{st:List bo}{m b j t:Nat}{o1 o2:Option CV}{n fl:Nat}{K C:L->ad->Prop}{R:CV->ad->Prop}
theorem PO.top(h:PO P c fnd sn (st++[(m,b,j)])):view c (.ref m)=γ (UF P b j):=(h.fr _ (aI _ (.head _))).2.1
theorem PO.stk(h:PO P c fnd sn (st++[(m,b,j)])):f8 c 3=γ (.list (st.map (λx:bo=>CV.ref x.1)++[.ref m])):=by have:=h.c3;rw[aj]at this;exact this
theorem PO.few(h:PO P c fnd sn (st++[(m,b,j)]))(hP:δ P<=12):δ fnd<=12/\δ (st.map (λx:bo=>CV.ref x.1)++[CV.ref m])<=1000:=by have:=h.cnt;rw[Δ]at this;rw[Δ,φ];exact⟨κ (κ (ao _ _) this) hP,κ (κ (eZ _ _) this) (κ hP (by decide))⟩
theorem Q0(h:PO P c fnd sn (st++[(m,b,j)]))(hP:δ P<=12)(k:K (jM P (γ (.ref m)) o2) (dL (dL c 0 (sB (fnd++[b]))) 3 (.list (st.map λx=>.ref x.1)))):
  fn (Ph n) (.cons (.ex (.me .append (.l 62) (.sub (.l 67) (.i (.int 0))))) (.cons (.ex (.pop (.l 65))) (.cons .cont .nil))) fl (jM P (γ (.ref m)) o2) c C K R:=by
 have h0:(f8 c 0).bind a9=γ (fnd.map λ(i:Nat)=>CV.int i):=by exists h.c0;rfl
 have YU:dB .append c (.ref 0)=γ ():=by show(f8 c 0).bind _=_;exists h.c0;rfl
 have h3:∀v,f8 (dL c 0 v) 3=γ (.list (st.map (λx:bo=>CV.ref x.1)++[.ref m])):=λv=>(WF (by decide)).trans h.stk;have ZW:∀v,dB .pop (dL c 0 v) (.ref 3)=γ ():=λv=>by show(f8 _ 3).bind _=_;exists h3 ..;rfl
 rw[uM,←EW (l₁:=st.map λx:bo=>CV.ref x.1) (b:=CV.ref m)]at k;exact db YU (db h.top (wl (an TK) TK (db h0 (ξ (by exists φ ..,κ (h.few hP).1 (by decide)) (db (ZW _) (db (o:=(f8 _ 3).bind a9) (by exists h3 ..;rfl) (ξ (h.few hP).2 (db (o:=List.getLast? _) EX k))))))))
theorem Pf(h:PO P c fnd sn (st++[(m,b,j)]))(hP:δ P<=12)(hS:∀b∈P,∀t∈b.2.succ,t<δ P)(hj:(wr P b)[j]? =γ t)(k1:(t:Int)∈sn->K (jM P (γ (.ref m)) (γ (.int t))) (dL c m (UF P b (j+1))))
  (k2:¬(t:Int)∈sn->t<δ P->K (jM P (γ (.ref m)) (γ (.int t))) (dL (dL (dL c m (UF P b (j+1))) 1 (.set (NE (t:Int) sn))++[γ (UF P t 0)]) 3 (.list ((st++[(m,b,j+1)]).map (λx=>.ref x.1)++[.ref (δ c)])))):
  fn (Ph (n+1)) DF fl (jM P (γ (.ref m)) o2) c K C R:=by
 obtain⟨⟨m0,m1,m3⟩,_,_⟩:=h.fr _ (aI _ (.head _));have ZX:δ ((wr P b).map λ(i:Nat)=>CV.int i)<=1000:=by exists φ ..,κ (BU P b) (by decide)
 have hat:s0 ((wr P b).map λ(i:Nat)=>CV.int i) (j:Int)=γ (.int t):=by show((wr P b).map λ(i:Nat)=>CV.int i)[j]? =_;exists aA;exists hj;rfl
 have c1:view (dL c m (UF P b (j+1))) (.ref 1)=γ (.set sn):=(WF (aO m1)).trans h.c1;have hq:bh (dL c m (UF P b (j+1))) .notin (.int t) (.ref 1)=γ (!sn.contains (t:Int)):=by show((view _ (.ref 1)).bind _).map _=_;exists c1;rfl
 refine db h.top (wl (an TK) TK (db h.top (ξ (an TK) (db TK (ξ ZX (db hat ?_))))));refine db h.top (wl (an TK) TK (db h.top (ξ ⟨by decide,TN TK,an TK⟩ ?_)));refine db (o:=bh (dL c m (UF P b (j+1))) .notin (.int t) (.ref 1)) hq (Ev (λz=>?_) λz=>k1 ?_)
 ·have ht:¬(t:Int)∈sn:=zy (TI z);have Xv:t<δ P:=by
   have hm:=av hj;unfold wr at hm;cases hb:P[b]? with
   |none=>rw[hb]at hm;cases hm
   |some b'=>rw[hb]at hm;exact hS b' (av hb) t hm
  have hk1:dB .add (dL c m (UF P b (j+1))) (.ref 1)=γ ():=by show(view _ (.ref 1)).bind _=_;exists c1;rfl
  refine db (o:=dB .add (dL c m (UF P b (j+1))) (.ref 1)) hk1 (db (o:=(f8 (dL c m (UF P b (j+1))) 1).bind gK) (by exists show f8 (dL c m (UF P b (j+1))) 1=γ (.set sn)from c1;rfl) (ξ (h.push hj ht Xv hP).sw.ok ?_));have el:δ (dL (dL c m (UF P b (j+1))) 1 (.set (NE (t:Int) sn)))=δ c:=by unfold dL;exists cZ,ac cZ TK
  have h3:f8 (dL (dL c m (UF P b (j+1))) 1 (.set (NE (t:Int) sn))) 3=γ (.list (st.map (λx:bo=>CV.ref x.1)++[CV.ref m])):=(WF (by decide)).trans ((WF (aO m3)).trans h.stk);have ZW:dB .append (dL (dL c m (UF P b (j+1))) 1 (.set (NE (t:Int) sn))) (.ref 3)=γ ():=by show(f8 _ 3).bind _=_;exists h3;rfl
  have Vs:=ag Xv;generalize P[t]=bt at Vs;refine db (o:=dB .append (dL (dL c m (UF P b (j+1))) 1 (.set (NE (t:Int) sn))) (.ref 3)) ZW (wl (by exists jf,κ hP (by decide)) (o:=s0 (dD 0 P) (t:Int)) (rG Vs) (qb (i:=t) (b:=bt) (by rfl) (ξ (an TK) ?_)));exists(show bt.2.succ=wr P t by unfold wr;rw[Vs]);refine db (o:=(f8 (dL (dL c m (UF P b (j+1))) 1 (.set (NE (t:Int) sn))++[γ (UF P t 0)]) 3).bind a9) (by rw[oq h3];rfl) (ξ (h.few hP).2 ?_);have:=k2 ht Xv;rw[aj,←el]at this;exact this
 ·cases e:sn.contains (t:Int)with
  |true=>exact ak.mp e
  |false=>rw[show sn.contains (t:Int)=ε from by have z':(!sn.contains (t:Int))=ζ:=z;rw[e]at z';exact eH z']at e;exact eH e
noncomputable def jN(P:List bn)(fnd:List Nat)(st:List bo):Nat:=6*(δ P - (δ fnd+δ st))+gW st
theorem R9{d J j:Nat}(h:j<=4):6*d+(J+(5 - (j+1))+5)<6*(d+1)+(J+(5 - j)):=by(rw[show 5 - j=(5 - (j+1))+1 from(xn (tY (tX h))).symm];refine(?_:6*d+_<6*d+6+_);rw[bP (6*d) 6,b4 6];exact kR (tX (jc _)) _)
theorem Pg(h:PO P c fnd sn (st++[(m,b,j)]))(hP:δ P<=12)(hS:∀b∈P,∀t∈b.2.succ,t<δ P)(k:∀c' UM ZY Xw o1 o2,PO P c' UM ZY Xw->jN P UM Xw<jN P fnd (st++[(m,b,j)])->K (jM P o1 o2) c'):
  fn (Ph (n+1)) Th fl (jM P o1 o2) c K K R:=by
 refine bL (h.fr _ (aI _ (.head _))) λ_ _ m5=>?_;replace m5:j<=δ (wr P b):=m5;have YX:=BU P b;have UW:=h.cnt;rw[Δ]at UW;replace UW:δ fnd+(δ st+1)<=δ P:=UW;have ZZ:jN P fnd (st++[(m,b,j)])=6*(δ P - (δ fnd+(δ st+1)))+(gW st+(5 - j)):=by unfold jN;exists q0;exists Δ;rfl
 refine db (o:=view c (.ref 3)) h.stk (ξ (h.few hP).2 (db (o:=s0 (st.map (λx:bo=>CV.ref x.1)++[.ref m]) (-1)) Ng ?_));refine db h.top (wl (an TK) TK (db h.top (ξ (an TK) (db TK (ξ (by exists φ ..,κ YX (by decide)) ?_)))));refine Ev (b:=(j:Int)==(δ ((wr P b).map λ(i:Nat)=>CV.int i):Int)) (λz=>?_) λz=>?_
 ·have hj:j=δ (wr P b):=by have z':=TM z;rw[φ]at z';exact aW z'
  refine Q0 h hP (k _ _ _ _ _ _ (h.pop hj) ?_);exists ZZ;unfold jN;exists Δ;show 6*(δ P - (δ fnd+1+δ st))+gW st<_;rw[cV];exact kR (pw (tY (aR (κ m5 YX) (by decide)))) _
 ·have hj:j<δ (wr P b):=by rw[φ]at z;exact xT m5 λe=>(TO.mp z) (TL _ e)
  have Ym:=ag hj;generalize(wr P b)[j]=t at Ym;refine Pf h hP hS Ym (λht=>k _ _ _ _ _ _ (h.step Ym ht) ?_) λht Xv=>k _ _ _ _ _ _ (h.push Ym ht Xv hP) ?_
  ·exists ZZ;unfold jN;exists q0;exists Δ;show 6*(δ P - (δ fnd+(δ st+1)))+(gW st+(5 - (j+1)))<_;exact kR (kR (E_ (aR (κ m5 YX) (by decide)) (cY j)) _) _
  ·have hc:=(h.push Ym ht Xv hP).cnt;rw[Δ,Δ]at hc;exists ZZ;unfold jN;exists q0;exists q0;exists Δ;exists Δ;replace hc:δ fnd+(δ st+1+1)<=δ P:=hc;show 6*(δ P - (δ fnd+(δ st+1+1)))+(gW st+(5 - (j+1))+(5 - 0))<_;have e:δ P - (δ fnd+(δ st+1))=(δ P - (δ fnd+(δ st+1+1)))+1:=(xn (tY hc)).symm;rw[e];exact R9 (κ m5 YX)
theorem HE{args}{Q:CV->ad->Prop}(hP:δ P<=12)(hz:0<δ P)(hS:∀b∈P,∀t∈b.2.succ,t<δ P)(e:args.map (ul c 8)=[Sc P])(q:∀l,td P l->Q (.ref (δ c)) (c++[γ (sB l)])):Ph (n+2) 68 args c Q:=by
 refine Cs TK TK e (dl (fU P) TK) (gY TK (an TK) (Ch.ok (Ch.nil.ins (x:=0) ⟨by decide,by decide⟩)) ?_);have hg:=ag hz;generalize P[0]=b0 at hg;refine wl (by exists jf,κ hP (by decide)) (o:=s0 (dD 0 P) ((0:Nat):Int)) (rG hg) (qb (i:=0) (b:=b0) (by rfl) (FS [3,1] TK ?_:EQ _ _));refine tq (σ:=(ad×List Nat×List Int×List bo)×Option CV×Option CV) (λs=>jM P s.2.1 s.2.2) (λs=>s.1.1) (λs=>PO P s.1.1 s.1.2.1 s.1.2.2.1 s.1.2.2.2) (λs=>jN P s.1.2.1 s.1.2.2.2) (λs K hi k=>?_)
  (([γ (.list []),γ (.set [0]),γ (.list [.int (0:Nat),sB b0.2.succ,.int (0:Nat)]),γ (.list [.ref 2])],[],[0],[(2,0,0)]),η,η) ⟨rfl,rfl,rfl,λx hx=>?_,mX _ _,Ch.nil.ins (x:=0) ⟨by decide,by decide⟩,mX _ _,λb hb=>by have hz:=Θ.mp hb;subst hz;exact hz,λb=>?_,.head _,λb hb=>(nomatch hb),λx hx t ht=>?_⟩ ?_
 ·obtain⟨⟨c',fnd,sn,st⟩,o1,o2⟩:=s;replace hi:PO P c' fnd sn st:=hi;have UW:=hi.cnt;refine db hi.c3 (ξ (by exists φ ..,κ (κ (eZ _ _) UW) (κ hP (by decide))) ?_);rcases xG st with rfl|⟨Xw,⟨m,b,j⟩,hx⟩
  ·have h1:=hi.nn;have h2:=hi.lt;have h3:=hi.z;rw[qg,aL]at h1 h2 h3;refine⟨0,_,rfl,hi.c0,KM (λ_=>rfl) _,q fnd ⟨h1,h2,h3,λb hb t ht=>?_⟩⟩;have:=(hi.mem t).mp (hi.fol b hb t ht);rwa[qg,aL]at this
  ·rw[xH]at hx;subst hx;exact bC (by exists aj;cases Xw.map (λx:bo=>CV.ref x.1)<;>rfl) (Pg hi hP hS λc' UM ZY Xw o1 o2 h' hm=>k ((c',UM,ZY,Xw),o1,o2) h' hm)
 ·have hz:=Θ.mp hx;subst hz;exact⟨⟨by decide,by decide,by decide⟩,by show γ _=γ (UF P 0 0);unfold UF wr;exact ac hg TK,cN _⟩
 ·show(b:Int)∈[(0:Int)]↔b∈[0];rw[Θ,Θ];exact⟨λe=>aW e,λe=>TL _ e⟩
 ·have hz:=Θ.mp hx;subst hz;cases ht
 ·show 6*(δ P - (0+1))+(5 - 0+0)<1000;exact aR (dM (d8 6 (κ (zG _ _) hP)) 5) (by decide)
end
theorem JO:∀{a b:List Int},a.Pairwise (· < ·)->b.Pairwise (· < ·)->(∀x∈a,x∈b)->a=b\/δ a<δ b:=by
 intro a b;induction b generalizing a with
 |nil=>
  intro _ _ h;induction a using ar with
  |nil=>exact .inl TK
  |cons x a=>exact(nomatch h x (.head _))
 |cons y b ih=>
  intro ha hb h;refine on (bO.mp hb) λb1 b2=>?_;induction a using ar with
  |nil=>exact .inr (bS _)
  |cons x a=>
   obtain⟨a1,a2⟩:=bO.mp ha;by_cases e:x=y
   ·subst e;rcases ih a2 b2 λz hz=>(ab.mp (h z (.tail _ hz))).resolve_left λe=>pZ _ (e▸a1 z hz)with q|q
    ·exact .inl (TL _ q)
    ·exact .inr (jW q)
   ·have hx:x∈b:=(ab.mp (h x (.head _))).resolve_left e;have hyx:=b1 x hx;rcases ih ha b2 λz hz=>(ab.mp (h z hz)).resolve_left λe'=>by
     subst e';rcases ab.mp hz with q|q
     ·exact e q.symm
     ·exact pZ _ (jb hyx (a1 z q))with q|q
    ·exact .inr (by exists q,cY _)
    ·exact .inr (kX q)
theorem Ch.len{l:List Int}(h:Ch l):δ l<=13:=by have:=Aa (a:= -1) (b:=12) h.1 (λx hx=>⟨(h.2 x hx).1,pG (h.2 x hx).2⟩) (by decide);exact d_.mp ‹_›
noncomputable def eO:List (List Int)->Nat|[]=>0|s::l=>(14 - δ s)+eO l
theorem Nh{A:List Int}(hA:δ A<=13):∀{li:List (List Int)} {b:Nat} {s:List Int},li[b]? =γ s->δ s<δ A->eO (li.set b A)+1<=eO li:=by
 intro li;induction li with
 |nil=>exact λh=>nomatch h
 |cons a li ih=>
  intro b s h hs;induction b using b5 with
  |zero=>replace h:=ω h;subst h;exact pD (E_ (bp hs (eY hA)) hs) (eO li)
  |succ b=>exact dq (ih h hs) (14 - δ a)
def Fx(P:List bn) (nd gv:Nat->List Int) (li:List (List Int)) (b:Nat) (x:Int):Prop:=x∈nd b\/((∃t∈wr P b,∃s,li[t]? =γ s/\x∈s)/\¬x∈gv b)
theorem Fx.mono{P:List bn}{nd gv:Nat->List Int}{li WN:List (List Int)}(h:∀(t:Nat) (s:List Int),li[t]? =γ s->∃s',WN[t]? =γ s'/\∀x∈s,x∈s'){b:Nat}{x:Int}:Fx P nd gv li b x->Fx P nd gv WN b x:=
 Or.imp id λz0=>by obtain⟨⟨t,ht,s,hs,hx⟩,n⟩:=z0;exact by refine f4 (h t s hs) λs' e k=>?_;exact⟨⟨t,ht,s',e,k x hx⟩,n⟩
structure tu(k:bn) (nn gg:List Int):Prop where
 n:Ch nn
 g:Ch gg
 nm:∀d:Nat,(d:Int)∈nn↔a7 d k.1 (d∈FM k.2.args)
 gm:∀d:Nat,(d:Int)∈gg↔∃r∈k.1,r.dst=d
def mQ(P:List bn) (nd gv:Nat->List Int):Prop:=∀b k,P[b]? =γ k->tu k (nd b) (gv b)
structure LI(P:List bn) (nd gv:Nat->List Int) (W:List Nat) (li:List (List Int)):Prop where
 len:δ li=δ P
 w:∀s∈li,Ch s
 inc:∀b s,li[b]? =γ s->∀x∈s,Fx P nd gv li b x
 dn:∀b,b<δ P->b∈W\/∀s,li[b]? =γ s->∀x,Fx P nd gv li b x->x∈s
 lo:∀b d s,mH P b d->li[b]? =γ s->¬(d:Int)∈s
theorem qI{P:List bn}{b:Nat}{k:bn}(h:P[b]? =γ k):wr P b=k.2.succ:=by unfold wr;exists h,TK
theorem wc{P:List bn}{b c:Nat}:c∈pf P (δ P) b↔c<δ P/\b∈wr P c:=by unfold pf;rw[b3,fQ,ak]
theorem LI.same{P:List bn}{nd gv:Nat->List Int}{W:List Nat}{li:List (List Int)}{b:Nat}{s:List Int}(h:LI P nd gv (b::W) li)(hs:li[b]? =γ s)(hA:∀x,x∈s↔Fx P nd gv li b x):LI P nd gv W li:=by
 refine⟨h.len,h.w,h.inc,λc hc=>?_,h.lo⟩;rcases h.dn c hc with q|q
 ·rcases ab.mp q with q|q
  ·exists q,.inr λs' e x hx=>by rw[hs]at e;replace e:=ω e;subst e;exact(hA x).mpr hx
  ·exact .inl q
 ·exact .inr q
theorem LI.change{P:List bn}{nd gv:Nat->List Int}{W W':List Nat}{li:List (List Int)}{b:Nat}{A s:List Int}(hN:mQ P nd gv)(h:LI P nd gv (b::W) li)(hb:b<δ P)(hs:li[b]? =γ s)(hA:∀x,x∈A↔Fx P nd gv li b x)(hw:Ch A)(hW:∀c∈W,c∈W')(hp:∀c∈pf P (δ P) b,c∈W'):LI P nd gv W' (li.set b A):=by
 have VK:b<δ li:=by exists h.len,hb
 have hsA:∀x∈s,x∈A:=λx hx=>(hA x).mpr (h.inc b s hs x hx);have hm:∀t s',li[t]? =γ s'->∃s'',(li.set b A)[t]? =γ s''/\∀x∈s',x∈s'':=λt s' e=>by
  by_cases q:b=t
  ·subst q;rw[hs]at e;replace e:=ω e;subst e;exact⟨A,eW VK,hsA⟩
  ·exact⟨s',by exists eX q;exact e,λ_ hx=>hx⟩
 refine⟨by exists cZ;exact h.len,λz hz=>(Ei hz).elim (h.w z) λe=>e▸hw,λc z e x hx=>?_,λc hc=>?_,λc d z hd e=>?_⟩
 ·by_cases q:b=c
  ·subst q;rw[eW VK]at e;replace e:=ω e;subst e;exact((hA x).mp hx).mono hm
  ·rw[eX q]at e;exact(h.inc c z e x hx).mono hm
 ·by_cases hcp:c∈pf P (δ P) b
  ·exact .inl (hp c hcp)
  ·have Wb:¬b∈wr P c:=λm=>hcp (wc.mpr ⟨hc,m⟩);have back:∀{x},Fx P nd gv (li.set b A) c x->Fx P nd gv li c x:=Or.imp id λz0=>(by obtain⟨⟨t,ht,z,e,hx⟩,n⟩:=z0;exact⟨⟨t,ht,z,by rw[eX λ(q:b=t)=>Wb (q▸ht)]at e;exact e,hx⟩,n⟩);by_cases q:b=c
   ·subst q;exact .inr λz e x hx=>by rw[eW VK]at e;replace e:=ω e;subst e;exact(hA x).mpr (back hx)
   ·rcases h.dn c hc with m|m
    ·exact .inl (hW c ((ab.mp m).resolve_left (aO q)))
    ·exact .inr λz e x hx=>m z (by rw[eX q]at e;exact e) x (back hx)
 ·by_cases q:b=c
  ·subst q;rw[eW VK]at e;replace e:=ω e;subst e;intro hx;refine f4 hd λM hM hc=>?_;clear hd;refine KT (hc b hM) λk hk hu hor=>?_;have N:=hN b k hk;rcases(hA d).mp hx with m|⟨⟨t,ht,s',e,hx⟩,n⟩
   ·exact hu ((N.nm d).mp m)
   ·rcases hor with m|m
    ·exact n ((N.gm d).mpr m)
    ·rw[qI hk]at ht;exact h.lo t d s' ⟨M,m t ht,hc⟩ e hx
  ·rw[eX q]at e;exact h.lo c d z hd e
theorem LI.done{P:List bn}{nd gv:Nat->List Int}{li:List (List Int)}(hN:mQ P nd gv)(h:LI P nd gv [] li):sj P li:=by
 refine⟨h.len,h.w,λb k s hk hs d hd=>?_,h.lo⟩;have N:=hN b k hk;refine(h.dn b (ay.mp hk).1).resolve_left (λm=>nomatch m) s hs d ?_;rcases hd with m|⟨m,t,ht,s',e,hx⟩
 ·exact .inl ((N.nm d).mpr m)
 ·exact .inr ⟨⟨t,by exists qI hk;exact ht,s',e,hx⟩,λq=>by refine f4 ((N.gm d).mp q) λr hr e=>?_;exact m r hr e⟩
theorem LI.start{P:List bn}{nd gv:Nat->List Int}{W:List Nat}(hW:∀b,b<δ P->b∈W):LI P nd gv W (dP (δ P) []):=by have hr:∀{b:Nat} {s:List Int},(dP (δ P) ([]:List Int))[b]? =γ s->s=[]:=λe=>(tE (av e));exact⟨mZ,λs hs=>by exists tE hs;exact Ch.nil,λb s e x hx=>(by rw[hr e]at hx;cases hx),λb hb=>.inl (hW b hb),λb d s _ e hx=>by rw[hr e]at hx;cases hx⟩
theorem Ni(n:Nat):∀(v:CV),v.calm=ε->v.hasNot n=ε:=by
 intro v;refine CV.rec (motive_1:=λv=>v.calm=ε->v.hasNot n=ε) (motive_2:=λl=>SC l=ε->c_ n l=ε) ?_ ?_ ?_ ?_ ?_ ?_ ?_ ?_ ?_ ?_ ?_ ?_ ?_ ?_ ?_ ?_ ?_ ?_ v
 all_goals first
  |exact λ_=>rfl
  |exact λ_ _=>rfl
  |exact λ_ _ _=>rfl
  |(exact λ_ h=>(nomatch (show ζ=ε from h)))
  |(exact λ_ _ h=>(nomatch (show ζ=ε from h)))
  |exact λ_ ih h=>ih h
  |exact λ_ _ ih h=>ih h
  |(intro a l i1 i2 h;refine on (jp h) λh1 h2=>?_;exact dl (i1 h1) (i2 h2))
structure Dk(m:Nat) (ks:List Int) (vs:List CV):Prop where
 len:δ ks=δ vs
 le:δ ks<=m
 sol:Go vs=ε
theorem Dk.nil:Dk 0 [] []:=⟨rfl,aJ _,rfl⟩
theorem Dk.put{m:Nat}{ks:List Int}{vs:List CV}(h:Dk m ks vs){k:Int}{v:CV}(hv:v.solid=ε):Dk (m+1) (wv k ks) (IO k v ks vs):=⟨rB h.len,κ vi (bZ h.le),uC hv h.sol⟩
theorem Ba{k:Int}{ks:List Int}(h:k∈ks):wv k ks=ks:=by unfold wv;exists ak.mpr h,TK
theorem Dk.old{m:Nat}{ks:List Int}{vs:List CV}(h:Dk m ks vs){k:Int}(hk:k∈ks){v:CV}(hv:v.solid=ε):Dk m (wv k ks) (IO k v ks vs):=⟨rB h.len,by exists Ba hk;exact h.le,uC hv h.sol⟩
structure Wt(n:Nat) (R:List Nat) (ks:List Int) (vs:List CV):Prop where
 dk:Dk 20 ks vs
 mem:∀c:Nat,c<n->(c:Int)∈ks
 get:∀c:Nat,c<n->∃f,wf (c:Int) ks vs=γ (.bool f)/\(f=ε->c∈R)
theorem Wt.put{n:Nat}{R R':List Nat}{ks:List Int}{vs:List CV}(h:Wt n R ks vs){b:Nat}(hb:b<n){f:Bool}(hf:f=ε->b∈R')(hR:∀c∈R,c≠b->c∈R'):Wt n R' (wv (b:Int) ks) (IO (b:Int) (.bool f) ks vs):=by
 refine⟨h.dk.old (h.mem b hb) TK,λc hc=>by exists Ba (h.mem b hb);exact h.mem c hc,λc hc=>?_⟩;by_cases e:c=b
 ·subst e;exact⟨f,nB h.dk.len,hf⟩
 ·refine f4 (h.get c hc) λg h1 h2=>?_;exact⟨g,by exists n5 (λq:(c:Int)=(b:Int)=>e (aW q)) h.dk.len;exact h1,λq=>hR c (h2 q) e⟩
noncomputable def iO(li:List (List Int)):CV:=.list (li.map .set)
theorem BV{li:List (List Int)}{b:Nat}{s:List Int}(h:li[b]? =γ s):s0 (li.map CV.set) (b:Int)=γ (.set s):=by show(li.map CV.set)[b]? =_;exists aA;exists h;rfl
theorem j7(li:List (List Int)):Go (li.map CV.set)=ε:=KM (λ_=>rfl) _
def So(o:Option CV):Prop:=∀v,o=γ v->v.solid=ε
theorem So.some(h:v.solid=ε):So (γ v):=λw e=>by replace e:=ω e;subst e;exact h
noncomputable def lc(li lo:List (List Int))(W:List Nat)(ks:List Int)(vs:List CV)(T5:List Int)(T8:List CV):ad:=[γ (iO li),γ (iO lo),γ (sB W),γ (.dict ks vs),γ (.dict T5 T8)]
noncomputable def lL(P:List bn)(o1 a o2 o3 o4 o5 o6 o7:Option CV):L:=[(63,γ (Sc P)),(74,γ (.ref 0)),(73,γ (.ref 1)),(78,γ (.list ((ax (δ P)).map λt=>sB (pf P (δ P) t)))),(76,γ (.ref 2)),(80,γ (.ref 3)),(81,γ (.ref 4)),(36,o1),(75,a),(82,o2),(83,o3),(70,o4),(69,o5),(77,o6),(79,o7)]
theorem IC(hs:∀c,sm c)(hn:δ li<=1000)(hw:∀s∈li,Ch s)(l:List Nat):
  (∀t∈l,t<δ li)->∀(acc:List Int) (o:Option CV),So o->Ch acc->
  (∀UP o,So o->Ch UP->(∀x,x∈UP↔x∈acc\/∃t∈l,∃s,li[t]? =γ s/\x∈s)->N (lL P o1 a (γ (.ref 5)) o o4 o5 o6 o7) [γ (iO li),γ c1,γ c2,γ c3,γ c4,γ (.set UP)])->
  ZB sm (λx l c' K=>wT Φ (.name 83) x l c' λl c'=>fn Φ (.cons (.aug 82 .bor (.sub (.l 74) (.l 83))) .nil) fl l c' K K R) (l.map λ(i:Nat)=>CV.int i) (lL P o1 a (γ (.ref 5)) o o4 o5 o6 o7) [γ (iO li),γ c1,γ c2,γ c3,γ c4,γ (.set acc)] N:=by
 induction l with
 |nil=>exact λ_ acc o h1 h2 k=>k acc o h1 h2 λx=>⟨.inl,λh=>h.elim id λz0=>f4 z0 λ_ h _=>nomatch h⟩
 |cons t l ih=>intro hl acc o _ h2 k;have hg:=ag (hl t (.head _));generalize li[t]'(hl t (.head _))=z at hg;have hu:=h2.uni (hw z (av hg));refine wl (by exists φ ..,hn) (o:=s0 (li.map CV.set) (t:Int)) (BV hg) (ξ hu.ok (ξ (hs _) (ih (λu h=>hl u (.tail _ h)) (Re acc z) _ (So.some TK) hu λa o q1 q2 q3=>k a o q1 q2 λx=>?_)));rw[q3,eg,or_assoc];refine or_congr .rfl ⟨λh=>h.elim (λh=>⟨t,.head _,z,hg,h⟩) λz0=>f4 z0 λu h q=>⟨u,.tail _ h,q⟩,λ⟨u,h,s,e,q⟩=>(ab.mp h).elim (λeu=>.inl ?_) λh=>.inr ⟨u,h,s,e,q⟩⟩;rw[eu,hg]at e;exact ω e▸q
noncomputable def Cy:Ss:=.cons (.ife (.and (.cmp .isin (.l 79) (.l 80)) (.cons (.not (.sub (.l 81) (.l 79))) .nil)) (.cons (.g (.sub (.l 81) (.l 79)) (.i (.bool ε)))
 (.cons (.ex (.me .append (.l 76) (.l 79)))
 .nil)) .nil)
 .nil
theorem ID(hs:∀c,sm c)(hk:∀c:Nat,c<δ P->(c:Int)∈ks)(l:List Nat):
  (∀t∈l,t<δ P)->∀(W:List Nat) (T5:List Int) (T8:List CV) (o:Option CV),δ W+δ l<=1000->at_<=δ W->Wt (δ P) (W.drop at_) T5 T8->So o->
  (∀zs T5 T8 o,δ zs<=δ l->(∀z∈zs,z<δ P)->(∀c∈l,c∈(W++zs).drop at_)->Wt (δ P) ((W++zs).drop at_) T5 T8->So o->N (lL P o1 a o2 o3 o4 o5 o6 o) [γ c0,γ c1,γ (sB (W++zs)),γ (.dict ks vs),γ (.dict T5 T8)])->
  ZB sm (λx l c' K=>wT Φ (.name 79) x l c' λl c'=>fn Φ Cy fl l c' K K R) (l.map λ(i:Nat)=>CV.int i) (lL P o1 a o2 o3 o4 o5 o6 o) [γ c0,γ c1,γ (sB W),γ (.dict ks vs),γ (.dict T5 T8)] N:=by
 induction l with
 |nil=>intro _ W T5 T8 o _ _ h ho k;have:=k [] T5 T8 o (aJ _) (λ_ h=>nomatch h) (λ_ h=>nomatch h) (by exists aL ..,h) ho;rw[aL]at this;exact this
 |cons t l ih=>
  intro hl W T5 T8 o hW hat h _ k;have ht:=hl t (.head _);have Vj:∀u∈l,u<δ P:=λu h=>hl u (.tail _ h);obtain⟨f,g1,g2⟩:=h.get t ht;refine bC (b:=ks.contains (t:Int)) (ak.mpr (hk t ht)) (db (o:=wf (t:Int) T5 T8) g1 ?_);have hW':δ W+1+δ l<=1000:=by exists bP ..;exists b4 1 ..,hW
  induction f with
  |true=>exact⟨hs _,ih Vj W T5 T8 _ (κ (dq (jc _) _) hW) hat h (So.some TK) λzs k2 v2 o q1 q2 q3 q4=>k zs k2 v2 o (eY q1) q2 (λc hc=>(ab.mp hc).elim (λe=>by exists tx hat,b_ _ (e▸g2 TK)) (q3 c)) q4⟩
  |false=>have hd:(W++[t]).drop at_=W.drop at_++[t]:=tx hat;have Z0:at_<=δ (W++[t]):=(by exists Δ,eY hat);have:=ih Vj (W++[t]) (wv (t:Int) T5) (IO (t:Int) (.bool ε) T5 T8) _ (by exists Δ,hW') Z0 (h.put ht (λ_=>by exists hd,aI _ (.head _)) λc hc _=>by exists hd,b_ _ hc) (So.some (v:=.int t) TK) λzs k2 v2 o q1 q2 q3 q4=>(by rw[←dr]at q3 q4 ⊢;exact k (t::zs) k2 v2 o (bZ q1) (λz hz=>(ab.mp hz).elim (λe=>e▸ht) (q2 z)) (λc hc=>(ab.mp hc).elim (λe=>by exists tx hat,aI _ (e▸ .head _)) (q3 c)) q4);rw[uM]at this;exact KF (κ h.dk.le (by decide)) (by exists φ ..,κ (ao _ _) (κ (dM (jc _) _) hW')) ⟨hs _,this⟩
structure pb(P:List bn) (ys:List Nat) (ks:List Int) (vs:List CV) (T5:List Int) (T8:List CV):Prop where
 d1:Dk (δ ys) ks vs
 d2:Dk (δ ys) T5 T8
 m1:∀c∈ys,((c:Nat):Int)∈ks
 m2:∀c∈ys,((c:Nat):Int)∈T5
 g1:∀c∈ys,∃k nd gv,P[c]? =γ k/\tu k nd gv/\wf (c:Int) ks vs=γ (.tup [.set nd,.set gv])
 g2:∀c∈ys,wf (c:Int) T5 T8=γ (.bool ε)
theorem Pj{w z a s s':Nat}(h1:a<w)(h2:s'+1<=s)(h3:z<=6):w+z - (a+1)+7*s' < w - a+7*s:=by obtain⟨d,rfl⟩:=Nat.le.dest h1;rw[bP,Nat.succ_eq_add_one,mW,bP a,mW,bP,b4 1,bP];refine kR ?_ d;exact bp (pD (tX h3) _) (κ (b4 7 _▸d8 7 h2) (eZ _ _))
theorem pb.step{P:List bn}{ys:List Nat}{ks:List Int}{vs:List CV}{T5:List Int}{T8:List CV}(h:pb P ys ks vs T5 T8){b:Nat}{k:bn}{nd gv:List Int}(hk:P[b]? =γ k)(hn:tu k nd gv):
  pb P (ys++[b]) (wv (b:Int) ks) (IO (b:Int) (.tup [.set nd,.set gv]) ks vs) (wv (b:Int) T5) (IO (b:Int) (.bool ε) T5 T8):=by
 have hl:δ (ys++[b])=δ ys+1:=by exists Δ;rfl
 have UC:∀c∈ys++[b],c=b\/c∈ys:=λc hc=>(aw.mp hc).elim .inr λh=>.inl (Θ.mp h);refine⟨hl▸h.d1.put TK,hl▸h.d2.put TK,λc hc=>fX.mpr ((UC c hc).imp (λe=>TL _ e) (h.m1 c)),λc hc=>fX.mpr ((UC c hc).imp (λe=>TL _ e) (h.m2 c)),λc hc=>?_,λc hc=>?_⟩
 ·by_cases e:c=b
  ·subst e;exact⟨k,nd,gv,hk,hn,nB h.d1.len⟩
  ·obtain⟨k',YQ,gv',q1,q2,q3⟩:=h.g1 c ((UC c hc).resolve_left e);exact⟨k',YQ,gv',q1,q2,by exists n5 (λq:(c:Int)=(b:Int)=>e (aW q)) h.d1.len,q3⟩
 ·by_cases e:c=b
  ·subst e;exact nB h.d2.len
  ·exists n5 (λq:(c:Int)=(b:Int)=>e (aW q)) h.d2.len,h.g2 c ((UC c hc).resolve_left e)
theorem Nj:eO (dP n [])=14*n:=by
 induction n with
 |zero=>rfl
 |succ n ih=>refine ac List.replicate_succ ?_;show 14 - 0+eO (dP n [])=_;exists ih,b4 _ _
theorem vo:([]:List CV)++(gf n P).flatMap (λ_=>[CV.set []])=(dP (δ P) []).map CV.set:=by exists On ..,ac (aB ..) (ac (List.map_const' ..) (ac (Fo ..) (io (φ (f:=λp:Nat×bn=>p.2) ..) (ac (rE ..) TK))))
theorem dU{α σ:Type}{enc}{ys}{sm:ad->Prop}{f:CV->List CV->L->ad->(List CV->L->ad->Prop)->Prop}{N:List CV->L->ad->Prop}(lf:σ->L)(c:ad)(out:α->List CV)(xs:List α)(he:ys=xs.map enc)
  (turn:∀x s r K,x∈xs->δ (r++out x)<=1000->(∀s,K (r++out x) (lf s) c)->f (enc x) r (lf s) c K) (hs:sm c) (r:List CV) (s:σ) (hr:δ (r++xs.flatMap out)<=1000) (k:∀s,N (r++xs.flatMap out) (lf s) c):cA sm f ys r (lf s) c N:=by
 exists he,jD lf c out (· ∈xs) turn hs xs r s (λ_ h=>h) hr k
noncomputable def C_:Ss:=(.cons (.g (.name 36) (.sub (.l 76) (.l 75)))
 (.cons (.aug 75 .add (.i (.int 1)))
 (.cons (.g (.sub (.l 81) (.l 36)) (.i (.bool ζ)))
 (.cons (.g (.name 82) (.bi .set0 ε .nil))
 (.cons (.for (.name 83) ζ (.call 50 (.cons (.sub (.attr (.l 63) 40) (.l 36)) .nil)) (.cons (.aug 82 .bor (.sub (.l 74) (.l 83)))
 .nil))
 (.cons (.frz 82)
 (.cons (.g (.sub (.l 73) (.l 36)) (.l 82))
 (.cons (.g (.tup (.cons (.name 70) (.cons (.name 69) .nil))) (.sub (.l 80) (.l 36)))
 (.cons (.g (.name 77) (.bin .bor (.l 70) (.bin .sub (.l 82) (.l 69))))
 (.cons (.ife (.cmp .ne (.l 77) (.sub (.l 74) (.l 36))) (.cons (.g (.sub (.l 74) (.l 36)) (.l 77))
 (.cons (.for (.name 79) ζ (.sub (.l 78) (.l 36)) Cy)
 .nil)) .nil)
 .nil))))))))))
structure LS(P:List bn) (nd gv:Nat->List Int) (ks:List Int) (vs:List CV) (at_:Nat) (li lo:List (List Int)) (W:List Nat) (T5:List Int) (T8:List CV):Prop where
 hli:LI P nd gv (W.drop at_) li
 hlo:δ lo=δ P
 hwl:∀b∈W,b<δ P
 hat:at_<=δ W
 hwt:Wt (δ P) (W.drop at_) T5 T8
 hb:δ W+7*eO li<=600
theorem So.none:So η:=λ_ e=>nomatch e
theorem LS.same(h:LS P nd gv ks vs at_ li lo W T5 T8)(hat:at_<δ W)(hb:W[at_]=b)(hs:li[b]? =γ A)(hA:∀x,x∈A↔Fx P nd gv li b x)(hw:Wt (δ P) (W.drop (at_+1)) (wv (b:Int) T5) (IO (b:Int) (.bool ζ) T5 T8))(acc:List Int):
  LS P nd gv ks vs (at_+1) li (lo.set b acc) W (wv (b:Int) T5) (IO (b:Int) (.bool ζ) T5 T8):=by
 have hli:=h.hli;rw[iX hat,hb]at hli;exact⟨hli.same hs hA,by exists cZ;exact h.hlo,h.hwl,hat,hw,h.hb⟩
theorem LS.change(hP:δ P<=6)(hN:mQ P nd gv)(h:LS P nd gv ks vs at_ li lo W T5 T8)(hat:at_<δ W)(hb:W[at_]=b)(hbP:b<δ P)(hs:li[b]? =γ s)(hA:∀x,x∈A↔Fx P nd gv li b x)(hu:Ch A)(ne:A≠s)
  (WT:δ zs<=δ (pf P (δ P) b)) (Yn:∀z∈zs,z<δ P) (Yo:∀c∈pf P (δ P) b,c∈(W++zs).drop (at_+1)) (Yp:Wt (δ P) ((W++zs).drop (at_+1)) ks3 vs3) (acc:List Int):
  LS P nd gv ks vs (at_+1) (li.set b A) (lo.set b acc) (W++zs) ks3 vs3/\(δ (W++zs) - (at_+1))+7*eO (li.set b A)<(δ W - at_)+7*eO li:=by
 have hli:=h.hli;rw[iX hat,hb]at hli;have hlen:δ s<δ A:=(JO (hli.w s (av hs)).1 hu.1 λx hx=>(hA x).mpr (hli.inc b s hs x hx)).resolve_left λe=>ne e.symm;have Yq:=Nh hu.len hs hlen;have hz:δ zs<=6:=κ WT (by exact κ (fP _ _) (by exists bG,hP));have Vv:=h.hb;have Z1:(W++zs).drop (at_+1)=W.drop (at_+1)++zs:=tx hat;refine⟨⟨hli.change hN hbP hs hA hu (λc hc=>by exists Z1,b_ _ hc) Yo,by exists cZ;exact h.hlo,λc hc=>(aw.mp hc).elim (h.hwl c) (Yn c),by exists Δ;exact κ hat (ao _ _),Yp,?_⟩,?_⟩
 ·exists Δ;clear Yp Yo Yn hA h hN hli Z1 hlen WT hP;exact κ (by rw[bP];exact dq (κ (dM (eY hz) _) (by rw[b4];exact d8 7 Yq)) _) Vv
 ·exists Δ;clear Yp Yo Yn hA h hN hli Z1 hlen WT hP;exact Pj hat Yq hz
theorem vq{li:List (List Int)}{b:Nat}{A:List Int}:iO (li.set b A)= .list ((li.map CV.set).set b (.set A)):=TL CV.list uA
theorem Q1(h1:wV 5 o1=ε)(ha:wV 5 a=ε)(h3:So o3)(h4:So o4)(h5:So o5)(h6:So o6)(h7:So o7):rN 5 82 (lL P o1 a o2 o3 o4 o5 o6 o7)=ε:=
 dl (Ni 5 _ (fU P)) (dl TK (dl TK (dl (hY (KM (λt=>j6 _) _)) (dl TK (dl TK (dl TK (dl h1 (dl ha (dl TK (dl (jo h3) (dl (jo h4) (dl (jo h5) (dl (jo h6) (dl (jo h7) TK))))))))))))))
theorem K9(hP:δ P<=6)(hS:∀b∈P,∀t∈b.2.succ,t<δ P)(hN:mQ P nd gv)(hd:Dk 20 ks vs)(hk:∀c:Nat,c<δ P->(c:Int)∈ks)(hg:∀c:Nat,c<δ P->wf (c:Int) ks vs=γ (.tup [.set (nd c),.set (gv c)]))
  (h:LS P nd gv ks vs at_ li lo W T5 T8) (hat:at_<δ W) (s3:So o3) (s4:So o4) (s5:So o5) (s6:So o6) (s7:So o7)
  (k:∀o1 o2 o3 o4 o5 o6 o7 WN YY W' Yr Ys,So o3->So o4->So o5->So o6->So o7->LS P nd gv ks vs (at_+1) WN YY W' Yr Ys/\(δ W' - (at_+1))+7*eO WN<(δ W - at_)+7*eO li->K (lL P o1 (γ (.int (at_+1:Nat))) o2 o3 o4 o5 o6 o7) (lc WN YY W' ks vs Yr Ys)):
  fn (Ph (n+1)) C_ 0 (lL P o1 (γ (.int at_)) o2 o3 o4 o5 o6 o7) (lc li lo W ks vs T5 T8) K C R:=by
 have Wo:=ag hat;generalize YZ:W[at_]=b at Wo;have hb:b<δ P:=h.hwl b (av Wo);have Yt:=ag hb;generalize P[b]=kb at Yt;have Y0:δ W<=600:=κ (ao _ _) h.hb;have hli:=h.hli;have VJ:δ li<=1000:=by exists hli.len,κ hP (by decide)
 have VK:b<δ li:=by exists hli.len,hb
 have hs:=ag VK;generalize li[b]=s at hs;have N:=hN b kb Yt;have Xj:Wt (δ P) (W.drop (at_+1)) (wv (b:Int) T5) (IO (b:Int) (.bool ζ) T5 T8):=h.hwt.put hb (λe=>nomatch e) λc hc hn=>by rw[iX hat,YZ]at hc;exact(ab.mp hc).resolve_left hn
 have hWa:s0 (W.map λ(i:Nat)=>CV.int i) (at_:Int)=γ (.int b):=by show(W.map λ(i:Nat)=>CV.int i)[at_]? =_;exists aA;exists Wo;rfl
 refine wl (by exists φ ..,κ Y0 (by decide)) (o:=s0 (W.map λ(i:Nat)=>CV.int i) (at_:Int)) hWa (ξ (κ h.hwt.dk.le (by decide)) ?_);refine wl (by exists jf,κ hP (by decide)) (o:=s0 (dD 0 P) (b:Int)) (rG Yt) (qb (i:=b) (b:=kb) (by rfl) ?_);refine IC (P:=P) (a:=γ (.int (at_+1:Nat))) (li:=li) (λ_=>trivial) VJ hli.w kb.2.succ (λt ht=>by exists hli.len,hS kb (av Yt) t ht) [] _ s3 Ch.nil λacc o so VB hax=>?_;have hu:Ch (Re (nd b) (cu acc (gv b))):=N.n.uni VB.diff;have hA:∀x,x∈Re (nd b) (cu acc (gv b))↔Fx P nd gv li b x:=λx=>by rw[eg,jd,hax,←qI Yt];exact or_congr .rfl (and_congr ⟨λh=>h.resolve_left (λh=>nomatch h),.inr⟩ .rfl)
 have Yu:δ (lo.map CV.set)=δ P:=by exists φ ..,h.hlo
 refine ξ ⟨cN _,rfl,rfl,Q1 TK TK so s4 s5 s6 s7,dl (hY (j7 li)) (dl (hY (j7 lo)) (dl (hY (KM (λ_=>rfl) W)) (dl (hY hd.sol) (dl (hY Xj.dk.sol) TK))))⟩ ?_;refine wl ⟨aE _,by exists Yu;exact aX.mpr hb,by exists Yu,κ hP (by decide)⟩ (o:=wf (b:Int) ks vs) (hg b hb) (ξ hu.ok ?_);have Yv:δ (li.map CV.set)<=1000:=by exists φ ..,VJ
 refine wl Yv (o:=s0 (li.map CV.set) (b:Int)) (BV hs) (Ev (b:=Re (nd b) (cu acc (gv b)) != s) (λz=>?_) λz=>?_)
 ·refine jI ⟨aE _,by exists φ ..;exists hli.len ..;exact aX.mpr hb,Yv⟩ (by exists φ ..;exists bG ..,κ hP (by decide)) (o:=s0 ((ax (δ P)).map λt=>sB (pf P (δ P) t)) (b:Int)) (kc hb) ?_;have Xk:δ (pf P (δ P) b)<=6:=by exact κ (fP _ _) (by exists bG,hP)
  refine ID (P:=P) (a:=γ (.int (at_+1:Nat))) (λ_=>trivial) hk (pf P (δ P) b) (λt ht=>(wc.mp ht).1) W _ _ _ (κ (g9 Y0 Xk) (by decide)) hat Xj s7 λzs k2 v2 o' WT Yn Yo Yp so'=>?_;have:=k (γ (.int b)) (γ (.set acc)) o (γ (.set (nd b))) (γ (.set (gv b))) (γ (.set (Re (nd b) (cu acc (gv b))))) o' (li.set b (Re (nd b) (cu acc (gv b)))) (lo.set b acc) (W++zs) k2 v2 so (So.some TK) (So.some TK) (So.some TK) so' (h.change hP hN hat YZ hb hs hA hu (TP.mp z) WT Yn Yo Yp acc);unfold lc at this;rw[vq,vq]at this;exact this
 ·have e:Re (nd b) (cu acc (gv b))=s:=tD λn=>by rw[TP.mpr n]at z;exact eH z
  have:=k (γ (.int b)) (γ (.set acc)) o (γ (.set (nd b))) (γ (.set (gv b))) (γ (.set (Re (nd b) (cu acc (gv b))))) o7 li (lo.set b acc) W _ _ so (So.some TK) (So.some TK) (So.some TK) s7 ⟨h.same hat YZ hs (λx=>by refine io e ?_;exact hA x) Xj acc,pD (xJ _ _ hat) _⟩;unfold lc at this;rw[vq]at this;exact this
theorem Pk(h1:Fz c a x)(h2:Fz c b y):Fz c (.tup [a,b]) (.tup [x,y]):=.kids (v:=.tup [a,b]) (ys:=[x,y]) (.cons h1 (.cons h2 .nil)) TK
noncomputable def R_(at_:Nat)(li:List (List Int))(W:List Nat):Nat:=(δ W - at_)+7*eO li
noncomputable def Se:E:=.cmp .lt (.l 75) (.bi .len ζ (.cons (.l 76) .nil))
theorem K_(hP:δ P<=6)(hS:∀b∈P,∀t∈b.2.succ,t<δ P)(hN:mQ P nd gv)(hd:Dk 20 ks vs)(hk:∀c:Nat,c<δ P->(c:Int)∈ks)(hg:∀c:Nat,c<δ P->wf (c:Int) ks vs=γ (.tup [.set (nd c),.set (gv c)]))
  (k:∀o1 at_ o2 o3 o4 o5 o6 o7 li lo W T5 T8,LI P nd gv [] li->N (lL P o1 (γ (.int (at_:Nat))) o2 o3 o4 o5 o6 o7) (lc li lo W ks vs T5 T8)) (m:Nat):
  ∀(at_:Nat) (li lo:List (List Int)) (W:List Nat) (T5:List Int) (T8:List CV) (o1 o2 o3 o4 o5 o6 o7:Option CV),LS P nd gv ks vs at_ li lo W T5 T8->R_ at_ li W<m->So o3->So o4->So o5->So o6->So o7->
  kO (λl c Q=>jB (Ph (n+1)) Se l c Q) (λl c K=>fn (Ph (n+1)) C_ 0 l c K K R) m (lL P o1 (γ (.int at_)) o2 o3 o4 o5 o6 o7) (lc li lo W ks vs T5 T8) N:=by
 induction m with
 |zero=>exact λ_ _ _ _ _ _ _ _ _ _ _ _ _ _ h=>absurd h (pT _)
 |succ m ih=>
  intro at_ li lo W k2 v2 o1 o2 o3 o4 o5 o6 o7 hs hm s3 s4 s5 s6 s7;have Y0:δ (W.map λ(i:Nat)=>CV.int i)<=1000:=by exists φ ..,κ (ao _ _) (κ hs.hb (by decide))
  refine ξ Y0 (Ev (b:=decide ((at_:Int)<(δ (W.map λ(i:Nat)=>CV.int i):Int))) (λz=>?_) λz=>?_)
  ·have z':=TN z;rw[φ]at z';exact K9 hP hS hN hd hk hg hs (aX.mp z') s3 s4 s5 s6 s7 λo1 o2 o3 o4 o5 o6 o7 WN YY W' k2 v2 t3 t4 t5 t6 t7 h=>ih (at_+1) WN YY W' k2 v2 o1 o2 o3 o4 o5 o6 o7 h.1 (bp h.2 (gn hm)) t3 t4 t5 t6 t7
  ·have z':=of_decide_eq_false z;rw[φ]at z';have hli:=hs.hli;rw[mY (cb λq=>z' (aX.mpr q))]at hli;exact k _ _ _ _ _ _ _ _ _ _ _ _ _ hli
noncomputable def Sf:Ss:=(.cons (.g (.sub (.l 80) (.l 36)) (.call 72 (.cons (.sub (.attr (.l 63) 40) (.l 36)) .nil)))
 (.cons (.g (.sub (.l 81) (.l 36)) (.i (.bool ε)))
 .nil))
theorem JP(hs:∀ks vs T5 T8,sm (lc li lo W ks vs T5 T8))(ok:bE P)(hP:δ P<=6)(xs:List Nat):(∀b∈xs,b<δ P)->∀(ys:List Nat) (ks:List Int) (vs:List CV) (T5:List Int) (T8:List CV) (o:Option CV),pb P ys ks vs T5 T8->δ ys+δ xs<=6->
  (∀ks vs T5 T8 o,pb P (ys++xs) ks vs T5 T8->N (lL P o η η η η η η η) (lc li lo W ks vs T5 T8))->
  ZB sm (λx l c' K=>wT (Ph (n+1)) (.name 36) x l c' λl c'=>fn (Ph (n+1)) Sf fl l c' K K R) (xs.map λ(i:Nat)=>CV.int i) (lL P o η η η η η η η) (lc li lo W ks vs T5 T8) N:=by
 induction xs with
 |nil=>exact λ_ ys ks vs T5 T8 o h _ k=>k ks vs T5 T8 o (by exists aL ..,h)
 |cons b xs ih=>intro hl ys ks vs T5 T8 o h hy k;have hb:=hl b (.head _);have hg:=ag hb;generalize P[b]=kb at hg;have Wv:δ ys<=6:=κ (ao _ _) hy;refine wl (by exists jf,κ hP (by decide)) (o:=s0 (dD 0 P) (b:Int)) (rG hg) (M2 (i:=b) (b:=kb) (by rfl) (ok.b kb (av hg)) λnd gv q1 q2 q3 q4=>?_);exact KF (κ h.d1.le (κ Wv (by decide))) (κ h.d2.le (κ Wv (by decide))) ⟨hs _ _ _ _,ih (λc hc=>hl c (.tail _ hc)) (ys++[b]) _ _ _ _ _ (h.step hg ⟨q1,q2,q3,q4⟩) (by exists Δ,κ (a5 (Nat.succ_add_eq_add_succ _ _)) hy) λks vs T5 T8 o h=>k ks vs T5 T8 o (by rw[←dr]at h;exact h)⟩
theorem Pl(hP:δ P<=6)(ok:bE P)(hre:∀l,td P l->∀b,b<δ P->b∈l):wb P:=by
 intro n args c Q e q;refine TT TK TK e (dl (fU P) TK) (ξ TK ?_);have Zy:δ P<=12:=κ hP (by decide);have Xl:δ (gf 0 P)=δ P:=by exact io (φ (f:=λp:Nat×bn=>p.2)) (ac rE TK)
 have VD:δ ([]++(gf 0 P).flatMap (λ_=>[CV.set []]))<=1000:=by rw[vo,φ,mZ];exact κ hP (by decide)
 have turn:∀(x:Nat×bn) (s:Option CV) (r:List CV) {K:Prop},δ (r++[CV.set []])<=1000->K->δ r<=1000/\K:=λx s r K hr k=>⟨by rw[Δ]at hr;exact κ (ao _ _) hr,k⟩;refine dU (σ:=Option CV) (enc:=λx:Nat×bn=>b8 x.1 x.2) (λs=>[(49,s)]) [] (λx:Nat×bn=>[.set []]) (gf 0 P) qG (λx s r K _ hr k=>turn x s r hr (k _)) TQ [] η VD λs=>?_;exists vo;refine dU (σ:=Option CV) (enc:=λx:Nat×bn=>b8 x.1 x.2) (λs=>[(49,s)]) [γ (iO (dP (δ P) []))] (λx:Nat×bn=>[.set []]) (gf 0 P) qG (λx s r K _ hr k=>turn x s r hr (k _)) TQ [] η VD λs=>?_;exists vo;refine A2 (P:=P) (κ hP (by decide)) ok.s (by rfl) (HE (P:=P) Zy ok.z ok.s (by rfl) λl Xi=>?_);have Yl:δ l<=6:=κ (A_ Xi.nd Xi.lt) hP;have UQ:=hre l Xi;refine JP (n:=n+1) (by exact λ_ _ _ _=>rfl) ok hP l Xi.lt [] [] [] [] [] η ⟨Dk.nil,Dk.nil,λc h=>(nomatch h),λc h=>(nomatch h),λc h=>(nomatch h),λc h=>(nomatch h)⟩ (by rw[cC,az];exact Yl) λks vs T5 T8 o h2=>?_;rw[aB]at h2;have hsk:∀b:Nat,∃y:List Int×List Int,∀k,P[b]? =γ k->tu k y.1 y.2/\wf (b:Int) ks vs=γ (.tup [.set y.1,.set y.2]):=λb=>by
  cases hk:P[b]? with
  |none=>exact⟨([],[]),λk e=>nomatch e⟩
  |some k=>obtain⟨k',nd,gv,q1,q2,q3⟩:=h2.g1 b (UQ b (ay.mp hk).1);exact⟨(nd,gv),λk0 e=>by rw[hk]at q1;refine io (ω e) (ac (ω q1) ?_);exact⟨q2,q3⟩⟩
 obtain⟨f,hf⟩:=Classical.axiomOfChoice hsk;have Wv:δ l<=20:=κ Yl (by decide);have hm:δ l+7*eO (dP (δ P) [])<=600:=by exists Nj;clear hf h2 UQ Xl VD turn;exact κ (g9 Yl (d8 7 (d8 14 hP))) (by decide)
 have hN:mQ P (λb=>(f b).1) (λb=>(f b).2):=λb k e=>(hf b k e).1;refine K_ (n:=n+1) hP ok.s hN ⟨h2.d1.len,κ h2.d1.le Wv,h2.d1.sol⟩ (λc hc=>h2.m1 c (UQ c hc)) (λc hc=>(hf c _ (ag hc)).2) (λo1 at_ o2 o3 o4 o5 o6 o7 li lo W T5 T8 hli=>?_) 1000 0 (dP (δ P) []) (dP (δ P) []) l T5 T8 o η η η η η η
  ⟨LI.start UQ,mZ,Xi.lt,cN _,⟨⟨h2.d2.len,κ h2.d2.le Wv,h2.d2.sol⟩,λc hc=>h2.m2 c (UQ c hc),λc hc=>⟨ε,h2.g2 c (UQ c hc),λ_=>UQ c hc⟩⟩,hm⟩ (aR hm (by decide)) So.none So.none So.none So.none So.none
 exact ξ (an TK) ⟨_,Pk (jm TK (j7 li)) (jm TK (j7 lo)),dl (j7 li) (dl (j7 lo) TK),q li (iO lo) (j7 lo) (hli.done hN)⟩
theorem vr:f8 (c++a::tl) (δ c)=a:=by unfold f8;rw[gh (aJ _),hU];rfl
theorem Tl:dL (c++a::tl) (δ c) v=c++γ v::tl:=by unfold dL;rw[tL _ _ (aJ _),hU];rfl
theorem Pn(q:Q .none (c++[γ (.sdict [44,43,42,41,40,39,38] [x,.list [],.bool ζ,.list [],.ref (δ c+1),.int 0,.bool ζ]),γ (.list [])])):Ph (n+1) 45 [.inst 2 (.ref (δ c)),x] (c++[γ (.sdict [] [])]) Q:=by
 have hl:∀{y:Option CV},δ (c++[y])=δ c+1:=Δ;refine fm TK (wl TK jh (ξ (an TK) (ξ (an TK) (db (a:=CV.sdict [44] [x]) ?_ (ξ (an TK) (db (a:=CV.sdict [44,43] [x,.list []]) ?_ (ξ (an TK) (ξ (an TK) (db (a:=CV.sdict [44,43,42] [x,.list [],.bool ζ]) ?_ (ξ (an TK) (ξ (an TK) (db (a:=CV.sdict [44,43,42,41] [x,.list [],.bool ζ,.list []]) ?_ (ξ (an TK) ?_)))))))))))))
 ·show f8 (dL (c++[γ (.sdict [] [])]) (δ c) _) (δ c)=_;exists Tl,jh
 ·show f8 (dL (dL (c++[γ (.sdict [] [])]) (δ c) _) (δ c) _) (δ c)=_;exists Tl;exists Tl,jh
 ·show f8 (dL (dL (dL (c++[γ (.sdict [] [])]) (δ c) _) (δ c) _) (δ c) _) (δ c)=_;exists Tl;exists Tl;exists Tl,jh
 ·show f8 (dL (dL (dL (dL (c++[γ (.sdict [] [])]) (δ c) _) (δ c) _) (δ c) _) (δ c) _++[γ (.list [])]) (δ c)=_;rw[Tl,Tl,Tl,Tl,bF];exact vr
 ·refine db (a:=CV.sdict [44,43,42,41,40] [x,.list [],.bool ζ,.list [],.ref (δ c+1)]) ?_ (ξ (an TK) (db (a:=CV.sdict [44,43,42,41,40,39] [x,.list [],.bool ζ,.list [],.ref (δ c+1),.int 0]) ?_ (ξ (an TK) ?_)))
  ·show f8 (dL (dL (dL (dL (dL (c++[γ (.sdict [] [])]) (δ c) _) (δ c) _) (δ c) _) (δ c) _++[γ (.list [])]) (δ c) (.sdict _ [x,.list [],.bool ζ,.list [],.ref (δ (dL (dL (dL (dL (c++[γ (.sdict [] [])]) (δ c) _) (δ c) _) (δ c) _) (δ c) _))])) (δ c)=_;rw[Tl,Tl,Tl,Tl,bF,hl];exact(TL (f8 · (δ c)) Tl).trans vr
  ·show f8 (dL (dL (dL (dL (dL (dL (c++[γ (.sdict [] [])]) (δ c) _) (δ c) _) (δ c) _) (δ c) _++[γ (.list [])]) (δ c) (.sdict _ [x,.list [],.bool ζ,.list [],.ref (δ (dL (dL (dL (dL (c++[γ (.sdict [] [])]) (δ c) _) (δ c) _) (δ c) _) (δ c) _))])) (δ c) _) (δ c)=_;rw[Tl,Tl,Tl,Tl,bF,hl];show f8 (dL (dL (c++_::_) (δ c) _) (δ c) _) (δ c)=_;rw[Tl,Tl];exact vr
  ·show Q .none (dL (dL (dL (dL (dL (dL (dL (c++[γ (.sdict [] [])]) (δ c) _) (δ c) _) (δ c) _) (δ c) _++[γ (.list [])]) (δ c) (.sdict _ [x,.list [],.bool ζ,.list [],.ref (δ (dL (dL (dL (dL (c++[γ (.sdict [] [])]) (δ c) _) (δ c) _) (δ c) _) (δ c) _))])) (δ c) _) (δ c) _);rw[Tl,Tl,Tl,Tl,bF,hl];show Q .none (dL (dL (dL (c++_::_) (δ c) _) (δ c) _) (δ c) _);rw[Tl,Tl,Tl];exact q
theorem cm:f8 (c++X) (δ c+j)=f8 X j:=by unfold f8;rw[gh (ao _ _),mW]
theorem kg:dL (c++X) (δ c+j) v=c++dL X j v:=by unfold dL;rw[tL _ _ (ao _ _),mW]
theorem jq(hx:pc l x=γ (.inst cls (.ref (δ c+j))))(he:∀Q:CV->ad->Prop,Q v (c++X)->wE Φ e l (c++X) Q)
  (hX:f8 X j=γ (.sdict ks vs)) (hl:iz (δ ks) 1000=ε) (k:fn Φ ss fl l (c++dL X j (.sdict (wv n ks) (IO n v ks vs))) N C R):fn Φ (.cons (.g (.attr (.l x) n) e) ss) fl l (c++X) N C R:=by
 refine he _ (db (o:=pc l x) hx (db (o:=f8 (c++X) (δ c+j)) (cm.trans hX) ⟨an hl,?_⟩));exists kg,k
theorem we(hx:pc l x=γ (.inst cls (.ref (δ c+i))))(hX:f8 X i=γ (.sdict ks vs))(hd:wf 40 ks vs=γ (.ref (δ c+j)))
  (hj:f8 X j=γ (.list L')) (hL:δ L'<=1000) (hy:pc l y=γ v) (k:fn Φ ss fl l (c++dL X j (.list (L'++[v]))) N C R):fn Φ (.cons (.ex (.me .append (.attr (.l x) 40) (.l y))) ss) fl l (c++X) N C R:=by
 have h1:jz (c++X) 40 (.inst cls (.ref (δ c+i)))=γ (.ref (δ c+j)):=by show(f8 (c++X) (δ c+i)).bind (jy 40)=_;exists cm;exists hX,hd
 have h2:dB .append (c++X) (.ref (δ c+j))=γ ():=by show(f8 (c++X) (δ c+j)).bind _=_;exists cm;exists hj;rfl
 have h3:(f8 (c++X) (δ c+j)).bind a9=γ L':=by exists cm;exists hj;rfl
 refine db (o:=pc l x) hx (db h1 (db h2 (db (o:=pc l y) hy (db h3 ⟨hL,?_⟩))));exists kg,k
theorem Bb(hX:δ X=m)(he:∀Q:CV->ad->Prop,Q i (c++X)->wE (Ph (n+1)) e l (c++X) Q)
  (k:fn (Ph (n+1)) ss fl (putL l y (.inst 1 (.ref (δ c+m)))) (c++(X++[γ (.sdict [36,35,34] [i,.list [],.none])])) N C R):fn (Ph (n+1)) (.cons (.g (.name y) (.new 37 1 ζ (.cons e .nil))) ss) fl l (c++X) N C R:=by
 refine he _ (A9 (c:=c++X) ⟨rfl,?_⟩);rw[Δ,hX,bF];exact k
theorem Po(q:Q .none [γ (.sdict [52,40,51] [a,b,d])]):Ph (n+1) 53 [.inst 3 (.ref 0),a,b,d] [γ (.sdict [] [])] Q:=
 fm TK (bN TK (an TK) (an TK) (an TK) q)
noncomputable def bc:Nat->List bn->ad|_,[]=>[]|i,b::P=>γ (cI i b)::bc (i+1) P
noncomputable def refs(k n:Nat):List CV:=(ax n).map λ(i:Nat)=>.inst 1 (.ref (k+(i+2)))
noncomputable def rc(k:Nat)(P:List bn):ad:=γ (gN (.ref (k+1)))::γ (.list (refs k (δ P)))::bc 0 P
theorem u9:refs k (n+1)=refs k n++[.inst 1 (.ref (k+(n+2)))]:=by unfold refs;exists ud;exists aj;rfl
theorem fe:δ (refs k n)=n:=by unfold refs;exists φ ..,ac (bG ..) TK
theorem vt(h:i<n):(refs k n)[i]? =γ (.inst 1 (.ref (k+(i+2)))):=by unfold refs;exists aA;exists jS h;rfl
theorem wg:∀{i:Nat},bc i (P++[b])=bc i P++[γ (cI (i+δ P) b)]:=by
 induction P with
 |nil=>exact rfl
 |cons a P ih=>intro i;show _::bc (i+1) (P++[b])=_::(bc (i+1) P++_);rw[ih,cV];rfl
theorem iA:∀{i:Nat},δ (bc i P)=δ P:=by
 induction P with
 |nil=>exact rfl
 |cons a P ih=>exact TL (· +1) ih
theorem wB:∀{i j:Nat} {b:bn},P[j]? =γ b->f8 (bc i P) j=γ (cI (i+j) b):=by
 induction P with
 |nil=>exact λh=>nomatch h
 |cons a P ih=>
  intro i j b h;induction j using b5 with
  |zero=>replace h:=ω h;subst h;rfl
  |succ j=>have:=ih (i:=i+1) (j:=j) h;rw[cV]at this;exact this
theorem Cz:∀{i j:Nat},dL (bc i P) j (cI (i+j) b)=bc i (P.set j b):=by
 induction P with
 |nil=>exact rfl
 |cons a P ih=>
  intro i j;induction j using b5 with
  |zero=>rfl
  |succ j=>have:=ih (i:=i+1) (j:=j);rw[cV]at this;exact TL (_::·) this
theorem BW(h:f8 c m=γ (.sdict ks l)):ul c (n+1) (.ref m)= .lend (.sdict ks (l.map (ul c n))):=by show(match f8 c m with|some (.list l)=>CV.lend (.list (l.map (ul c n)))|some (.sdict ks l)=>.lend (.sdict ks (l.map (ul c n)))|some x=>.lend x|.none=>.ref m)=_;exists h,TK
theorem Pp(h:f8 c m=γ (.list l)):ul c (n+1) (.ref m)= .lend (.list (l.map (ul c n))):=by show(match f8 c m with|some (.list l)=>CV.lend (.list (l.map (ul c n)))|some (.sdict ks l)=>.lend (.sdict ks (l.map (ul c n)))|some x=>.lend x|.none=>.ref m)=_;exists h,TK
theorem ic:ul (c++rc (δ c) P) 8 (.inst 2 (.ref (δ c)))=Sc P:=by
 have h0:f8 (c++rc (δ c) P) (δ c)=γ (gN (.ref (δ c+1))):=cm (j:=0);have h1:f8 (c++rc (δ c) P) (δ c+1)=γ (.list (refs (δ c) (δ P))):=cm (j:=1);have h2:(refs (δ c) (δ P)).map (ul (c++rc (δ c) P) 5)=dD 0 P:=by
  refine m6 λi=>?_;by_cases q:i<δ P
  ·have hb:=ag q;have h3:f8 (c++rc (δ c) P) (δ c+(i+2))=γ (cI i P[i]):=(by exists cm;have:=wB (i:=0) hb;rw[az]at this;exact this);rw[aA,vt q,qD hb,az];show γ (CV.inst 1 (ul (c++rc (δ c) P) 4 (.ref _)))=γ (b8 i P[i]);rw[BW h3];rfl
  ·exists dp (by rw[φ,fe];exact cb q),ac (dp (by rw[jf];exact cb q)) TK
 show CV.inst 2 (ul _ 7 (.ref (δ c)))=_;rw[BW h0];show CV.inst 2 (.lend (.sdict [44,43,42,41,40,39,38] [_,_,_,_,ul _ 6 (.ref (δ c+1)),_,_]))=_;rw[Pp h1,h2];rfl
theorem JQ(hs:Go [a,b,d,m]=ε)(he:∀Q:List CV->ad->Prop,Q [a,b,d,m] c->iR (Ph (n+1)) es l c Q)(q:Q (.inst 0 (jE a b d m)) c):wE (Ph (n+1)) (.new 33 0 ε es) l c Q:=by refine on (jp hs) λha hc=>?_;refine on (jp hc) λhb hc=>?_;refine on (jp hc) λhd hc=>?_;refine on (jp hc) λhm _=>?_;exact he _ ⟨lQ hs,n8 ⟨rfl,dl ha (dl hb (dl hd (dl hm TK))),q⟩⟩
noncomputable def Dc:Ss:=(.cons (.g (.name 49) (.new 37 1 ζ (.cons (.l 36) .nil)))
 (.cons (.g (.attr (.l 49) 35) (.comp ζ [] [32,31,30,29] (.tup (.cons (.name 32) (.cons (.name 31) (.cons (.name 30) (.cons (.name 29) .nil))))) ζ (.l 95) .nil (.last (.new 33 0 ε (.cons (.l 32) (.cons (.l 31) (.cons (.bi .list ζ (.cons (.l 30) .nil)) (.cons (.l 29) .nil))))))))
 (.cons (.g (.attr (.l 49) 34) (.new 33 0 ε (.cons (.sub (.l 34) (.i (.int 0))) (.cons (.neg (.i (.int 1))) (.cons (.bi .list ζ (.cons (.sub (.l 34) (.i (.int 1))) .nil)) (.cons (.sub (.l 34) (.i (.int 2))) .nil))))))
 (.cons (.ex (.me .append (.attr (.l 133) 40) (.l 49)))
 .nil))))
theorem La(bs:List bn)(b:bn)(hb:δ b.1<=1000)(hl:δ bs<=1000)
  (k:∀o1 o2 o3 o4,K [(129,A),(133,γ (.inst 2 (.ref (δ c)))),(36,o1),(95,o2),(34,o3),(49,o4)] (c++rc (δ c) (bs++[b]))):
  fn (Ph (n+1)) Dc fl [(129,A),(133,γ (.inst 2 (.ref (δ c)))),(36,γ (.int (δ bs))),(95,γ (.list (b.1.map sK))),(34,γ (dg b.2)),(49,o4)] (c++rc (δ c) bs) K C R:=by
 have hX:δ (rc (δ c) bs)=δ bs+2:=TL (· +2) iA;refine Bb (m:=δ bs+2) hX (λQ q=>q) ?_;have g1:∀v,f8 (bc 0 bs++[γ v]) (δ bs)=γ v:=λv=>by have:=cm (c:=bc 0 bs) (X:=[γ v]) (j:=0);rw[iA]at this;exact this
 have p1:∀v w,dL (bc 0 bs++[γ v]) (δ bs) w=bc 0 bs++[γ w]:=λv w=>by have:=kg (c:=bc 0 bs) (X:=[γ v]) (j:=0) (v:=w);rw[iA]at this;exact this
 have pX:∀v w,dL (rc (δ c) bs++[γ v]) (δ bs+2) w=rc (δ c) bs++[γ w]:=λv w=>TL (λx=>γ (gN (.ref (δ c+1)))::γ (CV.list (refs (δ c) (δ bs)))::x) (p1 v w);refine jq (n:=35) (v:=.list (b.1.map TW)) TK (λQ q=>?_) (g1 _) TK ?_
 ·refine jD (σ:=Option CV×Option CV×Option CV×Option CV) (λs=>[(32,s.1),(31,s.2.1),(30,s.2.2.1),(29,s.2.2.2)]) _ (λr=>[TW r]) (λ_=>True) (λr s rs K _ WM k=>?_) TQ b.1 [] (η,η,η,η) (λ_ _=>trivial) ?_ λs=>?_
  ·have hs:Go [.str r.word,.int r.dst,.list (r.args.map bX),r.more]=ε:=dl TK (dl TK (dl (KM ly _) (dl (qp r) TK)));refine KF (vk r) (lQ hs) (n8 (ξ TK (ξ (dl TK (dl TK (dl (KM ly _) (dl (qp r) TK)))) (ξ ?_ (k (_,_,_,_))))));rw[Δ]at WM;exact κ (ao _ _) WM
  ·exists On ..;exists aB ..;exists φ ..,hb
  ·exists On ..,q
 exists pX ..;refine jq (n:=34) (v:=cS b.2) TK (λQ q=>?_) (g1 _) TK ?_
 ·exact JQ (a:=.str b.2.word) (b:=.int (-1)) (d:=.list (b.2.args.map bX)) (m:=b.2.more) (dl TK (dl TK (dl (KM ly _) (dl (y8 b.2) TK)))) (λQ q=>bN (an TK) (an TK) (Ab b.2) (an TK) q) q
 exists pX ..;refine we (i:=0) (j:=1) (L':=refs (δ c) (δ bs)) TK TK TK TK (by exists fe,hl) TK ?_;have:=k (γ (.int (δ bs))) (γ (.list (b.1.map sK))) (γ (dg b.2)) (γ (.inst 1 (.ref (δ c+(δ bs+2)))));have e:rc (δ c) (bs++[b])=dL (rc (δ c) bs++[γ (cI (δ bs) b)]) 1 (.list (refs (δ c) (δ bs)++[.inst 1 (.ref (δ c+(δ bs+2)))])):=by unfold rc;rw[Δ,show[b].length=1 from rfl,u9,wg,az];rfl
 rw[e]at this;exact this
theorem Lb(hs:∀c,sm c)(rest:List bn)(hr:∀b∈rest,δ b.1<=1000):∀(bs:List bn) (o1 o2 o3 o4:Option CV),δ bs+δ rest<=1000->
  (∀o1 o2 o3 o4,N [(129,A),(133,γ (.inst 2 (.ref (δ c)))),(36,o1),(95,o2),(34,o3),(49,o4)] (c++rc (δ c) (bs++rest)))->
  ZB sm (λx l c' K=>wT (Ph (n+1)) (.tup (.cons (.name 36) (.cons (.tup (.cons (.name 95) (.cons (.name 34) .nil))) .nil))) x l c' λl c'=>fn (Ph (n+1)) Dc fl l c' K K R) (fj (δ bs) (rest.map un)) [(129,A),(133,γ (.inst 2 (.ref (δ c)))),(36,o1),(95,o2),(34,o3),(49,o4)] (c++rc (δ c) bs) N:=by
 induction rest with
 |nil=>intro bs o1 o2 o3 o4 _ k;have:=k o1 o2 o3 o4;rw[aL]at this;exact this
 |cons b rest ih=>
  intro bs o1 o2 o3 o4 hl k;have Vj:δ bs+(δ rest+1)<=1000:=hl;refine La (n:=n) bs b (hr b (.head _)) (κ (ao _ _) ‹_›) λp1 p2 p3 p4=>⟨hs _,?_⟩;have:=ih (λq hq=>hr q (.tail _ hq)) (bs++[b]) p1 p2 p3 p4 (by exists Δ;show δ bs+1+δ rest<=1000;lia) λo1 o2 o3 o4=>by refine io (dr ..) ?_;exact k o1 o2 o3 o4
  rw[Δ]at this;exact this
theorem BX(hP:δ P<=1000)(hr:∀b∈P,δ b.1<=1000)(q:Q (.inst 2 (.ref (δ c))) (c++rc (δ c) P)):Ph (n+2) 135 [wn P] c Q:=by
 refine fm TK (ξ TK (Pn (c:=c) (bN TK ⟨by decide,by decide⟩ (an TK) (an TK) ?_)));have p0:∀{v w u:CV},dL (c++[γ v,γ w]) (δ c) u=c++[γ u,γ w]:=λ{v w u}=>kg (c:=c) (X:=[γ v,γ w]) (j:=0);have c0:∀{v w:CV},f8 (c++[γ v,γ w]) (δ c)=γ v:=λ{v w}=>cm (c:=c) (X:=[γ v,γ w]) (j:=0);refine db (o:=f8 (c++[γ (.sdict [44,43,42,41,40,39,38] [.str 134,.list [],.bool ζ,.list [],.ref (δ c+1),.int 0,.bool ζ]),γ (.list [])]) (δ c)) c0 ?_;refine ξ (an TK) (db (a:=.sdict [44,43,42,41,40,39,38] [.str 134,.list (cn 12),.bool ζ,.list [],.ref (δ c+1),.int 0,.bool ζ]) (by show f8 (dL (c++[_,γ (.list [])]) (δ c) _) (δ c)=_;exists p0,c0) ?_);refine ξ (an TK) (db (a:=.sdict [44,43,42,41,40,39,38] [.str 134,.list (cn 12),.bool ζ,.list [],.ref (δ c+1),.int 12,.bool ζ]) (by show f8 (dL (dL (c++[_,γ (.list [])]) (δ c) _) (δ c) _) (δ c)=_;exists p0;exists p0,c0) ?_);refine ξ (an TK) ?_;have:=Lb (n:=n) (fl:=δ c+δ (c++rc (δ c) [])) (A:=γ (wn P)) (N:=λl c'=>fn (Ph (n+1)) (.cons (.ret (.l 133)) .nil) (δ c) l c' (λx c=>Q CV.none c) (λx x_1=>False) Q) (R:=Q) (sm:=λc'=>ct (c++rc (δ c) []) c' (wn P)) (c:=c) (λ_=>trivial) P hr [] η η η η (by show 0+_<=1000;lia) λ_ _ _ _=>q;have e:c++rc (δ c) []=dL (dL (dL (c++[γ (.sdict [44,43,42,41,40,39,38] [.str 134,.list [],.bool ζ,.list [],.ref (δ c+1),.int 0,.bool ζ]),γ (.list [])]) (δ c) (.sdict [44,43,42,41,40,39,38] [.str 134,.list (cn 12),.bool ζ,.list [],.ref (δ c+1),.int 0,.bool ζ])) (δ c) (.sdict [44,43,42,41,40,39,38] [.str 134,.list (cn 12),.bool ζ,.list [],.ref (δ c+1),.int 12,.bool ζ])) (δ c) (gN (.ref (δ c+1))):=by exists p0;exists p0;exists p0;rfl
 rw[e]at this;exact this
theorem Nk(ha:∀Q:CV->ad->Prop,Q (.inst cls (.ref (δ c+j))) (c++X)->wE Φ a l (c++X) Q)(he:∀Q:CV->ad->Prop,Q v (c++X)->wE Φ e l (c++X) Q)
  (hX:f8 X j=γ (.sdict ks vs)) (hl:iz (δ ks) 1000=ε) (k:fn Φ ss fl l (c++dL X j (.sdict (wv n ks) (IO n v ks vs))) N C R):fn Φ (.cons (.g (.attr a n) e) ss) fl l (c++X) N C R:=by
 refine he _ (ha _ (db (o:=f8 (c++X) (δ c+j)) (cm.trans hX) ⟨an hl,?_⟩));exists kg,k
theorem iJ{f:CV->CV}{a b a' b':CV}(h1:f a=a')(h2:f b=b'):[a,b].map f=[a',b']:=by refine io h1 (io h2 ?_);rfl
theorem CA{i:Nat}{D E':List bn}{b:bn}:f8 (bc i (D++b::E')) (δ D)=γ (cI (i+δ D) b):=wB (by rw[gh (aJ _),hU];rfl)
theorem zz{i:Nat}{D E':List bn}{b b':bn}:dL (bc i (D++b::E')) (δ D) (cI (i+δ D) b')=bc i (D++b'::E'):=by rw[Cz,tL _ _ (aJ _),hU];rfl
noncomputable def eP(f:Nat->Nat)(b:bn):bn:=(b.1,fG f b.2)
noncomputable def Q3:Ss:=.cons (.g (.attr (.l 49) 34) (.call 91 (.cons (.attr (.l 49) 34) (.cons (.dict1 (.i (.int 0)) (.l 36)) .nil)))) .nil
theorem JR{n fl m:Nat}{c:ad}{A B D:Option CV}{N:L->ad->Prop}{R:CV->ad->Prop}{sm:ad->Prop}(rest:List bn):∀(bs:List bn) (o1:Option CV),(∀Xm:List bn,δ Xm=δ bs+δ rest->sm (c++rc (δ c) Xm))->
  (∀o1,N [(63,A),(112,B),(36,γ (.int m)),(113,D),(49,o1)] (c++rc (δ c) (bs++rest.map (eP (lk 0 m)))))->
  ZB sm (λx l c' K=>wT (Ph (n+3)) (.name 49) x l c' λl c'=>fn (Ph (n+3)) Q3 fl l c' K K R) ((ze (δ bs) (δ rest)).map λ(i:Nat)=>.inst 1 (.ref (δ c+(i+2)))) [(63,A),(112,B),(36,γ (.int m)),(113,D),(49,o1)] (c++rc (δ c) (bs++rest)) N:=by
 induction rest with
 |nil=>intro bs o1 _ k;exact k o1
 |cons b rest ih=>
  intro bs o1 hs k;refine jq (n:=34) (j:=δ bs+2) (v:=cS (fG (lk 0 m) b.2)) TK (λQ q=>?_) (CA (i:=0)) TK ⟨?_,?_⟩
  ·have h1:jz (c++rc (δ c) (bs++b::rest)) 34 (.inst 1 (.ref (δ c+(δ bs+2))))=γ (cS b.2):=(by show(f8 (c++rc (δ c) (bs++b::rest)) (δ c+(δ bs+2))).bind (jy 34)=_;exists cm;show(f8 (bc 0 (bs++b::rest)) (δ bs)).bind (jy 34)=_;exists CA;rfl);exact db h1 (Cv (n:=n) (en:=b.2) (a:=0) (b:=m) (iJ (by rfl) (by rfl)) q)
  ·have e:∀v,dL (rc (δ c) (bs++b::rest)) (δ bs+2) v=γ (gN (.ref (δ c+1)))::γ (.list (refs (δ c) (δ (bs++b::rest))))::dL (bc 0 (bs++b::rest)) (δ bs) v:=λ_=>rfl;exists e ..;have:=hs (bs++eP (lk 0 m) b::rest) (by exists Δ;rfl);unfold rc at this;rw[←zz (b:=b),Δ]at this;exists Δ,this
  ·have:=ih (bs++[eP (lk 0 m) b]) (γ (.inst 1 (.ref (δ c+(δ bs+2))))) (λXm h=>hs Xm (by exists h;exists Δ,cV _ _ _)) λo1=>(by refine io (dr ..) ?_;exact k o1);rw[Δ,←dr]at this;unfold rc at this;rw[←zz (b:=b),Δ]at this;have e:∀v,dL (rc (δ c) (bs++b::rest)) (δ bs+2) v=γ (gN (.ref (δ c+1)))::γ (.list (refs (δ c) (δ (bs++b::rest))))::dL (bc 0 (bs++b::rest)) (δ bs) v:=λ_=>rfl;exists e ..;exists Δ ..,this
noncomputable def bU:List bn->List bn
 |[]=>[]
 |b::tl=>([],.jump (δ tl+1))::(tl++[b]).map (eP (lk 0 (δ tl+1)))
theorem lq:jz (c++rc (δ c) P) 40 (.inst 2 (.ref (δ c)))=γ (.ref (δ c+1)):=by show(f8 (c++rc (δ c) P) (δ c)).bind (jy 40)=_;exists show f8 (c++rc (δ c) P) (δ c)=γ (gN (.ref (δ c+1)))from cm (j:=0);rfl
theorem lr:view (c++rc (δ c) P) (.ref (δ c+1))=γ (.list (refs (δ c) (δ P))):=cm (j:=1)
theorem Bc(hP:δ tl<=900)(q:Q (.int (δ tl+1:Nat)) (c++rc (δ c) (bU (b::tl)))):Ph (n+4) 114 [.inst 2 (.ref (δ c))] (c++rc (δ c) (b::tl)) Q:=by
 refine fm TK (wl TK lq (db lr (ξ (by exists fe;show δ tl+1<=1000;exact aR ‹_› (by decide)) (db (o:=s0 (refs (δ c) (δ (b::tl))) 0) (vt (bS _)) (db lq (db lr (ξ (by exists fe;show δ tl+1<=1000;exact aR ‹_› (by decide)) ?_)))))));exists fe;have hX:δ (rc (δ c) (b::tl))=δ tl+1+2:=TL (· +2) (iA (P:=b::tl));refine Bb (n:=n+2) (y:=113) (m:=δ tl+1+2) (i:=.int (δ tl+1:Nat)) (l:=[(63,γ (.inst 2 (.ref (δ c)))),(112,γ (.inst 1 (.ref (δ c+(0+2))))),(36,γ (.int (δ tl+1:Nat))),(113,η),(49,η)]) hX (λQ q=>q) ?_;have g1:∀v,f8 (bc 0 (b::tl)++[γ v]) (δ tl+1)=γ v:=λv=>by have:=cm (c:=bc 0 (b::tl)) (X:=[γ v]) (j:=0);rw[iA]at this;exact this
 have p1:∀v w,dL (bc 0 (b::tl)++[γ v]) (δ tl+1) w=bc 0 (b::tl)++[γ w]:=λv w=>by have:=kg (c:=bc 0 (b::tl)) (X:=[γ v]) (j:=0) (v:=w);rw[iA]at this;exact this
 have pX:∀v w,dL (rc (δ c) (b::tl)++[γ v]) (δ tl+1+2) w=rc (δ c) (b::tl)++[γ w]:=λv w=>TL (λx=>γ (gN (.ref (δ c+1)))::γ (CV.list (refs (δ c) (δ (b::tl))))::x) (p1 v w);have a0:∀{X:ad} {nm:Nat} {v:CV},f8 X (0+2)=γ (cI 0 b)->wf nm [36,35,34] [.int (0:Nat),.list (b.1.map TW),cS b.2]=γ v->jz (c++X) nm (.inst 1 (.ref (δ c+(0+2))))=γ v:=λh1 h2=>by show(f8 (c++_) (δ c+(0+2))).bind (jy _)=_;exists cm;exists h1,h2
 refine jq (n:=35) (j:=δ tl+1+2) (v:=.list (b.1.map TW)) TK (λQ q=>db (a0 TK TK) q) (g1 _) TK ?_;exists pX ..;refine jq (n:=34) (j:=δ tl+1+2) (v:=cS b.2) TK (λQ q=>db (a0 TK TK) q) (g1 _) TK ?_;exists pX ..;refine we (i:=0) (j:=1) (L':=refs (δ c) (δ tl+1)) TK TK TK TK (by exists fe,aR ‹_› (by decide)) TK ?_;have e1:dL (rc (δ c) (b::tl)++[γ (cI (δ tl+1) b)]) 1 (.list (refs (δ c) (δ tl+1)++[.inst 1 (.ref (δ c+(δ tl+1+2)))]))=rc (δ c) ([]++(b::tl++[b])):=by rw[←u9,aB];unfold rc;rw[wg,az,Δ];rfl
 show fn _ _ _ _ (c++dL (rc (δ c) (b::tl)++[γ (cI (δ tl+1) b)]) 1 _) _ _ _;exists e1;have hlen:δ (b::tl++[b])=δ tl+1+1:=by exists Δ;rfl
 refine db (lq (P:=[]++(b::tl++[b]))) (db (o:=(view _ _).bind _) (a:=refs (δ c) (δ tl+1+1)) (by exists lr;show γ (refs (δ c) (δ (b::tl++[b])))=_;exists hlen,TK) ?_);have e2:refs (δ c) (δ tl+1+1)=(ze (δ ([]:List bn)) (δ (b::tl++[b]))).map λ(i:Nat)=>CV.inst 1 (.ref (δ c+(i+2))):=by exists hlen;unfold refs;exists EY;rfl
 exists e2;refine JR (n:=n) (m:=δ tl+1) (b::tl++[b]) [] η (λXm h=>?_) λo1=>?_
 ·show f8 (c++rc (δ c) Xm) (δ c+1)=f8 (c++rc (δ c) ([]++(b::tl++[b]))) (δ c+1);exists cm;exists cm;show γ (CV.list (refs (δ c) (δ Xm)))=γ (.list (refs (δ c) (δ (b::tl++[b]))));exists h,TL (λn=>γ (CV.list (refs (δ c) n))) (az _)
 ·refine jq (n:=35) (j:=0+2) (v:=.list []) TK (λQ q=>ξ (an TK) q) TK TK ?_;refine jq (n:=34) (j:=0+2) (v:=cS (.jump (δ tl+1))) TK (λQ q=>KF (an TK) (by rfl) (n8 (ξ TK (ξ TK q)))) TK TK ?_;have e3:rc (δ c) (bU (b::tl))=dL (dL (rc (δ c) ([]++(b::tl++[b]).map (eP (lk 0 (δ tl+1))))) (0+2) (.sdict [36,35,34] [.int (0:Nat),.list [],cS (fG (lk 0 (δ tl+1)) b.2)])) (0+2) (cI 0 ([],.jump (δ tl+1))):=by show rc (δ c) (([],.jump (δ tl+1))::(tl++[b]).map _)=_;unfold rc;rw[aB,pR,φ,φ];rfl
  rw[e3]at q;exact q
noncomputable def iP(f:Nat->Nat)(P:List bn)(o:Nat):List bn:=match P[o]? with|some b=>P.set o (eP f b)|none=>P
theorem Nl{f:Nat->Nat}{P:List bn}{o:Nat}:δ (iP f P o)=δ P:=by
 unfold iP;induction P[o]? with
 |none=>rfl
 |some b=>exact cZ
theorem qr{c:ad}{P:List bn}{o:Nat}(h:o<δ P)(hP:δ P<=1000){Φ:Nat->Fn}{l:L}{a:E}(hl:pc l 63=γ (.inst 2 (.ref (δ c))))(ha:∀Q:CV->ad->Prop,Q (.int o) (c++rc (δ c) P)->wE Φ a l (c++rc (δ c) P) Q)(Q:CV->ad->Prop)(q:Q (.inst 1 (.ref (δ c+(o+2)))) (c++rc (δ c) P)):wE Φ (.sub (.attr (.l 63) 40) a) l (c++rc (δ c) P) Q:=
 db (o:=pc l 63) hl (db (lq (P:=P)) (ha _ (db (lr (P:=P)) (wl (by exists fe,hP) (o:=s0 (refs (δ c) (δ P)) (o:Int)) (vt h) q))))
theorem Bd{c:ad}{P:List bn}{o:Nat}{b:bn}(h:P[o]? =γ b):f8 (rc (δ c) P) (o+2)=γ (cI o b):=by have:=wB (i:=0) h;rw[az]at this;exact this
theorem lT{c:ad}{P:List bn}{o nm:Nat}{b:bn}{v:CV}(h:P[o]? =γ b)(hd:jy nm (cI o b)=γ v):jz (c++rc (δ c) P) nm (.inst 1 (.ref (δ c+(o+2))))=γ v:=by show(f8 (c++rc (δ c) P) (δ c+(o+2))).bind (jy nm)=_;exists cm;exists Bd h,hd
noncomputable def CB:Ss:=.cons (.g (.attr (.sub (.attr (.l 63) 40) (.l 36)) 34) (.call 91 (.cons (.attr (.sub (.attr (.l 63) 40) (.l 36)) 34) (.cons (.dict1 (.attr (.l 92) 52) (.attr (.l 49) 36)) .nil)))) .nil
theorem JS{n fl m h:Nat}{c:ad}{A1:Option CV}{bs tl:List Nat}{N:L->ad->Prop}{R:CV->ad->Prop}{sm:ad->Prop}(hs:∀c,sm c)(hm:m<=900)(xs:List Nat):∀(P:List bn) (o1:Option CV),δ P=m+1->(∀x∈xs,x<m)->
  (∀o1,N [(63,γ (.inst 2 (.ref (δ c)))),(92,γ (cR h bs tl)),(115,A1),(49,γ (.inst 1 (.ref (δ c+(m+2))))),(36,o1)] (c++rc (δ c) (xs.foldl (iP (lk h m)) P)))->
  ZB sm (λx l c' K=>wT (Ph (n+3)) (.name 36) x l c' λl c'=>fn (Ph (n+3)) CB fl l c' K K R) (xs.map λ(i:Nat)=>CV.int i) [(63,γ (.inst 2 (.ref (δ c)))),(92,γ (cR h bs tl)),(115,A1),(49,γ (.inst 1 (.ref (δ c+(m+2))))),(36,o1)] (c++rc (δ c) P) N:=by
 induction xs with
 |nil=>intro P o1 _ _ k;exact k o1
 |cons x xs ih=>
  intro P o1 hl hx k;have hxm:x<m:=hx x (.head _);have hg:=ag (l:=P) (i:=x) (by lia);generalize P[x]=b at hg;have hgm:=ag (l:=P) (i:=m) (a5 (vJ ‹_›));generalize P[m]=bm at hgm;have e0:iP (lk h m) P x=P.set x (eP (lk h m) b):=by unfold iP;exists hg,TK
  have:=ih (iP (lk h m) P x) (γ (.int x)) (by exists Nl,hl) (λy hy=>hx y (.tail _ hy)) k;rw[e0]at this;have e1:rc (δ c) (P.set x (eP (lk h m) b))=dL (rc (δ c) P) (x+2) (cI x (eP (lk h m) b)):=by have:=Cz (P:=P) (b:=eP (lk h m) b) (i:=0) (j:=x);rw[az]at this;unfold rc;refine io this (ac cZ ?_);rfl
  rw[e1]at this;refine Nk (n:=34) (cls:=1) (j:=x+2) (v:=cS (fG (lk h m) b.2)) (l:=[(63,γ (.inst 2 (.ref (δ c)))),(92,γ (cR h bs tl)),(115,A1),(49,γ (.inst 1 (.ref (δ c+(m+2))))),(36,γ (.int x))]) (λQ q=>qr (c:=c) (P:=P) (o:=x) (a:=.l 36) (l:=[(63,γ (.inst 2 (.ref (δ c)))),(92,γ (cR h bs tl)),(115,A1),(49,γ (.inst 1 (.ref (δ c+(m+2))))),(36,γ (.int x))]) (by lia) (by lia) TK (λQ q=>q) Q q) (λQ q=>?_) (Bd hg) TK ⟨hs _,this⟩;refine qr (c:=c) (P:=P) (o:=x) (a:=.l 36) (l:=[(63,γ (.inst 2 (.ref (δ c)))),(92,γ (cR h bs tl)),(115,A1),(49,γ (.inst 1 (.ref (δ c+(m+2))))),(36,γ (.int x))]) (by lia) (by lia) TK (λQ q=>q) _ (db (lT hg (v:=cS b.2) TK) (db (lT hgm (v:=.int m) TK) ?_));exact Cv (n:=n) (en:=b.2) (a:=h) (b:=m) (iJ (by rfl) (by rfl)) q
noncomputable def wh(P:List bn)(h:Nat)(bs:List Nat):List Nat:=(pf P (δ P) h).filter λb=> !bs.contains b
theorem yH{bs:List Nat}{b:Nat}:(bs.map λ(i:Nat)=>(i:Int)).contains (b:Int)=bs.contains b:=by
 induction bs with
 |nil=>rfl
 |cons a bs ih=>
  exists bQ;exists g7;exists g7;exists ih;congr 1;by_cases e:b=a
  ·rw[e,TJ,TJ]
  ·exists TO.mpr e,ac (show((b:Int)==(a:Int))=ζ from TO.mpr λq=>e (aW q)) TK
theorem Pq:f8 (rc k P++[γ v]) (δ P+2)=γ v:=by have:=cm (c:=bc 0 P) (X:=[γ v]) (j:=0);rw[iA]at this;exact this
theorem Q4:dL (rc k P++[γ v]) (δ P+2) w=rc k P++[γ w]:=by have:=kg (c:=bc 0 P) (X:=[γ v]) (j:=0) (v:=w);rw[iA]at this;exact TL (λx=>γ (gN (.ref (k+1)))::γ (CV.list (refs k (δ P)))::x) this
theorem Q5:dL (rc k P++[γ (cI (δ P) b)]) 1 (.list (refs k (δ P)++[.inst 1 (.ref (k+(δ P+2)))]))=rc k (P++[b]):=by unfold rc;rw[wg,az,Δ,show[b].length=1 from rfl,u9];rfl
noncomputable def Q6:Ss:=(.cons (.g (.name 49) (.new 37 1 ζ (.cons (.bi .len ζ (.cons (.attr (.l 63) 40) .nil)) .nil)))
 (.cons (.g (.attr (.l 49) 34) (.new 33 0 ε (.cons (.i (.str 48)) (.cons (.neg (.i (.int 1))) (.cons (.list ζ .nil) (.cons (.attr (.l 92) 52) .nil))))))
 (.cons (.ex (.me .append (.attr (.l 63) 40) (.l 49)))
 (.cons (.for (.name 36) ζ (.l 115) CB)
 (.cons (.ret (.l 49))
 .nil)))))
theorem Nm{n:Nat}{c:ad}{Q:CV->ad->Prop}{P:List bn}{h:Nat}{bs tl os:List Nat}(hP:δ P<=900)(hS:∀b∈P,∀t∈b.2.succ,t<δ P)(hh:h<δ P)(ho:wh P h bs=os)
  (q:(∃o rs t,os=[o]/\P[o]? =γ (rs,.jump t)/\Q (.inst 1 (.ref (δ c+(o+2)))) (c++rc (δ c) P))\/((∀o,os=[o]->∃rs e,P[o]? =γ (rs,e)/\(e.word==48)=ζ)/\Q (.inst 1 (.ref (δ c+(δ P+2)))) (c++rc (δ c) (os.foldl (iP (lk h (δ P))) (P++[([],.jump h)]))))):
  Ph (n+4) 116 [.inst 2 (.ref (δ c)),cR h bs tl] (c++rc (δ c) P) Q:=by
 have Xk:δ (pf P (δ P) h)<=900:=by exact κ (fP _ _) (by exists bG,hP)
 have YS:δ os<=900:=by refine io ho ?_;exact κ (fP _ _) Xk
 have T6:∀o∈os,o<δ P:=λo m=>by rw[←ho]at m;exact(wc.mp (b3.mp m).1).1
 refine fm TK (ξ TK (A2 (P:=P) hP hS (TL (λx=>[x]) ic) (wl (by exists φ ..;exists bG ..,κ ‹_› (by decide)) (o:=s0 ((ax (δ P)).map λt=>sB (pf P (δ P) t)) (h:Int)) (kc hh) ?_)));refine dY (σ:=Option CV) (enc:=λ(i:Nat)=>CV.int i) (λs=>[(92,γ (cR h bs tl)),(36,s)]) (c++rc (δ c) P) (λb=> !bs.contains b) (λ(i:Nat)=>CV.int i) (λ_=>True) (λx s r K _ hr k1 k2=>Ev (b:= !(bs.map λ(i:Nat)=>(i:Int)).contains (x:Int)) (λz=>ξ hr (k1 (by rw[←yH];exact z) _)) λz=>k2 (by rw[←yH];exact z) _) TQ (pf P (δ P) h) [] η (λ_ _=>trivial) (by rw[cC,az];exact κ ‹_› (by decide)) λs=>?_;exists aB ..;exists show(pf P (δ P) h).filter (λb=> !bs.contains b)=os from ho ..;have hlen:δ (os.map λ(i:Nat)=>CV.int i)<=1000:=by exists φ ..,κ ‹_› (by decide)
 have jmp:∀{b:Bool},(δ os==1&&b)=ε->δ os=1/\b=ε:=λh=>⟨TM (jp h).1,(jp h).2⟩;rcases q with⟨o,rs,t,rfl,hb,q⟩|⟨hj,q⟩
 ·have Z2:=(ay.mp hb).1;have Vz:=qr (c:=c) (P:=P) (o:=o) (Φ:=Ph (n+3)) (a:=.sub (.l 115) (.i (.int 0))) (l:=[(63,γ (.inst 2 (.ref (δ c)))),(92,γ (cR h bs tl)),(115,γ (.list [.int o])),(49,η),(36,η)]) Z2 (κ ‹_› (by decide)) TK (λQ q=>ξ (an TK) q);refine ξ (an TK) ?_;refine Vz _ (db (lT hb (v:=cS (.jump t)) TK) ?_);exact Vz _ q
 ·have main:∀N C R,R=Q->fn (Ph (n+3)) Q6 (δ (c++rc (δ c) P)) [(63,γ (.inst 2 (.ref (δ c)))),(92,γ (cR h bs tl)),(115,γ (.list (os.map λ(i:Nat)=>CV.int i))),(49,η),(36,η)] (c++rc (δ c) P) N C R:=λN C R hR=>by exists hR;have hX:δ (rc (δ c) P)=δ P+2:=TL (· +2) iA;refine db (lq (P:=P)) (db (lr (P:=P)) (ξ (by rw[fe];exact κ ‹_› (by decide)) ?_));exists fe;refine A9 (n:=n+2) (c:=c++rc (δ c) P) ⟨rfl,?_⟩;rw[Δ,hX,bF];refine jq (n:=34) (j:=δ P+2) (v:=cS (.jump h)) (l:=[(63,γ (.inst 2 (.ref (δ c)))),(92,γ (cR h bs tl)),(115,γ (.list (os.map λ(i:Nat)=>CV.int i))),(49,γ (.inst 1 (.ref (δ c+(δ P+2))))),(36,η)]) TK (λQ q=>KF (an TK) (by rfl) (n8 (ξ TK (ξ TK q)))) Pq TK ?_;rw[Q4];refine we (i:=0) (j:=1) (L':=refs (δ c) (δ P)) TK TK TK TK (by rw[fe];exact κ ‹_› (by decide)) TK ?_;show fn _ _ _ _ (c++dL (rc (δ c) P++[γ (cI (δ P) ([],.jump h))]) 1 _) _ _ _;rw[Q5];refine JS (n:=n) (m:=δ P) (h:=h) (bs:=bs) (tl:=tl) (λ_=>trivial) hP os (P++[([],.jump h)]) η (by rw[Δ];rfl) T6 λo1=>?_;exact q
  cases VY:os with
  |nil=>rw[VY]at main;exact ξ (an TK) (main _ _ _ TK)
  |cons o YK=>
   induction YK using ar with
   |nil=>rw[VY]at main;obtain⟨rs,e,hb,hw⟩:=hj o VY;have Vz:=qr (c:=c) (P:=P) (o:=o) (Φ:=Ph (n+3)) (a:=.sub (.l 115) (.i (.int 0))) (l:=[(63,γ (.inst 2 (.ref (δ c)))),(92,γ (cR h bs tl)),(115,γ (.list [.int o])),(49,η),(36,η)]) (ay.mp hb).1 (κ ‹_› (by decide)) TK (λQ q=>ξ (an TK) q);refine ξ (an TK) ?_;refine Vz _ (db (lT hb (v:=cS e) TK) (ww hw (main _ _ _ TK)))
   |cons o' YK=>rw[VY]at main hlen;exact ξ hlen (main _ _ _ TK)
theorem Ag{f:Nat->Nat}{e:Id}:(fG f e).succ=e.succ.map f:=by induction e<;>rfl
theorem Sg{n x:Nat}(hn:n≠0):lk 0 n x≠0:=by
 unfold lk;cases h:(x:Int)==((0:Nat):Int)with
 |true=>exact hn
 |false=>exact λe=>(TO.mp h) (TL _ e)
theorem Ld{b:bn}{tl:List bn}:∀k∈bU (b::tl),k.2.succ.contains 0=ζ:=by
 intro k hk;rcases ab.mp hk with rfl|hk
 ·rfl
 ·obtain⟨x,_,rfl⟩:=au.mp hk;exists show(eP (lk 0 (δ tl+1)) x).2.succ=x.2.succ.map (lk 0 (δ tl+1))from Ag;cases h:(x.2.succ.map (lk 0 (δ tl+1))).contains 0 with
  |false=>rfl
  |true=>obtain⟨y,_,e⟩:=au.mp (ak.mp h);exact absurd e (Sg (t8 _))
theorem qJ{b:bn}{tl:List bn}:δ (bU (b::tl))=δ tl+2:=by show δ ((tl++[b]).map _)+1=_;exists φ ..;exists Δ ..;rfl
theorem kL{f:CV->CV}{a a':CV}(h1:f a=a'):[a].map f=[a']:=by refine io h1 ?_;rfl
theorem DG{f:CV->CV}{a b c d a' b' c' d':CV}(h1:f a=a')(h2:f b=b')(h3:f c=c')(h4:f d=d'):[a,b,c,d].map f=[a',b',c',d']:=by refine io h1 (io h2 (io h3 (io h4 ?_)));rfl
theorem ip{i:Int}:(!(i==i))=ζ:=by exists TJ ..;rfl
theorem Pr(b:bn):iL (un b) (un b)=γ ε:=by
 refine fv (bD (gz (kK v_ _)) (d4 (fv (bD (mu _) (bD (gz (kK v9 _)) (d4 ?_))))));induction b.2 with
 |jump t=>exact a6 _
 |branch a x y=>exact fv (bD (a6 _) (d4 (a6 _)))
 |table a x y z o=>exact fv (bD (a6 _) (bD (gz (bD (a6 _) (bD (a6 _) (d4 (a6 _))))) (d4 (a6 _))))
 |give a=>exact a6 _
theorem q6{c:ad}{x y:CV}(hx:view c x=γ x)(hy:view c y=γ y)(hs:gK x=η)(h:iL x y=γ ε):bh c .ne x y=γ ζ:=by
 show(view c x).bind (λx=>(view c y).bind (mK x))=_;exists hx;exists hy;show mK x y=_;induction x using CV.casesOn with
 |set l=>exact iE hs
 |_=>exact TL (Option.map (!·)) h
theorem Hf{n:Nat}{c:ad}{Q:CV->ad->Prop}{b:bn}{tl:List bn}{h:kt}{tr:List Ix}{g:Int}(hP:δ tl<=900)(ok:bE (bU (b::tl)))(hr:∀k∈bU (b::tl),δ k.1<=1000)(hh:v1 h)(hl:(wP (bU (b::tl)) 24 0 h).1.length<=1000)(ht:δ tr<=1000)
  (h1:(wP (bU (b::tl)) 24 0 h).2=g) (h2:(wP (bU (b::tl)) 24 0 h).1.map (·.2.2)=tr.map (·.2.2)) (q:Q (.bool ε) (c++rc (δ c) (bU (b::tl)))):
  Ph (n+5) 157 [.inst 2 (.ref (δ c)),zn h,AT tr,.int g] (c++rc (δ c) (b::tl)) Q:=by
 refine fm TK (wl TK lq (db lr (ξ (by exists fe;show δ tl+1<=1000;exact aR ‹_› (by decide)) ?_)));exists fe;have h0:(bU (b::tl))[0]? =γ ([],.jump (δ tl+1)):=rfl;have hn0:=Ld (b:=b) (tl:=tl);have YH:=qJ (b:=b) (tl:=tl);refine Bc (n:=n) (c:=c) (b:=b) (tl:=tl) hP ?_;generalize bU (b::tl)=P at ok hr hl h1 h2 q h0 hn0 YH ⊢;refine ka (P:=P) ok.l hr (kL ic) ?_;have UB:δ (P.map un)<=1000:=by exists φ ..,ok.l
 have hlen:((δ (P.map un):Int)==((δ tl+1:Nat):Int)+1)=ε:=by exists φ ..;exists YH ..,beq_iff_eq.mpr TK
 have hat:s0 (P.map un) 0=γ (un ([],.jump (δ tl+1))):=by show(P.map un)[0]? =_;exists aA;exists h0;rfl
 have Um:bh (c++rc (δ c) P) .ne (un ([],.jump (δ tl+1))) (un ([],.jump (δ tl+1)))=γ ζ:=q6 TK TK TK (Pr _);refine ww ip (ξ UB (ww (b:= !((δ (P.map un):Int)==((δ tl+1:Nat):Int)+1)) (by exists hlen;rfl) (wl UB (o:=s0 (P.map un) 0) hat (FS [0,0,3,2] TK (db Um ?_):EQ _ _))));refine dY (σ:=Option CV×Option CV) (enc:=un) (λs=>[(95,s.1),(34,s.2)]) (c++rc (δ c) P) (λ_=>ζ) (λk=>dg k.2) (· ∈P) (λk s r K hk hr k1 k2=>?_) TQ P [] (η,η) (λ_ h=>h) (by rw[cC,az];exact ok.l) λs=>?_
 ·refine qW (e:=k.2) (by rfl) ?_;have UH:bM (.int 0) (k.2.succ.map λ(i:Nat)=>CV.int i)=γ ζ:=(nG (i:=0)).trans (TL γ (hn0 k hk));exact db UH (k2 TK (_,_))
 ·exists(show P.filter (λ_=>ζ)=[] from xw.mpr λ_ _ h=>nomatch h);refine ξ (an TK) ?_;exact AR (P:=P) (h:=h) (tr:=tr) (g:=g) ok hr hh hl ht (DG ic (by rfl) (by rfl) (by rfl)) h1 h2 q
structure kM(h:Nat) (rg bs tl:List Nat):Prop where
 hd:rg[0]? =γ h
 set:ofL (rg.map λ(i:Nat)=>(i:Int))=bs.map λ(i:Nat)=>(i:Int)
 ok:fx (bs.map λ(i:Nat)=>(i:Int))
 tl:fI (rg.map λ(i:Nat)=>CV.int i) (-1)=tl.map λ(i:Nat)=>CV.int i
 len:δ rg<=900
theorem mx{rg:List Nat}{h:Nat}(hd:rg[0]? =γ h):s0 (rg.map λ(i:Nat)=>CV.int i) 0=γ (.int h):=by show(rg.map λ(i:Nat)=>CV.int i)[0]? =_;exists aA;exists hd;rfl
theorem Pt{l:List Nat}:eC (l.map λ(i:Nat)=>CV.int i)=γ (l.map λ(i:Nat)=>(i:Int)):=by
 induction l with
 |nil=>rfl
 |cons a l ih=>show(eC (l.map λ(i:Nat)=>CV.int i)).map ((a:Int)::·)=_;exists ih;rfl
noncomputable def gP:E:=.new 53 3 ε (.cons (.sub (.l 122) (.i (.int 0))) (.cons (.bi .set ζ (.cons (.l 122) .nil)) (.cons (.lo (.l 122) (.neg (.i (.int 1)))) .nil)))
theorem sk{n h}{rg bs tl}{l}{c}(R:kM h rg bs tl)(hl:pc l 122=γ (sB rg))(Q:CV->ad->Prop)(q:Q (cR h bs tl) c):wE (Ph (n+1)) gP l c Q:=by
 have hlen:δ (rg.map λ(i:Nat)=>CV.int i)<=1000:=by exists φ ..;have:=R.len;exact κ ‹_› (by decide)
 have hat:s0 (rg.map λ(i:Nat)=>CV.int i) 0=γ (.int h):=mx R.hd;refine db hl (wl hlen hat (db hl (db (o:=eC (rg.map λ(i:Nat)=>CV.int i)) Pt ?_)));exists R.set;refine wl R.ok hl (ξ hlen ?_);show SC [_,_,.list (fI (rg.map λ(i:Nat)=>CV.int i) (-1))]=ε/\Ph (n+1) 53 [_,_,_,.list (fI (rg.map λ(i:Nat)=>CV.int i) (-1))] _ _;exists R.tl;exact⟨dl TK (dl TK (dl (bq (λ_=>rfl) _) TK)),Po ⟨rfl,dl TK (dl TK (dl (KM (λ_=>rfl) _) TK)),q⟩⟩
noncomputable def d5(P:List bn)(rg:List Nat)(h a:Nat):Bool:= !rg.contains a&&(wr P a).contains h
theorem Be(hP:δ P<=1000)(VE:δ rg<=900)(hd:rg[0]? =γ h)(hx:x<δ P)(hr:δ r<=1000)
  (k1:d5 P rg h x=ε->∀s,K (r++[.int x]) [(122,γ (sB rg)),(pl,γ (wn P)),(75,s)] c) (k2:d5 P rg h x=ζ->∀s,K r [(122,γ (sB rg)),(pl,γ (wn P)),(75,s)] c) (Xk:pl=78\/pl=129):
  wT (Ph (n+1)) (.name 75) (.int x) [(122,γ (sB rg)),(pl,γ (wn P)),(75,s)] c λl c=>cx (Ph (n+1)) (.cons (.and (.cmp .notin (.l 75) (.l 122)) (.cons (.cmp .isin (.sub (.l 122) (.i (.int 0))) (.call 138 (.cons (.sub (.sub (.l pl) (.l 75)) (.i (.int 1))) .nil))) .nil)) .nil) l c λb c=>br b (wG (Ph (n+1)) (.last (.l 75)) r l c K) (K r l c):=by
 have hlen:δ (rg.map λ(i:Nat)=>CV.int i)<=1000:=by exists φ ..,κ ‹_› (by decide)
 have UB:δ (P.map un)<=1000:=by exists φ ..,hP
 have hg:=ag hx;generalize P[x]=b at hg;have hat:s0 (P.map un) (x:Int)=γ (un b):=by show(P.map un)[x]? =_;exists aA;exists hg;rfl
 have Y1:bh c .notin (.int x) (sB rg)=γ (!rg.contains x):=by show(bM (.int x) (rg.map λ(i:Nat)=>CV.int i)).map (!·)=_;exists nG;rfl
 have hc2:bh c .isin (.int h) (sB b.2.succ)=γ ((wr P x).contains h):=by show bM (.int h) (b.2.succ.map λ(i:Nat)=>CV.int i)=_;exists nG,ac (qI hg) TK
 rcases Xk with rfl|rfl
 ·refine db Y1 ?_;cases e:rg.contains x with
  |true=>exact k2 (by unfold d5;exists e;rfl) _
  |false=>refine wl hlen (o:=s0 (rg.map λ(i:Nat)=>CV.int i) 0) (mx hd) (ξ UB (db (o:=s0 (P.map un) (x:Int)) hat (ξ (an TK) (qW (e:=b.2) (by rfl) (db hc2 ?_)))));exact Ev (b:=(wr P x).contains h) (λz=>ξ hr (k1 (by unfold d5;exists e;exists z;rfl) _)) λz=>k2 (by unfold d5;exists e;exists z;rfl) _
 ·refine db Y1 ?_;cases e:rg.contains x with
  |true=>exact k2 (by unfold d5;exists e;rfl) _
  |false=>refine wl hlen (o:=s0 (rg.map λ(i:Nat)=>CV.int i) 0) (mx hd) (ξ UB (db (o:=s0 (P.map un) (x:Int)) hat (ξ (an TK) (qW (e:=b.2) (by rfl) (db hc2 ?_)))));exact Ev (b:=(wr P x).contains h) (λz=>ξ hr (k1 (by unfold d5;exists e;exists z;rfl) _)) λz=>k2 (by unfold d5;exists e;exists z;rfl) _
noncomputable def oV:Option Int->CV|some i=>.int i|none=>.none
noncomputable def dH(r:bv)(x:Int):Option Int:=match r with
 |.bin o _ a b=>match o with
  |.add=>match a with
   |.r m=>match b with
    |.k i=>match(m:Int)==x with|true=>γ i|false=>η
    |.r _=>η
   |.k i=>match b with
    |.r m=>match(m:Int)==x with|true=>γ i|false=>η
    |.k _=>η
  |.sub=>match a with
   |.r m=>match b with
    |.k i=>match(m:Int)==x with|true=>γ (-i%4294967296)|false=>η
    |.r _=>η
   |.k _=>η
  |_=>η
 |_=>η
theorem ir(o:Option Int):(oV o).solid=ε:=by induction o<;>rfl
theorem iW(h:b=c):(ε&&(b&&ε))=c:=by cases h;induction b<;>rfl
theorem iB(e:args.map (ul c 8)=[TW r,.int x])(q:Q (oV (dH r x)) c):Ph (n+1) 107 args c Q:=by
 refine TT TK TK e (dl (je r) TK) (KF TK (an TK) ?_);induction r with
 |bin o d a b=>
  induction o with
  |add=>
   induction a with
   |r m=>
    induction b with
    |k i=>
     cases h:(m:Int)==x with
     |true=>rw[show dH (.bin .add d (.r m) (.k i)) x=γ i by show(match(m:Int)==x with|true=>γ i|false=>η)=_;rw[h]]at q;exact ξ (an TK) (bC (iW h) (KF (an TK) (an TK) (ret TK q)))
     |false=>rw[show dH (.bin .add d (.r m) (.k i)) x=η by show(match(m:Int)==x with|true=>γ i|false=>η)=_;rw[h]]at q;exact ξ (an TK) (ww (iW h) (ww (iW h) (ξ (an TK) (ret TK q))))
    |r l=>
     refine ξ (an TK) (Ev (λh1=>ξ (an TK) ?_) λh1=>ww h1 ?_)
     ·exact ξ (an TK) (Ev (λh2=>ξ (an TK) (ret TK q)) λh2=>ww h2 (ret TK q))
     ·exact ξ (an TK) (Ev (λh2=>ξ (an TK) (ret TK q)) λh2=>ww h2 (ret TK q))
   |k j=>
    induction b with
    |r m=>
     cases h:(m:Int)==x with
     |true=>rw[show dH (.bin .add d (.k j) (.r m)) x=γ j by show(match(m:Int)==x with|true=>γ j|false=>η)=_;rw[h]]at q;exact KF (an TK) (an TK) (bC (iW h) (ξ (an TK) (ξ (an TK) (ret TK q))))
     |false=>rw[show dH (.bin .add d (.k j) (.r m)) x=η by show(match(m:Int)==x with|true=>γ j|false=>η)=_;rw[h]]at q;exact KF (an TK) (an TK) (ww (iW h) (ww (iW h) (ret TK q)))
    |k l=>exact KF (an TK) (an TK) (ret TK q)
  |sub=>
   induction a with
   |r m=>
    induction b with
    |k i=>
     cases h:(m:Int)==x with
     |true=>rw[show dH (.bin .sub d (.r m) (.k i)) x=γ (-i%4294967296) by show(match(m:Int)==x with|true=>γ (-i%4294967296)|false=>η)=_;rw[h]]at q;exact ξ (an TK) (bC (iW h) (gY (an TK) (an TK) TK (ret TK q)))
     |false=>rw[show dH (.bin .sub d (.r m) (.k i)) x=η by show(match(m:Int)==x with|true=>γ (-i%4294967296)|false=>η)=_;rw[h]]at q;exact ξ (an TK) (ww (iW h) (ww (iW h) (ret TK q)))
    |r l=>exact ξ (an TK) (Ev (λh1=>ξ (an TK) (ret TK q)) λh1=>ww h1 (ret TK q))
   |k j=>
    induction b with
    |r m=>exact ξ (an TK) (ret TK q)
    |k l=>exact ξ (an TK) (ret TK q)
  |_=>exact ret TK q
 |_=>exact ret TK q
noncomputable def back(rows:List bv)(s d:Nat):Nat->Option Int
 |0=>η
 |n+1=>match rows[n]? with
  |none=>η
  |some q=>match q.dst==(d:Int)with
   |true=>η
   |false=>match q.dst==(s:Int)with
    |true=>dH q d
    |false=>back rows s d n
noncomputable def dE(rows:List bv)(p:Nat)(r:bv):Option Int:=match r with
 |.copy d a=>match a with
  |.r s=>back rows s d p
  |.k _=>η
 |r=>dH r r.dst
theorem rH{rows:List bv}{n:Nat}{r:bv}(h:rows[n]? =γ r):s0 (rows.map TW) (n:Int)=γ (TW r):=by show(rows.map TW)[n]? =_;exists aA;exists h;rfl
theorem Le{n:Nat}{args:List CV}{c:ad}{Q:CV->ad->Prop}{rows:List bv}{p:Nat}{r:bv}(hr:rows[p]? =γ r)(hl:δ rows<=900)(e:args.map (ul c 8)=[.list (rows.map TW),.int p])(q:Q (oV (dE rows p r)) c):Ph (n+2) 109 args c Q:=by
 have hlen:δ (rows.map TW)<=1000:=by exists φ ..,κ hl (by decide)
 refine TT TK TK e (dl (bq je rows) TK) (jI TK hlen (o:=s0 (rows.map TW) (p:Int)) (rH hr) ?_);induction r with
 |bin o d a b=>
  induction o with
  |add=>exact iB (r:=.bin .add d a b) (x:=(d:Int)) (by rfl) (ret (ir _) q)
  |sub=>exact iB (r:=.bin .sub d a b) (x:=(d:Int)) (by rfl) (ret (ir _) q)
  |mul=>exact iB (r:=.bin .mul d a b) (x:=(d:Int)) (by rfl) (ret (ir _) q)
  |xor=>exact iB (r:=.bin .xor d a b) (x:=(d:Int)) (by rfl) (ret (ir _) q)
  |divu=>exact iB (r:=.bin .divu d a b) (x:=(d:Int)) (by rfl) (ret (ir _) q)
 |const d a=>exact iB (r:=.const d a) (x:=(d:Int)) (by rfl) (ret (ir _) q)
 |call a=>exact iB (r:=.call a) (x:= -1) (by rfl) (ret (ir _) q)
 |copy d a=>
  induction a with
  |k i=>exact KF (an TK) (an TK) (iB (r:=.copy d (.k i)) (x:=(d:Int)) (by rfl) (ret (ir _) q))
  |r s=>
   refine bN (an TK) (an TK) (an TK) (an TK) ?_;refine tq (σ:=Int) (λx=>[(35,γ (.list (rows.map TW))),(93,γ (.int p)),(54,γ (TW (.copy d (.r s)))),(108,γ (.int s)),(75,γ (.int x))]) (λ_=>[]) (λx=>∃m:Nat,m<=p/\x=(m:Int) - 1/\back rows s d m=back rows s d p) (λx=>(x+1).toNat) (λx K hi k=>?_) ((p:Int) - 1) ⟨p,aJ _,rfl,rfl⟩ ?_
   ·refine KT hi λm hm hx hb=>?_;clear hi;induction m using b5 with
    |zero=>have hx:x= -1:=hx;exists hx;have:dE rows p (.copy d (.r s))=η:=hb.symm;rw[this]at q;exact ret TK q
    |succ m=>
     have hx:x=(m:Int):=(by exact hx.trans (pK (m:Int) 1));subst hx;have hg:rows[m]? =γ (rows[m]'(bp hm (gr (ay.mp hr).1))):=ag _;generalize rows[m]'(bp hm (gr (ay.mp hr).1))=z at hg;replace hb:(match rows[m]? with|none=>η|some q=>match q.dst==(d:Int)with|true=>η|false=>match q.dst==(s:Int)with|true=>dH q d|false=>back rows s d m)=dE rows p (.copy d (.r s)):=hb;rw[hg]at hb;replace hb:(match z.dst==(d:Int)with|true=>η|false=>match z.dst==(s:Int)with|true=>dH z d|false=>back rows s d m)=dE rows p (.copy d (.r s)):=hb;refine wl hlen (o:=s0 (rows.map TW) (m:Int)) (rH hg) ?_;cases h1:z.dst==(d:Int)with
     |true=>rw[h1]at hb;rw[←hb]at q;exact ww (show(!(z.dst==(d:Int)))=ζ by exists h1;rfl) (ret TK q)
     |false=>
      rw[h1]at hb;refine bC (show(!(z.dst==(d:Int)))=ε by exists h1;rfl) (wl hlen (o:=s0 (rows.map TW) (m:Int)) (rH hg) ?_);cases h2:z.dst==(s:Int)with
      |true=>rw[h2]at hb;rw[←hb]at q;exact bC h2 (wl hlen (o:=s0 (rows.map TW) (m:Int)) (rH hg) (iB (r:=z) (x:=(d:Int)) (by rfl) (ret (ir _) q)))
      |false=>rw[h2]at hb;exact ww h2 (k _ ⟨m,x8 hm,rfl,hb⟩ (by exact by rw[tQ];exact cY m))
   ·have:=(ay.mp hr).1;exact by rw[tQ];exact nk this (aR hl (by decide))
noncomputable def oH(P:List bn)(t:v6):Option Int:=dE (re P t.1) t.2.1 t.2.2
def mR(P:List bn) (t:v6):Prop:=t.1<δ P/\(re P t.1)[t.2.1]? =γ t.2.2/\GM t.2.2
def jO(P:List bn) (b:Bool) (ts:List v6) (d:Int):Prop:=∃t∈ts,0<=t.2.2.dst/\t.2.2.dst=d/\(oH P t).isSome=b
theorem l8:jO P b (ts++[t]) d↔jO P b ts d\/(0<=t.2.2.dst/\t.2.2.dst=d/\(oH P t).isSome=b):=by
 constructor
 ·rintro⟨u,hu,h⟩;rcases aw.mp hu with hu|hu
  ·exact .inl ⟨u,hu,h⟩
  ·cases Θ.mp hu;exact .inr h
 ·rintro(⟨u,hu,h⟩|h)
  ·exact⟨u,b_ _ hu,h⟩
  ·exact⟨t,aI _ (.head _),h⟩
theorem IE(hP:δ P<=1000)(hr:∀b∈P,δ b.1<=900)(ht:∀t∈ts,mR P t)(e:args.map (ul c 8)=[Sc P,KK ts])
  (q:∀S,(∀d:Int,d∈S↔jO P ε ts d/\¬jO P ζ ts d)->Q (.set S) c):Ph (n+3) 111 args c Q:=by
 refine TT TK TK e (dl (fU P) (dl (bq rD ts) TK)) (ξ TK ?_);refine kJ (σ:=(List Int×List Int)×Option CV×Option CV×Option CV) (λs=>[(63,γ (Sc P)),(95,γ (KK ts)),(62,γ (.ref 0)),(110,γ (.ref 1)),(36,s.2.1),(93,s.2.2.1),(54,s.2.2.2)]) (λs=>[γ (.set s.1.1),γ (.set s.1.2)])
  (λxs s=>∃ys,ys++xs=ts/\Ch s.1.1/\Ch s.1.2/\(∀d,d∈s.1.1↔jO P ε ys d)/\∀d,d∈s.1.2↔jO P ζ ys d) (λt xs s K hi k=>?_) ts (([],[]),η,η,η) ⟨[],rfl,Ch.nil,Ch.nil,λd=>⟨λh=>(nomatch h),λz0=>f4 z0 λ_ h _=>(nomatch h)⟩,λd=>⟨λh=>(nomatch h),λz0=>f4 z0 λ_ h _=>(nomatch h)⟩⟩ λs hi=>?_
 ·obtain⟨⟨fs,os⟩,o1,o2,o3⟩:=s;obtain⟨ys,h1,h2,h3,h4,h5⟩:=hi;have htm:t∈ts:=by refine io h1 ?_;exact aI _ (.head _)
  refine bL (ht t htm) λhn hp hk=>?_;have Uk:(ys++[t])++xs=ts:=by refine io (dr ..) ?_;exact h1
  have hd: -1<=t.2.2.dst/\t.2.2.dst<=11:=⟨Ct _,EV hk.2⟩;refine Ev (λg=>?_) λg=>?_
  ·have g':0<=t.2.2.dst:=TN g;have hg:=ag hn;generalize hb:P[t.1]=b at hg;have hrb:re P t.1=b.1:=(by unfold re;exists hg,TK);rw[hrb]at hp;refine wl (by exists jf,hP) (o:=s0 (dD 0 P) (t.1:Int)) (qD hg) (Le (rows:=b.1) (p:=t.2.1) (r:=t.2.2) hp (hr b (av hg)) (by rfl) ?_);have Vs:oH P t=dE b.1 t.2.1 t.2.2:=(by unfold oH;exists hrb,TK);cases hv:dE b.1 t.2.1 t.2.2 with
   |none=>
    replace Vs:=Vs.trans (hv);have sw:=h3.ins hd;refine ξ sw.ok (k ((fs,NE t.2.2.dst os),_,_,_) TQ ⟨_,Uk,h2,sw,λd=>?_,λd=>?_⟩)
    ·rw[l8,Vs,h4];exact⟨.inl,λh=>h.resolve_right λh=>nomatch h.2.2⟩
    ·rw[l8,Vs,b6,h5];exact⟨λh=>h.elim (λe=>.inr ⟨g',e.symm,rfl⟩) .inl,λh=>h.elim .inr λh=>.inl h.2.1.symm⟩
   |some v=>
    rw[hv]at Vs;have sw:=h2.ins hd;refine ξ sw.ok (k ((NE t.2.2.dst fs,os),_,_,_) TQ ⟨_,Uk,sw,h3,λd=>?_,λd=>?_⟩)
    ·rw[l8,Vs,b6,h4];exact⟨λh=>h.elim (λe=>.inr ⟨g',e.symm,rfl⟩) .inl,λh=>h.elim .inr λh=>.inl h.2.1.symm⟩
    ·rw[l8,Vs,h5];exact⟨.inl,λh=>h.resolve_right λh=>nomatch h.2.2⟩
  ·have g':¬0<=t.2.2.dst:=of_decide_eq_false g;exact k (_,_,_,_) TQ ⟨_,Uk,h2,h3,λd=>by rw[l8,h4];exact⟨.inl,λh=>h.resolve_right λh=>g' h.1⟩,λd=>by rw[l8,h5];exact⟨.inl,λh=>h.resolve_right λh=>g' h.1⟩⟩
 ·obtain⟨⟨fs,os⟩,o1,o2,o3⟩:=s;obtain⟨ys,h1,h2,h3,h4,h5⟩:=hi;rw[aL]at h1;subst h1;exact ret TK (q _ λd=>by rw[jd,h4,h5])
noncomputable def mJ(a:Ix):Int×Int:=((a.1:Int),(a.2.1:Int))
structure Gw(gk:Int×Int->Int) (ks:List (Int×Int)) (vs:List CV):Prop where
 get:∀p w,wf p ks vs=γ w->w= .int (gk p)
 len:δ ks=δ vs
theorem Nn{K:Type}[BEq K]{k p:K}{v:CV}{ks:List K}{vs:List CV}(h:δ ks=δ vs):wf k (ks++[p]) (vs++[v])=match wf k ks vs with|some w=>γ w|none=>(match k==p with|true=>γ v|false=>η):=by
 refine lY (M:=λks vs=>wf k (ks++[p]) (vs++[v])=match wf k ks vs with|some w=>γ w|none=>(match k==p with|true=>γ v|false=>η)) ?_ (λa w ks vs _ ih=>?_) h
 ·show(match k==p with|true=>γ v|false=>_)=_;cases k==p<;>rfl
 ·exists uc;exists uc;cases q:k==a with
  |true=>exact ac (e9 q) (ac (e9 q) TK)
  |false=>refine ac (dy q) (ac (dy q) ?_);exact ih
theorem Gw.app{gk:Int×Int->Int}{ks:List (Int×Int)}{vs:List CV}(h:Gw gk ks vs)(p:Int×Int):Gw gk (ks++[p]) (vs++[.int (gk p)]):=by
 refine⟨λq w e=>?_,by exists Δ;exists Δ;exists h.len;rfl⟩;replace e:=(Nn h.len).symm.trans e;cases z:wf q ks vs with
 |some w'=>rw[z]at e;cases e;exact h.get q w z
 |none=>
  rw[z]at e;replace e:(match q==p with|true=>γ (CV.int (gk p))|false=>η)=γ w:=e;cases y:q==p with
  |true=>rw[y]at e;replace e:=ω e;subst e;exists TM y,TK
  |false=>rw[y]at e;exact pt e
noncomputable def SO:Ss:=(.cons (.ife (.and (.cmp .isin (.l 36) (.l 122)) (.cons (.cmp .isin (.sub (.l 87) (.i (.int 1))) (.l 62)) .nil)) (.cons (.ife (.cmp .ne (.setdef (.l 172) (.tup (.cons (.l 36) (.cons (.l 93) .nil))) (.bin .mod (.bin .sub (.l 145) (.l 171)) (.glob 4))) (.bin .mod (.bin .sub (.l 145) (.l 171)) (.glob 4))) (.cons (.ret (.i (.bool ζ)))
 .nil) .nil)
 .nil) .nil)
 .nil)
theorem Sh{o:Option CV}{A:CV->Prop}{B:Prop}:(∀w,o=γ w->A w)->(o=η->B)->(match o with|some w=>A w|.none=>B):=by
 intro h1 h2;induction o with
 |none=>exact h2 TK
 |some w=>exact h1 w TK
theorem Np{Φ:Nat->Fn}{fl:Nat}{rg:List Nat}{S:List Int}{gk:Int×Int->Int}{A1 A3 A4:Option CV}{O:L}{N:L->ad->Prop}{R:CV->ad->Prop}{sm:ad->Prop}{tr:List Ix}(hs:∀c,sm c)(ht:δ tr<=1000)(hg:∀a∈tr,rg.contains a.1=ε->S.contains a.2.2.1.dst=ε->(a.2.2.2.2 - a.2.2.2.1)%4294967296=gk (mJ a))(o1 o2 o3 o4 o5:Option CV)
  (k:∀c o1 o2 o3 o4 o5,N ((63,A1)::(122,γ (sB rg))::(142,A3)::(62,γ (.set S))::(129,A4)::(172,γ (.ref 0))::(36,o1)::(93,o2)::(87,o3)::(171,o4)::(145,o5)::O) c):
  ZB sm (λx l c' K=>wT Φ (.tup (.cons (.name 36) (.cons (.name 93) (.cons (.name 87) (.cons (.name 171) (.cons (.name 145) .nil)))))) x l c' λl c'=>fn Φ SO fl l c' K K R) (tr.map dG) ((63,A1)::(122,γ (sB rg))::(142,A3)::(62,γ (.set S))::(129,A4)::(172,γ (.ref 0))::(36,o1)::(93,o2)::(87,o3)::(171,o4)::(145,o5)::O) [γ (.pdict [] [])] N:=by
 refine iN (σ:=(List (Int×Int)×List CV)×Option CV×Option CV×Option CV×Option CV×Option CV) (enc:=dG) (λs=>(63,A1)::(122,γ (sB rg))::(142,A3)::(62,γ (.set S))::(129,A4)::(172,γ (.ref 0))::(36,s.2.1)::(93,s.2.2.1)::(87,s.2.2.2.1)::(171,s.2.2.2.2.1)::(145,s.2.2.2.2.2)::O) (λs=>[γ (.pdict s.1.1 s.1.2)])
  (λxs s=>∃ys,ys++xs=tr/\δ s.1.1<=δ ys/\Gw gk s.1.1 s.1.2) (λa xs s K hi k=>?_) tr TK (([],[]),o1,o2,o3,o4,o5) ⟨[],rfl,aJ _,λp w e=>(nomatch e),rfl⟩ λs hi=>k _ _ _ _ _ _
 obtain⟨⟨ks,vs⟩,o1,o2,o3,o4,o5⟩:=s;obtain⟨ys,h1,h2,h3⟩:=hi;replace h2:δ ks<=δ ys:=h2;have Uk:(ys++[a])++xs=tr:=by refine io (dr ..) ?_;exact h1
 have Wv:δ ys<=1000:=κ (by refine io h1 (ac Δ ?_);exact ao _ _) ht;have ha:a∈tr:=by refine io h1 ?_;exact aI _ (.head _)
 have hl2:δ (ys++[a])=δ ys+1:=by exists Δ;rfl
 have skip:Gw gk ks vs->∀o1 o2 o3 o4 o5,K ((63,A1)::(122,γ (sB rg))::(142,A3)::(62,γ (.set S))::(129,A4)::(172,γ (.ref 0))::(36,o1)::(93,o2)::(87,o3)::(171,o4)::(145,o5)::O) [γ (.pdict ks vs)]:=λg o1 o2 o3 o4 o5=>k ((ks,vs),o1,o2,o3,o4,o5) (hs _) ⟨ys++[a],Uk,by exists hl2;exact eY h2,g⟩
 have Y1:bh [γ (.pdict ks vs)] .isin (.int a.1) (sB rg)=γ (rg.contains a.1):=nG;refine db Y1 (Ev (λz1=>?_) λz1=>ww z1 (skip h3 _ _ _ _ _));refine wl (an TK) TK (Ev (b:=S.contains a.2.2.1.dst) (λz2=>?_) λz2=>skip h3 _ _ _ _ _);have Wc:=hg a ha z1 z2;have hb:(0:Int)<4294967296/\True:=⟨by decide,trivial⟩;refine gY (an TK) (by decide) (κ h2 Wv) (Sh (o:=wf (mJ a) ks vs) (λw hw=>?_) λhw=>?_)
 ·have e:=h3.get _ _ hw;exists e;refine ξ (by decide) (ww (b:= !(gk (mJ a)==(a.2.2.2.2 - a.2.2.2.1)%4294967296)) (by exists Wc,ip) (skip h3 _ _ _ _ _))
 ·refine ξ (by decide) (ww (b:= !((a.2.2.2.2 - a.2.2.2.1)%4294967296==(a.2.2.2.2 - a.2.2.2.1)%4294967296)) ip ?_);have:=k ((ks++[mJ a],vs++[.int (gk (mJ a))]),γ (.int a.1),γ (.int a.2.1),γ (sK a.2.2.1),γ (.int a.2.2.2.1),γ (.int a.2.2.2.2)) (hs _) ⟨ys++[a],Uk,by exists hl2;exists Δ;exact bZ h2,Gw.app h3 _⟩;rw[←Wc]at this;exact this
noncomputable def dz(P:List bn)(rg:List Nat):List bv:=rg.flatMap (re P)
theorem sr{P:List bn}{o:Nat}{b:bn}(hb:P[o]? =γ b):s0 (P.map un) (o:Int)=γ (un b):=by show(P.map un)[o]? =_;exists aA;exists hb;rfl
theorem l9{P:List bn}{o:Nat}{b:bn}(hb:P[o]? =γ b):re P o=b.1:=by unfold re;exists hb,TK
theorem qK{g:bv->CV}{f:Nat->List bv}{l:List Nat}:l.flatMap (λa=>(f a).map g)=(l.flatMap f).map g:=by
 induction l with
 |nil=>rfl
 |cons a l ih=>exact ac kY (ac kY (ac aj (ac ih TK)))
theorem BY(hP:δ P<=900)(Vx:∀a∈rg,a<δ P)(hl:δ (dz P rg)<=1000)(h1:pc l 129=γ (wn P))(h2:pc l 122=γ (sB rg))
  (hg:∀r o Q,Q (g r) c->wE Φ last [(129,γ (wn P)),(36,o),(87,γ (sK r))] c Q) (k:fn Φ ss fl (putL l x (.list ((dz P rg).map g))) c N C R):
  fn Φ (.cons (.g (.name x) (.comp ζ [129] [36,87] (.name 36) ζ (.l 122) .nil (.cons (.name 87) ζ (.sub (.sub (.l 129) (.l 36)) (.i (.int 0))) .nil (.last last)))) ss) fl l c N C R:=by
 have UB:δ (P.map un)<=1000:=by exists φ ..,κ ‹_› (by decide)
 have main:cA (λc'=>ct c c' (sB rg)) (λx r l c Q=>wT Φ (.name 36) x l c λl c=>cx Φ .nil l c λb c=>br b (wG Φ (.cons (.name 87) ζ (.sub (.sub (.l 129) (.l 36)) (.i (.int 0))) .nil (.last last)) r l c Q) (Q r l c)) (rg.map λ(i:Nat)=>CV.int i) [] [(129,γ (wn P)),(36,η),(87,η)] c λr _ c=>fn Φ ss fl (putL l x (.list r)) c N C R:=by
  refine dU (σ:=Option CV×Option CV) (enc:=λ(i:Nat)=>CV.int i) (λs=>[(129,γ (wn P)),(36,s.1),(87,s.2)]) c (λa=>(re P a).map g) rg TK (λa s r K ha hr k=>?_) TQ [] (η,η) (by rw[qK,aB,φ];exact hl) λs=>by rw[qK];exact k
  have hb:=ag (Vx a ha);generalize P[a]'(Vx a ha)=b at hb;rw[l9 hb]at hr k;refine ξ UB (db (o:=s0 (P.map un) (a:Int)) (sr hb) (ξ (an TK) (db TK ?_)));refine dU (σ:=Option CV) (enc:=sK) (λs=>[(129,γ (wn P)),(36,γ (.int a)),(87,s)]) c (λr=>[g r]) b.1 TK (λq s r K hq hr k=>hg q (γ (.int a)) _ (ξ ?_ (k _))) TQ r s.2 (by exists On ..,hr) λs=>by exists On ..,k (_,s)
  rw[Δ]at hr;exact κ (ao _ _) hr
 refine db h2 ?_;rw[←h1]at main;exact main
noncomputable def dF:Nat->List Nat->List (Nat×Nat)|_,[]=>[]|p,m::ms=>(p,m)::dF (p+1) ms
theorem Lf:∀{p:Nat},fj p (ms.map λ(i:Nat)=>CV.int i)=(dF p ms).map λx=>.tup [.int x.1,.int x.2]:=by
 induction ms with
 |nil=>exact rfl
 |cons m ms ih=>exact TL (CV.tup [.int _,.int m]::·) ih
noncomputable def eV(b:Bool)(x:Nat×Nat)(s:List bv×List bv):List bv×List bv:=match b&&x.1%2==0 with|true=>(s.1++[de x.2],s.2)|false=>(s.1,s.2++[de x.2])
noncomputable def cz(b:Bool):List (Nat×Nat)->List bv×List bv->List bv×List bv|[],s=>s|x::xs,s=>cz b xs (eV b x s)
noncomputable def FB(l:List bv):CV:=.list (l.map sK)
theorem Ah(l:List bv)(r:bv):FB (l++[r])= .list (l.map sK++[sK r]):=by unfold FB;exists aj;rfl
theorem Lg(hb:decide (sh<2)=b)(hs:∀c,sm c)(F:List bv×List bv)(hl:δ F.1+δ F.2<=900)(xs:List (Nat×Nat))
  (k:∀o1 o2,N ((89,A)::(125,γ (.int sh))::(128,γ (.ref 2))::(93,o1)::(36,o2)::O) [γ (FB F.1),γ (FB F.2),γ (.list [.ref 0,.ref 1])]):∀(s:List bv×List bv) (o1 o2:Option CV),cz b xs s=F->δ s.1+δ s.2+δ xs<=900->
  ZB sm (λx l c' K=>wT (Ph (n+1)) (.tup (.cons (.name 93) (.cons (.name 36) .nil))) x l c' λl c'=>fn (Ph (n+1)) (.cons (.ex (.me .append (.sub (.l 128) (.ite (.cmp .lt (.l 125) (.i (.int 2))) (.bin .mod (.l 93) (.i (.int 2))) (.i (.int 1)))) (.call 119 (.cons (.l 36) .nil))))
 .nil) fl l c' K K R) (xs.map λx=>.tup [.int x.1,.int x.2]) ((89,A)::(125,γ (.int sh))::(128,γ (.ref 2))::(93,o1)::(36,o2)::O) [γ (FB s.1),γ (FB s.2),γ (.list [.ref 0,.ref 1])] N:=by
 induction xs with
 |nil=>intro s o1 o2 h1 _;subst h1;exact k o1 o2
 |cons x xs ih=>
  intro s o1 o2 h1 h2;obtain⟨p,m⟩:=x;obtain⟨s1,s2⟩:=s;have Uk:cz b xs (eV b (p,m) (s1,s2))=F:=h1;have Vw:δ s1+δ s2+(δ xs+1)<=900:=h2;have l1:δ (s1.map sK)<=1000:=by exists φ ..,κ (κ (κ (ao _ _) (ao _ _)) Vw) (by decide)
  have l2:δ (s2.map sK)<=1000:=by exists φ ..;lia
  have right:eV b (p,m) (s1,s2)=(s1,s2++[de m])->ZB sm _ (xs.map λx=>.tup [.int x.1,.int x.2]) ((89,A)::(125,γ (.int sh))::(128,γ (.ref 2))::(93,γ (.int p))::(36,γ (.int m))::O) [γ (FB s1),γ (.list (s2.map sK++[sK (de m)])),γ (.list [.ref 0,.ref 1])] N:=λh=>by rw[h]at Uk;have:=ih (s1,s2++[de m]) (γ (.int p)) (γ (.int m)) Uk (by show δ s1+δ (s2++[de m])+δ xs<=900;exists Δ;show δ s1+(δ s2+1)+δ xs<=900;exact κ (a5 (cV (δ s1+δ s2) 1 _)) Vw);rw[Ah]at this;exact this
  induction b with
  |true=>
   have hp:p%2=0\/p%2=1:=Nat.mod_two_eq_zero_or_one p;refine bC hb (KF (by decide) (an TK) ?_);rcases hp with hp|hp
   ·have ht:eV ε (p,m) (s1,s2)=(s1++[de m],s2):=(by show(match ε&&p%2==0 with|true=>_|false=>_)=_;exists hp;rfl);rw[ht]at Uk;have:=ih (s1++[de m],s2) (γ (.int p)) (γ (.int m)) Uk (by show δ (s1++[de m])+δ s2+δ xs<=900;exists Δ;show δ s1+1+δ s2+δ xs<=900;(rw[cV (δ s1) 1];exact κ (a5 (cV _ 1 _)) Vw));rw[Ah]at this;refine db (a:=CV.ref 0) (o:=s0 [CV.ref 0,.ref 1] ((p%2:Nat):Int)) (by exists hp;rfl) (wa (m:=m) (by rfl) (ξ l1 ⟨hs _,this⟩))
   ·have ht:eV ε (p,m) (s1,s2)=(s1,s2++[de m]):=(by show(match ε&&p%2==0 with|true=>_|false=>_)=_;exists hp;rfl);refine db (a:=CV.ref 1) (o:=s0 [CV.ref 0,.ref 1] ((p%2:Nat):Int)) (by exists hp;rfl) (wa (m:=m) (by rfl) (ξ l2 ⟨hs _,right ht⟩))
  |false=>exact ww hb (ξ (an TK) (wa (m:=m) (by rfl) (ξ l2 ⟨hs _,right TK⟩)))
set_option backward.match.sparseCases false
noncomputable def gG(x:Int):bv->Bool
 |.bin o _ a b=>match o with
  |.add=>match a with
   |.r m=>match b with
    |.k _=>(m:Int)==x
    |.r _=>ζ
   |.k _=>ζ
  |.sub=>match a with
   |.r m=>match b with
    |.k _=>(m:Int)==x
    |.r _=>ζ
   |.k _=>ζ
  |_=>ζ
 |_=>ζ
noncomputable def fH:bv->Bool
 |.bin o _ _ _=>match o with|.mul=>ε|.xor=>ε|.divu=>ε|_=>ζ
 |.const _ _=>ε
 |_=>ζ
theorem Bf{l:List Int}:eC (l.map CV.int)=γ l:=by
 induction l with
 |nil=>rfl
 |cons a l ih=>show(eC (l.map CV.int)).map (a::·)=_;exists ih;rfl
theorem Ch.ofL{l:List Int}(h:∀x∈l, -1<=x/\x<=11):Ch (Mine.ofL l):=by
 induction l with
 |nil=>exact Ch.nil
 |cons x l ih=>exact(ih λy hy=>h y (.tail _ hy)).ins (h x (.head _))
theorem Nq{Φ:Nat->Fn}{q:bv}{r:List CV}{s:Option CV}{c:ad}{K:List CV->L->ad->Prop}(hr:δ r<=1000)(k1:decide (0<=q.dst)=ε->∀s,K (r++[.int q.dst]) [(87,s)] c)(k2:decide (0<=q.dst)=ζ->∀s,K r [(87,s)] c):
  wT Φ (.name 87) (sK q) [(87,s)] c λl c=>cx Φ (.cons (.cmp .ge (.sub (.l 87) (.i (.int 1))) (.i (.int 0))) .nil) l c λb c=>br b (wG Φ (.last (.sub (.l 87) (.i (.int 1)))) r l c K) (K r l c):=
 ξ (an TK) (Ev (b:=decide (0<=q.dst)) (λz=>KF (an TK) hr (k1 z _)) λz=>k2 z _)
theorem Lh{Φ:Nat->Fn}{x:Int}{q:bv}{r:List CV}{s:Option CV}{c:ad}{K:List CV->L->ad->Prop}(hr:δ r<=1000)(k1:(q.dst==x)=ε->∀s,K (r++[sK q]) [(130,γ (.int x)),(87,s)] c)(k2:(q.dst==x)=ζ->∀s,K r [(130,γ (.int x)),(87,s)] c):
  wT Φ (.name 87) (sK q) [(130,γ (.int x)),(87,s)] c λl c=>cx Φ (.cons (.cmp .eq (.sub (.l 87) (.i (.int 1))) (.l 130)) .nil) l c λb c=>br b (wG Φ (.last (.l 87)) r l c K) (K r l c):=
 ξ (an TK) (Ev (b:=q.dst==x) (λz=>ξ hr (k1 z _)) λz=>k2 z _)
noncomputable def CC:E:=.and (.cmp .isin (.sub (.l 87) (.i (.int 0))) (.tup (.cons (.i (.str 16)) (.cons (.i (.str 17)) .nil)))) (.cons (.cmp .eq (.sub (.sub (.l 87) (.i (.int 2))) (.i (.int 0))) (.tup (.cons (.i (.str 71)) (.cons (.l 130) .nil)))) (.cons (.cmp .eq (.sub (.sub (.sub (.l 87) (.i (.int 2))) (.i (.int 1))) (.i (.int 0))) (.i (.str 57))) .nil))
theorem JT{Φ:Nat->Fn}{x:Int}{q:bv}{r:List CV}{s:Option CV}{c:ad}{K:List CV->L->ad->Prop}(hr:δ r<=1000)(k1:gG x q=ε->∀s,K (r++[sK q]) [(130,γ (.int x)),(87,s)] c)(k2:gG x q=ζ->∀s,K r [(130,γ (.int x)),(87,s)] c):
  wT Φ (.name 87) (sK q) [(130,γ (.int x)),(87,s)] c λl c=>cx Φ (.cons CC .nil) l c λb c=>br b (wG Φ (.last (.l 87)) r l c K) (K r l c):=by
 refine KF (an TK) (an TK) ?_;induction q with
 |bin o d a b=>
  induction o with
  |add=>
   induction a with
   |k i=>exact(FS [4,2,2] TK (k2 TK _):EQ _ _)
   |r m=>
    refine(FS [4,2,2] TK ?_:EQ _ _);induction b with
    |k i=>exact Ev (b:=ε&&(((m:Int)==x)&&ε)) (λz=>(FS [4,2,2] TK (ξ hr (k1 (jp (jp z).2).1 _)):EQ _ _)) λz=>ww z (k2 (by rw[p6,g_]at z;exact z) _)
    |r l=>exact Ev (b:=ε&&(((m:Int)==x)&&ε)) (λz=>(FS [4,2,2] TK (k2 TK _):EQ _ _)) λz=>ww z (k2 TK _)
  |sub=>
   induction a with
   |k i=>exact(FS [4,2,2] TK (k2 TK _):EQ _ _)
   |r m=>
    refine(FS [4,2,2] TK ?_:EQ _ _);induction b with
    |k i=>exact Ev (b:=ε&&(((m:Int)==x)&&ε)) (λz=>(FS [4,2,2] TK (ξ hr (k1 (jp (jp z).2).1 _)):EQ _ _)) λz=>ww z (k2 (by rw[p6,g_]at z;exact z) _)
    |r l=>exact Ev (b:=ε&&(((m:Int)==x)&&ε)) (λz=>(FS [4,2,2] TK (k2 TK _):EQ _ _)) λz=>ww z (k2 TK _)
  |mul=>exact k2 TK _
  |xor=>exact k2 TK _
  |divu=>exact k2 TK _
 |copy d a=>exact k2 TK _
 |const d a=>exact k2 TK _
 |call a=>exact k2 TK _
theorem Nr{Φ:Nat->Fn}{q:bv}{r:List CV}{s:Option CV}{c:ad}{K:List CV->L->ad->Prop}(hr:δ r<=1000)(k1:fH q=ε->∀s,K (r++[sK q]) [(87,s)] c)(k2:fH q=ζ->∀s,K r [(87,s)] c):
  wT Φ (.name 87) (sK q) [(87,s)] c λl c=>cx Φ (.cons (.cmp .isin (.sub (.l 87) (.i (.int 0))) (.tup (.cons (.i (.str 21)) (.cons (.i (.str 19)) (.cons (.i (.str 18)) (.cons (.i (.str 13)) .nil)))))) .nil) l c λb c=>br b (wG Φ (.last (.l 87)) r l c K) (K r l c):=by
 refine(FS [4,4] TK ?_:EQ _ _);induction q with
 |bin o d a b=>
  induction o with
  |add=>exact k2 TK _
  |sub=>exact k2 TK _
  |mul=>exact ξ hr (k1 TK _)
  |xor=>exact ξ hr (k1 TK _)
  |divu=>exact ξ hr (k1 TK _)
 |copy d a=>exact k2 TK _
 |const d a=>exact ξ hr (k1 TK _)
 |call a=>exact k2 TK _
noncomputable def CD:Ss:=(.cons (.ife (.and (.cmp .ne (.comp ζ [] [87] (.name 87) ζ (.l 169) (.cons (.cmp .isin (.sub (.l 87) (.i (.int 0))) (.tup (.cons (.i (.str 21)) (.cons (.i (.str 19)) (.cons (.i (.str 18)) (.cons (.i (.str 13)) .nil)))))) .nil) (.last (.l 87))) (.list ζ .nil)) (.cons (.cmp .isin (.l 130) (.l 62)) .nil)) (.cons (.ret (.i (.bool ζ)))
 .nil) .nil)
 .nil)
noncomputable def Si:Ss:=(.cons (.g (.name 169) (.comp ζ [130] [87] (.name 87) ζ (.l 95) (.cons (.cmp .eq (.sub (.l 87) (.i (.int 1))) (.l 130)) .nil) (.last (.l 87))))
 (.cons (.g (.name 170) (.comp ζ [130] [87] (.name 87) ζ (.l 169) (.cons CC .nil) (.last (.l 87))))
 (.cons (.ife (.and (.cmp .eq (.bi .len ζ (.cons (.l 170) .nil)) (.bi .len ζ (.cons (.l 169) .nil))) (.cons (.cmp .notin (.l 130) (.l 62)) .nil)) (.cons (.ret (.i (.bool ζ)))
 .nil) .nil)
 CD)))
noncomputable def te(P:List bn)(rg:List Nat)(tr:List Ix)(S:List Int)(RR:List bv)(o1 o2 o3 o4 o5 o6 o7 o8:Option CV):L:=[(63,γ (Sc P)),(122,γ (sB rg)),(142,γ (AT tr)),(62,γ (.set S)),(129,γ (wn P)),(172,γ (.ref 0)),(36,o1),(93,o2),(87,o3),(171,o4),(145,o5),(95,γ (FB RR)),(130,o6),(169,o7),(170,o8)]
theorem Nt{α:Type}{p:α->Bool}:∀{l:List α},δ (l.filter p)=δ l->∀a∈l,p a=ε:=λ{l} h=>Fb.mp (List.filter_sublist.eq_of_length h)
theorem Li{Φ:Nat->Fn}{fl:Nat}{P:List bn}{rg:List Nat}{tr:List Ix}{S:List Int}{RR:List bv}{o1 o2 o3 o4 o5 o7 o8:Option CV}{c:ad}{K C:L->ad->Prop}{R:CV->ad->Prop}{x:Int}(hl:δ RR<=1000)(hA:(∀r∈RR,r.dst=x->gG x r=ε)->x∈S)(hB:(∃r∈RR,r.dst=x/\fH r=ε)->¬x∈S)
  (k:∀o7 o8,K (te P rg tr S RR o1 o2 o3 o4 o5 (γ (.int x)) o7 o8) c):fn Φ Si fl (te P rg tr S RR o1 o2 o3 o4 o5 (γ (.int x)) o7 o8) c K C R:=by
 refine dY (σ:=Option CV) (enc:=sK) (λs=>[(130,γ (.int x)),(87,s)]) c (λq=>q.dst==x) sK (λ_=>True) (λq s r K _ hr k1 k2=>Lh hr k1 k2) TQ RR [] η (λ_ _=>trivial) (by rw[cC,az];exact hl) λs=>?_;exists aB ..;generalize hH:RR.filter (λq=>q.dst==x)=HR;have Y2:δ HR<=1000:=by refine io hH ?_;exact κ (fP _ _) hl
 have hHm:∀r,r∈HR↔r∈RR/\r.dst=x:=λr=>by rw[←hH,b3];exact and_congr_right λ_=>beq_iff_eq
 refine dY (σ:=Option CV) (enc:=sK) (λs=>[(130,γ (.int x)),(87,s)]) c (gG x) sK (λ_=>True) (λq s r K _ hr k1 k2=>JT hr k1 k2) TQ HR [] η (λ_ _=>trivial) (by rw[cC,az];exact Y2) λs=>?_;exists aB ..;have WO:δ (HR.filter (gG x))<=1000:=κ (fP _ _) Y2;refine KF (by exists φ ..,WO) (by exists φ ..,Y2) ?_;have main:fn Φ CD fl (te P rg tr S RR o1 o2 o3 o4 o5 (γ (.int x)) (γ (FB HR)) (γ (FB (HR.filter (gG x))))) c K C R:=by
  refine dY (σ:=Option CV) (enc:=sK) (λs=>[(87,s)]) c fH sK (λ_=>True) (λq s r K _ hr k1 k2=>Nr hr k1 k2) TQ HR [] η (λ_ _=>trivial) (by rw[cC,az];exact Y2) λs=>?_;exists aB ..;have Um:bh c .ne (.list ((HR.filter fH).map sK)) (.list [])=γ (!((HR.filter fH).map sK).isEmpty):=by show mK (.list ((HR.filter fH).map sK)) (.list [])=_;cases HR.filter fH<;>rfl
  refine wl (an TK) Um ?_;cases hF:HR.filter fH with
  |nil=>exact k _ _
  |cons z zs=>
   have hz:z∈HR.filter fH:=(by exists hF,.head _);obtain⟨z1,z2⟩:=b3.mp hz;obtain⟨z3,z4⟩:=(hHm z).mp z1;have hn:S.contains x=ζ:=by
    cases e:S.contains x with
    |false=>rfl
    |true=>exact absurd (ak.mp e) (hB ⟨z,z3,z4,z2⟩)
   exact ww (b:=S.contains x) hn (k _ _)
 refine Ev (b:=(δ ((HR.filter (gG x)).map sK):Int)==(δ (HR.map sK):Int)) (λz=>?_) λz=>ww (b:=(δ ((HR.filter (gG x)).map sK):Int)==(δ (HR.map sK):Int)) z main;have z':=aW (TM z);rw[φ,φ]at z';have hx:S.contains x=ε:=ak.mpr (hA λr hr e=>Nt z' r ((hHm r).mpr ⟨hr,e⟩));exact ww (b:= !S.contains x) (by exists hx;rfl) main
theorem Q7(hl:pc l 63=γ v)(h:wE Φ gP l c λw c=>Φ 94 [v,w] c λts c=>Φ 111 [v,ts] c λz c=>fn Φ ss fl (putL l 62 z) c N C R):
  fn Φ (.cons (.g (.name 62) (.call 111 (.cons (.l 63) (.cons (.call 94 (.cons (.l 63) (.cons gP .nil))) .nil)))) ss) fl l c N C R:=db hl (db hl h)
def DH(P:List bn) (ts:List v6) (S:List Int):Prop:=∀d:Int,d∈S↔jO P ε ts d/\¬jO P ζ ts d
structure Dd(P:List bn) (rg bs:List Nat) (tr:List Ix) (S:List Int):Prop where
 gk:∃gk:Int×Int->Int,∀a∈tr,rg.contains a.1=ε->S.contains a.2.2.1.dst=ε->(a.2.2.2.2 - a.2.2.2.1)%4294967296=gk (mJ a)
 pl:∀x:Int,0<=x->(∃r∈dz P rg,r.dst=x)->(∀r∈dz P rg,r.dst=x->gG x r=ε)->x∈S
 bd:∀x:Int,0<=x->(∃r∈dz P rg,r.dst=x/\fH r=ε)->¬x∈S
theorem IF(ok:bE P)(hP:δ P<=900)(hr:∀b∈P,δ b.1<=900)(R:kM h rg bs tl)(hb:∀n∈bs,n<δ P)(Vx:∀n∈rg,n<δ P)(VJ:δ (xz P bs)<=1000)(hl2:δ (dz P rg)<=1000)(UH:∀t∈xz P bs,mR P t)(VM:∀r∈dz P rg,GM r)(ht:δ tr<=1000)
  (e:args.map (ul c 8)=[Sc P,sB rg,AT tr]) (hC:∀S,DH P (xz P bs) S->Dd P rg bs tr S) (q:Q (.bool ε) c):Ph (n+4) 173 args c Q:=by
 refine TT TK TK e (dl (fU P) (dl (bq (λ_=>rfl) rg) (dl (bq qF tr) TK))) (ξ TK ?_);refine Q7 (v:=Sc P) TK (sk (n:=n+2) (l:=[(63,γ (Sc P)),(122,γ (sB rg)),(142,γ (AT tr)),(62,η),(129,η),(172,η),(36,η),(93,η),(87,η),(171,η),(145,η),(95,η),(130,η),(169,η),(170,η)]) R TK _ (AP (P:=P) (h:=h) (bs:=bs) (tl:=tl) (iJ (by rfl) (by rfl)) (κ ‹_› (by decide)) hb VJ ?_));refine IE (n:=n) (P:=P) (ts:=xz P bs) (κ ‹_› (by decide)) hr UH (iJ (by rfl) (by rfl)) λS hS=>?_;have HK:=hC S hS;obtain⟨gk,hgk⟩:=HK.gk;refine ka (P:=P) (κ ‹_› (by decide)) (λb hb=>κ (hr b hb) (by decide)) (kL (by rfl)) (FS [2] TK ?_:EQ _ _);refine Np (S:=S) (rg:=rg) (tr:=tr) (gk:=gk) (A1:=γ (Sc P)) (A3:=γ (AT tr)) (A4:=γ (wn P)) (O:=[(95,η),(130,η),(169,η),(170,η)]) (λ_=>trivial) ht hgk η η η η η λc' o1 o2 o3 o4 o5=>?_;refine BY (last:=.l 87) (g:=sK) (x:=95) (P:=P) (rg:=rg) (l:=[(63,γ (Sc P)),(122,γ (sB rg)),(142,γ (AT tr)),(62,γ (.set S)),(129,γ (wn P)),(172,γ (.ref 0)),(36,o1),(93,o2),(87,o3),(171,o4),(145,o5),(95,η),(130,η),(169,η),(170,η)]) hP Vx hl2 TK TK (λr o Q q=>q) ?_;generalize Z3:dz P rg=RR at hl2 VM;refine dY (σ:=Option CV) (enc:=sK) (λs=>[(87,s)]) c' (λq=>decide (0<=q.dst)) (λq:bv=>.int q.dst) (λ_=>True) (λq s r K _ hr k1 k2=>Nq hr k1 k2) TQ RR [] η (λ_ _=>trivial) (by rw[cC,az];exact hl2) λs=>?_;exists aB ..;have UC:∀x,x∈(RR.filter λq=>decide (0<=q.dst)).map (λq:bv=>q.dst)↔0<=x/\∃r∈RR,r.dst=x:=λx=>by
  rw[au];constructor
  ·rintro⟨r,h1,rfl⟩;obtain⟨h2,h3⟩:=b3.mp h1;exact⟨TN h3,r,h2,rfl⟩
  ·rintro⟨h0,r,h1,rfl⟩;exact⟨r,b3.mpr ⟨h1,TR h0⟩,rfl⟩
 have hi:eC ((RR.filter λq=>decide (0<=q.dst)).map λq:bv=>CV.int q.dst)=γ ((RR.filter λq=>decide (0<=q.dst)).map λq:bv=>q.dst):=by refine io Bf (ac cM ?_);rfl
 have hw:Ch (ofL ((RR.filter λq=>decide (0<=q.dst)).map λq:bv=>q.dst)):=Ch.ofL λx hx=>by obtain⟨h0,r,h1,e⟩:=(UC x).mp hx;have:=(VM r h1).2;lia
 have WQ:∀x,x∈ofL ((RR.filter λq=>decide (0<=q.dst)).map λq:bv=>q.dst)↔0<=x/\∃r∈RR,r.dst=x:=λx=>vy.trans (UC x);refine db (o:=eC ((RR.filter λq=>decide (0<=q.dst)).map λq:bv=>CV.int q.dst)) hi ?_;refine ξ hw.ok ?_;generalize ofL ((RR.filter λq=>decide (0<=q.dst)).map λq:bv=>q.dst)=cs at WQ;refine iN (σ:=Option CV×Option CV×Option CV) (enc:=CV.int) (λs=>te P rg tr S RR o1 o2 o3 o4 o5 s.1 s.2.1 s.2.2) (λ_=>c') (λxs _=>∀x∈xs,0<=x/\∃r∈RR,r.dst=x) (λx xs s K hi k=>?_) cs TK (η,η,η) (λx hx=>(WQ x).mp hx) λs _=>ret TK q;obtain⟨h0,hx⟩:=hi x (.head _);refine Li (P:=P) (rg:=rg) (tr:=tr) (S:=S) (RR:=RR) (x:=x) hl2 (λhp=>HK.pl x h0 (by exists Z3,hx) (by exists Z3,hp)) (λhb=>HK.bd x h0 (by exists Z3,hb)) λo7 o8=>k (_,o7,o8) TQ λy hy=>hi y (.tail _ hy)
theorem Pu{Φ:Nat->Fn}{ss:Ss}{fl:Nat}{l:L}{c:ad}{N C:L->ad->Prop}{R:CV->ad->Prop}{v:CV}(hl:pc l 63=γ v)(h:wE Φ gP l c λw c=>ld (pc l 63) λv'=>wE Φ gP l c λw' c=>Φ 94 [v',w'] c λts c=>Φ 104 [v,w,ts] c λz c=>fn Φ ss fl (putL l 62 z) c N C R):
  fn Φ (.cons (.g (.name 62) (.call 104 (.cons (.l 63) (.cons gP (.cons (.call 94 (.cons (.l 63) (.cons gP .nil))) .nil))))) ss) fl l c N C R:=db hl h
abbrev dh:=Nat×Nat
noncomputable def cU(p:dh):CV:=.tup [.int p.1,.int p.2]
noncomputable def T0(fnd:List v6):List dh:=fnd.map λt=>(t.1,t.2.1)
noncomputable def iQ(l:List dh):CV:=.list (l.map cU)
theorem Pw{p:dh}{l:List dh}:bM (cU p) (l.map cU)=γ (l.contains p):=by
 induction l with
 |nil=>rfl
 |cons a l ih=>
  show(γ (((a.1:Int)==(p.1:Int))&&(((a.2:Int)==(p.2:Int))&&ε))).bind (λx=>(bM _ (l.map cU)).bind λb=>γ (x || b))=_;exists ih;exists g7;show γ ((((a.1:Int)==(p.1:Int))&&(((a.2:Int)==(p.2:Int))&&ε)) || l.contains p)=_;congr 2;by_cases h:p=a
  ·subst h;exists TJ ..;exists TJ ..;exists TJ ..;rfl
  ·exists TO.mpr h;by_cases h1:(a.1:Int)=(p.1:Int)
   ·have h2:(a.2:Int)≠(p.2:Int):=λe=>h (lX (aW h1).symm (aW e).symm);rw[show((a.2:Int)==(p.2:Int))=ζ from TO.mpr h2,uj,k8]
   ·rw[show((a.1:Int)==(p.1:Int))=ζ from TO.mpr h1,uj]
theorem Px(hP:δ P<=1000)(hr:∀b∈P,δ b.1<=1000)(hf:δ fnd<=1000)(h1:pc l 63=γ (Sc P))(h2:pc l 62=γ (KK fnd))
  (k:fn (Ph (n+1)) ss fl (putL (putL l 129 (wn P)) 167 (iQ (T0 fnd))) c N C R):
  fn (Ph (n+1)) (.cons (.g (.tup (.cons (.name 129) (.cons (.name 167) .nil))) (.tup (.cons (.call 137 (.cons (.l 63) .nil)) (.cons (.comp ζ [] [136] (.name 136) ζ (.l 62) .nil (.last (.hi (.l 136) (.i (.int 2))))) .nil)))) ss) fl l c N C R:=by
 refine db h1 (ka (P:=P) hP hr (by rfl) (db h2 ?_));refine dU (σ:=Option CV) (enc:=eT) (λs=>[(136,s)]) c (λt=>[cU (t.1,t.2.1)]) fnd TK (λt s r K ht hr k=>KF ⟨an TK,by decide⟩ (by rw[Δ]at hr;exact κ (ao _ _) hr) (k _)) TQ [] η (by exists On ..;exists aB ..;exists φ ..,hf) λs=>?_;exists On ..;exists aB ..;have e:iQ (T0 fnd)= .list (fnd.map λt=>cU (t.1,t.2.1)):=by unfold iQ T0;exists cM;rfl
 rw[e]at k;exact ξ (an TK) k
noncomputable def Tk(LL:List (List bv)):CV:=.list (LL.map FB)
theorem Py(hP:δ P<=1000)(hr:∀b∈P,δ b.1<=1000)(h1:pc l 129=γ (wn P))(k:fn Φ ss fl (putL l 101 (.ref (δ c))) (c++[γ (Tk (P.map (·.1)))]) N C R):
  fn Φ (.cons (.g (.name 101) (.comp ε [] [95,34] (.tup (.cons (.name 95) (.cons (.name 34) .nil))) ζ (.l 129) .nil (.last (.bi .list ζ (.cons (.l 95) .nil))))) ss) fl l c N C R:=by
 refine db h1 ?_;refine dU (σ:=Option CV×Option CV) (enc:=un) (λs=>[(95,s.1),(34,s.2)]) c (λb=>[FB b.1]) P TK (λb s r K hb hl k=>KF (by exists φ ..,hr b hb) (by rw[Δ]at hl;exact κ (ao _ _) hl) (k (_,_))) TQ [] (η,η) (by exists On ..;exists aB ..;exists φ ..,hP) λs=>?_;exists On ..;exists aB ..;unfold Tk at k;rw[cM]at k;exact k
theorem Pz(hP:δ P<=1000)(hr:∀b∈P,δ b.1<=1000)(hf:δ fnd<=1000)(UH:∀t∈fnd,mR P t)(h1:pc l 129=γ (wn P))(h2:pc l 167=γ (iQ (T0 fnd)))(k:fn Φ ss fl (putL l 166 (FB (fnd.map (·.2.2)))) c N C R):
  fn Φ (.cons (.g (.name 166) (.comp ζ [129] [36,93] (.tup (.cons (.name 36) (.cons (.name 93) .nil))) ζ (.l 167) .nil (.last (.sub (.sub (.sub (.l 129) (.l 36)) (.i (.int 0))) (.l 93))))) ss) fl l c N C R:=by
 have e:(T0 fnd).map cU=fnd.map λt=>cU (t.1,t.2.1):=by unfold T0;exists cM;rfl
 have main:cA (λc'=>ct c c' (iQ (T0 fnd))) (λx r l c Q=>wT Φ (.tup (.cons (.name 36) (.cons (.name 93) .nil))) x l c λl c=>cx Φ .nil l c λb c=>br b (wG Φ (.last (.sub (.sub (.sub (.l 129) (.l 36)) (.i (.int 0))) (.l 93))) r l c Q) (Q r l c)) ((T0 fnd).map cU) [] [(129,γ (wn P)),(36,η),(93,η)] c λr _ c=>fn Φ ss fl (putL l 166 (.list r)) c N C R:=by
  refine dU (σ:=Option CV×Option CV) (enc:=λt:v6=>cU (t.1,t.2.1)) (λs=>[(129,γ (wn P)),(36,s.1),(93,s.2)]) c (λt=>[sK t.2.2]) fnd e (λt s r K ht hl k=>?_) TQ [] (η,η) (by exists On ..;exists aB ..;exists φ ..,hf) λs=>?_
  ·obtain⟨i1,i2,i3⟩:=UH t ht;have hb:=ag i1;generalize P[t.1]=b at hb;rw[l9 hb]at i2;have hat:s0 (b.1.map sK) (t.2.1:Int)=γ (sK t.2.2):=(by show(b.1.map sK)[t.2.1]? =_;exists aA;exists i2;rfl);exact wl (by exists φ ..,hP) (o:=s0 (P.map un) (t.1:Int)) (sr hb) (ξ (an TK) (db TK (ξ (by exists φ ..,hr b (av hb)) (db (o:=s0 (b.1.map sK) (t.2.1:Int)) hat (ξ (by rw[Δ]at hl;exact κ (ao _ _) hl) (k (_,_)))))))
  ·exists On ..;exists aB ..;unfold FB at k;rw[cM]at k;exact k
 refine db h2 ?_;rw[←h1]at main;exact main
theorem Q8{α σ:Type}{enc}{ys}{sm:ad->Prop}{f:CV->List CV->L->ad->(List CV->L->ad->Prop)->Prop}{N:List CV->L->ad->Prop}(lf:σ->L)(c:ad)(p:α->Bool)(g:α->CV)(xs:List α)(he:ys=xs.map enc)
  (turn:∀x s r K,x∈xs->δ r<=1000->(p x=ε->∀s,K (r++[g x]) (lf s) c)->(p x=ζ->∀s,K r (lf s) c)->f (enc x) r (lf s) c K) (hs:sm c) (r:List CV) (s:σ) (hr:δ r+δ xs<=1000) (k:∀s,N (r++(xs.filter p).map g) (lf s) c):cA sm f ys r (lf s) c N:=by
 exists he,dY lf c p g (· ∈xs) turn hs xs r s (λ_ h=>h) hr k
noncomputable def gb(P:List bn)(sp:List dh)(n:Nat):List bv:=((GT n 0 (re P n)).filter λt=> !sp.contains (t.1,t.2.1)).map (·.2.2)
noncomputable def dj(P:List bn)(sp:List dh)(ys:List Nat):List (List bv):=(ax (δ P)).map λa=>match ys.contains a with|true=>gb P sp a|false=>re P a
theorem PA:dj P sp []=P.map (·.1):=by
 refine m6 λi=>?_;unfold dj;by_cases h:i<δ P
 ·have hb:=ag h;exists aA;exists jS h;exists aA;exists hb,TL γ (l9 hb)
 ·exists dp (by rw[φ,bG];exact cb h),ac (dp (by rw[φ];exact cb h)) TK
theorem rI(h:a<δ P):(dj P sp ys)[a]? =γ (match ys.contains a with|true=>gb P sp a|false=>re P a):=by unfold dj;exists aA;exists jS h;rfl
theorem gA:δ (dj P sp ys)=δ P:=by unfold dj;exists φ ..,ac (bG ..) TK
theorem PB(h:a<δ P):(dj P sp ys).set a (gb P sp a)=dj P sp (ys++[a]):=by
 refine m6 λi=>?_;by_cases hi:i<δ P
 ·exists rI hi;exists um;by_cases e:a=i
  ·refine io e ?_;rw[eW (by rw[gA];exact h),TJ,HL]
  ·rw[eX e,rI hi,TO.mpr (aO e),p_]
 ·rw[dp (by rw[cZ,gA];exact cb hi),dp (by rw[gA];exact cb hi)]
theorem JU{n:Nat}{rs:List bv}:∀{p:Nat},δ (GT n p rs)=δ rs:=by
 induction rs with
 |nil=>exact rfl
 |cons r rs ih=>exact TL (· +1) ih
theorem BZ{LL:List (List bv)}{a:Nat}{rs:List bv}:Tk (LL.set a rs)= .list ((LL.map FB).set a (FB rs)):=TL CV.list uA
theorem ot{LL:List (List bv)}{a:Nat}{rs:List bv}(h:LL[a]? =γ rs):s0 (LL.map FB) (a:Int)=γ (FB rs):=by show(LL.map FB)[a]? =_;exists aA;exists h;rfl
noncomputable def De:Ss:=.cons (.g (.sub (.l 101) (.l 36)) (.comp ζ [167,36] [93,87] (.tup (.cons (.name 93) (.cons (.name 87) .nil))) ε (.sub (.sub (.l 129) (.l 36)) (.i (.int 0))) (.cons (.cmp .notin (.tup (.cons (.l 36) (.cons (.l 93) .nil))) (.l 167)) .nil) (.last (.l 87)))) .nil
noncomputable def oS(P:List bn)(rg:List Nat)(sp:List dh)(A1 A3 A4 A5 A6 A7 A8 o:Option CV)(O:L):L:=(63,A1)::(122,γ (sB rg))::(77,A3)::(146,A4)::(142,A5)::(69,A6)::(62,A7)::(129,γ (wn P))::(167,γ (iQ sp))::(101,γ (.ref 0))::(166,A8)::(36,o)::O
theorem Lj{Φ:Nat->Fn}{fl a:Nat}{P:List bn}{rg ys:List Nat}{sp:List dh}{A1 A3 A4 A5 A6 A7 A8:Option CV}{O:L}{K C:L->ad->Prop}{R:CV->ad->Prop}(hP:δ P<=1000)(hr:∀b∈P,δ b.1<=1000)(ha:a<δ P)
  (k:K (oS P rg sp A1 A3 A4 A5 A6 A7 A8 (γ (.int a)) O) [γ (Tk (dj P sp (ys++[a])))]):fn Φ De fl (oS P rg sp A1 A3 A4 A5 A6 A7 A8 (γ (.int a)) O) [γ (Tk (dj P sp ys))] K C R:=by
 have hb:=ag ha;generalize YZ:P[a]=b at hb;refine wl (by exists φ ..,hP) (o:=s0 (P.map un) (a:Int)) (sr hb) (ξ (an TK) (db TK ?_));refine Q8 (σ:=Option CV×Option CV) (enc:=λt:v6=>.tup [.int t.2.1,sK t.2.2]) (λs=>[(167,γ (iQ sp)),(36,γ (.int a)),(93,s.1),(87,s.2)]) [γ (Tk (dj P sp ys))] (λt=> !sp.contains (t.1,t.2.1)) (λt=>sK t.2.2) (GT a 0 b.1) ve (λt s r K ht hl k1 k2=>?_) TQ [] (η,η) ?_ λs=>?_
 ·have e1:=zu ht;have hc:bh [γ (Tk (dj P sp ys))] .notin (cU (a,t.2.1)) (iQ sp)=γ (!sp.contains (t.1,t.2.1)):=by exists e1;show(bM (cU (a,t.2.1)) (sp.map cU)).map (!·)=_;exists Pw;rfl
  exact wl (an TK) TK (db hc (Ev (λz=>ξ hl (k1 z (_,_))) λz=>k2 z (_,_)))
 ·rw[cC,az,JU];exact hr b (av hb)
 ·rw[←PB ha,BZ]at k;have ek:FB (gb P sp a)= .list (((GT a 0 b.1).filter λt=> !sp.contains (t.1,t.2.1)).map λt=>sK t.2.2):=by unfold FB gb;exists l9 hb;exists cM;rfl
  rw[ek]at k;exact ξ ⟨aE _,by exists φ ..;exists gA ..;exact aX.mpr ha,by exists φ ..;exists gA ..,hP⟩ k
theorem PC{Φ:Nat->Fn}{fl:Nat}{ss:Ss}{P:List bn}{rg:List Nat}{sp:List dh}{A1 A3 A4 A5 A6 A7 A8:Option CV}{O:L}{N C:L->ad->Prop}{R:CV->ad->Prop}(hP:δ P<=1000)(hr:∀b∈P,δ b.1<=1000)(Vx:∀a∈rg,a<δ P)
  (k:∀o,fn Φ ss fl (oS P rg sp A1 A3 A4 A5 A6 A7 A8 o O) [γ (Tk (dj P sp rg))] N C R):fn Φ (.cons (.for (.name 36) ζ (.l 122) De) ss) fl (oS P rg sp A1 A3 A4 A5 A6 A7 A8 η O) [γ (Tk (P.map (·.1)))] N C R:=by
 refine io (PA (sp:=sp)) ?_;refine iN (σ:=List Nat×Option CV) (enc:=λ(i:Nat)=>CV.int i) (λs=>oS P rg sp A1 A3 A4 A5 A6 A7 A8 s.2 O) (λs=>[γ (Tk (dj P sp s.1))]) (λxs s=>s.1++xs=rg) (λa xs s K hi k=>?_) rg TK ([],η) TK λs hi=>?_
 ·obtain⟨ys,o⟩:=s;have U2:ys++a::xs=rg:=hi;exact Lj hP hr (Vx a (by refine io U2 ?_;exact aI _ (.head _))) (k (ys++[a],γ (.int a)) TQ (by refine io (dr ..) ?_;exact U2))
 ·obtain⟨ys,o⟩:=s;have U2:ys++[]=rg:=hi;rw[aL]at U2;subst U2;exact k o
theorem PD{Φ:Nat->Fn}{fl ah:Nat}{ss:Ss}{l:L}{N C:L->ad->Prop}{R:CV->ad->Prop}{LL:List (List bv)}{rs laid:List bv}(hL:δ LL<=1000)(WM:δ (rs++laid)<=1000)(ha:LL[ah]? =γ rs)(h1:pc l 101=γ (.ref 0))(h2:pc l 77=γ (.int ah))(h3:pc l 166=γ (FB laid))
  (k:fn Φ ss fl l [γ (Tk (LL.set ah (rs++laid)))] N C R):fn Φ (.cons (.g (.sub (.l 101) (.l 77)) (.bin .add (.sub (.l 101) (.l 77)) (.l 166))) ss) fl l [γ (Tk LL)] N C R:=by
 have T6:=(ay.mp ha).1;have hLm:δ (LL.map FB)<=1000:=by exists φ ..,hL
 rw[BZ,show FB (rs++laid)= .list (rs.map sK++laid.map sK)from TL CV.list aj]at k;refine db h1 (db h2 (wl hLm (o:=s0 (LL.map FB) (ah:Int)) (ot ha) (db h3 (ξ (by rw[←aj,φ];exact WM) (db h1 (db h2 (ξ ⟨aE _,by rw[φ];exact aX.mpr T6,hLm⟩ k)))))))
theorem CE{n:Nat}(e:Id):Uf (n+5) (dg e) (dg e)=γ ε:=by
 refine fv (bD (mu _) (bD (gz (kK v9 _)) (d4 ?_)));induction e with
 |jump t=>exact a6 _
 |branch a x y=>exact fv (bD (a6 _) (d4 (a6 _)))
 |table a x y z o=>exact fv (bD (a6 _) (bD (gz (bD (a6 _) (bD (a6 _) (d4 (a6 _))))) (d4 (a6 _))))
 |give a=>exact a6 _
theorem Q9{n:Nat}(b:bn):Uf (n+6) (un b) (un b)=γ ε:=fv (bD (gz (kK v_ _)) (d4 (CE _)))
noncomputable def bJ(P:List bn)(a:Nat):CV:=match P[a]? with|some b=>un b|none=>.none
theorem PE{P:List bn}{l:List Nat}(h:∀a∈l,a<δ P):iL (.list (l.map (bJ P))) (.list (l.map (bJ P)))=γ ε:=gz λv hv=>by obtain⟨a,ha,rfl⟩:=au.mp hv;unfold bJ;exists ag (h a ha),Q9 _
noncomputable def DI:Ss:=(.cons (.ife (.cmp .ne (.comp ζ [122,129] [75] (.name 75) ζ (.bi .range ζ (.cons (.bi .len ζ (.cons (.l 129) .nil)) .nil)) (.cons (.and (.cmp .notin (.l 75) (.l 122)) (.cons (.cmp .isin (.sub (.l 122) (.i (.int 0))) (.call 138 (.cons (.sub (.sub (.l 129) (.l 75)) (.i (.int 1))) .nil))) .nil)) .nil) (.last (.l 75))) (.list ζ (.cons (.l 36) .nil))) (.cons (.ret (.neg (.i (.int 1))))
 .nil) .nil)
 (.cons (.ife (.or (.cmp .ne (.sub (.sub (.l 129) (.l 36)) (.i (.int 1))) (.tup (.cons (.i (.str 48)) (.cons (.list ζ .nil) (.cons (.sub (.l 122) (.i (.int 0))) .nil))))) (.cons (.cmp .ne (.comp ζ [129] [75] (.name 75) ζ (.l 122) .nil (.last (.sub (.l 129) (.l 75)))) (.comp ζ [78] [75] (.name 75) ζ (.l 122) .nil (.last (.sub (.l 78) (.l 75))))) .nil)) (.cons (.ret (.neg (.i (.int 1))))
 .nil) .nil)
 (.cons (.ret (.ite (.call 151 (.cons (.l 63) (.cons (.l 146) (.cons (.l 142) (.cons (.l 69) .nil))))) (.l 36) (.neg (.i (.int 1)))))
 .nil)))
noncomputable def DY:Ss:=(.cons (.g (.name 129) (.call 137 (.cons (.l 63) .nil)))
 (.cons (.ife (.or (.cmp .ne (.l 36) (.ite (.l 158) (.sub (.l 115) (.i (.int 0))) (.bi .len ζ (.cons (.l 78) .nil)))) (.cons (.cmp .ne (.bi .len ζ (.cons (.l 129) .nil)) (.bin .add (.bi .len ζ (.cons (.l 78) .nil)) (.bi .int ζ (.cons (.not (.l 158)) .nil)))) .nil)) (.cons (.ret (.neg (.i (.int 1))))
 .nil) .nil)
 DI))
theorem Ai{Φ:Nat->Fn}{x pl:Nat}{P:List bn}{c:ad}{r:List CV}{s:Option CV}{K:List CV->L->ad->Prop}(hP:δ P<=1000)(hx:x<δ P)(hr:δ (r++[bJ P x])<=1000)(Xk:pl=78\/pl=129)
  (k:∀s,K (r++[bJ P x]) [(pl,γ (wn P)),(75,s)] c):wT Φ (.name 75) (.int x) [(pl,γ (wn P)),(75,s)] c λl c=>cx Φ .nil l c λb c=>br b (wG Φ (.last (.sub (.l pl) (.l 75))) r l c K) (K r l c):=by
 have hg:=ag hx;have hat:s0 (P.map un) (x:Int)=γ (bJ P x):=by show(P.map un)[x]? =_;unfold bJ;exists aA;exists hg;rfl
 have VO:δ r<=1000:=by rw[Δ]at hr;exact κ (ao _ _) hr
 have UB:δ (P.map un)<=1000:=by exists φ ..,hP
 rcases Xk with rfl|rfl
 ·exact wl UB (o:=s0 (P.map un) (x:Int)) hat (ξ VO (k _))
 ·exact wl UB (o:=s0 (P.map un) (x:Int)) hat (ξ VO (k _))
structure w9(P P':List bn) (h num:Nat) (rg os:List Nat) (ith:Bool):Prop where
 hnum:(ith=ε/\os=[num]/\δ P'=δ P)\/(ith=ζ/\num=δ P/\δ P'=δ P+1)
 hout:(ax (δ P')).filter (d5 P' rg h)=[num]
 hjmp:∃rs,P'[num]? =γ (rs,.jump h)
 hsame:∀a∈rg,P'[a]? =P[a]?/\a<δ P
theorem Nu{n fl h num:Nat}{P P':List bn}{c:ad}{N C:L->ad->Prop}{Q:CV->ad->Prop}{rg:List Nat}{o1 o2:Option CV}{H:kt}{tr:List Ix}{g:Int}(hP:δ P<=900)(VE:δ rg<=900)(hd:rg[0]? =γ h)(hout:(ax (δ P')).filter (d5 P' rg h)=[num])(hjmp:∃rs,P'[num]? =γ (rs,.jump h))(hsame:∀a∈rg,P'[a]? =P[a]?/\a<δ P)(WO:δ P<=δ P')(ok:bE P')(hr:∀k∈P',δ k.1<=1000)(hh:v1 H)(hl:(wP P' 24 0 H).1.length<=1000)(ht:δ tr<=1000)
  (h1:(wP P' 24 0 H).2=g) (h2:(wP P' 24 0 H).1.map (·.2.2)=tr.map (·.2.2)) (q:Q (.int num) (c++rc (δ c) P')):
  fn (Ph (n+4)) DI fl [(63,γ (.inst 2 (.ref (δ c)))),(122,γ (sB rg)),(146,γ (zn H)),(142,γ (AT tr)),(69,γ (.int g)),(78,γ (wn P)),(115,o1),(158,o2),(36,γ (.int num)),(129,γ (wn P'))] (c++rc (δ c) P') N C Q:=by
 have Vt:δ (P'.map un)<=1000:=by exists φ ..,ok.l
 have hlen:δ (rg.map λ(i:Nat)=>CV.int i)<=1000:=by exists φ ..,κ ‹_› (by decide)
 obtain⟨rs,hj⟩:=hjmp;refine KF Vt ⟨aE _,d_.mpr Vt⟩ ?_;refine dY (σ:=Option CV) (enc:=λ(i:Nat)=>CV.int (aY i)) (λs=>[(122,γ (sB rg)),(129,γ (wn P')),(75,s)]) (c++rc (δ c) P') (d5 P' rg h) (λ(i:Nat)=>CV.int i) (· < δ P') (λx s r K hx hr k1 k2=>Be (n:=n+3) ok.l VE hd hx hr k1 k2 (.inr TK)) TQ (ax (δ (P'.map un))) [] η (λx hx=>by rw[φ]at hx;exact fQ.mp hx) (by rw[cC,az,bG];exact Vt) λs=>?_;exists φ ..;exists hout ..;refine ξ (an TK) (ww (b:= !(((num:Int)==(num:Int))&&ε)) (by exists TJ ..;rfl) ?_);have hat:s0 (P'.map un) (num:Int)=γ (un (rs,.jump h)):=by show(P'.map un)[num]? =_;exists aA;exists hj;rfl
 have e2:bh (c++rc (δ c) P') .ne (dg (.jump h)) (dg (.jump h))=γ ζ:=q6 TK TK TK (CE _);refine wl Vt (o:=s0 (P'.map un) (num:Int)) hat (FS [2,0] TK (ξ hlen (db (o:=s0 (rg.map λ(i:Nat)=>CV.int i) 0) (mx hd) (FS [3] TK (db e2 ?_):EQ _ _))):EQ _ _);have UG:δ ([]++rg.flatMap λa=>[bJ P' a])<=1000:=by exists On ..;exists aB ..;exists φ ..,κ ‹_› (by decide)
 have VI:δ ([]++rg.flatMap λa=>[bJ P a])<=1000:=by exists On ..;exists aB ..;exists φ ..,κ ‹_› (by decide)
 refine dU (σ:=Option CV) (enc:=λ(i:Nat)=>CV.int i) (λs=>[(129,γ (wn P')),(75,s)]) (c++rc (δ c) P') (λa=>[bJ P' a]) rg TK (λx s r K hx hr k=>Ai ok.l (bp (hsame x hx).2 WO) hr (.inr TK) k) TQ [] η UG λs=>?_;refine dU (σ:=Option CV) (enc:=λ(i:Nat)=>CV.int i) (λs=>[(78,γ (wn P)),(75,s)]) (c++rc (δ c) P') (λa=>[bJ P a]) rg TK (λx s r K hx hr k=>Ai (by lia) (hsame x hx).2 hr (.inl TK) k) TQ [] η VI λs=>?_;have e3:rg.map (bJ P')=rg.map (bJ P):=tO λa ha=>by unfold bJ;exists(hsame a ha).1,TK
 exists On ..;exists On ..;exists aB ..;exists aB ..;exists e3 ..;have e4:bh (c++rc (δ c) P') .ne (.list (rg.map (bJ P))) (.list (rg.map (bJ P)))=γ ζ:=q6 TK TK TK (PE λa ha=>(hsame a ha).2);refine db e4 ?_;exact AR (P:=P') (h:=H) (tr:=tr) (g:=g) ok hr hh hl ht (DG ic (by rfl) (by rfl) (by rfl)) h1 h2 q
theorem PF{n fl h num:Nat}{P P':List bn}{c:ad}{N C:L->ad->Prop}{Q:CV->ad->Prop}{rg os:List Nat}{ith:Bool}{H:kt}{tr:List Ix}{g:Int}(hP:δ P<=900)(VE:δ rg<=900)(hd:rg[0]? =γ h)(A:w9 P P' h num rg os ith)(ok:bE P')(hr:∀k∈P',δ k.1<=1000)(hh:v1 H)(hl:(wP P' 24 0 H).1.length<=1000)(ht:δ tr<=1000)
  (h1:(wP P' 24 0 H).2=g) (h2:(wP P' 24 0 H).1.map (·.2.2)=tr.map (·.2.2)) (q:Q (.int num) (c++rc (δ c) P')):
  fn (Ph (n+4)) DY fl [(63,γ (.inst 2 (.ref (δ c)))),(122,γ (sB rg)),(146,γ (zn H)),(142,γ (AT tr)),(69,γ (.int g)),(78,γ (wn P)),(115,γ (.list (os.map λ(i:Nat)=>CV.int i))),(158,γ (.bool ith)),(36,γ (.int num)),(129,η)] (c++rc (δ c) P') N C Q:=by
 refine ka (P:=P') ok.l hr (kL ic) ?_;have UB:δ (P.map un)<=1000:=by exists φ ..,κ ‹_› (by decide)
 have Vt:δ (P'.map un)<=1000:=by exists φ ..,ok.l
 have fin:=λWO o1 o2=>Nu (n:=n) (fl:=fl) (N:=N) (C:=C) (o1:=o1) (o2:=o2) hP VE hd A.hout A.hjmp A.hsame WO ok hr hh hl ht h1 h2 q;rcases A.hnum with⟨rfl,rfl,Vj⟩|⟨rfl,rfl,Vj⟩
 ·refine ξ (an TK) (ww ip (KF Vt UB (ww (b:= !((δ (P'.map un):Int)==(δ (P.map un):Int)+0)) ?_ (fin (a5 (vJ ‹_›)) _ _))));exists φ ..;exists φ ..;exists Vj ..;exists HJ ..,ip
 ·refine ξ UB (ww (b:= !(((δ P:Nat):Int)==(δ (P.map un):Int))) (by exists φ ..,ip) (KF Vt UB (ww (b:= !((δ (P'.map un):Int)==(δ (P.map un):Int)+1)) ?_ (fin (by lia) _ _))));exists φ ..;exists φ ..;exists Vj ..,ip
theorem Nv{Φ:Nat->Fn}{ss:Ss}{fl:Nat}{l:L}{c:ad}{N C:L->ad->Prop}{R:CV->ad->Prop}{v:CV}(hl:pc l 63=γ v)(h:wE Φ gP l c λw c=>Φ 116 [v,w] c λu c=>ld (jz c 36 u) λz=>fn Φ ss fl (putL l 36 z) c N C R):
  fn Φ (.cons (.g (.name 36) (.attr (.call 116 (.cons (.l 63) (.cons gP .nil))) 36)) ss) fl l c N C R:=db hl h
theorem JV{Φ:Nat->Fn}{ss:Ss}{fl:Nat}{l:L}{c:ad}{N C:L->ad->Prop}{R:CV->ad->Prop}{P:List bn}{os:List Nat}{ith:Bool}(hP:δ P<=900)(VY:δ os<=900)(h1:pc l 115=γ (.list (os.map λ(i:Nat)=>CV.int i)))(h2:pc l 78=γ (wn P))
  (hc:(∃o rs t,os=[o]/\P[o]? =γ (rs,.jump t)/\ith=ε)\/((∀o,os=[o]->∃rs e,P[o]? =γ (rs,e)/\(e.word==48)=ζ)/\ith=ζ)) (k:fn Φ ss fl (putL l 158 (.bool ith)) c N C R):
  fn Φ (.cons (.g (.name 158) (.and (.cmp .eq (.bi .len ζ (.cons (.l 115) .nil)) (.i (.int 1))) (.cons (.cmp .eq (.sub (.sub (.sub (.l 78) (.sub (.l 115) (.i (.int 0)))) (.i (.int 1))) (.i (.int 0))) (.i (.str 48))) .nil))) ss) fl l c N C R:=by
 have hat:∀{o:Nat} {b:bn},P[o]? =γ b->s0 (P.map un) (o:Int)=γ (un b):=λ{o b} hb=>by show(P.map un)[o]? =_;exists aA;exists hb;rfl
 have UB:δ (P.map un)<=1000:=by exists φ ..,κ ‹_› (by decide)
 have hlo:δ (os.map λ(i:Nat)=>CV.int i)<=1000:=by exists φ ..,κ ‹_› (by decide)
 refine db h1 (ξ hlo ?_);rcases hc with⟨o,rs,t,e1,e2,e3⟩|⟨e1,e2⟩
 ·subst e1;subst e3;exact db h2 (db h1 (wl (an TK) TK (ξ UB (db (hat e2) (ξ (an TK) (db TK (ξ (an TK) (db TK k))))))))
 ·subst e2
  match os,e1,h1 with
  |[],_,_=>exact k
  |[o],e1,h1=>obtain⟨rs,e,hb,hw⟩:=e1 o TK;rw[←hw]at k;exact db h2 (db h1 (wl (an TK) TK (ξ UB (db (hat hb) (ξ (an TK) (db TK (ξ (an TK) (db TK k))))))))
  |o::o'::os,_,_=>exact k
theorem Hg{n h num:Nat}{P P':List bn}{c:ad}{Q:CV->ad->Prop}{rg bs tl os:List Nat}{ith:Bool}{H:kt}{tr:List Ix}{g:Int}(hP:δ P<=900)(hS:∀b∈P,∀t∈b.2.succ,t<δ P)(hh:h<δ P)(hr0:∀k∈P,δ k.1<=1000)(R:kM h rg bs tl)(ho:wh P h bs=os)(ho':(ax (δ P)).filter (d5 P rg h)=os)
  (hc:(∃o rs t,os=[o]/\P[o]? =γ (rs,.jump t)/\P'=P/\num=o/\ith=ε)\/((∀o,os=[o]->∃rs e,P[o]? =γ (rs,e)/\(e.word==48)=ζ)/\P'=os.foldl (iP (lk h (δ P))) (P++[([],.jump h)])/\num=δ P/\ith=ζ))
  (A:w9 P P' h num rg os ith) (ok:bE P') (hr:∀k∈P',δ k.1<=1000) (hH:v1 H) (hl:(wP P' 24 0 H).1.length<=1000) (ht:δ tr<=1000)
  (h1:(wP P' 24 0 H).2=g) (h2:(wP P' 24 0 H).1.map (·.2.2)=tr.map (·.2.2)) (q:Q (.int num) (c++rc (δ c) P')):
  Ph (n+5) 159 [.inst 2 (.ref (δ c)),sB rg,zn H,AT tr,.int g] (c++rc (δ c) P) Q:=by
 have UB:δ (P.map un)<=1000:=by exists φ ..,κ ‹_› (by decide)
 refine fm TK (ξ TK (ka (P:=P) (κ ‹_› (by decide)) hr0 (kL ic) (KF UB ⟨aE _,d_.mpr UB⟩ ?_)));refine dY (σ:=Option CV) (enc:=λ(i:Nat)=>CV.int (aY i)) (λs=>[(122,γ (sB rg)),(78,γ (wn P)),(75,s)]) (c++rc (δ c) P) (d5 P rg h) (λ(i:Nat)=>CV.int i) (· < δ P) (λx s r K hx hr k1 k2=>Be (n:=n+3) (κ ‹_› (by decide)) R.len R.hd hx hr k1 k2 (.inl TK)) TQ (ax (δ (P.map un))) [] η (λx hx=>by rw[φ]at hx;exact fQ.mp hx) (by rw[cC,az,bG];exact UB) λs=>?_;exists φ ..;exists ho' ..;exists aB ..;obtain⟨Uu,hj⟩:=A.hjmp;have mid:∀b N C fl,b=ith->fn (Ph (n+4)) (.cons (.g (.name 36) (.attr (.call 116 (.cons (.l 63) (.cons gP .nil))) 36)) DY) fl [(63,γ (.inst 2 (.ref (δ c)))),(122,γ (sB rg)),(146,γ (zn H)),(142,γ (AT tr)),(69,γ (.int g)),(78,γ (wn P)),(115,γ (.list (os.map λ(i:Nat)=>CV.int i))),(158,γ (.bool b)),(36,η),(129,η)] (c++rc (δ c) P) N C Q:=λb N C fl hb=>by
  subst hb;refine Nv TK (sk (n:=n+3) (l:=[(63,γ (.inst 2 (.ref (δ c)))),(122,γ (sB rg)),(146,γ (zn H)),(142,γ (AT tr)),(69,γ (.int g)),(78,γ (wn P)),(115,γ (.list (os.map λ(i:Nat)=>CV.int i))),(158,γ (.bool b)),(36,η),(129,η)]) R TK _ (Nm (n:=n) hP hS hh ho ?_));have fin:=PF (n:=n) (fl:=fl) (N:=N) (C:=C) hP R.len R.hd A ok hr hH hl ht h1 h2 q;rcases hc with⟨o,rs,t,e1,e2,e3,e4,e5⟩|⟨e1,e2,e3,e4⟩
  ·subst e3;subst e4;exact .inl ⟨num,rs,t,e1,e2,db (lT hj (v:=.int num) TK) fin⟩
  ·subst e3;refine io e2 ?_;exact .inr ⟨e1,db (lT hj (v:=.int (δ P)) TK) fin⟩
 have YS:δ os<=900:=by refine io ho' ?_;exact κ (fP _ _) (by exists bG,hP)
 refine JV (l:=[(63,γ (.inst 2 (.ref (δ c)))),(122,γ (sB rg)),(146,γ (zn H)),(142,γ (AT tr)),(69,γ (.int g)),(78,γ (wn P)),(115,γ (.list (os.map λ(i:Nat)=>CV.int i))),(158,η),(36,η),(129,η)]) hP YS TK TK ?_ (mid _ _ _ _ TK);rcases hc with⟨o,rs,t,e1,e2,e3,e4,e5⟩|⟨e1,e2,e3,e4⟩
 ·exact .inl ⟨o,rs,t,e1,e2,e5⟩
 ·exact .inr ⟨e1,e4⟩
noncomputable def a8(LL:List (List bv))(P:List bn):List bn:=List.zipWith (λrs b=>(rs,b.2)) LL P
theorem B0{LL:List (List bv)}{P:List bn}{a:Nat}{rs:List bv}{b:bn}(h1:LL[a]? =γ rs)(h2:P[a]? =γ b):(a8 LL P)[a]? =γ (rs,b.2):=by unfold a8;exists List.getElem?_zipWith,ac h1 (ac h2 TK)
theorem rJ(h:δ LL=δ P):δ (a8 LL P)=δ P:=by unfold a8;rw[List.length_zipWith,h,yT]
theorem Lk:(ax (δ P)).map (bJ P)=P.map un:=by
 refine m6 λi=>?_;by_cases h:i<δ P
 ·have hb:=ag h;exists aA;exists jS h;exists aA;exists hb;show γ (bJ P i)=_;unfold bJ;exists hb;rfl
 ·exists dp (by rw[φ,bG];exact cb h),ac (dp (by rw[φ];exact cb h)) TK
theorem PG{n fl:Nat}{ss:Ss}{l:L}{N C:L->ad->Prop}{R:CV->ad->Prop}{P:List bn}{LL:List (List bv)}{H:kt}{tl:ad}(hP:δ P<=1000)(hL:δ LL=δ P)(ok:bE (a8 LL P))(hH:v1 H)(hl:(wP (a8 LL P) 24 0 H).1.length<=1000)(h1:pc l 101=γ (.ref 0))(h2:pc l 129=γ (wn P))(h3:pc l 146=γ (zn H))
  (k:fn (Ph (n+2)) ss fl (putL (putL l 149 (AT (wP (a8 LL P) 24 0 H).1)) 148 (.int (wP (a8 LL P) 24 0 H).2)) (γ (Tk LL)::tl) N C R):
  fn (Ph (n+2)) (.cons (.g (.tup (.cons (.name 149) (.cons (.name 148) .nil))) (.call 147 (.cons (.comp ζ [101,129] [75] (.name 75) ζ (.bi .range ζ (.cons (.bi .len ζ (.cons (.l 129) .nil)) .nil)) .nil (.last (.tup (.cons (.sub (.l 101) (.l 75)) (.cons (.sub (.sub (.l 129) (.l 75)) (.i (.int 1))) .nil))))) (.cons (.l 146) .nil)))) ss) fl l (γ (Tk LL)::tl) N C R:=by
 have UB:δ (P.map un)<=1000:=by exists φ ..,hP
 have hlL:δ (LL.map FB)<=1000:=by exists φ ..;exists hL ..,hP
 have hk:Ph (n+2) 147 [wn (a8 LL P),zn H] (γ (Tk LL)::tl) λv c=>wT (Ph (n+2)) (.tup (.cons (.name 149) (.cons (.name 148) .nil))) v l c λl c=>fn (Ph (n+2)) ss fl l c N C R:=n7 (P:=a8 LL P) (h:=H) (X:=zn H) ok hH hl (iJ (by rfl) (by rfl)) TK (jg H) k;have main:cA (λc'=>ct (γ (Tk LL)::tl) c' (.rng (δ (P.map un)))) (λx r l c Q=>wT (Ph (n+2)) (.name 75) x l c λl c=>cx (Ph (n+2)) .nil l c λb c=>br b (wG (Ph (n+2)) (.last (.tup (.cons (.sub (.l 101) (.l 75)) (.cons (.sub (.sub (.l 129) (.l 75)) (.i (.int 1))) .nil)))) r l c Q) (Q r l c)) (cn (δ (P.map un))) [] [(101,γ (.ref 0)),(129,γ (wn P)),(75,η)] (γ (Tk LL)::tl)
   λr _ c=>ld (pc l 146) λv=>Ph (n+2) 147 [.list r,v] c λv c=>wT (Ph (n+2)) (.tup (.cons (.name 149) (.cons (.name 148) .nil))) v l c λl c=>fn (Ph (n+2)) ss fl l c N C R:=by
  refine dU (σ:=Option CV) (enc:=λ(i:Nat)=>CV.int (aY i)) (λs=>[(101,γ (.ref 0)),(129,γ (wn P)),(75,s)]) (γ (Tk LL)::tl) (λa=>[bJ (a8 LL P) a]) (ax (δ (P.map un))) TK (λa s r K ha hr k=>?_) TQ [] η ?_ λs=>?_
  ·rw[φ,fQ]at ha;have hb:=ag ha;generalize P[a]=b at hb;have VF:a<δ LL:=(by exists hL,ha);have Z4:=ag VF;generalize LL[a]=rs at Z4;have e:bJ (a8 LL P) a= .tup [FB rs,dg b.2]:=(by unfold bJ;exists B0 Z4 hb;rfl);rw[e]at hr k;refine wl hlL (o:=s0 (LL.map FB) (a:Int)) (ot Z4) (ξ UB (db (o:=s0 (P.map un) (a:Int)) (sr hb) (FS [2,2] TK (ξ ?_ (k _)):EQ _ _)));rw[Δ]at hr;exact κ (ao _ _) hr
  ·exists On ..;exists aB ..;exists φ ..;exists bG ..,UB
  ·exists On ..;exists aB ..;refine ac (φ ..) (io (rJ hL ..) (ac (Lk ..) ?_));exact db h3 hk
 refine db h2 (KF UB ⟨aE _,d_.mpr UB⟩ ?_);rw[←h1,←h2]at main;exact main
theorem PH(ho:δ ours<=1000)(ht:δ tr<=1000)(hs:bx ours=bx tr)(h1:pc l 148=γ (.int g))(h2:pc l 69=γ (.int g))(h3:pc l 149=γ (AT ours))(h4:pc l 142=γ (AT tr))
  (k:fn (Ph (n+1)) ss fl l c N C R):fn (Ph (n+1)) (.cons (.ife (.or (.cmp .ne (.l 148) (.l 69)) (.cons (.cmp .ne (.call 152 (.cons (.l 149) .nil)) (.call 152 (.cons (.l 142) .nil))) .nil)) (.cons (.ret (.i (.bool ζ))) .nil) .nil) ss) fl l c N C R:=by
 have Um:bh c .ne (.list ((bx tr).map CV.int)) (.list ((bx tr).map CV.int))=γ ζ:=q6 TK TK TK (gz (kK a6 _));refine db h1 (db h2 (ww (b:= !(g==g)) ip (db h3 (BP (l:=ours) ho (kL (by rfl)) (db h4 (BP (l:=tr) ht (kL (by rfl)) ?_))))));exists hs,db Um k
theorem PJ(ok:bE P)(hH:v1 H)(hl:(wP P 24 0 H).1.length<=1000)(h1:pc l 129=γ (wn P))(h2:pc l 146=γ (zn H))
  (k:fn (Ph (n+2)) ss fl (putL (putL l 164 (AT (wP P 24 0 H).1)) 165 (.ref (δ c))) (c++[γ (.pdict [] [])]) N C R):
  fn (Ph (n+2)) (.cons (.g (.tup (.cons (.name 164) (.cons (.name 165) .nil))) (.tup (.cons (.sub (.call 147 (.cons (.l 129) (.cons (.l 146) .nil))) (.i (.int 0))) (.cons (.dict0 ε ε) .nil)))) ss) fl l c N C R:=
 db h1 (db h2 (n7 (P:=P) (h:=H) (X:=zn H) ok hH hl (iJ (by rfl) (by rfl)) TK (jg H) (KF (an TK) (an TK) k)))
noncomputable def jJ(p:dh):Int×Int:=((p.1:Int),(p.2:Int))
structure Wh(sp:List dh) (wk:dh->Int) (m:Nat) (ks:List (Int×Int)) (vs:List CV):Prop where
 get:∀(p:dh) (w:CV),wf (jJ p) ks vs=γ w->w= .int (wk p)
 mem:∀p∈ks,∃s∈sp,p=jJ s
 len:δ ks=δ vs
 le:δ ks<=m
theorem Bg(h:jJ p=jJ q):p=q:=lX (aW (TL Prod.fst h)) (aW (TL Prod.snd h))
theorem Wh.put(h:Wh sp wk m ks vs)(hs:s∈sp):Wh sp wk (m+1) (wv (jJ s) ks) (IO (jJ s) (.int (wk s)) ks vs):=
 ⟨λp w e=>(M0 h.len e).elim (λz0=>on z0 λe1 e2=>by exists Bg e1,e2) (h.get p w),λp hp=>(fX.mp hp).elim (λe=>⟨s,hs,e⟩) (h.mem p),rB h.len,κ vi (bZ h.le)⟩
noncomputable def Q_:Ss:=.cons (.ife (.and (.cmp .eq (.sub (.l 150) (.i (.int 0))) (.l 77)) (.cons (.cmp .ge (.sub (.l 150) (.i (.int 1))) (.bin .sub (.bi .len ζ (.cons (.sub (.l 101) (.l 77)) .nil)) (.bi .len ζ (.cons (.l 166) .nil)))) .nil)) (.cons (.g (.sub (.l 165) (.sub (.l 167) (.bin .add (.bin .sub (.sub (.l 150) (.i (.int 1))) (.bi .len ζ (.cons (.sub (.l 101) (.l 77)) .nil))) (.bi .len ζ (.cons (.l 166) .nil))))) (.sub (.l 150) (.i (.int 4))))
 .nil) .nil)
 .nil
noncomputable def oI(P:List bn)(rg:List Nat)(sp:List dh)(ah:Nat)(laid:List bv)(A1 A4 A5 A6 A7 A8 B1 B2 B3 o:Option CV)(O:L):L:=(63,A1)::(122,γ (sB rg))::(77,γ (.int ah))::(146,A4)::(142,A5)::(69,A6)::(62,A7)::(129,γ (wn P))::(167,γ (iQ sp))::(101,γ (.ref 0))::(166,γ (FB laid))::(36,A8)::(149,B1)::(148,B2)::(164,B3)::(165,γ (.ref 1))::(150,o)::O
theorem Nw
  (hL:δ LL<=1000) (WM:δ (rs++laid)<=900) (hsp:δ sp=δ laid) (hat:LL[ah]? =γ (rs++laid)) (ho:δ ours<=1000) (UH:∀a∈ours,a.1=ah->a.2.1<δ (rs++laid)) (hw:∀a∈ours,a.1=ah->∀i s,a.2.1=δ rs+i->sp[i]? =γ s->a.2.2.2.2=wk s)
  (k:∀o m ks vs,m<=1000->Wh sp wk m ks vs->fn Φ ss fl (oI P rg sp ah laid A1 A4 A5 A6 A7 A8 (γ (AT ours)) B2 B3 o O) [γ (Tk LL),γ (.pdict ks vs)] N C R):
  fn Φ (.cons (.for (.name 150) ζ (.l 149) Q_) ss) fl (oI P rg sp ah laid A1 A4 A5 A6 A7 A8 (γ (AT ours)) B2 B3 η O) [γ (Tk LL),γ (.pdict [] [])] N C R:=by
 refine iN (σ:=(List (Int×Int)×List CV)×Option CV) (enc:=dG) (λs=>oI P rg sp ah laid A1 A4 A5 A6 A7 A8 (γ (AT ours)) B2 B3 s.2 O) (λs=>[γ (Tk LL),γ (.pdict s.1.1 s.1.2)]) (λxs s=>∃ys,ys++xs=ours/\Wh sp wk (δ ys) s.1.1 s.1.2) (λa xs s K hi k=>?_) ours TK (([],[]),η) ⟨[],rfl,λp w e=>(nomatch e),λp h=>(nomatch h),rfl,aJ _⟩ λs hi=>?_
 ·obtain⟨⟨ks,vs⟩,o⟩:=s;obtain⟨ys,h1,h2⟩:=hi;replace h2:Wh sp wk (δ ys) ks vs:=h2;have Uk:(ys++[a])++xs=ours:=by refine io (dr ..) ?_;exact h1
  have ha:a∈ours:=by refine io h1 ?_;exact aI _ (.head _)
  have Wv:δ ys<=1000:=κ (by refine io h1 (ac Δ ?_);exact ao _ _) ho;have hl2:δ (ys++[a])=δ ys+1:=by exists Δ;rfl
  have skip:K (oI P rg sp ah laid A1 A4 A5 A6 A7 A8 (γ (AT ours)) B2 B3 (γ (dG a)) O) [γ (Tk LL),γ (.pdict ks vs)]:=k ((ks,vs),γ (dG a)) TQ ⟨ys++[a],Uk,by exists hl2;exact⟨h2.get,h2.mem,h2.len,eY h2.le⟩⟩
  have Y3:δ (LL.map FB)<=1000:=by exists φ ..,hL
  have Y4:δ ((rs++laid).map sK)<=1000:=by exists φ ..,κ ‹_› (by decide)
  have Xn:δ (rs++laid)=δ rs+δ laid:=Δ;have Yw:δ (laid.map sK)<=1000:=by exists φ ..;lia
  refine ξ (an TK) (Ev (b:=(a.1:Int)==(ah:Int)) (λz1=>?_) λz1=>ww z1 skip);refine jI (an TK) Y3 (o:=s0 (LL.map FB) (ah:Int)) (ot hat) (ξ Y4 (ξ Yw ?_));refine Ev (b:=decide ((δ ((rs++laid).map sK):Int) - (δ (laid.map sK):Int)<=(a.2.1:Int))) (λz2=>?_) λz2=>skip
  have ea:a.1=ah:=aW (TM z1);have z2':=TN z2;rw[φ,φ,Xn]at z2';have T6:=UH a ha ea;rw[Xn]at T6;obtain⟨i,hi⟩:∃i,a.2.1=δ rs+i:=Ez (by lia);have hil:i<δ sp:=by lia
  have hs:=ag hil;generalize sp[i]=s at hs;have Xl:s0 (sp.map cU) ((a.2.1:Int) - (δ ((rs++laid).map sK):Int)+(δ (laid.map sK):Int))=γ (cU s):=by rw[φ,φ,Xn,show((a.2.1:Int) - ((δ rs+δ laid:Nat):Int)+(δ laid:Int))=(i:Int) by lia];show(sp.map cU)[i]? =_;rw[aA,hs];rfl
  have hww:=hw a ha ea i s hi hs;refine mF (an TK) (an TK) Y3 (o:=s0 (LL.map FB) (ah:Int)) (ot hat) (ξ Y4 (ξ Yw (ξ ?_ (db (o:=s0 (sp.map cU) ((a.2.1:Int) - (δ ((rs++laid).map sK):Int)+(δ (laid.map sK):Int))) Xl (ξ (κ h2.le Wv) ?_)))))
  ·rw[φ];lia
  ·have:=k ((_,_),γ (dG a)) TQ ⟨ys++[a],Uk,by rw[hl2];exact h2.put (av hs)⟩;rw[←hww]at this;exact this
 ·obtain⟨⟨ks,vs⟩,o⟩:=s;obtain⟨ys,h1,h2⟩:=hi;rw[aL]at h1;subst h1;exact k o _ ks vs ho h2
theorem Nx(ho:δ own<=1000)(W:Wh sp wk m ks vs)(hw:∀a∈own,(a.1,a.2.1)∈sp->a.2.2.2.2=wk (a.1,a.2.1))(h1:pc l 164=γ (AT own))(h2:pc l 165=γ (.ref 1))
  (k:fn Φ ss fl l [X,γ (.pdict ks vs)] N C R):
  fn Φ (.cons (.ife (.cmp .ne (.comp ζ [165] [150] (.name 150) ζ (.l 164) (.cons (.and (.cmp .isin (.hi (.l 150) (.i (.int 2))) (.l 165)) (.cons (.cmp .ne (.sub (.l 150) (.i (.int 4))) (.sub (.l 165) (.hi (.l 150) (.i (.int 2))))) .nil)) .nil) (.last (.l 150))) (.list ζ .nil)) (.cons (.ret (.i (.bool ζ))) .nil) .nil) ss) fl l [X,γ (.pdict ks vs)] N C R:=by
 have main:∀Q:List CV->L->ad->Prop,(∀l,Q [] l [X,γ (.pdict ks vs)])->cA (λc'=>ct [X,γ (.pdict ks vs)] c' (AT own)) (λx r l c Q=>wT Φ (.name 150) x l c λl c=>cx Φ (.cons (.and (.cmp .isin (.hi (.l 150) (.i (.int 2))) (.l 165)) (.cons (.cmp .ne (.sub (.l 150) (.i (.int 4))) (.sub (.l 165) (.hi (.l 150) (.i (.int 2))))) .nil)) .nil) l c λb c=>br b (wG Φ (.last (.l 150)) r l c Q) (Q r l c)) (own.map dG) [] [(165,γ (.ref 1)),(150,η)] [X,γ (.pdict ks vs)] Q:=λQ q=>by
  refine dY (σ:=Option CV) (enc:=dG) (λs=>[(165,γ (.ref 1)),(150,s)]) [X,γ (.pdict ks vs)] (λ_=>ζ) dG (· ∈own) (λa s r K ha hr k1 k2=>?_) TQ own [] η (λ_ h=>h) (by rw[cC,az];exact ho) λs=>?_
  ·refine ξ ⟨an TK,by decide⟩ (Ev (b:=ks.contains (jJ (a.1,a.2.1))) (λz=>?_) λz=>ww z (k2 TK _));have hm:=ak.mp z;obtain⟨s',hs,e⟩:=W.mem _ hm;rw[←Bg e]at hs;obtain⟨w,hd⟩:=KQ W.len hm;have e2:=W.get _ _ hd;subst e2;refine jI (an TK) ⟨an TK,by decide⟩ (o:=wf (jJ (a.1,a.2.1)) ks vs) hd (ww (b:= !(a.2.2.2.2==wk (a.1,a.2.1))) (by exists hw a ha hs,ip) (k2 TK _))
  ·exists(show own.filter (λ_=>ζ)=[] from xw.mpr λ_ _ h=>nomatch h),q _
 rw[←h2]at main;refine db h1 (main _ λl=>?_);exact ξ (an TK) k
noncomputable def jK(LL:List (List bv))(a:Nat):List bv:=match LL[a]? with|some rs=>rs|none=>[]
noncomputable def eK(LL:List (List bv))(rg:List Nat):List bv:=rg.flatMap (jK LL)
theorem Ny(hL:δ LL<=900)(Vx:∀a∈rg,a<δ LL)(hl:δ (eK LL rg)<=1000)(h1:pc l 101=γ (.ref 0))(h2:pc l 122=γ (sB rg))
  (k:fn Φ ss fl (putL l 160 (FB (eK LL rg))) (γ (Tk LL)::tl) N C R):
  fn Φ (.cons (.g (.name 160) (.comp ζ [101] [36,87] (.name 36) ζ (.l 122) .nil (.cons (.name 87) ζ (.sub (.l 101) (.l 36)) .nil (.last (.l 87))))) ss) fl l (γ (Tk LL)::tl) N C R:=by
 have Y3:δ (LL.map FB)<=1000:=by exists φ ..,κ ‹_› (by decide)
 have main:cA (λc'=>ct (γ (Tk LL)::tl) c' (sB rg)) (λx r l c Q=>wT Φ (.name 36) x l c λl c=>cx Φ .nil l c λb c=>br b (wG Φ (.cons (.name 87) ζ (.sub (.l 101) (.l 36)) .nil (.last (.l 87))) r l c Q) (Q r l c)) (rg.map λ(i:Nat)=>CV.int i) [] [(101,γ (.ref 0)),(36,η),(87,η)] (γ (Tk LL)::tl) λr _ c=>fn Φ ss fl (putL l 160 (.list r)) c N C R:=by
  refine dU (σ:=Option CV×Option CV) (enc:=λ(i:Nat)=>CV.int i) (λs=>[(101,γ (.ref 0)),(36,s.1),(87,s.2)]) (γ (Tk LL)::tl) (λa=>(jK LL a).map sK) rg TK (λa s r K ha hr k=>?_) TQ [] (η,η) (by rw[qK,aB,φ];exact hl) λs=>by rw[qK];exact k
  have hb:=ag (Vx a ha);generalize LL[a]'(Vx a ha)=b at hb;have he:jK LL a=b:=by unfold jK;exists hb,TK
  rw[he]at hr k;refine wl Y3 (o:=s0 (LL.map FB) (a:Int)) (ot hb) ?_;refine dU (σ:=Option CV) (enc:=sK) (λs=>[(101,γ (.ref 0)),(36,γ (.int a)),(87,s)]) (γ (Tk LL)::tl) (λr=>[sK r]) b TK (λq s r K hq hr k=>ξ ?_ (k _)) TQ r s.2 (by exists On ..,hr) λs=>by exists On ..,k (_,s)
  rw[Δ]at hr;exact κ (ao _ _) hr
 refine db h2 ?_;rw[←h1]at main;exact main
theorem Nz(hl:δ RR<=1000)(h1:pc l 160=γ (FB RR))(k:fn Φ ss fl (putL l 163 (.list (RR.map λr=>CV.int r.dst))) c N C R):
  fn Φ (.cons (.g (.name 163) (.comp ζ [] [87] (.name 87) ζ (.l 160) .nil (.last (.sub (.l 87) (.i (.int 1)))))) ss) fl l c N C R:=by
 refine db h1 ?_;refine dU (σ:=Option CV) (enc:=sK) (λs=>[(87,s)]) c (λr=>[CV.int r.dst]) RR TK (λq s r K hq hr k=>ξ (an TK) (ξ ?_ (k _))) TQ [] η (by exists On ..;exists aB ..;exists φ ..,hl) λs=>?_
 ·rw[Δ]at hr;exact κ (ao _ _) hr
 ·exists On ..;exists aB ..,k
noncomputable def jF:bv->Bool
 |.bin o _ _ b=>match o with
  |.divu=>match b with
   |.k _=>ε
   |.r _=>ζ
  |_=>ε
 |.copy _ _=>ε
 |.const _ _=>ε
 |.call _=>ζ
theorem PK(h1:pc l 87=γ (sK r))(k:fn Φ ss fl (putL l 161 (.bool (jF r))) c N C R):
  fn Φ (.cons (.g (.name 161) (.or (.cmp .isin (.sub (.l 87) (.i (.int 0))) (.glob 7)) (.cons (.and (.cmp .eq (.sub (.l 87) (.i (.int 0))) (.i (.str 13))) (.cons (.cmp .eq (.sub (.sub (.sub (.l 87) (.i (.int 2))) (.i (.int 1))) (.i (.int 0))) (.i (.str 57))) .nil)) .nil))) ss) fl l c N C R:=by
 refine db h1 (wl (an TK) TK ?_);induction r with
 |bin o d a b=>
  induction o with
  |divu=>
   refine db TK (db (o:=bh c .isin (.str 13) (.tup [.str 16,.str 17,.str 18,.str 19,.str 20,.str 21])) TK ?_);refine db h1 (wl (an TK) TK ?_);refine db (o:=pc l 87) h1 (wl (an TK) TK (ξ (an TK) (db TK ?_)));induction b with
   |k i=>exact ξ (an TK) k
   |r m=>exact ξ (an TK) k
  |_=>exact k
 |copy d a=>exact k
 |const d a=>exact k
 |call a=>exact db TK (db (o:=bh c .isin (.str 10) (.tup [.str 16,.str 17,.str 18,.str 19,.str 20,.str 21])) TK (db h1 (wl (an TK) TK k)))
theorem Bh{r:bv}(h:jF r=ε):∃d:Nat,r.dst=d:=by
 induction r with
 |call a=>exact Db h
 |bin o d a b=>exact⟨d,rfl⟩
 |copy d a=>exact⟨d,rfl⟩
 |const d a=>exact⟨d,rfl⟩
theorem NA{l:List bv}:eC (l.map λr:bv=>CV.int r.dst)=γ (l.map (·.dst)):=by refine io Bf (ac cM ?_);rfl
theorem NB{i:Int}{l:List Int}:bM (.int i) (l.map CV.int)=γ (l.contains i):=by
 induction l with
 |nil=>rfl
 |cons a l ih=>show(γ (a==i)).bind (λx=>(bM _ (l.map CV.int)).bind λb=>γ (x || b))=_;exists ih;exists g7;exists show(i==a)=(a==i)from BEq.comm;rfl
theorem wX{f:CV->CV}{a b c a' b' c':CV}(h1:f a=a')(h2:f b=b')(h3:f c=c'):[a,b,c].map f=[a',b',c']:=by refine io h1 (io h2 (io h3 ?_));rfl
noncomputable def my(S:List Int):bl->Bool|.r n=>S.contains (n:Int)|.k _=>ζ
noncomputable def DJ:bl->CV|.r n=>.int n|.k i=>.int i
theorem NC{n fl h:Nat}{ss:Ss}{l:L}{c:ad}{N C:L->ad->Prop}{R:CV->ad->Prop}{P:List bn}{rg:List Nat}{RR ST:List bv}{r:bv}(hP:δ P<=100)(hS:∀b∈P,∀t∈b.2.succ,t<δ P)(hh:h<δ P)(Vx:δ rg<=900)(hd:rg[0]? =γ h)
  (hx:jF r=ε->(RR.map (·.dst)).countP (· ==r.dst)=1->(∀d:Nat,r.dst=d->mH P h d)->∃x∈r.args,my (ST.map λr:bv=>r.dst) x=ε)
  (Z5:pc l 161=γ (.bool (jF r))) (Z6:pc l 162=γ (.list (RR.map λr:bv=>CV.int r.dst))) (Z7:pc l 87=γ (sK r)) (Z8:pc l 129=γ (wn P)) (Z9:pc l 122=γ (sB rg)) (Z':pc l 163=γ (.list (ST.map λr:bv=>CV.int r.dst)))
  (k:fn (Ph (n+2)) ss fl l c N C R):
  fn (Ph (n+2)) (.cons (.ife (.and (.l 161) (.cons (.cmp .eq (.me .count (.l 162) (.sub (.l 87) (.i (.int 1)))) (.i (.int 1))) (.cons (.not (.call 155 (.cons (.l 129) (.cons (.sub (.l 122) (.i (.int 0))) (.cons (.sub (.l 87) (.i (.int 1))) .nil))))) .nil))) (.cons (.ife (.cmp .eq (.comp ζ [163] [56,140] (.tup (.cons (.name 56) (.cons (.name 140) .nil))) ζ (.sub (.l 87) (.i (.int 2))) (.cons (.and (.cmp .eq (.l 56) (.i (.str 71))) (.cons (.cmp .isin (.l 140) (.l 163)) .nil)) .nil) (.last (.l 140))) (.list ζ .nil)) (.cons (.ret (.i (.bool ζ)))
 .nil) .nil)
 .nil) .nil) ss) fl l c N C R:=by
 have hlen:δ (rg.map λ(i:Nat)=>CV.int i)<=1000:=by exists φ ..,κ ‹_› (by decide)
 have main:∀Q:List CV->L->ad->Prop,(∀l,Q ([]++((r.args.filter (my (ST.map λr:bv=>r.dst))).map DJ)) l c)->cA (λc'=>ct c c' (.list (r.args.map bX))) (λx r l c Q=>wT (Ph (n+2)) (.tup (.cons (.name 56) (.cons (.name 140) .nil))) x l c λl c=>cx (Ph (n+2)) (.cons (.and (.cmp .eq (.l 56) (.i (.str 71))) (.cons (.cmp .isin (.l 140) (.l 163)) .nil)) .nil) l c λb c=>br b (wG (Ph (n+2)) (.last (.l 140)) r l c Q) (Q r l c)) (r.args.map bX) [] [(163,γ (.list (ST.map λr:bv=>CV.int r.dst))),(56,η),(140,η)] c Q:=λQ q=>by
  refine dY (σ:=Option CV×Option CV) (enc:=bX) (λs=>[(163,γ (.list (ST.map λr:bv=>CV.int r.dst))),(56,s.1),(140,s.2)]) c (my (ST.map λr:bv=>r.dst)) DJ (λ_=>True) (λa s r' K ha hr k1 k2=>?_) ?_ r.args [] (η,η) (λ_ _=>trivial) ?_ λs=>q _
  ·induction a with
   |k i=>exact k2 TK (_,_)
   |r m=>have hc:bh c .isin (.int m) (.list (ST.map λr:bv=>CV.int r.dst))=γ ((ST.map λr:bv=>r.dst).contains (m:Int)):=(by refine io NB (ac cM ?_);rfl);exact db hc (Ev (λz=>ξ hr (k1 z (_,_))) λz=>k2 z (_,_))
  ·trivial
  ·rw[cC,az];exact κ (by rw[φ];exact aJ _) (vk r)
 rw[←Z']at main;refine db Z5 (Ev (b:=jF r) (λz1=>?_) λz1=>ww z1 k);obtain⟨d,Ww⟩:=Bh z1;refine db Z6 (db TK (db Z7 (wl (an TK) TK (db (o:=eC (RR.map λr:bv=>CV.int r.dst)) NA ?_))));refine Ev (b:=(aY ((RR.map (·.dst)).countP (· ==r.dst))==(1:Int))) (λz2=>?_) λz2=>ww z2 k;have UW:(RR.map (·.dst)).countP (· ==r.dst)=1:=aW (TM z2);refine db Z8 (db Z9 (wl hlen (o:=s0 (rg.map λ(i:Nat)=>CV.int i) 0) (mx hd) (db Z7 (ξ (an TK) (db TK ?_)))));refine K5 (n:=n) (P:=P) (a:=h) (d:=d) hP hS hh (wX (by rfl) (by rfl) (by exists(show(CV.int r.dst)=CV.int (d:Int) by rw[Ww]);rfl)) λb hb=>?_;induction b with
 |true=>exact k
 |false=>
  obtain⟨x,VQ,YF⟩:=hx z1 UW λd' e=>by replace e:=(Ww).symm.trans e;have hz:=aW e;subst hz;exact hb TK
  refine db TK (db Z7 (wl (an TK) TK ?_));refine main _ λl=>?_;refine ξ (an TK) ?_;cases hF:r.args.filter (my (ST.map λr:bv=>r.dst))with
  |nil=>have:x∈r.args.filter (my (ST.map λr:bv=>r.dst)):=b3.mpr ⟨VQ,YF⟩;rw[hF]at this;cases this
  |cons z zs=>exact k
theorem Ll{α:Type}{f:α->Int}{a b:α}(hn:a≠b)(e:f a=f b){l:List α}:a∈l->b∈l->2<=(l.map f).count (f a):=by
 induction l with
 |nil=>exact λh=>nomatch h
 |cons x l ih=>
  intro ha hb;exists bQ;exists List.count_cons;have Rs:∀c,f c=f a->c∈l->1<=(l.map f).count (f a):=λc hc hm=>List.one_le_count_iff.mpr (hc▸i7 hm);rcases ab.mp ha with ha|ha
  ·have Vv:b∈l:=(ab.mp hb).resolve_left λh=>hn (ha.trans h.symm);refine io ha (ac (TG (TJ _)) ?_);exact bZ (Rs b e.symm Vv)
  ·rcases ab.mp hb with hb|hb
   ·refine io hb (io e (ac (TG (TJ _)) ?_));exact bZ (Rs a TK ha)
   ·exact κ (ih ha hb) (ao _ _)
theorem za{ts:List v6}{t u:v6}(ht:t∈ts)(hu:u∈ts)(hs:fo (St ts) t.2.2=ε)(e:x0 t=x0 u):t=u:=
 tD λn=>by have h2:=Ll (f:=x0) n e ht hu;have h1:((St ts).count t.2.2.dst:Int)=1:=TM (jp (jp hs).2).1;have h3:(St ts).count t.2.2.dst=1:=aW h1;have h4:2<=(St ts).count t.2.2.dst:=h2;exact absurd h4 (by rw[h3];decide)
noncomputable def LT(P:List bn)(rg:List Nat)(ah:Nat)(fnd:List v6):List (List bv):=(dj P (T0 fnd) rg).set ah (re P ah++fnd.map λt=>t.2.2)
structure Df(P:List bn) (rg:List Nat) (h ah:Nat) (fnd:List v6) (H:kt) (tr:List Ix) (g:Int):Prop where
 ok2:bE (a8 (LT P rg ah fnd) P)
 hl2:(wP (a8 (LT P rg ah fnd) P) 24 0 H).1.length<=1000
 g2:(wP (a8 (LT P rg ah fnd) P) 24 0 H).2=g
 seen:bx (wP (a8 (LT P rg ah fnd) P) 24 0 H).1=bx tr
 inb:∀a∈(wP (a8 (LT P rg ah fnd) P) 24 0 H).1,a.1=ah->a.2.1<δ (re P ah++fnd.map λt=>t.2.2)
 wk:∃wk:dh->Int,(∀a∈(wP (a8 (LT P rg ah fnd) P) 24 0 H).1,a.1=ah->∀i s,a.2.1=δ (re P ah)+i->(T0 fnd)[i]? =γ s->a.2.2.2.2=wk s)/\∀a∈(wP P 24 0 H).1,(a.1,a.2.1)∈T0 fnd->a.2.2.2.2=wk (a.1,a.2.1)
 rest:δ (eK (LT P rg ah fnd) rg)<=1000
 more:∀r∈eK (LT P rg ah fnd) rg,jF r=ε->((dz P rg).map λr:bv=>r.dst).countP (· ==r.dst)=1->(∀d:Nat,r.dst=d->mH P h d)->∃x∈r.args,my ((eK (LT P rg ah fnd) rg).map λr:bv=>r.dst) x=ε
noncomputable def SP(P:List bn)(rg:List Nat)(ah:Nat)(H:kt)(tr:List Ix)(g:Int)(fnd:List v6)(Y5 o:Option CV)(O:L):L:=oI P rg (T0 fnd) ah (fnd.map λt=>t.2.2) (γ (Sc P)) (γ (zn H)) (γ (AT tr)) (γ (.int g)) (γ (KK fnd)) Y5 (γ (AT (wP (a8 (LT P rg ah fnd) P) 24 0 H).1)) (γ (.int (wP (a8 (LT P rg ah fnd) P) 24 0 H).2)) (γ (AT (wP P 24 0 H).1)) o O
theorem B4(R:cB P h ts fnd)(hr:∀t∈ts,GM t.2.2):δ fnd<=12:=by
 have:=qH 12 (fnd.map x0) R.nd λx hx=>by obtain⟨t,ht,rfl⟩:=au.mp hx;obtain⟨h1,h2⟩:=R.sub t ht;exact⟨TN (jp h2).1,(hr t h1).2⟩
 rw[φ]at this;exact this
theorem IG(hL:wb P)(ok:bE P)(hP:δ P<=100)(hr:∀b∈P,δ b.1<=800)(R:kM h rg bs tl)(hh:h<δ P)(hb:∀n∈bs,n<δ P)(Vx:∀n∈rg,n<δ P)(Va:ah<δ P)(hna:rg.contains ah=ζ)
  (VJ:δ (xz P bs)<=400) (T_:(xz P bs).Nodup) (hl2:δ (dz P rg)<=1000) (UH:∀t∈xz P bs,mR P t) (hH:v1 H) (Wg:(wP P 24 0 H).1.length<=1000) (ht:δ tr<=1000)
  (e:args.map (ul c 8)=[Sc P,sB rg,.int ah,zn H,AT tr,.int g]) (hF:∀fnd,cB P h (xz P bs) fnd->Df P rg h ah fnd H tr g) (q:Q (.bool ε) c):Ph (n+5) 168 args c Q:=by
 refine TT TK TK e (dl (fU P) (dl (bq (λ_=>rfl) rg) (dl TK (dl (jg H) (dl (bq qF tr) TK))))) (ξ TK ?_);have VD:∀b∈P,δ b.1<=1000:=λb hb=>κ (hr b hb) (by decide);refine Pu (v:=Sc P) TK (sk (n:=n+3) (l:=[(63,γ (Sc P)),(122,γ (sB rg)),(77,γ (.int ah)),(146,γ (zn H)),(142,γ (AT tr)),(69,γ (.int g)),(62,η),(129,η),(167,η),(101,η),(166,η),(36,η),(149,η),(148,η),(164,η),(165,η),(150,η),(160,η),(162,η),(163,η),(87,η),(161,η)]) R TK _ (db TK (sk (n:=n+3) (l:=[(63,γ (Sc P)),(122,γ (sB rg)),(77,γ (.int ah)),(146,γ (zn H)),(142,γ (AT tr)),(69,γ (.int g)),(62,η),(129,η),(167,η),(101,η),(166,η),(36,η),(149,η),(148,η),(164,η),(165,η),(150,η),(160,η),(162,η),(163,η),(87,η),(161,η)]) R TK _ ?_)));refine AP (n:=n+3) (P:=P) (h:=h) (bs:=bs) (tl:=tl) (iJ (by rfl) (by rfl)) (κ ‹_› (by decide)) hb (κ ‹_› (by decide)) ?_;refine Pd (n:=n) (P:=P) (ts:=xz P bs) (h:=h) (bs:=bs) (tl:=tl) hL hh (κ ‹_› (by decide)) VJ (λt ht u hu hs e=>za ht hu hs e) T_ (wX (by rfl) (by rfl) (by rfl)) λfnd V7=>?_;have K:=hF fnd V7;have YV:=B4 V7 λt ht=>(UH t ht).2.2;have Wm:∀t∈fnd,mR P t:=λt ht=>UH t (V7.sub t ht).1;have hfo:δ fnd<=1000:=by exact κ ‹_› (by decide)
 have Xo:δ P<=1000:=by exact κ ‹_› (by decide)
 have Y6:δ (LT P rg ah fnd)=δ P:=by unfold LT;exists cZ,ac gA TK
 have ZU:(dj P (T0 fnd) rg)[ah]? =γ (re P ah):=by exists rI Va,ac hna TK
 have Yx:=ag Va;have Z_:δ (re P ah)<=800:=by exists l9 Yx,hr _ (av Yx)
 have VE:δ (re P ah++fnd.map λt=>t.2.2)<=900:=by rw[Δ,φ];exact κ (g9 Z_ YV) (by decide)
 refine Px (n:=n+3) (P:=P) (fnd:=fnd) Xo VD hfo TK TK ?_;refine Py (P:=P) Xo VD TK ?_;refine Pz (P:=P) (fnd:=fnd) Xo VD hfo Wm TK TK ?_;refine PC (P:=P) (rg:=rg) (sp:=T0 fnd) (A1:=γ (Sc P)) (A3:=γ (.int ah)) (A4:=γ (zn H)) (A5:=γ (AT tr)) (A6:=γ (.int g)) (A7:=γ (KK fnd)) (A8:=γ (FB (fnd.map λt=>t.2.2))) (O:=[(149,η),(148,η),(164,η),(165,η),(150,η),(160,η),(162,η),(163,η),(87,η),(161,η)]) Xo VD Vx λY5=>?_;refine PD (ah:=ah) (rs:=re P ah) (laid:=fnd.map λt=>t.2.2) (by exists gA,Xo) (κ ‹_› (by decide)) ZU TK TK TK ?_;refine PG (n:=n+2) (P:=P) (LL:=LT P rg ah fnd) (H:=H) (tl:=[]) Xo Y6 K.ok2 hH K.hl2 TK TK TK ?_;refine PH (n:=n+3) (ours:=(wP (a8 (LT P rg ah fnd) P) 24 0 H).1) (tr:=tr) (g:=g) K.hl2 ht K.seen (by exists K.g2;rfl) TK TK TK ?_;refine PJ (n:=n+2) (P:=P) (H:=H) ok hH Wg TK TK ?_;obtain⟨wk,hw1,hw2⟩:=K.wk;have hLat:(LT P rg ah fnd)[ah]? =γ (re P ah++fnd.map λt=>t.2.2):=by unfold LT;exists eW (by rw[gA];exact Va),TK
 refine Nw (P:=P) (rg:=rg) (sp:=T0 fnd) (ah:=ah) (rs:=re P ah) (laid:=fnd.map λt=>t.2.2) (LL:=LT P rg ah fnd) (wk:=wk) (ours:=(wP (a8 (LT P rg ah fnd) P) 24 0 H).1) (A1:=γ (Sc P)) (A4:=γ (zn H)) (A5:=γ (AT tr)) (A6:=γ (.int g)) (A7:=γ (KK fnd)) (A8:=Y5) (B2:=γ (.int (wP (a8 (LT P rg ah fnd) P) 24 0 H).2)) (B3:=γ (AT (wP P 24 0 H).1)) (O:=[(160,η),(162,η),(163,η),(87,η),(161,η)])
  (by rw[Y6];exact Xo) VE (by unfold T0;rw[φ,φ]) hLat K.hl2 K.inb hw1 λo m ks vs hm W=>?_
 refine Nx (own:=(wP P 24 0 H).1) Wg W hw2 TK TK ?_;refine Ny (LL:=LT P rg ah fnd) (rg:=rg) (tl:=[γ (.pdict ks vs)]) (by rw[Y6];lia) (λa ha=>by rw[Y6];exact Vx a ha) K.rest TK TK ?_;refine BY (last:=.sub (.l 87) (.i (.int 1))) (g:=λr:bv=>.int r.dst) (x:=162) (P:=P) (rg:=rg) (by lia) Vx hl2 TK TK (λr o Q q=>ξ (an TK) q) ?_;refine Nz (RR:=eK (LT P rg ah fnd) rg) K.rest TK ?_;refine iN (σ:=Option CV×Option CV) (enc:=sK) (λs=>SP P rg ah H tr g fnd Y5 o [(160,γ (FB (eK (LT P rg ah fnd) rg))),(162,γ (.list ((dz P rg).map λr:bv=>.int r.dst))),(163,γ (.list ((eK (LT P rg ah fnd) rg).map λr:bv=>.int r.dst))),(87,s.1),(161,s.2)]) (λ_=>[γ (Tk (LT P rg ah fnd)),γ (.pdict ks vs)]) (λxs _=>∀r∈xs,r∈eK (LT P rg ah fnd) rg) (λr xs s Kk hi k=>?_) (eK (LT P rg ah fnd) rg) TK (η,η) (λr h=>h) λs _=>ret TK q;have Y4:=hi r (.head _);refine PK (r:=r) TK ?_;refine NC (n:=n+2) (h:=h) (P:=P) (rg:=rg) (RR:=dz P rg) (ST:=eK (LT P rg ah fnd) rg) (r:=r) hP ok.s hh R.len R.hd (K.more r Y4) TK TK TK TK TK TK ?_;exact k (γ (sK r),γ (.bool (jF r))) TQ λy hy=>hi y (.tail _ hy)
section
theorem zA:∀{p:Nat},t∈GT n p rs↔t.1=n/\∃i,t.2.1=p+i/\rs[i]? =γ t.2.2:=by
 induction rs with
 |nil=>exact⟨λh=>(nomatch h),λz0=>by obtain⟨_,_,_,h⟩:=z0;exact(nomatch h)⟩
 |cons r rs ih=>
  intro p;show t∈(n,p,r)::GT n (p+1) rs↔_;rw[ab,ih];constructor
  ·rintro(e|⟨h1,i,h2,h3⟩)
   ·exists e;exact⟨rfl,0,rfl,rfl⟩
   ·exact⟨h1,i+1,by lia,h3⟩
  ·rintro⟨h1,i,h2,h3⟩;induction i using b5 with
   |zero=>left;replace h3:=ω h3;subst h3;exact lX h1 (lX h2 TK)
   |succ i=>exact .inr ⟨h1,i,by lia,h3⟩
theorem qL:t∈GT n 0 rs↔t.1=n/\rs[t.2.1]? =γ t.2.2:=by rw[zA];refine and_congr_right λ_=>⟨λz0=>f4 z0 λi h1 h2=>?_,λh=>⟨t.2.1,(az _).symm,h⟩⟩;rw[az]at h1;exists h1,h2
theorem Aj:t∈xz P bs↔t.1∈bs/\(re P t.1)[t.2.1]? =γ t.2.2:=by
 unfold xz;rw[pP];constructor
 ·rintro⟨n,hn,ht⟩;obtain⟨h1,h2⟩:=qL.mp ht;exists h1;exact⟨hn,h2⟩
 ·rintro⟨h1,h2⟩;exact⟨t.1,h1,qL.mpr ⟨rfl,h2⟩⟩
theorem zB:∀{p:Nat},(GT n p rs).map (λt=>t.2.2)=rs:=by
 induction rs with
 |nil=>exact rfl
 |cons r rs ih=>exact TL (r::·) ih
structure Fin(P:List bn) (rg bs tl:List Nat) (h ah:Nat) (M:Nat->Prop):Prop where
 ok:bE P
 ring:kM h rg bs tl
 perm:bs.Perm rg
 nd:bs.Nodup
 rl:δ rg<=10
 lt:∀a∈rg,a<δ P
 hh:h∈rg
 ahj:∃Uu,P[ah]? =γ (Uu,.jump h)
 hna:¬ah∈rg
 z:¬0∈rg
 ent:∀b,¬b∈rg->∀t∈wr P b,t∈rg->b=ah
 Mr:∀b∈rg,M b
 Mc:∀b,M b->∀t∈wr P b,M t
 Ma:¬M ah
 Mo:∀b,M b->¬b∈rg->∀r∈re P b,r.dst= -1
 br:∀b rs e,M b->P[b]? =γ (rs,e)->(∀a,e≠.give a)->∀x∈FM e.args,x=3
 d3:∀b∈rg,∀r∈re P b,r.dst=3->3∈FM r.args
 rows:∀b∈P,δ b.1<=25
noncomputable def df(fnd:List v6)(r:bv):Bool:= !(fnd.map x0).contains r.dst
def pd(fnd:List v6) (x:Nat):Prop:=(x:Int)∈fnd.map x0
variable {P:List bn}{rg bs tl:List Nat}{h ah:Nat}{M:Nat->Prop}{fnd:List v6}
theorem Fin.mem(F:Fin P rg bs tl h ah M):t∈xz P bs↔t.1∈rg/\(re P t.1)[t.2.1]? =γ t.2.2:=by rw[Aj,F.perm.mem_iff]
theorem Fin.okr(F:Fin P rg bs tl h ah M)(ht:t∈xz P bs):GM t.2.2:=kn F.ok.b (av (F.mem.mp ht).2)
theorem Fin.once(F:Fin P rg bs tl h ah M)(R:cB P h (xz P bs) fnd)(ht:t∈xz P bs)(hd:x0 t∈fnd.map x0):t∈fnd:=by obtain⟨u,hu,e⟩:=au.mp hd;obtain⟨h1,h2⟩:=R.sub u hu;rw[za h1 ht h2 e]at hu;exact hu
theorem Fin.spot(F:Fin P rg bs tl h ah M)(R:cB P h (xz P bs) fnd)(ht:t∈xz P bs):(T0 fnd).contains (t.1,t.2.1)=(fnd.map x0).contains (x0 t):=by
 have iff:(t.1,t.2.1)∈T0 fnd↔x0 t∈fnd.map x0:=by
  constructor
  ·intro m;obtain⟨u,hu,e⟩:=au.mp m;have hus:=F.mem.mp (R.sub u hu).1;have We:=F.mem.mp ht;have e1:u.1=t.1:=(du e).1;have e2:u.2.1=t.2.1:=(du e).2;have:u.2.2=t.2.2:=ω (by exact io hus.2 (io We.2 (ac e1 (ac e2 TK))));exact au.mpr ⟨u,hu,TL bv.dst this⟩
  ·intro m;exact au.mpr ⟨t,F.once R ht m,rfl⟩
 cases e:(fnd.map x0).contains (x0 t)with
 |true=>exact ak.mpr (iff.mpr (ak.mp e))
 |false=>
  cases e':(T0 fnd).contains (t.1,t.2.1)with
  |false=>rfl
  |true=>rw[ak.mpr (iff.mp (ak.mp e'))]at e;exact eH e
theorem Fin.kept(F:Fin P rg bs tl h ah M)(R:cB P h (xz P bs) fnd){n:Nat}(hn:n∈rg):gb P (T0 fnd) n=(re P n).filter (df fnd):=by
 unfold gb;have e:(GT n 0 (re P n)).filter (λt=> !(T0 fnd).contains (t.1,t.2.1))=(GT n 0 (re P n)).filter (df fnd∘λt=>t.2.2):=List.filter_congr λt ht=>by obtain⟨h1,h2⟩:=qL.mp ht;show(!(T0 fnd).contains (t.1,t.2.1))= !(fnd.map x0).contains t.2.2.dst;exists F.spot R (F.mem.mpr ⟨by rw[h1];exact hn,by rw[h1];exact h2⟩),TK
 rw[e]
 conv=>rhs;rw[←zB (n:=n) (rs:=re P n) (p:=0)]
 rw[List.filter_map]
theorem Fin.nn(F:Fin P rg bs tl h ah M)(R:cB P h (xz P bs) fnd){r:bv}(hr:r.dst= -1):df fnd r=ε:=by
 unfold df;cases e:(fnd.map x0).contains r.dst with
 |false=>rfl
 |true=>obtain⟨u,hu,e'⟩:=au.mp (ak.mp e);have:0<=x0 u:=TN (jp (R.sub u hu).2).1;rw[hr]at e';lia
theorem Fin.args(F:Fin P rg bs tl h ah M)(R:cB P h (xz P bs) fnd){pre post:List v6}{t:v6}(e:fnd=pre++t::post):∀x∈FM t.2.2.args,∀r∈t.2.2::post.map (λt=>t.2.2),r.dst≠x:=by
 intro x hx r hr hd;have T_:=R.nd;rw[e,aj]at T_;have Y7:(x:Int)∈(t::post).map x0:=by
  rcases ab.mp hr with q|q
  ·refine io hd (ac q ?_);exact .head _
  ·obtain⟨u,hu,rfl⟩:=au.mp q;refine io hd ?_;exact .tail _ (au.mpr ⟨u,hu,rfl⟩)
 have We:(x:Int)∈St (xz P bs):=by
  obtain⟨u,hu,e'⟩:=au.mp Y7;have VV:u∈fnd:=by exists e,aI _ hu
  exact au.mpr ⟨u,(R.sub u VV).1,e'⟩
 exact(cL.mp T_).2.2 _ (R.ord pre t post e x hx We) _ Y7 TK
theorem Fin.no3(F:Fin P rg bs tl h ah M)(R:cB P h (xz P bs) fnd):¬pd fnd 3:=λm=>by obtain⟨t,ht,e⟩:=au.mp m;obtain⟨i,hi⟩:=fO.mp ht;have hm:=F.mem.mp (R.sub t ht).1;exact F.args R (qZ hi) 3 (F.d3 t.1 hm.1 _ (av hm.2) e) _ (.head _) e
theorem Fin.fix(F:Fin P rg bs tl h ah M)(R:cB P h (xz P bs) fnd){h0:kt}(hh:v1 h0){i:Nat}{t:v6}(ht:fnd[i]? =γ t):
  worth t.2.2 (lm ((fnd.map λt=>t.2.2).take i) h0)=worth t.2.2 (lm (fnd.map λt=>t.2.2) h0)/\∃d:Nat,t.2.2.dst=d/\at' (lm (fnd.map λt=>t.2.2) h0) d=worth t.2.2 (lm (fnd.map λt=>t.2.2) h0):=by
 have e:=qZ ht;have em:fnd.map (λt=>t.2.2)=(fnd.take i).map (λt=>t.2.2)++t.2.2::(fnd.drop (i+1)).map (λt=>t.2.2):=by
  conv=>lhs;rw[e]
  rw[aj,bQ]
 have ok:∀r∈fnd.map (λt=>t.2.2),GM r:=λr hr=>by obtain⟨u,hu,rfl⟩:=au.mp hr;exact F.okr (R.sub u hu).1
 have Y8:=ok;rw[em]at Y8;have htk:(fnd.map λt=>t.2.2).take i=(fnd.take i).map λt=>t.2.2:=List.map_take.symm;have h0':0<=t.2.2.dst:=TN (jp (R.sub t (av ht)).2).1;refine⟨?_,t.2.2.dst.toNat,(i0 h0').symm,?_⟩
 ·rw[htk]
  conv=>rhs;rw[em,bT]
  exact nO λx hx=>(lR (fh hh λr hr=>Y8 r (b_ _ hr)) (λr hr=>Y8 r (aI _ hr)) (F.args R e x hx)).symm
 ·rw[em];refine M9 hh Y8 (i0 h0').symm (F.args R e) λr hr hd=>?_;have T_:=R.nd;rw[e,aj,bQ]at T_;obtain⟨u,hu,rfl⟩:=au.mp hr;replace hd:=hd.trans (i0 h0');exact(dO.mp (cL.mp T_).2.1).1 (au.mpr ⟨u,hu,hd⟩)
end
section
variable {P:List bn}{rg bs tl:List Nat}{h ah:Nat}{M:Nat->Prop}{fnd:List v6}
theorem nq{l:List Nat}{x:Nat}(h:¬x∈l):l.contains x=ζ:=by
 cases e:l.contains x with
 |false=>rfl
 |true=>exact absurd (ak.mp e) h
theorem vG:δ (LT P rg ah fnd)=δ P:=by unfold LT;exists cZ,ac gA TK
theorem vH{b:Nat}(hb:b<δ P):(LT P rg ah fnd)[b]? =γ (match decide (ah=b)with|true=>re P ah++fnd.map λt=>t.2.2|false=>match rg.contains b with|true=>gb P (T0 fnd) b|false=>re P b):=by
 unfold LT;by_cases e:ah=b
 ·exists e;exists eW (by rw[gA];exact hb),ac (TR TK) TK
 ·rw[eX e,rI hb,TS e];try rfl
noncomputable abbrev b9(P:List bn) (rg:List Nat) (ah:Nat) (fnd:List v6):List bn:=a8 (LT P rg ah fnd) P
theorem wC{b:Nat}{k:bn}(hk:P[b]? =γ k):(b9 P rg ah fnd)[b]? =γ (match decide (ah=b)with|true=>re P ah++fnd.map λt=>t.2.2|false=>match rg.contains b with|true=>gb P (T0 fnd) b|false=>re P b,k.2):=B0 (vH (ay.mp hk).1) hk
theorem Fin.P2ring(F:Fin P rg bs tl h ah M)(R:cB P h (xz P bs) fnd){b:Nat}{rs:List bv}{e:Id}(hb:M b)(hk:P[b]? =γ (rs,e)):(b9 P rg ah fnd)[b]? =γ (rs.filter (df fnd),e):=by
 rw[wC hk,TS λq:ah=b=>F.Ma (q▸hb)];by_cases hr:b∈rg
 ·rw[ak.mpr hr];show γ (gb P (T0 fnd) b,e)=_;rw[F.kept R hr,SB hk]
 ·rw[nq hr];show γ (re P b,e)=_;rw[SB hk,Fb.mpr λr hm=>F.nn R (F.Mo b hb hr r (by rw[SB hk];exact hm))]
theorem Fin.P2out(F:Fin P rg bs tl h ah M){b:Nat}(hr:¬b∈rg)(ha:b≠ah):(b9 P rg ah fnd)[b]? =P[b]?:=by
 cases hk:P[b]? with
 |none=>rw[dp];rw[rJ vG];exact g6.mp hk
 |some k=>rw[wC hk,TS (aO ha),nq hr];show γ (re P b,k.2)=_;rw[l9 hk]
theorem Fin.P2ah(F:Fin P rg bs tl h ah M){Uu:List bv}{e:Id}(hk:P[ah]? =γ (Uu,e)):(b9 P rg ah fnd)[ah]? =γ (Uu++fnd.map (λt=>t.2.2),e):=by rw[wC hk,TR TK];show γ (re P ah++_,e)=_;rw[SB hk]
theorem Fin.P2rows(F:Fin P rg bs tl h ah M)(R:cB P h (xz P bs) fnd){b:Nat}{k:bn}(hk:(b9 P rg ah fnd)[b]? =γ k):∃q,P[b]? =γ q/\k.2=q.2/\δ k.1<=37/\∀r∈k.1,GM r:=by
 have T6:b<δ P:=by rw[←rJ (vG (P:=P) (rg:=rg) (ah:=ah) (fnd:=fnd))];exact(ay.mp hk).1
 have hq:=ag T6;generalize P[b]=q at hq;have hf:=B4 R λt ht=>F.okr ht;refine⟨q,hq,?_⟩;obtain⟨rs,e⟩:=q;have VE:δ rs<=25:=F.rows _ (av hq);have VM:∀r∈rs,GM r:=(F.ok.b _ (av hq)).1;by_cases ea:b=ah
 ·subst ea;rw[F.P2ah hq]at hk;replace hk:=ω hk;subst hk;refine⟨rfl,?_,λr hr=>(aw.mp hr).elim (VM r) λhr=>by obtain⟨t,ht,rfl⟩:=au.mp hr;exact F.okr (R.sub t ht).1⟩;show δ (rs++fnd.map λt=>t.2.2)<=37;rw[Δ,φ];lia
 ·by_cases er:b∈rg
  ·rw[F.P2ring R (F.Mr b er) hq]at hk;replace hk:=ω hk;subst hk;exact⟨rfl,κ (fP _ _) (κ ‹_› (by decide)),λr hr=>VM r (b3.mp hr).1⟩
  ·rw[F.P2out er ea,hq]at hk;replace hk:=ω hk;subst hk;exact⟨rfl,by show δ rs<=37;exact κ ‹_› (by decide),VM⟩
theorem Fin.ok2(F:Fin P rg bs tl h ah M)(R:cB P h (xz P bs) fnd):bE (b9 P rg ah fnd):=by
 have hl:δ (b9 P rg ah fnd)=δ P:=rJ vG;refine⟨λk hk=>?_,λk hk t ht=>?_,by rw[hl];exact F.ok.z,by rw[hl];exact F.ok.l⟩
 ·obtain⟨b,hb⟩:=fO.mp hk;obtain⟨q,h1,h2,h3,h4⟩:=F.P2rows R hb;exact⟨h4,by rw[h2];exact(F.ok.b q (av h1)).2⟩
 ·obtain⟨b,hb⟩:=fO.mp hk;obtain⟨q,h1,h2,h3,h4⟩:=F.P2rows R hb;rw[h2]at ht;rw[hl];exact F.ok.s q (av h1) t ht
theorem Fin.P2len(F:Fin P rg bs tl h ah M)(R:cB P h (xz P bs) fnd):∀k∈b9 P rg ah fnd,δ k.1<=37:=λk hk=>by obtain⟨b,hb⟩:=fO.mp hk;obtain⟨q,h1,h2,h3,h4⟩:=F.P2rows R hb;exact h3
theorem Ak{b:Nat}{H:kt}{x:Nat}{π:List Nat}{a:Nat}(p:IR P b H (x::π) a):x=b:=by cases p<;>rfl
theorem ND{b:Nat}{H:kt}{l:List Nat}{a:Nat}(p:IR P b H l a):∀x π,l=x::π->π≠[]->∃rs e,P[b]? =γ (rs,e)/\(∀a,e≠.give a)/\IR P (next e (lm rs H)) (lm rs H) π a:=by
 induction p with
 |done e=>intro x π h hn;cases h;exact absurd TK hn
 |step eb he p=>intro x π h _;cases h;exact⟨_,_,eb,he,p⟩
theorem HF{P2:List bn}{good:Nat->Prop}{VC:List Nat}{Uu rs2:List bv}{a:Nat}(hs:∀x,good x->P2[x]? =P[x]?)(h1:P[ah]? =γ (Uu,.jump h))(h2:P2[ah]? =γ (rs2,.jump h)):∀(pre:List Nat) (b:Nat) (H:kt),(∀x∈pre,good x)->IR P b H (pre++ah::VC) a->IR P2 h (lm rs2 (lm (GE P pre) H)) VC a->IR P2 b H (pre++ah::VC) a:=by
 intro pre;induction pre with
 |nil=>intro b H _ p q;have hz:=Ak p;subst hz;exact .step h2 (λa e=>nomatch e) q
 |cons x pre ih=>
  intro b H hg p q;have hx:=hg x (.head _);have hz:=Ak p;subst hz;obtain⟨rs,e,eb,he,p'⟩:=ND p x (pre++ah::VC) TK (by induction pre<;>exact λq=>nomatch q);have Xx:P2[x]? =γ (rs,e):=by rw[hs x hx];exact eb
  refine .step Xx he (ih _ _ (λy hy=>hg y (.tail _ hy)) p' ?_);rw[Pi,SB eb,bT]at q;exact q
theorem nH{P2:List bn}{π:List Nat}(hs:∀x∈π,P2[x]? =P[x]?):GE P2 π=GE P π:=by
 induction π with
 |nil=>rfl
 |cons x π ih=>rw[Pi,Pi,ih λy hy=>hs y (.tail _ hy)];unfold re;rw[hs x (.head _)]
theorem Al{P2:List bn}{π:List Nat}:∀{H:kt},(∀x∈π,P2[x]? =P[x]?)->Os P2 π H=Os P π H:=by
 induction π with
 |nil=>exact λ_=>rfl
 |cons x π ih=>
  intro H hs;have e:re P2 x=re P x:=by unfold re;rw[hs x (.head _)]
  show XV (GT x 0 (re P2 x)) H++Os P2 π (lm (re P2 x) H)=_;rw[e,ih λy hy=>hs y (.tail _ hy)];rfl
theorem Lm{P2:List bn}{b:Nat}{H:kt}{π:List Nat}{a:Nat}(p:IR P b H π a):(∀x∈π,P2[x]? =P[x]?)->IR P2 b H π a:=by
 induction p with
 |done e=>exact λhs=>.done (by rw[hs _ (.head _)];exact e)
 |step e he p ih=>exact λhs=>.step (by rw[hs _ (.head _)];exact e) he (ih λy hy=>hs y (.tail _ hy))
end
section
variable {P:List bn}{rg bs tl:List Nat}{h ah:Nat}{M:Nat->Prop}{fnd:List v6}
theorem JW{l:List bv}(hl:∀r∈l,∀a,r≠.call a):∀{H:kt},bw l H=[]:=by
 induction l with
 |nil=>exact rfl
 |cons r l ih=>
  intro H;have:=ih (λq hq=>hl q (.tail _ hq)) (H:=SL H r);induction r with
  |call a=>exact absurd TK (hl _ (.head _) a)
  |_=>exact this
theorem Fin.nocall(F:Fin P rg bs tl h ah M)(R:cB P h (xz P bs) fnd){t:v6}(ht:t∈fnd):∀a,t.2.2≠.call a:=λa e=>by
 have h0:0<=x0 t:=TN (jp (R.sub t ht).2).1;have:x0 t= -1:=by show t.2.2.dst= -1;exists e;rfl
 lia
theorem Fin.gone(F:Fin P rg bs tl h ah M)(R:cB P h (xz P bs) fnd){b:Nat}(hb:M b){r:bv}(hr:r∈re P b)(hk:df fnd r=ζ):∃t∈fnd,t.2.2=r:=by
 have hd:r.dst∈fnd.map x0:=by
  unfold df at hk;cases e:(fnd.map x0).contains r.dst with
  |true=>exact ak.mp e
  |false=>rw[e]at hk;exact eH hk
 by_cases VO:b∈rg
 ·obtain⟨i,hi⟩:=fO.mp hr;have ht:((b,i,r):v6)∈xz P bs:=F.mem.mpr ⟨VO,hi⟩;exact⟨(b,i,r),F.once R ht hd,rfl⟩
 ·have:=F.nn R (F.Mo b hb VO r hr);rw[hk]at this;exact Db this
structure Ti(P:List bn) (rg:List Nat) (ah:Nat) (fnd:List v6) (H:kt) (π:List Nat) (a:Nat) (hG:kt):Prop where
 path:IR (b9 P rg ah fnd) 0 H π a
 seen:bw (GE (b9 P rg ah fnd) π) H=bw (GE P π) H
 res:at' (lm (GE (b9 P rg ah fnd) π) H) a=at' (lm (GE P π) H) a
 laid:∀x∈Os (b9 P rg ah fnd) π H,x.1=ah->∀j t,x.2.1=δ (re P ah)+j->fnd[j]? =γ t->x.2.2.2.2=worth t.2.2 hG
 ring:∀x∈Os P π H,x.1∈rg->df fnd x.2.2.1=ζ->x.2.2.2.2=worth x.2.2.1 hG
theorem Fin.run(F:Fin P rg bs tl h ah M)(R:cB P h (xz P bs) fnd){H:kt}(hH:v1 H){π:List Nat}{a:Nat}(p:IR P 0 H π a):∃hG,Ti P rg ah fnd H π a hG:=by
 obtain⟨Uu,Va⟩:=F.ahj;rcases JL (rg:=λb=>b∈rg) F.ent Va F.hna p F.z with W1|⟨pre,VC,e1,e2,e3⟩
 ·have hs:∀x∈π,(b9 P rg ah fnd)[x]? =P[x]?:=λx hx=>F.P2out (W1 x hx).1 (W1 x hx).2;have ea:=Al (H:=H) hs;refine⟨H,Lm p hs,by exact ac (nH hs) TK,by exact ac (nH hs) TK,λx hx e=>?_,λx hx e=>?_⟩
  ·rw[ea]at hx;exact absurd e (W1 x.1 (jn F.ok.b hH hx).1).2
  ·exact absurd e (W1 x.1 (jn F.ok.b hH hx).1).1
 ·subst e1;have VG:∀x∈pre,(b9 P rg ah fnd)[x]? =P[x]?:=λx hx=>F.P2out (e2 x hx).1 (e2 x hx).2;have Xy:v1 (lm (GE P pre) H):=fh hH λr hr=>Na F.ok.b hr;have VM:∀r∈Uu,GM r:=(F.ok.b _ (av Va)).1;have hla:∀r∈fnd.map (λt=>t.2.2),GM r:=λr hr=>by obtain⟨t,ht,rfl⟩:=au.mp hr;exact F.okr (R.sub t ht).1
  generalize Yy:lm (GE P pre) H=H1 at e3 Xy;have Yz:v1 (lm Uu H1):=fh Xy VM;have hhG:v1 (lm (fnd.map λt=>t.2.2) (lm Uu H1)):=fh Yz hla;have hM:∀x∈VC,M x:=Iz F.Mc e3 (F.Mr h F.hh);have T6:h<δ P:=F.lt h F.hh;have hD0:∀t∈fnd,0<=x0 t:=λt ht=>TN (jp (R.sub t ht).2).1;have A:kB (pd fnd) (GE P VC) (λx=>x=a) (lm Uu H1) (lm (fnd.map λt=>t.2.2) (lm Uu H1)):=λx=>by
   by_cases hx:pd fnd x
   ·refine .inr ⟨hx,λu=>?_⟩;rcases R.nl with e|⟨li,s,L,hs,hn⟩
    ·rw[e]at hx;cases hx
    ·obtain⟨t,ht,e⟩:=au.mp hx;exact hn t ht (e▸K7 L F.ok.s e3 s hs u)
   ·refine .inl (lR Yz hla λr hr e=>hx ?_).symm;obtain⟨t,ht,rfl⟩:=au.mp hr;exact au.mpr ⟨t,ht,e⟩
  have L:=K6 (P2:=b9 P rg ah fnd) (D:=pd fnd) (Kp:=λx=>pd fnd x\/¬(x:Int)∈St (xz P bs)) (kept:=df fnd) (hG:=lm (fnd.map λt=>t.2.2) (lm Uu H1)) (M:=M) F.ok.b (λb rs e hb hk=>F.P2ring R hb hk) (λb hb r hr hk x hx hd=>?_) (λb hb r hr hk=>?_) (λb rs e hb hk he x hx q=>?_) e3 hM Yz hhG A (λ_ _=>rfl)
  ·obtain⟨L1,L2,L3,L4⟩:=L;have h2:=F.P2ah (fnd:=fnd) Va;have hp2:IR (b9 P rg ah fnd) 0 H (pre++ah::VC) a:=(by refine HF (good:=λx=>¬x∈rg/\x≠ah) (λx hx=>F.P2out hx.1 hx.2) Va h2 pre 0 H e2 p ?_;exists Yy;exists bT,L1);have VH:re (b9 P rg ah fnd) ah=Uu++fnd.map λt=>t.2.2:=SB h2;have Wx:re P ah=Uu:=SB Va;have ZX:bw (fnd.map λt=>t.2.2) (lm Uu H1)=[]:=JW λr hr=>(by obtain⟨t,ht,rfl⟩:=au.mp hr;exact F.nocall R ht);refine⟨lm (fnd.map λt=>t.2.2) (lm Uu H1),hp2,?_,?_,λx hx e j t hj ht=>?_,λx hx e hk=>?_⟩
   ·rw[qY,qY,Pi,Pi,nH VG,VH,Wx,gy,gy,gy,gy,gy,Yy,ZX,aL,bT,L2]
   ·exists qY,ac qY (ac Pi (ac Pi (ac (nH VG) (ac VH (ac Wx (ac bT (ac bT (ac bT (ac bT (ac bT (ac Yy (ac L3 TK))))))))))))
   ·rw[AU]at hx;rcases aw.mp hx with m|m
    ·rw[Al VG]at m;exact absurd e (e2 x.1 (jn F.ok.b hH m).1).2
    ·rw[nH VG,Yy]at m;rcases aw.mp m with m|m
     ·rw[VH]at m;obtain⟨i,r,q1,rfl⟩:=rF m;rw[Wx]at hj;have hi:i=δ Uu+j:=(by refine io hj ?_;exact(az i).symm);subst hi;rw[gh (ao _ _),mW,aA,ht]at q1;replace q1:=ω q1;subst q1;show worth t.2.2 (lm ((Uu++fnd.map λt=>t.2.2).take (δ Uu+j)) H1)=_;exists List.take_length_add_append ..;exists bT ..,(F.fix R Yz ht).1
     ·rw[VH,bT]at m;have:=(jn (F.ok2 R).b hhG m).1;exact absurd (hM x.1 this) (e▸F.Ma)
   ·rw[AU]at hx;rcases aw.mp hx with m|m
    ·exact absurd e (e2 x.1 (jn F.ok.b hH m).1).1
    ·rw[Yy]at m;rcases aw.mp m with m|m
     ·obtain⟨i,r,q1,rfl⟩:=rF m;exact absurd e F.hna
     ·rw[Wx]at m;exact L4 x m hk
  ·rcases hx with hx|hx
   ·obtain⟨t,ht,e⟩:=au.mp hx;unfold df at hk;rw[hd,ak.mpr hx]at hk;exact Db hk
   ·by_cases Vv:b∈rg
    ·obtain⟨i,hi⟩:=fO.mp hr;exact hx (au.mpr ⟨(b,i,r),F.mem.mpr ⟨Vv,hi⟩,hd⟩)
    ·have:=F.Mo b hb Vv r hr;lia
  ·obtain⟨t,ht,rfl⟩:=F.gone R hb hr hk;obtain⟨i,hi⟩:=fO.mp ht;obtain⟨f1,d,f2,f3⟩:=F.fix R Yz hi;refine⟨⟨d,f2,.inl (au.mpr ⟨t,ht,f2⟩),f3⟩,λx hx=>?_,F.nocall R ht⟩;by_cases q:(x:Int)∈St (xz P bs)
   ·have:=R.ord _ t _ (qZ hi) x hx q;obtain⟨u,hu,e⟩:=au.mp this;exact .inl (au.mpr ⟨u,EZ hu,e⟩)
   ·exact .inr q
  ·have:=F.br b rs e hb hk he x hx;subst this;exact F.no3 R q
end
section
variable {P:List bn}{rg bs tl:List Nat}{h ah:Nat}{M:Nat->Prop}{fnd:List v6}
theorem vv{α β:Type}{f:α->List β}{m:Nat}{l:List α}(hf:∀a∈l,δ (f a)<=m):δ (l.flatMap f)<=δ l*m:=by
 induction l with
 |nil=>exact cN _
 |cons a l ih=>rw[kY,Δ,pR,Nat.add_mul,Nat.one_mul,b4];exact g9 (ih λb hb=>hf b (.tail _ hb)) (hf a (.head _))
theorem Ln{g:v6->bv}{f:Nat->List v6}{l:List Nat}:(l.flatMap f).map g=l.flatMap λa=>(f a).map g:=List.map_flatMap
theorem Fin.goals(F:Fin P rg bs tl h ah M)(x:Int):(St (xz P bs)).count x=((dz P rg).map λr:bv=>r.dst).count x:=by
 have e:St (xz P bs)=(bs.flatMap (re P)).map λr:bv=>r.dst:=by unfold St xz;refine ac (show(λt:v6=>t.2.2.dst)=(λr:bv=>r.dst)∘λt:v6=>t.2.2 from rfl) (io cM (ac Ln ?_));congr 2;funext n;exact zB
 exists e,((F.perm.flatMap_right (re P)).map _).count_eq x
theorem PL(h:x∈FM as):bl.r x∈as:=by
 obtain⟨a,ha,e⟩:=xW.mp h;induction a with
 |r n=>replace e:=ω e;subst e;exact ha
 |k i=>exact pt e
theorem JX(hf:jF r=ε)(ho:GM r):plain r=ε:=by
 induction r with
 |bin o d a b=>
  induction o with
  |divu=>
   induction b with
   |k i=>have hk:eU (.k i):=ho.1 _ (.tail _ (.head _));show(!ζ&& !(i%4294967296==0))=ε;exists FN (j0 hk.1) hk.2;exists TO.mpr (λe=>by have:=hk.1;lia);rfl
   |r m=>exact Db hf
  |_=>rfl
 |copy d a=>rfl
 |const d a=>rfl
 |call a=>exact Db hf
theorem Fin.rest(F:Fin P rg bs tl h ah M)(R:cB P h (xz P bs) fnd):r∈eK (LT P rg ah fnd) rg↔∃n∈rg,r∈re P n/\df fnd r=ε:=by
 have e:∀n∈rg,jK (LT P rg ah fnd) n=(re P n).filter (df fnd):=λn hn=>by unfold jK;exists vH (F.lt n hn),ac (TS (λq:ah=n=>F.hna (q▸hn))) (ac (ak.mpr hn) (io (F.kept R hn) TK))
 unfold eK;rw[pP];exact⟨λz0=>f4 z0 λn hn hr=>⟨n,hn,b3.mp (e n hn▸hr)⟩,λz0=>f4 z0 λn hn hr=>⟨n,hn,by exists e n hn,b3.mpr hr⟩⟩
theorem Fin.ledOk(F:Fin P rg bs tl h ah M)(R:cB P h (xz P bs) fnd)(hH:v1 H)(p:IR P 0 H π a)(UX:δ π<=24)(Xh:bx tr=bw (GE P π) H)(hg:at' (lm (GE P π) H) a=g):Df P rg h ah fnd H tr g:=by
 obtain⟨hG,U⟩:=F.run R hH p;have e2:wP (a8 (LT P rg ah fnd) P) 24 0 H=(Os (b9 P rg ah fnd) π H,at' (lm (GE (b9 P rg ah fnd) π) H) a):=nF U.path UX;have e1:=nF p UX;obtain⟨Uu,Va⟩:=F.ahj;have VH:re (b9 P rg ah fnd) ah=re P ah++fnd.map λt=>t.2.2:=by exists SB Va,SB (F.P2ah (fnd:=fnd) Va)
 refine⟨F.ok2 R,?_,?_,?_,λx hx e=>?_,⟨λs=>worth (((re P s.1)[s.2]?).getD (.call (.k 0))) hG,λx hx e i s hi hs=>?_,λx hx hs=>?_⟩,?_,λr hr hf hc hd=>?_⟩
 ·exists e2;refine κ (il (F.P2len R)) ?_;exact κ (dN 37 UX) (by decide)
 ·exists e2,U.res.trans hg
 ·exists e2;exists Xh;show bx (Os _ _ _)=_;exists Ac,ac U.seen TK
 ·rw[e2]at hx;obtain⟨h',_,q⟩:=(jn (F.ok2 R).b hH hx).2;have:=(ay.mp q.row).1;rw[e,VH]at this;exact this
 ·rw[e2]at hx;unfold T0 at hs;replace hs:=(aA).symm.trans hs;cases ht:fnd[i]? with
  |none=>rw[ht]at hs;exact pt hs
  |some t=>rw[ht]at hs;replace hs:=ω hs;subst hs;have hm:=(F.mem.mp (R.sub t (av ht)).1).2;exists U.laid x hx e i t hi ht;show worth t.2.2 hG=worth (((re P t.1)[t.2.1]?).getD _) hG;exists hm;rfl
 ·rw[e1]at hx;obtain⟨h',_,q⟩:=(jn F.ok.b hH hx).2;obtain⟨u,hu,e⟩:=au.mp hs;have e3:u.1=x.1:=(du e).1;have e4:u.2.1=x.2.1:=(du e).2;have hm:=F.mem.mp (R.sub u hu).1;have er:u.2.2=x.2.2.1:=ω (by exact io hm.2 (io q.row (ac e3 (ac e4 TK))));exists U.ring x hx (e3▸hm.1) (by unfold df;rw[ak.mpr (au.mpr ⟨u,hu,TL bv.dst er⟩)];rfl);show _=worth (((re P x.1)[x.2.1]?).getD _) hG;rw[q.row];rfl
 ·refine κ (vv (m:=37) λn hn=>?_) (κ (dN 37 F.rl) (by decide));have hb:=ag (F.lt n hn);generalize P[n]'(F.lt n hn)=k at hb;obtain⟨rs,en⟩:=k;have hL:jK (LT P rg ah fnd) n=rs.filter (df fnd):=by unfold jK;rw[vH (F.lt n hn),TS (λq:ah=n=>F.hna (q▸hn)),ak.mpr hn];show gb P (T0 fnd) n=_;rw[F.kept R hn,SB hb]
  rw[hL];exact κ (fP _ _) (κ (F.rows _ (av hb)) (by decide))
 ·obtain⟨n,hn,VD,hr2⟩:=(F.rest R).mp hr;obtain⟨i,hi⟩:=fO.mp VD;have ht:((n,i,r):v6)∈xz P bs:=F.mem.mpr ⟨hn,hi⟩;obtain⟨d,Ww⟩:=Bh hf;have UW:(St (xz P bs)).count r.dst=1:=(F.goals r.dst).trans hc;have YW:fo (St (xz P bs)) r=ε:=dl (TR (by rw[Ww];exact aE d)) (dl (by rw[UW];rfl) (JX hf (F.okr ht)));rcases R.max _ ht YW hd with m|⟨x,hx,q1,q2⟩
  ·unfold df at hr2;rw[ak.mpr (au.mpr ⟨_,m,rfl⟩)]at hr2;exact Db hr2
  ·refine⟨.r x,PL hx,ak.mpr ?_⟩;obtain⟨u,hu,e⟩:=au.mp q1;have hm:=F.mem.mp hu;refine au.mpr ⟨u.2.2,(F.rest R).mpr ⟨u.1,hm.1,av hm.2,?_⟩,e⟩;unfold df;cases q:(fnd.map x0).contains u.2.2.dst with
   |false=>rfl
   |true=>exact absurd (e▸ak.mp q) q2
end
theorem emod_sub_emod(a b:Int):(a%4294967296 - b)%4294967296=(a - b)%4294967296:=Int.emod_sub_emod a 4294967296 b
theorem Am{q:bv}{d:Nat}{k:Int}{h:kt}(e:dH q d=γ k):(worth q h - at' h d)%4294967296=k%4294967296:=by
 induction q with
 |bin o c a b=>
  induction o with
  |add=>
   induction a with
   |r m=>
    induction b with
    |k i=>
     replace e:(match(m:Int)==(d:Int)with|true=>γ i|false=>η)=γ k:=e;cases z:(m:Int)==(d:Int)with
     |false=>rw[z]at e;exact pt e
     |true=>rw[z]at e;cases e;have hm:m=d:=aW (TM z);refine io hm ?_;show((at' h m+k)%4294967296 - at' h m)%4294967296=_;exists emod_sub_emod ..;congr 1;lia
    |r l=>exact pt e
   |k j=>
    induction b with
    |r m=>
     replace e:(match(m:Int)==(d:Int)with|true=>γ j|false=>η)=γ k:=e;cases z:(m:Int)==(d:Int)with
     |false=>rw[z]at e;exact pt e
     |true=>rw[z]at e;cases e;have hm:m=d:=aW (TM z);refine io hm ?_;show((k+at' h m)%4294967296 - at' h m)%4294967296=_;exists emod_sub_emod ..;congr 1;lia
    |k l=>exact pt e
  |sub=>
   induction a with
   |r m=>
    induction b with
    |k i=>
     replace e:(match(m:Int)==(d:Int)with|true=>γ (-i%4294967296)|false=>η)=γ k:=e;cases z:(m:Int)==(d:Int)with
     |false=>rw[z]at e;exact pt e
     |true=>rw[z]at e;replace e:=ω e;subst e;have hm:m=d:=aW (TM z);refine io hm ?_;show((at' h m - i)%4294967296 - at' h m)%4294967296=_;exists emod_sub_emod ..;exists Int.emod_emod ..;congr 1;lia
    |r l=>exact pt e
   |k j=>exact pt e
  |_=>exact pt e
 |_=>exact pt e
theorem NF{rows:List bv}{n:Nat}{q:bv}(h:rows[n]? =γ q):rows.take (n+1)=rows.take n++[q]:=by exists x_;exists h;rfl
theorem PM{rows}{s d}{k}{h}(hh:v1 h)(hr:∀r∈rows,GM r):∀{n:Nat},back rows s d n=γ k->(at' (lm (rows.take n) h) s - at' (lm (rows.take n) h) d)%4294967296=k%4294967296:=by
 intro n;induction n with
 |zero=>exact λe=>nomatch e
 |succ n ih=>
  intro e;replace e:(match rows[n]? with|none=>η|some q=>match q.dst==(d:Int)with|true=>η|false=>match q.dst==(s:Int)with|true=>dH q d|false=>back rows s d n)=γ k:=e;cases hq:rows[n]? with
  |none=>rw[hq]at e;exact pt e
  |some q=>
   rw[hq]at e;replace e:(match q.dst==(d:Int)with|true=>η|false=>match q.dst==(s:Int)with|true=>dH q d|false=>back rows s d n)=γ k:=e;have hn:=fh (rs:=rows.take n) hh λr m=>hr r (EZ m);have ho:=hr q (av hq);exists NF hq;exists bT;show(at' (SL _ q) s - at' (SL _ q) d)%_=_;cases z:q.dst==(d:Int)with
   |true=>rw[z]at e;exact pt e
   |false=>
    rw[z]at e;exists(eG hn ho d).2 (TO.mp z);cases y:q.dst==(s:Int)with
    |true=>rw[y]at e;exists(eG hn ho s).1 (TM y),Am e
    |false=>rw[y]at e;exists(eG hn ho s).2 (TO.mp y),ih e
theorem Ra{r:bv}{h:kt}{d:Nat}(e:r.dst=d):was r h=at' h d:=by unfold was;exists e;exists TR (aE d);rfl
theorem PN{rows:List bv}{p d:Nat}{r:bv}{k:Int}{h:kt}(hh:v1 h)(hr:∀r∈rows,GM r)(hd:r.dst=d)(g:dE rows p r=γ k):(worth r (lm (rows.take p) h) - was r (lm (rows.take p) h))%4294967296=k%4294967296:=by
 exists Ra hd;have other:dH r r.dst=γ k->(worth r (lm (rows.take p) h) - at' (lm (rows.take p) h) d)%4294967296=k%4294967296:=λg=>Am (by rw[hd]at g;exact g);induction r with
 |copy c a=>
  have hc:c=d:=aW hd;refine io hc ?_;induction a with
  |r s=>exact PM hh hr g
  |k i=>exact pt g
 |bin o c a b=>exact other g
 |const c a=>exact other g
 |call a=>exact other g
section
variable {P:List bn}{rg bs tl:List Nat}{h ah:Nat}{M:Nat->Prop}
theorem q7:r∈dz P rg↔∃n∈rg,r∈re P n:=pP
theorem zC(hp:gG x r=ε)(hd:r.dst=x):(dE rows p r).isSome=ε:=by
 induction r with
 |bin o d a b=>
  replace hd:(d:Int)=x:=hd;induction o with
  |add=>
   induction a with
   |r m=>
    induction b with
    |k i=>have hm:((m:Int)==x)=ε:=hp;show(match(m:Int)==(d:Int)with|true=>γ i|false=>η).isSome=ε;exists hd;exists hm;rfl
    |r l=>exact Db hp
   |k j=>exact Db hp
  |sub=>
   induction a with
   |r m=>
    induction b with
    |k i=>have hm:((m:Int)==x)=ε:=hp;show(match(m:Int)==(d:Int)with|true=>γ (-i%4294967296)|false=>η).isSome=ε;exists hd;exists hm;rfl
    |r l=>exact Db hp
   |k j=>exact Db hp
  |_=>exact Db hp
 |_=>exact Db hp
theorem NG(hp:fH r=ε):(dE rows p r).isSome=ζ:=by
 induction r with
 |bin o d a b=>
  induction o with
  |add=>exact Db hp
  |sub=>exact Db hp
  |_=>rfl
 |copy d a=>exact Db hp
 |const d a=>rfl
 |call a=>exact Db hp
noncomputable def Tj(P:List bn)(k:Int×Int):Int:=((dE (re P k.1.toNat) k.2.toNat (((re P k.1.toNat)[k.2.toNat]?).getD (.call (.k 0)))).getD 0)%4294967296
theorem Fin.cntOk(F:Fin P rg bs tl h ah M){H:kt}(hH:v1 H){π:List Nat}{S:List Int}(hS:DH P (xz P bs) S):Dd P rg bs (Os P π H) S:=by
 refine⟨⟨Tj P,λx hx hr hs=>?_⟩,λx h0 z2 hp=>f4 z2 λr hr hd=>?_,λx h0 z2 hx=>KT z2 λr hr hd hb=>?_⟩
 ·obtain⟨_,h',Vd,q⟩:=jn F.ok.b hH hx;obtain⟨s1,s2⟩:=(hS _).mp (ak.mp hs);obtain⟨t0,_,t1,t2,_⟩:=s1;have h0:0<=x.2.2.1.dst:=by refine io t2 ?_;exact t1
  have ht:((x.1,x.2.1,x.2.2.1):v6)∈xz P bs:=F.mem.mpr ⟨ak.mp hr,q.row⟩;cases hk:dE (re P x.1) x.2.1 x.2.2.1 with
  |none=>exact absurd ⟨_,ht,h0,rfl,by show(dE (re P x.1) x.2.1 x.2.2.1).isSome=ζ;exists hk;rfl⟩ s2
  |some k=>have hg:=PN Vd (λr hr=>kn F.ok.b hr) (i0 h0).symm hk;exists q.was;exists q.worth;exists hg;show _=((dE (re P x.1) x.2.1 (((re P x.1)[x.2.1]?).getD _)).getD 0)%4294967296;exists q.row;show _=((dE (re P x.1) x.2.1 x.2.2.1).getD 0)%4294967296;exists hk;rfl
 ·obtain⟨n,hn,hm⟩:=q7.mp hr;obtain⟨i,hi⟩:=fO.mp hm;refine(hS x).mpr ⟨⟨(n,i,r),F.mem.mpr ⟨hn,hi⟩,by show 0<=r.dst;exists hd;exact h0,hd,zC (hp r hr hd) hd⟩,λ⟨t,ht,_,e,g⟩=>?_⟩;have hm:=F.mem.mp ht;have:=zC (rows:=re P t.1) (p:=t.2.1) (hp t.2.2 (q7.mpr ⟨t.1,hm.1,av hm.2⟩) e) e;unfold oH at g;rw[this]at g;exact eH g
 ·obtain⟨n,hn,hm⟩:=q7.mp hr;obtain⟨i,hi⟩:=fO.mp hm;exact((hS x).mp hx).2 ⟨(n,i,r),F.mem.mpr ⟨hn,hi⟩,by show 0<=r.dst;exists hd;exact h0,hd,NG hb⟩
end
theorem JY(hb:decide (sh<2)=b)(hs:∀c,sm c)(hz:zs=rest.map λ(i:Nat)=>CV.int i)(hl:(cz b (dF 0 rest) ([],[])).1.length+(cz b (dF 0 rest) ([],[])).2.length<=900)(hr:δ (dF 0 rest)<=900)(o1 o2:Option CV)
  (k:∀o1 o2,N ((89,A)::(125,γ (.int sh))::(128,γ (.ref 2))::(93,o1)::(36,o2)::O) [γ (FB (cz b (dF 0 rest) ([],[])).1),γ (FB (cz b (dF 0 rest) ([],[])).2),γ (.list [.ref 0,.ref 1])]):
  ZB sm (λx l c' K=>wT (Ph (n+1)) (.tup (.cons (.name 93) (.cons (.name 36) .nil))) x l c' λl c'=>fn (Ph (n+1)) (.cons (.ex (.me .append (.sub (.l 128) (.ite (.cmp .lt (.l 125) (.i (.int 2))) (.bin .mod (.l 93) (.i (.int 2))) (.i (.int 1)))) (.call 119 (.cons (.l 36) .nil))))
 .nil) fl l c' K K R) (fj 0 zs) ((89,A)::(125,γ (.int sh))::(128,γ (.ref 2))::(93,o1)::(36,o2)::O) [γ (.list []),γ (.list []),γ (.list [.ref 0,.ref 1])] N:=by
 exists hz;exists Lf,Lg hb hs _ hl _ k ([],[]) o1 o2 TK (by show 0+0+_<=900;rw[az];exact hr)
noncomputable def Dg(i:Nat):CV:=.int (50+1009*aY i*aY i)
theorem Lp(hk:0<=k/\k<=1000)
  (h:fn Φ ss fl (putL l 120 (.ref (δ c))) (c++[γ (.list ((ax k.toNat).map Dg))]) N C R):
  fn Φ (.cons (.g (.name 120) (.comp ε [] [130] (.name 130) ζ (.bi .range ζ (.cons (.i (.int k)) .nil)) .nil (.last (.bin .add (.i (.int 50)) (.bin .mul (.bin .mul (.i (.int 1009)) (.l 130)) (.l 130)))))) ss) fl l c N C R:=by
 refine ξ hk ?_;refine jD (σ:=Option CV) (enc:=λ(i:Nat)=>CV.int (aY i)) (λs=>[(130,s)]) c (λi=>[Dg i]) (λi=>i<1000) (λi s r K hi hr k=>?_) TQ (ax k.toNat) [] η (λi hi=>?_) ?_ λs=>?_
 ·have h0:(0:Int)<=aY i:=aE i;have h1:aY i<1000:=aX.mpr hi;have a1:kq 1009:=⟨by decide,by decide⟩;have a2:kq (aY i):=⟨tS (by decide) h0,jb h1 (by decide)⟩;have a3:kq (1009*aY i):=⟨tS (by decide) (Int.mul_nonneg (by decide) h0),by unfold wZ;exact pL (Int.mul_le_mul_of_nonneg_left (j0 h1) (by decide)) (by decide)⟩;exact ξ a1 (bN a2 a3 a2 (by rw[Δ]at hr;exact κ (ao _ _) hr) (k _))
 ·exact bp (fQ.mp hi) (by lia)
 ·exists On ..;exists aB ..;exists φ ..;exists bG ..;lia
 ·exists On ..,h
noncomputable def u8:bv:=.bin .sub 3 (.r 3) (.k 1)
noncomputable def oJ:bn:=([.call (.r 0),.call (.r 5)],.give 2)
noncomputable def CF:bn:=([.bin .add 0 (.r 0) (.k 3)],.jump 2)
noncomputable def gc(sh:Nat)(p0 p1:List bv):List bn×List Nat:=match sh with
 |0=>([([],.jump 1),(p0,.branch 3 2 3),(p1,.jump 1),oJ],[1,2])
 |1=>([(p0,.branch 3 1 2),(p1,.jump 0),oJ],[0,1])
 |2=>([([],.branch 4 1 2),CF,(p1,.branch 3 2 3),oJ],[2])
 |3=>([([],.table 4 1 2 1 2),CF,(p1,.branch 3 2 3),oJ],[2])
 |_=>([([],.branch 4 1 2),(p1,.branch 3 1 2),oJ],[1])
noncomputable def gH(a b:Int):kt:=[50,1059,4086,a,b,25275,36374,49491,64626,81779,100950,122139]
theorem fw(h:d6 c l m):Fz c (.tup l) (.tup m):=.kids (v:=.tup l) (ys:=m) h TK
theorem ou(h:d6 c l m):Fz c (.list l) (.list m):=.kids (v:=.list l) (ys:=m) h TK
noncomputable def Sj(sh b:Nat):Nat:=match decide (sh<2)with|true=>b%4|false=>1+b%3
theorem qM:∀{p:Nat},δ (dF p ms)=δ ms:=by
 induction ms with
 |nil=>exact rfl
 |cons m ms ih=>exact TL (· +1) ih
theorem PQ:(eV b x s).1.length+(eV b x s).2.length=δ s.1+δ s.2+1:=by
 unfold eV;induction b&&x.1%2==0 with
 |true=>show δ (s.1++[de x.2])+δ s.2=_;exists Δ,cV _ 1 _
 |false=>show δ s.1+δ (s.2++[de x.2])=_;exists Δ;rfl
theorem vx:∀{s:List bv×List bv},(cz b xs s).1.length+(cz b xs s).2.length=δ s.1+δ s.2+δ xs:=by
 induction xs with
 |nil=>exact rfl
 |cons x xs ih=>intro s;show(cz b xs (eV b x s)).1.length+(cz b xs (eV b x s)).2.length=_;rw[ih,PQ,pR,bP,b4 1]
theorem JZ(hr:δ rest<=100)(e:args.map (ul c 8)=[sB (a::b::d::rest)])
  (q:∀P rg,gc (a%5) (cz (decide (a%5<2)) (dF 0 rest) ([],[])).1 ((cz (decide (a%5<2)) (dF 0 rest) ([],[])).2++[u8])=(P,rg)->Q (.tup [wn P,sB rg,zn (gH (Sj (a%5) b) (d%4:Nat))]) c):Ph (n+2) 132 args c Q:=by
 refine TT TK TK e (dl (bq (λ_=>rfl) _) TK) (ξ TK ?_);have hlen:δ ((a::b::d::rest).map λ(i:Nat)=>CV.int i)<=1000:=by exists φ ..;show δ rest+3<=1000;exact κ (dM hr 3) (by decide)
 refine KF hlen (by decide) (FS [0,0,2] TK (ξ hlen ?_):EQ _ _);have hb:decide (((a%5:Nat):Int)<2)=decide (a%5<2):=decide_eq_decide.mpr ⟨λh=>by exact aX.mp h,λh=>by exact aX.mpr h⟩;refine JY (rest:=rest) (sh:=((a%5:Nat):Int)) hb (λ_=>trivial) TK ?_ ?_ η η λo1 o2=>?_
 ·exists vx;exists qM;show 0+0+_<=900;rw[az];exact κ hr (by decide)
 ·exists qM,κ hr (by decide)
 ·have hd:=vx (b:=decide (a%5<2)) (xs:=dF 0 rest) (s:=([],[]));rw[qM]at hd;generalize cz (decide (a%5<2)) (dF 0 rest) ([],[])=F at q hd ⊢;obtain⟨p0,p1⟩:=F;refine(FS [2,2,2,2,4] TK (ξ ?_ (FS [2,1,4,2,1,4,2,2,1,3,2,2,1,2,1,2] TK ?_:EQ _ _)):EQ _ _)
  ·exists φ ..;have T9:δ p0+δ p1=0+0+δ rest:=hd;show δ p1<=1000;exact κ (κ (eZ _ _) (a5 T9)) (by rw[az];exact κ hr (by decide))
  ·refine Lp (k:=12) ⟨by decide,by decide⟩ ?_;have f1:∀{v3 v4:Int},Fz [γ (FB p0),γ (.list (p1.map sK++[sK u8])),γ (.list [.ref 0,.ref 1]),γ (zn (gH v3 v4))] (.ref 0) (.list (p0.map sK)):=jm TK (KM lz _);have f2:∀{v3 v4:Int},Fz [γ (FB p0),γ (.list (p1.map sK++[sK u8])),γ (.list [.ref 0,.ref 1]),γ (zn (gH v3 v4))] (.ref 1) (.list ((p1++[u8]).map sK)):=jm (by exists aj;rfl) (KM lz _);have f3:∀{v3 v4:Int},Fz [γ (FB p0),γ (.list (p1.map sK++[sK u8])),γ (.list [.ref 0,.ref 1]),γ (zn (gH v3 v4))] (.ref 3) (zn (gH v3 v4)):=jm TK (KM (λ_=>rfl) _);have hj:a%5=0\/a%5=1\/a%5=2\/a%5=3\/a%5=4:=(by exact Dl (ef a (by decide)));rcases hj with hj|hj|hj|hj|hj
   ·rw[hj]at q;refine bC (b:=decide (((a%5:Nat):Int)<2)) (by exists hj;rfl) (bN hlen (by decide) hlen (by decide) (FS [2] TK (ξ ⟨by decide,TN TK,TN TK⟩ (ξ ⟨by decide,TN TK,TN TK⟩ ?_)):EQ _ _));refine bC (b:=(((a%5:Nat):Int)==0)) (by exists hj;rfl) (FS [0,0,3,2,2,2,3,2,2,0,3,2,4,2,3] TK (?_):EQ _ _);exact⟨_,fw (.cons (ou (.cons (.solid TK) (.cons (fw (.cons f1 (.cons (.solid TK) .nil))) (.cons (fw (.cons f2 (.cons (.solid TK) .nil))) (.cons (.solid TK) .nil))))) (.cons (.solid TK) (.cons f3 .nil))),dl (lj (gc 0 p0 (p1++[u8])).1) (dl (j6 (gc 0 p0 (p1++[u8])).2) (dl (KM (λ_=>rfl) _) TK)),q _ _ TK⟩
   ·rw[hj]at q;refine bC (b:=decide (((a%5:Nat):Int)<2)) (by exists hj;rfl) (bN hlen (by decide) hlen (by decide) (FS [2] TK (ξ ⟨by decide,TN TK,TN TK⟩ (ξ ⟨by decide,TN TK,TN TK⟩ ?_)):EQ _ _));refine ww (b:=(((a%5:Nat):Int)==0)) (by exists hj;rfl) (bC (b:=(((a%5:Nat):Int)==1)) (by exists hj;rfl) (FS [2,2,3,2,2,0,3,2,3,2,3] TK (?_):EQ _ _));exact⟨_,fw (.cons (ou (.cons (fw (.cons f1 (.cons (.solid TK) .nil))) (.cons (fw (.cons f2 (.cons (.solid TK) .nil))) (.cons (.solid TK) .nil)))) (.cons (.solid TK) (.cons f3 .nil))),dl (lj (gc 1 p0 (p1++[u8])).1) (dl (j6 (gc 1 p0 (p1++[u8])).2) (dl (KM (λ_=>rfl) _) TK)),q _ _ TK⟩
   ·rw[hj]at q;refine ww (b:=decide (((a%5:Nat):Int)<2)) (by exists hj;rfl) (bN hlen (by decide) hlen (by decide) (FS [2] TK (ξ ⟨by decide,TN TK,TN TK⟩ (ξ ⟨by decide,TN TK,TN TK⟩ ?_)):EQ _ _));refine ww (b:=(((a%5:Nat):Int)==0)) (by exists hj;rfl) (ww (b:=(((a%5:Nat):Int)==1)) (by exists hj;rfl) (FS [2] TK (bC (b:=decide (((a%5:Nat):Int)<4)) (by exists hj;rfl) (bC (b:=decide (((a%5:Nat):Int)<4)) (by exists hj;rfl) (FS [2,3,2,2,2,2,4,1,0,3,2] TK (ww (b:=(((a%5:Nat):Int)==4)) (by exists hj;rfl) (bC (b:=(((a%5:Nat):Int)==2)) (by exists hj;rfl) (FS [2,3,0,2,4,1,3] TK (?_):EQ _ _))):EQ _ _))):EQ _ _));exact⟨_,fw (.cons (ou (.cons (.solid TK) (.cons (.solid TK) (.cons (fw (.cons f2 (.cons (.solid TK) .nil))) (.cons (.solid TK) .nil))))) (.cons (.solid TK) (.cons f3 .nil))),dl (lj (gc 2 p0 (p1++[u8])).1) (dl (j6 (gc 2 p0 (p1++[u8])).2) (dl (KM (λ_=>rfl) _) TK)),q _ _ TK⟩
   ·rw[hj]at q;refine ww (b:=decide (((a%5:Nat):Int)<2)) (by exists hj;rfl) (bN hlen (by decide) hlen (by decide) (FS [2] TK (ξ ⟨by decide,TN TK,TN TK⟩ (ξ ⟨by decide,TN TK,TN TK⟩ ?_)):EQ _ _));refine ww (b:=(((a%5:Nat):Int)==0)) (by exists hj;rfl) (ww (b:=(((a%5:Nat):Int)==1)) (by exists hj;rfl) (FS [2] TK (bC (b:=decide (((a%5:Nat):Int)<4)) (by exists hj;rfl) (bC (b:=decide (((a%5:Nat):Int)<4)) (by exists hj;rfl) (FS [2,3,2,2,2,2,4,1,0,3,2] TK (ww (b:=(((a%5:Nat):Int)==4)) (by exists hj;rfl) (ww (b:=(((a%5:Nat):Int)==2)) (by exists hj;rfl) (FS [3,3,3,0,2,4,1,3] TK (?_):EQ _ _))):EQ _ _))):EQ _ _));exact⟨_,fw (.cons (ou (.cons (.solid TK) (.cons (.solid TK) (.cons (fw (.cons f2 (.cons (.solid TK) .nil))) (.cons (.solid TK) .nil))))) (.cons (.solid TK) (.cons f3 .nil))),dl (lj (gc 3 p0 (p1++[u8])).1) (dl (j6 (gc 3 p0 (p1++[u8])).2) (dl (KM (λ_=>rfl) _) TK)),q _ _ TK⟩
   ·rw[hj]at q;refine ww (b:=decide (((a%5:Nat):Int)<2)) (by exists hj;rfl) (bN hlen (by decide) hlen (by decide) (FS [2] TK (ξ ⟨by decide,TN TK,TN TK⟩ (ξ ⟨by decide,TN TK,TN TK⟩ ?_)):EQ _ _));refine ww (b:=(((a%5:Nat):Int)==0)) (by exists hj;rfl) (ww (b:=(((a%5:Nat):Int)==1)) (by exists hj;rfl) (FS [2] TK (ww (b:=decide (((a%5:Nat):Int)<4)) (by exists hj;rfl) (ww (b:=decide (((a%5:Nat):Int)<4)) (by exists hj;rfl) (FS [2,3,2,2,2,2,4,1,0,3,2] TK (bC (b:=(((a%5:Nat):Int)==4)) (by exists hj;rfl) (FS [0,2,3,2,3,1,3] TK (?_):EQ _ _)):EQ _ _))):EQ _ _));exact⟨_,fw (.cons (ou (.cons (.solid TK) (.cons (fw (.cons f2 (.cons (.solid TK) .nil))) (.cons (.solid TK) .nil)))) (.cons (.solid TK) (.cons f3 .nil))),dl (lj (gc 4 p0 (p1++[u8])).1) (dl (j6 (gc 4 p0 (p1++[u8])).2) (dl (KM (λ_=>rfl) _) TK)),q _ _ TK⟩
def Gd(r:bv):Prop:=GM r/\r.dst≠3
theorem ok2{o:mM}{d:Nat}{a b:bl}(ha:eU a)(hb:eU b)(hd:d<12):GM (.bin o d a b):=⟨λx hx=>(ab.mp hx).elim (λe=>e▸ha) λhx=>by have hz:=Θ.mp hx;subst hz;exact hb,aX.mpr hd⟩
theorem pe{d:Nat}(h:d<3):(d:Int)≠3:=by lia
theorem Lq{Rs other:Nat}{ex:Int}{se:Nat}{ev:Bool}(h1:Rs<3)(h2:other<3)(h3:0<ex/\ex<4294967296)(h4:se<12)(kind:Nat):Gd (tc kind Rs other ex se ev):=by
 have Uk:Rs<12:=by exact κ ‹_› (by decide)
 have Vw:other<12:=by exact κ ‹_› (by decide)
 have k:eU (.k ex):=h3;have r1:eU (.r Rs):=Uk
 match kind with
 |0=>exact⟨ok2 r1 k Uk,pe h1⟩
 |1=>exact⟨ok2 r1 k Uk,pe h1⟩
 |2=>exact⟨ok2 k r1 Vw,pe h2⟩
 |3=>exact⟨⟨λx hx=>by have hz:=Θ.mp hx;subst hz;exact Vw,aX.mpr Uk⟩,pe h1⟩
 |4=>exact⟨⟨λx hx=>by have hz:=Θ.mp hx;subst hz;exact k,aX.mpr Uk⟩,pe h1⟩
 |5=>exact⟨ok2 (show 7<12 by decide) (show 8<12 by decide) (by decide),TN TK⟩
 |6=>exact⟨ok2 (show 5<12 by decide) k (by decide),TN TK⟩
 |7=>exact⟨ok2 r1 k (by decide),TN TK⟩
 |8=>exact⟨⟨λx hx=>by have hz:=Θ.mp hx;subst hz;exact h4,TN TK⟩,TN TK⟩
 |9=>
  induction ev with
  |true=>exact⟨ok2 (show 7<12 by decide) k (by decide),TN TK⟩
  |false=>exact⟨ok2 (show 7<12 by decide) (show 8<12 by decide) (by decide),TN TK⟩
 |10=>exact⟨ok2 (show 8<12 by decide) k (by decide),TN TK⟩
 |n+11=>exact⟨ok2 (show 6<12 by decide) (show 7<12 by decide) (by decide),TN TK⟩
theorem PR(i:Nat):0<mI i/\mI i<4294967296:=by
 match i with
 |0=>exact⟨by decide,by decide⟩
 |1=>exact⟨by decide,by decide⟩
 |2=>exact⟨by decide,by decide⟩
 |3=>exact⟨by decide,by decide⟩
 |4=>exact⟨by decide,by decide⟩
 |n+5=>exact⟨by show(0:Int)<2147483648;decide,by show(2147483648:Int)<4294967296;decide⟩
theorem PS{Rs:Nat}(h:Rs<3)(i:Nat):oR Rs i<12:=by
 match i with
 |0=>exact TN TK
 |1=>exact TN TK
 |2=>exact TN TK
 |n+3=>show Rs<12;exact κ ‹_› (by decide)
theorem NH(m:Nat):Gd (de m):=Lq (ef _ (by decide)) (ef _ (by decide)) (PR _) (PS (ef _ (by decide)) _) _
theorem Lr:∀{s:List bv×List bv},(∀r∈s.1,Gd r)->(∀r∈s.2,Gd r)->(∀r∈(cz b xs s).1,Gd r)/\∀r∈(cz b xs s).2,Gd r:=by
 induction xs with
 |nil=>exact λh1 h2=>⟨h1,h2⟩
 |cons x xs ih=>
  intro s h1 h2;have app:∀{l:List bv},(∀r∈l,Gd r)->∀r∈l++[de x.2],Gd r:=λhl r hr=>(aw.mp hr).elim (hl r) λhr=>by have hz:=Θ.mp hr;subst hz;exact NH _
  show(∀r∈(cz b xs (eV b x s)).1,Gd r)/\∀r∈(cz b xs (eV b x s)).2,Gd r;unfold eV;induction b&&x.1%2==0 with
  |true=>exact ih (app h1) h2
  |false=>exact ih h1 (app h2)
theorem B5(h3:0<=v3/\v3<4294967296)(h4:0<=v4/\v4<4294967296):v1 (gH v3 v4):=by
 refine⟨rfl,λx hx=>?_⟩;have all:∀y∈[(50:Int),1059,4086,25275,36374,49491,64626,81779,100950,122139],0<=y/\y<4294967296:=by decide
 unfold gH at hx;simp only[ab,t9,or_false]at hx;rcases hx with h|h|h|h|h|h|h|h|h|h|h|h
 ·exists h;decide
 ·exists h;decide
 ·exists h;decide
 ·exists h,h3
 ·exists h,h4
 ·exists h;decide
 ·exists h;decide
 ·exists h;decide
 ·exists h;decide
 ·exists h;decide
 ·exists h;decide
 ·exists h;decide
theorem Sk:lk a b x=x\/lk a b x=b:=by
 unfold lk;cases(x:Int)==(a:Int)with
 |true=>exact .inr TK
 |false=>exact .inl TK
theorem B6:lk a b a=b:=by unfold lk;exists TJ ..,TK
theorem NI(h:x≠a):lk a b x=x:=by unfold lk;exists(show((x:Int)==(a:Int))=ζ from TO.mpr λe=>h (aW e)),TK
theorem NJ(hk:(b0::tl)[b]? =γ k):(bU (b0::tl))[lk 0 (δ tl+1) b]? =γ (eP (lk 0 (δ tl+1)) k):=by
 induction b using b5 with
 |zero=>refine ac B6 ?_;replace hk:=ω hk;subst hk;show((tl++[b0]).map _)[δ tl]? =_;exists aA;exists xa;rfl
 |succ b=>refine ac (NI (t8 b)) ?_;have XK:tl[b]? =γ k:=hk;show((tl++[b0]).map _)[b]? =_;exists aA;exists pv (ay.mp XK).1;exists XK;rfl
theorem Ls:pa (b0::tl) (bU (b0::tl)) (lk 0 (δ tl+1)):=⟨λb rs e hk=>⟨_,NJ hk,λt _=>.inl TK⟩⟩
theorem u_(hk:k∈bU (b0::tl)):k=([],.jump (δ tl+1))\/∃q∈b0::tl,k=eP (lk 0 (δ tl+1)) q:=by
 rcases ab.mp hk with e|hk
 ·exact .inl e
 ·obtain⟨q,hq,e⟩:=au.mp hk;refine .inr ⟨q,?_,e.symm⟩;rcases aw.mp hq with m|m
  ·exact .tail _ m
  ·have hz:=Θ.mp m;subst hz;exact .head _
theorem Lu:(fG f e).args=e.args:=by induction e<;>rfl
theorem NK(h:bE (b0::tl))(hl:δ tl<=900):bE (bU (b0::tl)):=by
 refine⟨λk hk=>?_,λk hk t ht=>?_,by exists qJ;exact bS _,by exists qJ,κ (bZ (bZ ‹_›)) (by decide)⟩
 ·rcases u_ hk with rfl|⟨q,hq,rfl⟩
  ·exact⟨λr hr=>(nomatch hr),λa ha=>(nomatch ha)⟩
  ·refine⟨(h.b q hq).1,?_⟩;show ∀a∈(fG _ q.2).args,eU a;exists Lu,(h.b q hq).2
 ·exists qJ;rcases u_ hk with rfl|⟨q,hq,rfl⟩
  ·have hz:=Θ.mp ht;subst hz;exact cY _
  ·have ht':t∈(fG (lk 0 (δ tl+1)) q.2).succ:=ht;rw[Ag]at ht';obtain⟨u,hu,rfl⟩:=au.mp ht';have:u<δ tl+1:=h.s q hq u hu;rcases Sk (a:=0) (b:=δ tl+1) (x:=u)with e|e<;>refine ac e ?_<;>lia
theorem zD(p:IR (b0::tl) 0 H π a):∃π',IR (bU (b0::tl)) 0 H π' a/\GE (bU (b0::tl)) π'=GE (b0::tl) π/\δ π'<=2*δ π:=by obtain⟨π',h1,h2,h3⟩:=qX Ls p;rw[B6]at h1;refine⟨0::π',.step (e:=.jump (δ tl+1)) (rs:=[]) TK (λa e=>nomatch e) h1,?_,h3⟩;exists Pi;exists h2;rfl
theorem tf{a x y:Nat}{h:kt}(e:at' h a=0):next (.branch a x y) h=y:=by show(match decide (at' h a=0)with|true=>y|false=>x)=y;exists TR e,TK
theorem tg{a x y:Nat}{h:kt}(e:at' h a≠0):next (.branch a x y) h=x:=by show(match decide (at' h a=0)with|true=>y|false=>x)=x;exists TS e,TK
theorem gd{l:List bv}(h:∀r∈l,Gd r):∀r∈l,GM r:=λr hr=>(h r hr).1
theorem sV{l:List bv}(h:∀r∈l,Gd r){H:kt}(hH:v1 H):at' (lm l H) 3=at' H 3:=lR hH (gd h) λr hr=>(h r hr).2
theorem vI:GM u8:=ok2 (show 3<12 by decide) (show 0<(1:Int)/\(1:Int)<4294967296 by decide) (by decide)
theorem wD{l:List bv}(h:∀r∈l,Gd r){H:kt}(hH:v1 H){f:Nat}(hf:at' H 3=(f:Int)+1)(hl:f<=3):at' (lm (l++[u8]) H) 3=f/\v1 (lm (l++[u8]) H):=by
 have h1:=fh hH (gd h);exists bT;refine⟨?_,jl h1 vI⟩;show at' (SL (lm l H) u8) 3=_;exists(eG h1 vI 3).1 TK;show(at' (lm l H) 3 - 1)%4294967296=_;exists sV h hH;exists hf
 (rw[pK];exact FN (aE f) (DM (κ hl (by decide))).2)
theorem Dh{P:List bn}{hb bb lb:Nat}{p0 p1 rl:List bv}(e1:P[hb]? =γ (p0,.branch 3 bb lb))(e2:P[bb]? =γ (p1++[u8],.jump hb))(e3:P[lb]? =γ (rl,.give 2))(g0:∀r∈p0,Gd r)(g1:∀r∈p1,Gd r):∀(f:Nat) (H:kt),v1 H->at' H 3=f->f<=3->∃π,IR P hb H π 2/\δ π=2*f+2:=by
 intro f;induction f with
 |zero=>intro H hH h3 _;exact⟨[hb,lb],.step e1 (λa e=>nomatch e) (by exists tf ((sV g0 hH).trans h3),.done e3),rfl⟩
 |succ f ih=>intro H hH h3 hl;have h1:=fh hH (gd g0);have k3:at' (lm p0 H) 3=(f:Int)+1:=(sV g0 hH).trans h3;obtain⟨d1,d2⟩:=wD g1 h1 k3 (gr ‹_›);obtain⟨π,q1,q2⟩:=ih _ d2 d1 (gr ‹_›);refine⟨hb::bb::π,.step e1 (λa e=>nomatch e) ?_,by show δ π+1+1=_;exact TL (· +1+1) q2⟩;exists tg (by rw[k3];exact qd (pG (aE f))),.step e2 (λa e=>nomatch e) q1
theorem Di{P}{hb lb}{p1 rl}(e1:P[hb]? =γ (p1++[u8],.branch 3 hb lb))(e3:P[lb]? =γ (rl,.give 2))(g1:∀r∈p1,Gd r):∀(f:Nat) (H:kt),v1 H->at' H 3=(f:Int)+1->f<=3->∃π,IR P hb H π 2/\δ π=f+2:=by
 intro f;induction f with
 |zero=>intro H hH h3 hl;obtain⟨d1,d2⟩:=wD g1 hH h3 hl;exact⟨[hb,lb],.step e1 (λa e=>nomatch e) (by exists tf d1,.done e3),rfl⟩
 |succ f ih=>intro H hH h3 hl;obtain⟨d1,d2⟩:=wD g1 hH h3 hl;obtain⟨π,q1,q2⟩:=ih _ d2 d1 (gr ‹_›);refine⟨hb::π,.step e1 (λa e=>nomatch e) ?_,by show δ π+1=_;exact TL Nat.succ ‹_›⟩;exists tg (by rw[d1];exact qd (pG (aE f))),q1
noncomputable def f6:List bv:=[.bin .add 0 (.r 0) (.k 3)]
noncomputable def bg:List bv:=[.call (.r 0),.call (.r 5)]
noncomputable def S0(p0 p1:List bv):List bn:=[([],.jump 1),(p0,.branch 3 2 3),(p1,.jump 1),(bg,.give 2)]
noncomputable def S1(p0 p1:List bv):List bn:=[(p0,.branch 3 1 2),(p1,.jump 0),(bg,.give 2)]
noncomputable def S2(p1:List bv):List bn:=[([],.branch 4 1 2),(f6,.jump 2),(p1,.branch 3 2 3),(bg,.give 2)]
noncomputable def S3(p1:List bv):List bn:=[([],.table 4 1 2 1 2),(f6,.jump 2),(p1,.branch 3 2 3),(bg,.give 2)]
noncomputable def S4(p1:List bv):List bn:=[([],.branch 4 1 2),(p1,.branch 3 1 2),(bg,.give 2)]
noncomputable def T1(p0 p1:List bv):List bn:=[([],.jump 3),(p1,.jump 3),(bg,.give 2),(p0,.branch 3 1 2)]
noncomputable def T2(p1:List bv):List bn:=[([],.branch 4 1 4),(f6,.jump 4),(p1,.branch 3 2 3),(bg,.give 2),([],.jump 2)]
noncomputable def T3(p1:List bv):List bn:=[([],.table 4 1 4 1 4),(f6,.jump 4),(p1,.branch 3 2 3),(bg,.give 2),([],.jump 2)]
noncomputable def T4(p1:List bv):List bn:=[([],.branch 4 3 2),(p1,.branch 3 1 2),(bg,.give 2),([],.jump 1)]
theorem lU:∀r∈f6,Gd r:=λr hr=>by have hz:=Θ.mp hr;subst hz;exact⟨ok2 (show 0<12 by decide) (show 0<(3:Int)/\(3:Int)<4294967296 by decide) (by decide),by decide⟩
theorem Sl{p0 p1:List bv}(g0:∀r∈p0,Gd r)(g1:∀r∈p1,Gd r){f:Nat}{H:kt}(hH:v1 H)(h3:at' H 3=f)(hf:f<=3):∃π,IR (S0 p0 (p1++[u8])) 0 H π 2/\δ π<=9:=by obtain⟨π,q1,q2⟩:=Dh (P:=S0 p0 (p1++[u8])) (hb:=1) (bb:=2) (lb:=3) (rl:=bg) TK TK TK g0 g1 f H hH h3 hf;exact⟨0::π,.step (rs:=[]) (e:=.jump 1) TK (λa e=>nomatch e) q1,by show δ π+1<=9;(rw[q2];exact dM (d8 2 hf) 3)⟩
theorem Sm{p0 p1:List bv}(g0:∀r∈p0,Gd r)(g1:∀r∈p1,Gd r){f:Nat}{H:kt}(hH:v1 H)(h3:at' H 3=f)(hf:f<=3):∃π,IR (S1 p0 (p1++[u8])) 0 H π 2/\δ π<=9:=by obtain⟨π,q1,q2⟩:=Dh (P:=S1 p0 (p1++[u8])) (hb:=0) (bb:=1) (lb:=2) (rl:=bg) TK TK TK g0 g1 f H hH h3 hf;exact⟨π,q1,by(rw[q2];exact κ (dM (d8 2 hf) 2) (by decide))⟩
theorem CG{p1:List bv}{e:Id}(g1:∀r∈p1,Gd r)(he:∀a,e≠.give a){f:Nat}{H:kt}(hH:v1 H)(hn:next e H=1\/next e H=2)(h3:at' H 3=(f:Int)+1)(hf:f<=2):∃π,IR [([],e),(f6,.jump 2),(p1++[u8],.branch 3 2 3),(bg,.give 2)] 0 H π 2/\δ π<=9:=by
 have L:=Di (P:=[([],e),(f6,.jump 2),(p1++[u8],.branch 3 2 3),(bg,.give 2)]) (hb:=2) (lb:=3) (rl:=bg) TK TK g1 f;rcases hn with hn|hn
 ·obtain⟨π,q1,q2⟩:=L (lm f6 H) (fh hH (gd lU)) ((sV lU hH).trans h3) (κ ‹_› (by decide));refine⟨0::1::π,.step (rs:=[]) (e:=e) TK he ?_,by show δ π+1+1<=9;(rw[q2];exact κ (dM hf 4) (by decide))⟩;show IR _ (next e H) H _ 2;exists hn,.step (rs:=f6) (e:=.jump 2) TK (λa e=>nomatch e) q1
 ·obtain⟨π,q1,q2⟩:=L H hH h3 (κ ‹_› (by decide));refine⟨0::π,.step (rs:=[]) (e:=e) TK he ?_,by show δ π+1<=9;(rw[q2];exact κ (dM hf 3) (by decide))⟩;show IR _ (next e H) H _ 2;exists hn,q1
theorem Sn{p1:List bv}(g1:∀r∈p1,Gd r){f:Nat}{H:kt}(hH:v1 H)(h3:at' H 3=(f:Int)+1)(hf:f<=2):∃π,IR (S4 (p1++[u8])) 0 H π 2/\δ π<=9:=by
 by_cases h4:at' H 4=0
 ·refine⟨[0,2],.step (rs:=[]) (e:=.branch 4 1 2) TK (λa e=>nomatch e) ?_,by decide⟩;show IR _ (next (.branch 4 1 2) H) H _ 2;exists tf h4,.done (rs:=bg) TK
 ·obtain⟨π,q1,q2⟩:=Di (P:=S4 (p1++[u8])) (hb:=1) (lb:=2) (rl:=bg) TK TK g1 f H hH h3 (κ ‹_› (by decide));refine⟨0::π,.step (rs:=[]) (e:=.branch 4 1 2) TK (λa e=>nomatch e) ?_,by show δ π+1<=9;(rw[q2];exact κ (dM hf 3) (by decide))⟩;show IR _ (next (.branch 4 1 2) H) H _ 2;exists tg h4,q1
section
noncomputable def pg(t n:Nat):Bool:=iz (t+1) n
theorem rK{t n:Nat}(h:pg t n=ε):t<n:=pC h
noncomputable def SQ(P:List bn):Bool:=P.all λb=>b.2.succ.all λt=>pg t (δ P)
noncomputable def SR(P:List bn)(rg:List Nat)(ah:Nat):Bool:=(ax (δ P)).all λb=>rg.contains b || (wr P b).all λt=> !rg.contains t || ae b ah
noncomputable def SS(P:List bn)(ml:List Nat):Bool:=ml.all λb=>(wr P b).all λt=>ml.contains t
noncomputable def SU(e:Id):Bool:=match e with|.give _=>ε|.jump _=>ε|.branch a _ _=>ae a 3|.table _ _ _ _ _=>ζ
noncomputable def SV(P:List bn)(ml:List Nat):Bool:=ml.all λb=>match P[b]? with|some k=>SU k.2|none=>ε
noncomputable def Sp(e:Id):Bool:=e.args.all λa=>match a with|.r n=>pg n 12|.k _=>ζ
noncomputable def SW(P:List bn):Bool:=P.all λb=>Sp b.2
theorem fA{α:Type}{l:List α}{p:α->Bool}(h:l.all p=ε):∀a∈l,p a=ε:=cg.mp h
theorem iC{P:List bn}(hr:∀b∈P,∀r∈b.1,GM r)(cs:SQ P=ε)(ca:SW P=ε)(hz:0<δ P)(hl:δ P<=1000):bE P:=
 ⟨λb hb=>⟨hr b hb,λa ha=>by
  have:=fA (fA ca b hb) a ha;induction a with
  |r n=>exact rK this
  |k i=>exact Db this⟩,λb hb t ht=>rK (fA (fA cs b hb) t ht),hz,hl⟩
theorem oK{P}{rg bs tl ml}{h ah}(ok:bE P)(ring:kM h rg bs tl)(perm:bs.Perm rg)(nd:bs.Nodup)(rl:δ rg<=10)(lt:rg.all (λa=>pg a (δ P))=ε)(hh:rg.contains h=ε)(ahj:∃Uu,P[ah]? =γ (Uu,.jump h))(hna:rg.contains ah=ζ)(z:rg.contains 0=ζ)
  (c1:SR P rg ah=ε) (c2:SS P ml=ε) (c3:SV P ml=ε) (cr:rg.all (λa=>ml.contains a)=ε) (ca:ml.contains ah=ζ) (mo:∀b∈ml,rg.contains b=ζ->re P b=bg) (d3:∀b∈rg,∀r∈re P b,Gd r\/r=u8) (rows:∀b∈P,δ b.1<=25):Fin P rg bs tl h ah (· ∈ml):=by
 have no:∀{l:List Nat} {x:Nat},l.contains x=ζ->¬x∈l:=λe m=>by rw[ak.mpr m]at e;exact eH e
 have so:∀{b t:Nat},t∈wr P b->b<δ P:=λ{b t} m=>by
  unfold wr at m;cases e:P[b]? with
  |none=>rw[e]at m;cases m
  |some k=>exact(ay.mp e).1
 refine⟨ok,ring,perm,nd,rl,λa ha=>rK (fA lt a ha),ak.mp hh,ahj,no hna,no z,λb hb t ht hr=>?_,λb hb=>ak.mp (fA cr b hb),λb hb t ht=>ak.mp (fA (fA c2 b hb) t ht),no ca,λb hb hr r hm=>?_,λb rs e hb hk he x hx=>?_,λb hb r hr hd=>?_,rows⟩
 ·have h1:=fA c1 b (fQ.mpr (so ht));rw[nq hb,p9]at h1;have h2:=fA h1 t ht;rw[ak.mpr hr]at h2;exact aU h2
 ·rw[mo b hb (nq hr)]at hm;rcases ab.mp hm with e|hm
  ·exists e;rfl
  ·have hz:=Θ.mp hm;subst hz;rfl
 ·have h1:=fA c3 b hb;rw[hk]at h1;induction e with
  |give a=>exact absurd TK (he a)
  |jump t=>cases hx
  |branch a y z=>have hz:=Θ.mp hx;subst hz;exact aU h1
  |table a y z u o=>exact Db h1
 ·rcases d3 b hb r hr with g|e
  ·exact absurd hd g.2
  ·exists e,.head _
theorem lG(g1:∀r∈p1,Gd r):∀r∈p1++[u8],Gd r\/r=u8:=λr hr=>(aw.mp hr).elim (λm=>.inl (g1 r m)) λm=>.inr (Θ.mp m)
theorem ix{p1:List bv}(g1:∀r∈p1,Gd r):∀r∈p1++[u8],GM r:=λr hr=>(lG g1 r hr).elim (λg=>g.1) λe=>e▸vI
theorem iy:∀r∈bg,GM r:=λr hr=>by
 rcases ab.mp hr with e|hr
 ·exists e;exact⟨λa ha=>by have hz:=Θ.mp ha;subst hz;exact(show 0<12 by decide),by decide⟩
 ·have hz:=Θ.mp hr;subst hz;exact⟨λa ha=>by have hz:=Θ.mp ha;subst hz;exact(show 5<12 by decide),by decide⟩
theorem ut{p:bn->Prop}{a:bn}{l:List bn}(h:p a)(k:∀b∈l,p b):∀b∈a::l,p b:=tN.mpr ⟨h,k⟩
theorem cK{p:bn->Prop}:∀b∈([]:List bn),p b:=λb hb=>nomatch hb
theorem f7:∀r∈([]:List bv),GM r:=λr hr=>nomatch hr
theorem n1{p:Nat->Prop}{a:Nat}{l:List Nat}(h:p a)(k:∀b∈l,p b):∀b∈a::l,p b:=tN.mpr ⟨h,k⟩
theorem n0{p:Nat->Prop}:∀b∈([]:List Nat),p b:=λb hb=>nomatch hb
theorem iu(h:δ p1<=20):δ (p1++[u8])<=25:=by exists Δ;show δ p1+1<=25;exact aR ‹_› (by decide)
theorem n9(hd:rg[0]? =γ h)(set:ofL (rg.map λ(i:Nat)=>(i:Int))=bs.map λ(i:Nat)=>(i:Int))(ok:bs.all (λb=>pg b 12)=ε)(hl:δ bs<=14)(tl':fI (rg.map λ(i:Nat)=>CV.int i) (-1)=tl.map λ(i:Nat)=>CV.int i)(len:δ rg<=900):kM h rg bs tl:=
 ⟨hd,set,⟨by exists φ ..;exact hl,λx hx=>by obtain⟨b,hb,rfl⟩:=au.mp hx;have:=rK (fA ok b hb);exact⟨jZ (by decide) (aE _),d_.mpr (gr this)⟩⟩,tl',len⟩
variable {p0 p1:List bv}
theorem kN(g0:∀r∈p0,Gd r)(g1:∀r∈p1,Gd r)(l0:δ p0<=20)(l1:δ p1<=20):Fin (S0 p0 (p1++[u8])) [1,2] [1,2] [2] 1 0 (· ∈[1,2,3]):=
 oK (iC (ut f7 (ut (gd g0) (ut (ix g1) (ut iy cK)))) TK TK (TN TK) (an TK)) (n9 TK TK TK (an TK) TK (an TK)) (.refl _) (by decide) (an TK) TK TK ⟨_,rfl⟩ TK TK TK TK TK TK TK (n1 (λe=>nomatch e) (n1 (λe=>nomatch e) (n1 (λ_=>rfl) n0))) (n1 (λr hr=>.inl (g0 r hr)) (n1 (lG g1) n0)) (ut (an TK) (ut (by show δ p0<=25;exact κ ‹_› (by decide)) (ut (iu l1) (ut (an TK) cK))))
theorem SX(g0:∀r∈p0,Gd r)(g1:∀r∈p1,Gd r)(l0:δ p0<=20)(l1:δ p1<=20):Fin (T1 p0 (p1++[u8])) [3,1] [1,3] [1] 3 0 (· ∈[3,1,2]):=
 oK (iC (ut f7 (ut (ix g1) (ut iy (ut (gd g0) cK)))) TK TK (TN TK) (an TK)) (n9 TK TK TK (an TK) TK (an TK)) (.swap _ _ _) (by decide) (an TK) TK TK ⟨_,rfl⟩ TK TK TK TK TK TK TK (n1 (λe=>nomatch e) (n1 (λe=>nomatch e) (n1 (λ_=>rfl) n0))) (n1 (λr hr=>.inl (g0 r hr)) (n1 (lG g1) n0)) (ut (an TK) (ut (iu l1) (ut (an TK) (ut (by show δ p0<=25;exact κ ‹_› (by decide)) cK))))
theorem SY(g1:∀r∈p1,Gd r)(l1:δ p1<=20):Fin (T2 (p1++[u8])) [2] [2] [2] 2 4 (· ∈[2,3]):=
 oK (iC (ut f7 (ut (gd lU) (ut (ix g1) (ut iy (ut f7 cK))))) TK TK (TN TK) (an TK)) (n9 TK TK TK (an TK) TK (an TK)) (.refl _) (by decide) (an TK) TK TK ⟨_,rfl⟩ TK TK TK TK TK TK TK (n1 (λe=>nomatch e) (n1 (λ_=>rfl) n0)) (n1 (lG g1) n0) (ut (an TK) (ut (an TK) (ut (iu l1) (ut (an TK) (ut (an TK) cK)))))
theorem S5(g1:∀r∈p1,Gd r)(l1:δ p1<=20):Fin (T3 (p1++[u8])) [2] [2] [2] 2 4 (· ∈[2,3]):=
 oK (iC (ut f7 (ut (gd lU) (ut (ix g1) (ut iy (ut f7 cK))))) TK TK (TN TK) (an TK)) (n9 TK TK TK (an TK) TK (an TK)) (.refl _) (by decide) (an TK) TK TK ⟨_,rfl⟩ TK TK TK TK TK TK TK (n1 (λe=>nomatch e) (n1 (λ_=>rfl) n0)) (n1 (lG g1) n0) (ut (an TK) (ut (an TK) (ut (iu l1) (ut (an TK) (ut (an TK) cK)))))
theorem S6(g1:∀r∈p1,Gd r)(l1:δ p1<=20):Fin (T4 (p1++[u8])) [1] [1] [1] 1 3 (· ∈[1,2]):=
 oK (iC (ut f7 (ut (ix g1) (ut iy (ut f7 cK)))) TK TK (TN TK) (an TK)) (n9 TK TK TK (an TK) TK (an TK)) (.refl _) (by decide) (an TK) TK TK ⟨_,rfl⟩ TK TK TK TK TK TK TK (n1 (λe=>nomatch e) (n1 (λ_=>rfl) n0)) (n1 (lG g1) n0) (ut (an TK) (ut (iu l1) (ut (an TK) (ut (an TK) cK))))
end
theorem J0{l m:List Ix}(e:l.map (λa=>a.2.2)=m.map (λa=>a.2.2)):bx l=bx m:=by
 have k:∀l:List Ix,bx l=((l.map λa=>a.2.2).filter λx:bv×Int×Int=>match x.1 with|.call _=>ε|_=>ζ).map λx=>x.2.2:=λl=>by
  induction l with
  |nil=>rfl
  |cons a l ih=>
   obtain⟨x1,x2,r,x4,x5⟩:=a;induction r with
   |call a=>exact TL (x5::·) ih
   |_=>exact ih
 exists k l,ac (k m) (ac e TK)
theorem HG{n:Nat}{rs:List bv}:∀{p:Nat},(GT n p rs).Nodup:=by
 induction rs with
 |nil=>exact ui
 |cons r rs ih=>intro p;refine dO.mpr ⟨λm=>?_,ih⟩;obtain⟨_,i,e,_⟩:=zA.mp m;have:p=p+1+i:=e;lia
theorem IH{P:List bn}{bs:List Nat}(h:bs.Nodup):(xz P bs).Nodup:=by
 induction bs with
 |nil=>exact ui
 |cons b bs ih=>obtain⟨h1,h2⟩:=dO.mp h;show(GT b 0 (re P b)++xz P bs).Nodup;refine cL.mpr ⟨HG,ih h2,λx hx y hy e=>?_⟩;subst e;have:=(qL.mp hx).1;exact h1 (this▸(Aj.mp hy).1)
noncomputable def Dj:Ss:=(.cons (.g (.name 77) (.call 159 (.cons (.l 63) (.cons (.l 122) (.cons (.l 146) (.cons (.l 142) (.cons (.l 69) .nil)))))))
 (.cons (.ife (.or (.cmp .lt (.l 77) (.i (.int 0))) (.cons (.not (.call 168 (.cons (.l 63) (.cons (.l 122) (.cons (.l 77) (.cons (.l 146) (.cons (.l 142) (.cons (.l 69) .nil)))))))) .nil)) (.cons (.ret (.i (.bool ζ)))
 .nil) .nil)
 (.cons (.ret (.call 173 (.cons (.l 63) (.cons (.l 122) (.cons (.sub (.call 147 (.cons (.call 137 (.cons (.l 63) .nil)) (.cons (.l 146) .nil))) (.i (.int 0))) .nil)))))
 .nil)))
theorem S7{f:CV->CV}{a b c d e g a' b' c' d' e' g':CV}(h1:f a=a')(h2:f b=b')(h3:f c=c')(h4:f d=d')(h5:f e=e')(h6:f g=g'):[a,b,c,d,e,g].map f=[a',b',c',d',e',g']:=by refine io h1 (io h2 (io h3 (io h4 (io h5 (io h6 ?_)))));rfl
structure mz(Pm Pa:List bn) (rg bs tl os:List Nat) (h num:Nat) (ith:Bool) (M:Nat->Prop):Prop where
 ok:bE Pm
 len:δ Pm<=6
 len':δ Pa<=6
 rows:∀b∈Pm,δ b.1<=25
 fin:Fin Pa rg bs tl h num M
 reach:∀l,td Pa l->∀b,b<δ Pa->b∈l
 ho:wh Pm h bs=os
 ho':(ax (δ Pm)).filter (d5 Pm rg h)=os
 hc:(∃o rs t,os=[o]/\Pm[o]? =γ (rs,.jump t)/\Pa=Pm/\num=o/\ith=ε)\/((∀o,os=[o]->∃rs e,Pm[o]? =γ (rs,e)/\(e.word==48)=ζ)/\Pa=os.foldl (iP (lk h (δ Pm))) (Pm++[([],.jump h)])/\num=δ Pm/\ith=ζ)
 ahd:w9 Pm Pa h num rg os ith
theorem nP{n fl:Nat}{c:ad}{N C:L->ad->Prop}{R:CV->ad->Prop}{Pm Pa:List bn}{rg bs tl os:List Nat}{h num:Nat}{ith:Bool}{M:Nat->Prop}{H:kt}{π:List Nat}{tr:List Ix}{g:Int}{o1 o2 o3 o4:Option CV}(hR:∀c,R (.bool ε) c)(S:mz Pm Pa rg bs tl os h num ith M)
  (hH:v1 H) (p:IR Pa 0 H π 2) (UX:δ π<=24) (ht:δ tr<=1000) (Xh:f_ (GE Pa π) H=tr.map λa=>a.2.2) (hg:at' (lm (GE Pa π) H) 2=g):
  fn (Ph (n+5)) Dj fl [(174,o1),(89,o2),(129,o3),(122,γ (sB rg)),(146,γ (zn H)),(142,γ (AT tr)),(69,γ (.int g)),(63,γ (.inst 2 (.ref (δ c)))),(36,o4),(77,η)] (c++rc (δ c) Pm) N C R:=by
 have F:=S.fin;have Wg:=nF p UX;have VF:(wP Pa 24 0 H).1.length<=1000:=by exists Wg;refine κ (il F.rows) ?_;exact κ (dN 25 UX) (by decide)
 have h2:(wP Pa 24 0 H).1.map (·.2.2)=tr.map (·.2.2):=by exists Wg,hV.trans Xh
 have hsn:bx tr=bw (GE Pa π) H:=by have:bx (Os Pa π H)=bx tr:=J0 (hV.trans Xh);exact io this (ac Ac TK)
 have hb:∀k∈bs,k<δ Pa:=λk hk=>F.lt k (F.perm.mem_iff.mp hk);have VK:δ bs<=10:=by exists F.perm.length_eq,F.rl
 have UH:∀t∈xz Pa bs,mR Pa t:=λt ht=>⟨F.lt _ (F.mem.mp ht).1,(F.mem.mp ht).2,F.okr ht⟩;have VE:∀k,δ (re Pa k)<=25:=λk=>by
  unfold re;cases e:Pa[k]? with
  |none=>exact cN _
  |some b=>exact F.rows b (av e)
 have VJ:δ (xz Pa bs)<=400:=by refine κ (vv (m:=25) λk _=>by exists y_,VE k) (κ (dN 25 VK) (by decide))
 have hl2:δ (dz Pa rg)<=1000:=κ (vv (m:=25) λk _=>VE k) (κ (dN 25 F.rl) (by decide));obtain⟨Uu,Va⟩:=F.ahj;have hahl:=(ay.mp Va).1;have YA:=S.len';have hlen:=S.len;have hh:h<δ Pm:=by obtain⟨_,q⟩:=S.ahd.hsame h F.hh;exact q
 refine Hg (n:=n) (bs:=bs) (tl:=tl) (os:=os) (ith:=ith) (h:=h) (num:=num) (P:=Pm) (P':=Pa) (κ ‹_› (by decide)) S.ok.s hh (λk hk=>κ (S.rows k hk) (by decide)) F.ring S.ho S.ho' S.hc S.ahd F.ok (λk hk=>κ (F.rows k hk) (by decide)) hH VF ht (by exists Wg,hg) h2 ?_;refine IG (n:=n) (P:=Pa) (rg:=rg) (bs:=bs) (tl:=tl) (h:=h) (ah:=num) (H:=H) (tr:=tr) (g:=g) (Pl YA F.ok S.reach) F.ok (κ ‹_› (by decide)) (λk hk=>κ (F.rows k hk) (by decide)) F.ring (F.lt h F.hh) hb F.lt hahl (nq F.hna) VJ (IH F.nd) hl2 UH hH VF ht (S7 ic (by rfl) (by rfl) (by rfl) (by rfl) (by rfl)) (λfnd V7=>F.ledOk V7 hH p UX hsn hg) ?_;refine ka (P:=Pa) F.ok.l (λk hk=>κ (F.rows k hk) (by decide)) (kL ic) ?_;refine n7 (P:=Pa) (h:=H) (X:=zn H) F.ok hH VF (iJ (by rfl) (by rfl)) TK (jg H) (ξ (an TK) ?_);refine IF (n:=n+1) (P:=Pa) (rg:=rg) (bs:=bs) (tl:=tl) (h:=h) (tr:=(wP Pa 24 0 H).1) F.ok (κ ‹_› (by decide)) (λk hk=>κ (F.rows k hk) (by decide)) F.ring hb F.lt (κ ‹_› (by decide)) hl2 UH (λr hr=>?_) VF (wX ic (by rfl) (by rfl)) (λS' hS=>?_) (hR _)
 ·obtain⟨k,hk,hr⟩:=q7.mp hr;exact kn F.ok.b hr
 ·exists Wg,F.cntOk hH hS
section
variable {p0 p1:List bv}
theorem tv{p:Nat->Prop}(h0:p 0)(h1:p 1)(h2:p 2)(h3:p 3):∀b,b<4->p b
 |0,_=>h0
 |1,_=>h1
 |2,_=>h2
 |3,_=>h3
theorem DZ{p:Nat->Prop}(h0:p 0)(h1:p 1)(h2:p 2)(h3:p 3)(h4:p 4):∀b,b<5->p b
 |0,_=>h0
 |b+1,k=>tv (p:=λb=>p (b+1)) h1 h2 h3 h4 b (xo k)
theorem D1{α β:Type}{p:Nat->α->β->Prop}{a b c:α×β}(h0:p 0 a.1 a.2)(h1:p 1 b.1 b.2)(h2:p 2 c.1 c.2):∀i x y,[a,b,c][i]? =γ (x,y)->p i x y:=by
 intro i x y h;have hi:i<3:=(ay.mp h).1
 match i,h with
 |0,h=>have h:=ω h;subst h;exact h0
 |1,h=>have h:=ω h;subst h;exact h1
 |2,h=>have h:=ω h;subst h;exact h2
theorem D2{α β:Type}{p:Nat->α->β->Prop}{a b c d:α×β}(h0:p 0 a.1 a.2)(h1:p 1 b.1 b.2)(h2:p 2 c.1 c.2)(h3:p 3 d.1 d.2):∀i x y,[a,b,c,d][i]? =γ (x,y)->p i x y:=by
 intro i x y h;induction i using b5 with
 |zero=>have h:=ω h;subst h;exact h0
 |succ i=>exact D1 (p:=λi=>p (i+1)) h1 h2 h3 i x y h
theorem cQ(h:td P l)(hb:b∈l)(ht:t∈wr P b):t∈l:=h.cl b hb t ht
theorem Rb(g0:∀r∈p0,Gd r)(g1:∀r∈p1,Gd r)(l0:δ p0<=20)(l1:δ p1<=20):mz (S0 p0 (p1++[u8])) (S0 p0 (p1++[u8])) [1,2] [1,2] [2] [0] 1 0 ε (· ∈[1,2,3]):=by have F:=kN g0 g1 l0 l1;refine⟨F.ok,an TK,an TK,F.rows,F,λl hp b hb=>?_,rfl,rfl,.inl ⟨0,[],1,rfl,rfl,rfl,rfl,rfl⟩,⟨.inl ⟨rfl,rfl,rfl⟩,rfl,⟨[],rfl⟩,n1 ⟨rfl,an TK⟩ (n1 ⟨rfl,an TK⟩ n0)⟩⟩;have h1:=cQ hp hp.z (t:=1) (.head _);exact tv hp.z h1 (cQ hp h1 (.head _)) (cQ hp h1 (.tail _ (.head _))) b hb
theorem Rc(g0:∀r∈p0,Gd r)(g1:∀r∈p1,Gd r)(l0:δ p0<=20)(l1:δ p1<=20):mz (T1 p0 (p1++[u8])) (T1 p0 (p1++[u8])) [3,1] [1,3] [1] [0] 3 0 ε (· ∈[3,1,2]):=by have F:=SX g0 g1 l0 l1;refine⟨F.ok,an TK,an TK,F.rows,F,λl hp b hb=>?_,rfl,rfl,.inl ⟨0,[],3,rfl,rfl,rfl,rfl,rfl⟩,⟨.inl ⟨rfl,rfl,rfl⟩,rfl,⟨[],rfl⟩,n1 ⟨rfl,an TK⟩ (n1 ⟨rfl,an TK⟩ n0)⟩⟩;have h3:=cQ hp hp.z (t:=3) (.head _);exact tv hp.z (cQ hp h3 (.head _)) (cQ hp h3 (.tail _ (.head _))) h3 b hb
theorem Rd(g1:∀r∈p1,Gd r)(l1:δ p1<=20):mz (S2 (p1++[u8])) (T2 (p1++[u8])) [2] [2] [2] [0,1] 2 4 ζ (· ∈[2,3]):=by have F:=SY g1 l1;refine⟨iC (ut f7 (ut (gd lU) (ut (ix g1) (ut iy cK)))) TK TK (TN TK) (an TK),an TK,an TK,ut (an TK) (ut (an TK) (ut (iu l1) (ut (an TK) cK))),F,λl hp b hb=>?_,rfl,rfl,.inr ⟨λo e=>(nomatch e),rfl,rfl,rfl⟩,⟨.inr ⟨rfl,rfl,rfl⟩,rfl,⟨[],rfl⟩,n1 ⟨rfl,an TK⟩ n0⟩⟩;have h1:=cQ hp hp.z (t:=1) (.head _);have h4:=cQ hp hp.z (t:=4) (.tail _ (.head _));have h2:=cQ hp h4 (t:=2) (.head _);exact DZ hp.z h1 h2 (cQ hp h2 (.tail _ (.head _))) h4 b hb
theorem Rf(g1:∀r∈p1,Gd r)(l1:δ p1<=20):mz (S3 (p1++[u8])) (T3 (p1++[u8])) [2] [2] [2] [0,1] 2 4 ζ (· ∈[2,3]):=by have F:=S5 g1 l1;refine⟨iC (ut f7 (ut (gd lU) (ut (ix g1) (ut iy cK)))) TK TK (TN TK) (an TK),an TK,an TK,ut (an TK) (ut (an TK) (ut (iu l1) (ut (an TK) cK))),F,λl hp b hb=>?_,rfl,rfl,.inr ⟨λo e=>(nomatch e),rfl,rfl,rfl⟩,⟨.inr ⟨rfl,rfl,rfl⟩,rfl,⟨[],rfl⟩,n1 ⟨rfl,an TK⟩ n0⟩⟩;have h1:=cQ hp hp.z (t:=1) (.head _);have h4:=cQ hp hp.z (t:=4) (.tail _ (.head _));have h2:=cQ hp h4 (t:=2) (.head _);exact DZ hp.z h1 h2 (cQ hp h2 (.tail _ (.head _))) h4 b hb
theorem Rg(g1:∀r∈p1,Gd r)(l1:δ p1<=20):mz (S4 (p1++[u8])) (T4 (p1++[u8])) [1] [1] [1] [0] 1 3 ζ (· ∈[1,2]):=by have F:=S6 g1 l1;refine⟨iC (ut f7 (ut (ix g1) (ut iy cK))) TK TK (TN TK) (an TK),an TK,an TK,ut (an TK) (ut (iu l1) (ut (an TK) cK)),F,λl hp b hb=>?_,rfl,rfl,.inr ⟨λo e=>by cases e;exact⟨[],.branch 4 1 2,rfl,rfl⟩,rfl,rfl,rfl⟩,⟨.inr ⟨rfl,rfl,rfl⟩,rfl,⟨[],rfl⟩,n1 ⟨rfl,an TK⟩ n0⟩⟩;have h3:=cQ hp hp.z (t:=3) (.head _);have h1:=cQ hp h3 (t:=1) (.head _);exact tv hp.z h1 (cQ hp h1 (.tail _ (.head _))) h3 b hb
noncomputable def sw(a b x:Nat):Nat:=match ae x a with|true=>b|false=>x
theorem S8:pa (S2 q) (T2 q) id:=⟨D2 ⟨sw 2 4,rfl,n1 (.inl TK) (n1 (.inr TK) n0)⟩ ⟨sw 2 4,rfl,n1 (.inr TK) n0⟩ ⟨id,rfl,n1 (.inl TK) (n1 (.inl TK) n0)⟩ ⟨id,rfl,n0⟩⟩
theorem S9:pa (S3 q) (T3 q) id:=⟨D2 ⟨sw 2 4,rfl,n1 (.inl TK) (n1 (.inr TK) (n1 (.inl TK) (n1 (.inr TK) n0)))⟩ ⟨sw 2 4,rfl,n1 (.inr TK) n0⟩ ⟨id,rfl,n1 (.inl TK) (n1 (.inl TK) n0)⟩ ⟨id,rfl,n0⟩⟩
theorem S_:pa (S4 q) (T4 q) id:=⟨D1 ⟨sw 1 3,rfl,n1 (.inr TK) (n1 (.inl TK) n0)⟩ ⟨id,rfl,n1 (.inl TK) (n1 (.inl TK) n0)⟩ ⟨id,rfl,n0⟩⟩
end
noncomputable def CH:Ss:=(.cons (.ife (.cmp .eq (.sub (.l 122) (.i (.int 0))) (.i (.int 0))) (.cons (.g (.name 36) (.call 114 (.cons (.l 63) .nil)))
 (.cons (.g (.name 122) (.bin .add (.list ζ (.cons (.l 36) .nil)) (.lo (.l 122) (.i (.int 1)))))
 .nil)) .nil)
 Dj)
noncomputable def mA:Ss:=(.cons (.g (.tup (.cons (.name 142) (.cons (.name 69) .nil))) (.call 147 (.cons (.l 129) (.cons (.l 146) .nil))))
 (.cons (.ife (.not (.call 157 (.cons (.call 135 (.cons (.l 129) .nil)) (.cons (.l 146) (.cons (.l 142) (.cons (.l 69) .nil)))))) (.cons (.ret (.i (.bool ζ)))
 .nil) .nil)
 (.cons (.g (.name 63) (.call 135 (.cons (.l 129) .nil)))
 CH)))
noncomputable def Ta(o1 o2 o3:Option CV)(rg:List Nat)(H:kt)(tr:List Ix)(g:Int)(o4 o5 o6:Option CV):L:=[(174,o1),(89,o2),(129,o3),(122,γ (sB rg)),(146,γ (zn H)),(142,γ (AT tr)),(69,γ (.int g)),(63,o4),(36,o5),(77,o6)]
theorem n_(ok:bE (b0::tl))(hl:δ tl<=10)(hr:∀b∈b0::tl,δ b.1<=25)(hH:v1 H)(p:IR (b0::tl) 0 H π 2)(UX:δ π<=9)
  (k:∀c:ad,fn (Ph (n+5)) CH fl (Ta o1 o2 (γ (wn (b0::tl))) rg H (Os (b0::tl) π H) (at' (lm (GE (b0::tl) π) H) 2) (γ (.inst 2 (.ref (δ c)))) η η) (c++rc (δ c) (b0::tl)) N C R):
  fn (Ph (n+5)) mA fl [(174,o1),(89,o2),(129,γ (wn (b0::tl))),(122,γ (sB rg)),(146,γ (zn H)),(142,η),(69,η),(63,η),(36,η),(77,η)] [] N C R:=by
 have Wg:=nF p (n:=24) (κ ‹_› (by decide));have VD:∀b∈b0::tl,δ b.1<=1000:=λb hb=>κ (hr b hb) (by decide);have VF:δ (Os (b0::tl) π H)<=1000:=κ (il hr) (κ (dN 25 UX) (by decide));obtain⟨π',q1,q2,q3⟩:=zD p;have hgf:=nF q1 (n:=24) (by lia);have okf:=NK ok (κ ‹_› (by decide));have hrf:∀b∈bU (b0::tl),δ b.1<=25:=λb hb=>by
  rcases u_ hb with rfl|⟨q,hq,rfl⟩
  ·exact cN _
  ·exact hr q hq
 have WO:δ (b0::tl)<=1000:=ok.l;refine n7 (n:=n+3) (P:=b0::tl) (h:=H) (X:=zn H) ok hH (by exists Wg,VF) (iJ (by rfl) (by rfl)) TK (jg H) ?_;exists Wg;refine BX (n:=n+3) (c:=[]) (P:=b0::tl) WO VD ?_;refine Hf (n:=n) (c:=[]) (b:=b0) (tl:=tl) (h:=H) (tr:=Os (b0::tl) π H) (g:=at' (lm (GE (b0::tl) π) H) 2) (κ ‹_› (by decide)) okf (λk hk=>κ (hrf k hk) (by decide)) hH ?_ VF ?_ ?_ ?_
 ·exists hgf,κ (il hrf) (κ (dN 25 (show δ π'<=24 by lia)) (by decide))
 ·exists hgf,ac q2 TK
 ·exists hgf;show(Os _ π' H).map (λa=>a.2.2)=_;exists hV,ac hV (ac q2 TK)
 ·refine BX (n:=n+3) (c:=[]++rc (δ ([]:ad)) (bU (b0::tl))) (P:=b0::tl) WO VD ?_;exact k _
section
variable {p0 p1:List bv}
theorem rL(h1:pc l 122=γ (sB rg))(hd:rg[0]? =γ h)(hl:δ rg<=1000)(Um:h≠0)(k:fn Φ ss fl l c N C R):
  fn Φ (.cons (.ife (.cmp .eq (.sub (.l 122) (.i (.int 0))) (.i (.int 0))) X .nil) ss) fl l c N C R:=
 db h1 (wl (by exists φ ..,hl) (o:=s0 (rg.map λ(i:Nat)=>CV.int i) 0) (mx hd) (ww (b:=((h:Int)==0)) (TO.mpr (by lia)) k))
theorem Rh{n fl:Nat}{N C:L->ad->Prop}{R:CV->ad->Prop}(hR:∀c,R (.bool ε) c)(g0:∀r∈p0,Gd r)(g1:∀r∈p1,Gd r)(l0:δ p0<=20)(l1:δ p1<=20){f:Nat}(hf:f<=3){H:kt}(hH:v1 H)(h3:at' H 3=f){o1 o2:Option CV}:
  fn (Ph (n+5)) mA fl [(174,o1),(89,o2),(129,γ (wn (S0 p0 (p1++[u8])))),(122,γ (sB [1,2])),(146,γ (zn H)),(142,η),(69,η),(63,η),(36,η),(77,η)] [] N C R:=by
 have UY:∀{P:List bn} {π:List Nat},(∀b∈P,δ b.1<=25)->δ π<=9->δ (Os P π H)<=1000:=λhr UX=>κ (il hr) (κ (dN 25 UX) (by decide));have S:=Rb g0 g1 l0 l1;obtain⟨π,q1,q2⟩:=Sl g0 g1 hH h3 hf;refine n_ (n:=n) (b0:=([],.jump 1)) (tl:=[(p0,.branch 3 2 3),(p1++[u8],.jump 1),(bg,.give 2)]) S.ok (an TK) S.rows hH q1 q2 λc=>?_;exact rL (h:=1) TK TK (an TK) (by decide) (nP (n:=n) hR S hH q1 (κ ‹_› (by decide)) (UY S.rows q2) hV.symm TK)
noncomputable def Ri:Ss:=(.cons (.g (.name 36) (.call 114 (.cons (.l 63) .nil)))
 (.cons (.g (.name 122) (.bin .add (.list ζ (.cons (.l 36) .nil)) (.lo (.l 122) (.i (.int 1)))))
 .nil))
theorem Lw(hl:δ tl<=900)(hr:δ rtl<=900)(h1:pc l 122=γ (sB (0::rtl)))(h2:pc l 63=γ (.inst 2 (.ref (δ c))))(h3:pc (putL l 36 (.int (δ tl+1:Nat))) 36=γ (.int (δ tl+1:Nat)))(h4:pc (putL l 36 (.int (δ tl+1:Nat))) 122=γ (sB (0::rtl)))
  (k:fn (Ph (n+4+1)) ss fl (putL (putL l 36 (.int (δ tl+1:Nat))) 122 (sB ((δ tl+1)::rtl))) (c++rc (δ c) (bU (b::tl))) N C R):
  fn (Ph (n+4+1)) (.cons (.ife (.cmp .eq (.sub (.l 122) (.i (.int 0))) (.i (.int 0))) Ri .nil) ss) fl l (c++rc (δ c) (b::tl)) N C R:=by
 have hlen:δ ((0::rtl).map λ(i:Nat)=>CV.int i)<=1000:=by exists φ ..;show δ rtl+1<=1000;exact aR ‹_› (by decide)
 refine db h1 (wl hlen (o:=s0 ((0::rtl).map λ(i:Nat)=>CV.int i) 0) TK ?_);refine db h2 (Bc (n:=n+1) (c:=c) (b:=b) (tl:=tl) hl ?_);refine db h3 (wl (an TK) h4 (ξ hlen (ξ ?_ k)));exists Δ;show 1+δ (rtl.map λ(i:Nat)=>CV.int i)<=1000;exists φ ..;lia
theorem Rj{n fl:Nat}{N C:L->ad->Prop}{R:CV->ad->Prop}(hR:∀c,R (.bool ε) c)(g0:∀r∈p0,Gd r)(g1:∀r∈p1,Gd r)(l0:δ p0<=20)(l1:δ p1<=20){f:Nat}(hf:f<=3){H:kt}(hH:v1 H)(h3:at' H 3=f){o1 o2:Option CV}:
  fn (Ph (n+5)) mA fl [(174,o1),(89,o2),(129,γ (wn (S1 p0 (p1++[u8])))),(122,γ (sB [0,1])),(146,γ (zn H)),(142,η),(69,η),(63,η),(36,η),(77,η)] [] N C R:=by
 have UY:∀{P:List bn} {π:List Nat},(∀b∈P,δ b.1<=25)->δ π<=9->δ (Os P π H)<=1000:=λhr UX=>κ (il hr) (κ (dN 25 UX) (by decide));have S:=Rc g0 g1 l0 l1;obtain⟨π,q1,q2⟩:=Sm g0 g1 hH h3 hf;have okm:bE (S1 p0 (p1++[u8])):=iC (ut (gd g0) (ut (ix g1) (ut iy cK))) TK TK (TN TK) (an TK);have YB:∀b∈S1 p0 (p1++[u8]),δ b.1<=25:=ut (by show δ p0<=25;exact κ ‹_› (by decide)) (ut (iu l1) (ut (an TK) cK));obtain⟨π',r1,r2,r3⟩:=zD q1;refine n_ (n:=n) (b0:=(p0,.branch 3 1 2)) (tl:=[(p1++[u8],.jump 0),(bg,.give 2)]) okm (an TK) YB hH q1 q2 λc=>?_;have T:=λfl N C o1 o2 o3 o4=>nP (n:=n) (fl:=fl) (c:=c) (N:=N) (C:=C) (o1:=o1) (o2:=o2) (o3:=o3) (o4:=o4) (Pm:=T1 p0 (p1++[u8])) hR S hH r1 (by lia) (UY YB q2) (by exists hV,TL (λl=>f_ l H) r2) (TL (λl=>at' (lm l H) 2) r2);exact Lw (n:=n) (b:=(p0,.branch 3 1 2)) (tl:=[(p1++[u8],.jump 0),(bg,.give 2)]) (rtl:=[1]) (an TK) (an TK) TK TK TK TK (T _ _ _ _ _ _ _)
theorem Rk(H:kt):next (.branch 4 1 2) H=1\/next (.branch 4 1 2) H=2:=by
 by_cases z:at' H 4=0
 ·exact .inr (tf z)
 ·exact .inl (tg z)
theorem Rn(H:kt):next (.table 4 1 2 1 2) H=1\/next (.table 4 1 2 1 2) H=2:=by
 show(match at' H 4 with|0=>1|1=>2|2=>1|_=>2)=1\/(match at' H 4 with|0=>1|1=>2|2=>1|_=>2)=2;generalize at' H 4=v
 match v with
 |.ofNat 0=>exact .inl TK
 |.ofNat 1=>exact .inr TK
 |.ofNat 2=>exact .inl TK
 |.ofNat (n+3)=>exact .inr TK
 |.negSucc n=>exact .inr TK
theorem Ro{n fl:Nat}{N C:L->ad->Prop}{R:CV->ad->Prop}(hR:∀c,R (.bool ε) c)(g1:∀r∈p1,Gd r)(l1:δ p1<=20){f:Nat}(hf:f<=2){H:kt}(hH:v1 H)(h3:at' H 3=(f:Int)+1){o1 o2:Option CV}:
  fn (Ph (n+5)) mA fl [(174,o1),(89,o2),(129,γ (wn (S2 (p1++[u8])))),(122,γ (sB [2])),(146,γ (zn H)),(142,η),(69,η),(63,η),(36,η),(77,η)] [] N C R:=by
 have UY:∀{P:List bn} {π:List Nat},(∀b∈P,δ b.1<=25)->δ π<=9->δ (Os P π H)<=1000:=λhr UX=>κ (il hr) (κ (dN 25 UX) (by decide));have S:=Rd g1 l1;obtain⟨π,q1,q2⟩:=CG (e:=.branch 4 1 2) g1 (λa e=>nomatch e) hH (Rk H) h3 hf;obtain⟨π',r1,r2,r3⟩:=qX S8 q1;refine n_ (n:=n) (b0:=([],.branch 4 1 2)) (tl:=[(f6,.jump 2),(p1++[u8],.branch 3 2 3),(bg,.give 2)]) S.ok (an TK) S.rows hH q1 q2 λc=>?_;have T:=λfl N C o1 o2 o3 o4=>nP (n:=n) (fl:=fl) (c:=c) (N:=N) (C:=C) (o1:=o1) (o2:=o2) (o3:=o3) (o4:=o4) (Pm:=S2 (p1++[u8])) hR S hH r1 (by lia) (UY S.rows q2) (by exists hV,TL (λl=>f_ l H) r2) (TL (λl=>at' (lm l H) 2) r2);exact rL (h:=2) TK TK (an TK) (by decide) (T _ _ _ _ _ _ _)
theorem Rp{n fl:Nat}{N C:L->ad->Prop}{R:CV->ad->Prop}(hR:∀c,R (.bool ε) c)(g1:∀r∈p1,Gd r)(l1:δ p1<=20){f:Nat}(hf:f<=2){H:kt}(hH:v1 H)(h3:at' H 3=(f:Int)+1){o1 o2:Option CV}:
  fn (Ph (n+5)) mA fl [(174,o1),(89,o2),(129,γ (wn (S3 (p1++[u8])))),(122,γ (sB [2])),(146,γ (zn H)),(142,η),(69,η),(63,η),(36,η),(77,η)] [] N C R:=by
 have UY:∀{P:List bn} {π:List Nat},(∀b∈P,δ b.1<=25)->δ π<=9->δ (Os P π H)<=1000:=λhr UX=>κ (il hr) (κ (dN 25 UX) (by decide));have S:=Rf g1 l1;obtain⟨π,q1,q2⟩:=CG (e:=.table 4 1 2 1 2) g1 (λa e=>nomatch e) hH (Rn H) h3 hf;obtain⟨π',r1,r2,r3⟩:=qX S9 q1;refine n_ (n:=n) (b0:=([],.table 4 1 2 1 2)) (tl:=[(f6,.jump 2),(p1++[u8],.branch 3 2 3),(bg,.give 2)]) S.ok (an TK) S.rows hH q1 q2 λc=>?_;have T:=λfl N C o1 o2 o3 o4=>nP (n:=n) (fl:=fl) (c:=c) (N:=N) (C:=C) (o1:=o1) (o2:=o2) (o3:=o3) (o4:=o4) (Pm:=S3 (p1++[u8])) hR S hH r1 (by lia) (UY S.rows q2) (by exists hV,TL (λl=>f_ l H) r2) (TL (λl=>at' (lm l H) 2) r2);exact rL (h:=2) TK TK (an TK) (by decide) (T _ _ _ _ _ _ _)
theorem Rq{n fl:Nat}{N C:L->ad->Prop}{R:CV->ad->Prop}(hR:∀c,R (.bool ε) c)(g1:∀r∈p1,Gd r)(l1:δ p1<=20){f:Nat}(hf:f<=2){H:kt}(hH:v1 H)(h3:at' H 3=(f:Int)+1){o1 o2:Option CV}:
  fn (Ph (n+5)) mA fl [(174,o1),(89,o2),(129,γ (wn (S4 (p1++[u8])))),(122,γ (sB [1])),(146,γ (zn H)),(142,η),(69,η),(63,η),(36,η),(77,η)] [] N C R:=by
 have UY:∀{P:List bn} {π:List Nat},(∀b∈P,δ b.1<=25)->δ π<=9->δ (Os P π H)<=1000:=λhr UX=>κ (il hr) (κ (dN 25 UX) (by decide));have S:=Rg g1 l1;obtain⟨π,q1,q2⟩:=Sn g1 hH h3 hf;obtain⟨π',r1,r2,r3⟩:=qX S_ q1;refine n_ (n:=n) (b0:=([],.branch 4 1 2)) (tl:=[(p1++[u8],.branch 3 1 2),(bg,.give 2)]) S.ok (an TK) S.rows hH q1 q2 λc=>?_;have T:=λfl N C o1 o2 o3 o4=>nP (n:=n) (fl:=fl) (c:=c) (N:=N) (C:=C) (o1:=o1) (o2:=o2) (o3:=o3) (o4:=o4) (Pm:=S4 (p1++[u8])) hR S hH r1 (by lia) (UY S.rows q2) (by exists hV,TL (λl=>f_ l H) r2) (TL (λl=>at' (lm l H) 2) r2);exact rL (h:=1) TK TK (an TK) (by decide) (T _ _ _ _ _ _ _)
end
noncomputable def jG:List Nat:=[1,2,5,6,8,11,20,0]
theorem PT(hl:δ ns<=1000)(h1:pc l 174=γ (.wlist ns))(k:fn Φ ss fl (putL l 89 (sB ((ns.take 12).map λi=>i.natAbs%2147483647))) c N C R):
  fn Φ (.cons (.g (.name 89) (.comp ζ [] [36] (.name 36) ζ (.hi (.l 174) (.i (.int 12))) .nil (.last (.bin .mod (.bi .abs ζ (.cons (.bi .int ζ (.cons (.l 36) .nil)) .nil)) (.i (.int 2147483647)))))) ss) fl l c N C R:=by
 refine db h1 (ξ ⟨hl,by decide⟩ ?_);refine dU (σ:=Option CV) (enc:=CV.int) (λs=>[(36,s)]) c (λi=>[CV.int ((i.natAbs%2147483647:Nat):Int)]) (ns.take 12) TK (λi s r K _ hr k=>KF (by decide) ?_ (k _)) TQ [] η ?_ λs=>?_
 ·rw[Δ]at hr;exact κ (ao _ _) hr
 ·exists On ..;exists aB ..;exists φ ..;exists yh ..,κ (yp _ _) (by decide)
 ·exists On ..;exists aB ..;unfold sB at k;rw[cM]at k;exact k
theorem PU(hl:δ ms<=900)(h1:pc l 89=γ (sB ms))(k:fn Φ ss fl (putL l 89 (sB (ms++jG.drop (δ ms)))) c N C R):
  fn Φ (.cons (.g (.name 89) (.bin .add (.l 89) (.bi .list ζ (.cons (.lo (.glob 5) (.bi .len ζ (.cons (.l 89) .nil))) .nil)))) ss) fl l c N C R:=by
 have hm:δ (ms.map λ(i:Nat)=>CV.int i)=δ ms:=φ _;have hd:δ (jG.drop (δ ms))<=8:=by exists F9;show 8 - δ ms<=8;exact zG _ _
 have e:∀m,fI [CV.int 1,.int 2,.int 5,.int 6,.int 8,.int 11,.int 20,.int 0] (aY m)=(jG.drop m).map λ(i:Nat)=>CV.int i:=λm=>(List.map_drop (l:=jG) (i:=m) (f:=λ(i:Nat)=>CV.int i)).symm;have e2:=e (δ (ms.map λ(i:Nat)=>CV.int i));rw[hm]at e2;refine db h1 (db h1 (KF (by exists hm,κ ‹_› (by decide)) ⟨an TK,aE _⟩ ?_));exists hm;have main:∀v,v=(jG.drop (δ ms)).map (λ(i:Nat)=>CV.int i)->δ v<=1000/\δ ((ms.map λ(i:Nat)=>CV.int i)++v)<=1000/\fn Φ ss fl (putL l 89 (.list ((ms.map λ(i:Nat)=>CV.int i)++v))) c N C R:=λv hv=>by exists hv;refine⟨by rw[φ];exact κ ‹_› (by decide),by rw[Δ,φ,φ];exact κ (g9 hl hd) (by decide),?_⟩;rw[u7]at k;exact k
 exact main _ e2
theorem Rr(h:δ ns<=63):body (Ph (n+5)) iF [.wlist ns] [] λv _=>v= .bool ε:=by
 refine ξ TK ?_;refine PT (l:=[(174,γ (.wlist ns)),(89,η),(129,η),(122,η),(146,η),(142,η),(69,η),(63,η),(36,η),(77,η)]) (κ ‹_› (by decide)) TK ?_;have hnl:δ ((ns.take 12).map λi=>i.natAbs%2147483647)<=12:=by exists φ ..;exists yh ..,yp _ _
 refine PU (κ ‹_› (by decide)) TK ?_;generalize(ns.take 12).map (λi=>i.natAbs%2147483647)=nums at hnl;have Y9:8<=δ (nums++jG.drop (δ nums))/\δ (nums++jG.drop (δ nums))<=12:=by exists Δ;exists F9;show 8<=δ nums+(8 - δ nums)/\δ nums+(8 - δ nums)<=12;exact⟨Nat.sub_le_iff_le_add'.mp (aJ _),(yV (δ nums) 8).elim (λq=>by rw[Nat.add_sub_cancel' q];decide) λq=>by rw[Nat.sub_eq_zero_of_le q];exact hnl⟩
 generalize nums++jG.drop (δ nums)=ms at Y9
 match ms,Y9 with
 |a::b::d::rest,Y9=>
  have VE:δ rest<=9:=by have:δ rest+3<=12:=Y9.2;exact tJ (tJ (tJ this))
  refine JZ (n:=n+3) (a:=a) (b:=b) (d:=d) (rest:=rest) (κ ‹_› (by decide)) (by rfl) λP rg hp=>?_;have hd:=vx (b:=decide (a%5<2)) (xs:=dF 0 rest) (s:=([],[]));have hg:=Lr (b:=decide (a%5<2)) (xs:=dF 0 rest) (s:=([],[])) (λr hr=>nomatch hr) (λr hr=>nomatch hr);rw[qM]at hd;generalize cz (decide (a%5<2)) (dF 0 rest) ([],[])=F at hp hd hg;obtain⟨p0,p1⟩:=F;obtain⟨g0,g1⟩:=hg;replace hd:δ p0+δ p1=0+0+δ rest:=hd;have l0:δ p0<=20:=κ (ao _ _) (κ (a5 hd) (by rw[az];exact κ VE (by decide)));have l1:δ p1<=20:=κ (eZ _ _) (κ (a5 hd) (by rw[az];exact κ VE (by decide)));have Xx:b%3<=2:=by exact gn (ef _ (by decide))
  have hb3:b%4<=3:=by exact gn (ef _ (by decide))
  have hdd:(0:Int)<=(d%4:Nat)/\((d%4:Nat):Int)<4294967296:=by exact⟨aE _,aX.mpr (nk (ef _ (by decide)) (by decide))⟩
  have hH0:v1 (gH (b%4:Nat) (d%4:Nat)):=B5 ⟨aE _,aX.mpr (aR ‹_› (by decide))⟩ hdd;have Xy:v1 (gH (1+b%3:Nat) (d%4:Nat)):=B5 (by exact DM (κ (dq Xx 1) (by decide))) hdd;have h31:at' (gH (1+b%3:Nat) (d%4:Nat)) 3=((b%3:Nat):Int)+1:=by show((1+b%3:Nat):Int)=_;lia
  have hj:a%5=0\/a%5=1\/a%5=2\/a%5=3\/a%5=4:=by exact Dl (ef a (by decide))
  rcases hj with hj|hj|hj|hj|hj
  ·rw[hj]at hp ⊢;obtain⟨e1,e2⟩:=du (show(S0 p0 (p1++[u8]),[1,2])=(P,rg)from hp);subst e1;subst e2;exact Rh (n:=n) (λ_=>rfl) g0 g1 l0 l1 hb3 hH0 TK
  ·rw[hj]at hp ⊢;obtain⟨e1,e2⟩:=du (show(S1 p0 (p1++[u8]),[0,1])=(P,rg)from hp);subst e1;subst e2;exact Rj (n:=n) (λ_=>rfl) g0 g1 l0 l1 hb3 hH0 TK
  ·rw[hj]at hp ⊢;obtain⟨e1,e2⟩:=du (show(S2 (p1++[u8]),[2])=(P,rg)from hp);subst e1;subst e2;exact Ro (n:=n) (λ_=>rfl) g1 l1 Xx Xy h31
  ·rw[hj]at hp ⊢;obtain⟨e1,e2⟩:=du (show(S3 (p1++[u8]),[2])=(P,rg)from hp);subst e1;subst e2;exact Rp (n:=n) (λ_=>rfl) g1 l1 Xx Xy h31
  ·rw[hj]at hp ⊢;obtain⟨e1,e2⟩:=du (show(S4 (p1++[u8]),[1])=(P,rg)from hp);subst e1;subst e2;exact Rq (n:=n) (λ_=>rfl) g1 l1 Xx Xy h31
theorem NL(ns:List Int)(h:δ ns<=63):body (fL 12) iF [.wlist ns] [] λv _=>v= .bool ε:=by refine io (C3 ..) ?_;exact Rr (n:=7) h
end Mine
end
section
open PySem PySem.W PyProof.Rows
namespace Mine
section
set_option maxRecDepth 20000
variable {X:Wd}
theorem Sq{K:cJ}{h:Ξ}{mg:ψ->Option ι}(hK:K.In h)(hc:((K.lookup c8).bind λo=>f9 o.data).isSome=ε)(hg:h.Ns c8 mg):mg=eR K:=by
 obtain⟨o,es,ep,h1,h2,h3,h4⟩:=hg;cases q:K.lookup c8 with
 |none=>rw[q]at hc;exact Db hc
 |some o'=>have hz:=ω (h1.symm.trans (hK _ _ q));subst hz;funext x;unfold eR;exists q;show mg x=(f9 o.data).bind λes=>nsFind es x;exists h2,(h4 x).symm
theorem PV(B:oP X){n:Nat}{s:ν}{h1:Ξ}{t:Nat}{a:υ}{vs:List ι}{ns:List Int}{env:aa}{body:List bY}{f:ψ->Option ι}{A:ai}{Q:lD->ν->Prop}{Er:ι->ν->Prop}
  (hk:env.scope.kind= .function) (hm:dK fB oz env.scope body=ε) (HX:X.H=s.heap) (g:s.heap.Ns c8 X.mg) (b:s.heap.Ns lC X.mb) (lim:s.heap.NoLimit) (sys:∃mm,s.heap.Ns aF mm)
  (hL:s.heap.IsList a vs.toArray) (hI:cP vs ns) (F:Fr s.heap s.heap.objs.size h1 f) (hms:f (nm 174)=γ (.ref a)) (e1:env.locals=s.heap.objs.size) (e2:env.cells=[]) (e3:env.globals=c8) (e4:env.builtins=lC) (e5:env.scope.names.lookup (nm 174)=γ .local)
  (e6:(env.scope.names.all λp=>p.2 != .cell)=ε) (YC:∃q,X.H.CodeRec env.code q) (hA:Pv (2*n+2) A) (law:Mine.body (fL n) iF [.wlist ns] [] λv _=>v= .bool ε)
  (hQ:∀s',s'.gens=s.gens->s'.os=s.os->(∀b o,s.heap.get? b=γ o->s'.heap.get? b=γ o)->Q (.ret (.bool ε)) s'):τ X.M A (execs body env) Q Er {s with heap:=h1,toks:=t}:=by
 have e6:∀x,env.scope.names.lookup x≠γ .cell:=λx hx=>by refine eI (pz.mp hx) λl1 l2 q _=>?_;exact absurd TK (TP.mp (cg.mp e6 (x,.cell) (by exists q,aI _ (.head _))))
 have WR:∀b o,s.heap.get? b=γ o->h1.get? b=γ o:=F.keep;obtain⟨al,VF,ZM,j,hdl⟩:=id hL;have Ut:s.heap.get? s.heap.objs.size=η:=c6 _;let m:py:={I:=λx=>∃o,s.heap.get? x=γ o,J:=λ_=>False,μ:=[]};have V:AC X h1 m []:=by
  refine⟨rfl,.nil,λ_ _ _ e=>(nomatch e),λa z1=>by obtain⟨o,ho⟩:=z1;exact⟨o,WR _ _ ho⟩,λ_ i=>(nomatch i),λ_ i=>i.elim,⟨λa o e=>WR _ _ (HX▸e),λa o e=>⟨o,HX▸e⟩,?_,?_,?_,?_,?_,?_⟩,?_⟩
  ·obtain⟨o,es,ep,ho,r⟩:=g;exact⟨o,es,ep,WR _ _ ho,r⟩
  ·obtain⟨o,es,ep,ho,r⟩:=g;exact⟨o,ho⟩
  ·obtain⟨o,es,ep,ho,r⟩:=b;exact⟨o,es,ep,WR _ _ ho,r⟩
  ·obtain⟨o,es,ep,ho,r⟩:=b;exact⟨o,ho⟩
  ·obtain⟨mc,⟨o,es,ep,ho,r⟩,q⟩:=lim;exact⟨mc,⟨o,es,ep,WR _ _ ho,r⟩,q⟩
  ·obtain⟨mc,⟨o,es,ep,ho,r⟩,q⟩:=lim;exact⟨o,ho⟩
  ·obtain⟨mm,o,es,ep,ho,r⟩:=sys;exact⟨o,WR _ _ ho⟩
 have Uy:∀{P:Prop} {x:ψ} {a:υ},(x,a)∈env.cells->P:=λh=>by rw[e2]at h;cases h
 have ns':a≠aF:=λq=>by obtain⟨mm,o,es,ep,ho,hd,_⟩:=sys;rw[←q,VF]at ho;replace ho:=ω ho;subst ho;rw[hdl]at hd;cases hd
 have rs:ch X h1 m (.wlist ns) (.ref a):=.obj (vs:=[]) ⟨al,VF⟩ ns' (WR _ _ VF) ⟨rfl,ZM,vs.toArray,j,hdl,hI⟩ .nil;have O:Ok X env (iF.ps.zipWith (λx v=>(x,γ v)) [CV.wlist ns]++iF.ls.map λx=>(x,η)) {s with heap:=h1,toks:=t} m []:=by
  refine⟨V,hk,e3,e4,⟨f,by exists e1,F.ns⟩,λx a h=>Uy h,λx y a h=>Uy h,λx h=>absurd h (e6 x),λx hx=>?_,λi cv e=>?_,YC⟩
  ·rcases hx with rfl|⟨y,hy⟩
   ·exact⟨λz0=>by obtain⟨o,ho⟩:=z0;exact(by rw[e1,Ut]at ho;exact pt ho),λi=>(nomatch i),λi=>i⟩
   ·exact Uy hy
  ·obtain⟨hi,v,hv,r⟩:=BC (X:=X) (h:=h1) (m:=m) (ps:=iF.ps) (.cons rs .nil) e;have hz:=Θ.mp hi;subst hz;cases Θ.mp hv;exact⟨by decide,.ref a,.l e5 f (by exists e1,F.ns) hms,r⟩
 have S:dW X (2*n+2) (fL n) env.scope body oz:=Cn (QN B n) oz hk hm;have hl:fn (fL n) oz 0 (iF.ps.zipWith (λx v=>(x,γ v)) [CV.wlist ns]++iF.ls.map λx=>(x,η)) [] (λ_ _=>CV.none=CV.bool ε) (λ_ _=>False) (λv _=>v= .bool ε):=law.2;refine S A env 0 _ {s with heap:=h1,toks:=t} m [] (λ_ _=>CV.none=CV.bool ε) (λ_ _=>False) (λv _=>v= .bool ε) Q Er hA TK O hl ⟨λ_ _ _ _ h=>(nomatch h),λ_ _ _ _ h=>h.elim,λcv c v s' m' e V' P r=>?_⟩;subst e;have hz:=r.boolV;subst hz;refine hQ s' P.gens P.os λb o hb=>P.keep b o (WR _ _ hb) (λow=>ow.elim (λq=>by rw[q,e1,Ut]at hb;exact pt hb) λz0=>f4 z0 λx hx _=>Uy hx) λi=>nomatch i
end
end Mine
end
section
open PySem PySem.W PyProof.Rows
set_option Elab.async false
set_option maxRecDepth 100000
set_option maxHeartbeats 8000000
local macro_rules | `(tactic|k_qdec)=>`(tactic|decide+kernel)
namespace Mine
theorem Tb:tA.wellSaid=ε:=(congrFun Fast.te9446332074065402090 _).trans (by kernel_rfl)
noncomputable def X0(w:aM)(H:Ξ)(e:(KP w.params).In H)(mg mb:ψ->Option ι):Wd:={prog:=prog,w:=w,K:=KP w.params,H:=H,KH:=e,cls:=dZ (KP w.params),mg:=mg,mb:=mb}
theorem Sr{w:aM}{H:Ξ}(e:(KP w.params).In H){mg mb:ψ->Option ι}(hm:H.Ns c8 mg)(hb:∀x:ψ,x≠"__name__"->mb x=qh x):oP (X0 w H e mg mb):=by have Y':mg=eR (KP w.params):=Sq e (jp (jp (C2 w.params)).1).1 hm;refine⟨Y',rfl,hb,C2 _,λf hf=>?_,SM _,SN _⟩;have h:=cg.mp (R3 w.params) f hf;obtain⟨d,hd,h⟩:=cD h;obtain⟨v,hv,h⟩:=cD h;obtain⟨fa,ha,h⟩:=cD h;cases uZ ha;exact⟨d,fa,hd,(congrFun Y' (nm f)).trans hv,BL (X:=X0 w H e mg mb) h⟩
def DK(w:aM) (h:Ξ):Prop:=∀a o,(gU w.params).get? a=γ o->h.get? a=γ o
theorem B7{w:aM}{h:Ξ}(k:DK w h):(KP w.params).In h:=λa o e=>k a o (OX _ _ a o e)
end Mine
theorem PySem.Challenge.cw_sa0179_01_holds : PySem.Challenge.rw_sa0179_01.Holds := by
 refine holds_law Mine.Tb λ_=>?_;refine holds_open (q:=Mine.vw) (loose:=Mine.loose) (Xt:=Mine.Xt) (XP:=XL Mine.vw Mine.lv) (Yf:=λs=>s.heap) (Ya:=λw=>Mine.gU w.params) (YP:=Mine.DK) (N:=4604) Mine.QQ (λw s e a o h=>(show s.heap=_ from e)▸h) (λw h h' k st a o q=>st a o (k a o q)) (λs e=>xl_of s (E0.mp e).1) XL.keeps (by rfl) (by rfl) (by rfl) (λs e=>recFacts_of (E0.mp e).2) (by rfl) (by decide+kernel) (by decide+kernel) ⟨rfl,rfl,rfl,rfl,rfl,by decide+kernel⟩ (by w_witness2) ?_;intro w s₀ s₁ mg mb G Y fa o pm cd doc dV kV ho hd YN hD Y' hg args vals as VG hlay Y7 hwl hlo
 k_behind G ho hd YN hD Y' VG hlay Y7 hwl hlo cd
 have GL:=‹Glob 0 mg mb _ _ _ _ s₁.heap›;have hI:=‹cP _ _›;have hL:=‹s₁.heap.IsList _ _›;have F:=‹Fr s₁.heap _ _ _›;refine Mine.PV (X:=Mine.X0 w s₁.heap (Mine.B7 Y) mg mb) (Mine.Sr (Mine.B7 Y) GL.g GL.builtins) (n:=12) ?_ ?_ rfl GL.g GL.b GL.nolimit (let⟨mm,q,_⟩:=GL.seer.mods;⟨mm,q⟩) hL hI F ?_ ?_ ?_ ?_ ?_ ?_ ?_ ?_ ?_ (Mine.NL _ (by omega)) ?_
 ·rfl
 ·kernel_rfl
 ·kernel_rfl
 ·rfl
 ·rfl
 ·rfl
 ·rfl
 ·kernel_rfl
 ·kernel_rfl
 ·exact⟨_,YN⟩
 ·refine⟨rfl,?_,?_⟩
  ·show callerA.depth+1+2*26+20<=recursionLimit;decide
  ·show callerA.units+3+100*(26+1)<=bK;decide
 ·intro s' k1 k2 k3;show GoodW _ _ _ _ _ (.ok (.ret (.bool ε))) s';refine⟨.inl ⟨_,.bool ε,[],rfl,raisesW_false ?_,.bool ε,?_,unshared_nil⟩,k3,k2,k1.trans hg⟩
  ·wrow_none_raised
  ·wrow_post
end
