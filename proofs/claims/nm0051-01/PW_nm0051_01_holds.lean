import PyProof.Rows.All
import Wide.All
import OpenK.AllK
import Wide.FinOn
import Lean
import PySem.Challenge.RW_nm0051_01
set_option autoImplicit true
set_option genSizeOf false
set_option genInjectivity false
set_option linter.all false
set_option maxRecDepth 100000
set_option Elab.async false
set_option maxHeartbeats 8000000
open And renaming right->L0
open Array renaming getElem?_toList->gW,mk->uk,getElem?_eq_getElem->xP,toList_push->Cy,ext'->KT,mem_toList_iff->KU,replicate->KV,toList_inj->KW,all_eq_true'->L1,findIdx?_eq_some_iff_getElem->L2,forIn_toList->L3,getElem?_eq_none->L4,isEmpty_iff->L5,mem_replicate->L6,size_replicate->L7
open Bool renaming true->D,false->I,rec->a',or_eq_true_iff->gi,and_eq_true_iff->ho,false_ne_true->nO,eq_iff_iff->xQ,noConfusion->xR,and->Cz,eq_false_iff->KX,or_eq_false_iff->KY,or_true->KZ,and_false->L8,or_eq_true->L9
open Classical renaming em->di,typeDecidableEq->CA
open ForInStep renaming yield->pq
open Int renaming le_refl->bt,fmod->cs,le_trans->dj,le_add_one->ex,fdiv->fD,ne_of_lt->hp,lt_succ->ic,ofNat->iG,not_lt->lm,natCast_nonneg->nP,zero_add->nQ,ofNat_lt->pr,add_assoc->rA,add_le_add_right->rB,add_zero->rC,add_nonneg->xS,le_antisymm->xT,le_of_eq->xU,le_of_sub_nonneg->xV,eq_ofNat_of_zero_le->CB,lt_add_one_of_le->CC,mul_one->CD,natCast_succ->CE,ofNat_le->CG,sub_nonneg->CH,zero_mul->CI,fmod_eq_of_lt->K',le_of_lt->La,lt_of_le_of_lt->Lb,mul_nonneg->Lc,mul_zero->Ld,negSucc->Le,negSucc_lt_zero->Lf,sub_self->Lg,add_left_comm->M0,add_mul->M1,le_of_lt_add_one->M2,lt_of_lt_of_le->M3,lt_trans->M4,natCast_zero->M5,ne_of_gt->M6,neg_one_mul->M7,one_mul->M8,sub_nonneg_of_le->M9,sub_zero->O0,toNat_natCast->O1
open Int.ofNat renaming inj->CF
open List renaming mem_cons_self->bn,all_eq_true->bu,range->bv,mem_cons_of_mem->bT,mem_cons->cB,not_mem_nil->cI,length_append->dr,rec->ds,length_map->ea,isEmpty_iff->ej,map_inj_left->eS,mem_of_getElem?->fE,nodup_cons->fF,mem_singleton->fR,mem_append->hq,mem_map->hr,replicate->hs,mem_append_right->iH,getElem?_map->jA,length_range->jB,append_assoc->kp,append_nil->ln,pairwise_cons->lp,lookup_cons->mp,mem_append_left->mq,nodup_nil->mr,mem_flatMap->ps,mem_range->pt,getElem?_range->rD,map_append->rE,cons_ne_nil->ul,map_map->um,mem_map_of_mem->un,reverse_cons->uo,take_length->up,any_eq_true->xW,drop_nil->xX,getElem?_eq_some_iff->xY,length_drop->xZ,range_succ->x',all_append->CJ,filter->CK,getD_eq_getElem?_getD->CL,getElem?_append_right->CM,getElem?_eq_none_iff->CN,getElem?_take->CO,getElem?_zip_eq_some->CP,length->CQ,length_eq_zero_iff->CR,take_nil->CS,cons_eq_cons->Lh,filterMap_cons->Li,filter_cons->Lj,forIn_cons->Lk,getElem?_eq_getElem->Ll,getElem?_eq_none->Lm,getElem?_replicate->Ln,length_set->Lo,length_take->Lp,map_congr_left->Lq,map_take->Lr,mem_iff_getElem?->Ls,mem_of_mem_eraseIdx->Lt,pairwise_map->Lu,take_of_length_le->Lv,zip_nil_right->Lw,all_map->O2,any_eq_false->O3,append_eq_nil_iff->O4,cons_append->O5,contains_iff_mem->O6,drop_eq_nil_iff->O7,drop_eq_nil_of_le->O8,drop_zero->O9,findIdx?_cons->P0,foldl->P1,foldl_append->P2,getElem?_inj->P3,getElem?_of_mem->P4,getElem?_toArray->P5,length_cons->P6,length_eq_one_iff->P7,length_modify->P8,length_nil->P9,map_id->Q0,mem_filter->Q1,nil_append->Q2,nodup_iff_pairwise_ne->Q3,pairwise_append->Q4,pairwise_singleton->Q5,replicate_succ->Q6,zip_cons_cons->Q7
open List.Pairwise renaming map->Y3
open List.Sublist renaming refl->Y4
open List.cons renaming inj->kq
open Nat renaming beq->M,blt->ar,le_trans->aV,le_refl->bd,rec->bf,ne_of_lt->bw,le_of_ble_eq_true->bH,eq_of_beq_eq_true->bW,le_add_right->bX,ne_of_gt->cC,lt_of_lt_of_le->cO,ble->cV,lt_trans->dt,lt_of_le_of_lt->dA,add_le_add_left->dT,lt_succ_of_lt->eb,zero_le->ek,ble_eq_true_of_le->er,le_of_lt->fh,lt_succ_self->fi,mod_lt->fj,succ_le_succ->fk,beq_refl->gj,le_succ->gk,add_assoc->gX,add_lt_add_left->ht,not_lt->hu,zero_add->ie,div->jC,le_succ_of_le->jD,add_comm->kr,succ_pos->lq,mod->nR,le_antisymm->pu,le_of_eq->pv,le_of_succ_le->pw,lt_add_of_pos_right->px,succ_ne_self->py,add_le_add->rF,add_le_add_right->rG,lt_add_right->rH,not_le_of_lt->rI,succ_lt_succ->uq,succ_ne_zero->ur,min_le_left->ya,ne_of_beq_eq_false->yb,not_lt_zero->yc,add_left_cancel->CT,add_right_comm->CU,le_of_lt_succ->CV,lt_asymm->CW,lt_irrefl->CX,lt_of_succ_lt_succ->CY,not_le->CZ,le_add_left->Lx,le_of_not_lt->Ly,min_eq_left->Lz,mul_le_mul_left->LA,add_sub_cancel'->Q8,add_sub_cancel_left->Q9,div_add_mod->R0,eq_of_mul_eq_mul_left->R2,le_of_succ_le_succ->R3,le_total->R4,lt_of_succ_lt->R5,lt_or_eq_of_le->R6,lt_succ_of_le->R7,max_le->R8,min_eq_right->R9,mod_two_eq_zero_or_one->S0,not_succ_le_zero->S1,sub_le->S2,sub_self->S3,succ_add_eq_add_succ->S4
open Nat.succ renaming inj->nS
open Ne renaming symm->rJ
open Option renaming some->B,none->N,rec->dc,isNone_iff_eq_none->ks,map->lr,isSome_iff_exists->C',isSome->S5,map_eq_some_iff->S6
open Option.some renaming inj->R
open Prod renaming snd->pz,ext->LB
open Prod.mk renaming inj->dd
open PyProof renaming noPylong_small->S7
open PySem renaming callWith_type->yg,isTrue->Dc,ret->V7
open PySem.Builtin.Dict renaming showsAll->LC,takeOut->LD,samePairs->S8,dictSlotArgs->Y5,keyAndDefault->Y6
open PySem.Builtin.Int renaming intBits->Y7
open PySem.Builtin.List renaming listFitsIndex->Y8,listSubscript?->Y9,listTooLong->Z0
open PySem.Builtin.Range renaming rangeSize->LF,small->S9
open PySem.Builtin.Tuple renaming tupleCompareSizes->Z1,tupleHashOf->Z2,tupleItemsOf->Z3
open PySem.Challenge renaming rw_nm0051_01->rK
open PySem.DictEntry renaming refKey->T0
open PySem.Env renaming blockKind->T1
open PySem.F renaming slot_dict_keyiterator_next->yd,plainAttrs_list->LG,args_dict_keyiterator_next_1->T2,entry_dict_keyiterator_next->T3,plainAttrs_dict->T4,slot_dict_eq->T5,slot_dict_get->T6,slot_dict_iter->T7,slot_dict_ne->T8,slot_dict_pop->T9,slot_int_rmul->U0,slot_list_append->U1,slot_list_pop->U2,slot_tuple_lt->U3,sub_dict_dict->U4,type_list_append->U5
open PySem.Heap renaming get?_push_size->fl,lt_size->ig,get?_push_of_some->jE,SameBut->kt,get?_update_self->rL,size_push->ye,ExtBut->LH,get?_update_ne->LI,get?_none_of_le->U6,size_update->U7
open PySem.Heap.IsSliceOf renaming new->Z4
open PySem.Heap.SameBut renaming update->pA,refl->Z5
open PySem.IsRange renaming new->LJ
open PySem.MeetsSeq renaming list_pop_last->Z6
open PySem.NameKind renaming free->nT,cell->LK,noConfusion->LL
open PySem.Obj renaming mapSeq->LM,data_mapFields->U8,putName->U9,putNameByArray->V0,putName_eq->V1
open PySem.PyData renaming eqv->jF,eqvAll->us,tuple->ut,depthAll->yf,canLayAll0->LN,int->LO,strOk->V3,rec->Z7,rec_1->Z8
open PySem.PyData.int renaming inj->V2
open PySem.PyData.str renaming inj->Da
open PySem.PyData.tuple renaming inj->Z9
open PySem.ScopeKind renaming function->LP
open PySem.SeqAt renaming eqBoolOverData->V4
open PySem.SeqAt.Reads renaming unique->aaa
open PySem.Str renaming ofString->ih
open PySem.Value renaming str->Db,ref->LQ,int->V5,none->V6
open PySem.Value.type renaming inj->aab
open PySem.W.Fast renaming te10156331382660048174->aac,te11892475500146522536->aad,te14364793385576792824->aae,te6613529449190102663->aaf,tw10156331382660048174->aag,tw11892475500146522536->aah,tw14364793385576792824->aai,tw6613529449190102663->aaj
open Std.Legacy.Range renaming forIn_eq_forIn_range'->aak
noncomputable section
namespace Mine
theorem A{α:Sort _}{a:α}:a=a:=rfl
theorem O{α:Sort _}{β:Sort _}{a b:α}(f:α->β)(h:a=b):f a=f b:=congrArg f h
abbrev ak{a:Prop}{b:Sort _}(h:a)(k:¬a):b:=absurd h k
@[elab_as_elim] theorem C{p:c->Prop}(h:a=b)(k:p b):p a:=h▸k
@[elab_as_elim] theorem J{p:c->Prop}(h:b=a)(k:p b):p a:=h▸k
theorem cn{b:Type}{a:b->Prop}{P:Prop}(h:∃x,a x)(k:∀x,a x->P):P:=h.elim k
theorem aq{d e:Type}{b:d->e->Prop}{P:Prop}(h:∃x a,b x a)(k:∀x a,b x a->P):P:=h.elim λc h=>cn h (k c)
theorem cf{e f g:Type}{c:e->f->g->Prop}{P:Prop}(h:∃x a b,c x a b)(k:∀x a b,c x a b->P):P:=h.elim λd h=>aq h (k d)
theorem mh{f g i j:Type}{d:f->g->i->j->Prop}{P:Prop}(h:∃x a b c,d x a b c)(k:∀x a b c,d x a b c->P):P:=h.elim λe h=>cf h (k e)
theorem gR{g i j l m:Type}{e:g->i->j->l->m->Prop}{P:Prop}(h:∃x a b c d,e x a b c d)(k:∀x a b c d,e x a b c d->P):P:=h.elim λf h=>mh h (k f)
theorem ro{i j l m n o:Type}{f:i->j->l->m->n->o->Prop}{P:Prop}(h:∃x a b c d e,f x a b c d e)(k:∀x a b c d e,f x a b c d e->P):P:=h.elim λg h=>gR h (k g)
theorem Cf{j l m n o p q:Type}{g:j->l->m->n->o->p->q->Prop}{P:Prop}(h:∃x a b c d e f,g x a b c d e f)(k:∀x a b c d e f,g x a b c d e f->P):P:=h.elim λi h=>ro h (k i)
theorem fg{P:Prop}(h:a/\b)(k:a->b->P):P:=k h.1 h.2
theorem nD{P:Prop}(h:a/\b/\c)(k:a->b->c->P):P:=fg h.2 (k h.1)
theorem ue{P:Prop}(h:a/\b/\c/\d)(k:a->b->c->d->P):P:=nD h.2 (k h.1)
theorem pb{P:Prop}(h:a/\b/\c/\d/\f)(k:a->b->c->d->f->P):P:=ue h.2 (k h.1)
theorem pc{P:Prop}(h:a/\b/\c/\d/\f/\g)(k:a->b->c->d->f->g->P):P:=pb h.2 (k h.1)
theorem Kz{P:Prop}(h:a/\b/\c/\d/\f/\g/\i)(k:a->b->c->d->f->g->i->P):P:=pc h.2 (k h.1)
theorem KA{P:Prop}(h:a/\b/\c/\d/\f/\g/\i/\j)(k:a->b->c->d->f->g->i->j->P):P:=Kz h.2 (k h.1)
theorem KB{P:Prop}(h:a/\b/\c/\d/\f/\g/\i/\j/\l)(k:a->b->c->d->f->g->i->j->l->P):P:=KA h.2 (k h.1)
theorem I3{P:Prop}(h:a/\b/\c/\d/\f/\g/\i/\j/\l/\m)(k:a->b->c->d->f->g->i->j->l->m->P):P:=KB h.2 (k h.1)
theorem bJ{c:Type}{a b:c->Prop}{P:Prop}(h:∃x,a x/\b x)(k:∀x,a x->b x->P):P:=cn h λx h=>fg h (k x)
theorem gf{d:Type}{a b c:d->Prop}{P:Prop}(h:∃x,a x/\b x/\c x)(k:∀x,a x->b x->c x->P):P:=cn h λx h=>nD h (k x)
theorem lg{e:Type}{a b c d:e->Prop}{P:Prop}(h:∃x,a x/\b x/\c x/\d x)(k:∀x,a x->b x->c x->d x->P):P:=cn h λx h=>ue h (k x)
theorem me{e:Type}{a b c d f:e->Prop}{P:Prop}(h:∃x,a x/\b x/\c x/\d x/\f x)(k:∀x,a x->b x->c x->d x->f x->P):P:=cn h λx h=>pb h (k x)
theorem KC{e:Type}{a b c d f g:e->Prop}{P:Prop}(h:∃x,a x/\b x/\c x/\d x/\f x/\g x)(k:∀x,a x->b x->c x->d x->f x->g x->P):P:=cn h λx h=>pc h (k x)
theorem Cc{e:Type}{a b c d f g i j:e->Prop}{P:Prop}(h:∃x,a x/\b x/\c x/\d x/\f x/\g x/\i x/\j x)(k:∀x,a x->b x->c x->d x->f x->g x->i x->j x->P):P:=cn h λx h=>KA h (k x)
theorem mf{d e:Type}{b c:d->e->Prop}{P:Prop}(h:∃x a,b x a/\c x a)(k:∀x a,b x a->c x a->P):P:=aq h λx a h=>fg h (k x a)
theorem ev{e f:Type}{b c d:e->f->Prop}{P:Prop}(h:∃x a,b x a/\c x a/\d x a)(k:∀x a,b x a->c x a->d x a->P):P:=aq h λx a h=>nD h (k x a)
theorem eR{f g:Type}{b c d e:f->g->Prop}{P:Prop}(h:∃x a,b x a/\c x a/\d x a/\e x a)(k:∀x a,b x a->c x a->d x a->e x a->P):P:=aq h λx a h=>ue h (k x a)
theorem mg{g i:Type}{b c d e f:g->i->Prop}{P:Prop}(h:∃x a,b x a/\c x a/\d x a/\e x a/\f x a)(k:∀x a,b x a->c x a->d x a->e x a->f x a->P):P:=aq h λx a h=>pb h (k x a)
theorem Cd{i j:Type}{b c d e f g:i->j->Prop}{P:Prop}(h:∃x a,b x a/\c x a/\d x a/\e x a/\f x a/\g x a)(k:∀x a,b x a->c x a->d x a->e x a->f x a->g x a->P):P:=aq h λx a h=>pc h (k x a)
theorem xD{g i j:Type}{c d e f:g->i->j->Prop}{P:Prop}(h:∃x a b,c x a b/\d x a b/\e x a b/\f x a b)(k:∀x a b,c x a b->d x a b->e x a b->f x a b->P):P:=cf h λx a b h=>ue h (k x a b)
theorem Ce{i j l:Type}{c d e f g:i->j->l->Prop}{P:Prop}(h:∃x a b,c x a b/\d x a b/\e x a b/\f x a b/\g x a b)(k:∀x a b,c x a b->d x a b->e x a b->f x a b->g x a b->P):P:=cf h λx a b h=>pb h (k x a b)
theorem dQ{c d:Type}{b:c->d->Prop}(x)(a)(h:b x a):∃x a,b x a:=⟨x,⟨a,h⟩⟩
theorem nJ{d e f:Type}{c:d->e->f->Prop}(x)(a)(b)(h:c x a b):∃x a b,c x a b:=⟨x,dQ a b h⟩
theorem ko{e f g i:Type}{d:e->f->g->i->Prop}(x)(a)(b)(c)(h:d x a b c):∃x a b c,d x a b c:=⟨x,nJ a b c h⟩
theorem mm{f g i j k:Type}{e:f->g->i->j->k->Prop}(x)(a)(b)(c)(d)(h:e x a b c d):∃x a b c d,e x a b c d:=⟨x,ko a b c d h⟩
theorem Cn{g i j k l m:Type}{f:g->i->j->k->l->m->Prop}(x)(a)(b)(c)(d)(e)(h:f x a b c d e):∃x a b c d e,f x a b c d e:=⟨x,mm a b c d e h⟩
theorem Co{i j k l m n o:Type}{g:i->j->k->l->m->n->o->Prop}(x)(a)(b)(c)(d)(e)(f)(h:g x a b c d e f):∃x a b c d e f,g x a b c d e f:=⟨x,Cn a b c d e f h⟩
theorem aK(h:a)(d:b)(e:c):a/\b/\c:=⟨h,⟨d,e⟩⟩
theorem da(h:a)(e:b)(f:c)(g:d):a/\b/\c/\d:=⟨h,aK e f g⟩
theorem iD(h:a)(e:b)(g:c)(i:d)(j:f):a/\b/\c/\d/\f:=⟨h,da e g i j⟩
theorem jx(h:a)(e:b)(i:c)(j:d)(k:f)(l:g):a/\b/\c/\d/\f/\g:=⟨h,iD e i j k l⟩
theorem KF(h:a)(e:b)(j:c)(k:d)(l:f)(m:g)(n:i):a/\b/\c/\d/\f/\g/\i:=⟨h,jx e j k l m n⟩
theorem xG(h:a)(e:b)(k:c)(l:d)(m:f)(n:g)(o:i)(p:j):a/\b/\c/\d/\f/\g/\i/\j:=⟨h,KF e k l m n o p⟩
theorem KG(h:a)(e:b)(k:c)(m:d)(n:f)(o:g)(p:i)(q:j)(r:l):a/\b/\c/\d/\f/\g/\i/\j/\l:=⟨h,xG e k m n o p q r⟩
theorem KH(h:a)(e:b)(k:c)(n:d)(o:f)(p:g)(q:i)(r:j)(s:l)(t:m):a/\b/\c/\d/\f/\g/\i/\j/\l/\m:=⟨h,KG e k n o p q r s t⟩
theorem ag{d:Type}{a b:d->Prop}(x)(h:a x)(c:b x):∃x,a x/\b x:=⟨x,⟨h,c⟩⟩
theorem bi{f:Type}{a b c:f->Prop}(x)(h:a x)(d:b x)(e:c x):∃x,a x/\b x/\c x:=⟨x,aK h d e⟩
theorem fQ{i:Type}{a b c d:i->Prop}(x)(h:a x)(e:b x)(f:c x)(g:d x):∃x,a x/\b x/\c x/\d x:=⟨x,da h e f g⟩
theorem pk{k:Type}{a b c d f:k->Prop}(x)(h:a x)(e:b x)(g:c x)(i:d x)(j:f x):∃x,a x/\b x/\c x/\d x/\f x:=⟨x,iD h e g i j⟩
theorem nI{m:Type}{a b c d f g:m->Prop}(x)(h:a x)(e:b x)(i:c x)(j:d x)(k:f x)(l:g x):∃x,a x/\b x/\c x/\d x/\f x/\g x:=⟨x,jx h e i j k l⟩
theorem xH{o:Type}{a b c d f g i:o->Prop}(x)(h:a x)(e:b x)(j:c x)(k:d x)(l:f x)(m:g x)(n:i x):∃x,a x/\b x/\c x/\d x/\f x/\g x/\i x:=⟨x,KF h e j k l m n⟩
theorem Cj{q:Type}{a b c d f g i j:q->Prop}(x)(h:a x)(e:b x)(k:c x)(l:d x)(m:f x)(n:g x)(o:i x)(p:j x):∃x,a x/\b x/\c x/\d x/\f x/\g x/\i x/\j x:=⟨x,xG h e k l m n o p⟩
theorem dE{e f:Type}{b c:e->f->Prop}(x)(a)(h:b x a)(d:c x a):∃x a,b x a/\c x a:=dQ x a ⟨h,d⟩
theorem an{g i:Type}{b c d:g->i->Prop}(x)(a)(h:b x a)(e:c x a)(f:d x a):∃x a,b x a/\c x a/\d x a:=dQ x a (aK h e f)
theorem dR{j k:Type}{b c d e:j->k->Prop}(x)(a)(h:b x a)(f:c x a)(g:d x a)(i:e x a):∃x a,b x a/\c x a/\d x a/\e x a:=dQ x a (da h f g i)
theorem xI{l m:Type}{b c d e f:l->m->Prop}(x)(a)(h:b x a)(g:c x a)(i:d x a)(j:e x a)(k:f x a):∃x a,b x a/\c x a/\d x a/\e x a/\f x a:=dQ x a (iD h g i j k)
theorem rr{n o:Type}{b c d e f g:n->o->Prop}(x)(a)(h:b x a)(i:c x a)(j:d x a)(k:e x a)(l:f x a)(m:g x a):∃x a,b x a/\c x a/\d x a/\e x a/\f x a/\g x a:=dQ x a (jx h i j k l m)
theorem ml{f g i:Type}{c d:f->g->i->Prop}(x)(a)(b)(h:c x a b)(e:d x a b):∃x a b,c x a b/\d x a b:=nJ x a b ⟨h,e⟩
theorem Cm{i j k:Type}{c d e:i->j->k->Prop}(x)(a)(b)(h:c x a b)(f:d x a b)(g:e x a b):∃x a b,c x a b/\d x a b/\e x a b:=nJ x a b (aK h f g)
theorem xJ{k l m:Type}{c d e f:k->l->m->Prop}(x)(a)(b)(h:c x a b)(g:d x a b)(i:e x a b)(j:f x a b):∃x a b,c x a b/\d x a b/\e x a b/\f x a b:=nJ x a b (da h g i j)
theorem xK{m n o:Type}{c d e f g:m->n->o->Prop}(x)(a)(b)(h:c x a b)(i:d x a b)(j:e x a b)(k:f x a b)(l:g x a b):∃x a b,c x a b/\d x a b/\e x a b/\f x a b/\g x a b:=nJ x a b (iD h i j k l)
theorem c'{c d:Type}{a b:c->d->Prop}(h:∃x y,a x y)(k:∀x y,a x y->b x y):∃x y,b x y:=h.imp λx h=>h.imp (k x)
theorem mi{c d e:Type}{a b:c->d->e->Prop}(h:∃x y z,a x y z)(k:∀x y z,a x y z->b x y z):∃x y z,b x y z:=h.imp λx h=>c' h (k x)
theorem rq{c d e f:Type}{a b:c->d->e->f->Prop}(h:∃x y z w,a x y z w)(k:∀x y z w,a x y z w->b x y z w):∃x y z w,b x y z w:=h.imp λx h=>mi h (k x)
theorem xF{c d e f g:Type}{a b:c->d->e->f->g->Prop}(h:∃x y z w v,a x y z w v)(k:∀x y z w v,a x y z w v->b x y z w v):∃x y z w v,b x y z w v:=h.imp λx h=>rq h (k x)
theorem Ch{c d e f g i:Type}{a b:c->d->e->f->g->i->Prop}(h:∃x y z w v u,a x y z w v u)(k:∀x y z w v u,a x y z w v u->b x y z w v u):∃x y z w v u,b x y z w v u:=h.imp λx h=>xF h (k x)
theorem am{a b c:Nat}(h:a<=b)(k:b<=c):a<=c:=aV h k
theorem aP{a b c:Nat}(h:a<=b)(e:cV b c=D):a<=c:=aV h (bH e)
theorem aQ(h:a<=b)(d:Nat):a+d<=b+d:=rG h d
theorem gJ{a b c d:Nat}(h:a<=b)(e:cV (b+d) c=D):a+d<=c:=aP (aQ h d) e
theorem eY{a b k:Nat}(h:a+k<=b):a<=b:=aV (bX a k) h
theorem so(h:a+1<=b):a<b:=h
theorem bB{a b c:Nat}(h:a<=b)(e:cV (b+1) c=D):a<c:=cO (R7 h) (bH e)
theorem iS{a b c d:Nat}(h:a<=b)(e:cV (b+d+1) c=D):a+d<c:=bB (aQ h d) e
theorem MG{a b c:Nat}(e:cV c b=D)(h:b<=a):c<=a:=aV (bH e) h
theorem ct{a b:Nat}(h:a=b):a<=b:=pv h
theorem cW{a b:Nat}(h:a=b):b<=a:=pv h.symm
theorem uN{a b c:Nat}(e:cV b c=D):a+b<=a+c:=dT (bH e) a
theorem mG{a i j:Nat}(e:cV (i+1) j=D):a+i<a+j:=ht (bH e) a
theorem uM(e:cV 1 j=D):a<a+j:=px (bH e)
theorem gq{a i j m:Nat}(h:a+j<=m)(e:cV (i+1) j=D):a+i<m:=cO (mG e) h
theorem DJ{a j m:Nat}(h:a+j<=m)(e:cV 1 j=D):a<m:=cO (uM e) h
theorem W1{a i j:Nat}{P:Prop}(h:a+i<=a+j)(e:cV i j=I):P:=ak (er (Nat.le_of_add_le_add_left h)) (λq=>xR (q.symm.trans e))
theorem DK{P:Prop}(h:a+(i+1)<=a):P:=ak h (rI (px (lq i)))
theorem DI:a+(i+1)≠a:=cC (px (lq i))
theorem iT:a≠a+(i+1):=bw (px (lq i))
theorem eB{a i j:Nat}(e:M i j=I):a+i≠a+j:=λh=>yb e (CT h)
set_option genCtorIdx false in
inductive fT where
 |a (n:Nat)|b (c:Nat)|c (x y:fT)|f (c:Nat) (x:fT)|d (x y:fT)|g (x:fT)
set_option genCtorIdx false in
inductive hy where
 |b|a (w:Nat) (x y:fT) (t:hy)|c (w:Int) (x y:fT) (t:hy)
noncomputable def lM(a:List Int):List Int->List Int:=ds (λb=>b) (λx z r b=>ds (x::r []) (λy t z=>(x+y)::r t) b) a
noncomputable def kS(c:Int)(a:List Int):List Int:=ds [] (λx z r=>(c*x)::r) a
noncomputable def GS(n:Nat):List Int:=bf [1] (λz l=>0::l) n
def fT.i(k:Bool)(x:fT):List Int:=fT.rec (λn=>GS (n+1)) (λj=>[iG j]) (λz z x y=>lM x y) (λj z x=>kS j x) (λz z x y=>a' [] (lM x (kS (-1) y)) k) (λz x=>a' [] (kS (-1) x) k) x
def qy(b)(x y:fT):=lM (y.i b) (kS (-1) (x.i b))
def hy.d(f:Bool)(g:hy):List Int:=hy.rec [] (λw x y z r=>lM r (kS w (qy f x y))) (λw x y z r=>lM r (kS w (qy f x y))) g
noncomputable def wb{a:Type}(d:a)(c:List a):Nat->a:=ds (λz=>d) (λb z r n=>bf b (λn z=>r n) n) c
def fT.e(j:List Nat)(x:fT):Nat:=fT.rec (λn=>wb 0 j n) (λj=>j) (λz z x y=>x+y) (λj z x=>j*x) (λz z z z=>0) (λz z=>0) x
def fT.h(j:List Int)(x:fT):Int:=fT.rec (λn=>wb 0 j n) (λj=>iG j) (λz z x y=>x+y) (λj z x=>iG j*x) (λz z x y=>x-y) (λz x=> -x) x
noncomputable def hy.e(f:List Nat)(g:hy)(P:Prop):Prop:=hy.rec P (λz x y z r=>x.e f<=y.e f->r) (λz x y z r=>x.e f=y.e f->r) g
noncomputable def hy.h(f:List Int)(g:hy)(P:Prop):Prop:=hy.rec P (λz x y z r=>x.h f<=y.h f->r) (λz x y z r=>x.h f=y.h f->r) g
noncomputable def eo(p:Nat->Int)(a:List Int):Nat->Int:=ds (λz=>0) (λx z r i=>x*p i+r (i+1)) a
theorem wg(p):∀a b i,eo p (lM a b) i=eo p a i+eo p b i:=λa=>by
 induction a with
 |nil=>exactλb i=>(nQ _).symm
 |cons x a h=>exactλb=>match b with|[]=>λi=>(O (x*p i+ ·) ((h [] _).trans (rC _))).trans (rC _).symm|y::b=>λi=>(congr (O _ (M1 x y _)) (h b _)).trans ((rA _ _ _).trans ((O _ (M0 _ _ _)).trans (rA _ _ _).symm))
theorem tj(p)(c)(a):∀i,eo p (kS c a) i=c*eo p a i:=by
 induction a with|nil=>exactλi=>(Ld c).symm|cons x a h=>exactλi=>(congr (O _ (Int.mul_assoc c x _)) (h _)).trans (Int.mul_add c _ _).symm
theorem GE(p)(n):∀i,eo p (GS n) i=p (i+n):=by
 induction n with|zero=>exactλi=>(rC _).trans (M8 _)|succ n h=>exactλi=>(congr (O HAdd.hAdd (CI _)) (h _)).trans ((nQ _).trans (O p (S4 i n)))
def wm(c:List Nat)(n:Nat):Int:=bf 1 (λn z=>iG (wb 0 c n)) n
def Aa(c:List Int)(n:Nat):Int:=bf 1 (λn z=>wb 0 c n) n
theorem GD(p)(h:p 0=1)(c):eo p [c] 0=c:=(rC _).trans ((O _ h).trans (CD c))
theorem wk(p)(a b):eo p (lM a (kS (-1) b)) 0=eo p a 0-eo p b 0:=(wg p a _ 0).trans ((O _ ((tj p (-1) b 0).trans (M7 _))).trans Int.sub_eq_add_neg.symm)
theorem Hl(c)(x:fT):eo (wm c) (x.i I) 0=iG (x.e c):=by
 induction x with|a n=>exact(GE _ _ 0).trans (O _ (ie (n+1)))|b n=>exact GD _ A n|c x y h i=>exact(wg _ _ _ 0).trans (congr (O _ h) i)|f n x h=>exact(tj _ _ _ 0).trans (O _ h)|d x y=>exact A|g x=>exact A
theorem Hm(c)(x:fT):eo (Aa c) (x.i D) 0=x.h c:=by
 induction x with|a n=>exact(GE _ _ 0).trans (O _ (ie (n+1)))|b n=>exact GD _ A n|c x y h i=>exact(wg _ _ _ 0).trans (congr (O _ h) i)|f n x h=>exact(tj _ _ _ 0).trans (O _ h)|d x y h i=>exact(wk _ _ _).trans (congr (O _ h) i)|g x h=>exact(tj _ _ _ 0).trans ((M7 _).trans (O _ h))
theorem wi(c)(x y):eo (wm c) (qy I x y) 0=iG (y.e c)-iG (x.e c):=(wk _ _ _).trans (congr (O _ (Hl c y)) (Hl c x))
theorem wj(c)(x y):eo (Aa c) (qy D x y) 0=y.h c-x.h c:=(wk _ _ _).trans (congr (O _ (Hm c y)) (Hm c x))
theorem wn(h:0<=eo p a 0)(k:0<=w*eo p b 0):0<=eo p (lM a (kS w b)) 0:=((wg p a _ 0).trans (O _ (tj p w b 0))).symm▸xS h k
theorem GH(c)(f:hy):∀{P},(0<=eo (wm c) (f.d I) 0->P)->f.e c P:=by
 induction f with|b=>exactλh=>h (bt 0)|a w x y t i=>exactλh g=>i λk=>h (wn k (Lc (nP w) ((wi c x y).symm▸M9 (CG.mpr g))))|c w x y t i=>exactλh g=>i λk=>h (wn k (xU (((O _ ((wi c x y).trans (O (iG _-iG ·) g|>.trans (Lg _)))).trans (Ld w)).symm)))
theorem GI(c)(f:hy):∀{P},(0<=eo (Aa c) (f.d D) 0->P)->f.h c P:=by
 induction f with|b=>exactλh=>h (bt 0)|a w x y t i=>exactλh g=>i λk=>h (wn k (Lc (nP w) ((wj c x y).symm▸M9 g)))|c w x y t i=>exactλh g=>i λk=>h (wn k (xU (((O _ ((wj c x y).trans (O _ g|>.trans (Lg _)))).trans (Ld w)).symm)))
noncomputable def zW(a:List Int):Bool:=ds D (λx z r=>Cz (decide (0<=x)) r) a
noncomputable def GW(a:List Int):Bool:=ds D (λx z r=>Cz (decide (x=0)) r) a
def zX(a:List Int):Bool:=ds D (λx t z=>Cz (decide (0<=x)) (GW t)) a
theorem yD{P:Prop}(h:Cz a b=D)(k:a=D->b=D->P):P:=by cases a with|true=>exact k A h|false=>exact xR h
theorem GM(b:∀n,0<=p n)(a):∀i,zW a=D->0<=eo p a i:=by
 induction a with|nil=>exactλi z=>bt 0|cons x a h=>exactλi e=>yD e λe k=>xS (Lc (of_decide_eq_true e) (b i)) (h _ k)
theorem SW(p)(a):∀i,GW a=D->eo p a i=0:=by
 induction a with|nil=>exactλi z=>A|cons x a h=>exactλi e=>yD e λe k=>(congr (O _ ((O (· *p i) (of_decide_eq_true e)).trans (CI _))) (h _ k)).trans (nQ 0)
theorem GN(h:p 0=1)(a):zX a=D->0<=eo p a 0:=by cases a with|nil=>exactλz=>bt 0|cons x a=>exactλe=>yD e λe k=>xS ((O (x* ·) h).symm▸(CD x).symm▸of_decide_eq_true e) (xU (SW p a 1 k).symm)
theorem GQ(c)(n):0<=wm c n:=by cases n with|zero=>exact Int.one_nonneg|succ n=>exact nP _
def th(b)(f:hy)(x y):=lM (qy b x y) (kS (-1) (f.d b))
theorem we(h:0<=eo p (th b f x y) 0)(k:0<=eo p (f.d b) 0):0<=eo p (qy b x y) 0:=dj k (xV (wk p _ _▸h))
theorem ap(c)(f)(x y)(e:zW (th I f x y)=D):f.e c (x.e c<=y.e c):=GH c f λk=>CG.mp (xV (wi c x y▸we (GM (GQ c) _ 0 e) k))
theorem aG(c)(f)(x y)(e:zX (th D f x y)=D):f.h c (x.h c<=y.h c):=GI c f λk=>xV (wj c x y▸we (GN A _ e) k)
theorem pQ(c)(f)(e:zW (th I f (.b 1) (.b 0))=D):f.e c a:=GH c f λk=>ak (CG.mp (xV (wi c (.b 1) (.b 0)▸we (GM (GQ c) _ 0 e) k))) (S1 0)
theorem jP(c)(f)(e:zX (th D f (.b 1) (.b 0))=D):f.h c a:=GI c f λk=>ak (xV (wj c (.b 1) (.b 0)▸we (GN A _ e) k)) (by decide:¬(Int.ofNat 1<=Int.ofNat 0))
theorem tF(h:j<n):b+10*j<b+10*n:=ht (Nat.mul_lt_mul_of_pos_left h (by decide)) b
theorem qT(h:j<n):b+10*j+1<b+10*n:=ap [_,_,_] (.a 10 (.c (.a 0) (.b 1)) (.a 1) .b) (.c (.c (.c (.a 2) (.f 10 (.a 0))) (.b 1)) (.b 1)) (.c (.a 2) (.f 10 (.a 1))) A h
theorem AF:b<=b+10*j+1:=jD (bX _ _)
theorem ng{a:Nat}(h:∀x∈l,a≠x)(k:l.Nodup):(a::l).Nodup:=fF.mpr ⟨λm=>h a m A,k⟩
theorem UD:b+10*i+1≠b+10*j:=λe=>ak (O (· %10) (CT ((gX b _ 1).symm.trans e))) (by rw[Nat.mul_add_mod,Nat.mul_mod_right];decide)
inductive af where
 |d (n:Nat)
 |c (n:Nat)
set_option genCtorIdx false in
inductive bM where
 |a (i:Int)
 |b (k:Nat) (c:Int)
inductive E where
 |f|g
 |c (b:Bool)
 |a (z:bM)
 |e (k:Nat)
 |d (l:List E)
 |h (l:List E)
 |b (a:af)
inductive bq where
 |f|c
 |a (l:List E)
 |g (l:List E)
 |b (a:List (E×E)) (e:Nat)
 |d (l:List E)
 |e (c:Nat) (f:List (Nat×E))
noncomputable def Y{a b:Type}(x:Option a)(f:a->Option b):Option b:=dc .none f x
noncomputable def aI{a:Type}(b:Bool)(x:Option a):Option a:=a' .none x b
noncomputable def af.e:af->af->Bool
 |.d j,i=>match i with|.d i=>M j i|.c _=>I
 |.c j,i=>match i with|.d _=>I|.c i=>M j i
noncomputable def af.a:af->Bool
 |.d n=>cV 16 n
 |.c _=>D
structure cl where
 a:Nat->List Nat
 f:Nat->Int
 e:Nat->Int
 h:Nat->Nat->Option Int
 b:List (Nat×bM×bM×bM)
 i:List (Nat×Nat×List (Int×Nat))
noncomputable def F:cl:=⟨λk=>[k],λz=>0,λz=>0,λz z=>.none,[],[]⟩
def bM.c:bM->Int
 |.a i=>i
 |.b _ d=>d
noncomputable def bM.e:bM->bM->Bool
 |.a i,d=>match d with|.a j=>i==j|.b _ _=>I
 |.b k f,d=>match d with|.a _=>I|.b h g=>M k h&&(f==g)
def cl.d(F:cl)(o:Nat)(j k:bM):List (Nat×bM×bM×bM)->Option bM
 |[]=>.none
 |(n,l,m,r)::t=>bif M o n&&j.e l&&k.e m then B r else F.d o j k t
noncomputable def cl.g(F:cl)(m:Nat)(j:Int)(n:Nat)(k:Int):Bool:=match F.h m n with
 |some l=>decide (0<l+j-k)
 |.none=>I
def cl.c(F:cl)(j k):=(F.d 3 j k F.b).isSome||(F.d 3 k j F.b).isSome
noncomputable def xM(F:cl)(k)(c i):=bif decide (i-c<F.f k)||decide (F.e k<i-c)then B I else .none
def po(F)(e b:bM):=match e with
 |.a i=>match b with|.a j=>B (i==j)|.b k c=>xM F k c i
 |.b k c=>match b with
  |.a i=>xM F k c i
  |.b a d=>bif M k a then B (c==d)else bif F.g k c a d||F.g a d k c||F.c (.b k c) (.b a d)then B I else .none
noncomputable def ry(F:cl)(a b:bM):=match a with
 |.a i=>match b with|.a j=>B (decide (i<j))|.b k c=>bif decide (i<F.f k+c)then B D else bif decide (F.e k+c<=i)then B I else .none
 |.b k c=>match b with|.a i=>bif decide (F.e k+c<i)then B D else bif decide (i<=F.f k+c)then B I else .none|.b _ _=>.none
noncomputable def hV(F:cl)(a b:Nat):=
 bif M a b then B D
 else bif(F.a a).all (λi=>(F.a b).all (λj=>!(M i j)))then B I else .none
noncomputable def aF:E->Bool
 |.f=>D
 |_=>I
noncomputable def dw:E->Option bM
 |.a z=>B z
 |_=>.none
noncomputable def hE:E->Option (List E)
 |.d l=>B l
 |_=>.none
noncomputable def hC:E->Option af
 |.b a=>B a
 |_=>.none
noncomputable def hD:E->Option Nat
 |.e k=>B k
 |_=>.none
noncomputable def K9:E->Option (Option bM)
 |.c b=>B (B (.a (bif b then 1 else 0)))
 |.a z=>B (B z)
 |.f=>.none
 |.b _=>.none
 |_=>B .none
def KP(F)(x)(b):=Y (K9 b) λo=>dc (B I) (λy=>po F x y) o
noncomputable def sn(b:E):Option Bool:=match b with
 |.f=>.none
 |.b _=>.none
 |_=>B I
mutual
def eL(F:cl):E->E->Option Bool
 |.g,b=>match b with|.g=>B D|b=>sn b
 |.c x,b=>match b with|.c y=>B (x==y)|b=>KP F (.a (bif x then 1 else 0)) b
 |.a x,b=>KP F x b
 |.e x,b=>match b with|.e y=>hV F x y|b=>sn b
 |.d x,b=>match b with|.d y=>io F x y|b=>sn b
 |.h x,b=>match b with|.h y=>io F x y|b=>sn b
 |.f,_=>.none
 |.b _,_=>.none
termination_by structural x=>x
def io(F:cl):List E->List E->Option Bool
 |[],b=>match b with|[]=>B D|_::_=>B I
 |x::a,b=>match b with|[]=>B I|y::c=>Y (eL F x y) λt=>a' (B I) (io F a c) t
termination_by structural x=>x
end
structure HOps(H:Type) where
 a:H->af->bq
 d:H->af->bq->H
 e:af->Bool
 g:∀l j o k,e j=D->a (d l j o) k=bif af.e k j then o else a l k
structure S(H:Type) where
 b:H
 a:Nat
noncomputable def ce:bq->Option (List E)
 |.a l=>B l
 |_=>.none
noncomputable def dy:bq->Option (List (E×E)×Nat)
 |.b a e=>B (a,e)
 |_=>.none
noncomputable def X4:bq->Option (List E)
 |.d l=>B l
 |_=>.none
noncomputable def qP:bq->Option (Nat×List (Nat×E))
 |.e c f=>B (c,f)
 |_=>.none
noncomputable def qO:bq->Option Unit
 |.f=>B ()
 |_=>.none
mutual
def sJ(r:Nat->af->Option E):E->Nat->Option E
 |.d l,n=>bf .none (λn g=>Y (jX r l n) λc=>B (.d c)) n
 |.b a,n=>r n a
 |.f,_=>.none
 |.g,_=>B .g
 |.c b,_=>B (.c b)
 |.a z,_=>B (.a z)
 |.e k,_=>B (.e k)
 |.h _,_=>.none
termination_by structural x=>x
def jX(r:Nat->af->Option E):List E->Nat->Option (List E)
 |[],_=>B []
 |x::e,n=>Y (sJ r x n) λd=>Y (jX r e n) λf=>B (d::f)
termination_by structural x=>x
end
def mP(b:HOps a)(h:a)(k:Nat):Nat->af->Option E:=
 bf (λz z=>.none) (λz i n c=>Y (ce (b.a h c)) λl=>bf .none (λn z=>Y (jX i l n) λd=>B (.h d)) n) k
def dZ(b):=bif aF b then .none else B b
def ch(F:cl)(k:E):List (E×E)->Option (Option E)
 |[]=>B .none
 |p::r=>Y (eL F p.1 k) λt=>a' (ch F k r) (B (dZ p.2)) t
def hH(F:cl)(k v:E):List (E×E)->Option (List (E×E))
 |[]=>B [(k,v)]
 |p::r=>Y (eL F p.1 k) λt=>a' (Y (hH F k v r) λa=>B (p::a)) (B ((p.1,v)::r)) t
def kJ(F:cl)(k:E):List (E×E)->Option (List (E×E))
 |[]=>B []
 |p::r=>Y (eL F p.1 k) λt=>a' (Y (kJ F k r) λa=>B (p::a)) (B r) t
def dG(e:List (E×E)):=e.all λp=>!(aF p.1)&&!(aF p.2)
def fx(F:cl)(z:bM):List E->Option Bool
 |[]=>B I
 |a::r=>Y (dw a) λy=>Y (po F y z) λt=>Y (fx F z r) λu=>B (t||u)
noncomputable def mY(i:Nat):E->Bool
 |.e j=>M i j
 |_=>I
noncomputable def qx:E->Bool
 |.e j=>ar j 1000
 |_=>I
def qE(F:cl)(k)(l:List E):=
 bif l.all qx then
  bif(F.a k).all (λi=>l.any (mY i))then B D else bif(F.a k).all (λi=>!(l.any (mY i)))then B I else .none
 else .none
def lP(F)(s:Nat->Nat->Option Bool)(a b:E):=match a with
 |.a x=>Y (dw b) λy=>ry F x y
 |.e x=>Y (hD b) λy=>s x y
 |_=>.none
noncomputable def lG:E->Bool
 |.a _=>D
 |.e _=>D
 |_=>I
def kT(F:cl)(s:Nat->Nat->Option Bool):List E->List E->Option Bool
 |[],b=>match b with|[]=>B I|_::_=>B D
 |x::a,b=>match b with|[]=>B I|y::c=>aI (lG x&&lG y) (Y (eL F x y) λt=>a' (lP F s x y) (kT F s a c) t)
def lQ(F)(s:Nat->Nat->Option Bool)(a b:E):=match a with
 |.d x=>Y (hE b) λy=>kT F s x y
 |a=>lP F s a b
theorem E.i{P:E->Prop}{Q:List E->Prop}(k:P .f)(m:P .g)(n:∀m,P (.c m))(o:∀z,P (.a z))(p:∀w,P (.e w))(q:∀l,Q l->P (.d l))(r:∀l,Q l->P (.h l))(s:∀k,P (.b k))(t:Q [])(u:∀v l,P v->Q l->Q (v::l)):(∀v,P v)/\∀l,Q l:=
 ⟨E.rec k m n o p q r s t u,E.rec_1 k m n o p q r s t u⟩
noncomputable def Z{a:Type}(l:List a):Nat->Option a:=ds (λz=>.none) (λb z i n=>bf (B b) (λn z=>i n) n) l
def fc(l:List a):Nat->a->Option (List a):=ds (λz z=>.none) (λb r i n v=>bf (B (v::r)) (λn z=>Y (i n v) λr=>B (b::r)) n) l
inductive ls where
 |b|c|e|d|a|f
inductive nV where
 |a|c|e|d|h|g|i|j|b|f
set_option genCtorIdx false in
inductive dN where
 |a (i:Nat)
 |e (l:List dN)
set_option genCtorIdx false in
inductive aJ where
 |b (v:E)
 |a (i:Nat)
 |j (j:Nat)
 |c (e:aJ) (f:Nat)
 |f (e i:aJ)
 |n (e d h:aJ)
 |v (e:aJ)
 |i (o:ls) (a b:aJ)
 |p (a:aJ)
 |s (a:aJ)
 |l (l:List aJ)
 |q (l:List aJ)
 |e (o:nV) (a b:aJ)
 |o (t a b:aJ)
 |d (l:List aJ)
 |g (s:Option Nat) (l:List aJ)
 |r (s:Option Nat)
 |w (e:aJ)
 |k (f:Nat) (l:List aJ)
 |t (c:Nat) (s:Option Nat) (l:List aJ)
 |m (b:Nat) (l:List aJ)
 |h (e:aJ) (m:Nat) (l:List aJ)
 |u (b:aJ) (t:dN) (i:aJ) (q:Option aJ)
set_option genCtorIdx false in
inductive kx where
 |a (i:Nat)
 |c (e:aJ) (f:Nat)
set_option genCtorIdx false in
inductive sh where
 |d (e:aJ)
 |b (l:List aJ)
 |a (e:aJ)
set_option genCtorIdx false in
inductive de where
 |c (i:Nat) (e:aJ)
 |f (o:aJ) (f:Nat) (e:aJ)
 |i (o i e:aJ)
 |e (t:List kx) (e:aJ)
 |h (o:aJ) (f:Nat) (e:aJ)
 |l (o i e:aJ)
 |d (e:aJ)
 |a (t:aJ) (a b:List de)
 |j (t:aJ) (b:List de)
 |g (t:dN) (i:sh) (b:List de)
 |b (e:aJ)
 |k
inductive cQ where
 |a|c
 |b (v:E)
structure bx where
 b:Nat
 c:Nat
 a:List de
structure yp where
 c:Nat->Option bx
 h:Nat->Nat->Option Nat
 g:Nat->Option Nat
 b:Nat->E
 d:Nat->Nat->Option Nat
 f:Nat->Nat->Option Nat
 n:Nat->Nat->Option Bool
 e:Int->Option Nat
 a:Nat->Nat->Bool
structure eT(H) extends HOps H where
 b:cl
 c:yp
 f:Nat
abbrev av(H)(a:Type):=Option (a×S H)
abbrev aC:=List E
noncomputable def aB(x:av a b)(f:b->S a->av a c):av a c:=dc .none (Prod.rec (λd s=>f d s)) x
def qv{H a}(x:Option a)(s:S H):av H a:=Y x λb=>B (b,s)
noncomputable def eQ(z):=decide (-1000000<z)&&decide (z<1000000)
noncomputable def cG(f:Nat)(l:List (Nat×E)):Option E:=ds .none (λp z i=>a' i (B p.2) (M p.1 f)) l
noncomputable def hh(f:Nat)(v:E)(l:List (Nat×E)):List (Nat×E):=ds [(f,v)] (λp r i=>a' (p::i) ((f,v)::r) (M p.1 f)) l
noncomputable def bN:E->Nat
 |.a _=>1
 |.e _=>2
 |.d _=>3
 |_=>0
mutual
noncomputable def cH:E->Nat->Bool
 |.a _,_=>D
 |.e _,_=>D
 |.c _,_=>D
 |.d l,n=>bf I (λn z=>hJ l n) n
 |_,_=>I
termination_by structural x=>x
noncomputable def hJ:List E->Nat->Bool
 |[],_=>D
 |x::r,n=>cH x n&&hJ r n
termination_by structural x=>x
end
mutual
noncomputable def jn:E->Bool
 |.a _=>D
 |.e _=>D
 |.d l=>nn l
 |_=>I
termination_by structural x=>x
noncomputable def nn:List E->Bool
 |[]=>D
 |x::r=>jn x&&nn r
termination_by structural x=>x
end
def fb(k)(e:List (E×E)):=(cH k 6&&!(M (bN k) 0)&&match e with
 |[]=>D
 |p::_=>M (bN p.1) (bN k))&&(jn k||dG e)
def zZ(F)(k)(e:List _):=dG e||match ch F k e with
 |some o=>o.isNone
 |.none=>I
noncomputable def jz:bM->Option Int
 |.a i=>B i
 |.b _ _=>.none
def oE(v):=Y (dw v) λz=>Y (jz z) λi=>match i with
 |.ofNat n=>B n
 |.negSucc _=>.none
def jQ(l:List E)(i:Int):=match i with
 |.ofNat n=>Z l n
 |.negSucc n=>aI (ar n l.length) (Z l (l.length-1-n))
def sQ(l)(v):=Y (dw v) λz=>Y (jz z) λi=>jQ l i
def ua(l:List E)(c:Int):List (Int×Nat)->Bool
 |[]=>D
 |p::r=>(match jQ l (p.1+c)with
  |some v=>mY p.2 v
  |.none=>I)&&ua l c r
def wT(l:List E)(k:Nat)(c:Int):List (Nat×Nat×List (Int×Nat))->Option E
 |[]=>.none
 |(a,w,g)::r=>bif M k a&&ua l c g then B (.e w)else wT l k c r
def vD(F:cl)(l)(v):=Y (dw v) λz=>match z with
 |.a i=>jQ l i
 |.b k c=>wT l k c F.i
def hf(x:Option E)(s:S a):av a E:=Y x λv=>a' (B (v,s)) .none (aF v)
def Cx:ls->Int->Int->Option Int
 |.b,a,b=>B (a+b)
 |.c,a,b=>B (a-b)
 |.e,a,b=>aI (eQ a&&eQ b) (B (a*b))
 |.d,a,b=>aI (!(b==0)&&eQ b) (B (fD a b))
 |.a,a,b=>aI (!(b==0)) (B (cs a b))
 |.f,a,b=>match a with
  |.ofNat a=>(match b with
   |.ofNat b=>B (.ofNat (Nat.land a b))
   |.negSucc _=>.none)
  |.negSucc _=>.none
def rz(F:cl)(o:ls)(a b:bM):Option bM:=match a with
 |.a a=>(match b with
  |.a b=>Y (Cx o a b) λc=>B (.a c)
  |.b k c=>(match o with
   |.b=>B (.b k (a+c))
   |_=>.none))
 |.b k c=>(match b with
  |.a b=>(match o with
   |.b=>B (.b k (c+b))
   |.c=>B (.b k (c-b))
   |.d=>aI (eQ b) (F.d 0 (.b k c) (.a b) F.b)
   |.a=>F.d 1 (.b k c) (.a b) F.b
   |_=>.none)
  |.b j d=>(match o with
   |.b=>F.d 2 (.b k c) (.b j d) F.b
   |.c=>bif M k j then B (.a (c-d))else .none
   |_=>.none))
noncomputable def qZ(a b:E):=match b with
 |.g=>(match a with
  |.g=>B D
  |.f=>.none
  |_=>B I)
 |_=>.none
def su(d)(v:E):=match v with
 |.g=>B d
 |v=>oE v
noncomputable def lX(a:Int)(n:Nat):List E:=bf (λz=>[]) (λz i a=>.a (.a a)::i (a+1)) n a
def sW:List E->Option (List Int)
 |[]=>B []
 |v::r=>Y (dw v) λz=>Y (jz z) λi=>Y (sW r) λa=>B (i::a)
def oM(v):=Y (sW v) λi=>match i with
 |[n]=>aI (eQ n) (B (lX 0 n.toNat))
 |[a,b]=>aI (eQ a&&eQ b) (B (lX a (b-a).toNat))
 |[a,b,c]=>aI (a==0&&b==12&&c==4) (B [.a (.a 0),.a (.a 4),.a (.a 8)])
 |_=>.none
section
variable{b:Type}(a:eT b)
def nv(h)(v:E):=match v with
 |.g=>B I
 |.c d=>B d
 |.a z=>Y (po a.b z (.a 0)) λd=>B (!d)
 |.b e=>Y (ce (a.a h e)) λl=>B (!l.isEmpty)
 |_=>.none
def rk(v)(s):=qv (nv a s.b v) s
def qH(d:af)(o:bq)(s:S b):av b E:=Y (qO (a.a s.b d)) λz=>aI (a.e d&&d.a&&ar s.a a.f) (B (.b d,⟨a.d s.b d o,s.a+1⟩))
def fL(k:Option Nat)(o)(s):=qH a (dc (.c s.a) (λk=>.d k) k) o s
def nw(d:af)(o:bq)(s:S b):av b Unit:=aI (d.a&&a.e d&&ar s.a a.f) (B ((),⟨a.d s.b d o,s.a+1⟩))
def kj(d)(o)(v:E)(s):=aB (nw a d o s) λz s=>B (v,s)
def fM(l:List E)(s:S b):av b E:=aI (ar l.length a.f) (fL a .none (.a l) s)
def lH(d)(s:S b):=Y (hC d) λx=>ce (a.a s.b x)
def uU(o:ls)(e d:E)(s:S b):av b E:=match e with
 |.a x=>Y (dw d) λy=>Y (rz a.b o x y) λz=>B (.a z,s)
 |.e x=>match o with|.b=>Y (hD d) λy=>Y (a.c.d x y) λz=>B (.e z,s)|_=>.none
 |.b x=>match o with|.b=>Y (ce (a.a s.b x)) λl=>Y (lH a d s) λr=>fM a (l++r) s|.e=>Y (ce (a.a s.b x)) λl=>Y (oE d) λn=>aI (M l.length 1&&ar n a.f) (fM a (hs n (l.headD .f)) s)|_=>.none
 |_=>.none
def jW(h)(d):=sJ (mP a.toHOps h 3) d 20
def vg(h)(d e):=Y (jW a h d) λx=>Y (jW a h e) λy=>eL a.b x y
noncomputable def kR(h)(d:E):=match d with
 |.b x=>(match a.a h x with
  |.b _ _=>D
  |_=>I)
 |_=>I
def zB(h)(d):=Y (hC d) λx=>dy (a.a h x)
def hc(h:b)(d e:E):Option Bool:=a' (vg a h d e) (Y (zB a h d) λp=>Y (zB a h e) λq=>aI (dG p.1&&q.1.isEmpty) (B p.1.isEmpty)) (kR a h d)
def ne(d:E)(l:List E):=match d with
 |.e k=>qE a.b k l
 |.a z=>fx a.b z l
 |_=>.none
def to(d:E)(e:List (E×E)):Option Bool:=match d with
 |.e k=>aI (dG e) (qE a.b k (e.map (·.1)))
 |_=>Y (ch a.b d e) λo=>B o.isSome
def jc(d)(o:bq):=match o with
 |.a l=>ne a d l
 |.b e _=>aI (fb d e) (to a d e)
 |.d l=>Y (dw d) λz=>fx a.b z l
 |_=>.none
def sZ(h)(d e:E):=match e with
 |.d l=>ne a d l
 |.b r=>jc a d (a.a h r)
 |_=>.none
def qA(d e):=Y (dw d) λx=>Y (dw e) λy=>ry a.b x y
def yT(o:nV)(d e:E)(h:b):=match o with
 |.a=>hc a h d e
 |.c=>hc a h d e
 |.i=>qZ d e
 |.j=>qZ d e
 |.b=>sZ a h d e
 |.f=>sZ a h d e
 |.e=>lQ a.b a.c.n d e
 |.h=>qA a e d
 |.d=>qA a e d
 |.g=>qA a d e
noncomputable def sy:nV->Bool
 |.c=>D
 |.j=>D
 |.f=>D
 |.d=>D
 |.g=>D
 |_=>I
def va(o:nV)(d e:E)(s:S b):av b E:=Y (yT a o d e s.b) λt=>B (.c (xor (sy o) t),s)
def pY(e)(k):=aI (fb k e) (ch a.b k e)
def lI(o:bq)(i:E)(s:S b):=match o with
 |.a l=>hf (sQ l i) s
 |.b e _=>Y (pY a e i) λo=>Y o λv=>B (v,s)
 |_=>.none
def sV(d i:E)(s:S b):av b E:=match d with
 |.d l=>aI (ar l.length 100000) (hf (vD a.b l i) s)
 |.e k=>Y (oE i) λn=>Y (a.c.f k n) λe=>B (.e e,s)
 |.b r=>lI a (a.a s.b r) i s
 |_=>.none
def Bt(d e h:E)(s:S b):av b E:=Y (lH a d s) λl=>Y (su 0 e) λm=>Y (su l.length h) λn=>fM a ((l.take n).drop m) s
def AX(d:E)(s:S b):av b E:=Y (lH a d s) λl=>fM a l.reverse s
def sL(h)(d):=Y (hC d) λr=>Y (qP (a.a h r)) λp=>B (r,p)
def sM(d:E)(f:Nat)(s:S b):av b E:=Y (sL a s.b d) λp=>hf (cG f p.2.2) s
def kg(d:E)(f:Nat)(v:E)(s:S b):av b Unit:=Y (sL a s.b d) λp=>aI (a.c.a p.2.1 f&&ar p.2.2.length 1000) (aI (!(aF v)) (nw a p.1 (.e p.2.1 (hh f v p.2.2)) s))
def kY(r:af)(o:bq)(i v:E)(s:S b):av b Unit:=match o with
 |.a l=>Y (oE i) λn=>Y (fc l n v) λl=>nw a r (.a l) s
 |.b e d=>aI (fb i e&&ar e.length a.f) (aI (zZ a.b i e&&!(aF v)) (Y (hH a.b i v e) λf=>nw a r (.b f (bif M f.length e.length then d else d+1)) s))
 |_=>.none
def jq(d i v:E)(s:S b):av b Unit:=Y (hC d) λr=>kY a r (a.a s.b r) i v s
noncomputable def oT(v:E):=match v with
 |.d l=>(match l with
  |x::_=>(match x with
   |.e _=>D
   |_=>I)
  |[]=>I)
 |_=>I
def xo(l:List E):=match l with
 |[]=>B []
 |d::r=>match r with|[]=>B [d]|e::r=>aI (r.isEmpty&&oT d&&oT e) (Y (lQ a.b a.c.n e d) λt=>B (a' [d,e] [e,d] t))
def nk(d:List E):=match d with
 |v::r=>aI r.isEmpty (B v)
 |[]=>.none
def uP(d:E)(s:S b):av b E:=Y (lH a d s) λl=>B (.a (.a l.length),s)
def rb(o:bq):Option (List E):=match o with
 |.a l=>B l
 |.b e _=>aI (dG e) (B (e.map (·.1)))
 |_=>.none
def Bm(h)(d:E):=match d with
 |.d l=>B l
 |.b r=>rb (a.a h r)
 |_=>.none
def DR(d:E)(s:S b):av b E:=Y (Bm a s.b d) λl=>fM a l s
def MN(d:E)(s:S b):av b E:=Y (lH a d s) λl=>Y (xo a l) λl=>fM a l s
def uR(d:E)(s:S b):av b E:=Y (dw d) λz=>Y (jz z) λi=>Y (a.c.e i) λk=>B (.e k,s)
def DS(d:E)(s:S b):av b E:=Y (lH a d s) λl=>B (.d l,s)
noncomputable def uO(d:E)(s:S b):av b E:=match d with
 |.c e=>B (.c e,s)
 |_=>.none
def MM(d:List E)(s:S b):av b E:=Y (oM d) λl=>fM a l s
def uQ(e)(d:E)(s:S b):=match e with
 |0=>uP a d s
 |1=>DR a d s
 |3=>MN a d s
 |4=>uR a d s
 |5=>DS a d s
 |6=>uO d s
 |_=>.none
def yO(e:Nat)(d:List E)(s:S b):av b E:=a' (Y (nk d) λf=>uQ a e f s) (MM a d s) (M e 2)
def tl(r:af)(l:List E)(d:List E)(s:S b):av b E:=Y (nk d) λv=>aI (ar l.length a.f) (kj a r (.a (l++[v])) .g s)
def GX(r:af)(l:List E)(d:List E)(s:S b):av b E:=Y (nk d) λv=>aI (ar l.length a.f) (kj a r (.g (l++[v])) .g s)
def wp(r:af)(l:List E)(d:List E)(s:S b):av b E:=aI d.isEmpty (Y l.getLast? λv=>aI (!(aF v)) (kj a r (.a l.dropLast) v s))
def AE(r:af)(e:List (E×E))(d:Nat)(k v:E)(s:S b):av b E:=aI (dG e) (Y (kJ a.b k e) λf=>kj a r (.b f (d+1)) v s)
def qC(p:Bool)(h:af)(e:List (E×E))(g:Nat)(d:List E)(s:S b):av b E:=match d with
 |[]=>.none
 |k::r=>Y (pY a e k) λo=>match o with|some v=>aI (cV r.length 1&&(p||M r.length 1)) (a' (B (v,s)) (AE a h e g k v s) p)|.none=>Y (nk r) λf=>B (f,s)
def wo(r:af)(l:List E)(d:List E)(s:S b):av b E:=Y (nk d) λv=>Y (dw v) λz=>Y (fx a.b z l) λt=>aI (ar l.length 4000) (kj a r (.d (bif t then l else l++[.a z])) .g s)
def kU(r:af)(m:Nat)(d:List E)(s:S b):av b E:=match a.a s.b r with
 |.a l=>match m with|0=>tl a r l d s|1=>wp a r l d s|_=>.none
 |.g l=>aI (M m 0) (GX a r l d s)
 |.b f e=>match m with|1=>qC a D r f e d s|2=>qC a I r f e d s|_=>.none
 |.d l=>aI (M m 3) (wo a r l d s)
 |_=>.none
def ov(h)(v:E):=match v with
 |.d l=>B l
 |.b r=>ce (a.a h r)
 |_=>.none
mutual
def lA:dN->E->b->aC->Option aC
 |.a i,v,_,l=>fc l i v
 |.e e,v,h,l=>Y (ov a h v) λd=>mJ e d h l
termination_by structural t=>t
def mJ:List dN->List E->b->aC->Option aC
 |[],d,_,l=>match d with|[]=>B l|_::_=>.none
 |t::g,d,h,l=>match d with|[]=>.none|v::r=>Y (lA t v h l) λf=>mJ g r h f
termination_by structural t=>t
end
inductive gG where
 |g (d:af)
 |b (d:af) (n e:Nat)
 |d (l:List E)
 |a (d:af)
def jl(t:gG)(i:Nat)(h:b):=match t with
 |.g d=>Y (ce (a.a h d)) λl=>B (Z l i)
 |.b d n f=>Y (dy (a.a h d)) λp=>aI (dG p.1&&M p.1.length n&&M p.2 f) (B (Y (Z p.1 i) λe=>B e.1))
 |.d l=>B (Z l i)
 |.a d=>Y (ce (a.a h d)) λl=>B (Y (Z l i) λv=>B (.d [.a (.a i),v]))
def hG(t:gG)(h:b):=match t with
 |.b _ n _=>n
 |.d l=>l.length
 |.g d=>((ce (a.a h d)).getD []).length
 |.a d=>((ce (a.a h d)).getD []).length
def ow(d:af)(o:bq):Option gG:=match o with
 |.a _=>B (.g d)
 |.b e f=>aI (dG e) (B (.b d e.length f))
 |_=>.none
def ta(h:b)(v:E):Option gG:=match v with
 |.d l=>B (.d l)
 |.b d=>ow d (a.a h d)
 |_=>.none
def tk(v:E)(s:S b):av b af:=Y (hC v) λd=>Y (ce (a.a s.b d)) λz=>B (d,s)
def Rx(v)(s):=qv (ta a s.b v) s
def ed(t:gG)(e:E->aC->S b->av b (cQ×aC))(k:Nat):Nat->aC->S b->av b (cQ×aC):=
 bf (λz z z=>.none) (λz d i l s=>Y (jl a t i s.b) λo=>dc (B ((.a,l),s)) (λv=>aB (e v l s) λp s=>match p.1 with
  |.b _=>B (p,s)
  |_=>d (i+1) p.2 s) o) k
def nB(e:aC->S b->av b Bool)(d:aC->S b->av b (cQ×aC))(k:Nat):aC->S b->av b (cQ×aC):=
 bf (λz z=>.none) (λz i l s=>aB (e l s) λt s=>a' (B ((.a,l),s)) (aB (d l s) λp s=>match p.1 with
  |.b _=>B (p,s)
  |_=>i p.2 s) t) k
def fu(t:gG)(f:E->aC->S b->av b (Option E))(k:Nat):Nat->List E->aC->S b->av b (List E):=
 bf (λz z z z=>.none) (λz e i d l s=>Y (jl a t i s.b) λo=>dc (B (d,s)) (λv=>aB (f v l s) λx s=>dc (e (i+1) d l s) (λx=>aI (ar d.length a.f) (e (i+1) (d++[x]) l s)) x) o) k
mutual
def sw:E->Bool
 |.f=>I
 |.g=>D
 |.c _=>D
 |.a z=>(jz z).isSome
 |.e k=>ar k 1000
 |.d l=>uZ l
 |.h _=>I
 |.b d=>!d.a
termination_by structural x=>x
def uZ:List E->Bool
 |[]=>D
 |x::r=>sw x&&uZ r
termination_by structural x=>x
end
abbrev aA(b)(d):=aC->S b->av b d
variable(c:Nat->List E->S b->av b E)
noncomputable def pe(v:E):aA b E:=λz s=>B (v,s)
def cr(v:E):aA b E:=λz s=>aI (sw v) (B (v,s))
def ca(i:Nat):aA b E:=λl s=>hf (Z l i) s
def nE(e:aA b E)(f:Nat):aA b E:=λl s=>aB (e l s) λv s=>sM a v f s
def gV(e i:aA b E):aA b E:=λl s=>aB (e l s) λv s=>aB (i l s) λw s=>sV a v w s
def kn(f g h:aA b E):aA b E:=λl s=>aB (f l s) λv s=>aB (g l s) λd s=>aB (h l s) λe s=>Bt a v d e s
def pi(e:aA b E):aA b E:=λl s=>aB (e l s) (AX a)
def fC(o:ls)(d e:aA b E):aA b E:=λl s=>aB (d l s) λv s=>aB (e l s) λw s=>uU a o v w s
def TD(v:E)(s:S b):av b E:=Y (dw v) λz=>Y (jz z) λi=>B (.a (.a (-i)),s)
def ph(e:aA b E):aA b E:=λl s=>aB (e l s) TD
def bc(e:aA b E):aA b Bool:=λl s=>aB (e l s) λv s=>rk a v s
def lj(e:aA b E):aA b E:=λl s=>aB (bc a e l s) λd s=>B (.c (!d),s)
def ei(o:nV)(d e:aA b E):aA b E:=λl s=>aB (d l s) λv s=>aB (e l s) λw s=>va a o v w s
def lh(t d e:aA b E):aA b E:=λl s=>aB (bc a t l s) λf s=>a' (e l s) (d l s) f
def bs(d:List (aA b E)):aA b (List E):=ds (λz s=>B ([],s)) (λe z i l s=>aB (e l s) λv s=>aB (i l s) λf s=>B (v::f,s)) d
def iC(e:List (aA b E)):aA b E:=λl s=>aB (bs e l s) λv s=>B (.d v,s)
def iB(k:Option Nat)(e:List (aA b E)):aA b E:=λl s=>aB (bs e l s) λv s=>fL a k (.a v) s
def pf(k:Option Nat):aA b E:=λz s=>fL a k (.b [] 0) s
def Xh(v:E)(s:S b):av b E:=Y (dw v) λz=>fL a .none (.d [.a z]) s
def pj(e:aA b E):aA b E:=λl s=>aB (e l s) (Xh a)
def gg(f:Nat)(e:List (aA b E)):aA b E:=λl s=>aB (bs e l s) (c f)
noncomputable def SX(v r:E)(s:S b):av b E:=match r with
 |.g=>B (v,s)
 |_=>.none
def Ae(d:Nat)(k:Option Nat)(e:List E)(s:S b):av b E:=Y (a.c.g d) λf=>aB (fL a k (.e d []) s) λv s=>aB (c f (v::e) s) λr s=>SX v r s
def kl(d:Nat)(k:Option Nat)(e:List (aA b E)):aA b E:=λl s=>aB (bs e l s) (Ae a c d k)
def gT(d:Nat)(e:List (aA b E)):aA b E:=λl s=>aB (bs e l s) (yO a d)
noncomputable def na(o:bq):=match o with
 |.a _=>0
 |.g _=>0
 |.b _ _=>1
 |.d _=>2
 |_=>3
def lR(k:Nat)(r:af)(m:Nat)(d:List E)(s:S b):av b E:=aI (M (na (a.a s.b r)) k) (kU a r m d s)
def nl(h:b)(r:af)(m:Nat):Option (Option Nat):=match a.a h r with
 |.e d _=>Y (a.c.h d m) λf=>B (B f)
 |.f=>.none
 |.c=>.none
 |_=>B .none
def Ak(m:Nat)(e:aA b (List E))(d:E)(l:aC)(s:S b):av b E:=Y (hC d) λr=>Y (nl a s.b r m) λo=>dc
 (aB (e l s) λv t=>lR a (na (a.a s.b r)) r m v t) (λf=>aB (e l s) λv s=>c f (d::v) s) o
def li(e:aA b E)(m:Nat)(d:List (aA b E)):aA b E:=λl s=>aB (e l s) λv s=>Ak a c m (bs d) v l s
def kZ(d:aA b E):aA b (Option E):=λl s=>aB (d l s) λx s=>B (B x,s)
def km(q:Option (aA b E))(d:aA b E):aA b (Option E):=dc (kZ d) (λq l s=>aB (bc a q l s) λe s=>a' (B (.none,s)) (kZ d l s) e) q
def dK(t:dN)(e:aA b d)(v:E):aA b d:=λl s=>Y (lA a t v s.b l) λl=>e l s
def ia(e:aA b E)(t:dN)(i:aA b E)(q:Option (aA b E)):aA b E:=λl s=>aB (i l s) λv s=>aB (tk a v s) λd s=>aB (fu a (.g d) (dK a t (km a q e)) (hG a (.g d) s.b+1) 0 [] l s) λx s=>fL a .none (.a x) s
def gS(e r:aA b E):aA b E:=λl s=>aB (e l s) λv s=>aB (rk a v s) λd s=>a' (B (v,s)) (r l s) d
def gh(e r:aA b E):aA b E:=λl s=>aB (e l s) λv s=>aB (rk a v s) λd s=>a' (r l s) (B (v,s)) d
noncomputable def gU(f:aA b E->aA b E->aA b E)(d:List (aA b E)):aA b E:=ds (λz z=>.none) (λe r i=>ds e (λz z z=>f e i) r) d
def K(e:aJ):aA b E:=aJ.rec
 cr ca (λm=>cr (a.c.b m)) (λz h e=>nE a e h) (λz z e i=>gV a e i) (λz z z e n l=>kn a e n l) (λz e=>pi a e) (λo z z f g=>fC a o f g) (λz f=>ph f) (λz f=>lj a f)
 (λz d=>gU (gS a) d) (λz d=>gU (gh a) d) (λo z z f g=>ei a o f g) (λz z z t f g=>lh a t f g) (λz d=>iC d) (λk z d=>iB a k d) (λk=>pf a k) (λz e=>pj a e)
 (λh z d=>gg c h d) (λj k z d=>kl a c j k d) (λg z d=>gT a g d) (λz p z e d=>li a c e p d) (λz t z z g i q=>ia a g t i q)
 [] (λz z e r=>e::r) .none (λz e=>B e) e
def sD(d:List aJ):List (aA b E):=ds [] (λe z i=>K a c e::i) d
abbrev dv(b):=aC->S b->av b (cQ×aC)
noncomputable def gz(l:aC)(s:S b):av b (cQ×aC):=B ((.a,l),s)
def iE(i:Nat)(e:aA b E):dv b:=λl s=>aB (e l s) λv s=>Y (fc l i v) λl=>gz l s
def pl(o:aA b E)(f:Nat)(e:aA b E):dv b:=λl s=>aB (e l s) λv s=>aB (o l s) λx s=>aB (kg a x f v s) λz s=>gz l s
def pm(o i e:aA b E):dv b:=λl s=>aB (e l s) λv s=>aB (o l s) λx s=>aB (i l s) λj s=>aB (jq a x j v s) λz s=>gz l s
def rf(t:kx)(v:E)(l:aC)(s:S b):av b aC:=kx.rec (λi=>Y (fc l i v) λl=>B (l,s)) (λo f=>aB (K a c o l s) λx s=>aB (kg a x f v s) λz s=>B (l,s)) t
def kh(d:List kx):List E->aC->S b->av b aC:=ds (λv l s=>aI v.isEmpty (B (l,s))) (λt z i v l s=>ds .none (λe r z=>aB (rf a c t e l s) λl s=>i r l s) v) d
def nL(t:List kx)(e:aA b E):dv b:=λl s=>aB (e l s) λv s=>Y (ov a s.b v) λd=>aB (kh a c t d l s) λl s=>gz l s
def sP(v w:E)(s:S b):av b E:=Y (dw v) λx=>Y (dw w) λy=>Y (rz a.b .b x y) λz=>B (.a z,s)
def rt(o:aA b E)(f:Nat)(e:aA b E):dv b:=λl s=>aB (o l s) λx s=>aB (sM a x f s) λu s=>aB (e l s) λv s=>aB (sP a u v s) λw s=>aB (kg a x f w s) λz s=>gz l s
def ru(o i e:aA b E):dv b:=λl s=>aB (o l s) λx s=>aB (i l s) λj s=>aB (sV a x j s) λu s=>aB (e l s) λv s=>aB (sP a u v s) λw s=>aB (jq a x j w s) λz s=>gz l s
def pn(e:aA b E):dv b:=λl s=>aB (e l s) λz s=>gz l s
def iF(t:aA b E)(d e:dv b):dv b:=λl s=>aB (bc a t l s) λf s=>a' (e l s) (d l s) f
def C0:=300
def rv(t:aA b E)(d:dv b):dv b:=λl s=>nB (bc a t) d C0 l s
def uf(e:aA b E):aA b gG:=λl s=>aB (e l s) λv s=>aB (tk a v s) λd s=>B (.a d,s)
def uh(e:List (aA b E)):aA b gG:=λl s=>aB (bs e l s) λv s=>Y (oM v) λl=>B (.d l,s)
def pg(e:aA b E):aA b gG:=λl s=>aB (e l s) λv s=>Rx a v s
def lD(r:sh):aA b gG:=sh.rec (λe=>pg a (K a c e)) (λd=>uh (sD a c d)) (λe=>uf a (K a c e)) r
def jy(t:dN)(x:aA b gG)(d:dv b):dv b:=λl s=>aB (x l s) λi s=>ed a i (dK a t d) (hG a i s.b+1) 0 l s
def nK(e:aA b E):dv b:=λl s=>aB (e l s) λv s=>B ((.b v,l),s)
noncomputable def rs:dv b:=λl s=>B ((.c,l),s)
def dS(d r:dv b):dv b:=λl s=>aB (d l s) λp s=>match p.1 with
 |.a=>r p.2 s
 |_=>B (p,s)
def as(d:List de):dv b:=de.rec_1
 (λi e=>iE i (K a c e)) (λo g e=>pl a (K a c o) g (K a c e)) (λo i e=>pm a (K a c o) (K a c i) (K a c e)) (λt e=>nL a c t (K a c e))
 (λo g e=>rt a (K a c o) g (K a c e)) (λo i e=>ru a (K a c o) (K a c i) (K a c e)) (λe=>pn (K a c e)) (λt z z f d=>iF a (K a c t) f d) (λt z d=>rv a (K a c t) d)
 (λt x z d=>jy a t (lD a c x) d) (λe=>nK (K a c e)) rs gz (λz z f r=>dS f r) d
def uS(x:av b (cQ×aC)):=aB x λp s=>match p.1 with
 |.b v=>B (v,s)
 |_=>B (.g,s)
noncomputable def bG(n:Nat):List E:=bf [] (λz i=>.f::i) n
def sC(c:Nat->List E->S b->av b E)(d:bx)(e:List E)(s:S b):av b E:=aI (M e.length d.b) (uS (as a c d.a (e++bG (d.c-d.b)) s))
def ah(n:Nat):Nat->List E->S b->av b E:=bf (λz z z=>.none) (λz i f d s=>Y (a.c.c f) λe=>sC a i e d s) n
end
theorem dN.i{P:dN->Prop}{Q:List dN->Prop}(c:∀b,P (.a b))(f:∀l,Q l->P (.e l))(b:Q [])(j:∀v l,P v->Q l->Q (v::l)):(∀v,P v)/\∀l,Q l:=
 ⟨dN.rec c f b j,dN.rec_1 c f b j⟩
noncomputable def H8:List String:=["k","r","v","slot","name","add","copy","const","load","store","move","s","u","","sx8","sx16","zx8","zx16","sx","zx","8","16","32","g","h","call","see","give","f","jump","branch","table","su","mul","and","or","xor","eq","ne","sub","div","divu","rem","remu","shl","shr","sar","lt","ltu","neg","not"]
noncomputable def PS:List String:=["op","dst","args","more","is_volatile","line","number","steps","end","name","params","is_static","slots","blocks","registers","has_value","value","how","func","once","private","next","steady","local","cells","places","forms","exprs","holders","same","log","changed"]
noncomputable def PC:bx:=⟨1,1,[.b (.d [.b (.e 0),.i .f (.a 0) (.j 0)])]⟩
noncomputable def Fa:bx:=⟨5,5,[.f (.a 0) 0 (.a 1),
 .f (.a 0) 1 (.a 2),
 .f (.a 0) 2 (.a 3),
 .f (.a 0) 3 (.a 4),
 .f (.a 0) 4 (.b (.c I)),
 .f (.a 0) 5 (.b (.a (.a 0)))]⟩
noncomputable def OS:bx:=⟨2,2,[.f (.a 0) 6 (.a 1),
 .f (.a 0) 7 (.g .none []),
 .f (.a 0) 8 (.b .g)]⟩
noncomputable def OU:bx:=⟨2,2,[.f (.a 0) 9 (.a 1),
 .f (.a 0) 10 (.g .none []),
 .f (.a 0) 11 (.b (.c I)),
 .f (.a 0) 12 (.g .none []),
 .f (.a 0) 13 (.g .none []),
 .f (.a 0) 14 (.b (.a (.a 0))),
 .f (.a 0) 15 (.b (.c I))]⟩
noncomputable def Pq:bx:=⟨1,2,[.c 1 (.c (.a 0) 8),
 .a (.e .a (.c (.a 1) 0) (.b (.e 29))) [.b (.g .none [.c (.a 1) 3])] [],
 .a (.e .a (.c (.a 1) 0) (.b (.e 30))) [.b (.g .none [.f (.c (.a 1) 3) (.b (.a (.a 0))),.f (.c (.a 1) 3) (.b (.a (.a 1)))])] [],
 .a (.e .a (.c (.a 1) 0) (.b (.e 31))) [.b (.i .b (.m 1 [.f (.c (.a 1) 3) (.b (.a (.a 1)))]) (.g .none [.f (.c (.a 1) 3) (.b (.a (.a 2)))]))] [],
 .b (.g .none [])]⟩
noncomputable def PI:bx:=⟨1,5,[.c 1 (.u (.g .none []) (.a 4) (.c (.a 0) 13) .none),
 .g (.a 2) (.d (.c (.a 0) 13)) [.g (.a 3) (.d (.k 4 [.a 2])) [.a (.e .f (.c (.a 2) 6) (.f (.a 1) (.a 3))) [.d (.h (.f (.a 1) (.a 3)) 0 [.c (.a 2) 6])] []]],
 .b (.a 1)]⟩
noncomputable def PH:bx:=⟨1,6,[.c 1 (.g .none []),
 .c 2 (.w (.b (.a (.a 0)))),
 .c 3 (.g .none [.g .none [.b (.a (.a 0)),.k 4 [.f (.c (.a 0) 13) (.b (.a (.a 0)))],.b (.a (.a 0))]]),
 .j (.a 3) [.c 4 (.f (.a 3) (.p (.b (.a (.a 1))))),
 .a (.e .a (.f (.a 4) (.b (.a (.a 2)))) (.m 0 [.f (.a 4) (.b (.a (.a 1)))])) [.d (.h (.a 1) 0 [.f (.a 4) (.b (.a (.a 0)))]),
 .d (.h (.a 3) 1 []),
 .k] [],
 .c 5 (.f (.f (.a 4) (.b (.a (.a 1)))) (.f (.a 4) (.b (.a (.a 2))))),
 .l (.a 4) (.b (.a (.a 2))) (.b (.a (.a 1))),
 .a (.e .f (.a 5) (.a 2)) [.d (.h (.a 2) 3 [.a 5]),
 .d (.h (.a 3) 0 [.g .none [.a 5,.k 4 [.f (.c (.a 0) 13) (.a 5)],.b (.a (.a 0))]])] []],
 .b (.a 1)]⟩
noncomputable def PG:bx:=⟨1,1,[.b (.v (.k 6 [.a 0]))]⟩
noncomputable def PB:bx:=⟨4,4,[.j (.e .c (.a 2) (.a 3)) [.j (.e .h (.f (.a 1) (.a 2)) (.f (.a 1) (.a 3))) [.c 2 (.f (.a 0) (.a 2))],
 .j (.e .h (.f (.a 1) (.a 3)) (.f (.a 1) (.a 2))) [.c 3 (.f (.a 0) (.a 3))]],
 .b (.a 2)]⟩
noncomputable def Pp:bx:=⟨1,10,[.c 1 (.k 7 [.a 0]),
 .c 2 (.r .none),
 .g (.e [.a 3,.a 4]) (.a (.a 1)) [.i (.a 2) (.a 4) (.a 3)],
 .c 5 (.k 5 [.a 0]),
 .c 6 (.i .e (.g .none [.p (.b (.a (.a 1)))]) (.m 0 [.c (.a 0) 13])),
 .i (.a 6) (.b (.a (.a 0))) (.b (.a (.a 0))),
 .c 7 (.b (.c D)),
 .j (.a 7) [.c 7 (.b (.c I)),
 .g (.a 4) (.d (.n (.a 1) (.b (.a (.a 1))) (.b .g))) [.c 8 (.p (.b (.a (.a 1)))),
 .g (.a 9) (.d (.f (.a 5) (.a 4))) [.a (.e .g (.f (.a 6) (.a 9)) (.b (.a (.a 0)))) [.c 8 (.o (.e .e (.a 8) (.b (.a (.a 0)))) (.a 9) (.k 8 [.a 6,.a 2,.a 8,.a 9]))] []],
 .a (.e .c (.a 8) (.f (.a 6) (.a 4))) [.i (.a 6) (.a 4) (.a 8),
 .c 7 (.b (.c D))] []]],
 .b (.a 6)]⟩
noncomputable def Po:bx:=⟨1,5,[.c 1 (.u (.g .none []) (.a 4) (.a 0) .none),
 .g (.e [.a 2,.a 3]) (.a (.a 0)) [.a (.l [.e .h (.a 2) (.b (.a (.a 0))),.e .g (.a 3) (.b (.a (.a 0)))]) [.d (.h (.f (.a 1) (.a 3)) 0 [.a 2])] []],
 .b (.a 1)]⟩
noncomputable def PL:bx:=⟨1,1,[.c 0 (.i .a (.a 0) (.j 2)),
 .b (.o (.e .g (.a 0) (.j 1)) (.i .c (.a 0) (.j 2)) (.a 0))]⟩
noncomputable def PK:bx:=⟨1,6,[.e [.a 1,.a 2] (.d [.r (B 17),.r (B 18)]),
 .g (.a 3) (.d (.c (.a 0) 10)) [.i (.a 1) (.a 3) (.b (.c D))],
 .g (.a 4) (.d (.c (.a 0) 13)) [.g (.a 5) (.d (.c (.a 4) 7)) [.a (.e .b (.c (.a 5) 1) (.a 1)) [.i (.a 2) (.c (.a 5) 1) (.b (.c D))] [.a (.e .g (.c (.a 5) 1) (.b (.a (.a 0)))) [.i (.a 1) (.c (.a 5) 1) (.b (.c D))] []]]],
 .g (.a 3) (.d (.a 2)) [.d (.h (.a 1) 1 [.a 3])],
 .b (.a 1)]⟩
noncomputable def Fc:bx:=⟨2,2,[.a (.e .a (.c (.a 0) 0) (.b (.e 3))) [.b (.c (.a 0) 3)] [],
 .a (.l [.e .a (.c (.a 0) 0) (.b (.e 6)),.e .a (.f (.f (.c (.a 0) 2) (.b (.a (.a 0)))) (.b (.a (.a 0)))) (.b (.e 1))]) [.b (.h (.a 1) 2 [.f (.f (.c (.a 0) 2) (.b (.a (.a 0)))) (.b (.a (.a 1))),.p (.b (.a (.a 1)))])] [],
 .a (.l [.e .a (.c (.a 0) 0) (.b (.e 5)),.e .a (.f (.f (.c (.a 0) 2) (.b (.a (.a 0)))) (.b (.a (.a 0)))) (.b (.e 1)),.e .a (.f (.f (.c (.a 0) 2) (.b (.a (.a 1)))) (.b (.a (.a 0)))) (.b (.e 0))]) [.b (.h (.a 1) 2 [.f (.f (.c (.a 0) 2) (.b (.a (.a 0)))) (.b (.a (.a 1))),.p (.b (.a (.a 1)))])] [],
 .b (.p (.b (.a (.a 1))))]⟩
noncomputable def Pr:bx:=⟨2,6,[.c 2 (.r (B 20)),
 .g (.a 3) (.d (.k 7 [.a 0])) [.g (.a 4) (.d (.c (.f (.c (.a 0) 13) (.a 3)) 7)) [.a (.e .b (.c (.a 4) 1) (.a 1)) [.c 5 (.k 13 [.a 4,.a 2]),
 .a (.e .g (.a 5) (.b (.a (.a 0)))) [.i (.a 2) (.c (.a 4) 1) (.a 5)] []] []]],
 .b (.a 2)]⟩
noncomputable def Fb:bx:=⟨3,4,[.g (.a 3) (.d (.a 0)) [.a (.l [.e .a (.f (.a 3) (.b (.a (.a 0)))) (.b (.e 1)),.e .b (.f (.a 3) (.b (.a (.a 1)))) (.a 1)]) [.d (.h (.a 2) 1 [.f (.a 1) (.f (.a 3) (.b (.a (.a 1)))),.b .g])] []]]⟩
noncomputable def PJ:bx:=⟨2,7,[.c 2 (.r (B 19)),
 .g (.a 3) (.b [.m 0 [.c (.a 0) 12]]) [.i (.a 2) (.a 3) (.b (.c D))],
 .a (.e .a (.a 2) (.r .none)) [.b (.a 2)] [],
 .c 4 (.k 14 [.a 0,.a 1]),
 .g (.a 5) (.d (.c (.a 0) 13)) [.g (.a 6) (.d (.c (.a 5) 7)) [.a (.e .b (.c (.a 6) 0) (.j 5)) [.d (.k 15 [.n (.c (.a 6) 2) (.f (.j 5) (.c (.a 6) 0)) (.b .g),.a 4,.a 2])] [.a (.e .a (.c (.a 6) 0) (.b (.e 3))) [.a (.e .f (.c (.a 6) 1) (.a 1)) [.d (.h (.a 2) 1 [.c (.a 6) 3,.b .g])] []] [.a (.e .f (.c (.a 6) 1) (.a 4)) [.d (.k 15 [.c (.a 6) 2,.a 4,.a 2])] []]]],
 .d (.k 15 [.c (.c (.a 5) 8) 2,.a 4,.a 2])],
 .b (.a 2)]⟩
noncomputable def Ps:bx:=⟨2,5,[.e [.a 2,.a 3,.a 4] (.a 0),
 .a (.e .a (.f (.a 2) (.b (.a (.a 0)))) (.b (.e 3))) [.b (.l [.e .d (.b (.a (.a 0))) (.a 3),.e .d (.i .b (.a 3) (.a 4)) (.f (.f (.a 1) (.f (.a 2) (.b (.a (.a 1))))) (.b (.a (.a 0))))])] [],
 .b (.e .a (.f (.a 2) (.b (.a (.a 0)))) (.b (.e 4)))]⟩
noncomputable def PA:bx:=⟨4,7,[.a (.e .a (.f (.a 0) (.b (.a (.a 0)))) (.f (.a 1) (.b (.a (.a 0))))) [.c 4 (.i .a (.i .c (.f (.a 0) (.b (.a (.a 1)))) (.f (.a 1) (.b (.a (.a 1))))) (.j 2)),
 .b (.q [.e .e (.a 4) (.f (.a 1) (.b (.a (.a 2)))),.e .e (.i .c (.j 2) (.a 4)) (.f (.a 0) (.b (.a (.a 2))))])] [],
 .e [.a 5,.a 6] (.d [.k 17 [.a 0,.a 2],.k 17 [.a 1,.a 2]]),
 .a (.l [.a 5,.a 6]) [.b (.b (.c I))] [],
 .a (.l [.a 5,.e .a (.f (.f (.a 0) (.b (.a (.a 0)))) (.b (.a (.a 0)))) (.b (.e 3)),.e .b (.f (.f (.a 0) (.b (.a (.a 0)))) (.b (.a (.a 1)))) (.a 3)]) [.b (.b (.c I))] [],
 .b (.s (.l [.a 6,.e .a (.f (.f (.a 1) (.b (.a (.a 0)))) (.b (.a (.a 0)))) (.b (.e 3)),.e .b (.f (.f (.a 1) (.b (.a (.a 0)))) (.b (.a (.a 1)))) (.a 3)]))]⟩
noncomputable def OT:bx:=⟨3,3,[.f (.a 0) 16 (.a 1),
 .f (.a 0) 17 (.a 2)]⟩
noncomputable def vp:bx:=⟨2,2,[.f (.a 0) 18 (.a 1),
 .f (.a 0) 19 (.k 12 [.a 1]),
 .f (.a 0) 20 (.k 16 [.a 1,.c (.a 0) 19]),
 .f (.a 0) 21 (.b (.a (.a 0))),
 .f (.a 0) 22 (.r (B 21)),
 .f (.a 0) 23 (.r (B 22)),
 .f (.a 0) 24 (.r (B 23)),
 .f (.a 0) 25 (.r (B 24)),
 .f (.a 0) 26 (.r (B 25)),
 .f (.a 0) 27 (.r (B 26)),
 .f (.a 0) 28 (.r (B 27)),
 .f (.a 0) 29 (.r (B 28)),
 .f (.a 0) 30 (.g (B 29) []),
 .f (.a 0) 31 (.b (.c I))]⟩
noncomputable def Pc:bx:=⟨4,4,[.d (.h (.c (.a 0) 30) 0 [.d [.a 1,.a 2,.h (.a 1) 2 [.a 2,.b .g]]]),
 .i (.a 1) (.a 2) (.a 3)]⟩
noncomputable def OV:bx:=⟨3,3,[.d (.h (.c (.a 0) 30) 0 [.d [.a 1,.a 2,.h (.a 1) 1 [.a 2]]])]⟩
noncomputable def Pk:bx:=⟨2,5,[.j (.e .h (.m 0 [.c (.a 0) 30]) (.a 1)) [.e [.a 2,.a 3,.a 4] (.h (.c (.a 0) 30) 1 []),
 .a (.e .i (.a 4) (.b .g)) [.d (.h (.a 2) 1 [.a 3])] [.i (.a 2) (.a 3) (.a 4)]]]⟩
noncomputable def OZ:bx:=⟨1,1,[.h (.a 0) 21 (.b (.a (.a 1))),
 .b (.d [.b (.e 2),.c (.a 0) 21])]⟩
noncomputable def Pm:bx:=⟨2,3,[.a (.e .b (.a 1) (.c (.a 0) 19)) [.a (.e .f (.a 1) (.c (.a 0) 22)) [.i (.c (.a 0) 22) (.a 1) (.h (.a 0) 34 [])] [],
 .c 2 (.f (.c (.a 0) 22) (.a 1))] [.a (.e .f (.a 1) (.c (.a 0) 23)) [.d (.h (.a 0) 31 [.c (.a 0) 23,.a 1,.h (.a 0) 34 []])] [],
 .c 2 (.f (.c (.a 0) 23) (.a 1))],
 .b (.h (.c (.a 0) 29) 2 [.a 2,.a 2])]⟩
noncomputable def Pn:bx:=⟨2,2,[.b (.o (.e .a (.f (.a 1) (.b (.a (.a 0)))) (.b (.e 0))) (.a 1) (.h (.a 0) 35 [.f (.a 1) (.b (.a (.a 1)))]))]⟩
noncomputable def O':bx:=⟨3,3,[.a (.e .b (.a 1) (.c (.a 0) 19)) [.b (.l [.e .b (.a 1) (.c (.a 0) 22),.e .a (.f (.c (.a 0) 22) (.a 1)) (.a 2)])] [],
 .b (.l [.e .b (.a 1) (.c (.a 0) 23),.e .a (.f (.c (.a 0) 23) (.a 1)) (.a 2)])]⟩
noncomputable def Pe:bx:=⟨2,2,[.a (.e .a (.f (.a 1) (.b (.a (.a 0)))) (.b (.e 0))) [.b (.a 1)] [],
 .a (.l [.e .b (.a 1) (.c (.a 0) 28),.h (.a 0) 37 [.f (.c (.a 0) 28) (.a 1),.a 1]]) [.b (.d [.b (.e 1),.f (.c (.a 0) 28) (.a 1)])] [],
 .b (.b .g)]⟩
noncomputable def Pj:bx:=⟨3,3,[.a (.e .b (.a 1) (.c (.a 0) 19)) [.i (.c (.a 0) 22) (.a 1) (.a 2)] [.d (.h (.a 0) 31 [.c (.a 0) 23,.a 1,.a 2])],
 .a (.l [.e .a (.f (.a 2) (.b (.a (.a 0)))) (.b (.e 2)),.e .i (.h (.a 0) 38 [.a 2]) (.b .g)]) [.d (.h (.a 0) 31 [.c (.a 0) 28,.a 2,.a 1])] []]⟩
noncomputable def Pl:bx:=⟨2,7,[.e [.a 2,.a 3] (.d [.g .none [],.g .none []]),
 .g (.a 4) (.d (.a 1)) [.c 5 (.h (.a 0) 36 [.a 4]),
 .d (.h (.a 2) 0 [.a 5]),
 .c 6 (.h (.a 0) 38 [.a 5]),
 .a (.e .i (.a 6) (.b .g)) [.d (.h (.a 0) 31 [.c (.a 0) 28,.a 5,.f (.a 4) (.b (.a (.a 1)))]),
 .c 6 (.a 4)] [],
 .d (.h (.a 3) 0 [.a 6])],
 .b (.d [.a 2,.a 3])]⟩
noncomputable def Pi:bx:=⟨2,2,[.a (.e .a (.f (.a 1) (.b (.a (.a 0)))) (.b (.e 0))) [.b (.d [.d [.b (.e 0),.b (.a (.a 0))],.k 11 [.f (.a 1) (.b (.a (.a 1)))]])] [],
 .a (.e .b (.a 1) (.c (.a 0) 25)) [.b (.f (.c (.a 0) 25) (.a 1))] [],
 .b (.d [.a 1,.b (.a (.a 0))])]⟩
noncomputable def Pb:bx:=⟨5,7,[.a (.e .a (.a 2) (.b (.e 4))) [.i (.c (.a 0) 25) (.a 1) (.d [.d [.b (.e 4),.f (.a 4) (.b (.a (.a 0)))],.k 11 [.f (.a 4) (.b (.a (.a 1)))]])] [.a (.e .a (.a 2) (.b (.e 3))) [.i (.c (.a 0) 25) (.a 1) (.d [.d [.b (.e 3),.a 4],.b (.a (.a 0))])] [.a (.l [.e .a (.a 2) (.b (.e 5)),.e .a (.f (.f (.a 3) (.b (.a (.a 1)))) (.b (.a (.a 0)))) (.b (.e 0))]) [.e [.a 5,.a 6] (.h (.a 0) 41 [.f (.a 3) (.b (.a (.a 0)))]),
 .i (.c (.a 0) 25) (.a 1) (.d [.a 5,.k 11 [.i .b (.a 6) (.f (.f (.a 3) (.b (.a (.a 1)))) (.b (.a (.a 1))))]])] []]]]⟩
noncomputable def Pd:bx:=⟨4,6,[.c 4 (.d [.a 1,.a 3,.m 5 [.a 2]]),
 .a (.l [.e .b (.a 1) (.j 3),.e .e (.f (.a 2) (.b (.a (.a 1)))) (.f (.a 2) (.b (.a (.a 0))))]) [.c 4 (.d [.a 1,.a 3,.d [.f (.a 2) (.b (.a (.a 1))),.f (.a 2) (.b (.a (.a 0)))]])] [],
 .a (.e .b (.a 4) (.c (.a 0) 27)) [.b (.f (.c (.a 0) 27) (.a 4))] [],
 .c 5 (.h (.a 0) 34 []),
 .d (.h (.a 0) 31 [.c (.a 0) 27,.a 4,.a 5]),
 .i (.c (.a 0) 26) (.a 5) (.a 4),
 .d (.h (.a 0) 42 [.a 5,.a 1,.a 2,.a 3]),
 .b (.a 5)]⟩
noncomputable def Ph:bx:=⟨3,4,[.c 2 (.h (.c (.a 0) 29) 2 [.a 2,.a 2]),
 .a (.h (.a 0) 37 [.c (.a 1) 1,.a 2]) [.b (.b (.c I))] [],
 .c 3 (.h (.a 0) 38 [.a 2]),
 .a (.l [.e .j (.a 3) (.b .g),.e .f (.c (.a 1) 0) (.j 6)]) [.f (.a 1) 0 (.o (.e .a (.f (.a 3) (.b (.a (.a 0)))) (.b (.e 0))) (.b (.e 7)) (.b (.e 6))),
 .f (.a 1) 2 (.g .none [.a 3]),
 .f (.a 1) 3 (.b (.a (.a 0))),
 .f (.a 0) 31 (.b (.c D))] [],
 .d (.h (.a 0) 39 [.c (.a 1) 1,.a 2]),
 .b (.b (.c D))]⟩
noncomputable def Pg:bx:=⟨3,12,[.a (.c (.a 1) 4) [.d (.h (.a 0) 39 [.c (.a 1) 1,.h (.a 0) 34 []]),
 .b (.b (.c D))] [],
 .e [.a 3,.a 4] (.c (.a 1) 3),
 .c 5 (.o (.e .a (.a 3) (.b (.a (.a 4)))) (.b (.e 13)) (.o (.a 4) (.b (.e 11)) (.b (.e 12)))),
 .e [.a 6,.a 7] (.h (.a 0) 41 [.a 2]),
 .c 8 (.d [.a 6,.a 7,.a 3]),
 .a (.e .b (.a 8) (.c (.a 0) 24)) [.c 9 (.f (.c (.a 0) 24) (.a 8)),
 .c 10 (.h (.c (.a 0) 29) 2 [.c (.a 9) 16,.c (.a 9) 16]),
 .c 11 (.h (.a 0) 38 [.a 10]),
 .a (.l [.e .j (.a 11) (.b .g),.e .a (.c (.a 9) 17) (.a 5)]) [.b (.h (.a 0) 44 [.a 1,.a 10])] [],
 .a (.e .j (.a 11) (.b .g)) [.e [.c (.a 1) 0,.c (.a 1) 2,.c (.a 1) 3] (.d [.f (.j 7) (.d [.a 3,.m 6 [.a 4]]),.g .none [.a 11],.b (.a (.a 0))]),
 .f (.a 0) 31 (.b (.c D)),
 .b (.h (.a 0) 44 [.a 1,.h (.a 0) 43 [.c (.a 1) 0,.g .none [.a 10],.b (.a (.a 0))]])] []] [],
 .c 10 (.h (.a 0) 34 []),
 .d (.h (.a 0) 31 [.c (.a 0) 24,.a 8,.t 3 .none [.a 10,.a 5]]),
 .d (.h (.a 0) 39 [.c (.a 1) 1,.a 10]),
 .b (.b (.c D))]⟩
noncomputable def OY:bx:=⟨2,3,[.g (.a 2) (.d (.m 1 [.c (.a 0) 24])) [.a (.k 18 [.a 2,.a 1,.c (.c (.a 0) 18) 12,.c (.a 0) 20]) [.d (.h (.a 0) 32 [.c (.a 0) 24,.a 2])] []]]⟩
noncomputable def OX:bx:=⟨1,3,[.g (.a 1) (.d (.m 1 [.c (.a 0) 24])) [.c 2 (.f (.a 1) (.b (.a (.a 0)))),
 .a (.q [.e .c (.f (.a 2) (.b (.a (.a 0)))) (.b (.e 3)),.e .f (.f (.a 2) (.b (.a (.a 1)))) (.c (.a 0) 20),.s (.k 17 [.a 1,.c (.c (.a 0) 18) 12])]) [.d (.h (.a 0) 32 [.c (.a 0) 24,.a 1])] []]]⟩
noncomputable def mM:bx:=⟨4,8,[.e [.a 4,.a 5] (.h (.a 0) 41 [.a 2]),
 .c 6 (.d [.a 4,.a 5,.c (.a 1) 3]),
 .a (.l [.e .b (.a 6) (.c (.a 0) 24),.s (.c (.a 1) 4)]) [.c 7 (.c (.f (.c (.a 0) 24) (.a 6)) 16),
 .a (.e .a (.h (.c (.a 0) 29) 2 [.a 7,.a 7]) (.a 3)) [.b (.b (.c I))] []] [],
 .d (.h (.a 0) 46 [.a 6]),
 .a (.s (.c (.a 1) 4)) [.d (.h (.a 0) 31 [.c (.a 0) 24,.a 6,.t 3 .none [.a 3,.b (.e 13)]])] [],
 .b (.b (.c D))]⟩
noncomputable def zr:bx:=⟨2,7,[.c 2 (.c (.a 1) 0),
 .a (.e .a (.a 2) (.b (.e 7))) [.b (.h (.a 0) 44 [.a 1,.f (.c (.a 1) 2) (.b (.a (.a 0)))])] [],
 .e [.a 3,.a 4] (.h (.a 0) 40 [.c (.a 1) 2]),
 .a (.e .c (.a 4) (.c (.a 1) 2)) [.f (.a 1) 2 (.a 4),
 .f (.a 0) 31 (.b (.c D))] [],
 .a (.e .b (.a 2) (.j 4)) [.b (.h (.a 0) 44 [.a 1,.h (.a 0) 43 [.a 2,.a 3,.c (.a 1) 3]])] [],
 .a (.e .a (.a 2) (.b (.e 6))) [.b (.h (.a 0) 44 [.a 1,.f (.a 3) (.b (.a (.a 0)))])] [],
 .a (.e .a (.a 2) (.b (.e 8))) [.b (.h (.a 0) 45 [.a 1,.f (.a 3) (.b (.a (.a 0)))])] [],
 .a (.e .a (.a 2) (.b (.e 9))) [.b (.h (.a 0) 48 [.a 1,.f (.a 3) (.b (.a (.a 0))),.f (.a 3) (.b (.a (.a 1)))])] [],
 .a (.e .a (.a 2) (.b (.e 10))) [.e [.a 5,.a 6] (.h (.a 0) 41 [.f (.a 3) (.b (.a (.a 0)))]),
 .d (.h (.a 0) 46 [.d [.a 5,.a 6,.f (.c (.a 1) 3) (.b (.a (.a 0)))]]),
 .b (.b (.c D))] [],
 .d (.h (.a 0) 47 []),
 .a (.e .g (.c (.a 1) 1) (.b (.a (.a 0)))) [.d (.h (.a 0) 39 [.c (.a 1) 1,.h (.a 0) 34 []])] [],
 .b (.b (.c D))]⟩
noncomputable def Pf:bx:=⟨2,6,[.c 2 (.g .none []),
 .g (.a 3) (.d (.c (.a 1) 7)) [.a (.h (.a 0) 49 [.a 3]) [.d (.h (.a 2) 0 [.a 3])] []],
 .a (.e .c (.m 0 [.a 2]) (.m 0 [.c (.a 1) 7])) [.f (.a 1) 7 (.a 2),
 .f (.a 0) 31 (.b (.c D))] [],
 .e [.a 4,.a 5] (.h (.a 0) 40 [.c (.c (.a 1) 8) 2]),
 .a (.e .c (.a 5) (.c (.c (.a 1) 8) 2)) [.f (.c (.a 1) 8) 2 (.a 5),
 .f (.a 0) 31 (.b (.c D))] []]⟩
noncomputable def Pa:bx:=⟨3,11,[.e [.a 3,.a 4] (.c (.a 1) 3),
 .a (.q [.e .a (.a 3) (.a 4),.e .c (.f (.f (.c (.a 1) 2) (.b (.a (.a 0)))) (.b (.a (.a 0)))) (.b (.e 1))]) [.b (.b .g)] [],
 .c 5 (.h (.a 0) 35 [.f (.f (.c (.a 1) 2) (.b (.a (.a 0)))) (.b (.a (.a 1)))]),
 .a (.e .c (.f (.a 5) (.b (.a (.a 0)))) (.b (.e 2))) [.b (.b .g)] [],
 .a (.e .a (.a 2) (.a 4)) [.d (.h (.a 0) 31 [.c (.a 0) 29,.a 5,.k 0 [.b (.a (.a 0))]])] [],
 .a (.e .f (.a 5) (.c (.a 0) 26)) [.b (.b .g)] [],
 .e [.a 6,.a 7,.a 8] (.f (.c (.a 0) 26) (.a 5)),
 .a (.e .a (.a 6) (.o (.e .a (.a 2) (.a 3)) (.b (.e 37)) (.b (.e 38)))) [.g (.e [.a 9,.a 10]) (.d (.d [.d [.f (.a 8) (.b (.a (.a 0))),.f (.a 8) (.b (.a (.a 1)))],.d [.f (.a 8) (.b (.a (.a 1))),.f (.a 8) (.b (.a (.a 0)))]])) [.a (.l [.e .a (.f (.a 9) (.b (.a (.a 0)))) (.b (.e 2)),.e .a (.f (.a 10) (.b (.a (.a 0)))) (.b (.e 0)),.e .f (.a 9) (.c (.a 0) 29)]) [.d (.h (.a 0) 31 [.c (.a 0) 29,.a 9,.a 10])] []]] []]⟩
noncomputable def OW:bx:=⟨4,4,[.e [.c (.a 0) 23,.c (.a 0) 24] (.a 3),
 .a (.l [.e .g (.a 2) (.b (.a (.a 0))),.e .a (.c (.c (.f (.c (.c (.a 0) 18) 13) (.a 2)) 8) 0) (.b (.e 30))]) [.d (.h (.a 0) 51 [.c (.f (.c (.c (.a 0) 18) 13) (.a 2)) 8,.a 1])] []]⟩
noncomputable def PF:bx:=⟨3,3,[.a (.l [.e .c (.a 2) (.b (.a (.a 0))),.e .a (.f (.a 0) (.a 2)) (.g .none [.f (.a 1) (.a 2)])]) [.b (.f (.a 1) (.a 2))] [],
 .b (.p (.b (.a (.a 1))))]⟩
noncomputable def PD:bx:=⟨2,12,[.c 2 (.k 9 [.a 0]),
 .c 3 (.k 10 [.a 2]),
 .c 4 (.k 5 [.a 0]),
 .c 5 (.r .none),
 .c 6 (.g .none [.d [.b (.a (.a 0)),.p (.b (.a (.a 1)))]]),
 .j (.e .c (.a 6) (.g .none [])) [.e [.a 7,.a 8] (.h (.a 6) 1 []),
 .a (.e .g (.a 8) (.b (.a (.a 0)))) [.d (.h (.a 1) 33 [.a 8]),
 .k] [],
 .d (.h (.a 6) 0 [.d [.a 7,.m 0 [.c (.a 1) 30]]]),
 .c 9 (.k 43 [.a 4,.a 2,.a 7]),
 .c 10 (.o (.e .g (.a 9) (.b (.a (.a 0)))) (.f (.a 5) (.a 9)) (.d [.r .none,.r .none])),
 .i (.a 5) (.a 7) (.a 10),
 .d (.h (.a 1) 52 [.a 7,.a 9,.a 10]),
 .d (.h (.a 1) 50 [.f (.c (.a 0) 13) (.a 7)]),
 .g (.a 11) (.d (.v (.f (.a 3) (.a 7)))) [.d (.h (.a 6) 0 [.d [.a 11,.p (.b (.a (.a 1)))]])]]]⟩
noncomputable def PE:bx:=⟨1,2,[.c 1 (.t 4 (B 16) [.a 0]),
 .a (.e .a (.m 0 [.c (.a 0) 13]) (.b (.a (.a 1)))) [.d (.h (.a 1) 50 [.f (.c (.a 0) 13) (.b (.a (.a 0)))])] [.d (.k 44 [.a 0,.a 1])],
 .b (.c (.a 1) 31)]⟩
noncomputable def qe:bx:=⟨1,14,[.c 1 (.t 2 .none [.b (.e 28)]),
 .f (.a 1) 10 (.g .none [.b (.a (.a 0)),.b (.a (.a 1)),.b (.a (.a 2))]),
 .f (.a 1) 14 (.b (.a (.a 16))),
 .f (.a 1) 15 (.b (.c D)),
 .f (.a 1) 12 (.g .none [.d [.b (.a (.a 8)),.b (.a (.a 4))],.d [.b (.a (.a 8)),.b (.a (.a 4))]]),
 .g (.e [.a 2,.e [.a 3,.a 4]]) (.a (.a 0)) [.c 5 (.t 1 .none [.a 2]),
 .g (.e [.a 6,.a 7,.a 8,.a 9,.a 10]) (.d (.a 3)) [.c 11 (.t 0 .none [.a 6,.a 7,.m 1 [.a 8],.a 9]),
 .f (.a 11) 4 (.a 10),
 .d (.h (.c (.a 5) 7) 0 [.a 11])],
 .f (.a 5) 8 (.t 0 .none [.f (.a 4) (.b (.a (.a 0))),.p (.b (.a (.a 1))),.m 1 [.f (.a 4) (.b (.a (.a 1)))],.f (.a 4) (.b (.a (.a 2)))]),
 .d (.h (.c (.a 1) 13) 0 [.a 5])],
 .d (.k 45 [.a 1]),
 .b (.u (.u (.d [.c (.a 13) 0,.c (.a 13) 1,.m 1 [.c (.a 13) 2]]) (.a 13) (.c (.a 12) 7) .none) (.a 12) (.c (.a 1) 13) .none)]⟩
noncomputable def Px:bx:=⟨4,5,[.c 4 (.d [.b (.e 1),.f (.d [.b (.a (.a 3)),.b (.a (.a 4)),.b (.a (.a 5)),.b (.a (.a 6)),.b (.a (.a 0))]) (.a 1)]),
 .a (.l [.e .b (.a 1) (.d [.b (.a (.a 2)),.b (.a (.a 3))]),.e .a (.i .a (.a 3) (.b (.a (.a 4)))) (.b (.a (.a 2)))]) [.b (.g .none [.d [.b (.e 4),.a 0,.g .none [],.d [.f (.d [.b (.e 23),.b (.e 24)]) (.i .c (.a 1) (.b (.a (.a 2)))),.a 2],.b (.c I)]])] [],
 .a (.e .a (.i .a (.a 3) (.b (.a (.a 2)))) (.b (.a (.a 0)))) [.b (.g .none [.d [.b (.e 5),.a 0,.g .none [.a 4,.d [.b (.e 0),.a 2]],.b (.a (.a 0)),.b (.c I)]])] [],
 .b (.g .none [.d [.b (.e 5),.i .b (.a 0) (.b (.a (.a 1))),.g .none [.a 4,.d [.b (.e 0),.i .a (.i .b (.a 2) (.a 3)) (.j 8)]],.b (.a (.a 0)),.b (.c I)],.d [.b (.e 5),.a 0,.g .none [.d [.b (.e 1),.i .b (.a 0) (.b (.a (.a 1)))],.d [.b (.e 0),.i .a (.p (.a 3)) (.j 8)]],.b (.a (.a 0)),.b (.c I)]])]⟩
noncomputable def Pw:bx:=⟨3,6,[.a (.e .a (.f (.a 0) (.b (.a (.a 0)))) (.f (.a 1) (.b (.a (.a 0))))) [.b (.e .c (.u (.a 5) (.a 5) (.f (.a 0) (.b (.a (.a 1)))) (B (.e .b (.a 5) (.f (.a 1) (.b (.a (.a 1))))))) (.g .none []))] [],
 .g (.e [.a 3,.a 4]) (.d (.d [.d [.a 0,.a 1],.d [.a 1,.a 0]])) [.a (.l [.e .a (.f (.a 3) (.b (.a (.a 0)))) (.b (.a (.a 4))),.q [.e .h (.f (.a 4) (.b (.a (.a 0)))) (.b (.a (.a 1))),.e .b (.f (.a 4) (.b (.a (.a 0)))) (.a 2)]]) [.b (.b (.c D))] []],
 .b (.b (.c I))]⟩
noncomputable def Pt:bx:=⟨4,4,[.a (.q [.e .a (.a 0) (.b (.a (.a 1))),.e .a (.a 0) (.b (.a (.a 4)))]) [.b (.g .none [.d [.b (.e 9),.p (.b (.a (.a 1))),.g .none [.d [.b (.e 1),.b (.a (.a 14))],.d [.b (.e 1),.b (.a (.a 2))]],.a 2,.e .a (.a 0) (.b (.a (.a 4)))]])] [],
 .a (.e .a (.a 0) (.b (.a (.a 2)))) [.b (.g .none [.d [.b (.e 25),.p (.b (.a (.a 1))),.g .none [.d [.b (.e 1),.b (.a (.a 2))]],.b (.e 26),.b (.c I)]])] [],
 .a (.e .a (.a 0) (.b (.a (.a 3)))) [.b (.g .none [.d [.b (.e 10),.p (.b (.a (.a 1))),.g .none [.d [.b (.e 1),.b (.a (.a 14))],.d [.b (.e 1),.b (.a (.a 5))]],.d [.a 3,.b (.a (.a 4))],.b (.c I)]])] [],
 .b (.o (.e .a (.a 0) (.b (.a (.a 5)))) (.g .none [.d [.b (.e 8),.b (.a (.a 9)),.g .none [.d [.b (.e 1),.b (.a (.a 14))]],.d [.a 2,.b (.c I)],.b (.c D)]]) (.g .none []))]⟩
noncomputable def dV:bx:=⟨3,31,[.e [.a 3,.a 4,.a 5,.a 6] (.d [.i .a (.a 0) (.b (.a (.a 5))),.i .a (.i .d (.a 0) (.b (.a (.a 5)))) (.b (.a (.a 5))),.f (.d [.b (.a (.a 4)),.b (.a (.a 1)),.b (.a (.a 2))]) (.i .a (.i .d (.a 0) (.b (.a (.a 25)))) (.b (.a (.a 3)))),.e .a (.i .a (.i .d (.a 0) (.b (.a (.a 75)))) (.b (.a (.a 2)))) (.b (.a (.a 1)))]),
 .e [.a 7,.a 8] (.d [.e .a (.i .a (.i .d (.a 0) (.b (.a (.a 150)))) (.b (.a (.a 2)))) (.b (.a (.a 1))),.e .a (.i .a (.i .d (.a 0) (.b (.a (.a 300)))) (.b (.a (.a 5)))) (.b (.a (.a 4)))]),
 .e [.a 9,.a 10,.a 11] (.d [.f (.d [.a 3,.i .a (.i .d (.a 1) (.b (.a (.a 5)))) (.b (.a (.a 5))),.i .a (.a 1) (.b (.a (.a 5)))]) (.i .a (.i .d (.a 1) (.b (.a (.a 25)))) (.b (.a (.a 3)))),.i .a (.i .d (.a 1) (.b (.a (.a 75)))) (.b (.a (.a 5))),.f (.d [.b (.a (.a 4)),.b (.a (.a 1)),.b (.a (.a 2))]) (.i .a (.i .d (.a 1) (.b (.a (.a 375)))) (.b (.a (.a 3))))]),
 .e [.a 12,.a 13] (.d [.i .a (.i .d (.a 2) (.b (.a (.a 8)))) (.b (.a (.a 6))),.i .a (.i .d (.a 2) (.b (.a (.a 48)))) (.b (.a (.a 4)))]),
 .c 14 (.o (.e .e (.i .a (.a 2) (.b (.a (.a 8)))) (.b (.a (.a 6)))) (.a 5) (.a 11)),
 .e [.a 15,.a 16,.a 17] (.d [.e .a (.i .a (.i .d (.a 2) (.b (.a (.a 192)))) (.b (.a (.a 2)))) (.b (.a (.a 1))),.i .a (.i .d (.a 2) (.b (.a (.a 384)))) (.b (.a (.a 4))),.e .a (.i .a (.i .d (.a 2) (.b (.a (.a 1536)))) (.b (.a (.a 5)))) (.b (.a (.a 4)))]),
 .c 18 (.i .b (.i .b (.m 1 [.j 12]) (.k 47 [.b (.a (.a 10)),.a 3,.a 4,.i .a (.i .d (.a 0) (.b (.a (.a 1500)))) (.b (.a (.a 9)))])) (.k 47 [.b (.a (.a 12)),.a 3,.a 4,.i .a (.i .d (.a 1) (.b (.a (.a 1125)))) (.b (.a (.a 9)))])),
 .d (.h (.a 18) 0 [.d [.b (.e 5),.b (.a (.a 14)),.g .none [.d [.b (.e 1),.f (.d [.b (.a (.a 3)),.b (.a (.a 4)),.b (.a (.a 5)),.b (.a (.a 6)),.b (.a (.a 0))]) (.a 9)],.d [.b (.e 0),.a 10]],.b (.a (.a 0)),.b (.c I)]]),
 .d (.h (.a 18) 0 [.o (.a 7) (.d [.b (.e 8),.b (.a (.a 7)),.g .none [.d [.b (.e 1),.b (.a (.a 10))]],.d [.a 5,.a 6],.a 8]) (.d [.b (.e 9),.p (.b (.a (.a 1))),.g .none [.d [.b (.e 1),.b (.a (.a 10))],.d [.b (.e 1),.b (.a (.a 1))]],.a 5,.a 8])]),
 .c 18 (.i .b (.a 18) (.k 49 [.a 12,.a 9,.a 11,.b (.a (.a 4))])),
 .c 19 (.d [.b (.e 1),.i .b (.b (.a (.a 1))) (.i .a (.a 16) (.b (.a (.a 2))))]),
 .d (.h (.a 18) 0 [.o (.e .e (.a 16) (.b (.a (.a 2)))) (.d [.b (.e 8),.b (.a (.a 8)),.g .none [.d [.b (.e 1),.b (.a (.a 12))]],.d [.a 14,.a 15],.a 17]) (.d [.b (.e 9),.p (.b (.a (.a 1))),.g .none [.d [.b (.e 1),.b (.a (.a 12))],.a 19],.a 14,.a 17])]),
 .c 20 (.m 0 [.a 18]),
 .c 21 (.o (.e .b (.a 13) (.d [.b (.a (.a 1)),.b (.a (.a 2))])) (.g .none [.i .c (.a 13) (.b (.a (.a 1)))]) (.g .none [])),
 .a (.e .c (.a 21) (.g .none [])) [.d (.h (.a 18) 0 [.d [.b (.e 25),.p (.b (.a (.a 1))),.g .none [.d [.b (.e 1),.i .b (.b (.a (.a 3))) (.f (.a 21) (.b (.a (.a 0))))]],.b (.e 26),.b (.c I)]])] [],
 .c 22 (.d [.a 3,.m 2 [.a 4,.i .b (.a 4) (.a 5)]]),
 .c 23 (.d [.a 3,.m 2 [.a 4,.i .b (.a 4) (.a 14)]]),
 .c 24 (.d [.a 9,.m 2 [.a 10,.i .b (.a 10) (.o (.e .a (.a 12) (.b (.a (.a 3)))) (.b (.a (.a 4))) (.a 11))]]),
 .c 25 (.o (.a 8) (.b .g) (.o (.a 7) (.d [.d [.b (.e 1),.b (.a (.a 7))],.f (.b (.e 32)) (.o (.a 6) (.b (.a (.a 0))) (.b (.a (.a 1))))]) (.d [.d [.b (.e 1),.b (.a (.a 1))],.b (.e 13)]))),
 .a (.q [.e .c (.a 22) (.a 23),.l [.e .b (.a 12) (.d [.b (.a (.a 1)),.b (.a (.a 3)),.b (.a (.a 4))]),.k 48 [.a 22,.a 24,.a 21]]]) [.c 25 (.b .g)] [],
 .a (.l [.e .a (.a 12) (.b (.a (.a 2))),.q [.e .h (.a 3) (.b (.a (.a 1))),.e .b (.a 3) (.a 21)]]) [.c 25 (.b .g)] [],
 .a (.l [.e .a (.a 12) (.b (.a (.a 1))),.e .a (.a 24) (.a 23)]) [.c 25 (.d [.d [.b (.e 1),.b (.a (.a 2))],.b (.e 13)])] [],
 .c 26 (.f (.k 46 [.g .none [.d [.a 18,.j 13]]]) (.b (.a (.a 0)))),
 .a (.e .g (.a 16) (.b (.a (.a 2)))) [.c 27 (.q [.a 17,.e .i (.a 25) (.b .g),.e .c (.f (.a 25) (.b (.a (.a 0)))) (.a 19)]),
 .b (.o (.a 27) (.e .a (.m 0 [.a 26]) (.m 0 [.a 18])) (.e .a (.m 0 [.a 26]) (.i .c (.m 0 [.a 18]) (.b (.a (.a 1))))))] [],
 .e [.a 28,.a 29,.a 30] (.f (.a 26) (.i .c (.a 20) (.b (.a (.a 1))))),
 .a (.q [.a 17,.e .i (.a 25) (.b .g)]) [.b (.e .a (.a 28) (.b (.e 8)))] [],
 .a (.q [.e .a (.a 14) (.b (.a (.a 4))),.e .a (.f (.a 25) (.b (.a (.a 1)))) (.o (.a 15) (.b (.e 11)) (.b (.e 12)))]) [.b (.e .a (.d [.a 28,.a 30]) (.d [.b (.e 6),.g .none [.f (.a 25) (.b (.a (.a 0)))]]))] [],
 .b (.e .a (.d [.a 28,.a 30]) (.d [.i .b (.o (.a 15) (.b (.e 18)) (.b (.e 19))) (.m 4 [.i .e (.b (.a (.a 8))) (.a 14)]),.g .none [.f (.a 25) (.b (.a (.a 0)))]]))]⟩
noncomputable def Py:bx:=⟨2,7,[.c 2 (.i .a (.a 0) (.b (.a (.a 25)))),
 .c 3 (.e .a (.i .a (.a 1) (.b (.a (.a 2)))) (.b (.a (.a 1)))),
 .a (.e .a (.a 2) (.b (.a (.a 23)))) [.b (.d [.d [.b (.e 4),.g .none [],.d [.b (.e 23),.b (.a (.a 4))]],.d [.b (.e 4),.g .none [],.d [.b (.e 23),.o (.a 3) (.b (.a (.a 8))) (.b (.a (.a 4)))]],.s (.a 3)])] [],
 .a (.e .a (.a 2) (.b (.a (.a 24)))) [.b (.d [.d [.b (.e 3),.g .none [],.b (.a (.a 0))],.d [.b (.e 3),.g .none [],.o (.a 3) (.b (.a (.a 1))) (.b (.a (.a 0)))],.s (.a 3)])] [],
 .a (.e .h (.a 2) (.b (.a (.a 16)))) [.e [.a 4,.a 5] (.d [.g .none [.d [.b (.e 1),.b (.a (.a 1))]],.g .none [.d [.b (.e 1),.o (.a 3) (.b (.a (.a 2))) (.b (.a (.a 1)))]]]),
 .b (.d [.d [.f (.j 10) (.i .c (.a 2) (.b (.a (.a 17)))),.a 4,.b (.a (.a 0))],.d [.f (.j 10) (.i .c (.a 2) (.b (.a (.a 17)))),.a 5,.b (.a (.a 0))],.s (.a 3)])] [],
 .c 6 (.f (.j 9) (.a 2)),
 .c 4 (.o (.e .a (.i .a (.i .d (.a 0) (.b (.a (.a 25)))) (.b (.a (.a 2)))) (.b (.a (.a 1)))) (.g .none [.d [.b (.e 1),.b (.a (.a 1))],.d [.b (.e 0),.i .b (.b (.a (.a 3))) (.i .a (.i .d (.a 1) (.b (.a (.a 2)))) (.b (.a (.a 5))))]]) (.g .none [.d [.b (.e 1),.b (.a (.a 1))],.d [.b (.e 1),.b (.a (.a 2))]])),
 .c 5 (.o (.a 3) (.v (.a 4)) (.a 4)),
 .b (.d [.d [.a 6,.a 4,.b (.a (.a 0))],.d [.a 6,.a 5,.b (.a (.a 0))],.q [.s (.a 3),.e .b (.a 6) (.j 11)]])]⟩
noncomputable def Pz:bx:=⟨2,10,[.e [.a 2,.a 3,.a 4] (.k 51 [.a 0,.a 1]),
 .c 5 (.g .none [.d [.f (.a 2) (.b (.a (.a 0))),.b (.a (.a 7)),.f (.a 2) (.b (.a (.a 1))),.f (.a 2) (.b (.a (.a 2))),.b (.c I)]]),
 .c 6 (.g .none [.d [.f (.a 3) (.b (.a (.a 0))),.b (.a (.a 8)),.f (.a 3) (.b (.a (.a 1))),.f (.a 3) (.b (.a (.a 2))),.b (.c I)]]),
 .c 7 (.i .a (.i .d (.a 1) (.b (.a (.a 16)))) (.b (.a (.a 4)))),
 .c 8 (.d [.b (.e 30),.g .none [.d [.b (.e 1),.b (.a (.a 0))]],.d [.b (.a (.a 1)),.b (.a (.a 2))]]),
 .a (.e .a (.a 7) (.b (.a (.a 0)))) [.c 9 (.f (.f (.k 46 [.g .none [.d [.i .b (.a 5) (.a 6),.j 13]]]) (.b (.a (.a 0)))) (.b (.a (.a 1))))] [.a (.e .a (.a 7) (.b (.a (.a 1)))) [.c 9 (.f (.f (.k 46 [.g .none [.d [.a 5,.d [.b (.e 29),.g .none [],.b (.a (.a 1))]],.d [.a 6,.j 13]]]) (.b (.a (.a 1)))) (.b (.a (.a 0))))] [.a (.e .a (.a 7) (.b (.a (.a 2)))) [.c 9 (.f (.f (.k 46 [.g .none [.d [.a 5,.a 8],.d [.g .none [],.d [.b (.e 29),.g .none [],.b (.a (.a 3))]],.d [.g .none [],.d [.b (.e 29),.g .none [],.b (.a (.a 3))]],.d [.a 6,.j 13]]]) (.b (.a (.a 3)))) (.b (.a (.a 0))))] [.c 9 (.f (.f (.k 46 [.g .none [.d [.g .none [],.a 8],.d [.a 5,.j 13],.d [.a 6,.j 13]]]) (.b (.a (.a 2)))) (.b (.a (.a 0))))]]],
 .a (.l [.e .e (.a 7) (.b (.a (.a 3))),.a 4]) [.b (.e .a (.a 9) (.d [.b (.e 6),.b (.a (.a 8)),.g .none [.d [.b (.e 1),.b (.a (.a 7))]]]))] [],
 .b (.l [.e .a (.f (.a 9) (.b (.a (.a 0)))) (.f (.a 3) (.b (.a (.a 0)))),.e .a (.f (.a 9) (.b (.a (.a 1)))) (.b (.a (.a 8))),.e .a (.m 3 [.f (.a 9) (.b (.a (.a 2)))]) (.m 3 [.f (.a 3) (.b (.a (.a 1)))])])]⟩
noncomputable def Pv:bx:=⟨2,16,[.e [.a 2,.a 3] (.d [.i .a (.a 0) (.b (.a (.a 5))),.i .b (.b (.a (.a 1))) (.i .a (.a 1) (.b (.a (.a 1000))))]),
 .c 4 (.f (.d [.b (.e 37),.b (.e 38),.b (.e 47),.b (.e 37),.b (.e 37)]) (.a 2)),
 .c 5 (.o (.e .a (.a 2) (.b (.a (.a 3)))) (.d [.b (.e 1),.b (.a (.a 1))]) (.d [.b (.e 1),.b (.a (.a 7))])),
 .c 6 (.e .a (.i .a (.i .d (.a 0) (.b (.a (.a 5)))) (.b (.a (.a 3)))) (.b (.a (.a 0)))),
 .c 7 (.o (.e .a (.a 2) (.b (.a (.a 4)))) (.d [.b (.e 31),.g .none [.a 5],.d [.b (.a (.a 0)),.g .none [.b (.a (.a 1))],.b (.a (.a 2))]]) (.d [.b (.e 30),.g .none [.a 5],.d [.b (.a (.a 1)),.b (.a (.a 2))]])),
 .c 8 (.g .none [.d [.b (.e 9),.p (.b (.a (.a 1))),.g .none [.d [.b (.e 1),.b (.a (.a 0))],.d [.b (.e 1),.b (.a (.a 1))]],.b (.a (.a 4)),.b (.c I)],.d [.b (.e 9),.p (.b (.a (.a 1))),.g .none [.d [.b (.e 1),.b (.a (.a 0))],.d [.b (.e 1),.b (.a (.a 7))]],.b (.a (.a 4)),.b (.c I)]]),
 .c 9 (.g .none [.d [.a 4,.b (.a (.a 7)),.g .none [.d [.b (.e 1),.b (.a (.a 1))],.d [.b (.e 0),.a 3]],.b (.a (.a 0)),.b (.c I)]]),
 .c 10 (.k 46 [.g .none [.d [.a 9,.a 7],.d [.a 8,.j 13],.d [.a 8,.o (.a 6) (.d [.b (.e 29),.g .none [],.b (.a (.a 1))]) (.j 13)]]]),
 .c 11 (.g .none [.g .none [.d [.b (.e 1),.b (.a (.a 1))],.d [.b (.e 1),.b (.a (.a 7))]],.g .none [.d [.b (.e 1),.b (.a (.a 1))],.d [.b (.e 1),.b (.a (.a 7))]]]),
 .a (.l [.e .a (.a 2) (.b (.a (.a 0))),.s (.a 6)]) [.i (.f (.a 11) (.b (.a (.a 0)))) (.b (.a (.a 0))) (.d [.b (.e 0),.a 3])] [],
 .a (.e .a (.a 2) (.b (.a (.a 1)))) [.i (.f (.a 11) (.b (.a (.a 1)))) (.b (.a (.a 0))) (.d [.b (.e 0),.a 3])] [],
 .a (.e .a (.a 2) (.b (.a (.a 3)))) [.i (.f (.a 11) (.b (.a (.a 1)))) (.b (.a (.a 0))) (.d [.b (.e 0),.b (.a (.a 0))])] [],
 .a (.e .e (.a 2) (.b (.a (.a 3)))) [.i (.f (.a 11) (.b (.a (.a 1)))) (.b (.a (.a 1))) (.d [.b (.e 0),.b (.a (.a 0))])] [],
 .b (.e .a (.u (.u (.f (.a 15) (.b (.a (.a 1)))) (.e [.a 13,.a 14,.a 15]) (.a 12) .none) (.a 12) (.n (.a 10) (.b (.a (.a 1))) (.b .g)) .none) (.a 11))]⟩
noncomputable def Pu:bx:=⟨2,9,[.c 2 (.e .a (.i .a (.a 0) (.b (.a (.a 2)))) (.b (.a (.a 1)))),
 .c 3 (.i .a (.a 1) (.b (.a (.a 5000)))),
 .c 4 (.g .none [.d [.b (.e 4),.b (.a (.a 5)),.g .none [],.d [.b (.e 23),.b (.a (.a 0))],.b (.c I)],.d [.b (.e 7),.b (.a (.a 9)),.g .none [.d [.b (.e 0),.a 3]],.b (.a (.a 0)),.b (.c I)],.d [.b (.e 9),.p (.b (.a (.a 1))),.g .none [.d [.b (.e 1),.b (.a (.a 0))],.d [.b (.e 1),.b (.a (.a 1))]],.b (.a (.a 4)),.b (.c I)]]),
 .c 5 (.g .none [.d [.b (.e 8),.b (.a (.a 8)),.g .none [.d [.b (.e 1),.b (.a (.a 0))]],.d [.b (.a (.a 4)),.b (.c I)],.b (.c I)],.d [.b (.e 9),.p (.b (.a (.a 1))),.g .none [.d [.b (.e 1),.b (.a (.a 5))],.d [.b (.e 1),.b (.a (.a 9))]],.b (.a (.a 4)),.b (.c I)]]),
 .c 6 (.g .none [.d [.b (.e 6),.b (.a (.a 9)),.g .none [.d [.b (.e 1),.b (.a (.a 2))]],.b (.a (.a 0)),.b (.c I)]]),
 .c 7 (.o (.a 2) (.d [.b (.e 29),.g .none [],.b (.a (.a 1))]) (.j 13)),
 .c 8 (.f (.k 46 [.g .none [.d [.a 4,.d [.b (.e 30),.g .none [.d [.b (.e 1),.b (.a (.a 2))]],.d [.b (.a (.a 1)),.b (.a (.a 2))]]],.d [.a 5,.j 13],.d [.a 6,.a 7]]]) (.b (.a (.a 1)))),
 .a (.a 2) [.b (.e .a (.a 8) (.g .none [.d [.b (.e 8),.b (.a (.a 8)),.g .none [.d [.b (.e 1),.b (.a (.a 0))]]],.d [.b (.e 9),.p (.b (.a (.a 1))),.g .none [.d [.b (.e 1),.b (.a (.a 5))],.d [.b (.e 1),.b (.a (.a 9))]]]]))] [],
 .b (.e .a (.a 8) (.g .none [.d [.b (.e 6),.b (.a (.a 8)),.g .none [.d [.b (.e 1),.b (.a (.a 1))]]],.d [.b (.e 9),.p (.b (.a (.a 1))),.g .none [.d [.b (.e 1),.b (.a (.a 5))],.d [.b (.e 0),.a 3]]]]))]⟩
noncomputable def sG:bx:=⟨1,8,[.c 1 (.u (.i .a (.a 7) (.b (.a (.a 2147483647)))) (.a 7) (.n (.a 0) (.b .g) (.b (.a (.a 12)))) .none),
 .c 1 (.i .b (.a 1) (.m 2 [.m 0 [.a 1],.b (.a (.a 12))])),
 .g (.a 2) (.b [.b (.a (.a 0)),.b (.a (.a 12)),.b (.a (.a 4))]) [.e [.a 3,.a 4,.a 5,.a 6] (.n (.a 1) (.a 2) (.i .b (.a 2) (.b (.a (.a 4))))),
 .a (.l [.e .e (.i .a (.a 3) (.b (.a (.a 6)))) (.b (.a (.a 3))),.s (.k 50 [.a 4,.a 5,.a 6])]) [.b (.b (.c I))] [],
 .a (.l [.e .a (.i .a (.a 3) (.b (.a (.a 6)))) (.b (.a (.a 3))),.s (.k 52 [.a 4,.a 5])]) [.b (.b (.c I))] [],
 .a (.l [.e .a (.i .a (.a 3) (.b (.a (.a 6)))) (.b (.a (.a 4))),.s (.k 53 [.a 4,.a 5])]) [.b (.b (.c I))] [],
 .a (.l [.e .a (.i .a (.a 3) (.b (.a (.a 6)))) (.b (.a (.a 5))),.s (.k 54 [.a 4,.a 5])]) [.b (.b (.c I))] []],
 .b (.b (.c D))]⟩
def zw:List bx:=[PC,Fa,OS,OU,Pq,PI,PH,PG,PB,Pp,Po,PL,PK,Fc,Pr,Fb,PJ,Ps,PA,OT,vp,Pc,OV,Pk,OZ,Pm,Pn,O',Pe,Pj,Pl,Pi,Pb,Pd,Ph,Pg,OY,OX,mM,zr,Pf,Pa,OW,PF,PD,PE,qe,Px,Pw,Pt,dV,Py,Pz,Pv,Pu,sG]
noncomputable def tn:List (Nat×Nat):=[(31,21),(32,22),(33,23),(34,24),(35,25),(36,26),(37,27),(38,28),(39,29),(40,30),(41,31),(42,32),(43,33),(44,34),(45,35),(46,36),(47,37),(48,38),(49,39),(50,40),(51,41),(52,42)]
noncomputable def vF:List Nat:=[1,2,3,19,20]
noncomputable def Aq:List (List String):=[["value"],
 ["self","op","dst","args","more"],
 ["self","number"],
 ["self","name"],
 ["block","end"],
 ["func","found","block","number"],
 ["func","found","seen","stack","top","number"],
 ["func"],
 ["parents","places","one","other"],
 ["func","row","places","place","number","before","parents","is_new","found","other"],
 ["parents","found","number","parent"],
 ["value"],
 ["func","once","more","register","block","step"],
 ["step","found"],
 ["func","once","found","number","step","slot"],
 ["args","holders","private","operand"],
 ["func","once","private","slot","holders","block","step"],
 ["place","slots","base","offset","width"],
 ["one","other","slots","private","behind","first","second"],
 ["self","value","how"],
 ["self","func"],
 ["self","table","key","value"],
 ["self","table","key"],
 ["self","mark","table","key","before"],
 ["self"],
 ["self","register","value"],
 ["self","operand"],
 ["self","register","value"],
 ["self","value"],
 ["self","register","value"],
 ["self","args","values","found","operand","value","other"],
 ["self","value"],
 ["self","value","op","values","more","base","offset"],
 ["self","op","values","more","key","value"],
 ["self","step","value","found"],
 ["self","step","address","width","with_sign","how","base","offset","key","cell","value","found"],
 ["self","place","key"],
 ["self","key","base"],
 ["self","step","address","value","base","offset","key","known"],
 ["self","step","op","values","found","base","offset"],
 ["self","block","kept","step","values","found"],
 ["self","end","number","then","other","value","op","more","values","one","two"],
 ["self","number","before","tables"],
 ["ways","parents","number"],
 ["func","numbering","parents","children","ways","ends","stack","number","mark","before","tables","child"],
 ["func","numbering"],
 ["parts","drawn","number","rows","end","block","op","dst","args","more","firm","each"],
 ["goal","base","offset","way","operand"],
 ["one","other","out","place","there"],
 ["kind","place","width","size"],
 ["a","b","c","base","offset","width","sign","is_load","is_firm","other","spot","wide","kind","leak","last_wide","last_sign","last_kind","last_firm","rows","value","many","out","place","asked","middle","known","left","stays","op","dst","args"],
 ["a","b","pick","turned","one","two","op"],
 ["a","b","first","again","is_alike","one","two","where","parting","row"],
 ["a","b","kind","number","op","asked","is_joined","end","uses","here","left","due"],
 ["a","b","is_joined","number","here","uses","other","end","left"],
 ["script","numbers","at","kind","a","b","c"]]
noncomputable def Ql:List (Nat×String):=[(0,"num"),(4,"followers"),(5,"preds"),(6,"postorder"),(7,"order"),(8,"nearest_over"),(9,"dominators"),(10,"children_of"),(11,"signed"),(12,"set_once"),(13,"slot_told"),(14,"holders_of_slots"),(15,"let_go"),(16,"private_slots"),(17,"is_inside"),(18,"may_meet"),(43,"only_way"),(44,"number_blocks"),(45,"number_func"),(46,"_law_numbered"),(47,"_law_sum"),(48,"_law_meets"),(49,"_law_between"),(50,"_law_memory_right"),(51,"_law_told_twice"),(52,"_law_twice_right"),(53,"_law_edges_right"),(54,"_law_carried_right"),(55,"law")]
noncomputable def Td:List (Nat×String):=[(0,"append"),(1,"pop"),(2,"get"),(3,"add"),(31,"note"),(32,"drop"),(33,"take_back"),(34,"fresh"),(35,"value_in"),(36,"value_of"),(37,"holds"),(38,"operand_with"),(39,"put"),(40,"taken"),(41,"place_of"),(42,"learn_place"),(43,"number_of"),(44,"pass_value"),(45,"pass_load"),(46,"forget_place"),(47,"forget_all"),(48,"pass_store"),(49,"pass_step"),(50,"pass_block"),(51,"learn_edge"),(52,"enter")]
noncomputable def NH:List String:=["Step","Block","Func","Cell","Numbering"]
noncomputable def QB:List String:=["MASK","TOP","ROUND","COMMUTING","PURE","ADDRESSED","TELLING","WIDENINGS","_law_SIZE","_law_TWO","_law_ONE","_law_EITHER","_law_HEAD","_law_GIVE"]
noncomputable def wl(k:Nat):List (Nat×Nat)->Option Nat
 |[]=>.none
 |(a,b)::r=>bif M a k then B b else wl k r
noncomputable def oH(k j:Nat):List (Nat×Nat×Nat)->Option Nat
 |[]=>.none
 |(a,b,c)::r=>bif M a k&&M b j then B c else oH k j r
abbrev G(i:Int):E:=.a (.a i)
abbrev W(k:Nat):E:=.e k
noncomputable def mU:=[G 4294967295,G 2147483648,G 4294967296,.b (.d 0),.b (.d 1),.b (.d 2),.b (.d 3),.b (.d 4),G 4294967296,
 .d [W 5,W 39,W 33,W 40,W 41,W 42,W 43,W 34,W 35,W 36,W 44,W 45,W 46,W 47,W 48,W 37,W 38],
 .d [W 49,W 50,W 14,W 15,W 16,W 17],.d [W 5,W 33,W 34,W 35,W 36,W 37,W 38],
 .d [.d [W 3,G 3,.b (.d 5),G 0,.c I],.d [W 3,G 4,.b (.d 6),G 1,.c I],.d [W 4,G 5,.b (.d 7),.d [W 23,G 0],.c I],.d [W 4,G 6,.b (.d 8),.d [W 24,G 0],.c I]],
 .d [W 27,.b (.d 9),G 0]]
noncomputable def HL(l:List Nat):bq:=.b (l.map λk=>(.e k,.a (.a 1))) l.length
def cZ:=[HL [5,33,34,35,36,37,38],
 HL [5,39,33,40,41,42,43,34,35,36,44,45,46,47,48,37,38,49,50,14,15,16,17,4,3],
 .b [(W 8,G 1),(W 9,G 1),(W 10,G 2)] 3,.b [(W 7,G 1),(W 6,G 1)] 2,
 .b [(.d [G 1,.c D],W 14),(.d [G 1,.c I],W 16),(.d [G 2,.c D],W 15),(.d [G 2,.c I],W 17)] 4,
 .a [],.a [],.a [],.a [],.a [.d [W 1,G 1]]]
noncomputable def zV(a b):=bif ar a 3&&ar b 3 then B (ar a b)else .none
noncomputable def yQ:=[(18,20,14),(18,21,15),(19,20,16),(19,21,17)]
noncomputable def yR:=[(32,0,11),(32,1,12)]
noncomputable def Oh(i:Int):=bif i==8 then B 20 else bif i==16 then B 21 else bif i==32 then B 22 else .none
def dD:yp where
 c:=Z zw
 h:=λc m=>bif M c 4 then wl m tn else .none
 g:=Z vF
 b:=λj=>(Z mU j).getD .f
 d:=λa b=>oH a b yQ
 f:=λa b=>oH a b yR
 n:=zV
 e:=Oh
 a:=λc f=>match c with|0=>cV f 5|1=>cV 6 f&&cV f 8|2=>cV 9 f&&cV f 15|3=>cV 16 f&&cV f 17|_=>cV 18 f&&cV f 31
def fA:af->bq
 |.d i=>(Z cZ i).getD .f
 |.c _=>.f
set_option genCtorIdx false in
inductive bj where
 |c
 |g (o:bq) (l r:bj)
noncomputable def bj.a(t:bj):Nat->bq:=bj.rec (λz=>.f) (λs z z p q r=>bf s (λo z=>a' (q (jC o 2)) (p (jC o 2)) (M (nR o 2) 0)) r) t
noncomputable def bj.j:bj->bq
 |.c=>.f
 |.g o _ _=>o
noncomputable def bj.e:bj->bj
 |.c=>.c
 |.g _ o _=>o
noncomputable def bj.b:bj->bj
 |.c=>.c
 |.g _ _ r=>r
noncomputable def bj.d(v:Nat):bj->Nat->bq->bj:=bf (λt z z=>t) (λz p t s x=>bj.rec
 (bf (.g x .c .c) (λo z=>a' (.g .f .c (p .c (jC o 2) x)) (.g .f (p .c (jC o 2) x) .c) (M (nR o 2) 0)) s)
 (λu q r z z=>bf (.g x q r) (λo z=>a' (.g u q (p r (jC o 2) x)) (.g u (p q (jC o 2) x) r) (M (nR o 2) 0)) s) t) v
theorem bj.l(o)(t)(x):bj.d (o+1) t 0 x=.g x t.e t.b:=by cases t<;>rfl
theorem bj.m(q)(t)(o:Nat)(x)(p:M (nR o 2) 0=D):bj.d (q+1) t (o+1) x=.g t.j (bj.d q t.e (jC o 2) x) t.b:=by cases t with|c=>show(a' _ _ _:bj)=_;refine C p ?_;rfl|g s r u=>show(a' _ _ _:bj)=_;refine C p ?_;rfl
theorem bj.n(q)(t)(o:Nat)(x)(p:M (nR o 2) 0=I):bj.d (q+1) t (o+1) x=.g t.j t.e (bj.d q t.b (jC o 2) x):=by cases t with|c=>show(a' _ _ _:bj)=_;refine C p ?_;rfl|g s r u=>show(a' _ _ _:bj)=_;refine C p ?_;rfl
theorem MU(m n:Nat):M m n=decide (m=n):=by
 by_cases h:m=n
 ·subst h;simp
 ·refine C (decide_eq_false h) ?_;cases q:M m n with|false=>rfl|true=>exact ak (bW q) h
theorem bj.i(t:bj):t.a 0=t.j:=by cases t<;>rfl
theorem bj.f(t:bj)(o:Nat)(p:M (nR o 2) 0=D):t.a (o+1)=t.e.a (jC o 2):=by cases t with|c=>rfl|g s q r=>show(a' (r.a _) (q.a _) _:bq)=_;refine C p ?_;rfl
theorem bj.h(t:bj)(o:Nat)(p:M (nR o 2) 0=I):t.a (o+1)=t.b.a (jC o 2):=by cases t with|c=>rfl|g s q r=>show(a' (r.a _) (q.a _) _:bq)=_;refine C p ?_;rfl
theorem FI{a b:Nat}(p:M (nR a 2) 0=x)(d:M (nR b 2) 0=x)(q:jC a 2=jC b 2):a=b:=by
 have e:M (a%2) 0=M (b%2) 0:=p.trans d.symm;have k:a%2=b%2:=by rcases S0 a with h|h<;>rcases S0 b with c|c<;>rw[h,c]at e<;>rw[h,c]<;>exact absurd e (by decide)
 have w:=R0 a 2;rw[k,show a / 2=b / 2 from q,R0 b 2]at w;exact w.symm
theorem bj.k:∀r v q u o,q+1<2^r->(bj.d r v q u).a o=if o=q then u else v.a o:=λr=>by
 induction r with
 |zero=>exactλv q u o w=>by simp at w
 |succ r y=>
  exactλv E=>by
   cases E with
   |zero=>
    exactλu o w=>by
     rw[bj.l];cases o with
     |zero=>rfl
     |succ o=>cases p:M _ 0 with|true=>exact C (bj.f _ o p) (C (bj.f _ o p) A)|false=>exact C (bj.h _ o p) (C (bj.h _ o p) A)
   |succ q=>
    exactλu o w=>by
     have x:jC q 2+1<2^r:=by
      show q / 2+1<2^r
      omega
     cases s:M _ 0 with
     |true=>
      refine C (bj.m _ _ _ _ s) ?_;cases o with
      |zero=>rw[bj.i,bj.i];rfl
      |succ o=>
       cases p:M _ 0 with
       |true=>
        refine C (bj.f _ o p) (C (bj.f _ o p) ?_);show(bj.d r v.e _ u).a _=_
        refine C (y _ _ _ _ x) ?_
        by_cases t:o=q
        ·subst t;exact C (if_pos A) (C (if_pos A) A)
        ·exact C (if_neg λz=>t (FI p s z)) (C (if_neg λz=>t (nS z)) A)
       |false=>exact C (bj.h _ o p) (C (bj.h _ o p) (C (if_neg λz=>by have:=nS z;subst this;rw[p]at s;cases s) A))
     |false=>
      refine C (bj.n _ _ _ _ s) ?_;cases o with
      |zero=>rw[bj.i,bj.i];rfl
      |succ o=>
       cases p:M _ 0 with
       |false=>
        refine C (bj.h _ o p) (C (bj.h _ o p) ?_);show(bj.d r v.b _ u).a _=_
        refine C (y _ _ _ _ x) ?_
        by_cases t:o=q
        ·subst t;exact C (if_pos A) (C (if_pos A) A)
        ·exact C (if_neg λz=>t (FI p s z)) (C (if_neg λz=>t (nS z)) A)
       |true=>exact C (bj.f _ o p) (C (bj.f _ o p) (C (if_neg λz=>by have:=nS z;subst this;rw[p]at s;cases s) A))
structure ly where
 d:bj
 c:bj
def C9(h:ly):af->bq
 |.d n=>h.d.a n
 |.c n=>h.c.a n
def D2(h:ly)(a:af)(o:bq):ly:=match a with
 |.d n=>⟨bj.d 12 h.d n o,h.c⟩
 |.c n=>⟨h.d,bj.d 12 h.c n o⟩
noncomputable def D1:af->Bool
 |.d n=>ar n 4000
 |.c n=>ar n 4000
theorem Eb(h:ar m n=D):m<n:=bH h
theorem DW{a:Type}{m n:Nat}{x y:a}:(if m=n then x else y)=bif M m n then x else y:=by
 rw[MU]
 by_cases h:m=n<;>simp[h]
def D0:HOps ly where
 a:=C9
 d:=D2
 e:=D1
 g:=by
  intro a d o b c;cases d with
  |d n=>
   have h:n+1<2^12:=by have:=Eb (show ar n 4000=D from c);omega
   cases b with|d m=>show(bj.d 12 a.d n o).a m=_;refine C (bj.k 12 _ _ _ _ h) (C DW ?_);rfl|c m=>rfl
  |c n=>
   have h:n+1<2^12:=by have:=Eb (show ar n 4000=D from c);omega
   cases b with|d m=>rfl|c m=>show(bj.d 12 a.c n o).a m=_;refine C (bj.k 12 _ _ _ _ h) (C DW ?_);rfl
def tO:List bq->Nat->bj->bj
 |[],_,t=>t
 |o::r,i,t=>tO r (i+1) (bj.d 12 t i o)
def Jt:S ly:=⟨⟨tO cZ 0 .c,.c⟩,0⟩
def Kp(F:cl):eT ly:={D0 with b:=F,c:=dD,f:=100000}
theorem X{b:Type}{a:b}{P:Prop}(h:N=B a):P:=ak (O S5 h) nO
theorem az{P:Prop}(h:I=D):P:=ak h nO
theorem ck{P:Prop}(h:D=I):P:=ak h.symm nO
theorem aj{x:Option a}{f}{P:Prop}(h:Y x f=B r)(k:∀b,x=B b->f b=B r->P):P:=by cases x with|none=>exact X h|some b=>exact k b A h
theorem aY{x}{P:Prop}(h:aI b x=B r)(k:b=D->x=B r->P):P:=by cases b with|false=>exact X h|true=>exact k A h
theorem aO{x:av a b}{f}{r:c×S a}{P:Prop}(h:aB x f=B r)(k:∀d s,x=B (d,s)->f d s=B r->P):P:=by cases x with|none=>exact X h|some p=>exact k p.1 p.2 A h
theorem ga{a:Type}{x}{r:a}{P:Prop}(h:(bif b then x else N)=B r)(k:b=D->x=B r->P):P:=by cases b with|false=>exact X h|true=>exact k A h
theorem V{P:Prop}(h:(a&&b)=D)(k:a=D->b=D->P):P:=by cases a with|false=>exact az h|true=>exact k A h
theorem cq(h:(!a)=D):a=I:=by cases a with|false=>rfl|true=>exact az h
theorem aW{e f:Type}{a c:e}{b d:f}(h:B (a,b)=B (c,d)):a=c:=(dd (R h)).1
theorem bo{e f:Type}{a c:e}{b d:f}(h:B (a,b)=B (c,d)):b=d:=(dd (R h)).2
theorem X5{e f:Type}{a c}{b d}{P:e->f->Prop}(h:B (a,b)=B (c,d))(k:P a b):P c d:=J (aW h) (bo h▸k)
theorem X3(h:aF v=I):v≠ .f:=λe=>by subst e;exact ck h
theorem tw{H}{s a:S H}{v}{P:Prop}(h:hf x s=B (v,a))(k:x=B v->aF v=I->s=a->P):P:=
 aj h λb e h=>by cases q:aF b with|true=>rw[q]at h;exact X h|false=>rw[q]at h;exact k (J (aW h) e) (J (aW h) q) (bo h)
theorem qw{H b}{x}{s a:S H}{v:b}{P:Prop}(h:qv x s=B (v,a))(k:x=B v->s=a->P):P:=
 aj h λz e h=>k (J (aW h) e) (bo h)
section
variable{v:E}{o:bq}
theorem fZ(h:dw v=B z):v=.a z:=by cases v<;>first|exact X h|exact congrArg _ (R h)
theorem DM(h:hE v=B z):v=.d z:=by cases v<;>first|exact X h|exact congrArg _ (R h)
theorem mH(h:hC v=B z):v=.b z:=by cases v<;>first|exact X h|exact congrArg _ (R h)
theorem yI(h:hD v=B z):v=.e z:=by cases v<;>first|exact X h|exact congrArg _ (R h)
theorem mn{z}(h:jz z=B i):z=.a i:=by cases z<;>first|exact X h|exact congrArg bM.a (R h)
theorem jm(h:ce o=B z):o=.a z:=by cases o<;>first|exact X h|exact congrArg _ (R h)
theorem wF(h:dy o=B (a,e)):o=.b a e:=by cases o with|b=>exact C (aW h) (bo h▸A)|_=>exact X h
theorem Ub{f}(h:qP o=B (c,f)):o=.e c f:=by cases o with|e=>exact C (aW h) (bo h▸A)|_=>exact X h
theorem HD(h:qO o=B ()):o=.f:=by cases o<;>first|exact X h|rfl
theorem tq(h:oE v=B n):v=.a (.a (.ofNat n)):=aj h λz e h=>aj h λi a h=>by cases i with|ofNat m=>exact(fZ e).trans (O _ ((mn a).trans (O (λn=>bM.a _) (R h))))|negSucc=>exact X h
end
section
variable{d:Type}{a:eT d}{s c:S d}{b:E}
theorem qj{P:Prop}(h:lH a b s=B l)(k:∀n,b=.b n->a.a s.b n=.a l->P):P:=aj h λn e h=>k n (mH e) (jm h)
theorem vy{P:Prop}(h:sL a s.b b=B p)(k:b=.b p.1->a.a s.b p.1=.e p.2.1 p.2.2->P):P:=
 aj h λn e h=>aj h λq f h=>by have h:=R h;subst h;exact k (mH e) (Ub f)
theorem xw{P:Prop}(h:nw a n o s=B (u,c))(k:n.a=D->a.e n=D->⟨a.d s.b n o,s.a+1⟩=c->P):P:=
 aY h λq h=>V q λq z=>V q λb e=>k b e (bo h)
theorem D8{P:Prop}(h:kj a n o w s=B (v,c))(k:w=v->n.a=D->a.e n=D->⟨a.d s.b n o,s.a+1⟩=c->P):P:=
 aO h λz z g h=>xw g λb e f=>k (aW h) b e (f.trans (bo h))
theorem TE{P:Prop}(h:qH a n o s=B (v,c))(k:.b n=v->a.a s.b n=.f->a.e n=D->n.a=D->⟨a.d s.b n o,s.a+1⟩=c->P):P:=
 aj h λz f h=>aY h λq h=>V q λq z=>V q λb e=>k (aW h) (HD f) b e (bo h)
theorem wB{P:Prop}(h:fL a i o s=B (v,c))(k:∀n,.b n=v->a.a s.b n=.f->a.e n=D->n.a=D->⟨a.d s.b n o,s.a+1⟩=c->P):P:=TE h (k _)
theorem oG{P:Prop}(h:fM a l s=B (v,c))(k:l.length<a.f->fL a N (.a l) s=B (v,c)->P):P:=aY h λq h=>k (bH q) h
theorem wK(h:nk e=B v):e=[v]:=by
 match e,h with|[],h=>exact X h|b::r,h=>exact aY h λq h=>C (R h) (C (ej.mp q) A)
end
structure eX where
 c:Nat->Int
 d:Nat->Nat
 b:af->af
 e:af->Nat
noncomputable def jo(x c:Int):Int:=Int.rec (λn=>bf x (λn z=>x+iG (n+1)) n) (λn=>x+Le n) c
theorem eP(x c):jo x c=x+c:=by
 cases c with
 |ofNat n=>cases n with|zero=>exact(rC x).symm|succ n=>rfl
 |negSucc n=>rfl
def eX.a(r:eX):bM->Int
 |.a i=>i
 |.b k f=>jo (r.c k) f
mutual
def Q(r:eX):E->E
 |.f=>.f
 |.g=>.g
 |.c b=>.c b
 |.a z=>.a (.a (r.a z))
 |.e k=>.e (r.d k)
 |.d l=>.d (aw r l)
 |.h l=>.h (aw r l)
 |.b a=>.b (r.b a)
termination_by structural x=>x
def aw(r:eX):List E->List E
 |[]=>[]
 |x::c=>Q r x::aw r c
termination_by structural x=>x
end
def eC(r)(e:List (E×E)):=e.map λp=>(Q r p.1,Q r p.2)
inductive cM(r:eX)(F:cl) where
 |mk (l:∀k,k<1000->r.d k=k)
  (g:∀k,r.d k∈F.a k)
  (m:∀k,F.f k<=r.c k)
  (j:∀k,r.c k<=F.e k)
  (h:∀k d e,F.h k d=B e->e<=r.c k-r.c d)
  (i:∀a b c,F.d 0 a (.a b) F.b=B c->b≠0/\fD (r.a a) b=r.a c)
  (n:∀a b c,F.d 1 a (.a b) F.b=B c->b≠0/\cs (r.a a) b=r.a c)
  (f:∀a b c,F.d 2 a b F.b=B c->r.a a+r.a b=r.a c)
  (o:∀a b c,F.d 3 a b F.b=B c->r.a a≠r.a b)
  (t:∀p∈F.i,∃q∈p.2.2,r.c p.1=q.1/\r.d p.2.1=q.2/\q.2<1000)
theorem gw:∀l,(aw r l).length=l.length:=λl=>by
 induction l with|nil=>exact A|cons _ l i=>exact O (· +1) i
theorem qn:∀l m,aw r (l++m)=aw r l++aw r m:=λl=>by
 induction l with|nil=>exactλz=>A|cons x l i=>exactλm=>O _ (i m)
theorem kQ:∀l,aw r l=l.map (Q r):=λl=>by
 induction l with|nil=>exact A|cons x l i=>exact O _ i
theorem qL:∀l n,Z (aw r l) n=(Z l n).map (Q r):=λl=>by
 induction l with
 |nil=>exactλz=>A
 |cons x l i=>exactλv=>by cases v with|zero=>exact A|succ n=>exact i n
theorem ji(v):aF (Q r v)=aF v:=by cases v<;>rfl
theorem Ka(v):dZ (Q r v)=(dZ v).map (Q r):=by cases v<;>rfl
theorem Fi(v):lG (Q r v)=lG v:=by cases v<;>rfl
theorem lK(v):bN (Q r v)=bN v:=by cases v<;>rfl
section
variable{r:eX}{a:cl}{v:E}
theorem hb(h:dw v=B z):dw (Q r v)=B (.a (r.a z)):=C (fZ h) A
theorem DL(h:hD v=B k):hD (Q r v)=B (r.d k):=C (yI h) A
theorem MH(h:hE v=B l):hE (Q r v)=B (aw r l):=C (DM h) A
theorem pR(h:hC v=B b):hC (Q r v)=B (r.b b):=C (mH h) A
theorem MV{x y u v:Int}(h:x=y↔u=v):(x==y)=(u==v):=xQ.mpr (beq_iff_eq.trans (h.trans beq_iff_eq.symm))
theorem xu(h:(bif b then B D else bif c then B I else N)=B t):(b=D/\D=t)∨(c=D/\I=t):=by cases b with|true=>exact .inl ⟨A,R h⟩|false=>exact ga h λq e=>.inr ⟨q,R e⟩
variable(p:cM r a)
include p
theorem xO(h:xM a k c i=B t):r.c k+c≠i/\I=t:=ga h λq e=>⟨λx=>by
 have b:=p.3 k
 exact(gi.mp q).elim (λq=>jP [_,_,_,_] (.c 1 (.c (.a 0) (.a 1)) (.a 2) (.a 1 (.a 3) (.a 0) (.a 1 (.c (.d (.a 2) (.a 1)) (.b 1)) (.a 3) .b))) A x b (of_decide_eq_true q)) λq=>jP [_,_,_,_] (.c (-1) (.c (.a 0) (.a 1)) (.a 2) (.a 1 (.a 0) (.a 3) (.a 1 (.c (.a 3) (.b 1)) (.d (.a 2) (.a 1)) .b))) A x (p.4 k) (of_decide_eq_true q),R e⟩
theorem DA(h:a.g k c b d=D):r.c k+c≠r.c b+d:=by unfold cl.g at h;cases q:a.h k b with|none=>rw[q]at h;exact az h|some e=>rw[q]at h;have:=of_decide_eq_true h;exact M6 (aG [_,_,_,_,_] (.a 1 (.a 0) (.d (.a 1) (.a 2)) (.a 1 (.c (.b 0) (.b 1)) (.d (.c (.a 0) (.a 3)) (.a 4)) .b)) (.c (.c (.a 2) (.a 4)) (.b 1)) (.c (.a 1) (.a 3)) A (p.5 k b e q) this)
theorem B2{c d}(h:a.c (.b k c) (.b b d)=D):r.c k+c≠r.c b+d:=(gi.mp h).elim (λh=>(C'.mp h).elim λz e=>by
 have w:=p.9 _ _ z e;rw[show r.a (.b k c)=_ from eP _ _,show r.a (.b b d)=_ from eP _ _]at w
 exact w) λh=>(C'.mp h).elim λz e=>by
 have w:=p.9 _ _ z e;rw[show r.a (.b k c)=_ from eP _ _,show r.a (.b b d)=_ from eP _ _]at w;exact w.symm
theorem ui(h:po a c b=B t):po F (.a (r.a c)) (.a (r.a b))=B t:=by
 have n:∀{x y:Int},x≠y->I=t->B _=B t:=λj e=>O B ((beq_eq_false_iff_ne.mpr j).trans e)
 cases c with
 |a i=>cases b with|a l=>exact h|b k d=>exact n (by exact C (show r.a (.b k d)=_ from eP _ _) ((xO p h).1.symm)) (xO p h).2
 |b k d=>cases b with
  |a i=>exact n (by exact C (show r.a (.b k d)=_ from eP _ _) ((xO p h).1)) (xO p h).2
  |b f g=>
   have h:(bif M k f then B _ else bif a.g k d f g||a.g f g k d||a.c _ _ then B _ else N)=B t:=h;show B (jo _ d==jo _ g)=B t
   rw[eP,eP];cases q:M k f with|true=>rw[q]at h;have e:=bW q;subst e;exact(O B (MV (Int.add_right_inj _))).trans h|false=>rw[q]at h;exact ga h λq e=>(gi.mp q).elim (λq=>(gi.mp q).elim (λq=>n (DA p q) (R e)) λq=>n (DA p q).symm (R e)) λq=>n (B2 p q) (R e)
theorem KQ(h:ry a c b=B t):ry F (.a (r.a c)) (.a (r.a b))=B t:=by
 have g:∀{x y:Int},x<y->D=t->B _=B t:=λn e=>O B ((decide_eq_true n).trans e)
 have f:∀{x y},y<=x->I=t->B _=B t:=λn e=>O B ((decide_eq_false (lm.mpr n)).trans e)
 cases c with
 |a i=>cases b with|a j=>exact h|b k d=>exact C (show r.a (.b k d)=_ from eP _ _) ((xu h).elim (λq=>g (M3 (of_decide_eq_true q.1) (rB (p.3 k) d)) q.2) λq=>f (dj (rB (p.4 k) d) (of_decide_eq_true q.1)) q.2)
 |b k d=>cases b with|a i=>exact C (show r.a (.b k d)=_ from eP _ _) ((xu h).elim (λq=>g (Lb (rB (p.4 k) d) (of_decide_eq_true q.1)) q.2) λq=>f (dj (of_decide_eq_true q.1) (rB (p.3 k) d)) q.2)|b=>exact X h
omit p in
theorem Bn(b c):hV F b c=B (M b c):=by
 show(bif M b c then B D else bif(!(M b c)&&D)&&D then B _ else N)=_
 cases M b c<;>rfl
theorem Xg(h:hV a b c=B t):hV F (r.d b) (r.d c)=B t:=by rw[Bn];exact O B ((xu h).elim (λq=>(C (bW q.1) ((gj _).trans q.2))) λq=>((cq (bu.mp (bu.mp q.1 _ (p.2 b)) _ (p.2 c))).trans q.2))
mutual
theorem oj:∀c b {t},eL a c b=B t->eL F (Q r c) (Q r b)=B t
 |.g,b,_,h=>by cases b<;>exact h
 |.c x,b,_,h=>by cases b with|a z=>exact ui p (c:=.a (bif x then 1 else 0)) h|_=>exact h
 |.a x,b,_,h=>by cases b with|a z=>exact ui p h|c z=>exact ui p (b:=.a (bif z then 1 else 0)) h|_=>exact h
 |.e x,b,_,h=>by cases b with|e y=>exact Xg p h|_=>exact h
 |.d x,b,_,h=>by cases b with|d y=>exact zc x y h|_=>exact h
 |.h x,b,_,h=>by cases b with|h y=>exact zc x y h|_=>exact h
 |.f,_,_,h=>X h
 |.b _,_,_,h=>X h
termination_by structural x=>x
theorem zc:∀c b {t},io a c b=B t->io F (aw r c) (aw r b)=B t
 |[],b,_,h=>by cases b<;>exact h
 |_::_,[],_,h=>h
 |x::d,y::f,t,h=>aj h λu e h=>by
  show Y _ _=_
  refine C (oj x y e) ?_;cases u with|false=>exact h|true=>exact zc d f h
termination_by structural x=>x
end
omit p in
theorem au{x}{f}{r:Option c}(h:x=B b)(k:f b=r):Y x f=r:=C h k
theorem EM:∀{e}{o},ch a k e=B o->ch F (Q r k) (eC r e)=B (o.map (Q r)):=λ{e}=>by
 induction e with
 |nil=>exact @λo h=>J (R h) A
 |cons b e i=>
  exact @λo h=>aj h λt q h=>au (oj p _ _ q) (by
    cases t with
    |true=>exact(O B (Ka b.2)).trans (O (λo=>B _) (R h))
    |false=>exact i h)
theorem Op:∀{e b},hH a k v e=B b->hH F (Q r k) (Q r v) (eC r e)=B (eC r b):=λ{e}=>by
 induction e with
 |nil=>exact @λo h=>J (R h) A
 |cons d e i=>
  exact @λo h=>aj h λt q h=>au (oj p _ _ q) (by
    cases t with
    |true=>exact J (R h) A
    |false=>exact aj h λb c h=>au (i c) (J (R h) A))
theorem Od:∀{e b},kJ a k e=B b->kJ F (Q r k) (eC r e)=B (eC r b):=λ{e}=>by
 induction e with
 |nil=>exact @λo h=>J (R h) A
 |cons d e i=>
  exact @λo h=>aj h λt q h=>au (oj p _ _ q) (by
    cases t with
    |true=>exact C (R h) A
    |false=>exact aj h λb c h=>au (i c) (J (R h) A))
theorem Ai:∀{l}{t},fx a z l=B t->fx F (.a (r.a z)) (aw r l)=B t:=λ{l}=>by
 induction l with|nil=>exact @λb h=>h|cons c l i=>exact @λb h=>aj h λy e h=>aj h λt q h=>aj h λu w h=>au (hb e) (au (ui p q) (au (i w) h))
theorem Gd:∀{l},l.all qx=D->(aw r l).all qx=D/\(aw r l).any (mY i)=l.any (mY i)
 |[],_=>⟨A,A⟩
 |b::l,c=>V c λh d=>by have w:=Gd (i:=i) d;cases b with|e k=>have e:=p.1 k (bH h);exact⟨ho.mpr ⟨(O (ar · 1000) e).trans h,w.1⟩,show(M i _||(aw r l).any _)=(M i k||l.any _) by exact C e (C w.2 rfl)⟩|_=>exact az h
theorem He(h:qE a k l=B t):qE F (r.d k) (aw r l)=B t:=ga h λq h=>by
 have w:=Gd p (i:=r.d k) q;show(bif(aw r l).all qx then(bif(aw r l).any _&&D then B D else(bif !((aw r l).any _)&&D then B _ else N))else N)=_
 exact C w.1 (C w.2 ((xu h).elim (λx=>by exact C (bu.mp x.1 _ (p.2 k)) (O B x.2)) λx=>by exact C (cq (bu.mp x.1 _ (p.2 k))) (O B x.2)))
theorem KS(h:rz a o c b=B d):rz F o (.a (r.a c)) (.a (r.a b))=B (.a (r.a d)):=by
 have s:∀{x y}{z},B z=B d->x=y->y=r.a z->B (bM.a x)=B _:=λf q l=>O (λx=>B _) (q.trans (l.trans (O r.a (R f))))
 cases c with
 |a i=>cases b with
  |a j=>exact aj h λm f h=>J (R h) (au f A)
  |b k e=>cases o with|b=>exact s h (show i+jo _ e=r.c k+(i+e) by rw[eP];exact M0 _ _ _) (eP _ _).symm|_=>exact X h
 |b k e=>cases b with
  |b j f=>cases o with|b=>exact O (λx=>B _) (p.8 _ _ _ h)|c=>exact ga h λq h=>s h (show jo _ e-jo _ f=e-f by rw[eP,eP,bW q];exact xT (aG [_,_,_] .b (.d (.c (.a 0) (.a 1)) (.c (.a 0) (.a 2))) (.d (.a 1) (.a 2)) A) (aG [_,_,_] .b (.d (.a 0) (.a 1)) (.d (.c (.a 2) (.a 0)) (.c (.a 2) (.a 1))) A)) A|_=>exact X h
  |a j=>cases o with
   |b=>exact s h (show jo _ e+j=r.c k+(e+j) by rw[eP];exact rA _ _ _) (eP _ _).symm
   |c=>exact s h (show jo _ e-j=r.c k+(e-j) by rw[eP];exact Int.add_sub_assoc _ _ _) (eP _ _).symm
   |d=>exact aY h λg h=>au (by
     show aI _ _=_
     exact C g (C (beq_eq_false_iff_ne.mpr (p.6 _ _ _ h).1) (O B (p.6 _ _ _ h).2))) A
   |a=>exact au (by
     show aI _ _=_
     exact C (beq_eq_false_iff_ne.mpr (p.7 _ _ _ h).1) (O B (p.7 _ _ _ h).2)) A
   |_=>exact X h
omit p in
theorem yK(h:jQ l i=B v):jQ (aw r l) i=B (Q r v):=by
 cases i with
 |ofNat n=>exact(qL l n).trans (O _ h)
 |negSucc n=>
  refine aY h λq h=>?_
  show aI _ _=_
  rw[gw,q,qL];exact O (lr _) h
omit p in
theorem QU(h:sQ l i=B v):sQ (aw r l) (Q r i)=B (Q r v):=aj h λz e h=>aj h λj b h=>au (hb e) (au (C (mn b) A) (yK h))
omit p in
theorem D4{q}:∀{g},ua l c g=D->q∈g->jQ l (q.1+c)=B (.e q.2):=λ{g}=>by
 induction g with
 |nil=>exactλz m=>ak m cI
 |cons f g i=>
  exactλd m=>V d λh e=>(cB.mp m).elim (λx=>by
    subst x;cases b:jQ l _ with
    |none=>rw[b]at h;exact az h
    |some v=>
     rw[b]at h;cases v with
     |e j=>exact O (λj=>B _) (bW h).symm
     |_=>exact az h) (i e)
theorem UB:∀{T},(∀p∈T,p∈a.i)->wT l k c T=B v->jQ (aw r l) (r.c k+c)=B (Q r v):=λ{T}=>by
 induction T with
 |nil=>exactλo h=>X h
 |cons d T i=>obtain⟨b,w,g⟩:=d;exactλm h=>by have h:(bif M k b&&ua l c g then B _ else wT l k c T)=B v:=h;cases q:M k b&&ua l c g with|false=>rw[q]at h;exact i (λp x=>m p (bT _ x)) h|true=>rw[q]at h;exact V q λe f=>(p.10 _ (m _ bn)).elim λn z=>by exact C (bW e) (C (z.2.1) (C (yK (r:=r) (D4 f z.1)) (J (R h) (O (λj=>B (E.e j)) ((p.1 _ z.2.2.2).trans z.2.2.1.symm)))))
theorem QS(h:vD a l i=B v):vD F (aw r l) (Q r i)=B (Q r v):=aj h λz e h=>au (hb e) (by
 cases z with
 |a j=>exact yK h
 |b k c=>exact C (show r.a (.b k c)=_ from eP _ _) (UB p (λb x=>x) h))
theorem GT(d:∀x y t,s x y=B t->s (r.d x) (r.d y)=B t){t}(h:lP a s b c=B t):lP F s (Q r b) (Q r c)=B t:=by cases b with|a x=>exact aj h λy e h=>au (hb e) (KQ p h)|e x=>exact aj h λy e h=>au (DL e) (d _ _ _ h)|_=>exact X h
theorem SR(d:∀x y t,s x y=B t->s (r.d x) (r.d y)=B t):∀{b c}{t},kT a s b c=B t->kT F s (aw r b) (aw r c)=B t:=λ{b}=>by
 induction b with
 |nil=>exact @λc z h=>by cases c<;>exact h
 |cons x g i=>
  exact @λf=>by
   cases f with
   |nil=>exact @λz h=>h
   |cons y j=>
    exact @λt h=>aY h λq h=>aj h λu e h=>by
     show aI _ _=_
     rw[Fi,Fi,q,oj p x y e];cases u with|false=>exact GT p d h|true=>exact i h
theorem GV(d:∀x y t,s x y=B t->s (r.d x) (r.d y)=B t){t}(h:lQ a s b c=B t):lQ F s (Q r b) (Q r c)=B t:=by have q:lP a s b c=B t->lP F s _ _=B t:=GT p d;cases b with|d x=>exact aj h λy e h=>au (MH e) (SR p d h)|_=>exact q h
end
mutual
def br:E->Bool
 |.a z=>(jz z).isSome
 |.e _=>D
 |.d l=>nm l
 |_=>I
termination_by structural x=>x
def nm:List E->Bool
 |[]=>D
 |x::l=>br x&&nm l
termination_by structural x=>x
end
theorem Ei:(∀v,jn v=D->br (Q r v)=D)/\∀l,nn l=D->nm (aw r l)=D:=by
 refine E.i ?_ ?_ ?_ ?_ ?_ ?_ ?_ ?_ ?_ ?_
 ·exact @λh=>az h
 ·exact @λh=>az h
 ·intro z;exact @λh=>az h
 ·intro z;exact @λ_=>A
 ·intro z;exact @λ_=>A
 ·intro l d;exact @λh=>d h
 ·intro z z;exact @λh=>az h
 ·intro z;exact @λh=>az h
 ·exact @λ_=>A
 ·intro x l i c;exact @λh=>V h λa b=>ho.mpr ⟨i a,c b⟩
theorem AD:∀v,jn v=D->br (Q r v)=D:=(Ei).1
theorem X6:∀l,nn l=D->nm (aw r l)=D:=(Ei).2
theorem Eh:(∀v n,cH (Q r v) n=cH v n)/\∀l n,hJ (aw r l) n=hJ l n:=by
 refine E.i ?_ ?_ ?_ ?_ ?_ ?_ ?_ ?_ ?_ ?_
 ·exact @λ_=>A
 ·exact @λ_=>A
 ·intro z;exact @λ_=>A
 ·intro z;exact @λ_=>A
 ·intro z;exact @λ_=>A
 ·intro l b;exact @λc=>by cases c with|zero=>exact A|succ n=>exact b n
 ·intro z z;exact @λ_=>A
 ·intro z;exact @λ_=>A
 ·exact @λ_=>A
 ·intro x l i a;exact @λn=>by
   show(cH _ n&&hJ _ n)=_
   exact C (i n) (C (a n) A)
theorem FS:∀v n,cH (Q r v) n=cH v n:=(Eh).1
theorem W9:∀l n,hJ (aw r l) n=hJ l n:=(Eh).2
def hv{c:Type}(x:Option Bool)(a b:c):=(x=B D/\a=b)∨(x=B I/\a≠b)
theorem hv.a{i:d->e}{j:e->Option d}(k:∀g,j (i g)=B g)(h:hv x g c):hv x (i g) (i c):=
 h.imp (λh=>⟨h.1,O i h.2⟩) λh=>⟨h.1,λl=>h.2 (R ((k g).symm.trans ((O j l).trans (k c))))⟩
theorem Eg:(∀c b,br c=D->br b=D->hv (eL F c b) c b)/\∀c b,nm c=D->nm b=D->hv (io F c b) c b:=by
 refine E.i ?_ ?_ ?_ ?_ ?_ ?_ ?_ ?_ ?_ ?_
 ·exact @λ_ h _=>az h
 ·exact @λ_ h _=>az h
 ·intro f;exact @λ_ h _=>az h
 ·intro x;exact @λb d a=>by
   cases b with
   |a y=>cases x with
    |b=>exact az d
    |a i=>cases y with
     |b=>exact az a
     |a p=>
      show hv (B _) _ _
      cases e:i==p with|true=>exact .inl ⟨A,O (λi=>E.a _) (beq_iff_eq.mp e)⟩|false=>exact .inr ⟨A,λq=>beq_eq_false_iff_ne.mp e (R (O (λv=>Y (dw v) jz) q))⟩
   |e=>exact .inr ⟨A,λe=>X (O dw e).symm⟩
   |d=>exact .inr ⟨A,λe=>X (O dw e).symm⟩
   |_=>exact az a
 ·intro x;exact @λb d a=>by
   cases b with
   |e y=>
    show hv (hV F x y) _ _
    rw[Bn];cases e:M x y with|true=>exact .inl ⟨A,O _ (bW e)⟩|false=>exact .inr ⟨A,λq=>by rw[R (O hD q),gj]at e;exact ck e⟩
   |a=>exact .inr ⟨A,λe=>X (O hD e).symm⟩
   |d=>exact .inr ⟨A,λe=>X (O hD e).symm⟩
   |_=>exact az a
 ·intro x o;exact @λb d a=>by cases b with|d y=>exact(o y d a).a (j:=hE) λf=>A|a=>exact .inr ⟨A,λe=>X (O hE e).symm⟩|e=>exact .inr ⟨A,λe=>X (O hE e).symm⟩|_=>exact az a
 ·intro f f;exact @λ_ h _=>az h
 ·intro f;exact @λ_ h _=>az h
 ·exact @λr=>by cases r with|nil=>exact @λ_ _=>.inl ⟨A,A⟩|cons _ _=>exact @λ_ _=>.inr ⟨A,ul _ _∘Eq.symm⟩
 ·intro x u m n;exact @λs=>by
   cases s with
   |nil=>exact @λ_ _=>.inr ⟨A,ul _ _⟩
   |cons y t=>
    exact @λd a=>V d λg j=>V a λk l=>by
     show hv (Y _ _) _ _
     exact(m y g k).elim (λh=>by
      exact C h.1 (C h.2 ((n t j l).imp (λz=>⟨z.1,O (y::·) z.2⟩) λz=>⟨z.1,λe=>z.2 (kq e).2⟩))) λh=>by
      exact C h.1 (.inr ⟨A,λe=>h.2 (kq e).1⟩)
theorem hI:∀a b,br a=D->br b=D->hv (eL F a b) a b:=(Eg).1
theorem W6:∀a b,nm a=D->nm b=D->hv (io F a b) a b:=(Eg).2
abbrev pF(e:List (E×E)):=e.Pairwise λa b=>a.1≠b.1
inductive Ds(k v)(a e) where
 |mk (b:hH F k v a=B e)
  (h:ch F k e=B (dZ v))
  (c:∀j,br j=D->k≠j->ch F j e=ch F j a)
  (m:∀p∈e,p.1=k∨∃q∈a,q.1=p.1)
  (l:e.length<=a.length+1)
  (n:pF a->pF e)
  (f:aF v=I->dG a=D->dG e=D)
theorem eK(h:eL a e.1 k=B t):ch a k (e::b)=a' (ch a k b) (B (dZ e.2)) t:=by
 show Y _ _=_
 exact C h A
theorem vd{F}{k v}{a}(h:eL F a.1 k=B t):hH F k v (a::e)=a' (Y (hH F k v e) λr=>B (a::r)) (B ((a.1,v)::e)) t:=by
 show Y _ _=_
 exact C h A
theorem hv.b(h:hv x c d)(e:c=d):x=B D:=h.elim (λh=>h.1) λh=>ak e h.2
theorem hv.f(h:hv x c d)(e:c≠d):x=B I:=h.elim (λh=>ak h.2 e) λh=>h.1
theorem wU(h:br k=D):aF k=I:=by cases k with|f=>exact az h|_=>rfl
theorem zA{e}(a:aF k=I)(b:aF v=I)(h:dG e=D):dG ((k,v)::e)=D:=by
 show((!(aF k)&&!(aF v))&&dG e)=D
 exact C a (C b (C h A))
theorem ot(h:dG (e::a)=D):aF e.1=I/\aF e.2=I/\dG a=D:=V h λd f=>V d λb c=>(aK (cq b) (cq c) f)
theorem Ii(v)(c:br k=D):∀b,(∀p∈b,br p.1=D)->∃i,Ds k v b i:=λb=>by
 induction b with
 |nil=>exactλl=>⟨[(k,v)],A,eK (e:=(k,v)) ((hI k k c c).b A),λj a n=>eK (e:=(k,v)) ((hI k j c a).f n),λp h=>.inl (C (fR.mp h) A),bd _,λl=>Q5 _ _,λf h=>zA (wU c) f h⟩
 |cons e b o=>
  exactλh=>
    have g:=h e bn
    (hI e.1 k g c).elim (λd=>⟨(e.1,v)::b,vd d.1,eK (e:=(e.1,v)) d.1,λj a n=>(eK (e:=(e.1,v)) ((hI e.1 j g a).f (C d.2 n))).trans (eK ((hI e.1 j g a).f (C d.2 n))).symm,
     λp m=>(cB.mp m).elim (λx=>.inl (C x d.2)) λx=>.inr (ag p (bT _ x) A),gk _,λn=>lp.mpr (lp.mp n),λf h=>zA (ot h).1 f (ot h).2.2⟩) λd=>(o λp m=>h p (bT _ m)).elim λi w=>⟨e::i,(vd d.1).trans (au w.1 A),(eK d.1).trans w.2,λj a n=>by
     exact(hI e.1 j g a).elim (λd=>(eK d.1).trans (eK d.1).symm) λd=>(eK d.1).trans ((w.3 j a n).trans (eK d.1).symm),
     λp m=>(cB.mp m).elim (λx=>.inr (ag e bn (C x A))) λx=>(w.4 p x).imp id λz=>z.imp λl z=>⟨bT _ z.1,z.2⟩,fk w.5,
     λn=>have n:=lp.mp n
      lp.mpr ⟨λp m=>(w.4 p m).elim (λx=>C x d.2) λz=>z.elim λq z=>J z.2 (n.1 q z.1),w.6 n.2⟩,λf h=>zA (ot h).1 (ot h).2.1 (w.7 f (ot h).2.2)⟩
inductive lw(r)(k a f:List (E×E)) where
 |mk (i:∀p∈a,br p.1=D)
  (j:∀p∈a,∀e∈k,bN p.1=bN e.1)
  (s:∀b∈k,∀c∈k,bN b.1=bN c.1)
  (t:∀e∈k,br (Q r e.1)=D/\ch F (Q r e.1) a=B ((dZ e.2).map (Q r)))
  (g:k.Pairwise λb c=>aF b.2=D->aF c.2=D->Q r b.1≠Q r c.1)
  (l:∀d,br d=D->(∀e∈k,Q r e.1≠d)->ch F d a=ch F d f)
  (n:pF f->pF a)
  (h:dG a=D)
abbrev gy:List (E×E):=[(.f,.f)]
def ir(e:List (E×E)):=e.all λp=>!(aF p.1)
theorem Tc(c:aF k=I):∀{e b},ir e=D->hH a k v e=B b->ir b=D:=λ{e}=>by
 induction e with
 |nil=>exactλz h=>J (R h) (ho.mpr ⟨O _ c,A⟩)
 |cons g e i=>
  refineλm h=>V m λd f=>aj h λt q h=>?_
  cases t with|true=>exact J (R h) m|false=>exact aj h λj q h=>J (R h) (ho.mpr ⟨d,i f q⟩)
theorem Tb:∀{e b},ir e=D->kJ a k e=B b->ir b=D:=λ{e}=>by
 induction e with
 |nil=>exactλz h=>J (R h) A
 |cons f e i=>
  refineλc h=>V c λd m=>aj h λt q h=>?_
  cases t with|true=>exact J (R h) m|false=>exact aj h λg q h=>J (R h) (ho.mpr ⟨d,i m q⟩)
inductive rS(F)(k)(a b p)(e)(o) where
 |mk (c:a=b++e::p)
  (d:eL F e.1 k=B D)
  (g:dZ e.2=o)
  (f:∀v,hH F k v (a++gy)=B ((b++(e.1,v)::p)++gy))
theorem FP:∀{b},ch a k (b++gy)=B o->∃c p e,rS a k b c p e o:=λ{b}=>by
 induction b with
 |nil=>exactλh=>X h
 |cons e b i=>exactλh=>aj h λt q h=>by cases t with|true=>exact⟨[],b,e,A,q,R h,λv=>vd q⟩|false=>exact cf (i h) λc p d z=>⟨e::c,p,d,O _ z.1,z.2,z.3,λv=>(vd q).trans (au (z.4 v) A)⟩
section
variable{r:eX}{d:cl}{c g h f p:List (E×E)}{e:E×E}{k:E}{o:Option E}
theorem rS.a(b:rS d k c f p e o):e∈c:=C b.1 (iH _ bn)
theorem rS.i(l:cM r d)(b:rS d k c f p e o)(w:lw r c g h)(j:jn k=D):Q r e.1=Q r k:=
 (hI _ _ (w.4 e b.a).1 (AD k j)).elim (λz=>z.2) λz=>az (R (z.1.symm.trans (oj l _ _ b.2)))
theorem Kb(a:(dZ v).map (Q r)=N):aF v=D:=by cases v with|f=>rfl|_=>exact X a.symm
theorem lw.a(l:cM r d)(w:lw r c g h)(j:jn k=D)(i:ch d k (c++gy)=B o):ch F (Q r k) g=B (o.map (Q r)):=
 cf (FP i) λf p e z=>J (z.i l w j) (z.3▸(w.4 e z.a).2)
theorem lw.b(l:cM r d)(w:lw r c g h)(K:jn k=D)(a3:ch d k (c++gy)=B N)(a5:aF v=I)(a4:hH d k v (c++gy)=B i):
  ∃W y,i=W++gy/\Ds (Q r k) (Q r v) g y/\lw r W y h:=
 cf (FP a3) λf p e z=>(Ii _ (AD k K) g w.1).elim λy u=>
  have n:=z.i l w K;have G:=Kb (r:=r) (O _ z.3);have a9:∀j∈c,j∈f++(e.1,v)::p∨j=e:=λj m=>(hq.mp (J z.1 m)).elim (λm=>.inl (mq _ m)) λm=>(cB.mp m).elim .inr λm=>.inl (iH _ (bT _ m))
  have t:=Q4.mp (J z.1 w.5);have H:=lp.mp t.2.1;have Y:∀j∈c,(aF j.2=D->Q r j.1≠Q r e.1)->Q r k≠Q r j.1:=λj m a2 q=>a2 (Kb (R ((w.4 j m).2.symm.trans (J q (n▸(w.4 e z.a).2▸O (λo=>B _) z.3))))) (q.symm.trans n.symm)
  have X:∀j∈f++(e.1,v)::p,j=(e.1,v)∨(j∈c/\Q r k≠Q r j.1):=λj m=>(hq.mp m).elim (λm=>have E:=C z.1 (mq _ m)
    .inr ⟨E,Y j E λq=>t.2.2 j m e bn q G⟩) λm=>(cB.mp m).elim .inl λm=>have E:=C z.1 (iH _ (bT _ m))
    .inr ⟨E,Y j E λq=>(H.1 j m G q).symm⟩
  have P:∀j∈f++(e.1,v)::p,∃s∈c,s.1=j.1:=λj m=>(X j m).elim (λx=>(ag e z.a (C x A))) λx=>(ag j x.1 A)
  have V:∀l∈y,∃q∈c,bN l.1=bN q.1/\br l.1=D:=λl m=>(u.4 l m).elim (λx=>(bi e z.a (by rw[x,←n,lK]) (C x (AD k K)))) λx=>x.elim λq x=>(bi e z.a (J x.2 (w.2 q x.1 e z.a)) (J x.2 (w.1 q x.1)))
  (an _ y (R (a4.symm.trans (z.4 v))) u ⟨(λl m=>(V l m).elim λZ x=>x.2.2),(λl m j S=>(V l m).elim λq x=>(P j S).elim λs F=>x.2.1.trans (J F.2 (w.3 q x.1 s F.1))),(λn a6 j S=>(P n a6).elim λa0 x=>(P j S).elim λs F=>J x.2 (F.2▸w.3 a0 x.1 s F.1)),(λj m=>(X j m).elim (λx=>by
     subst x
     exact⟨(w.4 e z.a).1,by rw[n,u.2,Ka]⟩) λx=>⟨(w.4 j x.1).1,(u.3 _ (w.4 j x.1).1 x.2).trans (w.4 j x.1).2⟩),(Q4.mpr (aK t.1 (lp.mpr ⟨λj m Z q=>H.1 j m G q,H.2⟩) (λj m a1 a7=>(cB.mp a7).elim (λx q Z=>C x (t.2.2 j m e bn q G)) λx=>t.2.2 j m a1 (bT _ x)))),(λU T L=>(u.3 U T λq=>L _ (iH _ bn) (n.trans q)).trans (w.6 U T λj m=>(a9 j m).elim (L j) λx=>C x (L (e.1,v) (iH _ bn)))),(λa8=>u.6 (w.7 a8)),u.7 ((ji v).trans a5) w.8⟩)
end
structure dk(H K) where
 a:eT H
 c:HOps K
 f:Nat
 b:eX
 m:K
def dk.e(x:dk g d):eT d:={x.c with b:=F,c:=x.a.c,f:=x.f}
inductive Dr(r:eX)(P:yp) where
 |mk (c:∀x y z,P.d x y=B z->P.d (r.d x) (r.d y)=B (r.d z))
  (a:∀x n z,P.f x n=B z->P.f (r.d x) n=B (r.d z))
  (s:∀x y t,P.n x y=B t->P.n (r.d x) (r.d y)=B t)
  (d:∀i z,P.e i=B z->r.d z=z)
inductive go(x:dk a b) where
 |mk (p:cM x.b x.a.b)
  (e:Dr x.b x.a.c)
  (i:∀c d,x.b.b c=x.b.b d->c=d)
  (s:∀k,x.b.b (.d k)=.d k)
  (g:∀n,∃m,x.b.b (.c n)=.c m)
  (o:∀c,x.c.e c=D)
  (l:x.a.f<=x.f)
def cL:List (Nat×Option E)->List (Nat×E)->Prop
 |[],l=>l=[]
 |f::b,l=>∃v a,l=(f.1,v)::a/\(aF v=I/\∀w,f.2=B w->v=w)/\cL b a
def ff(r)(v):=bif aF v then N else B (Q r v)
def jH(r)(f l:List (Nat×E)):=cL (f.map λp=>(p.1,ff r p.2)) l
theorem af.b{k j:af}:k.e j=D↔k=j:=by
 cases k with
 |d l=>cases j with|d m=>exact⟨λi=>O af.d (bW i),λi=>by cases i;exact gj l⟩|c m=>exact⟨az,λi=>by cases i⟩
 |c l=>cases j with|c m=>exact⟨λi=>O af.c (bW i),λi=>by cases i;exact gj l⟩|d m=>exact⟨az,λi=>by cases i⟩
section
variable{i j:Type}
def bR(x:dk i j)(p:Nat)(a:af)(q o:bq):Prop:=match q with
 |.f=>o=.f/\x.b.e a=0
 |.c=>o=x.c.a x.m (x.b.b a)
 |.a l=>o=.a (aw x.b l)
 |.g l=>∃c,x.c.a x.m (x.b.b a)=.a c/\o=.a (c++aw x.b l)/\c.length+l.length<=p
 |.b e m=>(ir e=D/\o=.b (eC x.b e) (m+x.b.e a))∨∃k b d g h,e=k++gy/\o=.b b g/\x.c.a x.m (x.b.b a)=.b d h/\lw x.b k b d/\b.length<=p
 |.d l=>o=.d (aw x.b l)
 |.e f n=>∃l,o=.e f l/\jH x.b n l
inductive bD(x)(s:S i)(t:S j) where
 |mk (o:∀a,bR x t.a a (x.a.a s.b a) (x.c.a t.b (x.b.b a)))
  (f:∀b,x.a.a s.b (.c (s.a+b))=.f)
  (n:∀b,x.b.b (.c (s.a+b))=.c (t.a+b))
  (r:t.a+x.a.f<=s.a+x.f)
  (d:∀c,(∀a,x.b.b a≠c)->x.c.a t.b c=x.c.a x.m c)
def be(x:dk i j)(f:a->b)(u:av i a)(w:av j b):=∀c s,u=B (c,s)->∃t,w=B (f c,t)/\bD x s t
section
variable{x:dk i j}{s:S i}{t:S j}{m n o p:Type}{k:m->n}{l:o->p}
theorem be.c{r}(v:bD x s t)(w:r=k q):be x k (B (q,s)) (B (r,t)):=λy z u=>(ag t (J (aW u) (w▸A)) (J (bo u) v))
theorem be.a{y}{r}(K:be x l u w)(L:∀q s t,bD x s t->be x k (y q s) (r (l q) t)):be x k (aB u y) (aB w r):=
 λq s P=>aO P λv z H J=>(K v z H).elim λE G=>(L v z E G.2 q s J).imp λQ F=>⟨(show aB w r=r _ E from C G.1 A).trans F.1,F.2⟩
theorem be.b{w}{u:o->av i m}{v:p->av j n}(F:∀q,y=B q->w=B (l q))(G:∀q,y=B q->be x k (u q) (v (l q))):be x k (Y y u) (Y w v):=
 λC s H=>aj H λq r E=>(G q r C s E).imp λt z=>⟨au (F q r) z.1,z.2⟩
theorem be.d{w}(F:q=D->r=D)(G:q=D->be x k u w):be x k (aI q u) (aI r w):=
 λy s H=>aY H λv E=>(G v y s E).imp λt z=>⟨(show aI r w=w from C (F v) A).trans z.1,z.2⟩
theorem be.e{u r}{w v}(y:be x k u w)(z:be x k r v):be x k (a' u r q) (a' w v q):=by cases q<;>assumption
theorem be.g:be x k N w:=λz z q=>X q
theorem be.h{r}(u:bD x s t)(v:∀q,y=B q->r=B (k q)):be x k (qv y s) (qv r t):=be.b v λq z=>.c u A
theorem bD.a(r:bD x s t)(u:x.a.a s.b h=.a q):x.c.a t.b (x.b.b h)=.a (aw x.b q):=by have:=r.1 h;rw[u]at this;exact this
theorem bD.b(r:bD x s t)(u:ce (x.a.a s.b h)=B q):ce (x.c.a t.b (x.b.b h))=B (aw x.b q):=C (r.a (jm u)) A
theorem bR.c{q}{d}(h:bR x q d a b):bR x (q+1) d a b:=by cases a with|g=>exact h.imp λz h=>(aK h.1 h.2.1 (jD h.2.2))|b=>exact h.imp id λh=>xF h λz z z z z h=>(iD h.1 h.2.1 h.2.2.1 h.2.2.2.1 (jD h.2.2.2.2))|_=>exact h
end
section
variable{x:dk i j}{s:S i}{t:S j}{h:af}{l k:bq}(o:go x)
include o
theorem go.a(c:h.a=D):(x.b.b h).a=D:=by cases h with|d d=>rw[o.4];exact c|c n=>exact(o.5 n).elim λm b=>b▸A
theorem go.e(b h):af.e (x.b.b b) (x.b.b h)=af.e b h:=xQ.mpr (af.b.trans ⟨o.3 b h,O _⟩|>.trans af.b.symm)
theorem bD.f(p:bD x s t)(u:x.a.e h=D)(v:∀m,h≠ .c (s.a+1+m))(w:bR x (t.a+1) h l k):bD x ⟨x.a.d s.b h l,s.a+1⟩ ⟨x.c.d t.b (x.b.b h) k,t.a+1⟩:=
 ⟨(λn=>by
  show bR x (t.a+1) n _ (x.c.a (x.c.d t.b _ k) _)
  rw[x.a.g _ _ _ _ u,x.c.g _ _ _ _ (o.6 _),o.e];cases q:af.e n h with
  |true=>exact af.b.mp q▸w
  |false=>exact(p.1 n).c),
  (λm=>by
  show x.a.a _ (.c (s.a+1+m))=.f
  refine C (x.a.g _ _ _ _ u) ?_;cases q:af.e _ h with
  |true=>exact ak (af.b.mp q).symm (v m)
  |false=>
   have:=p.2 (1+m);rw[←gX]at this
   exact this),
  (λm=>by
  have:=p.3 (m+1);rw[kr m 1,←gX,←gX]at this
  exact this),
  (by
  exact ap [_,_,_,_] (.a 1 (.c (.a 0) (.a 1)) (.c (.a 2) (.a 3)) .b) (.c (.c (.a 0) (.b 1)) (.a 1)) (.c (.c (.a 2) (.b 1)) (.a 3)) A p.4),
  (λn r=>by
  refine C (x.c.g _ _ _ _ (o.6 _)) ?_;cases q:af.e n _ with
  |true=>exact ak (af.b.mp q).symm (r h)
  |false=>exact p.5 n r)⟩
theorem bD.d(m:bD x s t)(n:ar s.a x.a.f=D):ar t.a x.f=D:=er (by
 have:s.a+1<=x.a.f:=bH n
 exact ap [_,_,_,_] (.a 1 (.c (.a 0) (.a 1)) (.c (.a 2) (.a 3)) (.a 1 (.c (.a 2) (.b 1)) (.a 1) .b)) (.c (.a 0) (.b 1)) (.a 3) A m.4 this)
theorem bD.c(m:ar n x.a.f=D):ar n x.f=D:=er (aV (bH m) o.7)
theorem bD.g(n:bD x s t)(m:x.a.a s.b h≠ .f)(q):h≠ .c (s.a+1+q):=λp=>by rw[p,gX]at m;exact m (n.2 _)
theorem tL(a:bD x s t)(c:x.a.a s.b h≠ .f)(d:bR x (t.a+1) h l k):be x id (nw x.a h l s) (nw x.e (x.b.b h) k t):=λu m b=>aY b λq b=>V q λq g=>V q λe f=>(ag _ (by
 show aI ((x.b.b h).a&&x.c.e _&&ar t.a x.f) _=_
 rw[o.a e,o.6,a.d o g]
 rfl) (J (bo b) (a.f o f (a.g o c) d)))
theorem tM(a:bD x s t)(b:x.a.a s.b h≠ .f)(c:bR x (t.a+1) h l k):be x (Q x.b) (kj x.a h l v s) (kj x.e (x.b.b h) k (Q x.b v) t):=(tL o a b c).a λz z z a=>.c a A
theorem IQ(b:bD x s t)(c:∀f,h≠ .c (s.a+1+f))(d:x.b.e h=0->bR x (t.a+1) h l k):be x (Q x.b) (qH x.a h l s) (qH x.e (x.b.b h) k t):=λv p a=>aj a λu e a=>aY a λq a=>V q λq n=>V q λm g=>by
 have w:=b.1 h;rw[HD e]at w;refine(ag _ ?_ (J (bo a) (b.f o m c (d w.2))));show Y (qO (x.c.a t.b _)) (λz=>aI (x.c.e _&&(x.b.b h).a&&ar t.a x.f) _)=_
 rw[w.1,o.a g,o.6,b.d o n,←aW a];rfl
theorem q'(b:bD x s t)(c:∀h,x.b.e h=0->bR x (t.a+1) h l k):be x (Q x.b) (fL x.a a l s) (fL x.e a k t):=by cases a with|none=>have w:=IQ o b (λd e=>ak (bW (af.b (k:=.c s.a).mpr e)) (bw (ap [_,_] .b (.c (.a 0) (.b 1)) (.c (.c (.a 0) (.b 1)) (.a 1)) A))) (c _);rw[show x.b.b (.c s.a)=.c t.a from b.3 0]at w;exact w|some a=>have w:=IQ o b (λd e=>az (af.b (k:=.d a).mpr e)) (c _);rw[o.4]at w;exact w
theorem oO(b:bD x s t):be x (Q x.b) (fM x.a a s) (fM x.e (aw x.b a) t):=.d (λc=>by rw[gw];exact bD.c o c) λz=>q' o b λz z=>A
end
end
abbrev du{a b:Type}(f:a->b)(y:Option a)(d:Option b):=∀c,y=B c->d=B (f c)
section
variable{c h i j:Type}{f:c->h}{e:i->j}
theorem du.b{o}{m}{n}(r:du e y o)(s:∀k,y=B k->du f (m k) (n (e k))):du f (Y y m) (Y o n):=λp t=>aj t λk l q=>au (r k l) (s k l p q)
theorem du.d{u}{w}(p:l=D->k=D)(q:du f u w):du f (aI l u) (aI k w):=λm r=>aY r λn o=>(show aI k w=w from C (p n) A).trans (q m o)
theorem du.g:du f N w:=λz k=>X k
theorem du.a(m:l=f k):du f (B k) (B l):=λn q=>O _ (m.trans (O f (R q)))
end
theorem jO{a c b d}(h:a=D->b=D)(k:c=D->d=D)(q:(a&&c)=D):(b&&d)=D:=V q λx y=>ho.mpr ⟨h x,k y⟩
theorem HO(h:a=D->b=D)(k:c=D->d=D)(q:(a||c)=D):(b||d)=D:=gi.mpr ((gi.mp q).imp h k)
section
variable{r:eX}
theorem sS(l):(aw r l).isEmpty=l.isEmpty:=by cases l<;>rfl
theorem QW(l):(aw r l).headD .f=Q r (l.headD .f):=by cases l<;>rfl
theorem QX(n)(a):aw r (hs n a)=hs n (Q r a):=(kQ _).trans List.map_replicate
theorem wz(h:oE v=B n):oE (Q r v)=B n:=C (tq h) A
theorem Eo{v}(h:su d v=B n):su d (Q r v)=B n:=by cases v with|g=>exact h|_=>exact wz h
theorem mR(e):dG (eC r e)=dG e:=by
 show(e.map _).all _=_
 exact C O2 (O e.all (funext λp=>by show(!aF (Q r p.1)&&!aF (Q r p.2))=_;rw[ji,ji]))
theorem qh(k):dG (k++gy)=I:=by
 show(k++gy).all _=I
 exact C CJ (L8 _)
theorem FX(e):(eC r e).isEmpty=e.isEmpty:=by cases e<;>rfl
theorem sR(e):(eC r e).length=e.length:=ea _
theorem FY(e):(eC r e).map (·.1)=aw r (e.map (·.1)):=by rw[kQ,um];exact um
theorem Ej:(∀v,jn v=D->jn (Q r v)=D)/\∀l,nn l=D->nn (aw r l)=D:=by
 refine E.i ?_ ?_ ?_ ?_ ?_ ?_ ?_ ?_ ?_ ?_
 ·exact @λh=>az h
 ·exact @λh=>az h
 ·intro z;exact @λh=>az h
 ·intro z;exact @λ_=>A
 ·intro z;exact @λ_=>A
 ·intro l b;exact @λh=>b h
 ·intro z z;exact @λh=>az h
 ·intro z;exact @λh=>az h
 ·exact @λ_=>A
 ·intro x l i a;exact @λh=>jO (i) (a) h
theorem Ic:∀v,jn v=D->jn (Q r v)=D:=(Ej).1
theorem X7:∀l,nn l=D->nn (aw r l)=D:=(Ej).2
theorem DX{a b c d:Nat}(h:a=c)(k:b=d)(q:M c d=D):M a b=D:=C h (k▸q)
theorem Aw{e}:fb k e=D->fb (Q r k) (eC r e)=D:=jO (jO (jO ((FS k 6).trans) (O (λn=>!(M n 0)) (lK k)).trans) λh=>by
 cases e with
 |nil=>rfl
 |cons p t=>exact DX (lK p.1) (lK k) h) (HO (Ic k) (mR e).trans)
theorem wI(h:fb k (a++gy)=D):jn k=D:=V h λz h=>(gi.mp h).elim id λh=>ck (h.symm.trans (qh a))
theorem HK(w:lw r a e c)(j:ch b k (a++gy)=B o)(h:fb k (a++gy)=D):fb (Q r k) e=D:=
 have l:=Ic k (wI h)
 V h λh z=>V h λh i=>V h λf g=>ho.mpr ⟨ho.mpr ⟨ho.mpr ⟨(FS k 6).trans f,(O (λn=>!(M n 0)) (lK k)).trans g⟩,by
  cases e with
  |nil=>rfl
  |cons p t=>cases a with
   |nil=>exact X j
   |cons d a=>exact DX (w.2 p bn d bn) (lK k) i⟩,gi.mpr (.inl l)⟩
theorem lb(h:aF v=I):ff r v=B (Q r v):=by unfold ff;exact C h A
theorem Qb(b:aF v=I):∀{a l},jH r a l->cG f a=B v->cG f l=B (Q r v):=λ{a}=>by
 induction a with
 |nil=>exactλz h=>X h
 |cons p a i=>
  refineλw h=>aq w λu c w=>?_
  refine C w.1 ?_;have h:a' _ _ _=B v:=h;show(a' _ (B u) _:Option E)=_
  cases q:M p.1 f with|true=>rw[q]at h;exact O B (w.2.1.2 _ ((O _ (R h)).trans (lb b)))|false=>rw[q]at h;exact i w.2.2 h
theorem Qg(b:aF v=I):∀{a l},jH r a l->jH r (hh f v a) (hh f (Q r v) l):=λ{a}=>by
 have e:∀w,ff r v=B w->Q r v=w:=λw h=>by cases q:aF v with|true=>unfold ff at h;rw[q]at h;exact X h|false=>exact R ((lb q).symm.trans h)
 induction a with
 |nil=>intro l w;exact C w (an _ _ A ⟨(ji v).trans b,e⟩ A)
 |cons p a i=>
  refineλ{l} w=>aq w λu c w=>?_
  refine C w.1 ?_;show jH r (a' _ _ _) (a' _ _ _)
  cases M p.1 f with|true=>exact(an _ _ A ⟨(ji v).trans b,e⟩ w.2.2)|false=>exact(an _ _ A w.2.1 (i w.2.2))
theorem Qf:∀{f l},jH r f l->l.length=f.length:=λ{f}=>by
 induction f with|nil=>exact O _|cons p f i=>exactλw=>aq w λu a w=>C w.1 (O (· +1) (i w.2.2))
theorem xl:∀{l}{n}{a},fc l n v=B a->fc (aw r l) n (Q r v)=B (aw r a):=λ{l}=>by
 induction l with
 |nil=>exact @λz z h=>X h
 |cons c l i=>exact @λb=>by cases b with|zero=>exact @λz h=>J (R h) A|succ n=>exact @λz h=>aj h λd e h=>au (i e) (J (R h) A)
theorem tz:∀{a}{v},nk a=B v->nk (aw r a)=B (Q r v):=λ{a}=>by
 induction a with
 |nil=>exact @λz h=>X h
 |cons b a i=>
  exact @λz h=>aY h λq h=>by
    show aI _ _=_
    rw[sS,q,R h];rfl
theorem JY(v):oT (Q r v)=oT v:=by
 cases v with
 |d l=>cases l with|nil=>rfl|cons a t=>cases a<;>rfl
 |_=>rfl
theorem Rk:∀{l}{i},sW l=B i->sW (aw r l)=B i:=λ{l}=>by
 induction l with|nil=>exact @λz h=>h|cons v l c=>exact @λz h=>aj h λf e h=>aj h λd a h=>aj h λi b h=>au (hb e) (au (C (mn a) A) (au (c b) h))
theorem Ip:∀n a,aw r (lX a n)=lX a n:=λn=>by
 induction n with|zero=>exactλz=>A|succ n i=>exactλa=>O _ (i _)
theorem Ir(h:oM v=B l):oM (aw r v)=B (aw r l):=aj h λi e h=>au (Rk e) (h.trans (O B (by
 have g:∀b m,aw r m=m->aI b _=B l->l=aw r l:=λb m e h=>aY h λz h=>J (R h) e.symm
 match i,h with
 |[],h=>exact X h
 |[n],h=>exact g _ _ (Ip _ _) h
 |[a,b],h=>exact g _ _ (Ip _ _) h
 |[a,b,c],h=>exact g _ _ A h
 |_::_::_::_::_,h=>exact X h)))
end
section
variable{i j:Type}{x:dk i j}{s:S i}{t:S j}(o:go x)(h:bD x s t)
include o h
theorem B8(v):du id (nv x.a s.b v) (nv x.e t.b (Q x.b v)):=by cases v with|g=>exactλz a=>a|c b=>exactλz a=>a|a e=>exact .b (n:=λb=>B (!b)) (λd a=>ui o.1 a) λb z=>.a A|b c=>exact .b (e:=aw x.b) (λz a=>h.b a) λl z=>.a (O _ (sS l))|_=>exact .g
theorem Bi(v):be x id (rk x.a v s) (rk x.e (Q x.b v) t):=.h h (B8 o h v)
theorem qk(b):du (aw x.b) (lH x.a b s) (lH x.e (Q x.b b) t):=.b (e:=x.b.b) (λz a=>pR a) λz z z a=>h.b a
theorem Bg(b:du (Q x.b) y a):be x (Q x.b) (hf y s) (hf a t):=.b b λc z=>by rw[ji];exact .e (.c h A) .g
theorem Wy(l m):be x (Q x.b) (fM x.a (l++m) s) (fM x.e (aw x.b l++aw x.b m) t):=by rw[←qn];exact oO o h
theorem WU(l)(n):be x (Q x.b) (fM x.a (hs n (l.headD .f)) s) (fM x.e (hs n ((aw x.b l).headD .f)) t):=by rw[QW,←QX];exact oO o h
theorem WB(b)(c d):be x (Q x.b) (uU x.a b c d s) (uU x.e b (Q x.b c) (Q x.b d) t):=by
 cases c with
 |a y=>exact .b (λz a=>hb a) λz z=>.b (λz a=>KS o.1 a) λz z=>.c h A
 |e y=>cases b with|b=>exact .b (l:=x.b.d) (λz a=>DL a) λz z=>.b (l:=x.b.d) (λz a=>o.2.1 _ _ _ a) λz z=>.c h A|_=>exact .g
 |b y=>cases b with|b=>exact .b (l:=aw x.b) (λz a=>h.b a) λl z=>.b (qk o h d) λm z=>Wy o h l m|e=>exact .b (l:=aw x.b) (λz a=>h.b a) λl z=>.b (λz a=>wz a) λn z=>.d (jO ((O (M · 1) (gw l)).trans) (bD.c o)) λz=>WU o h l n|_=>exact .g
 |_=>exact .g
mutual
theorem Fw(d:∀n c v,f n c=B v->a n (x.b.b c)=B (Q x.b v)):∀v n {w},sJ f v n=B w->sJ a (Q x.b v) n=B (Q x.b w)
 |.d l,0,_,b=>X b
 |.d l,n+1,_,b=>aj b λk e b=>au (zx d l n e) (J (R b) A)
 |.b c,n,_,b=>d n c _ b
 |.f,_,_,b=>X b
 |.g,_,_,b=>J (R b) A
 |.c _,_,_,b=>J (R b) A
 |.a _,_,_,b=>J (R b) A
 |.e _,_,_,b=>J (R b) A
 |.h _,_,_,b=>X b
termination_by structural x=>x
theorem zx(d:∀n c v,f n c=B v->a n (x.b.b c)=B (Q x.b v)):∀l n {w},jX f l n=B w->jX a (aw x.b l) n=B (aw x.b w)
 |[],_,_,b=>J (R b) A
 |y::l,n,_,b=>aj b λm e b=>aj b λk g b=>au (Fw d y n e) (au (zx d l n g) (J (R b) A))
termination_by structural x=>x
end
theorem Qw:∀k n b v,mP x.a.toHOps s.b k n b=B v->mP x.c t.b k n (x.b.b b)=B (Q x.b v):=λk=>by
 induction k with
 |zero=>exactλz z z a=>X a
 |succ k d=>exactλf=>by cases f with|zero=>exactλz z a=>aj a λz z a=>X a|succ n=>exactλb v a=>aj a λl e a=>aj a λg c a=>au (h.b e) (au (zx o h d l n c) (J (R a) A))
theorem Fv(a):du (Q x.b) (jW x.a s.b a) (jW x.e t.b (Q x.b a)):=λz b=>Fw o h (Qw o h 3) a 20 b
theorem OB(a b):du id (vg x.a s.b a b) (vg x.e t.b (Q x.b a) (Q x.b b)):=.b (Fv o h a) λz z=>.b (Fv o h b) λz z z c=>oj o.1 _ _ c
theorem bD.e{l}{p}(q:x.a.a s.b l=.b k p)(m:dG k=D∨k=[]):x.c.a t.b (x.b.b l)=.b (eC x.b k) (p+x.b.e l):=by have w:=h.1 l;rw[q]at w;exact w.elim (λw=>w.2) λw=>gR w λr z z z z w=>m.elim (λm=>by rw[w.1,qh]at m;exact az m) λn=>by rw[w.1]at n;exact ak (O4.mp n).2 (ul _ _)
theorem EW(c f):du id (hc x.a s.b c f) (hc x.e t.b (Q x.b c) (Q x.b f)):=λd a=>by
 have m:kR x.a s.b c=I->kR x.e t.b _=I->hc x.e t.b _ _=B _:=λe n=>by
  have a:a' _ _ _=B d:=a;rw[e]at a;show(a' _ _ _:Option Bool)=_
  exact C n ((OB o h c f d) a)
 cases c with
 |b y=>cases q:x.a.a s.b y with
  |a H=>exact m (show(match x.a.a s.b y with|.b _ _=>D|_=>I)=I by exact C q A) (show(match x.c.a t.b _ with|.b _ _=>D|_=>I)=I by exact C (h.a q) A)
  |b G F=>
   have g:kR x.a s.b (.b y)=D:=by show(match x.a.a s.b y with|.b _ _=>D|_=>I)=D;exact C q A
   have a:a' _ _ _=B d:=a;rw[g]at a;refine aj a λw b a=>aj a λJ p a=>aY a λv a=>V v λk l=>?_
   have b:dy _=B w:=b;rw[q]at b;have b:=R b;subst b;refine aj p λE r u=>?_
   show(a' _ (Y (dy _) _) (match x.c.a t.b _ with|.b _ _=>D|_=>I):Option Bool)=_
   refine C (h.e o q (.inl k)) ?_;refine au A (au (au (pR r) (by exact C (h.e o (wF u) (.inr (ej.mp l))) A)) ?_);rw[mR,FX,FX,k,l];exact a
  |_=>
   have g:kR x.a s.b (.b y)=I:=by show(match x.a.a s.b y with|.b _ _=>D|_=>I)=I;exact C q A
   have a:a' _ _ _=B d:=a;rw[g]at a;exact aj a λz e z=>aj e λz e z=>by rw[q]at e;exact X e
 |_=>exact m A A
end
def uy(r)(e a:List _):=a=eC r e∨∃k b,e=k++gy/\lw r k a b
section
variable{c b:Type}{x:dk c b}{s:S c}{t:S b}(o:go x)
include o
theorem Fg(w:uy x.b e d)(g:fb k e=D)(h:ch x.a.b k e=B f):fb (Q x.b k) d=D/\ch F (Q x.b k) d=B (f.map (Q x.b)):=
 w.elim (λw=>C w ⟨Aw g,EM o.1 h⟩) λw=>aq w λj i w=>by rw[w.1]at h g;exact⟨HK w.2 h g,w.2.a o.1 (wI g) h⟩
theorem EL(w:uy x.b d e)(k):du (lr (Q x.b)) (pY x.a d k) (pY x.e e (Q x.b k)):=λf h=>aY h λq h=>by
 have z:=Fg o w q h;show aI _ (ch F _ e)=_
 exact C z.1 (C z.2 A)
theorem Hb(d)(l):du id (ne x.a d l) (ne x.e (Q x.b d) (aw x.b l)):=by cases d with|e k=>exactλz h=>He o.1 h|a e=>exactλz h=>Ai o.1 h|_=>exact .g
theorem Tq(w:uy x.b d e)(f):du id (aI (fb f d) (to x.a f d)) (aI (fb (Q x.b f) e) (to x.e (Q x.b f) e)):=λj h=>aY h λq h=>by
 have l:(Y _ _)=B j->aI (fb _ e) (Y (ch F _ e) λg=>B _)=B j:=λh=>aj h λg k h=>by have z:=Fg o w q k;exact C z.1 (C z.2 ((show B (g.map (Q x.b)).isSome=B g.isSome by cases g<;>rfl).trans h))
 cases f with
 |e m=>exact aY h λi h=>w.elim (λw=>by
   refine C w (C (Aw q) ?_);show aI _ (qE F _ _)=_
   rw[mR,i,FY]
   exact He o.1 h) λw=>aq w λn p w=>by rw[w.1,qh]at i;exact az i
 |_=>exact l h
theorem qa(h:bR x q f (.b e g) d):∃i k,d=.b i k/\uy x.b e i:=
 h.elim (λh=>(dE _ _ h.2 (.inl A))) λh=>gR h λm i l j n h=>(dE i j h.2.1 (.inr (dE m l h.1 h.2.2.2.1)))
theorem Ru(h:bR x q f d e)(g):du id (jc x.a g d) (jc x.e (Q x.b g) e):=by cases d with|a l=>exact C h (Hb o g l)|d l=>exact C h (.b (e:=λz=>bM.a (x.b.a z)) (λi h=>hb h) λi i i h=>Ai o.1 h)|b m j=>exact aq (qa o h) λn k z=>C z.1 (Tq o z.2 g)|_=>exact .g
theorem Ad(d e):du id (qA x.a d e) (qA x.e (Q x.b d) (Q x.b e)):=.b (λz h=>hb h) λz z=>.b (λz h=>hb h) λz z z h=>KQ o.1 h
omit o in
theorem IJ(d e):du id (qZ d e) (qZ (Q x.b d) (Q x.b e)):=by cases e with|g=>cases d<;>exactλz h=>h|_=>exact .g
theorem Yy(h:xo x.a l=B d):xo x.e (aw x.b l)=B (aw x.b d):=by
 match l,h with
 |[],h=>exact J (R h) A
 |[e],h=>exact J (R h) A
 |e::g::r,h=>
  refine aY h λq h=>aj h λt f h=>?_
  show aI _ (Y (lQ F x.a.c.n _ _) _)=_
  rw[sS,JY,JY,q,GV o.1 o.2.3 f];cases t<;>exact J (R h) A
variable(a:bD x s t)
include a
theorem Gf(d e):du id (sZ x.a s.b d e) (sZ x.e t.b (Q x.b d) (Q x.b e)):=by cases e with|d l=>exact Hb o d l|b y=>exact Ru o (a.1 y) d|_=>exact .g
theorem WE(f)(d e):be x (Q x.b) (va x.a f d e s) (va x.e f (Q x.b d) (Q x.b e) t):=by
 exact .b (by
  cases f with
  |a=>exact EW o a d e
  |c=>exact EW o a d e
  |i=>exact IJ d e
  |j=>exact IJ d e
  |b=>exact Gf o a d e
  |f=>exact Gf o a d e
  |e=>exactλz h=>GV o.1 o.2.3 h
  |h=>exact Ad o e d
  |d=>exact Ad o e d
  |g=>exact Ad o d e) λz z=>.c a A
theorem WJ(h:bR x q f d e)(i):be x (Q x.b) (lI x.a d i s) (lI x.e e (Q x.b i) t):=by cases d with|a p=>exact C h (Bg o a λz h=>QU h)|b m k=>exact aq (qa o h) λn l g=>C g.1 (.b (EL o g.2 i) λd z=>.b (λv j=>j▸A) λz z=>.c a A)|_=>exact .g
theorem IN(d i):be x (Q x.b) (sV x.a d i s) (sV x.e (Q x.b d) (Q x.b i) t):=by cases d with|d l=>exact .d ((O (ar · _) (gw l)).trans) λz=>Bg o a λz h=>QS o.1 h|e k=>exact .b (λz h=>wz h) λn z=>.b (l:=x.b.d) (λz h=>o.2.2 _ _ _ h) λz z=>.c a A|b y=>exact WJ o a (a.1 y) i|_=>exact .g
theorem WR(l)(m n):be x (Q x.b) (fM x.a ((l.take n).drop m) s) (fM x.e (((aw x.b l).take n).drop m) t):=by rw[kQ,←Lr,←List.map_drop,←kQ];exact oO o a
theorem WZ(d l e):be x (Q x.b) (Bt x.a d l e s) (Bt x.e (Q x.b d) (Q x.b l) (Q x.b e) t):=
 .b (qk o a d) λf z=>.b (l:=id) (λz h=>Eo h) λm z=>.b (l:=id) (λz h=>by rw[gw];exact Eo h) λn z=>WR o a f m n
theorem WV(d):be x (Q x.b) (AX x.a d s) (AX x.e (Q x.b d) t):=.b (qk o a d) λl z=>by rw[kQ l,←List.map_reverse,←kQ];exact oO o a
theorem FC(h:sL x.a s.b d=B p):∃l,sL x.e t.b (Q x.b d)=B (x.b.b p.1,p.2.1,l)/\jH x.b p.2.2 l:=vy h λe f=>by have w:=a.1 p.1;rw[f]at w;exact w.elim λl w=>(ag l (au (pR (e▸A)) (au (by exact C w.1 A) A)) w.2)
theorem IM(d)(f):be x (Q x.b) (sM x.a d f s) (sM x.e (Q x.b d) f t):=λv k h=>aj h λp g h=>(FC o a g).elim λl w=>tw h λj e i=>(ag t (au w.1 (by
 rw[Qb e w.2 j];show(a' _ N _:av b E)=_
 rw[ji,e])) (J i a))
theorem Bh(d)(f)(v):be x id (kg x.a d f v s) (kg x.e (Q x.b d) f (Q x.b v) t):=λu i h=>aj h λp e h=>(FC o a e).elim λl w=>(be.d (jO id (O (ar · 1000) (Qf w.2)).trans) (λj=>.d (λh=>by rw[ji];exact h) λg=>tL o a (vy e λj q z=>by rw[q]at z;exact ak z (λe=>nomatch e)) (l:=.e _ _) (ag _ A (Qg (cq g) w.2))) u i h).imp λt z=>⟨au w.1 z.1,z.2⟩
theorem SG(h:zZ x.a.b i e=D):zZ F (Q x.b i) (eC x.b e)=D:=gi.mpr ((gi.mp h).imp ((mR e).trans) λh=>by
 cases q:ch _ i e with
 |none=>rw[q]at h;exact az h
 |some d=>rw[q]at h;refine C (EM o.1 q) ?_;cases d<;>exact h)
omit o a in
theorem Ui{k}(h:fb k e=D):aF k=I:=by cases k with|f=>exact V h λh z=>V h λh z=>V h λh z=>az h|_=>rfl
theorem WW(g:x.a.a s.b d≠ .f)(k:ir e=D)(i v):be x id (kY x.a d (.b e f) i v s) (kY x.e (x.b.b d) (.b (eC x.b e) (f+x.b.e d)) (Q x.b i) (Q x.b v) t):=
 .d (jO Aw λh=>by rw[sR];exact bD.c o h) λj=>.d (jO (SG o a) λh=>by rw[ji];exact h) λz=>.b (l:=eC x.b) (λz h=>Op o.1 h) λm l=>by rw[sR,sR];exact tL o a g (.inl ⟨Tc (Ui (V j λd z=>d)) k l,O _ (by cases M _ _<;>first|rfl|exact CU _ _ _)⟩)
theorem WY{l}{p}{z}(h:bR x t.a l (.b e p) z)(r:x.a.a s.b l≠ .f)(j v):be x id (kY x.a l (.b e p) j v s) (kY x.e (x.b.b l) z (Q x.b j) (Q x.b v) t):=by
 refine h.elim (λh=>C h.2 (WW o a r h.1 j v)) λh U T f=>gR h λZ g J n H h=>aY f λi f=>aY f λd f=>aj f λK y f=>V d λd u=>V i λi X=>?_
 have d:(dG e||match ch _ j e with|some k=>k.isNone|none=>I)=D:=d;rw[h.1]at i y d;rw[qh]at d;cases q:ch _ j _ with
 |none=>rw[q]at d;exact az d
 |some k=>
  rw[q]at d;cases k with
  |some=>exact az d
  |none=>
   refine aq (h.2.2.2.1.b o.1 (wI i) q (cq u) y) λS m w=>aY f λP W=>?_
   have L:ar _ _=D:=er (aV (fk h.2.2.2.2) (bH (a.d o (V P λW G=>G))));refine(tL o a r (l:=.b K _) (k:=.b m (bif M m.length g.length then n else n+1)) (.inr (mm S m J _ H (iD w.1 A h.2.2.1 w.2.2 (aV w.2.1.5 (fk h.2.2.2.2))))) U T f).imp λa0 E=>⟨?_,E.2⟩
   refine C h.2.1 ?_;show aI (fb _ g&&ar _ x.f) (aI ((dG g||match ch F _ g with|some k=>k.isNone|none=>I)&&!(aF _)) (Y (hH F _ _ g) _))=_
   rw[HK h.2.2.2.1 q i,L,(h.2.2.2.1.a o.1 (wI i) q),w.2.1.1,ji,u];exact(show aI ((dG g||true)&&D) _=_ by rw[KZ];rfl).trans E.1
theorem WX(h:bR x t.a d e f)(j:x.a.a s.b d=e)(i v):be x id (kY x.a d e i v s) (kY x.e (x.b.b d) f (Q x.b i) (Q x.b v) t):=by cases e with|a l=>exact C h (.b (λg h=>wz h) λn g=>.b (l:=aw x.b) (λg h=>xl h) λl g=>tL o a (λz=>nomatch j.symm.trans z) A)|b m k=>exact WY o a h (λz=>nomatch j.symm.trans z) i v|_=>exact .g
theorem IR(d i v):be x id (jq x.a d i v s) (jq x.e (Q x.b d) (Q x.b i) (Q x.b v) t):=.b (l:=x.b.b) (λz h=>pR h) λe z=>WX o a (a.1 e) A i v
end
def hK(r:eX):gG->gG
 |.g a=>.g (r.b a)
 |.b a n e=>.b (r.b a) n (e+r.e a)
 |.d l=>.d (aw r l)
 |.a a=>.a (r.b a)
section
variable{b c:Type}{x:dk b c}{s:S b}{t:S c}(o:go x)(a:bD x s t)
include o a
theorem WK(d):be x (Q x.b) (uP x.a d s) (uP x.e (Q x.b d) t):=.b (qk o a d) λl z=>.c a (O (λn:Nat=>E.a (.a n)) (gw l))
theorem Xc{g i}(h:bR x q d g i):du (aw x.b) (rb g) (rb i):=by
 cases g with
 |a l=>exact C h (.a A)
 |b k j=>exactλl e=>aY e λf e=>h.elim (λh=>by
   refine C h.2 ?_;show aI _ _=_
   rw[mR,f,FY]
   exact O (λl=>B _) (R e)) λh=>gR h λm z z z z h=>by rw[h.1,qh]at f;exact az f
 |_=>exact .g
theorem Xd(d):du (aw x.b) (Bm x.a s.b d) (Bm x.e t.b (Q x.b d)):=by cases d with|d l=>exact .a A|b y=>exact Xc o a (a.1 y)|_=>exact .g
theorem W'(d):be x (Q x.b) (uR x.a d s) (uR x.e (Q x.b d) t):=.b (λz h=>hb h) λe z=>.b (λi h=>C (mn h) A) λi z=>.b (λz h=>h) λk h=>.c a (O _ (o.2.4 _ _ h).symm)
theorem WC(d):be x (Q x.b) (uO d s) (uO (Q x.b d) t):=by cases d with|c e=>exact .c a A|_=>exact .g
theorem WA(e)(d):be x (Q x.b) (uQ x.a e d s) (uQ x.e e (Q x.b d) t):=by
 match e with|0=>exact WK o a d|1=>exact .b (Xd o a d) λz z=>oO o a|3=>exact .b (qk o a d) λz z=>.b (l:=aw x.b) (λz h=>Yy o h) λz z=>oO o a|4=>exact W' o a d|5=>exact .b (qk o a d) λz z=>.c a A|6=>exact WC o a d|2=>exact .g|_+7=>exact .g
theorem WD(d)(e):be x (Q x.b) (yO x.a d e s) (yO x.e d (aw x.b e) t):=
 .e (.b (l:=Q x.b) (λz h=>tz h) λf z=>WA o a d f) (.b (l:=aw x.b) (λz h=>Ir h) λz z=>oO o a)
theorem Wz(f:x.a.a s.b d≠ .f):be x (Q x.b) (tl x.a d l e s) (tl x.e (x.b.b d) (aw x.b l) (aw x.b e) t):=.b (l:=Q x.b) (λz h=>tz h) λv z=>.d (λh=>by rw[gw];exact bD.c o h) λz=>tM o a f (l:=.a _) (O _ (qn l [v]).symm)
theorem WL{e g l}(q:x.a.a s.b d≠ .f)(m:x.c.a x.m (x.b.b d)=.a l)(i:l.length+e.length<=t.a):be x (Q x.b) (GX x.a d e g s) (tl x.e (x.b.b d) (l++aw x.b e) (aw x.b g) t):=.b (l:=Q x.b) (λz n=>tz n) λw z v u h=>aY h λz h=>by
 have r:(l++aw x.b e).length<=t.a:=by rw[dr,gw];exact i
 have p:ar _ _=D:=aO h λz z f z=>aY f λf z=>V f λz k=>er (aV (fk r) (bH (a.d o k)))
 exact(tM o a q (l:=.g _) (k:=.a (l++aw x.b e++[Q x.b w])) (bi l m (by rw[qn,kp];rfl) (by exact C dr (fk i))) v u h).imp λy j=>⟨(C p j.1),j.2⟩
theorem WS(f:x.a.a s.b d≠ .f):be x (Q x.b) (wp x.a d l e s) (wp x.e (x.b.b d) (aw x.b l) (aw x.b e) t):=.d ((sS e).trans) λz=>.b (l:=Q x.b) (λv h=>by rw[kQ,List.getLast?_map,h];rfl) λv z=>.d ((O _ (ji v)).trans) λz=>tM o a f (l:=.a _) (O _ (by rw[kQ,kQ,List.map_dropLast]))
theorem WT{e j}{g i}(h:bR x t.a d (.b e g) (.b j i))(p:x.a.a s.b d≠ .f)(k v):be x (Q x.b) (AE x.a d e g k v s) (AE x.e (x.b.b d) j i (Q x.b k) (Q x.b v) t):=λw u q=>aY q λf q=>h.elim (λh=>by
  refine fg h λr h=>?_
  cases h
  exact((be.b (l:=eC x.b) (λz h=>Od o.1 h) λm n=>tM o a p (l:=.b m _) (.inl ⟨Tb r n,O _ (CU _ _ _)⟩)) w u q).imp λt l=>⟨((O _ ((mR e).trans f))).trans l.1,l.2⟩) λh=>gR h λy z z z z h=>by rw[h.1,qh]at f;exact az f
theorem IP(p)(i:bR x t.a d (.b g e) (.b h f))(m:x.a.a s.b d≠ .f)(j):be x (Q x.b) (qC x.a p d g e j s) (qC x.e p (x.b.b d) h f (aw x.b j) t):=by
 cases j with
 |nil=>exact .g
 |cons k r=>
  have w:=aq (qa o i) λz z l=>by cases l.1;exact l.2
  refine .b (EL o w k) λn z=>?_
  cases n with|some v=>exact .d (jO ((O (cV · 1) (gw r)).trans) (HO id (O (M · 1) (gw r)).trans)) λz=>.e (.c a A) (WT o a i m k v)|none=>exact .b (l:=Q x.b) (λz i=>tz i) λz z=>.c a A
theorem WM(g:x.a.a s.b d≠ .f):be x (Q x.b) (wo x.a d l e s) (wo x.e (x.b.b d) (aw x.b l) (aw x.b e) t):=.b (l:=Q x.b) (λz h=>tz h) λv z=>.b (λz h=>hb h) λi z=>.b (λz h=>Ai o.1 h) λf z=>.d ((O (ar · 4000) (gw l)).trans) λz=>tM o a g (l:=.d _) (k:=.d (bif f then aw x.b l else aw x.b l++[.a _])) (O _ (by cases f with
  |true=>rfl
  |false=>exact(qn l [.a i]).symm))
theorem WP(d)(m)(i):be x (Q x.b) (kU x.a d m i s) (kU x.e (x.b.b d) m (aw x.b i) t):=by
 have w:=a.1 d;have h:∀f,x.a.a s.b d=f->f≠ .f->x.a.a s.b d≠ .f:=λf e g=>C e g
 unfold kU;show be x _ _ (match x.c.a t.b _ with|.a l=>_|.g l=>_|.b j e=>_|.d l=>_|_=>N)
 generalize k:x.a.a s.b d=f at w⊢;have h:=h f k;generalize x.c.a t.b _=y at w⊢;cases f with
 |a l=>
  refine C w ?_
  match m with|0=>exact Wz o a (h λe=>nomatch e)|1=>exact WS o a (h λe=>nomatch e)|_+2=>exact .g
 |g l=>exact w.elim λu w v n g=>aY g λq g=>(C w.2.1 (C (bW q) (WL o a (h λe=>nomatch e) w.1 w.2.2 v n g)))
 |b j e=>
  refine aq (qa o w) λr p z=>?_
  rw[z.1]at w⊢
  match m with|0=>exact .g|1=>exact IP o a D w (h λe=>nomatch e) i|2=>exact IP o a _ w (h λe=>nomatch e) i|_+3=>exact .g
 |d l=>exact C w (.d id λE=>WM o a (h λe=>nomatch e))
 |_=>exact .g
theorem Gs{e f}(h:bR x q d e f)(g:e≠ .c):na f=na e:=by cases e with|f=>exact C (h.1) A|c=>exact ak A g|a=>exact C h A|g=>exact h.elim λi h=>by exact C h.2.1 A|b=>exact aq (qa o h) λk j z=>by exact C z.1 A|d=>exact C h A|e=>exact h.elim λi h=>by exact C h.1 A
theorem Gi(v):du (aw x.b) (ov x.a s.b v) (ov x.e t.b (Q x.b v)):=by cases v with|d l=>exact .a A|b d=>exactλz h=>a.b h|_=>exact .g
mutual
theorem D':∀g {v} {l e},lA x.a g v s.b l=B e->lA x.e g (Q x.b v) t.b (aw x.b l)=B (aw x.b e)
 |.a k,_,_,_,h=>xl h
 |.e j,v,_,_,h=>aj h λf i h=>au (Gi o a v f i) (Ea j h)
termination_by structural g=>g
theorem Ea:∀d {f} {l e},mJ x.a d f s.b l=B e->mJ x.e d (aw x.b f) t.b (aw x.b l)=B (aw x.b e)
 |[],[],_,_,h=>C (R h) A
 |[],_::_,_,_,h=>X h
 |g::d,[],_,_,h=>X h
 |g::d,v::f,_,_,h=>aj h λl i h=>au (D' g i) (Ea d h)
termination_by structural d=>d
end
omit o a in
theorem Hx:∀n e,(Y (Z (eC x.b e) n) λd=>B d.1)=lr (Q x.b) (Y (Z e n) λd=>B d.1)
 |_,[]=>A
 |0,_::_=>A
 |n+1,_::e=>Hx n e
theorem HC(i)(n):du (lr (Q x.b)) (jl x.a i n s.b) (jl x.e (hK x.b i) n t.b):=by
 cases i with
 |g d=>exact .b (e:=aw x.b) (λz h=>a.b h) λl z=>.a (qL l n)
 |d l=>exact .a (qL l n)
 |a d=>exact .b (e:=aw x.b) (λz h=>a.b h) λl z=>.a (by rw[qL];cases Z l n<;>rfl)
 |b d m f=>
   refineλg h=>aj h λp e h=>aY h λq h=>?_
   show Y _ _=_
   refine C (a.e o (wF e) (.inl (V q λq z=>V q λq z=>q))) ?_;show aI (dG (eC x.b p.1)&&M (eC x.b p.1).length m&&M (p.2+x.b.e d) _) (B (Y (Z (eC x.b p.1) n) _))=_
   rw[mR,sR];rw[(jO id (λh=>by exact C (bW h) (gj _)) q),←R h];exact O B (Hx n p.1)
end
section
variable{c:Type}(a:eT c)(b:Nat->List E->S c->av c E)
def eM(e:List aJ):List (aA c E):=aJ.rec_1
 cr ca (λm=>cr (a.c.b m)) (λz h d=>nE a d h) (λz z d i=>gV a d i) (λz z z d n l=>kn a d n l) (λz d=>pi a d) (λo z z f g=>fC a o f g) (λz f=>ph f) (λz f=>lj a f)
 (λz e=>gU (gS a) e) (λz e=>gU (gh a) e) (λo z z f g=>ei a o f g) (λz z z t f g=>lh a t f g) (λz e=>iC e) (λk z e=>iB a k e) (λk=>pf a k) (λz d=>pj a d)
 (λh z e=>gg b h e) (λj k z e=>kl a b j k e) (λg z e=>gT a g e) (λz p z d e=>li a b d p e) (λz t z z g i q=>ia a g t i q)
 [] (λz z d r=>d::r) .none (λz d=>B d) e
def vi(q:Option aJ):Option (aA c E):=aJ.rec_2
 cr ca (λm=>cr (a.c.b m)) (λz h e=>nE a e h) (λz z e i=>gV a e i) (λz z z e n l=>kn a e n l) (λz e=>pi a e) (λo z z f g=>fC a o f g) (λz f=>ph f) (λz f=>lj a f)
 (λz d=>gU (gS a) d) (λz d=>gU (gh a) d) (λo z z f g=>ei a o f g) (λz z z t f g=>lh a t f g) (λz d=>iC d) (λk z d=>iB a k d) (λk=>pf a k) (λz e=>pj a e)
 (λh z d=>gg b h d) (λj k z d=>kl a b j k d) (λg z d=>gT a g d) (λz p z e d=>li a b e p d) (λz t z z g i q=>ia a g t i q)
 [] (λz z e r=>e::r) .none (λz e=>B e) q
end
section
variable{c:Type}(a:eT c)(b:Nat->List E->S c->av c E)
def zp(s:de):dv c:=de.rec
 (λi e=>iE i (K a b e)) (λo g e=>pl a (K a b o) g (K a b e)) (λo i e=>pm a (K a b o) (K a b i) (K a b e)) (λt e=>nL a b t (K a b e))
 (λo g e=>rt a (K a b o) g (K a b e)) (λo i e=>ru a (K a b o) (K a b i) (K a b e)) (λe=>pn (K a b e)) (λt z z f d=>iF a (K a b t) f d) (λt z d=>rv a (K a b t) d)
 (λt x z d=>jy a t (lD a b x) d) (λe=>nK (K a b e)) rs gz (λz z f r=>dS f r) s
end
def QV(r:eX):cQ->cQ
 |.a=>.a
 |.c=>.c
 |.b v=>.b (Q r v)
def mW(r:eX)(p:cQ×aC):cQ×aC:=(QV r p.1,aw r p.2)
section
variable{j k:Type}{x:dk j k}{l m:Type}{i:l->m}
theorem be.f{v y:Type}{p:v->y}{o}{u}{w}{q}{r}(s:be x i u w)(t:∀n,be x i (q n) (r (p n))):be x i (dc u q o) (dc w r (o.map p)):=by cases o with|none=>exact s|some n=>exact t n
def aL(x:dk j k)(i:l->m)(u:aA j l)(w:aA k m):=∀a s t,bD x s t->be x i (u a s) (w (aw x.b a) t)
def iN(x:dk j k):List (aA j E)->List (aA k E)->Prop
 |[],w=>w=[]
 |u::c,w=>∃a b,w=a::b/\aL x (Q x.b) u a/\iN x c b
def yu(x:dk j k)(q:Option _)(a:Option _):=(q=N/\a=N)∨∃u w,q=B u/\a=B w/\aL x (Q x.b) u w
section
variable(o:go x){s:S j}{t:S k}(a:bD x s t)
include o a
theorem EK(c):hG x.e (hK x.b c) t.b=hG x.a c s.b∨∀n,jl x.a c n s.b=N:=by
 have g:∀b,((ce (x.c.a t.b _)).getD []).length=((ce _).getD []).length∨ce _=N:=λb=>by cases q:ce (x.a.a s.b b)with|none=>exact .inr A|some d=>exact C (a.b q) (.inl (gw d))
 cases c with|g b=>exact(g b).imp id λh n=>by show Y _ _=N;refine C h ?_;rfl|a b=>exact(g b).imp id λh n=>by show Y _ _=N;refine C h ?_;rfl|d d=>exact .inl (gw d)|b b n e=>exact .inl A
end
section
variable(o:go x)
include o
theorem WI(C){H}{J}(L:∀w,aL x (mW x.b) (H w) (J (Q x.b w))):∀v y,aL x (mW x.b) (ed x.a C H v y) (ed x.e (hK x.b C) J v y):=λv=>by
 induction v with
 |zero=>exactλz z z z z=>.g
 |succ v P=>
  exactλy E F G u=>.b (HC o u C y) λT z=>.f (.c u A) λw=>(L w E F G u).a λS F G u=>by
    cases S with
    |mk K E=>cases K with|b w=>exact .c u A|_=>exact P _ E F G u
theorem WH(v){E}{F}(J:∀G,aL x (mW x.b) (E G) (F (Q x.b G))){w}{y}(z:bD x w y):
  be x (mW x.b) (ed x.a v E (hG x.a v w.b+1) 0 u w) (ed x.e (hK x.b v) F (hG x.e (hK x.b v) y.b+1) 0 (aw x.b u) y):=
 (EK o z v).elim (λe=>C e (WI o v J _ 0 u w y z)) λe L P H=>aj H λK q K=>X ((e 0).symm.trans q)
omit o in
theorem Kv{c:dv j}{y}:nB v c (w+1) y u=aB (v y u) λC u=>a' (B ((.a,y),u)) (aB (c y u) λz u=>match z.1 with
  |.b _=>B (z,u)
  |_=>nB v c w z.2 u) C:=A
omit o in
theorem KD:bs (e::d) v u=aB (e v u) λw u=>aB (bs d v u) λy u=>B (w::y,u):=A
theorem Xa{F:aC->S j->av j Bool}{G:aC->S k->av k Bool}{c:dv j}{n:dv k}(J:aL x id F G)(K:aL x (mW x.b) c n):∀v,aL x (mW x.b) (nB F c v) (nB G n v):=λv=>by
 induction v with
 |zero=>exactλE E E E=>.g
 |succ v L=>
  exactλz w y u=>by
    refine C Kv (C Kv ?_);refine(J z w y u).a λh w y u=>.e (.c u A) ?_
    refine(K z w y u).a λP w y u=>?_
    cases P with
    |mk H z=>cases H with|b Q=>exact .c u A|_=>exact L z w y u
theorem WG(G){J}{K}(T:∀F,aL x (lr (Q x.b)) (J F) (K (Q x.b F))):∀w y v,aL x (aw x.b) (fu x.a G J w y v) (fu x.e (hK x.b G) K w y (aw x.b v)):=λw=>by
 induction w with|zero=>exactλz z z z z z=>.g|succ w L=>exactλy v H C E u=>.b (HC o u G y) λU z=>.f (.c u A) λF=>(T F H C E u).a λU C E u=>.f (L _ v H C E u) λh=>.d (λS=>by rw[gw];exact bD.c o S) λz=>by have P:=L (y+1) (v++[h]) H C E u;rw[qn]at P;exact P
theorem WF(v){C}{E}(H:∀F,aL x (lr (Q x.b)) (C F) (E (Q x.b F))){w}{y}(z:bD x w y):
  be x (aw x.b) (fu x.a v C (hG x.a v w.b+1) 0 [] u w) (fu x.e (hK x.b v) E (hG x.e (hK x.b v) y.b+1) 0 [] (aw x.b u) y):=
 (EK o z v).elim (λe=>J e (WG o v H _ 0 [] u w y z)) λe L P G=>aj G λK q K=>X ((e 0).symm.trans q)
mutual
theorem pW:∀w,sw w=D->Q x.b w=w
 |.g,_=>A
 |.c _,_=>A
 |.a (.a _),_=>A
 |.a (.b _ _),u=>az u
 |.e y,u=>O _ (o.1.1 y (bH u))
 |.d v,u=>O _ (u' v u)
 |.b (.d y),_=>O _ (o.4 y)
 |.b (.c _),u=>az u
 |.f,u=>az u
 |.h _,u=>az u
termination_by structural x=>x
theorem u':∀v,uZ v=D->aw x.b v=v
 |[],_=>A
 |w::v,u=>V u λa c=>by
  show Q x.b w::aw x.b v=_
  exact C (pW w a) (C (u' v c) A)
termination_by structural x=>x
end
theorem JR(v):aL x (Q x.b) (cr v) (cr v):=λz E y w h F u=>aY u λq u=>(ag y (by
 show aI _ _=_
 rw[q]
 exact J (aW u) (C (pW o v q) A)) (J (bo u) w))
theorem Zo(u):aL x (Q x.b) (ca u) (ca u):=λy z C v=>Bg o v λE w=>by rw[qL,w];rfl
variable{e a c h:aA j E}{b g n t:aA k E}{d:List (aA j E)}{f:List (aA k E)}{q:Option (aA j E)}{s:Option (aA k E)}{p:Nat->List E->S j->av j E}{r:Nat->List E->S k->av k E}
theorem Zd(i)(y:aL x (Q x.b) e b):aL x (Q x.b) (nE x.a e i) (nE x.e b i):=λz v w u=>(y z v w u).a λC v w u=>IM o u C i
theorem Zn(z:aL x (Q x.b) e b)(C:aL x (Q x.b) a g):aL x (Q x.b) (gV x.a e a) (gV x.e b g):=λy v w u=>(z y v w u).a λE v w u=>(C y v w u).a λF v w u=>IN o u E F
theorem ZA(z:aL x (Q x.b) e b)(C:aL x (Q x.b) a g)(E:aL x (Q x.b) c n):aL x (Q x.b) (kn x.a e a c) (kn x.e b g n):=λy v w u=>(z y v w u).a λG v w u=>(C y v w u).a λH v w u=>(E y v w u).a λF v w u=>WZ o u G H F
theorem Zy(y:aL x (Q x.b) e b):aL x (Q x.b) (pi x.a e) (pi x.e b):=λz v w u=>(y z v w u).a λC v w u=>WV o u C
theorem Ze(y)(C:aL x (Q x.b) a g)(E:aL x (Q x.b) c n):aL x (Q x.b) (fC x.a y a c) (fC x.e y g n):=λz v w u=>(C z v w u).a λF v w u=>(E z v w u).a λG v w u=>WB o u y F G
theorem Zs(u:aL x (Q x.b) e b):aL x (Q x.b) (ph e) (ph b):=λF w y v=>(u F w y v).a λG w y v=>.b (λz u=>hb u) λH z=>.b (λE u=>C (mn u) A) λE z=>.c v A
theorem tT(y:aL x (Q x.b) e b):aL x id (bc x.a e) (bc x.e b):=λz v w u=>(y z v w u).a λC v w u=>Bi o u C
theorem Zt(y:aL x (Q x.b) e b):aL x (Q x.b) (lj x.a e) (lj x.e b):=λz v w u=>(tT o y z v w u).a λC v w u=>.c u A
theorem Zi(y)(C:aL x (Q x.b) a g)(E:aL x (Q x.b) c n):aL x (Q x.b) (ei x.a y a c) (ei x.e y g n):=λz v w u=>(C z v w u).a λF v w u=>(E z v w u).a λG v w u=>WE o u y F G
theorem Zm(z:aL x (Q x.b) e b)(C:aL x (Q x.b) a g)(E:aL x (Q x.b) c n):aL x (Q x.b) (lh x.a e a c) (lh x.e b g n):=λy v w u=>(tT o z y v w u).a λF v w u=>.e (E y v w u) (C y v w u)
theorem oS:∀{d}{f},iN x d f->aL x (aw x.b) (bs d) (bs f):=λ{d}=>by
 induction d with|nil=>exact @λF v z w y u=>C v (.c u A)|cons e d E=>exact @λF v z w y u=>aq v λb f v=>by exact C v.1 (C KD (C KD ((v.2.1 z w y u).a λG w y u=>((E v.2.2 z w y u).a λH w y u=>.c u A))))
theorem ZB(y:iN x d f):aL x (Q x.b) (iC d) (iC f):=λz v w u=>(oS o y z v w u).a λC v w u=>.c u A
theorem Zq(v)(z:iN x d f):aL x (Q x.b) (iB x.a v d) (iB x.e v f):=λC w y u=>(oS o z C w y u).a λF w y u=>q' o u λE E=>A
theorem Zj(u):aL x (Q x.b) (pf x.a u) (pf x.e u):=λy z E v=>q' o v λa w=>.inl ⟨A,by exact C w A⟩
theorem Zz(v:aL x (Q x.b) e b):aL x (Q x.b) (pj x.a e) (pj x.e b):=λC w y u=>(v C w y u).a λE w y u=>.b (λz v=>hb v) λF z=>q' o u λz z=>A
def sd(x:dk j k)(p:Nat->List E->S j->av j E)(r:Nat->List E->S k->av k E):=∀i u v w,bD x v w->be x (Q x.b) (p i u v) (r i (aw x.b u) w)
section
variable(u:sd x p r)
include u
theorem Zg(i)(z:iN x d f):aL x (Q x.b) (gg p i d) (gg r i f):=λC w y v=>(oS o z C w y v).a λE w y v=>u i E w y v
theorem WN(h)(C)(E){y}(w:bD x y v):be x (Q x.b) (Ae x.a p h C E y) (Ae x.e r h C (aw x.b E) v):=.b (λz F=>F) λi z=>(q' o w (l:=.e h []) λz z=>(ag [] A A)).a λH y v w=>(u i _ y v w).a λG y v w=>by cases G with|g=>exact .c w A|_=>exact .g
theorem Zh(h)(w)(C:iN x d f):aL x (Q x.b) (kl x.a p h w d) (kl x.e r h w f):=λE y z v=>(oS o C E y z v).a λF y z v=>WN o u h w F v
omit u in
theorem Zf(c)(z:iN x d f):aL x (Q x.b) (gT x.a c d) (gT x.e c f):=λC w y v=>(oS o z C w y v).a λE w y v=>WD o v c E
omit u in
theorem Ur{a}{E}{z}(F:bD x E z)(e:nl x.a E.b a v=B y):nl x.e z.b (x.b.b a) v=B y/\x.a.a E.b a≠ .c:=by
 have w:=F.1 a;unfold nl at e⊢
 revert w e
 generalize x.a.a E.b a=G;refine C (show x.e.a z.b _=x.c.a z.b _ from A) ?_;generalize x.c.a z.b _=L;intro e w;cases G with|f=>exact X e|c=>exact X e|a=>exact C w ⟨e,λe=>nomatch e⟩|g=>exact w.elim λJ w=>C w.2.1 ⟨e,λe=>nomatch e⟩|b=>exact aq (qa o w) λf K H=>C H.1 ⟨e,λe=>nomatch e⟩|d=>exact C w ⟨e,λe=>nomatch e⟩|e=>exact w.elim λJ w=>C w.1 ⟨e,λe=>nomatch e⟩
omit u in
theorem WQ{a}{F}{G}(E:bD x F G):be x (Q x.b) (lR x.a y a w v F) (lR x.e y (x.b.b a) w (aw x.b v) G):=λK J z=>aY z λq z=>(WP o E a w v K J z).imp λL H=>⟨by
  show aI _ _=_
  exact C (Gs o E (E.1 a) (λe=>by unfold kU at z;rw[e]at z;exact X z)) (C q H.1),H.2⟩
theorem WO(J){P}{T}(C:aL x (aw x.b) P T)(G):aL x (Q x.b) (Ak x.a p J P G) (Ak x.e r J T (Q x.b G)):=λH w y v=>.b (l:=x.b.b) (λX C=>pR C) λa X U L E=>aj E λV e E=>by have F:=Ur o v e;cases V with|some i=>exact(((C H w y v).a λS w y v=>u i (G::S) w y v) U L E).imp λW z=>⟨au F.1 z.1,z.2⟩|none=>have K:=((C H w y v).a λS w y v=>WQ o v) U L E;rw[←(Gs o v (v.1 a) F.2)]at K;exact K.imp λW z=>⟨au F.1 z.1,z.2⟩
theorem Zr(w)(F:aL x (Q x.b) e b)(E:iN x d f):aL x (Q x.b) (li x.a p e w d) (li x.e r b w f):=λC y z v=>(F C y z v).a λG y z v=>WO o u w (oS o E) G C y z v
end
theorem JQ(y:aL x (Q x.b) c n):aL x (lr (Q x.b)) (kZ c) (kZ n):=λz v w u=>(y z v w u).a λC v w u=>.c u A
theorem Zv(v:yu x q s)(E:aL x (Q x.b) c n):aL x (lr (Q x.b)) (km x.a q c) (km x.e s n):=v.elim (λv=>by exact C v.1 (C v.2 (JQ o E))) λv=>aq v λF G v=>by
 refine C v.1 (C v.2.1 ?_);show aL x _ (λw u=>aB _ λh u=>a' (B (.none,u)) (kZ c w u) h) (λw u=>aB _ λh u=>a' (B (.none,u)) (kZ n w u) h)
 exactλw u z y=>(tT o v.2.2 w u z y).a λh u z y=>.e (.c y A) (JQ o E w u z y)
theorem JS{z}{E}(v:aL x i z E)(C):aL x i (dK x.a u z C) (dK x.e u E (Q x.b C)):=λy F G w=>.b (l:=aw x.b) (λH v=>D' o w u v) λy H=>v y F G w
theorem GL(C){w}{y}(v:bD x w y):be x x.b.b (tk x.a C w) (tk x.e (Q x.b C) y):=.b (l:=x.b.b) (λz u=>pR u) λa z=>.b (l:=aw x.b) (λz u=>v.b u) λz z=>.c v A
theorem Zp(y)(z:aL x (Q x.b) c n)(E:aL x (Q x.b) a g)(C:yu x q s):aL x (Q x.b) (ia x.a c y a q) (ia x.e n y g s):=λF v w u=>(E F v w u).a λG v w u=>(GL o G u).a λK v w u=>(WF o _ (JS o (Zv o C z)) u).a λJ v w u=>q' o u λH H=>A
theorem Zc(z:aL x (Q x.b) e b)(C:aL x (Q x.b) a g):aL x (Q x.b) (gS x.a e a) (gS x.e b g):=λy v w u=>(z y v w u).a λE v w u=>(Bi o u E).a λh v w u=>.e (.c u A) (C y v w u)
theorem Zu(z:aL x (Q x.b) e b)(C:aL x (Q x.b) a g):aL x (Q x.b) (gh x.a e a) (gh x.e b g):=λy v w u=>(z y v w u).a λE v w u=>(Bi o u E).a λh v w u=>.e (C y v w u) (.c u A)
theorem BD{w}(y:∀e b a g,aL x (Q x.b) e b->aL x (Q x.b) a g->aL x (Q x.b) (u e a) (w b g)):∀{d}{f},iN x d f->aL x (Q x.b) (gU u d) (gU w f)
 |[],_,v=>λz z z z=>.g
 |[e],_,v=>aq v λb f v=>by exact C v.1 (C (v.2.2) v.2.1)
 |e::a::d,_,v=>aq v λb f v=>by
  refine C v.1 ?_;have E:=BD y v.2.2;refine aq v.2.2 λg G F=>?_
  rw[F.1]at E⊢;exact y _ _ _ _ v.2.1 E
end
end
section
variable{g h:Type}{x:dk g h}(o:go x)
include o
abbrev fo(x:dk g h)(u:dv g)(w:dv h):=aL x (mW x.b) u w
omit o in
theorem ni{s}{t}(k:bD x s t):be x (mW x.b) (gz l s) (gz (aw x.b l) t):=.c k A
variable{e b i:aA g E}{a f j:aA h E}{c:Nat->List E->S g->av g E}{d:Nat->List E->S h->av h E}
theorem ZF(n)(l:aL x (Q x.b) e a):fo x (iE n e) (iE n a):=λm s t k=>(l m s t k).a λv s t k=>.b (l:=aw x.b) (λz l=>xl l) λm z=>ni k
theorem ZD(l)(p:aL x (Q x.b) b f)(n:aL x (Q x.b) e a):fo x (pl x.a b l e) (pl x.e f l a):=λm s t k=>(n m s t k).a λv s t k=>(p m s t k).a λu s t k=>(Bh o k u l v).a λz s t k=>ni k
theorem ZE(p:aL x (Q x.b) b f)(q:aL x (Q x.b) i j)(m:aL x (Q x.b) e a):fo x (pm x.a b i e) (pm x.e f j a):=λl s t k=>(m l s t k).a λv s t k=>(p l s t k).a λu s t k=>(q l s t k).a λn s t k=>(IR o k u n v).a λz s t k=>ni k
theorem FU(v w){s}{t}(l:bD x s t):be x (Q x.b) (sP x.a v w s) (sP x.e (Q x.b v) (Q x.b w) t):=.b (λz k=>hb k) λz z=>.b (λz k=>hb k) λz z=>.b (λz k=>KS o.1 k) λz z=>.c l A
theorem ZJ(l)(p:aL x (Q x.b) b f)(n:aL x (Q x.b) e a):fo x (rt x.a b l e) (rt x.e f l a):=λm s t k=>(p m s t k).a λy s t k=>(IM o k y l).a λu s t k=>(n m s t k).a λv s t k=>(FU o u v k).a λw s t k=>(Bh o k y l w).a λz s t k=>ni k
theorem ZK(p:aL x (Q x.b) b f)(q:aL x (Q x.b) i j)(n:aL x (Q x.b) e a):fo x (ru x.a b i e) (ru x.e f j a):=λl s t k=>(p l s t k).a λy s t k=>(q l s t k).a λm s t k=>(IN o k y m).a λu s t k=>(n l s t k).a λv s t k=>(FU o u v k).a λw s t k=>(IR o k y m w).a λz s t k=>ni k
theorem ZH(l:aL x (Q x.b) e a):fo x (pn e) (pn a):=λm s t k=>(l m s t k).a λv s t k=>ni k
theorem ZL{p q}(r:aL x (Q x.b) e a)(u:fo x k p)(v:fo x l q):fo x (iF x.a e k l) (iF x.e a p q):=λn s t m=>(tT o r n s t m).a λw s t m=>.e (v n s t m) (u n s t m)
theorem ZP{l}(m:aL x (Q x.b) e a)(n:fo x k l):fo x (rv x.a e k) (rv x.e a l):=Xa o (tT o m) n _
theorem ZN(l:aL x (Q x.b) e a):fo x (nK e) (nK a):=λm s t k=>(l m s t k).a λv s t k=>.c k A
omit o in
theorem ZG:fo x rs rs:=λl s t k=>.c k A
omit o in
theorem ZM{p q}(u:fo x k p)(v:fo x l q):fo x (dS k l) (dS p q):=λn s t m=>(u n s t m).a λw s t m=>by
 cases w with
 |mk r n=>cases r with|a=>exact v n s t m|_=>exact .c m A
theorem Ry(v){s}{t}(l:bD x s t):du (hK x.b) (ta x.a s.b v) (ta x.e t.b (Q x.b v)):=by
 cases v with
 |d p=>exact .a A
 |b m=>
  show du _ (ow m _) (ow _ (x.c.a t.b _))
  cases q:x.a.a s.b m with
  |a p=>exact C (l.a q) (.a A)
  |b u r=>
    refineλi k=>aY k λn k=>?_
    refine C (l.e o q (.inl n)) ?_;show aI _ _=_
    rw[mR,sR,n,←R k];rfl
  |_=>exact .g
 |_=>exact .g
theorem Zl(l:aL x (Q x.b) e a):aL x (hK x.b) (pg x.a e) (pg x.e a):=λm s t k=>(l m s t k).a λv s t k=>.h k (Ry o v k)
theorem Zk(l:aL x (Q x.b) e a):aL x (hK x.b) (uf x.a e) (uf x.e a):=λm s t k=>(l m s t k).a λv s t k=>(GL o v k).a λn s t k=>.c k A
theorem Zx{n}(m:iN x k n):aL x (hK x.b) (uh k) (uh n):=λp s t l=>(oS o m p s t l).a λv s t l=>.b (l:=aw x.b) (λz m=>Ir m) λz z=>.c l A
theorem ZI(n){u}{p}{l}{m}(q:aL x (hK x.b) u p)(r:fo x l m):fo x (jy x.a n u l) (jy x.e n p m):=λv s t k=>(q v s t k).a λi s t k=>WH o i (JS o r) k
theorem Rw(v){s}{t}(k:bD x s t):du (aw x.b) (ov x.a s.b v) (ov x.e t.b (Q x.b v)):=Gi o k v
section
variable(k:sd x c d)(m:∀l,Q x.b (x.a.c.b l)=x.a.c.b l)
include k
theorem fB(e):aL x (Q x.b) (K x.a c e) (K x.e d e):=
 aJ.rec (motive_2:=λt=>iN x (eM x.a c t) (eM x.e d t)) (motive_3:=λq=>yu x (vi x.a c q) (vi x.e d q))
  (JR o) (Zo o) (λl=>JR o _) (λz r n=>Zd o r n) (λz z n p=>Zn o n p) (λz z z n p s=>ZA o n p s) (λz n=>Zy o n) (λb z z n p=>Ze o b n p) (λz n=>Zs o n) (λz n=>Zt o n)
  (λz n=>BD o (λz z z z n p=>Zc o n p) n) (λz n=>BD o (λz z z z n p=>Zu o n p) n) (λb z z n p=>Zi o b n p) (λz z z n p s=>Zm o n p s) (λz n=>ZB o n) (λp z n=>Zq o p n) (Zj o) (λz n=>Zz o n)
  (λr z n=>Zg o k r n) (λv p z n=>Zh o k v p n) (λu z n=>Zf o u n) (λz y z p n=>Zr o k y p n) (λz w z z n p q=>Zp o w n p q)
  A (λz z n p=>(an _ _ A n p)) (.inl ⟨A,A⟩) (λz n=>.inr (an _ _ A A n)) e
theorem ZC:∀n,iN x (sD x.a c n) (sD x.e d n):=λn=>by
 induction n with|nil=>exact A|cons e n p=>exact(an _ _ A (fB o k e) p)
theorem YT(q)(v):aL x (aw x.b) (rf x.a c q v) (rf x.e d q (Q x.b v)):=by
 cases q with
 |a i=>exactλp s t n=>.b (l:=aw x.b) (λz w=>xl w) λp z=>.c n A
 |c b r=>
  show aL x _ (λp s=>aB _ λu s=>aB (kg x.a u r v s) _) (λp s=>aB _ λu s=>aB (kg x.e u r _ s) _)
  exactλp s t n=>(fB o k b p s t n).a λu s t n=>(Bh o n u r v).a λz s t n=>.c n A
theorem YV:∀t v,aL x (aw x.b) (kh x.a c t v) (kh x.e d t (aw x.b v)):=λt=>by
 induction t with
 |nil=>exactλv n s q p=>.d ((sS v).trans) λz=>.c p A
 |cons r t u=>
  exactλy=>by
   cases y with
   |nil=>exactλn s q p=>.g
   |cons w v=>
    exactλn s q p=>by
     show be x _ (aB _ λn s=>kh x.a c t v n s) (aB _ λn s=>kh x.e d t _ n s)
     exact(YT o k r w n s q p).a λn s q p=>u v n s q p
theorem ZO(q)(e):fo x (nL x.a c q (K x.a c e)) (nL x.e d q (K x.e d e)):=λp s t n=>(fB o k e p s t n).a λv s t n=>.b (Rw o v n) λr z=>(YV o k q r p s t n).a λp s t n=>ni n
theorem Zw(r):aL x (hK x.b) (lD x.a c r) (lD x.e d r):=by cases r with|d e=>exact Zl o (fB o k e)|b n=>exact Zx o (ZC o k n)|a e=>exact Zk o (fB o k e)
theorem BE(p):fo x (as x.a c p) (as x.e d p):=
 de.rec_1
  (λi e=>ZF o i (fB o k e)) (λb q e=>ZD o q (fB o k b) (fB o k e)) (λb i e=>ZE o (fB o k b) (fB o k i) (fB o k e)) (λv e=>ZO o k v e)
  (λb q e=>ZJ o q (fB o k b) (fB o k e)) (λb i e=>ZK o (fB o k b) (fB o k i) (fB o k e)) (λe=>ZH o (fB o k e)) (λe z z n r=>ZL o (fB o k e) n r) (λe z n=>ZP o (fB o k e) n)
  (λt u z n=>ZI o t (Zw o k u) n) (λe=>ZN o (fB o k e)) ZG (λw y C s=>ni s) (λz z n r=>ZM n r) p
end
omit o in
theorem PT(n):aw x.b (bG n)=bG n:=by
 induction n with|zero=>rfl|succ n k=>exact O _ k
theorem Oy(q:sd x c d)(k)(m){t}(l:bD x s t):be x (Q x.b) (sC x.a c k m s) (sC x.e d k (aw x.b m) t):=.d (λp=>by rw[gw];exact p) λz=>by have w:=BE o q k.a (m++bG (k.c-k.b)) s t l;rw[qn,PT]at w;exact w.a λr s t l=>by cases r with|mk n u=>cases n<;>exact .c l A
theorem jR:∀n,sd x (ah x.a n) (ah x.e n):=λn=>by
 induction n with|zero=>exactλz z z z z=>.g|succ n q=>exactλr l s t k=>.b (λz p=>p) λm z=>Oy o q m l k
end
abbrev U:=af->bq
def aZ:HOps U where
 a h a:=h a
 d h a o:=λb=>bif af.e b a then o else h b
 e _:=D
 g _ _ _ _ _:=A
def H(F:cl):eT U:={aZ with b:=F,c:=dD,f:=100000}
def sU(F:cl)(v:E):Bool:=dc I (bM.rec (λi=>decide (0<=i)&&decide (i<=2147483646)) (λk c=>decide (0<=F.f k+c)&&decide (F.e k+c<=2147483646))) (dw v)
noncomputable def MF(f n:Nat):=bif M f 50 then M n 3 else(M f 52||M f 53||M f 54)&&M n 2
def tC(F:cl)(f:Nat)(v:List E)(s:S a):av a E:=aI (v.all (sU F)&&MF f v.length) (B (.c D,s))
section
variable{r:eX}{a:cl}
theorem Ra(p:cM r a)(v)(h:sU a v=D):sU F (Q r v)=D:=by
 cases v with
 |a z=>cases z with
  |a i=>exact h
  |b k c=>exact V h λb d=>by
           show(decide (0<=jo _ c)&&decide (jo _ c<=2147483646))=D
           rw[eP];exact ho.mpr ⟨decide_eq_true (dj (of_decide_eq_true b) (rB (p.3 k) c)),decide_eq_true (dj (rB (p.4 k) c) (of_decide_eq_true d))⟩
 |_=>exact az h
theorem Um(o:go x):sd x (tC x.a.b) (tC F):=λf c s t b=>.d (jO (λh=>by
 rw[kQ,O2]
 exact bu.mpr λv m=>Ra o.1 v (bu.mp h v m)) λh=>by rw[gw];exact h) λz=>.c b A
theorem KO{c b:bM}(h:c.e b=D):c=b:=by
 cases c with
 |a i=>cases b with|a j=>exact O bM.a (beq_iff_eq.mp h)|b=>exact az h
 |b k f=>cases b with|a=>exact az h|b l g=>exact V h λd e=>C (bW d) (C (beq_iff_eq.mp e) A)
theorem mN{o}:∀{l},a.d o b c l=B d->(o,b,c,d)∈l:=λ{l}=>by
 induction l with
 |nil=>exactλh=>X h
 |cons q l p=>obtain⟨i,f,g,j⟩:=q;intro h;have h:(bif M o i&&b.e f&&c.e g then B j else a.d o b c l)=B d:=h;cases e:M o i&&b.e f&&c.e g with|true=>rw[e]at h;exact V e λe n=>V e λk m=>by exact C (bW k) (C (KO m) (C (KO n) (C (R h) bn)))|false=>rw[e]at h;exact bT _ (p h)
end
noncomputable def BW(z:Nat->Int):eX:=⟨z,λk=>k,λa=>a,λb=>0⟩
def JN(F:cl)(z:Nat->Int)(h:U):dk U U:=⟨H F,aZ,100000,BW z,h⟩
theorem W7{a:Type}{l:List _}{P:Nat->Prop}(h:∀p∈l,P p.1){x:a}(m:(k,x)∈l):P k:=h _ m
theorem GA(h:dD.n a b=B t):a<1000/\b<1000:=ga h λq z=>V q λc d=>⟨dt (bH c) (by decide),dt (bH d) (by decide)⟩
theorem HT{l}:oH k j l=B r->(k,j,r)∈l:=by
 induction l with
 |nil=>exact X
 |cons p l i=>intro h;have h:(bif M p.1 k&&M p.2.1 j then B p.2.2 else oH k j l)=B r:=h;cases q:M p.1 k&&M _ j with|true=>rw[q]at h;exact V q λa b=>J (bW a) (bW b▸R h▸bn)|false=>rw[q]at h;exact bT _ (i h)
theorem Oj(h:dD.e i=B z):z<1000:=by
 have h:(bif i==8 then B 20 else bif i==16 then B 21 else bif i==32 then B 22 else N)=B z:=h;cases p:i==8 with
 |true=>rw[p]at h;exact J (R h) (by decide)
 |false=>rw[p]at h;cases q:i==16 with|true=>rw[q]at h;exact J (R h) (by decide)|false=>rw[q]at h;exact ga h λa h=>J (R h) (by decide)
theorem AH(h:∀k,k<1000->r.d k=k):Dr r dD:=
 ⟨(λx y z e=>by
  have m:=(by decide:∀p∈yQ,p.1<1000/\p.2.1<1000/\p.2.2<1000) _ (HT e)
  exact C (h x m.1) (C (h y m.2.1) (C (h z m.2.2) e))),
  (λx n z e=>by
  have m:=(by decide:∀p∈yR,p.1<1000/\p.2.2<1000) _ (HT e)
  exact C (h x m.1) (C (h z m.2) e)),
  (λx y t e=>by exact C (h x (GA e).1) (C (h y (GA e).2) e)),
  (λi z e=>h z (Oj e))⟩
theorem JO(p:cM (BW z) a):go (JN a z h):=
 ⟨p,
  AH p.1,
  (λb b e=>e),
  (λb=>A),
  (λn=>⟨n,A⟩),
  (λb=>A),
  bd _⟩
noncomputable def rm(z:Nat->Int)(w:Nat->Nat):eX:=⟨z,w,λa=>a,λb=>0⟩
inductive lt(r:eX)(q:Nat×bM×bM×bM) where
 |mk (d:q.1=0->q.2.2.1.c≠0/\fD (r.a q.2.1) q.2.2.1.c=r.a q.2.2.2)
  (m:q.1=1->q.2.2.1.c≠0/\cs (r.a q.2.1) q.2.2.1.c=r.a q.2.2.2)
  (a:q.1=2->r.a q.2.1+r.a q.2.2.1=r.a q.2.2.2)
  (n:q.1=3->r.a q.2.1≠r.a q.2.2.1)
theorem wS(l:∀k,k<1000->r.d k=k)(g:∀k,r.d k∈a.a k)(b:∀k,a.f k<=r.c k/\r.c k<=a.e k)(i:∀k f e,a.h k f=B e->e<=r.c k-r.c f)(o:∀q∈a.b,lt r q)(t:∀p∈a.i,∃q∈p.2.2,r.c p.1=q.1/\r.d p.2.1=q.2/\q.2<1000):cM r a:=
 ⟨l,
  g,
  (λk=>(b k).1),
  (λk=>(b k).2),
  i,
  (λc b d h=>(o _ (mN h)).1 A),
  (λc b d h=>(o _ (mN h)).2 A),
  (λc b d h=>(o _ (mN h)).3 A),
  (λc b d h=>(o _ (mN h)).4 A),
  t⟩
theorem TO{P:Prop}(h:0=1):P:=ak h (by decide)
theorem TR{P:Prop}(h:1=0):P:=ak h (by decide)
theorem TP{P:Prop}(h:0=2):P:=ak h (by decide)
theorem TS{P:Prop}(h:1=2):P:=ak h (by decide)
theorem TQ{P:Prop}(h:0=3):P:=ak h (by decide)
theorem TT{P:Prop}(h:1=3):P:=ak h (by decide)
theorem wr(h:n≠0)(e:cs (jo (r.c k) c) n=r.a z):lt r (1,.b k c,.a n,z):=⟨TR,λa=>⟨h,e⟩,TS,TT⟩
theorem ve(h:n≠0)(e:fD (r.c k) n=r.c j):lt r (0,.b k 0,.a n,.b j 0):=⟨λz=>⟨h,e⟩,TO,TP,TQ⟩
theorem ge(h:n≠0)(e:cs (r.c k) n=r.a z):lt r (1,.b k 0,.a n,z):=wr h e
theorem V8(e:r.a a+r.a b=r.a c):lt r (2,a,b,c):=⟨λh=>ak (show 2=0 from h) (by decide),λh=>ak (show 2=1 from h) (by decide),λz=>e,λh=>ak (show 2=3 from h) (by decide)⟩
theorem TB(e:r.a a≠r.a b):lt r (3,a,b,.a 0):=⟨λh=>ak (show 3=0 from h) (by decide),λh=>ak (show 3=1 from h) (by decide),λh=>ak (show 3=2 from h) (by decide),λz=>e⟩
theorem ae{a:Type}{P:a->Prop}:∀q∈[],P q:=λz m=>ak m cI
theorem T{b:Type}{P:b->Prop}{a}{l}(h:P a)(k:∀q∈l,P q):∀q∈a::l,P q:=λq m=>(cB.mp m).elim (λe=>C e h) (k q)
theorem mc(h:k<2):k∈[0,1]:=(by decide:∀k,k<2->k∈[0,1]) k h
noncomputable def xA(w k):=bif ar k 1000 then k else w
theorem BZ(w):∀k,k<1000->(rm z (xA w)).d k=k:=λk h=>by
 show(bif ar k 1000 then k else w)=k
 exact C (show ar k 1000=D from er h) A
theorem BY(h:w∈l):xA w k∈(bif ar k 1000 then[k]else l):=by unfold xA;cases ar k 1000 with|true=>exact fR.mpr A|false=>exact h
theorem dX:∀{l}{i},Z l i=B x->x∈l:=λ{l}=>by
 induction l with
 |nil=>exact X
 |cons y l a=>intro i h;cases i with|zero=>exact C (R h) bn|succ i=>exact bT _ (a h)
def NK:bq->Bool
 |.a l=>uZ l
 |.b e _=>ir e&&e.all λp=>sw p.1&&sw p.2
 |_=>I
theorem Kj:cZ.all NK=D:=A
theorem cE:∀{l}{i}{x:a},Z l i=B x->i<l.length:=λ{l}=>by
 induction l with
 |nil=>exact X
 |cons y l b=>intro i x h;cases i with|zero=>exact lq _|succ i=>exact uq (b h)
theorem Kk{H}{x:dk H U}(b:go x)(j:x.b.e a=0)(q:Z cZ i=B o):bR x p a o o:=by have c:=bu.mp Kj o (dX q);cases o with|a l=>exact O _ (u' b l c).symm|b e h=>exact V c λg c=>.inl ⟨g,(C j (O (λe=>bq.b e h) ((Lq λp m=>(V (bu.mp c p m) λd f=>LB (pW b p.1 d) (pW b p.2 f))).trans (Q0 e)).symm))⟩|_=>exact az c
noncomputable def vT(c k:Nat):bM:=bf (.b k 0) (λc z=>.a (c+3)) c
def AB(a b c:Nat):cl:=⟨λk=>[k],λz=>0,λk=>bif ar k 12 then 2147483646 else 2,λz z=>N,
 [(1,.b 0 0,.a 6,vT a 12),(1,.b 4 0,.a 6,vT b 13),(1,.b 8 0,.a 6,vT c 14)],[]⟩
noncomputable def GC:Nat->Nat->List E:=bf (λz=>[]) (λz i k=>.a (.b k 0)::i (k+1))
def QG(m:Nat):U
 |.d _=>.c
 |.c n=>match n with|0=>.c|1=>.a (GC m 0)|_=>.f
noncomputable def wd:aC:=[.b (.d 10),.b (.c 1),.f,.f,.f,.f,.f,.f]
def wc:=sG.a.drop 1
noncomputable def Gc(x:av a (cQ×aC)):Bool:=dc I (λp=>cQ.rec I I (E.rec (motive_2:=λz=>Unit) I I (λb=>b) (λz=>I) (λz=>I) (λz z=>I) (λz z=>I) (λz=>I) () (λz z z z=>())) p.1.1) x
def NE(m a b c):=Gc (as (H (AB a b c)) (tC (AB a b c)) wc wd ⟨QG m,2⟩)
noncomputable def sx(m j):=bif ar j m then[0,1,2,3]else[0]
theorem NF:((bv 13).all λm=>(sx m 0).all λa=>(sx m 4).all λb=>(sx m 8).all λc=>NE m a b c)=D:=by decide+kernel
section
open PyProof.Rows
def gb(F:cl):eT U:={aZ with b:=F,c:=dD,f:=3000}
def fK(a L:List bq):U
 |.d i=>bif ar i 10 then fA (.d i)else bif ar i 16 then .c else(Z a (i-16)).getD .c
 |.c i=>(Z L i).getD .f
structure em where
 f:List Int
 e:List Int
 g:List Nat
 h:List Nat
 a:Nat
 i:Nat
def em.b(v:em):af->af
 |.d j=>.d j
 |.c j=>.c ((Z v.h j).getD (v.a+(j-v.h.length)))
def em.c(v:em)(k:Nat):=bif ar k 10 then(Z v.f k).getD 0 else(Z v.e (k-10)).getD 0
def em.d(v:em)(k:Nat):=bif ar k 1000 then k else(Z v.g (k-1000)).getD 0
def ai(v:em):eX:=⟨v.c,v.d,v.b,λa=>bif af.e a (.d 23)then v.i else 0⟩
def dh(F:cl)(v:em)(h:U):dk U U:=⟨gb F,aZ,100000,ai v,h⟩
theorem TZ:∀{l}{i j x:Nat},l.Nodup->Z l i=B x->Z l j=B x->i=j:=λ{l}=>by
 induction l with
 |nil=>exactλz h=>X h
 |cons c l b=>
  intro i j x a h k;have a:=fF.mp a;cases i with
  |zero=>cases j with|zero=>rfl|succ j=>exact ak (C (R h) (dX k)) a.1
  |succ i=>cases j with|zero=>exact ak (C (R k) (dX h)) a.1|succ j=>exact O _ (b a.2 h k)
theorem lT:∀{l:List a}{i},Z l i=N->l.length<=i:=λ{l}=>by
 induction l with
 |nil=>exactλz=>ek _
 |cons y l b=>intro i h;cases i with|zero=>exact X h.symm|succ i=>exact fk (b h)
noncomputable def MD(k):=bif ar k 1000 then[k]else bv 51
noncomputable def B5(k:Nat):Int:=bif ar k 10 then 20 else 1000
noncomputable def vc(k j:Nat):List (Nat×Nat×Int)->Option Int
 |[]=>N
 |q::l=>bif M k q.1&&M j q.2.1 then B q.2.2 else vc k j l
def hS(d:List (Nat×Nat×Int))(o:List (Nat×bM×bM×bM)):cl:=⟨MD,λz=>0,B5,λk j=>vc k j d,o,[]⟩
def aS(m)(x:Int):=0<=x/\x<=m
theorem Om:∀{l},vc k j l=B e->(k,j,e)∈l:=λ{l}=>by
 induction l with
 |nil=>exact X
 |cons q l i=>obtain⟨a,b,c⟩:=q;intro h;have h:(bif M k a&&M j b then B c else vc k j l)=B e:=h;cases w:M k a&&M j b with|true=>rw[w]at h;exact V w λd f=>C (bW d) (bW f▸R h▸bn)|false=>rw[w]at h;exact bT _ (i h)
theorem mS{P:a->Prop}{l}(b:P d)(h:∀x∈l,P x)(i):P ((Z l i).getD d):=by cases q:Z l i with|none=>exact b|some x=>exact h x (dX q)
theorem gB{e}{o}(g:∀x∈v.f,aS 20 x)(f:∀x∈v.e,aS 1000 x)(j:∀x∈v.g,x<51)(i:∀q∈e,q.2.2<=v.c q.1-v.c q.2.1)(a:∀q∈o,lt (ai v) q):cM (ai v) (hS e o):=
 ⟨(λk h=>by
  show(bif ar k 1000 then k else(Z v.g _).getD 0)=k
  exact C (show ar k 1000=D from er h) A),
  (λk=>by
  show(bif ar k 1000 then k else(Z v.g _).getD 0)∈(bif ar k 1000 then[k]else bv 51)
  cases ar k 1000 with
  |true=>exact fR.mpr A
  |false=>exact pt.mpr (mS (by decide) j _)),
  (λk=>by
  show 0<=(bif ar k 10 then(Z v.f k).getD 0 else(Z v.e _).getD 0)
  cases ar k 10 with
  |true=>exact(mS ⟨bt _,by decide⟩ g _).1
  |false=>exact(mS ⟨bt _,by decide⟩ f _).1),
  (λk=>by
  show(bif ar k 10 then(Z v.f k).getD 0 else(Z v.e _).getD 0)<=(bif ar k 10 then 20 else 1000)
  cases ar k 10 with
  |true=>exact(mS ⟨bt _,by decide⟩ g _).2
  |false=>exact(mS ⟨bt _,by decide⟩ f _).2),
  (λk n l h=>i _ (Om h)),
  (λb c d h=>(a _ (mN h)).1 A),
  (λb c d h=>(a _ (mN h)).2 A),
  (λb c d h=>(a _ (mN h)).3 A),
  (λb c d h=>(a _ (mN h)).4 A),
  (λp m=>ak m cI)⟩
noncomputable def dW(i j:Nat):Nat×bM×bM×bM:=(3,.b i 0,.b j 0,.a 0)
theorem dO(h:v.c i≠v.c j):lt (ai v) (dW i j):=TB h
inductive gI(v:em) where
 |mk (n:v.h.Nodup)
  (l:∀a∈v.h,a<v.a)
theorem gI.inj(k:gI v)(a b)(e:v.b a=v.b b):a=b:=by
 cases a with
 |d i=>cases b with|d j=>exact e|c j=>exact az (af.b.mpr e)
 |c i=>cases b with
  |d j=>exact az (af.b (k:=.c _).mpr e)
  |c j=>
   have e:=bW (af.b (k:=.c _).mpr e);refine O af.c ?_;cases p:Z v.h i with
   |some x=>rw[p]at e;cases q:Z v.h j with|some y=>rw[q]at e;exact TZ k.1 p ((show x=y from e)▸q)|none=>rw[q]at e;have e:x=v.a+(j-v.h.length):=e;exact ak (k.2 x (dX p)) (by omega)
   |none=>rw[p]at e;cases q:Z v.h j with|some y=>rw[q]at e;have e:v.a+(i-v.h.length)=y:=e;exact ak (k.2 y (dX q)) (by omega)|none=>rw[q]at e;have e:v.a+(i-v.h.length)=v.a+(j-v.h.length):=e;have h:=lT p;have c:=lT q;omega
theorem gF(k:gI v)(p:cM (ai v) a):go (dh a v h):=⟨p,AH p.1,k.inj,λz=>A,λn=>⟨_,A⟩,λz=>A,(by decide:3000<=100000)⟩
def uu(x:dk U U)(p:Nat)(h:U):List bq->Nat->Prop
 |[],_=>True
 |o::r,i=>bR x p (.d i) o (h (.d i))/\uu x p h r (i+1)
def ms(x:dk U U)(p:Nat)(h:U):List bq->List Nat->Nat->Prop
 |[],l,_=>l=[]
 |o::r,l,i=>∃a b,l=a::b/\bR x p (.c i) o (h (.c a))/\ms x p h r b (i+1)
theorem uu.c:∀{L}{i},uu x p h L i->∀j o,Z L j=B o->bR x p (.d (i+j)) o (h (.d (i+j))):=λ{L}=>by
 induction L with
 |nil=>exactλz z z h=>X h
 |cons o r b=>intro i a j d e;cases j with|zero=>exact J (R e) a.1|succ j=>have w:=b a.2 j d e;rw[gX,kr 1]at w;exact w
theorem ms.c:∀{L}{l}{i},ms x p a L l i->∀j o,Z L j=B o->∃b,Z l j=B b/\bR x p (.c (i+j)) o (a (.c b)):=λ{L}=>by
 induction L with
 |nil=>exactλd d d a=>X a
 |cons o r f=>
  intro l i w j g e;refine aq w λb k w=>?_
  refine C w.1 ?_;cases j with|zero=>exact(ag b A (J (R e) w.2.1))|succ j=>have z:=f w.2.2 j g e;rw[gX,kr 1]at z;exact z
theorem ms.h:∀{L}{l}{i},ms x p a L l i->l.length=L.length:=λ{L}=>by
 induction L with|nil=>exact O _|cons o r b=>exactλ{l i} w=>aq w λd e w=>by exact C w.1 (O (· +1) (b w.2.2))
def Mm(h:U):=∀i,i<10->h (.d i)=fA (.d i)
inductive cD(t:S U) where
 |mk (f:t.a<=97000)
  (a:∀m,t.a<=m->t.b (.c m)=.f)
  (b:Mm t.b)
theorem qW{F}{v}{t}(m:gI v)(p:cM (ai v) F)(r:cD t)(f:t.a=v.a)(l:uu (dh F v t.b) t.a t.b b 16)(h:ms (dh F v t.b) t.a t.b a v.h 0):bD (dh F v t.b) ⟨fK b a,a.length⟩ t:=
 ⟨(λd=>by
  cases d with
  |d i=>
   show bR _ _ _ (bif ar i 10 then fA _ else bif ar i 16 then .c else(Z b _).getD .c) (t.b (.d i))
   cases n:ar i 10 with
   |true=>
    have c:i<10:=bH n;refine C (r.3 i c) ?_;show bR _ _ _ ((Z cZ i).getD _) ((Z cZ i).getD _)
    cases z:Z cZ i with|some o=>exact Kk (gF m p) (show(bif M i 23 then v.i else 0)=0 by exact C (show M i 23=I from by cases w:M i 23 with|false=>rfl|true=>exact ak (bW w▸c) (by decide)) A) z|none=>exact ak (lT z) (CZ.mpr c)
   |false=>
    cases q:ar i 16 with
    |true=>exact A
    |false=>
     show bR _ _ _ ((Z b _).getD .c) _
     cases z:Z b _ with|none=>exact A|some o=>have w:=l.c _ o z;rw[Q8 (Ly λk=>by rw[show ar i 16=D from er k]at q;exact ck q)]at w;exact w
  |c i=>
   show bR _ _ _ ((Z a i).getD _) (t.b (.c _))
   cases z:Z a i with
   |some o=>exact(h.c i o z).elim λd w=>by refine C w.1 ?_;have g:=w.2;rw[ie]at g;exact g
   |none=>
    have e:=lT z;rw[←h.h]at e;cases s:Z v.h i with
    |some y=>exact ak (cE s) (hu.mpr e)
    |none=>exact⟨r.2 _ (J f (bX _ _)),A⟩),
  (λj=>by
  show(Z a _).getD _=.f
  cases z:Z a (a.length+j)with
  |none=>rfl
  |some o=>exact ak (cE z) (hu.mpr (bX _ _))),
  (λj=>by
  show af.c ((Z v.h (a.length+j)).getD (v.a+(a.length+j-v.h.length)))=.c _
  rw[←h.h,Q9,f];cases z:Z v.h _ with
  |none=>rfl
  |some o=>exact ak (cE z) (hu.mpr (bX _ _))),
  (by
  have:=r.1
  exact ap [_,_] (.a 1 (.a 0) (.b _) .b) (.c (.a 0) (.b 3000)) (.c (.a 1) (.b 100000)) A this),
  (λu _=>A)⟩
def tN(a:List af)(x:av U E):=Y x λp=>B (p.1,a.map p.2.b,p.2.a)
theorem xk(h:tN a x=B (v,o,n)):∃s,x=B (v,s)/\a.map s.b=o/\s.a=n:=aj h λp e h=>(bi p.2 (J (aW h) e) ((dd (bo h)).1) ((dd (bo h)).2))
def cN(o)(k):=Y (dy o) λp=>(ch F k p.1).getD N
inductive bE(p k)(o:bq) where
 |mk (i:∃e a,o=.b e a/\(∀q∈e,br q.1=D/\bN q.1=k)/\e.length<=p)
  (f:∀e a,o=.b e a->dG e=D)
theorem On(b:br k=D):∀{e},(∀q∈e,br q.1=D)->∃o,ch F k e=B o:=λ{e}=>by
 induction e with|nil=>exactλz=>⟨_,A⟩|cons a e i=>exactλh=>(hI a.1 k (h a bn) b).elim (λd=>⟨_,eK d.1⟩) λd=>(i λq m=>h q (bT _ m)).imp λo w=>(eK d.1).trans w
theorem hO(h:∀q∈e,br q.1=D)(b:br k=D):ch F k e=B (cN (.b e a) k):=(On b h).elim λo w=>w.trans (by
 show B o=B ((ch F k e).getD N)
 exact C w A)
inductive sj(r)(k)(o)(e:E×E) where
 |mk (p:br (Q r e.1)=D)
  (k:bN e.1=k)
  (i:cN o (Q r e.1)=(dZ e.2).map (Q r))
section
variable{x:dk U U}{p b e:Nat}{a:af}{o c:bq}{k:List (E×E)}
theorem Uv(j:bE p b o)(d:x.c.a x.m (x.b.b a)=o)(t:∀d∈k,sj x.b b o d)(n:k.Pairwise λa g=>aF a.2=D->aF g.2=D->Q x.b a.1≠Q x.b g.1):bR x p a (.b (k++gy) e) o:=
 aq j.1 λi h z=>.inr (mm k i i h h (iD A z.1 (d.trans z.1) ⟨λq m=>(z.2.1 q m).1,λq m d f=>(z.2.1 q m).2.trans (t d f).2.symm,λa r g s=>(t a r).2.trans (t g s).2.symm,λd f=>⟨(t d f).1,(hO (λq m=>(z.2.1 q m).1) (t d f).1).trans (O B (J z.1 ((t d f).3)))⟩,n,λl l l=>A,id,j.2 i h z.1⟩ z.2.2))
def gn(o:bq):=∀d e,o=.b d e->pF d
inductive jL(r)(p b)(o c)(k:List (E×E)) where
 |mk (g:bE p b c)
  (t:∀d∈k,cN c (Q r d.1)=(dZ d.2).map (Q r))
  (h:∀f,br f=D->(∀d∈k,Q r d.1≠f)->cN c f=cN o f)
  (n:gn o->gn c)
theorem Uw(v:bE d b o)(n:x.c.a x.m (x.b.b a)=o)(g:∃f∈k,bN f.1=b)(h:bR x p a (.b (k++gy) e) c):jL x.b p b o c k:=
 h.elim (λh=>by
  have:=h.1;unfold ir at this;rw[CJ]at this
  exact V this λz h=>az h) λh=>gR h λK t u l r h=>by
  have s:=(List.append_cancel_right h.1).symm;subst s;have w:=h.2.2.2.1;have i:=n.symm.trans h.2.2.1;refine C h.2.1 (C i ?_);refine aq v.1 λH z j=>?_
  exact⟨⟨(an t l A (λq m=>⟨w.1 q m,g.elim λf y=>(w.2 q m f y.1).trans y.2⟩) h.2.2.2.2),λz z q=>J (aW (O dy q)) w.8⟩,λf m=>(R ((hO w.1 (w.4 f m).1).symm.trans (w.4 f m).2)),λF g E=>(R ((hO w.1 g).symm.trans ((w.6 F g E).trans (hO (λq m=>(j.2.1 q (C (aW (O dy (j.1.symm.trans i))) m)).1) g)))),λG z z q=>J (aW (O dy q)) (w.7 (G u r A))⟩
end
noncomputable def tr(f n c:E):=[(18,f),(19,.b (.d 17)),(20,.b (.d 19)),(21,n),(22,.b (.d 21)),(23,.b (.d 22)),(24,.b (.d 23)),(25,.b (.d 24)),(26,.b (.d 25)),(27,.b (.d 26)),(28,.b (.d 27)),(29,.b (.d 28)),(30,.b (.d 29)),(31,c)]
def Al(f n c:E):bq:=.e 4 (tr f n c)
noncomputable def jr(o d a m f:E):bq:=.e 0 [(0,o),(1,d),(2,a),(3,m),(4,f),(5,G 0)]
noncomputable def aX:E:=.c D
noncomputable def aa(k:Nat)(c:Int):E:=.a (.b k c)
noncomputable def al(z:bM):E:=.d [W 2,.a z]
noncomputable def aD(v:E):E:=.d [W 1,v]
noncomputable def dq(v:E):E:=.d [W 0,v]
noncomputable def gC(l:List (E×E)):bq:=ds .c (λa r z=>.b (a::r++gy) 0) l
structure fr where
 a:List (E×E)
 b:List (E×E)
 c:List (E×E)
 g:List (E×E)
 d:List (E×E)
 e:List (E×E)
def GR(n)(T:fr)(p c):=[Al (.b (.c 0)) n .f,gC T.a,.c,p,.c,gC T.b,.c,c,gC T.c,gC T.g,gC T.d,gC T.e,.b [] 0,.g []]
noncomputable def rj:List af:=(bv 10).map .d
def Yq(m):=rj++[.d 16,.d 17,.d 19,.d 21,.d 23,.d 24,.d 25,.d 26,.d 27,.d 28,.d 29]++(bv m).map .c
def he(n a)(T:fr)(p c)(l)(L):=cZ++[Al (.b (.c 0)) n a,gC T.a,p,gC T.b,c,gC T.c,gC T.g,gC T.d,gC T.e,.b [] 0,.g l]++L
def np(c:S U->av U E)(n)(T)(p a)(L)(m):=tN (Yq m) (c ⟨fK (GR n T p a) L,L.length⟩)
def nt(F)(n)(T)(p c)(L)(m):=np (ah (gb F) 8 39 [.b (.d 16),.b (.c 1)]) n T p c L m
def eZ(b:Nat):E:=.d [.e 1000,bf (aa 12 0) (λz z=>.e 1001) b]
def HX:=hS [(10,11,0)] [dW 1 2,(1,.b 0 0,.a 4294967296,.b 0 0),(1,.b 0 4294967296,.a 4294967296,.b 0 0)]
noncomputable def qS(w:Nat):bM:=bf (.a 0) (λw z=>.b 0 (w+1)) w
noncomputable def cX(w:Nat):bM:=bf (.b 0 0) (λw z=>.a (4294967295-w)) w
def eN(c:bM)(u:E):E:=.d [W 5,G 0,.d [dq (.a c),u]]
def yz(w:Nat)(k:Bool)(a v h:E):fr:=⟨[(aa 1 0,aX),(aa 2 0,aX)],[(aa 1 0,al (.b 11 0)),(aa 2 0,v)],[(al (.b 11 0),bif k then .d [a,.a (qS w)]else .f),(al (.b 10 1),h)],
 [(al (.b 10 1),bif aF v then .f else eN (cX w) (al (.b 11 0)))],[(eN (cX w) (al (.b 11 0)),v)],[(al (.b 11 0),aa 1 0),(al (.b 10 1),bif aF v then .f else aa 2 0)]⟩
def iQ(w):=[.c,jr (W 5) (aa 2 0) (.b (.c 2)) (G 0) (.c I),.a [aD (aa 1 0),dq (.a (cX w))]]
noncomputable def mE:=[(0,D,0),(0,D,1),(0,I,0),(1,D,0),(3,D,0),(5,D,0),(7,D,0),(1,D,1),(3,D,1),(5,D,1),(7,D,1)]
def DC(w:Nat):List E:=[.d [.b (.d 26),eN (cX w) (al (.b 11 0)),.g],.d [.b (.d 27),al (.b 10 1),.g]]
theorem Mp:(mE.map λq=>nt HX (aa 10 0) (yz q.1 q.2.1 (eZ q.2.2) .f .f) .c .c (iQ q.1) 3)=
  mE.map λq=>B (.c D,he (aa 10 1) .f (yz q.1 q.2.1 (eZ q.2.2) (al (.b 10 1)) (.d [bif q.2.1 then eZ q.2.2 else al (.b 11 0),aa 0 0])) .c .c (DC q.1) (iQ q.1),17):=by kernel_rfl
def L(t:S U)(i)(k):=cN (t.b (.d i)) k
noncomputable def ax(n:Int):E:=.d [W 2,G n]
noncomputable def Am(f)(n:E):=[(18,B (.b (.c f))),(19,B (.b (.d 17))),(20,B (.b (.d 19))),(21,B n),(22,B (.b (.d 21))),(23,B (.b (.d 22))),(24,B (.b (.d 23))),(25,B (.b (.d 24))),(26,B (.b (.d 25))),(27,B (.b (.d 26))),(28,B (.b (.d 27))),(29,B (.b (.d 28))),(30,B (.b (.d 29))),(31,N)]
inductive bz(t)(f)(n) where
 |mk (r:cD t)
  (o:∃l,t.b (.d 16)=.e 4 l/\cL (Am f (G n)) l)
  (c:bE t.a 1 (t.b (.d 17)))
  (g:bE t.a 1 (t.b (.d 21)))
  (p:bE t.a 3 (t.b (.d 24)))
  (a:bE t.a 3 (t.b (.d 25)))
  (e:bE t.a 3 (t.b (.d 26)))
  (h:bE t.a 3 (t.b (.d 27)))
  (s:t.b (.d 28)=.b [] 0)
  (b:∃l,t.b (.d 29)=.a l/\l.length<=t.a)
  (d:aS 900 n)
abbrev iI:=Nat->E->Option E
inductive fs(a L:iI)(i)(k v) where
 |mk (b:L i k=B v)
  (n:∀j,br j=D->j≠k->L i j=a i j)
def cg(L a:iI)(i):=∀j,br j=D->a i j=L i j
abbrev kA(t a):=fs (L t) (L a)
abbrev mx(t a):=cg (L t) (L a)
section
variable{r:eX}{p b:Nat}{t a:S U}{i:Nat}{k:List (E×E)}
theorem Iz(h:∀e∈k,sj r b (t.b (.d i)) e)(l:∀e∈k,L a i (Q r e.1)=(dZ e.2).map (Q r))(c:(∀e∈k,Q r e.1≠j)->L a i j=L t i j):L a i j=L t i j:=by
 by_cases q:∃e∈k,Q r e.1=j
 ·exact q.elim λe z=>J z.2 ((l e z.1).trans (h e z.1).3.symm)
 ·exact c λe m z=>q (ag e m z)
theorem cA(h:∀e∈k++[(c,E.f)],sj r b (t.b (.d i)) e)(l:jL r p b (t.b (.d i)) (a.b (.d i)) (k++[(c,v)]))(g:dZ v=B v):kA t a i (Q r c) (Q r v):=
 ⟨(l.2 _ (iH _ bn)).trans (O _ g),λj d f=>Iz (λe m=>h e (mq _ m)) (λe m=>l.2 e (mq _ m)) λq=>l.3 j d λe m=>(hq.mp m).elim (q e) λm z=>f (z.symm.trans (O (λe=>Q r e.1) (fR.mp m)))⟩
theorem bQ(h:∀e∈k,sj r b (t.b (.d i)) e)(l:jL r p b (t.b (.d i)) (a.b (.d i)) k):mx t a i:=λj c=>Iz h l.2 (l.3 j c)
end
theorem bh{b:Type}{P:b->Prop}{a}(h:P a):∀e∈[a],P e:=λe m=>C (fR.mp m) h
theorem bl{c:Type}{P:c->Prop}{a b}(h:P a)(k:P b):∀e∈[a,b],P e:=λe m=>(cB.mp m).elim (λq=>C q h) (bh k e)
theorem cc{c:Type}{a}{b:c}:[b].Pairwise a:=Q5 a b
theorem ep{a b:E×E}(h:aF a.2=I):[a,b].Pairwise λa b=>aF a.2=D->aF b.2=D->Q r a.1≠Q r b.1:=lp.mpr ⟨λc m q=>ck (q.symm.trans h),cc⟩
theorem tG{a b:E×E}(h:Q r a.1≠Q r b.1):[a,b].Pairwise λa b=>aF a.2=D->aF b.2=D->Q r a.1≠Q r b.1:=lp.mpr ⟨λc m z z=>C (fR.mp m) h,cc⟩
theorem Kt(h:m<=n):ax m≠ax (n+1):=λe=>by have e:=R (O (λv=>Y (hE v) λl=>Y (Z l 1) λv=>Y (dw v) jz) e);exact jP [_,_] (.a 1 (.a 0) (.a 1) (.c (-1) (.a 0) (.c (.a 1) (.b 1)) .b)) A h e
theorem kf{h:U}:∀{a}{o},a.map h=o->∀{i}{b}{d},Z a i=B b->Z o i=B d->h b=d:=λ{a}=>by
 induction a with
 |nil=>exactλe=>λh l=>X h
 |cons j a g=>
  intro o e i b d f c;cases o with
  |nil=>exact X c
  |cons k o=>have z:=kq e;cases i with|zero=>exact J (R f) (R c▸z.1)|succ i=>exact g z.2 f c
section
variable{a:cl}{v:em}{b t:S U}{s:S U}
theorem wZ(d:bD (dh a v b.b) s t)(u:t.a<=97000)(y:∀i,i<10->s.b (.d i)=fA (.d i))(o:go (dh a v b.b)):cD t:=
 ⟨u,
  (λm h=>by
  have w:=d.1 (.c (s.a+(m-t.a)));rw[((d.3 _).trans (O af.c (Q8 h))),d.2 _]at w
  exact w.1),
  (λi g=>by
  have w:=d.1 (.d i);have q:(dh a v b.b).a.a s.b _=fA _:=y i g;rw[q]at w;have w:bR _ _ _ ((Z cZ i).getD _) (t.b (.d i)):=w;show t.b _=(Z cZ i).getD _
  cases j:Z cZ i with
  |none=>exact ak (lT j) (CZ.mpr g)
  |some k=>
   rw[j]at w;have c:=bu.mp Kj k (dX j);cases k with
   |a E=>exact w.trans (O _ (u' o E c))
   |b f r=>
    refine V c λe c=>w.elim (λw=>w.2.trans ?_) λw=>gR w λF z z z z w=>?_
    ·have x:(dh a v b.b).b.e (.d i)=0:=show(bif M i 23 then v.i else 0)=0 by refine C (show M i 23=I from by cases w:M i 23 with|false=>rfl|true=>exact ak (bW w▸g) (by decide)) ?_;rfl
     exact C x (O (λf=>bq.b f r) ((Lq λp m=>(V (bu.mp c p m) λl n=>LB (pW o p.1 l) (pW o p.2 n))).trans (Q0 f)))
    ·rw[w.1]at e;unfold ir at e;rw[CJ]at e;exact V e λz h=>az h
   |_=>exact az c)⟩
theorem gD(c:bD (dh a v b.b) s t)(e:s.b (.d i)=o):bR (dh a v b.b) t.a (.d i) o (t.b (.d i)):=J e (c.1 _)
end
theorem af.f(k:af.c i=af.c j):i=j:=bW (af.b.mpr k)
section
variable{b:cl}{v:em}{a t:S U}{s:S U}
theorem vw(f:bD (dh b v a.b) s t){c}(h:c<v.a)(g:∀d∈v.h,c≠d):t.b (.c c)=a.b (.c c):=f.5 _ λd e=>by
 cases d with
 |d=>exact az (af.b (k:=.d _).mpr e)
 |c i=>have e:=af.f e;cases q:Z v.h i with|some x=>rw[q]at e;exact g x (dX q) e.symm|none=>rw[q]at e;exact ak h (J e (hu.mpr (bX _ _)))
theorem nj(d:bD (dh b v a.b) s t)(h:s.a=v.h.length+c):t.a=v.a+c:=by have w:=d.3 0;have w:af.c ((Z v.h s.a).getD (v.a+(s.a-v.h.length)))=.c t.a:=w;rw[h,Q9]at w;cases q:Z v.h (v.h.length+c)with|some x=>exact ak (cE q) (hu.mpr (bX _ _))|none=>rw[q]at w;exact(af.f w).symm
theorem ET{x:dk U U}(d:x.b.e c=0)(h:bR x p c (.b [] 0) o):o=.b [] 0:=h.elim (λh=>h.2.trans (by exact C d A)) λh=>gR h λk z z z z h=>ak (O4.mp h.1.symm).2 (ul _ _)
theorem SF{x:dk U U}{p}(h:bR x p c (.g l) o):∃d,o=.a d/\d.length<=p:=h.elim λe h=>(ag _ h.2.1 (by rw[dr,gw];exact h.2.2))
theorem SE{x:dk U U}(e:x.c.a x.m (x.b.b c)=o)(h:∃d,o=.a d/\d.length<=p):bR x p c (.g []) o:=h.elim λl h=>(bi l (e.trans h.1) (h.1.trans (O _ (ln l).symm)) h.2)
end
inductive bb(r)(c)(o)(k:List _) where
 |mk (t:∀e∈k,sj r c o e)
  (d:k.Pairwise λa b=>aF a.2=D->aF b.2=D->Q r a.1≠Q r b.1)
inductive lx(r)(t:S U)(T:fr) where
 |mk (o:bb r 1 (t.b (.d 17)) T.a)
  (s:bb r 1 (t.b (.d 21)) T.b)
  (p:bb r 3 (t.b (.d 24)) T.c)
  (f:bb r 3 (t.b (.d 25)) T.g)
  (e:bb r 3 (t.b (.d 26)) T.d)
  (h:bb r 3 (t.b (.d 27)) T.e)
inductive yh(T:fr) where
 |mk (o:∀e∈T.a,bN e.1=1)
  (s:∀e∈T.b,bN e.1=1)
  (p:∀e∈T.c,bN e.1=3)
  (f:∀e∈T.g,bN e.1=3)
  (a:∀e∈T.d,bN e.1=3)
  (h:∀e∈T.e,bN e.1=3)
theorem bE.c{o}(h:bE p k o)(b:p<=a):bE a k o:=⟨c' h.1 λd d z=>(aK z.1 z.2.1 (aV z.2.2 b)),h.2⟩
theorem ma{x:dk U U}{p b}{a}{o}(h:bE p b o)(e:x.c.a x.m (x.b.b a)=o)(t:bb x.b b o k):bR x p a (gC k) o:=by cases k with|nil=>exact e.symm|cons c k=>exact Uv h e t.1 t.2
theorem hk{x:dk U U}(i:bE d a o)(g:x.c.a x.m (x.b.b b)=o)(l:d<=p)(j:∀e∈k,bN e.1=a)(h:bR x p b (gC k) c):jL x.b p a o c k:=by cases k with|nil=>have e:=h.trans g;exact C e ⟨i.c l,λe m=>ak m cI,λz z z=>A,id⟩|cons f k=>exact Uw i g (ag f bn (j f bn)) h
inductive rZ(x:dk U U)(a t:S U)(f)(n)(T:fr)(p c)(L)(b) where
 |mk (j:bz t f n)
  (k:t.a=a.a+b)
  (l:jL x.b t.a 1 (a.b (.d 17)) (t.b (.d 17)) T.a)
  (s:jL x.b t.a 1 (a.b (.d 21)) (t.b (.d 21)) T.b)
  (m:jL x.b t.a 3 (a.b (.d 24)) (t.b (.d 24)) T.c)
  (d:jL x.b t.a 3 (a.b (.d 25)) (t.b (.d 25)) T.g)
  (e:jL x.b t.a 3 (a.b (.d 26)) (t.b (.d 26)) T.d)
  (h:jL x.b t.a 3 (a.b (.d 27)) (t.b (.d 27)) T.e)
  (p:bR x t.a (.d 19) p (t.b (.d 19)))
  (c:bR x t.a (.d 23) c (t.b (.d 23)))
  (g:∀i o,Z L i=B o->bR x t.a (.c i) o (t.b (x.b.b (.c i))))
theorem Y1:rj.length=10:=A
theorem gQ{l m}:∀{i}{x:a},Z l i=B x->Z (l++m) i=B x:=λ{i x}=>by
 induction l generalizing i with
 |nil=>exact X
 |cons y l b=>cases i with|zero=>exact id|succ i=>exact b
theorem gA{l m:List a}:∀{i},Z (l++m) (l.length+i)=Z m i:=λ{i}=>by
 induction l with|nil=>rw[P9,ie];rfl|cons y l b=>rw[P6,CU];exact b
theorem nu(h:i<10):Z rj i=B (.d i)/\Z cZ i=B (fA (.d i)):=by
 match i,h with|0,_=>exact⟨A,A⟩|1,_=>exact⟨A,A⟩|2,_=>exact⟨A,A⟩|3,_=>exact⟨A,A⟩|4,_=>exact⟨A,A⟩|5,_=>exact⟨A,A⟩|6,_=>exact⟨A,A⟩|7,_=>exact⟨A,A⟩|8,_=>exact⟨A,A⟩|9,_=>exact⟨A,A⟩|_+10,h=>exact ak h (Nat.not_lt_of_le (ap [_] .b (.b 10) (.c (.a 0) (.b 10)) A))
theorem dC:∀{l:List a}{i},Z l i=l[i]?:=λ{l}=>by
 induction l with
 |nil=>exactλ{_}=>A
 |cons y l b=>exactλ{i}=>by cases i with|zero=>rfl|succ i=>exact b
theorem zF{m i}(h:i<m):Z ((bv m).map af.c) i=B (.c i):=by exact C dC (C jA (C (rD h) A))
theorem H3:∀{a}{k}{o}{l},cL (a++[(k,o)]) l->cL (a++[(k,N)]) l:=λ{a}=>by
 induction a with|nil=>exactλh=>c' h λv l h=>(aK h.1 ⟨h.2.1.1,λz e=>X e⟩ h.2.2)|cons b a i=>exactλh=>c' h λv l h=>(aK h.1 h.2.1 (i h.2.2))
theorem An(b:Z v.h 0=B f)(h:aF z=I)(a:Q (ai v) z=G k):(tr (.b (.c 0)) z .f).map (λp=>(p.1,ff (ai v) p.2))=Am f (G k):=by
 have e:(ai v).b (.c 0)=.c f:=by show af.c _=_;refine C b ?_;rfl
 show[(18,B (E.b _)),_,_,(21,ff _ z),_,_,_,_,_,_,_,_,_,_]=_
 refine C ((lb h).trans (O B a)) (C e ?_);rfl
theorem Hh{r}(h:jH r (tr (.b (.c 0)) z c) l):cL ((tr (.b (.c 0)) z .f).map λp=>(p.1,ff r p.2)) l:=
 H3 (a:=((tr _ z .f).take 13).map λp:Nat×E=>(p.1,ff r p.2)) (k:=31) (o:=ff r c) h
section
variable{a:cl}{v:em}{t:S U}{f:Nat}{l g:Int}{n h:E}{i e:fr}{p j o k:bq}{d b:List bq}{r:List E}{c m:Nat}{u q:E}
theorem oP{a7 a6:S U->av U E}(b6:∀W H,bD (dh a v t.b) W H->be (dh a v t.b) (Q (ai v)) (a7 W) (a6 H))(s:bz t f l)(b2:t.a<=90000)(b8:c<=3000)(c5:aS 900 g)(a0:v.a=t.a)(a5:gI v)(a4:cM (ai v) a)(a8:Z v.h 0=B f)(Y:Q (ai v) n=G l)(c1:Q (ai v) h=G g)(c3:aF n=I)(c4:aF h=I)
  (T:lx (ai v) t i) (y:yh e) (c2:bR (dh a v t.b) t.a (.d 19) p (t.b (.d 19))) (b9:bR (dh a v t.b) t.a (.d 23) j (t.b (.d 23))) (a9:ms (dh a v t.b) t.a t.b d v.h 0) (c0:b.length=m)
  (c6:np a7 n i p j d m=B (u,he h q e o k r b,d.length+c)):
  ∃H,a6 t=B (Q (ai v) u,H)/\rZ (dh a v t.b) t H f g e o k b c/\∀L,L<t.a->(∀b1∈v.h,L≠b1)->H.b (.c L)=t.b (.c L):=by
 refine(xk c6).elim λW X=>(b6 _ _ (qW (b:=GR n i p j) a5 a4 s.1 a0.symm ⟨s.2.imp λa1 K=>⟨K.1,(An a8 c3 Y).symm.subst (motive:=λa3=>cL a3 a1) K.2⟩,ma s.3 A T.1,A,c2,A,ma s.4 A T.2,A,b9,ma s.5 A T.3,ma s.6 A T.4,ma s.7 A T.5,ma s.8 A T.6,.inl ⟨A,s.9⟩,SE A s.10,trivial⟩ a9) _ _ X.1).elim λH K=>(ag H K.1 ?_)
 have w:=K.2;have x:=λ{F} {L} {P} (b4:Z _ F=B L) (b5:Z _ F=B P)=>kf X.2.1 (gQ b4) (gQ b5)
 have a2:=(nj w (X.2.2.trans (C a9.h A))).trans (O (· +c) a0);have z:=a2▸bX _ _
 have b3:∀F P,Z b F=B P->W.b _=P:=λF P V=>kf X.2.1 (gA|>.trans (zF (J c0 (cE V)))) (gA.trans V)
 exact⟨⟨⟨wZ w (by exact C a2 (ap [_,_] (.a 1 (.a 0) (.b 90000) (.a 1 (.a 1) (.b 3000) .b)) (.c (.a 0) (.a 1)) (.b 97000) rfl b2 b8)) (λF b0=>x (gQ (nu b0).1) (gQ (nu b0).2)) (gF (h:=t.b) a5 a4),(gD w (x (F:=10) A A)).imp λa1 K=>⟨K.1,(An a8 c4 c1).subst (motive:=λa3=>cL a3 a1) (Hh K.2)⟩,
   (hk s.3 A z y.1 (gD w (x (F:=11) A A))).1,(hk s.4 A z y.2 (gD w (x (F:=13) A A))).1,(hk s.5 A z y.3 (gD w (x (F:=15) A A))).1,(hk s.6 A z y.4 (gD w (x (F:=16) A A))).1,(hk s.7 A z y.5 (gD w (x (F:=17) A A))).1,(hk s.8 A z y.6 (gD w (x (F:=18) A A))).1,
   ET A (gD w (x (F:=19) A A)),SF (gD w (x (F:=20) A A)),c5⟩,a2,
  hk s.3 A z y.1 (gD w (x (F:=11) A A)),hk s.4 A z y.2 (gD w (x (F:=13) A A)),hk s.5 A z y.3 (gD w (x (F:=15) A A)),hk s.6 A z y.4 (gD w (x (F:=16) A A)),hk s.7 A z y.5 (gD w (x (F:=17) A A)),hk s.8 A z y.6 (gD w (x (F:=18) A A)),
  gD w (x (F:=12) A A),gD w (x (F:=14) A A),λF P V=>J (b3 F P V) (w.1 _)⟩,λL b7 Y=>vw w (C a0 b7) Y⟩
theorem oR(z:bz t f l)(J:t.a<=90000)(K:c<=3000)(a3:aS 900 g)(a0:v.a=t.a)(V:gI v)(P:cM (ai v) a)(S:Z v.h 0=B f)(W:Q (ai v) n=G l)(X:Q (ai v) h=G g)(a1:aF n=I)(a2:aF h=I)
  (x:lx (ai v) t i) (y:yh e) (Y:bR (dh a v t.b) t.a (.d 19) p (t.b (.d 19))) (L:bR (dh a v t.b) t.a (.d 23) j (t.b (.d 23))) (T:ms (dh a v t.b) t.a t.b d v.h 0) (U:b.length=m)
  (a4:nt a n i p j d m=B (u,he h q e o k r b,d.length+c)):
  ∃s,ah (H F) 8 39 (aw (ai v) [.b (.d 16),.b (.c 1)]) t=B (Q (ai v) u,s)/\rZ (dh a v t.b) t s f g e o k b c/\∀w,w<t.a->(∀E∈v.h,w≠E)->s.b (.c w)=t.b (.c w):=
 oP (a7:=ah (gb a) 8 39 _) (λa5 s C=>jR (gF V P) 8 39 _ a5 s C) z J K a3 a0 V P S W X a1 a2 x y Y L T U a4
end
noncomputable def tQ(o d a m f):=[(0,B o),(1,B d),(2,B a),(3,B m),(4,B f),(5,B (G 0))]
inductive bm(t:S U)(p q)(o d m a)(l) where
 |mk (s:∃f,t.b (.c p)=.e 0 f/\cL (tQ o d (.b (.c q)) m a) f)
  (b:t.b (.c q)=.a l)
theorem bm.c{p q}{o d m f}{l}(w:bm t p q o d m f l)(h:a.b (.c p)=t.b (.c p))(k:a.b (.c q)=t.b (.c q)):bm a p q o d m f l:=⟨w.1.imp λb z=>⟨h.trans z.1,z.2⟩,k.trans w.2⟩
inductive hz(a t)(f)(n d)(k p) where
 |mk (c:bz t f (n+1))
  (o:mx a t 17)
  (s:kA a t 21 (G d) (ax (n+1)))
  (p:kA a t 24 (ax (n+1)) p)
  (b:kA a t 25 (ax (n+1)) k)
  (e:kA a t 26 k (ax (n+1)))
  (h:kA a t 27 (ax (n+1)) (G d))
inductive cu(t:S U)(f p q) where
 |mk (a:f≠p)
  (b:f≠q)
  (e:p≠q)
  (l:f<t.a)
  (c:p<t.a)
  (d:q<t.a)
theorem cu.e{f p q}(a:cu t f p q){v}(h:v.h=[f,p,q])(b:v.a=t.a):gI v:=⟨by exact C h (fF.mpr ⟨λm=>(cB.mp m).elim a.1 λm=>a.2 (fR.mp m),fF.mpr ⟨λm=>a.3 (fR.mp m),fF.mpr ⟨cI,mr⟩⟩⟩),
 by exact C h (C b (T a.4 (T a.5 (T a.6 ae))))⟩
inductive jN(t a:S U) where
 |mk (p:a.b (.d 19)=t.b (.d 19))
  (c:a.b (.d 23)=t.b (.d 23))
inductive cx(L:iI)(m r) where
 |mk (a:aS 20 r)
  (h:L 27 (ax m)=B (G r))
  (s:L 21 (G r)=B (ax m))
  (o:L 17 (G r)=B aX)
inductive dL(L:iI)(r m) where
 |mk (a:aS 20 r)
  (s:L 21 (G r)=B (ax m))
  (o:L 17 (G r)=B aX)
inductive bU(L:iI)(d) where
 |mk (r:aS 20 d)
  (s:L 21 (G d)=N)
  (o:L 17 (G d)=B aX)
def fS(L)(m):=∃r,cx L m r
theorem cx.c{L}(h:cx L m r):dL L r m:=⟨h.1,h.3,h.4⟩
theorem bU.c{L}(h:bU L a)(k:dL L r m):a≠r:=λe=>X ((e▸h.2).symm.trans k.2)
inductive cP(L a)(n) where
 |mk (o:cg L a 17)
  (s:∀r v,L 21 (G r)=B v->a 21 (G r)=B v)
  (p:∀m,m<=n->a 24 (ax m)=L 24 (ax m))
  (h:∀m,m<=n->a 27 (ax m)=L 27 (ax m))
theorem cP.a{L o p}(k:cP L o n)(l:cP o p i)(q:n<=i):cP L p n:=⟨λs r=>(l.1 s r).trans (k.1 s r),λt v u=>l.2 t v (k.2 t v u),λm j=>(l.3 m (dj j q)).trans (k.3 m j),λm j=>(l.4 m (dj j q)).trans (k.4 m j)⟩
theorem cP.g{L k}(j:cP L k n)(i:cx L m r)(l:m<=n):cx k m r:=⟨i.1,(j.4 m l).trans i.2,j.2 r _ i.3,(j.1 _ A).trans i.4⟩
theorem cP.c{L j}(k:cP L j n)(i:dL L r m):dL j r m:=⟨i.1,k.2 r _ i.2,(k.1 _ A).trans i.3⟩
def cz(L:iI)(m:Int):=(L 24 (ax m)).getD (.d [ax m,G 0])
noncomputable def oz(i:Int):E:=.d [W 3,G i,.d []]
noncomputable def jd(s:Nat)(c:Int):E:=.d [W 4,.d [W s,G c],.d []]
def hM(c:Int)(u:E):E:=.d [W 5,G 0,.d [dq (G c),u]]
noncomputable def RH(w:Nat)(u:E):E:=.d [W w,G 0,.d [u]]
inductive kv(L)(k)(m) where
 |mk (d:∀i,k=oz i->cz L m=.d [.d [W 3,G i],G 0])
  (n:∀s c,k=jd s c->cz L m=.d [.d [W 4,W s],G c])
  (b:∀c u,k=hM c (ax u)->u<m/\∀a o,cz L u=.d [a,G o]->cz L m=.d [a,G (cs (o+c) 4294967296)])
  (e:∀w u,k=RH w u->w<14)
inductive bA(L)(n) where
 |mk (f:∀m,n<m->L 24 (ax m)=N/\L 25 (ax m)=N/\L 27 (ax m)=N)
  (s:∀r v,L 21 (G r)=B v->∃m,v=ax m/\(0<=m/\m<=n)/\fS L m)
  (e:∀k v,br k=D->L 26 k=B v->∃m,v=ax m/\(0<=m/\m<=n)/\fS L m/\kv L k m)
theorem fO(e:ax m=ax n):m=n:=R (O (λv=>Y (hE v) λl=>Y (Z l 1) λv=>Y (dw v) jz) e)
theorem dx(e:G m=G n):m=n:=R (O (λv=>Y (dw v) jz) e)
section
variable{i j:iI}{n m k:Int}{l p:E}
theorem fS.d(h:fS i m)(a:cg i j 17)(b:∀r v,i 21 (G r)=B v->j 21 (G r)=B v)(c:j 27 (ax m)=i 27 (ax m)):fS j m:=h.imp λr h=>⟨h.1,c.trans h.2,b r _ h.3,(a _ A).trans h.4⟩
theorem kv.d(h:kv i l m)(a:m<=n)(b:∀u,u<=n->cz j u=cz i u):kv j l m:=
 ⟨λg e=>(b m a).trans (h.1 g e),λs c e=>(b m a).trans (h.2 s c e),λc u e=>⟨(h.3 c u e).1,λf o q=>(b m a).trans ((h.3 c u e).2 f o ((b u (dj (La (h.3 c u e).1) a)).symm.trans q))⟩,h.4⟩
theorem re(a:i 21 (G k)=N)(u:fs i j 21 (G k) v)(r)(w)(h:i 21 (G r)=B w):j 21 (G r)=B w:=(u.2 _ A λe=>by rw[e,a]at h;exact X h).trans h
theorem bA.f(o:bA i n)(S:0<=n)(g:bU i k)(x:cg i j 17)(u:fs i j 21 (G k) (ax (n+1)))(r:fs i j 27 (ax (n+1)) (G k))
  (y:∀m,m≠n+1->j 24 (ax m)=i 24 (ax m)) (U:∀m,m≠n+1->j 25 (ax m)=i 25 (ax m)) (Q:∀c v,br c=D->j 26 c=B v->i 26 c=B v∨(v=ax (n+1)/\kv j c (n+1))):bA j (n+1):=by
 have E:∀m,m<=n->m≠n+1:=λm h e=>jP [_,_] (.a 1 (.a 0) (.a 1) (.c (-1) (.a 0) (.c (.a 1) (.b 1)) .b)) A h e
 have z:∀m,m<=n->fS i m->fS j m:=λm h w=>w.d x (re g.2 u) (r.2 _ A λe=>E m h (fO e))
 have s:fS j _:=⟨k,g.1,r.1,u.1,(x _ A).trans g.3⟩
 have L:∀{m},0<=m/\m<=n->0<=m/\m<=n+1:=λh=>⟨h.1,dj h.2 (ex (bt n))⟩
 have J:(0<=n+1/\n+1<=n+1):=⟨ex S,bt _⟩
 refine⟨λm h=>?_,λH v h=>?_,λc v t h=>?_⟩
 ·have q:m≠n+1:=λe=>jP [_,_] (.a 1 (.c (.c (.a 0) (.b 1)) (.b 1)) (.a 1) (.c 1 (.a 1) (.c (.a 0) (.b 1)) .b)) A h e
  have w:=o.1 m (M4 (ic n) h);exact(aK ((y m q).trans w.1) ((U m q).trans w.2.1) ((r.2 _ A λe=>q (fO e)).trans w.2.2))
 ·by_cases F:H=k
  ·rw[F,u.1]at h;exact(bi _ ((R h).symm) J s)
  ·rw[u.2 _ A λe=>F (dx e)]at h;exact(o.2 H v h).imp λm w=>(aK w.1 (L w.2.1) (z m w.2.1.2 w.2.2))
 ·exact(Q c v t h).elim (λh=>(o.3 c v t h).imp λm w=>(da w.1 (L w.2.1) (z m w.2.1.2 w.2.2.1) (w.2.2.2.d w.2.1.2 λK T=>by unfold cz;exact C (y K (E K T)) A))) λP=>(fQ _ P.1 J s P.2)
theorem bA.b(g:bA i n)(y:bU i k)(E:0<=m/\m<=n)(z:fS i m)(F:cg i j 17)(u:fs i j 21 (G k) (ax m))(q:cg i j 24)(H:cg i j 25)(J:cg i j 26)(r:cg i j 27):bA j n:=by
 have c:∀m,fS i m->fS j m:=λm w=>w.d F (re y.2 u) (r _ A)
 refine⟨λm h=>?_,λt v h=>?_,λo v e h=>?_⟩
 ·have w:=g.1 m h;exact(aK ((q _ A).trans w.1) ((H _ A).trans w.2.1) ((r _ A).trans w.2.2))
 ·by_cases s:t=k
  ·rw[s,u.1]at h;exact(bi m ((R h).symm) E (c m z))
  ·rw[u.2 _ A λx=>s (dx x)]at h;exact(g.2 t v h).imp λm w=>(aK w.1 w.2.1 (c m w.2.2))
 ·rw[J o e]at h;exact(g.3 o v e h).imp λm w=>(da w.1 w.2.1 (c m w.2.2.1) (w.2.2.2.d w.2.1.2 λL K=>by unfold cz;exact C (q _ A) A))
def cd(i)(n r)(a)(o):=∃m,dL i r m/\(0<=m/\m<=n)/\cz i m=.d [a,G o]
theorem cP.h(o:cP i j n)(q:m<=n):cz j m=cz i m:=by unfold cz;exact C (o.3 m q) A
theorem cP.e(u:cP i j n)(v:n<=q)(t:cd i n s o r):cd j q s o r:=t.imp λm t=>(aK (u.c t.1) ⟨t.2.1.1,dj t.2.1.2 v⟩ ((u.h t.2.1.2).trans t.2.2))
theorem cP.f(r:bU i k)(s:cg i j 17)(u:fs i j 21 (G k) (ax (n+1)))(v:fs i j 27 (ax (n+1)) (G k))(t:∀m,m≠n+1->j 24 (ax m)=i 24 (ax m)):cP i j n:=
 ⟨s,re r.2 u,λm o=>t m (hp (aG [_,_] (.a 1 (.a 0) (.a 1) .b) (.c (.a 0) (.b 1)) (.c (.a 1) (.b 1)) A o)),λm o=>v.2 _ A λq=>ak (fO q) (hp (aG [_,_] (.a 1 (.a 0) (.a 1) .b) (.c (.a 0) (.b 1)) (.c (.a 1) (.b 1)) A o))⟩
theorem cP.b(o:bU i k)(q:cg i j 17)(u:fs i j 21 (G k) (ax m))(r:cg i j 24)(s:cg i j 27):cP i j n:=⟨q,re o.2 u,λm z=>r _ A,λm z=>s _ A⟩
end
def ix(k:Nat):E:=bf (.d [W 3,aa 0 0,.d []]) (λz z=>.d [W 4,.d [.e 1000,aa 0 0],.d []]) k
noncomputable def tY(k:Nat):E:=bf (W 3) (λz z=>W 4) k
def tX(k:Nat):E:=bf (aa 0 0) (λz z=>.d [.e 1000,aa 0 0]) k
def tZ(k:Nat):E:=bf (.d [.d [W 3,aa 0 0],G 0]) (λz z=>.d [.d [W 4,.e 1000],aa 0 0]) k
def BM(k:Nat)(v w x h:E):fr:=⟨[]++[(aa 2 0,aX)],[]++[(aa 2 0,v)],[]++[(al (.b 10 1),w)],[]++[(al (.b 10 1),x)],[]++[(ix k,v)],[]++[(al (.b 10 1),h)]⟩
def tW(k):=[.c,jr (tY k) (aa 2 0) (.b (.c 2)) (tX k) (.c I),.a []]
def Kh:=hS [] [(1,.b 0 0,.a 4294967296,.b 0 0)]
theorem B0:([0,1].map λk=>nt Kh (aa 10 0) (BM k .f .f .f .f) .c .c (tW k) 3)=
  [0,1].map λk=>B (.c D,he (aa 10 1) .f (BM k (al (.b 10 1)) (tZ k) (ix k) (aa 2 0)) .c .c [.d [.b (.d 26),ix k,.g],.d [.b (.d 27),al (.b 10 1),.g]] (tW k),13):=by kernel_rfl
section
variable{t:S U}{n y d:Int}{s f p q:Nat}
noncomputable abbrev iy(t:S U)(y d n:Int)(s f p q:Nat):em:=⟨[y,0,d],[n],[s],[f,p,q],t.a,0⟩
theorem Jv(h:k∈[0,1])(c:bz t f n)(X:bA (L t) n)(W:t.a<=90000)(a1:n+1<=900)(l:aS 20 y)(g:bU (L t) d)(a0:s<51)
  (V:L t 26 (Q (ai (iy t y d n s f p q)) (ix k))=N) (r:bm t p q (tY k) (G d) (Q (ai (iy t y d n s f p q)) (tX k)) (.c I) []) (a:cu t f p q):
  ∃b,ah (H F) 8 39 [.b (.d 16),.b (.c p)] t=B (.c D,b)/\b.a=t.a+10/\hz t b f n d (Q (ai (iy t y d n s f p q)) (ix k)) (Q (ai (iy t y d n s f p q)) (tZ k))/\
   bm b p q (tY k) (G d) (Q (ai (iy t y d n s f p q)) (tX k)) (.c I) []/\jN t b/\∀a,a<t.a->(∀U∈[p,q],a≠U)->b.b (.c a)=t.b (.c a):=by
 have j:=X.1 (n+1) (ic n);have S:cM (ai (iy t y d n s f p q)) Kh:=gB (T l (T ⟨bt _,by decide⟩ (T g.1 ae))) (T (⟨c.11.1,dj c.11.2 (by decide)⟩) ae) (T a0 ae) ae (T (ge (by decide) (K' l.1 (Lb l.2 (by decide)))) ae);have m:∀x∈[0,1],br (Q (ai (iy t y d n s f p q)) (ix x))=D/\bN (ix x)=3:=T ⟨A,A⟩ (T ⟨A,A⟩ ae);have u:∀x∈[0,1],[(0,tY x),(1,aa 2 0),(2,.b (.c 2)),(3,tX x),(4,.c I),(5,G 0)].map (λe=>(e.1,ff (ai (iy t y d n s f p q)) e.2))=tQ (tY x) (G d) (.b (.c q)) (Q _ (tX x)) (.c I):=T A (T A ae);have w:bb (ai (iy t y d n s f p q)) 1 _ ([]++[(aa 2 0,aX)]):=⟨bh ⟨A,A,g.3⟩,cc⟩
 have C:bb (ai (iy t y d n s f p q)) 1 _ ([]++[(aa 2 0,.f)]):=⟨bh ⟨A,A,g.2⟩,cc⟩
 have E:bb (ai (iy t y d n s f p q)) 3 _ ([]++[(al (.b 10 1),.f)]):=⟨bh ⟨A,A,j.1⟩,cc⟩
 have J:bb (ai (iy t y d n s f p q)) 3 _ ([]++[(al (.b 10 1),.f)]):=⟨bh ⟨A,A,j.2.1⟩,cc⟩
 have K:bb _ 3 _ ([]++[(ix k,.f)]):=⟨bh ⟨(m k h).1,(m k h).2,V⟩,cc⟩
 have P:bb (ai (iy t y d n s f p q)) 3 _ ([]++[(al (.b 10 1),.f)]):=⟨bh ⟨A,A,j.2.2⟩,cc⟩
 have v:∀x∈[0,1],dZ (tZ x)=B (tZ x)/\dZ (ix x)=B (ix x):=T ⟨A,A⟩ (T ⟨A,A⟩ ae);exact(oR (p:=.c) (j:=.c) (d:=tW k) (m:=3) (c:=10) c W (by decide) ⟨ex c.11.1,a1⟩ A (a.e A A) S A A A A A ⟨w,C,E,J,K,P⟩ (e:=BM k _ (tZ k) (ix k) _) ⟨bh A,bh A,bh A,bh A,bh (m k h).2,bh A⟩
   A A (an f _ A A (an p _ A (r.1.imp λo z=>⟨z.1,(u k h).symm.subst (motive:=λi=>cL i o) z.2⟩) (an q [] A r.2 A))) A (eS.mp B0 _ h)).elim λb z=>(nI b z.1 z.2.1.2 ⟨z.2.1.1,bQ w.1 z.2.1.3,cA C.1 z.2.1.4 A,cA E.1 z.2.1.5 (v k h).1,cA J.1 z.2.1.6 (v k h).2,cA K.1 z.2.1.7 A,cA P.1 z.2.1.8 A⟩ ⟨(z.2.1.11 1 _ A).imp λo z=>⟨z.1,(u k h).subst (motive:=λi=>cL i o) z.2⟩,z.2.1.11 2 _ A⟩ ⟨z.2.1.9,z.2.1.10⟩ (λa Y Z=>if e:a=f then e▸z.2.1.11 0 _ A else z.2.2 a Y (T e Z)))
end
inductive nY(a t)(f)(n d m) where
 |mk (c:bz t f n)
  (o:mx a t 17)
  (s:kA a t 21 (G d) (ax m))
  (p:mx a t 24)
  (b:mx a t 25)
  (e:mx a t 26)
  (h:mx a t 27)
def Ao(v:E):fr:=⟨[(aa 3 0,aX),(aa 2 0,aX)],[(aa 3 0,al (.b 13 0))]++[(aa 2 0,v)],[],[],[(ix 1,al (.b 13 0))],[(al (.b 13 0),aa 3 0)]⟩
def Hn:=hS [] [dW 2 3,(1,.b 0 0,.a 4294967296,.b 0 0)]
def yW(k:Nat):=jr (W 6) (aa 2 0) (.b (.c k)) (G 0) (.c I)
def TM:=[.c,yW 6,.a [],.a [],.a [],.f,.a [aD (aa 3 0)]]
theorem TN:nt Hn (aa 10 0) (Ao .f) .c .c (tW 1) 7=B (.c D,he (aa 10 0) aX (Ao (al (.b 13 0))) .c .c [] TM,11):=by kernel_rfl
def yB(w:Nat)(v:E):fr:=⟨[(aa 1 0,aX),(aa 3 0,aX),(aa 2 0,aX)],[(aa 1 0,al (.b 11 0)),(aa 3 0,al (.b 13 0))]++[(aa 2 0,v)],[],[],[(eN (cX w) (al (.b 11 0)),al (.b 13 0))],[(al (.b 11 0),aa 1 0),(al (.b 13 0),aa 3 0)]⟩
def DE:=hS [] [dW 1 2,dW 1 3,dW 2 3,dW 11 13]
def Ms(w):=[.c,yW 10,.a [aD (aa 1 0),dq (.a (cX w))],.a [al (.b 11 0),dq (.a (cX w))],.a [aD (aa 1 0),dq (.a (cX w))],.f,.f,.f,.f,.f,.a [aD (aa 3 0)]]
theorem Mt:([0,1,3,5,7].map λw=>nt DE (aa 10 0) (yB w .f) .c .c (iQ w) 11)=[0,1,3,5,7].map λw=>B (.c D,he (aa 10 0) aX (yB w (al (.b 13 0))) .c .c [] (Ms w),15):=by kernel_rfl
def yA(w:Nat)(v:E):fr:=⟨[(aa 1 0,aX),(aa 4 0,aX),(aa 3 0,aX),(aa 2 0,aX)],[(aa 1 0,al (.b 11 0)),(aa 4 0,al (.b 11 0)),(aa 3 0,al (.b 13 0))]++[(aa 2 0,v)],[],[],[(eN (cX w) (al (.b 11 0)),al (.b 13 0))],[(al (.b 11 0),aa 4 0),(al (.b 13 0),aa 3 0)]⟩
def DD:=hS [] [dW 1 2,dW 1 3,dW 1 4,dW 2 3,dW 2 4,dW 3 4,dW 11 13]
def Mq(w):=[.c,yW 12,.a [aD (aa 1 0),dq (.a (cX w))],.a [al (.b 11 0),dq (.a (cX w))],.a [aD (aa 4 0),dq (.a (cX w))],.f,.f,.f,.f,.f,.f,.f,.a [aD (aa 3 0)]]
theorem Mr:([0,1,3,5,7].map λw=>nt DD (aa 10 0) (yA w .f) .c .c (iQ w) 13)=[0,1,3,5,7].map λw=>B (.c D,he (aa 10 0) aX (yA w (al (.b 13 0))) .c .c [] (Mq w),17):=by kernel_rfl
def zu(a b k h c w:E):fr:=⟨[(aa 1 0,aX),(aa 2 0,aX)],[(aa 1 0,a),(aa 2 0,b)],[(al (.b 10 1),.f)]++[(al (.b 10 2),w)],[]++[(al (.b 10 2),k)],[]++[(eN (.b 0 0) (al (.b 10 1)),b)],[(al (.b 10 1),h),(al (.b 10 2),c)]⟩
def Fh:=hS [] [dW 1 2,(1,.b 0 0,.a 4294967296,.b 0 0)]
def PV:List E:=[.d [.b (.d 27),al (.b 10 1),.g],.d [.b (.d 26),eN (.b 0 0) (al (.b 10 1)),.g],.d [.b (.d 27),al (.b 10 2),.g]]
theorem PW:nt Fh (aa 10 0) (zu .f .f .f .f .f .f) .c .c (iQ 0) 3=B (.c D,he (aa 10 2) .f (zu (al (.b 10 1)) (al (.b 10 2)) (eN (.b 0 0) (al (.b 10 1))) (aa 1 0) (aa 2 0) (.d [al (.b 10 1),aa 0 0])) .c .c PV (iQ 0),21):=by kernel_rfl
def yE(w:Nat)(k:Bool)(a v h:E):fr:=⟨[(aa 1 0,aX),(aa 4 0,aX),(aa 2 0,aX)],[(aa 1 0,al (.b 11 0)),(aa 4 0,al (.b 11 0)),(aa 2 0,v)],[(al (.b 11 0),bif k then .d [a,.a (qS w)]else .f),(al (.b 10 1),h)],
 [(al (.b 10 1),bif aF v then .f else eN (cX w) (al (.b 11 0)))],[(eN (cX w) (al (.b 11 0)),v)],[(al (.b 11 0),aa 4 0),(al (.b 10 1),bif aF v then .f else aa 2 0)]⟩
def DH:=hS [(10,11,0)] [dW 1 2,dW 1 4,dW 2 4,(1,.b 0 0,.a 4294967296,.b 0 0),(1,.b 0 4294967296,.a 4294967296,.b 0 0)]
def Mz(w):=[.c,jr (W 5) (aa 2 0) (.b (.c 4)) (G 0) (.c I),.a [aD (aa 1 0),dq (.a (cX w))],.a [al (.b 11 0),dq (.a (cX w))],.a [aD (aa 4 0),dq (.a (cX w))]]
theorem MA:(mE.map λq=>nt DH (aa 10 0) (yE q.1 q.2.1 (eZ q.2.2) .f .f) .c .c (iQ q.1) 5)=
  mE.map λq=>B (.c D,he (aa 10 1) aX (yE q.1 q.2.1 (eZ q.2.2) (al (.b 10 1)) (.d [bif q.2.1 then eZ q.2.2 else al (.b 11 0),aa 0 0])) .c .c (DC q.1) (Mz q.1),19):=by kernel_rfl
theorem aS.c(h:aS 900 x):aS 1000 x:=⟨h.1,dj h.2 (by decide)⟩
theorem aS.d(h:aS 1000 n)(k:0<=m/\m<=n):aS 1000 m:=⟨k.1,dj k.2 h.2⟩
theorem aS.b(h:0<=m):aS m 0:=⟨bt _,h⟩
theorem lz{d:Type}{P:d->Prop}{a b c}(h:P a)(k:P b)(l:P c):∀e∈[a,b,c],P e:=T h (bl k l)
theorem DF{f:Type}{P:f->Prop}{a b c d}(h:P a)(k:P b)(l:P c)(m:P d):∀e∈[a,b,c,d],P e:=T h (lz k l m)
theorem lV{a b c:E×E}(h:aF a.2=I)(k:aF b.2=I):[a,b,c].Pairwise λa b=>aF a.2=D->aF b.2=D->Q r a.1≠Q r b.1:=lp.mpr ⟨λc m q=>ck (q.symm.trans h),ep k⟩
theorem Ij{a b c d:E×E}(h:aF a.2=I)(k:aF b.2=I)(l:aF c.2=I):[a,b,c,d].Pairwise λa b=>aF a.2=D->aF b.2=D->Q r a.1≠Q r b.1:=lp.mpr ⟨λc m q=>ck (q.symm.trans h),lV k l⟩
theorem cx.b{L}(d:dL L r m)(H:dL L h a)(f:m≠a):r≠h:=λe=>f (fO (R ((e▸d.2).symm.trans H.2)))
theorem Kq{r}{d t:S U}(l:jL r p c (d.b (.d i)) (t.b (.d i)) [(k,v),(b,a)])(h:dZ v=B v)(f:dZ a=B a):
  L t i (Q r k)=B (Q r v)/\L t i (Q r b)=B (Q r a)/\∀j,br j=D->j≠Q r k->j≠Q r b->L t i j=L d i j:=
 (aK ((l.2 _ bn).trans (O _ h)) ((l.2 _ (bT _ bn)).trans (O _ f)) (λj g n m=>l.3 j g (bl (λe=>n e.symm) λe=>m e.symm)))
theorem pa(h:aS 20 y):cs y 4294967296=y:=K' h.1 (Lb h.2 (by decide))
theorem Cb(h:aS 20 y):cs (y+4294967296) 4294967296=y:=(Int.add_fmod_right y _).trans (pa h)
section
variable{t:S U}{n y d h m a r e b:Int}{c:List Nat}{s f p q w:Nat}
noncomputable abbrev oY(t:S U)(y d h n m:Int)(s f p q:Nat):em:=⟨[y,0,d,h],[n,0,0,m],[s],[f,p,q],t.a,0⟩
theorem YQ(k:bz t f n)(Z:bA (L t) n)(S:t.a<=90000)(o:aS 20 y)(Y:s<51)(j:bU (L t) d)(Q:L t 26 (jd s y)=B (ax m))(X:0<=m/\m<=n)(K:cx (L t) m h)
  (l:bm t p q (W 4) (G d) (.d [W s,G y]) (.c I) []) (g:cu t f p q):
  ∃i,ah (H F) 8 39 [.b (.d 16),.b (.c p)] t=B (.c D,i)/\i.a=t.a+8/\nY t i f n d m/\bm i p (t.a+3) (W 6) (G d) (G 0) (.c I) [aD (G h)]/\jN t i/\∀g,g<t.a->(∀b∈[p,q],g≠b)->i.b (.c g)=t.b (.c g):=by
 have P:cM (ai (oY t y d h n m s f p q)) Hn:=gB (T o (T (aS.b (by decide)) (T j.1 (T K.1 ae)))) (T k.11.c (T (aS.b (by decide)) (T (aS.b (by decide)) (T (k.11.c.d X) ae)))) (T Y ae) ae (T (dO (j.c K.c)) (T (ge (by decide) (pa o)) ae));have u:bb (ai (oY t y d h n m s f p q)) 1 _ ([(aa 3 0,aX),(aa 2 0,aX)]):=⟨bl ⟨A,A,K.4⟩ ⟨A,A,j.3⟩,ep A⟩
 have v:bb (ai (oY t y d h n m s f p q)) 1 _ ([(aa 3 0,al (.b 13 0))]++[(aa 2 0,.f)]):=⟨bl ⟨A,A,K.3⟩ ⟨A,A,j.2⟩,ep A⟩
 have x:bb (ai (oY t y d h n m s f p q)) 3 (t.b (.d 24)) ([]):=⟨ae,.nil⟩
 have C:bb (ai (oY t y d h n m s f p q)) 3 (t.b (.d 25)) ([]):=⟨ae,.nil⟩
 have E:bb (ai (oY t y d h n m s f p q)) 3 _ ([(ix 1,al (.b 13 0))]):=⟨bh ⟨A,A,Q⟩,cc⟩
 have J:bb (ai (oY t y d h n m s f p q)) 3 _ ([(al (.b 13 0),aa 3 0)]):=⟨bh ⟨A,A,K.2⟩,cc⟩
 exact(oR (p:=.c) (j:=.c) (d:=tW 1) (m:=7) (c:=8) k S (by decide) k.11 A (g.e A A) P A A A A A ⟨u,v,x,C,E,J⟩ (e:=Ao _) ⟨bl A A,bl A A,ae,ae,bh A,bh A⟩
   A A (an f _ A A (an p _ A l.1 (an q [] A l.2 A))) A TN).elim λi z=>(nI i z.1 z.2.1.2 ⟨z.2.1.1,bQ u.1 z.2.1.3,cA v.1 z.2.1.4 A,bQ x.1 z.2.1.5,bQ C.1 z.2.1.6,bQ E.1 z.2.1.7,bQ J.1 z.2.1.8⟩ ⟨z.2.1.11 1 _ A,z.2.1.11 6 _ A⟩ ⟨z.2.1.9,z.2.1.10⟩ (λg U V=>if e:g=f then e▸z.2.1.11 0 _ A else z.2.2 g U (T e V)))
noncomputable abbrev ny(t:S U)(y r d h n m a:Int)(f p q:Nat):em:=⟨[y,r,d,h],[n,m,0,a],[],[f,p,q],t.a,0⟩
theorem YM(a1:w∈[0,1,3,5,7])(l:bz t f n)(a3:bA (L t) n)(V:t.a<=90000)(a2:aS 20 y)(k:bU (L t) d)(j:cx (L t) m r)(Z:0<=m/\m<=n)(K:cx (L t) a h)(a0:0<=a/\a<=n)(u:m≠a)(U:L t 26 (Q (ai (ny t y r d h n m a f p q)) (eN (cX w) (al (.b 11 0))))=B (ax a))
  (o:bm t p q (W 5) (G d) (G 0) (.c I) (aw (ai (ny t y r d h n m a f p q)) [aD (aa 1 0),dq (.a (cX w))])) (g:cu t f p q):
  ∃i,ah (H F) 8 39 [.b (.d 16),.b (.c p)] t=B (.c D,i)/\i.a=t.a+12/\nY t i f n d a/\bm i p (t.a+7) (W 6) (G d) (G 0) (.c I) [aD (G h)]/\jN t i/\∀g,g<t.a->(∀b∈[p,q],g≠b)->i.b (.c g)=t.b (.c g):=by
 have S:cM (ai (ny t y r d h n m a f p q)) DE:=gB (T a2 (T j.1 (T k.1 (T K.1 ae)))) (T l.11.c (T (l.11.c.d Z) (T (aS.b (by decide)) (T (l.11.c.d a0) ae)))) ae ae (T (dO ((k.c j.c).symm)) (T (dO (cx.b j.c K.c u)) (T (dO (k.c K.c)) (T (dO u) ae))));have v:bb (ai (ny t y r d h n m a f p q)) 1 _ ([(aa 1 0,aX),(aa 3 0,aX),(aa 2 0,aX)]):=⟨lz ⟨A,A,j.4⟩ ⟨A,A,K.4⟩ ⟨A,A,k.3⟩,lV A A⟩
 have x:bb (ai (ny t y r d h n m a f p q)) 1 _ ([(aa 1 0,al (.b 11 0)),(aa 3 0,al (.b 13 0))]++[(aa 2 0,.f)]):=⟨lz ⟨A,A,j.3⟩ ⟨A,A,K.3⟩ ⟨A,A,k.2⟩,lV A A⟩
 have C:bb (ai (ny t y r d h n m a f p q)) 3 (t.b (.d 24)) ([]):=⟨ae,.nil⟩
 have E:bb (ai (ny t y r d h n m a f p q)) 3 (t.b (.d 25)) ([]):=⟨ae,.nil⟩
 have J:bb _ 3 _ ([(eN _ _,al (.b 13 0))]):=⟨bh ⟨A,A,U⟩,cc⟩
 have P:bb (ai (ny t y r d h n m a f p q)) 3 _ ([(al (.b 11 0),aa 1 0),(al (.b 13 0),aa 3 0)]):=⟨bl ⟨A,A,j.2⟩ ⟨A,A,K.2⟩,ep A⟩
 exact(oR (p:=.c) (j:=.c) (d:=iQ w) (m:=11) (c:=12) l V (by decide) l.11 A (g.e A A) S A A A A A ⟨v,x,C,E,J,P⟩ (e:=yB w _) ⟨T A (bl A A),T A (bl A A),ae,ae,bh A,bl A A⟩
   A A (an f _ A A (an p _ A o.1 (an q [] A o.2 A))) A (eS.mp Mt w a1)).elim λi z=>(nI i z.1 z.2.1.2 ⟨z.2.1.1,bQ v.1 z.2.1.3,cA x.1 z.2.1.4 A,bQ C.1 z.2.1.5,bQ E.1 z.2.1.6,bQ J.1 z.2.1.7,bQ P.1 z.2.1.8⟩ ⟨z.2.1.11 1 _ A,z.2.1.11 10 _ A⟩ ⟨z.2.1.9,z.2.1.10⟩ (λg X Y=>if e:g=f then e▸z.2.1.11 0 _ A else z.2.2 g X (T e Y)))
noncomputable abbrev nx(t:S U)(y r d h e n m a:Int)(f p q:Nat):em:=⟨[y,r,d,h,e],[n,m,0,a],[],[f,p,q],t.a,0⟩
theorem YL(a3:w∈[0,1,3,5,7])(k:bz t f n)(a5:bA (L t) n)(Y:t.a<=90000)(a4:aS 20 y)(j:bU (L t) d)(l:dL (L t) r m)(E:cx (L t) m e)(X:r≠e)(a1:0<=m/\m<=n)(K:cx (L t) a h)(a2:0<=a/\a<=n)(o:m≠a)(V:L t 26 (Q (ai (nx t y r d h e n m a f p q)) (eN (cX w) (al (.b 11 0))))=B (ax a))
  (u:bm t p q (W 5) (G d) (G 0) (.c I) (aw (ai (nx t y r d h e n m a f p q)) [aD (aa 1 0),dq (.a (cX w))])) (g:cu t f p q):
  ∃i,ah (H F) 8 39 [.b (.d 16),.b (.c p)] t=B (.c D,i)/\i.a=t.a+14/\nY t i f n d a/\bm i p (t.a+9) (W 6) (G d) (G 0) (.c I) [aD (G h)]/\jN t i/\∀g,g<t.a->(∀b∈[p,q],g≠b)->i.b (.c g)=t.b (.c g):=by
 have U:cM (ai (nx t y r d h e n m a f p q)) DD:=gB (T a4 (T l.1 (T j.1 (T K.1 (T E.1 ae))))) (T k.11.c (T (k.11.c.d a1) (T (aS.b (by decide)) (T (k.11.c.d a2) ae)))) ae ae (T (dO ((j.c l).symm)) (T (dO (cx.b l K.c o)) (T (dO X) (T (dO (j.c K.c)) (T (dO (j.c E.c)) (T (dO ((cx.b E.c K.c o).symm)) (T (dO o) ae)))))));have v:bb (ai (nx t y r d h e n m a f p q)) 1 _ ([(aa 1 0,aX),(aa 4 0,aX),(aa 3 0,aX),(aa 2 0,aX)]):=⟨DF ⟨A,A,l.3⟩ ⟨A,A,E.4⟩ ⟨A,A,K.4⟩ ⟨A,A,j.3⟩,Ij A A A⟩
 have x:bb (ai (nx t y r d h e n m a f p q)) 1 _ ([(aa 1 0,al (.b 11 0)),(aa 4 0,al (.b 11 0)),(aa 3 0,al (.b 13 0))]++[(aa 2 0,.f)]):=⟨DF ⟨A,A,l.2⟩ ⟨A,A,E.3⟩ ⟨A,A,K.3⟩ ⟨A,A,j.2⟩,Ij A A A⟩
 have C:bb (ai (nx t y r d h e n m a f p q)) 3 (t.b (.d 24)) ([]):=⟨ae,.nil⟩
 have J:bb (ai (nx t y r d h e n m a f p q)) 3 (t.b (.d 25)) ([]):=⟨ae,.nil⟩
 have P:bb _ 3 _ ([(eN _ _,al (.b 13 0))]):=⟨bh ⟨A,A,V⟩,cc⟩
 have S:bb (ai (nx t y r d h e n m a f p q)) 3 _ ([(al (.b 11 0),aa 4 0),(al (.b 13 0),aa 3 0)]):=⟨bl ⟨A,A,E.2⟩ ⟨A,A,K.2⟩,ep A⟩
 exact(oR (p:=.c) (j:=.c) (d:=iQ w) (m:=13) (c:=14) k Y (by decide) k.11 A (g.e A A) U A A A A A ⟨v,x,C,J,P,S⟩ (e:=yA w _) ⟨T A (T A (bl A A)),T A (T A (bl A A)),ae,ae,bh A,bl A A⟩
   A A (an f _ A A (an p _ A u.1 (an q [] A u.2 A))) A (eS.mp Mr w a3)).elim λi z=>(nI i z.1 z.2.1.2 ⟨z.2.1.1,bQ v.1 z.2.1.3,cA x.1 z.2.1.4 A,bQ C.1 z.2.1.5,bQ J.1 z.2.1.6,bQ P.1 z.2.1.7,bQ S.1 z.2.1.8⟩ ⟨z.2.1.11 1 _ A,z.2.1.11 12 _ A⟩ ⟨z.2.1.9,z.2.1.10⟩ (λg Z a0=>if e:g=f then e▸z.2.1.11 0 _ A else z.2.2 g Z (T e a0)))
noncomputable abbrev oX(t:S U)(y r d n:Int)(f p q:Nat):em:=⟨[y,r,d],[n],[],[f,p,q],t.a,0⟩
theorem YP(l:bz t f n)(C:bA (L t) n)(X:t.a<=90000)(a0:n+2<=900)(E:aS 20 y)(o:bU (L t) r)(k:bU (L t) d)(J:r≠d)(V:L t 26 (hM y (ax (n+1)))=N)(v:bm t p q (W 5) (G d) (G 0) (.c I) [aD (G r),dq (G y)])(i:cu t f p q):
  ∃g,ah (H F) 8 39 [.b (.d 16),.b (.c p)] t=B (.c D,g)/\g.a=t.a+18/\bz g f (n+2)/\mx t g 17/\(L g 21 (G r)=B (ax (n+1))/\L g 21 (G d)=B (ax (n+2))/\∀j,br j=D->j≠G r->j≠G d->L g 21 j=L t 21 j)/\kA t g 24 (ax (n+2)) (.d [ax (n+1),G y])/\kA t g 25 (ax (n+2)) (hM y (ax (n+1)))/\kA t g 26 (hM y (ax (n+1))) (ax (n+2))/\(L g 27 (ax (n+1))=B (G r)/\L g 27 (ax (n+2))=B (G d)/\∀j,br j=D->j≠ax (n+1)->j≠ax (n+2)->L g 27 j=L t 27 j)/\bm g p q (W 5) (G d) (G 0) (.c I) [aD (G r),dq (G y)]/\jN t g/\∀i,i<t.a->(∀b∈[p,q],i≠b)->g.b (.c i)=t.b (.c i):=by
 have x:=C.1 _ (ic n);have u:=C.1 (n+2) (aG [_] .b (.c (.a 0) (.b 1)) (.c (.a 0) (.b 2)) A);have U:cM (ai (oX t y r d n f p q)) Fh:=gB (T E (T o.1 (T k.1 ae))) (T l.11.c ae) ae ae (T (dO J) (T (ge (by decide) (pa E)) ae));have K:bb (ai (oX t y r d n f p q)) 1 _ ([(aa 1 0,aX),(aa 2 0,aX)]):=⟨bl ⟨A,A,o.3⟩ ⟨A,A,k.3⟩,ep A⟩
 have a1:bb (ai (oX t y r d n f p q)) 1 _ ([(aa 1 0,.f),(aa 2 0,.f)]):=⟨bl ⟨A,A,o.2⟩ ⟨A,A,k.2⟩,tG λe=>J (dx e)⟩
 have P:bb (ai (oX t y r d n f p q)) 3 _ ([(al (.b 10 1),.f)]++[(al (.b 10 2),.f)]):=⟨bl ⟨A,A,x.1⟩ ⟨A,A,u.1⟩,tG (λe=>ak (fO (m:=n+1) (n:=n+2) e) (hp (aG [_] .b (.c (.c (.a 0) (.b 1)) (.b 1)) (.c (.a 0) (.b 2)) A)))⟩
 have Q:bb (ai (oX t y r d n f p q)) 3 _ ([]++[(al (.b 10 2),.f)]):=⟨bh ⟨A,A,u.2.1⟩,cc⟩
 have S:bb (ai (oX t y r d n f p q)) 3 _ ([]++[(eN (.b 0 0) (al (.b 10 1)),.f)]):=⟨bh ⟨A,A,V⟩,cc⟩
 have a2:bb (ai (oX t y r d n f p q)) 3 _ ([(al (.b 10 1),.f),(al (.b 10 2),.f)]):=⟨bl ⟨A,A,x.2.2⟩ ⟨A,A,u.2.2⟩,tG (λe=>ak (fO (m:=n+1) (n:=n+2) e) (hp (aG [_] .b (.c (.c (.a 0) (.b 1)) (.b 1)) (.c (.a 0) (.b 2)) A)))⟩
 exact(oR (p:=.c) (j:=.c) (d:=iQ 0) (m:=3) (c:=18) l X (by decide) ⟨xS l.11.1 (by decide),a0⟩ A (i.e A A) U A A A A A ⟨K,a1,P,Q,S,a2⟩ (e:=zu _ _ _ _ _ _) ⟨bl A A,bl A A,bl A A,bh A,bh A,bl A A⟩
   A A (an f _ A A (an p _ A v.1 (an q [] A v.2 A))) A PW).elim λg z=>⟨g,z.1,z.2.1.2,
  z.2.1.1,bQ K.1 z.2.1.3,Kq z.2.1.4 A A,cA P.1 z.2.1.5 A,cA Q.1 z.2.1.6 A,cA S.1 z.2.1.7 A,Kq z.2.1.8 A A,⟨z.2.1.11 1 _ A,z.2.1.11 2 _ A⟩,⟨z.2.1.9,z.2.1.10⟩,λi Y Z=>if e:i=f then e▸z.2.1.11 0 _ A else z.2.2 i Y (T e Z)⟩
noncomputable abbrev iz(t:S U)(y r d e n m b:Int)(c:List Nat)(f p q:Nat):em:=⟨[y,r,d,0,e],[n,m,b],c,[f,p,q],t.a,0⟩
theorem YN(l:bz t f n)(a4:bA (L t) n)(a3:t.a<=90000)(a8:n+1<=900){u:Nat}(a6:(w,k,u)∈mE)(J:aS 20 y)(x:aS 1000 b)(a7:∀b0∈c,b0<51)(j:bU (L t) d)(o:dL (L t) r m)(E:cx (L t) m e)(a2:r≠e)(C:0<=m/\m<=n)
  (a9:L t 24 (ax m)=(dZ (bif k then .d [eZ u,.a (qS w)]else .f)).map (Q (ai (iz t y r d e n m b c f p q)))) (a1:L t 26 (Q (ai (iz t y r d e n m b c f p q)) (eN (cX w) (al (.b 11 0))))=N)
  (K:bm t p q (W 5) (G d) (G 0) (.c I) (aw (ai (iz t y r d e n m b c f p q)) [aD (aa 1 0),dq (.a (cX w))])) (g:cu t f p q):
  ∃i,ah (H F) 8 39 [.b (.d 16),.b (.c p)] t=B (.c D,i)/\i.a=t.a+16/\hz t i f n d (Q (ai (iz t y r d e n m b c f p q)) (eN (cX w) (al (.b 11 0)))) (Q (ai (iz t y r d e n m b c f p q)) (.d [bif k then eZ u else al (.b 11 0),aa 0 0]))/\bm i p (t.a+1) (W 5) (G d) (G 0) (.c I) (aw (ai (iz t y r d e n m b c f p q)) [aD (aa 4 0),dq (.a (cX w))])/\jN t i/\∀g,g<t.a->(∀b∈[p,q],g≠b)->i.b (.c g)=t.b (.c g):=by
 have v:=a4.1 (n+1) (ic n);have P:=eS.mp MA _ a6;dsimp only at P;have a0:cM (ai (iz t y r d e n m b c f p q)) DH:=gB (T J (T o.1 (T j.1 (T (aS.b (by decide)) (T E.1 ae))))) (T l.11.c (T (l.11.c.d C) (T x ae))) a7 (T (show(0:Int)<=n-m from CH.mpr C.2) ae) (T (dO (j.c o).symm) (T (dO a2) (T (dO (j.c E.c)) (T (ge (by decide) (pa J)) (T (wr (by decide) (Cb J)) ae)))));have S:bb (ai (iz t y r d e n m b c f p q)) 1 _ ([(aa 1 0,aX),(aa 4 0,aX),(aa 2 0,aX)]):=⟨lz ⟨A,A,o.3⟩ ⟨A,A,E.4⟩ ⟨A,A,j.3⟩,lV A A⟩
 have U:bb (ai (iz t y r d e n m b c f p q)) 1 _ ([(aa 1 0,al (.b 11 0)),(aa 4 0,al (.b 11 0))]++[(aa 2 0,.f)]):=⟨lz ⟨A,A,o.2⟩ ⟨A,A,E.3⟩ ⟨A,A,j.2⟩,lV A A⟩
 have V:bb (ai (iz t y r d e n m b c f p q)) 3 (t.b (.d 24)) ([(al (.b 11 0),bif k then .d _ else .f)]++[(al (.b 10 1),.f)]):=⟨bl ⟨A,A,a9⟩ ⟨A,A,v.1⟩,tG (Kt C.2)⟩
 have X:bb (ai (iz t y r d e n m b c f p q)) 3 _ ([]++[(al (.b 10 1),.f)]):=⟨bh ⟨A,A,v.2.1⟩,cc⟩
 have Y:bb _ 3 _ ([]++[((eN (cX w) _),.f)]):=⟨bh ⟨A,A,a1⟩,cc⟩
 have Z:bb (ai (iz t y r d e n m b c f p q)) 3 _ ([(al (.b 11 0),aa 4 0)]++[(al (.b 10 1),.f)]):=⟨bl ⟨A,A,E.2⟩ ⟨A,A,v.2.2⟩,ep A⟩
 exact(oR (p:=.c) (j:=.c) (d:=iQ w) (m:=5) (c:=16) l a3 (by decide) ⟨ex l.11.1,a8⟩ A (g.e A A) a0 A A A A A ⟨S,U,V,X,Y,Z⟩ (e:=yE w k (eZ u) _ _) ⟨T A (bl A A),T A (bl A A),bl A A,bh A,bh A,bl A A⟩
   A A (an f _ A A (an p _ A K.1 (an q [] A K.2 A))) A P).elim λi z=>(nI i z.1 z.2.1.2 ⟨z.2.1.1,bQ S.1 z.2.1.3,cA U.1 z.2.1.4 A,cA V.1 z.2.1.5 A,cA X.1 z.2.1.6 A,cA Y.1 z.2.1.7 A,cA Z.1 z.2.1.8 A⟩ ⟨z.2.1.11 1 _ A,z.2.1.11 4 _ A⟩ ⟨z.2.1.9,z.2.1.10⟩ (λg a5 x=>if e:g=f then e▸z.2.1.11 0 _ A else z.2.2 g a5 (T e x)))
noncomputable abbrev iA(t:S U)(y r d n m b:Int)(c:List Nat)(f p q:Nat):em:=⟨[y,r,d],[n,m,b],c,[f,p,q],t.a,0⟩
theorem YO(u:bz t f n)(a2:bA (L t) n)(a1:t.a<=90000)(a6:n+1<=900)(a4:(w,k,g)∈mE)(E:aS 20 y)(x:aS 1000 b)(a5:∀a8∈c,a8<51)(o:bU (L t) d)(l:cx (L t) m r)(C:0<=m/\m<=n)
  (a7:L t 24 (ax m)=(dZ (bif k then .d [eZ g,.a (qS w)]else .f)).map (Q (ai (iA t y r d n m b c f p q)))) (a0:L t 26 (Q (ai (iA t y r d n m b c f p q)) (eN (cX w) (al (.b 11 0))))=N)
  (J:bm t p q (W 5) (G d) (G 0) (.c I) (aw (ai (iA t y r d n m b c f p q)) [aD (aa 1 0),dq (.a (cX w))])) (i:cu t f p q):
  ∃j,ah (H F) 8 39 [.b (.d 16),.b (.c p)] t=B (.c D,j)/\j.a=t.a+14/\hz t j f n d (Q (ai (iA t y r d n m b c f p q)) (eN (cX w) (al (.b 11 0)))) (Q (ai (iA t y r d n m b c f p q)) (.d [bif k then eZ g else al (.b 11 0),aa 0 0]))/\bm j p q (W 5) (G d) (G 0) (.c I) (aw (ai (iA t y r d n m b c f p q)) [aD (aa 1 0),dq (.a (cX w))])/\jN t j/\∀i,i<t.a->(∀b∈[p,q],i≠b)->j.b (.c i)=t.b (.c i):=by
 have v:=a2.1 (n+1) (ic n);have K:=eS.mp Mp _ a4;dsimp only at K;have Z:cM (ai (iA t y r d n m b c f p q)) HX:=gB (T E (T l.1 (T o.1 ae))) (T u.11.c (T (u.11.c.d C) (T x ae))) a5 (T (show(0:Int)<=n-m from CH.mpr C.2) ae) (T (dO (o.c l.c).symm) (T (ge (by decide) (pa E)) (T (wr (by decide) (Cb E)) ae)));have P:bb (ai (iA t y r d n m b c f p q)) 1 _ ([(aa 1 0,aX),(aa 2 0,aX)]):=⟨bl ⟨A,A,l.4⟩ ⟨A,A,o.3⟩,ep A⟩
 have S:bb (ai (iA t y r d n m b c f p q)) 1 _ ([(aa 1 0,al (.b 11 0))]++[(aa 2 0,.f)]):=⟨bl ⟨A,A,l.3⟩ ⟨A,A,o.2⟩,ep A⟩
 have U:bb (ai (iA t y r d n m b c f p q)) 3 _ ([(al (.b 11 0),bif k then .d _ else .f)]++[(al (.b 10 1),.f)]):=⟨bl ⟨A,A,a7⟩ ⟨A,A,v.1⟩,tG (Kt C.2)⟩
 have V:bb (ai (iA t y r d n m b c f p q)) 3 _ ([]++[(al (.b 10 1),.f)]):=⟨bh ⟨A,A,v.2.1⟩,cc⟩
 have X:bb _ 3 _ ([]++[((eN (cX w) _),.f)]):=⟨bh ⟨A,A,a0⟩,cc⟩
 have Y:bb (ai (iA t y r d n m b c f p q)) 3 _ ([(al (.b 11 0),aa 1 0)]++[(al (.b 10 1),.f)]):=⟨bl ⟨A,A,l.2⟩ ⟨A,A,v.2.2⟩,ep A⟩
 exact(oR (p:=.c) (j:=.c) (d:=iQ w) (m:=3) (c:=14) u a1 (by decide) ⟨ex u.11.1,a6⟩ A (i.e A A) Z A A A A A ⟨P,S,U,V,X,Y⟩ (e:=yz w k (eZ g) _ _) ⟨bl A A,bl A A,bl A A,bh A,bh A,bl A A⟩
   A A (an f _ A A (an p _ A J.1 (an q [] A J.2 A))) A K).elim λj z=>(nI j z.1 z.2.1.2 ⟨z.2.1.1,bQ P.1 z.2.1.3,cA S.1 z.2.1.4 A,cA U.1 z.2.1.5 A,cA V.1 z.2.1.6 A,cA X.1 z.2.1.7 A,cA Y.1 z.2.1.8 A⟩ ⟨z.2.1.11 1 _ A,z.2.1.11 2 _ A⟩ ⟨z.2.1.9,z.2.1.10⟩ (λi a3 x=>if e:i=f then e▸z.2.1.11 0 _ A else z.2.2 i a3 (T e x)))
end
inductive kB(a t)(g p e)(d r c n) where
 |mk (y:bz t g n)
  (s:bA (L t) n)
  (v:c<=n)
  (i:cP (L a) (L t) c)
  (j:∀x,x≠d->x≠r->L a 21 (G x)=N->L t 21 (G x)=N)
  (w:a.a<=t.a)
  (u:t.a<=a.a+40)
  (C:jN a t)
  (k:∀b,b<a.a->(∀f∈[p,e],b≠f)->t.b (.c b)=a.b (.c b))
  (z:∃q o m h l,bm t p q o (G d) m h l/\(q=e∨(a.a<=q/\q<t.a))/\l.length<1000)
def iw(v):=Y (hE v) λl=>Y (Z l 0) hD
def dP(i)(v):=Y (hE v) λl=>Z l i
section
variable{a:iI}{m:Int}
theorem RG(h:cz a m=.d [.d [W 3,G i],G 0]):kv a (oz i) m:=
 ⟨(λj e=>J (dx (R (O (dP 1) e))) h),
  (λs c e=>ak (R (O iw e)) (by decide)),
  (λc u e=>ak (R (O iw e)) (by decide)),
  (λw u e=>J (R (O iw e)) (by decide))⟩
theorem RF(h:cz a m=.d [.d [W 4,W s],G c]):kv a (jd s c) m:=
 ⟨(λj e=>ak (R (O iw e)) (by decide)),
  (λd b e=>by
  have e:=R (O (dP 1) e)
  exact J (R (O (dP 0) e)) (J (dx (R (O (dP 1) e))) h)),
  (λc u e=>ak (R (O iw e)) (by decide)),
  (λw u e=>J (R (O iw e)) (by decide))⟩
theorem Gq{c u}(h:u<m)(k:∀b o,cz a u=.d [b,G o]->cz a m=.d [b,G (cs (o+c) 4294967296)]):kv a (hM c (ax u)) m:=
 ⟨(λj e=>ak (R (O iw e)) (by decide)),
  (λs c e=>ak (R (O iw e)) (by decide)),
  (λd f e=>by
  have e:=R (O (dP 2) e)
  exact J (dx (R (O (dP 1) (R (O (dP 0) e))))) (J (fO (R (O (dP 1) e))) ⟨h,k⟩)),
  (λw u e=>J (R (O iw e)) (by decide))⟩
end
section
variable{t b:S U}{f p q:Nat}{n d m:Int}{k c:E}
theorem dH{n}(h:ar n 1000=D):n<1000:=bH h
abbrev ys(t b:S U)(p q)(d):=∃a o g e l,bm b p a o (G d) g e l/\(a=q∨(t.a<=a/\a<b.a))/\l.length<1000
theorem hz.a(w:hz t b f n d k c)(u:bz t f n)(y:bA (L t) n)(o:bU (L t) d)(F:kv (L b) k (n+1))(G:t.a<=b.a)(z:b.a<=t.a+40)(J:jN t b)(x:∀l,l<t.a->(∀v∈[p,q],l≠v)->b.b (.c l)=t.b (.c l))(H:ys t b p q d):
  kB t b f p q d d n (n+1):=
 have s:=λm j=>w.4.2 _ A λi=>j (fO i)
 ⟨w.1,y.f u.11.1 o w.2 w.3 w.7 s (λm j=>w.5.2 _ A λi=>j (fO i)) (λr K E j=>(di (r=k)).elim (λi=>.inr ⟨R (j.symm.trans (C i w.6.1)),C i F⟩) λi=>.inl ((w.6.2 r E i).symm.trans j)),
  ex (bt n),.f o w.2 w.3 w.7 s,λP j Q i=>(w.3.2 _ A λq=>j (dx q)).trans i,G,z,J,x,H⟩
theorem hz.g(w:hz t b f n d k c)(i:bU (L t) d):cx (L b) (n+1) d:=⟨i.1,w.7.1,w.3.1,(w.2 _ A).trans i.3⟩
theorem hz.h(w:hz t b f n d k c):cz (L b) (n+1)=c:=by unfold cz;exact C w.4.1 A
theorem hz.e(w:hz t b f n d k (.d [i,G o]))(j:bU (L t) d)(l:0<=n):cd (L b) (n+1) d i o:=(bi _ ((w.g j).c) ⟨ex l,bt _⟩ w.h)
theorem nY.a(w:nY t b f n d m)(o:bA (L t) n)(h:bU (L t) d)(u:0<=m/\m<=n)(H:fS (L t) m)(v:t.a<=b.a)(s:b.a<=t.a+40)(y:jN t b)(l:∀g,g<t.a->(∀i∈[p,q],g≠i)->b.b (.c g)=t.b (.c g))(x:ys t b p q d):
  kB t b f p q d d n n:=
 ⟨w.1,o.b h u H w.2 w.3 w.4 w.5 w.6 w.7,bt n,.b h w.2 w.3 w.4 w.7,λz r C j=>(w.3.2 _ A λq=>r (dx q)).trans j,v,s,y,l,x⟩
theorem nY.e(w:nY t b f n d m)(h:bU (L t) d)(j:0<=m/\m<=n)(i:cz (L t) m=.d [g,G o]):cd (L b) n d g o:=(bi m ⟨h.1,w.3.1,(w.2 _ A).trans h.3⟩ j (by rw[←i];unfold cz;exact C (w.4 _ A) A))
end
section
variable{t:S U}{f p q:Nat}{n d:Int}
abbrev fe(p)(t):=ah (H F) 8 39 [.b (.d 16),.b (.c p)] t
theorem VC(c:bz t f n)(g:bA (L t) n)(k:t.a<=90000)(m:n+1<=900)(l:aS 20 i)(b:bU (L t) d)(j:L t 26 (oz i)=N)(e:bm t p q (W 3) (G d) (G i) (.c I) [])(h:cu t f p q):
  ∃a,fe p t=B (.c D,a)/\kB t a f p q d d n (n+1)/\hz t a f n d (oz i) (.d [.d [W 3,G i],G 0]):=
 (Jv (k:=0) (s:=0) (by decide) c g k m l b (by decide) j e h).imp λa z=>(aK z.1 (z.2.2.1.a c g b (RG z.2.2.1.h) (C z.2.1 (bX _ _)) (C z.2.1 (dT (by decide) _)) z.2.2.2.2.1 z.2.2.2.2.2 ⟨q,_,_,_,_,z.2.2.2.1,.inl A,dH A⟩) z.2.2.1)
theorem ID(e:bz t f n)(g:bA (L t) n)(k:t.a<=90000)(o:n+1<=900)(l:aS 20 c)(m:s<51)(b:bU (L t) d)(j:L t 26 (jd s c)=N)(h:bm t p q (W 4) (G d) (.d [W s,G c]) (.c I) [])(i:cu t f p q):
  ∃a,fe p t=B (.c D,a)/\kB t a f p q d d n (n+1)/\hz t a f n d (jd s c) (.d [.d [W 4,W s],G c]):=
 (Jv (k:=1) (by decide) e g k o l b m j h i).imp λa z=>(aK z.1 (z.2.2.1.a e g b (RF z.2.2.1.h) (C z.2.1 (bX _ _)) (z.2.1▸dT (by decide) _) z.2.2.2.2.1 z.2.2.2.2.2 ⟨q,_,_,_,_,z.2.2.2.1,.inl A,dH A⟩) z.2.2.1)
theorem VB(e:bz t f n)(g:bA (L t) n)(l:t.a<=90000)(r:n+1<=900)(m:aS 20 c)(o:s<51)(a:bU (L t) d)(j:bm t p q (W 4) (G d) (.d [W s,G c]) (.c I) [])(k:cu t f p q):
  ∃b i,fe p t=B (.c D,b)/\kB t b f p q d d n i/\cd (L b) i d (.d [W 4,W s]) c/\i<=n+1:=by
 cases h:L t 26 _ with|none=>exact(ID e g l r m o a h j k).imp λb z=>(fQ _ z.1 z.2.1 (z.2.2.e a e.11.1) (bt _))|some v=>exact(g.3 _ v A h).elim λx w=>w.2.2.1.elim λu K=>(YQ e g l m o a (J w.1 h) w.2.1 K j k).imp λb z=>(fQ n z.1 (z.2.2.1.a g a w.2.1 w.2.2.1 (C z.2.1 (bX _ _)) (C z.2.1 (dT (by decide) _)) z.2.2.2.2.1 z.2.2.2.2.2 ⟨t.a+3,_,_,_,_,z.2.2.2.1,.inr ⟨bX _ _,C z.2.1 (ht (by decide) _)⟩,dH A⟩) (z.2.2.1.e a w.2.1 (w.2.2.2.2 s c A)) (ex (bt n)))
noncomputable def oi(y:Int)(w:Nat):Int:=bf y (λw z=>4294967295-w) w
noncomputable def wQ(y:Int)(w:Nat):Int:=bf 0 (λw z=>y+(w+1)) w
theorem pX{w}:(ai v).a (cX w)=oi (v.c 0) w:=by cases w<;>rfl
theorem Us{w}:(ai v).a (qS w)=wQ (v.c 0) w:=by cases w with
 |zero=>rfl
 |succ w=>exact eP (v.c 0) (w+1)
theorem yL(w)(h:aS 20 y):cs (wQ y w+oi y w) 4294967296=y:=by cases w with
 |zero=>exact(O (cs · _) (nQ y)).trans (pa h)
 |succ w=>exact(O (cs · _) (by exact xT (aG [_,_] .b (.c (.c (.a 0) (.c (.a 1) (.b 1))) (.d (.b 4294967295) (.a 1))) (.c (.a 0) (.b 4294967296)) A) (aG [_,_] .b (.c (.a 0) (.b 4294967296)) (.c (.c (.a 0) (.c (.a 1) (.b 1))) (.d (.b 4294967295) (.a 1))) A))).trans (Cb h)
theorem wL(h:v.c 0=y)(k:v.c 1=r):aw (ai v) [aD (aa 1 0),dq (.a (cX w))]=[aD (G r),dq (G (oi y w))]:=J h (k▸O (λc=>[aD (G (v.c 1)),dq (G c)]) pX)
theorem Gn(h:v.c 0=y)(k:v.c 11=m):Q (ai v) (eN (cX w) (al (.b 11 0)))=hM (oi y w) (ax m):=J h (k▸O (λc=>hM c _) pX)
def nU(a):=∃c∈[0,1],∃b w,aS 1000 b/\(∀x∈w,x<51)/\∀v,Z v.e 2=B b->v.g=w->Q (ai v) (eZ c)=a
theorem yi(c:s<51)(a:aS 1000 b):nU (.d [W s,G b]):=(ag 0 (by decide) (an b [s] a (T c ae) (λv h k=>by
 show E.d [.e ((Z v.g 0).getD 0),.a (.a ((Z v.e 2).getD 0))]=_
 refine C h (C k ?_);rfl)))
theorem Dd(h:s<51)(b:a<51):nU (.d [W s,W a]):=(ag 1 (by decide) (an 0 _ ⟨bt _,by decide⟩ (T h (T b ae)) (λv c k=>by
 show E.d [.e ((Z v.g 0).getD 0),.e ((Z v.g 1).getD 0)]=_
 refine C k ?_;rfl)))
theorem Ut{m u y}(P:0<=y)(H:w∈[0,1,3,5,7])(F:nU a)(s:u=wQ y w)(h:cz (L t) m=.d [a,G u]):
  ∃l b,(w,l,b)∈mE/\∃e g,aS 1000 e/\(∀K∈g,K<51)/\∀v,v.c 0=y->Z v.e 1=B m->Z v.e 2=B e->v.g=g->L t 24 (ax m)=(dZ (bif l then .d [eZ b,.a (qS w)]else .f)).map (Q (ai v))/\Q (ai v) (.d [bif l then eZ b else al (.b 11 0),aa 0 0])=.d [a,G y]:=by
 unfold cz at h;cases o:L t 24 _ with
 |none=>
  rw[o]at h;have c:=s.symm.trans (dx (R (O (dP 1) h))).symm;cases w with
  |zero=>exact(dE I 0 (by decide) (an 0 [] ⟨bt _,by decide⟩ ae (λv c r i j=>⟨A,by
    show E.d [.d [W 2,.a (.a ((Z v.e 1).getD 0))],.a (.a (v.c 0))]=_
    exact C c (C r (C ((R (O (dP 0) h)).symm) A))⟩)))
  |succ w=>exact ak (show y+(w+1)=0 from c) (by omega)
 |some v=>
  rw[o]at h;refine F.elim λb x=>aq x.2 λe g z=>(dE D b ?_ (an e g z.1 z.2.1 (λv c r i j=>⟨O B (h.trans ?_),?_⟩)))
  ·exact(by decide:∀w∈[0,1,3,5,7],∀k∈[0,1],(w,true,k)∈mE) w H b x.1
  ·show _=E.d [Q _ _,.a _]
   exact C (z.2.2 v i j) (C Us (C c (J s A)))
  ·show E.d [Q _ _,.a (.a (v.c 0))]=_
   exact C (z.2.2 v i j) (C c A)
theorem IA{w}(T:w∈[0,1,3,5,7])(k:bz t f n)(h:bA (L t) n)(Q:t.a<=90000)(a1:n+1<=900)(o:aS 20 y)(c:bU (L t) d)(b:cd (L t) n r a (wQ y w))(a4:nU a)
  (H:bm t p q (W 5) (G d) (G 0) (.c I) [aD (G r),dq (G (oi y w))]) (P:cu t f p q):∃i V,fe p t=B (.c D,i)/\kB t i f p q d d n V/\cd (L i) V d a y/\V<=n+1/\∃v U,dL (L t) r v/\dL (L i) d U/\v<U:=by
 refine b.elim λm b=>(h.2 r _ b.1.2).elim λU z=>?_
 rw[←fO z.1]at z;refine z.2.2.elim λE K=>?_
 have g:E=r∨r≠E:=(di _).imp id λl a5=>l a5.symm
 cases l:L t 26 (hM _ (ax m))with
 |some a6=>
  refine(h.3 _ a6 A l).elim λa0 e=>e.2.2.1.elim λa9 X=>?_
  have u:=e.2.2.2.3 _ _ A;rw[e.1]at l;exact g.elim (λg=>(YM T k h Q o c (g▸K) b.2.1 X e.2.1 (hp u.1) ((O (λs=>L t 26 (hM s (ax m))) pX).trans l) (C (wL (y:=y) (r:=r) A A) H) P).imp λi z=>(pk n z.1 (z.2.2.1.a h c e.2.1 e.2.2.1 (C z.2.1 (bX _ _)) (C z.2.1 (dT (by decide) _)) z.2.2.2.2.1 z.2.2.2.2.2 ⟨t.a+7,_,_,_,_,z.2.2.2.1,.inr ⟨bX _ _,C z.2.1 (ht (by decide) _)⟩,dH A⟩) (z.2.2.1.e c e.2.1 (J (yL w o) (u.2 a _ b.2.2))) (ex (bt n)) (an m a0 b.1 ⟨c.1,z.2.2.1.3.1,(z.2.2.1.2 _ A).trans c.3⟩ u.1)))
   λg=>(YL T k h Q o c b.1 K g b.2.1 X e.2.1 (hp u.1) ((O (λs=>L t 26 (hM s (ax m))) pX).trans l) (C (wL (y:=y) (r:=r) A A) H) P).imp λi z=>(pk n z.1 (z.2.2.1.a h c e.2.1 e.2.2.1 (C z.2.1 (bX _ _)) (C z.2.1 (dT (by decide) _)) z.2.2.2.2.1 z.2.2.2.2.2 ⟨t.a+9,_,_,_,_,z.2.2.2.1,.inr ⟨bX _ _,C z.2.1 (ht (by decide) _)⟩,dH A⟩) (z.2.2.1.e c e.2.1 (J (yL w o) (u.2 a _ b.2.2))) (ex (bt n)) (an m a0 b.1 ⟨c.1,z.2.2.1.3.1,(z.2.2.1.2 _ A).trans c.3⟩ u.1))
 |none=>
  refine aq (Ut o.1 T a4 A b.2.2) λb0 a8 v=>aq v.2 λY a3 x=>?_
  have Z:∀{i},hz t i f n d (hM (oi y w) (ax m)) _->kv _ _ _:=λa2=>Gq (CC b.2.1.2) λa7 b1 S=>a2.h.trans (by
   have S:=(by unfold cz;exact C (a2.4.2 _ A λE=>ak (fO E) (by have:=b.2.1.2;exact hp (aG [_,_] (.a 1 (.a 0) (.a 1) .b) (.c (.a 0) (.b 1)) (.c (.a 1) (.b 1)) A this))) A:cz _ m=cz _ m).symm.trans S;have q:=b.2.2.symm.trans S
   exact J (dx (R (O (dP 1) q))) (J (R (O (dP 0) q)) (C (yL w o) A)))
  exact g.elim (λg=>by
   have F:=x.2.2 (iA t y r d n m Y a3 f p q) A A A A;refine(YO k h Q a1 v.1 o x.1 x.2.1 c (g▸K) b.2.1 F.1 ((O (λs=>L t 26 (hM s (ax m))) pX).trans l) (C (wL (y:=y) (r:=r) A A) H) P).imp λi z=>?_
   have j:=by have q:=z.2.2.1;rw[F.2,Gn (y:=y) (m:=m) A A]at q;exact q
   exact(pk _ z.1 (j.a k h c (Z j) (z.2.1▸bX _ _) (z.2.1▸dT (by decide) _) z.2.2.2.2.1 z.2.2.2.2.2 ⟨q,_,_,_,_,z.2.2.2.1,.inl A,dH A⟩) (j.e c k.11.1) (bt _) (an m _ b.1 ((j.g c).c) (CC b.2.1.2)))) λg=>by
   have F:=x.2.2 (iz t y r d E n m Y a3 f p q) A A A A;refine(YN k h Q a1 v.1 o x.1 x.2.1 c b.1 K g b.2.1 F.1 ((O (λs=>L t 26 (hM s (ax m))) pX).trans l) (C (wL (y:=y) (r:=r) A A) H) P).imp λi z=>?_
   have j:=by have q:=z.2.2.1;rw[F.2,Gn (y:=y) (m:=m) A A]at q;exact q
   exact(pk _ z.1 (j.a k h c (Z j) (C z.2.1 (bX _ _)) (C z.2.1 (dT (by decide) _)) z.2.2.2.2.1 z.2.2.2.2.2 ⟨t.a+1,_,_,_,_,z.2.2.2.1,.inr ⟨bX _ _,C z.2.1 (ht (by decide) _)⟩,dH A⟩) (j.e c k.11.1) (bt _) (an m _ b.1 ((j.g c).c) (CC b.2.1.2)))
end
open Classical in
noncomputable def rl(L:iI)(i:Nat)(k v:E):iI:=λj q=>if j=i/\q=k then B v else L j q
section
variable{a:iI}{i j:Nat}{k v q:E}
theorem Ks:rl a i k v i k=B v:=if_pos ⟨A,A⟩
theorem oW(h:j≠i∨q≠k):rl a i k v j q=a j q:=if_neg λe=>h.elim (λh=>h e.1) λh=>h e.2
theorem D7(h:b≠i):fs a (rl (rl a b c d) i k v) i k v:=⟨Ks,λj z n=>(oW (.inr n)).trans (oW (.inl λe=>h e.symm))⟩
end
section
variable{t:S U}{f p q:Nat}{n d r y:Int}
theorem Vy(k:bz t f n)(v:bA (L t) n)(b0:t.a<=90000)(b2:n+2<=900)(Z:aS 20 y)(l:bU (L t) r)(i:bU (L t) d)(a3:r≠d)(a7:bm t p q (W 5) (G d) (G 0) (.c I) [aD (G r),dq (G y)])(s:cu t f p q):
  ∃c,fe p t=B (.c D,c)/\kB t c f p q d r n (n+2)/\cd (L c) (n+2) d (ax (n+1)) y/\cd (L c) (n+2) r (ax (n+1)) 0:=by
 refine(YP k v b0 b2 Z l i a3 (by
  cases e:L t 26 _ with
  |none=>rfl
  |some T=>exact(v.3 _ T A e).elim λm a5=>ak (a5.2.2.2.3 _ _ A).1 (lm.mpr (aG [_,_] (.a 1 (.a 0) (.a 1) .b) (.a 0) (.c (.a 1) (.b 1)) A (a5.2.1.2)))) a7 s).imp λc z=>⟨z.1,?_⟩
 have a6:=z.2.1;have z:=z.2.2;have a1:∀m,m≠n+1+1->L c 24 _=L t 24 _:=λm h=>z.2.2.2.1.2 _ A λe=>h ((fO e).trans (rA n 1 1).symm)
 have g:n+1+1=n+2:=rA n 1 1
 let a:=rl (rl (L t) 27 (ax (n+1)) (G r)) 21 (G r) (ax (n+1))
 have u:fs _ a 21 _ _:=D7 (by decide);have E:fs _ a 27 _ _:=⟨(oW (.inl (by decide))).trans Ks,λj H h=>(oW (.inl (by decide))).trans (oW (.inr h))⟩
 have o:∀{w j},w≠21->w≠27->a w j=L t w j:=λs J=>(oW (.inl s)).trans (oW (.inl J))
 have x:cg _ a 17:=λj H=>o (by decide) (by decide)
 have U:bU a d:=⟨i.1,(u.2 _ A λe=>a3 (dx e).symm).trans i.2,(x _ A).trans i.3⟩
 have F:fs a _ 21 _ (ax (n+1+1)):=⟨C g z.2.2.1.2.1,λj b P=>(di _).elim (λe=>by exact C e (C z.2.2.1.1 (C u.1 A))) λe=>(z.2.2.1.2.2 j b e P).trans (u.2 j b e).symm⟩
 have a4:fs a _ 27 _ _:=⟨g▸z.2.2.2.2.2.2.1.2.1,λj b P=>(di _).elim (λe=>by exact C e (C z.2.2.2.2.2.2.1.1 (C E.1 A))) λe=>((λs J a9=>z.2.2.2.2.2.2.1.2.2 _ a9 s (g▸J)) e P b).trans (E.2 j b e).symm⟩
 have Q:cz (L c) (n+1+1)=.d [ax (n+1),G y]:=by unfold cz;exact C g (C z.2.2.2.1.1 A)
 have S:cz (L c) (n+1)=.d [ax (n+1),G 0]:=by unfold cz;exact C ((a1 _ (hp (aG [_] .b (.c (.c (.a 0) (.b 1)) (.b 1)) (.c (.c (.a 0) (.b 1)) (.b 1)) A))).trans (v.1 _ (ic n)).1) A
 have a0:cg a _ 17:=λj b=>(z.2.1 j b).trans (x j b).symm
 have a2:=λm h=>(a1 m h).trans (o (by decide) (by decide)).symm
 have V:=(v.f k.11.1 l x u E (λm H=>o (by decide) (by decide)) (λm H=>o (by decide) (by decide)) λK T Y h=>.inl ((o (by decide) (by decide)).symm.trans h)).f (ex k.11.1) U a0 F a4 a2
  (λm h=>(z.2.2.2.2.1.2 _ A λe=>h ((fO e).trans g.symm)).trans (o (by decide) (by decide)).symm) λK T Y h=>(di (K=hM y _)).elim (λe=>.inr ⟨by rw[e,z.2.2.2.2.2.1.1]at h;exact(R h).symm.trans (O ax g.symm),
   e▸Gq (ic _) λb3 b4 X=>by
    rw[Q,←dx (R (O (dP 1) (S.symm.trans X))),←R (O (dP 0) (S.symm.trans X)),nQ,pa Z]⟩) λe=>.inl ((o (by decide) (by decide)).trans ((z.2.2.2.2.2.1.2 K Y e).symm.trans h))
 have a8:=(cP.f l x u E (λm H=>o (by decide) (by decide))).a (cP.f U a0 F a4 a2) (ex (bt n));rw[g]at V Q F;exact(aK ⟨z.1,V,aG [_] .b (.a 0) (.c (.a 0) (.b 2)) A,a8,λb5 h b1 e=>(z.2.2.1.2.2 _ A (λq=>b1 (dx q)) λq=>h (dx q)).trans e,C a6 (bX _ _),C a6 (dT (by decide) _),z.2.2.2.2.2.2.2.2.1,z.2.2.2.2.2.2.2.2.2,⟨q,_,_,_,_,z.2.2.2.2.2.2.2.1,.inl A,dH A⟩⟩ ⟨n+2,⟨i.1,F.1,(z.2.1 _ A).trans i.3⟩,⟨xS k.11.1 (by decide),bt _⟩,Q⟩ ⟨n+1,⟨l.1,z.2.2.1.1,(z.2.1 _ A).trans l.3⟩,⟨ex k.11.1,aG [_] .b (.c (.a 0) (.b 1)) (.c (.a 0) (.b 2)) A⟩,S⟩)
end
end
theorem ab{x:av b c}{f}(h:x=B (a,s))(k:f a s=r):aB x f=r:=C h k
theorem wE{v:a}{t}:∀p,Z (p++v::t) p.length=B v:=λp=>by
 induction p with|nil=>rfl|cons _ _ i=>exact i
theorem As:∀p:List a,Z p p.length=N:=λp=>by
 induction p with|nil=>rfl|cons _ _ i=>exact i
theorem NT{g:E->aC->S b->av b _}{f}{e}:∀s p d,ce (a.a e.b c)=B (p++s)->(∀v∈s,g v l e=B (B (f v),e))->d.length+s.length<=a.f->
  fu a (.g c) g (s.length+1) p.length d l e=B (d++s.map f,e):=λs=>by
 induction s with|nil=>intro p d h _ _;refine au (au h (by rw[ln,As])) ?_;rw[List.map_nil,ln]|cons v s k=>intro p d h i j;refine au (au h (by rw[wE])) (ab (i v bn) ?_);refine C (show ar d.length a.f=D from er (ap [_,_,_] (.a 1 (.c (.a 0) (.c (.a 1) (.b 1))) (.a 2) .b) (.c (.a 0) (.b 1)) (.a 2) A j)) ?_;have w:=k (p++[v]) (d++[f v]) (by rw[h,kp];rfl) (λu m=>i u (bT _ m)) (by exact C dr (ap [_,_,_] (.a 1 (.c (.a 0) (.c (.a 1) (.b 1))) (.a 2) .b) (.c (.c (.a 0) (.b 1)) (.a 1)) (.a 2) A j));rw[dr,kp]at w;exact w
def mV(i:List Int):U:=λa=>bif af.e a (.d 10)then .a (i.map G)else fA a
def vz(i:List Int)(x:List Int):U:=λa=>bif af.e a (.c 1)then .a (x.map G)else bif af.e a (.c 0)then .a ((i.take 12).map G)else mV i a
noncomputable def oC:aC:=[.b (.d 10),.f,.f,.f,.f,.f,.f,.f]
noncomputable def qM(a:List Int):=(a.take 12).map λi=>cs i 2147483647
theorem RZ(i):as (H F) a sG.a oC ⟨mV i,0⟩=as (H F) a wc wd ⟨vz i (qM i),2⟩:=by
 have h:(i.take 12).length<=12:=by exact C Lp (ya _ _)
 have c:kn (H F) (ca 0) (cr .g) (cr (.a (.a 12))) oC ⟨mV i,0⟩=B (.b (.c 0),⟨(H F).d (mV i) (.c 0) (.a ((i.take 12).map G)),1⟩):=by
  show fM _ (((i.map G).take 12).drop 0) _=_
  refine C O9 (J Lr ?_);show aI (ar _ _) _=_
  rw[ea,show ar _ _=D from er (aV (fk h) (by decide))];rfl
 have e:=NT (a:=H F) (c:=.c 0) (g:=dK (H F) (.a 7) (km (H F) N (fC (H F) .a (ca 7) (cr (.a (.a 2147483647)))))) (f:=λv=>dc .f (λz=>.a (.a (cs z.c 2147483647))) (dw v)) (e:=⟨(H F).d (mV i) (.c 0) (.a ((i.take 12).map G)),1⟩) (l:=oC)
  _ [] [] A (λv m=>(hr.mp m).elim λj z=>J z.2 A) (by rw[ea];exact aV (pv (ie _)) (aV h (by decide)))
 rw[um]at e;have d:ia (H F) (fC (H F) .a (ca 7) (cr (.a (.a 2147483647)))) (.a 7) (kn (H F) (ca 0) (cr .g) (cr (.a (.a 12)))) N oC ⟨mV i,0⟩=B (.b (.c 1),⟨vz i (qM i),2⟩):=by
  refine ab c (ab A (ab e ?_));show B (E.b _,(⟨(H F).d ((H F).d _ _ _) (.c 1) _,2⟩:S U))=_
  refine O (λg=>B (E.b (.c 1),(⟨g,2⟩:S U))) (funext λb=>?_);show(bif af.e b _ then bq.a _ else _)=(bif af.e b _ then bq.a _ else _)
  exact C um A
 have f:iE 1 _ oC _=B ((cQ.a,wd),⟨vz i _,2⟩):=ab d A;show dS (iE 1 (ia _ (fC _ .a (ca 7) (cr _)) _ (kn _ (ca 0) (cr _) (cr _)) N)) (as _ a wc) oC _=_
 exact ab f A
noncomputable def lJ(x):=(cs x 6).toNat -2
theorem mO(x n)(h:0<n):0<=cs x n/\cs x n<n:=⟨Int.fmod_nonneg_of_pos x h,Int.fmod_lt_of_pos x h⟩
theorem oq(a)(n:Nat)(h:0<n):∃p,p<n/\cs a n=p:=
 have w:=mO a n (pr.mpr h);have e:=Int.toNat_of_nonneg w.1
 (ag _ (pr.mp (C e w.2)) e.symm)
theorem zP(x):(lJ x=0/\cs x 6<=2)∨∃c,lJ x=c+1/\cs x 6=c+3/\c<3:=(oq x 6 (by decide)).elim λp h=>by
 unfold lJ;refine C (h.2) ?_
 match p,h.1 with|0,_=>exact .inl ⟨A,by decide⟩|1,_=>exact .inl ⟨A,by decide⟩|2,_=>exact .inl ⟨A,by decide⟩|3,_=>exact .inr (bi 0 A A (by decide))|4,_=>exact .inr (bi 1 A A (by decide))|5,_=>exact .inr (bi 2 A A (by decide))|p+6,h=>exact ak h (hu.mpr (Lx 6 p))
def nM(x:Int):Int:=bf (cs x 6) (λz z=>0) (lJ x)
theorem xL(x):0<=nM x/\nM x<=2:=by unfold nM;exact(zP x).elim (λw=>by exact C w.1 ⟨(mO x 6 (by decide)).1,w.2⟩) λw=>w.elim λc w=>by exact C w.1 ⟨bt (0:Int),(by decide:(0:Int)<=2)⟩
def pp(x:List Int)(k:Nat):=match k with
 |12=>nM (x.getD 0 0)
 |13=>nM (x.getD 4 0)
 |14=>nM (x.getD 8 0)
 |k=>x.getD k 0
theorem zN(r:eX)(x)(k)(h:r.c k=nM x):cs x 6=r.a (vT (lJ x) k):=by unfold nM at h;exact(zP x).elim (λw=>by rw[w.1]at h⊢;exact h.symm) λw=>w.elim λc w=>by exact C w.1 (C w.2.1 A)
theorem Qz{a:List Int}(h:∀x∈a,0<=x/\x<=2147483646)(k):0<=a.getD k 0/\a.getD k 0<=2147483646:=by refine C CL ?_;cases q:a[k]? with|none=>exact⟨bt _,by decide⟩|some x=>exact h x (fE q)
theorem Sl:∀(x:List Int) k,(∀i a,x[i]?=B a->r.c (k+i)=a)->aw r (GC x.length k)=x.map G:=λx=>by
 induction x with
 |nil=>exactλz z=>A
 |cons a x b=>
  intro k h;show E.a (.a (r.c k))::aw r _=_
  exact C (b _ λi y e=>by rw[gX,kr 1];exact h _ y e) (C (h 0 a A) A)
theorem Rs{x:av a _}(h:Gc x=D):∃l s,x=B ((.b (.c D),l),s):=by
 cases x with
 |none=>exact az h
 |some p=>
  obtain⟨⟨f,l⟩,s⟩:=p;cases f with
  |b v=>cases v with|c b=>exact(dQ l s (C (show b=D from h) A))|_=>exact az h
  |_=>exact az h
theorem yS{x:List Int}{j}:lJ (x.getD j 0)∈sx x.length j:=by
 unfold sx
 by_cases q:j<x.length
 ·exact C (show ar j _=D from er q) ((zP (x.getD j 0)).elim (λw=>by refine C w.1 ?_;decide) λw=>w.elim λc w=>by exact C w.1 ((by decide:∀c,c<3->c+1∈[0,1,2,3]) c w.2.2))
 ·refine C CL (C (Lm (Ly q)) ?_);cases h:ar j _<;>decide
theorem R'(i):∃l j,as (H F) (tC F) sG.a oC ⟨mV i,0⟩=B ((.b (.c D),l),j):=by
 rw[RZ];have f:∀a∈qM i,0<=a/\a<=2147483646:=λa o=>(hr.mp o).elim λb d=>by have:=mO b 2147483647 (by decide);exact J d.2 ⟨aG [_] (.a 1 (.b 0) (.a 0) .b) (.b 0) (.a 0) A this.1,aG [_] (.a 1 (.c (.a 0) (.b 1)) (.b _) .b) (.a 0) (.b _) A this.2⟩
 have c:(qM i).length<13:=by rw[qM,ea,Lp];exact R7 (ya _ _)
 generalize qM i=x at f c⊢;have g:=Qz f;have p:cM (BW (pp x)) (AB (lJ (x.getD 0 0)) (lJ (x.getD 4 0)) (lJ (x.getD 8 0))):=by
  refine wS (λz z=>A) (λk=>fR.mpr A) (λk=>⟨?_,?_⟩) (λz z z h=>X h) (T (ge (by decide) (zN _ _ _ A)) (T (ge (by decide) (zN _ _ _ A)) (T (ge (by decide) (zN _ _ _ A)) ae))) ae
  ·show 0<=pp x k
   unfold pp;split<;>first|exact(xL _).1|exact(g _).1
  ·show pp x k<=bif ar k 12 then 2147483646 else 2
   unfold pp;split
   ·exact(xL _).2
   ·exact(xL _).2
   ·exact(xL _).2
   ·cases q:ar k 12 with
    |true=>exact(g k).2
    |false=>
     have:=Ly λh=>by rw[show ar k 12=D from er h]at q;exact ck q
     rw[CL,Lm (by omega)];decide
 refine aq (Rs (bu.mp (bu.mp (bu.mp (bu.mp NF _ (pt.mpr c)) _ yS) _ yS) _ yS)) λl j d=>?_
 refine(BE (x:=JN _ _ (vz i x)) (JO p) (Um (JO p)) wc wd _ _ ?_ _ _ d).elim λt w=>(dQ _ t w.1)
 exact⟨(λm=>by
   match m with
   |.d k=>exact A
   |.c 0=>exact A
   |.c 1=>exact O _ (Sl x 0 λb a e=>by
     rw[ie];show pp x b=a
     have r:b<12:=ap [_,_] (.a 1 (.c (.a 0) (.b 1)) (.b 13) (.a 1 (.c (.a 1) (.b 1)) (.a 0) .b)) (.c (.a 1) (.b 1)) (.b 12) A c ((xY.mp e).1);unfold pp
     split<;>first|(exfalso;omega)|exact(by exact C CL (C e rfl))).symm
   |.c (u+2)=>exact⟨A,A⟩),(λs=>by rw[kr];rfl),(λz=>A),bd _,(λn h=>ak A (h n))⟩
section
open PyProof.Rows
def ra(a:eT U)(C:Nat->List E->S U->av U E)(b:List de)(l:aC)(s:S U):av U E:=aB (as a C b l s) λp s=>cQ.rec (B (.d p.2,s)) N (λz=>N) p.1
theorem Bk{a}{v}{h}(o:go (dh a v h))(n)(c)(l)(b:bD (dh a v h) s t):be (dh a v h) (Q (ai v)) (ra (gb a) (ah (gb a) n) c l s) (ra (H F) (ah (H F) n) c (aw (ai v) l) t):=
 (BE o (jR o n) c l s t b).a λp s t b=>by
  cases p with
  |mk f l=>cases f with|a=>exact .c b A|c=>exact .g|b v=>exact .g
theorem Bj{e l:aC}(h:ra b a c e s=B (.d l,d)):as b a c e s=B ((.a,l),d):=aO h λp s f h=>by
 cases p with
 |mk g i=>cases g with|a=>exact f.trans (C (show i=l from R (O hE (aW h))) (C (bo h) A))|c=>exact X h|b v=>exact X h
section
variable{a:eT U}{b:Nat->List E->S U->av U E}
theorem kK:∀{d}{l e}{s f},as a b d l s=B ((.a,e),f)->as a b (d++c) l s=as a b c e f:=λ{d}=>by
 induction d with
 |nil=>intro l e s f h;refine J (show l=e from O (λp=>p.1.2) (R h)) (J (show s=f from O (λp=>p.2) (R h)) ?_);rfl
 |cons x d j=>
  intro l e s f h;refine aO (show aB (zp a b x l s) (λp s=>match p.1 with
   |.a=>as a b d p.2 s
   |_=>B (p,s))=_ from h) λp m g h=>?_
  show aB (zp a b x l s) (λp s=>match p.1 with
   |.a=>as a b (d++c) p.2 s
   |_=>B (p,s))=_
  refine C g ?_;cases p with
  |mk i k=>cases i with|a=>exact j h|c=>exact ak (O (λp=>p.1.1) (R h):cQ.c=cQ.a) cQ.noConfusion|b v=>exact ak (O (λp=>p.1.1) (R h):cQ.b v=cQ.a) cQ.noConfusion
section
variable{l j:aC}{s n c:S U}{r:af}{d m f:Nat}{h:List (Nat×E)}{v k o u:E}{e t g i p:aJ}{x y z:List de}{q:av U (cQ×aC)}
theorem HR(w:a.a s.b r=.e d h)(E:a.c.h d m=B f):nl a s.b r m=B (B f):=show(match a.a s.b r with
  |.e d _=>Y _ λf=>B (B f)
  |.f=>.none
  |.c=>.none
  |_=>B _)=_ by exact C w (au E A)
theorem ws{e:aA U E}(G:e l s=B (.b r,s))(C:a.a s.b r=.e d h)(H:a.c.h d m=B f)(J:bs w l s=B (a0,s))(F:b f (.b r::a0) s=B (v,c)):li a b e m w l s=B (v,c):=
 ab G (au A (au (HR C H) (ab J F)))
theorem bV{e:aA U E}(C:e l s=B (v,s))(F:bs a0 l s=B (w,s)):bs (e::a0) l s=B (v::w,s):=(ab C (ab F A):aB _ (λv s=>aB (bs a0 l s) λw s=>B (v::w,s))=_)
theorem om(F:K a b e l s=B (.b r,s))(w:a.a s.b r=.e d h)(G:a.c.h d m=B f)(E:K a b g l s=B (k,s))(C:b f [.b r,k] s=B (v,c)):K a b (.h e m [g]) l s=B (v,c):=
 ws (w:=[K a b g]) (e:=K a b e) F w G (bV E A) C
theorem OI(E:K a b e l s=B (.b r,s))(w:a.a s.b r=.e d h)(F:a.c.h d m=B f)(C:b f [.b r] s=B (v,c)):K a b (.h e m []) l s=B (v,c):=
 ws (w:=[]) (e:=K a b e) E w F A C
theorem zj(G:K a b e l s=B (.b r,s))(w:a.a s.b r=.e d h)(H:a.c.h d m=B f)(E:K a b g l s=B (k,s))(F:K a b i l s=B (o,s))(C:b f [.b r,k,o] s=B (v,c)):K a b (.h e m [g,i]) l s=B (v,c):=
 ws (w:=[K a b g,K a b i]) (e:=K a b e) G w H (bV E (bV F A)) C
theorem OJ(G:K a b e l s=B (.b r,s))(w:a.a s.b r=.e d h)(H:a.c.h d m=B f)(E:K a b g l s=B (k,s))(F:K a b i l s=B (o,s))(J:K a b p l s=B (u,s))(C:b f [.b r,k,o,u] s=B (v,c)):K a b (.h e m [g,i,p]) l s=B (v,c):=
 ws (w:=[K a b g,K a b i,K a b p]) (e:=K a b e) G w H (bV E (bV F (bV J A))) C
theorem ol(G:K a b e l s=B (.b r,s))(H:K a b t l s=B (w,s))(E:a.a s.b r=.a a0)(J:sQ a0 w=B v)(F:aF v=I):K a b (.f e t) l s=B (v,s):=
 (ab G (ab H (show lI a _ w s=_ by exact C E (au J (by exact C F A)))):gV a _ _ l s=_)
theorem bF(G:K a b e l s=B (.b r,s))(E:a.a s.b r=.e d h)(H:cG w h=B v)(F:aF v=I):K a b (.c e w) l s=B (v,s):=
 (ab G (au (au A (by exact C E A)) (by exact C H (au A (by exact C F A)))):nE a _ w l s=_)
theorem gx{w C:dv U}(E:w l s=B ((.a,j),n))(F:C j n=q):dS w C l s=q:=ab E F
theorem zO{w C:dv U}(E:w l s=B ((.b v,j),n)):dS w C l s=B ((.b v,j),n):=ab E A
theorem cY(w:K a b e l s=B (v,c)):as a b (.b e::x) l s=B ((.b v,l),c):=(zO (ab w A):dS (nK _) (as a b x) l s=_)
theorem fd(w:K a b e l s=B (v,c))(C:as a b x l c=q):as a b (.d e::x) l s=q:=(gx (ab w A) C:dS (pn _) _ l s=_)
theorem fz(w:bc a (K a b e) l s=B (D,s))(C:as a b x l s=B ((.b v,j),c)):as a b (.a e x y::z) l s=B ((.b v,j),c):=(zO (ab w C):dS (iF a _ _ (as a b y)) (as a b z) l s=_)
theorem b'(w:bc a (K a b e) l s=B (I,s))(C:as a b z l s=q):as a b (.a e x []::z) l s=q:=(gx (ab w A) C:dS (iF a _ (as a b x) gz) _ l s=_)
end
theorem ft{e:List E}(i:a.c.c f=B d)(g:M e.length d.b=D)(h:as a (ah a n) d.a (e++bG (d.c-d.b)) s=B ((.b v,l),c)):ah a (n+1) f e s=B (v,c):=
 au i (show aI _ _=_ by exact C g ((ab h A:uS (as a (ah a n) d.a (e++bG (d.c-d.b)) s)=_)))
theorem jS{e:List E}(i:a.c.c f=B d)(g:M e.length d.b=D)(h:as a (ah a n) d.a (e++bG (d.c-d.b)) s=B ((.a,l),c)):ah a (n+1) f e s=B (.g,c):=
 au i (show aI _ _=_ by exact C g ((ab h A:uS (as a (ah a n) d.a (e++bG (d.c-d.b)) s)=_)))
end
def wX:=zr.a.take 6
def BA:=zr.a.drop 6
section
variable{b:Nat->List E->S U->av U E}{t c:S U}{e:List (Nat×E)}{p v:Nat}{a d f u:E}
noncomputable abbrev lL(p:Nat)(o:E)(v:Nat)(f:E):aC:=[.b (.d 16),.b (.c p),o,.b (.c v),f,.f,.f]
theorem zh(h:t.b (.d 16)=.e 4 e)(j:t.b (.c v)=.a [a])(i:aF a=I)(g:b 35 [.b (.d 16),.b (.c p),a] t=B (u,c)):as (H F) b BA (lL p (W 8) v f) t=B ((.b u,lL p (W 8) v f),c):=
 fz A (cY (zj A h A A (ol A A j A i) g))
theorem E'(g:t.b (.d 16)=.e 4 e)(h:t.b (.c v)=.a [a,d])(j:aF a=I)(k:aF d=I)(i:b 38 [.b (.d 16),.b (.c p),a,d] t=B (u,c)):as (H F) b BA (lL p (W 9) v f) t=B ((.b u,lL p (W 9) v f),c):=
 b' A (fz A (cY (OJ A g A A (ol A A h A j) (ol A A h A k) i)))
end
structure iO where
 b:E
 a:E
 f:E
 d:E
def Jo(q:iO)(a:Nat):=jr q.b q.a (.b (.c a)) q.f q.d
def Jm:List iO:=[D,I].flatMap λs=>[D,I].map λf=>⟨W 8,aa 5 0,.d [aa 6 0,.c s],.c f⟩
def YC:List iO:=[⟨W 9,G (-1),aa 6 0,.c D⟩,⟨W 9,G (-1),aa 6 0,.c I⟩]
def Jn:iO:=⟨W 10,G (-1),.d [aa 6 0,G 4],.c I⟩
noncomputable def tP:iO:=⟨W 25,G (-1),W 26,.c I⟩
def hY(a b:Nat)(v h:E):fr:=⟨bf [(aa 1 0,aX)] (λa z=>bf [(aa 1 0,aX),(aa 4 0,aX)] (λz z=>[]) a) a++bf [] (λz z=>[(aa 2 0,aX)]) b,
 bf [(aa 1 0,al (.b 11 0))] (λa z=>bf [(aa 1 0,al (.b 11 0)),(aa 4 0,al (.b 11 0))] (λz z=>[]) a) a++bf [] (λb z=>bf [(aa 2 0,al (.b 13 0))] (λz z=>[(aa 2 0,v)]) b) b,[],[],[],
 bf [(al (.b 11 0),aa 1 0)] (λa z=>bf [(al (.b 11 0),aa 4 0)] (λz z=>[]) a) a++bf [] (λb z=>bf [(al (.b 13 0),aa 2 0)] (λz z=>[(al (.b 10 1),h)]) b) b⟩
def tV(a b:Nat):List E:=bf [aD (aa 1 0)] (λa z=>bf [aD (aa 1 0)] (λz z=>[]) a) a++bf [] (λz z=>[aD (aa 2 0)]) b
def xq(a b):=hS [(10,11,0)] (bf (bf [] (λz z=>[dW 1 2,dW 11 13]) b) (λa z=>bf (bf [dW 1 4] (λz z=>[dW 1 2,dW 1 4,dW 2 4,dW 11 13]) b) (λz z=>[]) a) a)
def HZ:aC:=[.b (.d 16),.b (.c 1)]++bG 5
def Ie(F):=ra (gb F) (ah (gb F) 7) wX HZ
def Kg(a b:Nat):List E:=bf [al (.b 11 0)] (λa z=>bf [al (.b 11 0)] (λz z=>[]) a) a++bf [] (λb z=>bf [al (.b 13 0)] (λz z=>[al (.b 10 1)]) b) b
def A7(a b:Nat):List E:=bf [aD (aa 1 0)] (λa z=>bf [aD (aa 4 0)] (λz z=>[]) a) a++bf [] (λz z=>[aD (aa 2 0)]) b
def Ke(b:Nat):=aa 10 (bif M b 2 then 1 else 0)
noncomputable def A8(a b:Nat):=(bif M a 1 then 2 else 0)+(bif M b 2 then 6 else bif M b 1 then 2 else 0)+4
def ri(a b:Nat):=bif M a 2 then 8 else A8 a b
noncomputable def Kf(a:Nat):=bif M a 1 then 4 else 2
def Kd(q)(a b):=[.c,Jo q 2,.a (tV a b)]
def BK(q)(a b):=[.c,Jo q (Kf a),.a (tV a b),.a (Kg a b),.a (A7 a b)]
def hl:=([0,1].flatMap λa=>Jm.map λq=>(q,a,0))++([0,1].flatMap λa=>[1,2].flatMap λb=>(Jn::YC).map λq=>(q,a,b))++[(tP,0,0),(tP,1,0),(tP,2,2)]
def A9(b:Nat):List E:=bif M b 2 then[.d [.b (.d 27),al (.b 10 1),.g]]else[]
noncomputable def UE(q:iO):E:=.d [.b (.d 16),.b (.c 1),q.b,.b (.c 3),.b (.c 4),.f,.f]
theorem UI:(hl.map λq=>np (Ie (xq q.2.1 q.2.2)) (aa 10 0) (hY q.2.1 q.2.2 .f .f) .c .c (Kd q.1 q.2.1 q.2.2) 5)=
  hl.map λq=>B (UE q.1,he (Ke q.2.2) (bif M q.2.1 1 then aX else .f) (hY q.2.1 q.2.2 (al (.b 10 1)) (aa 2 0)) .c .c (A9 q.2.2) (BK q.1 q.2.1 q.2.2),3+ri q.2.1 q.2.2):=by kernel_rfl
def ox(k:Nat)(l:List (E×E)):=l.all λe=>M (bN e.1) k
def yF(T:fr):=ox 1 T.a&&(ox 1 T.b&&(ox 3 T.c&&(ox 3 T.g&&(ox 3 T.d&&ox 3 T.e))))
theorem qr{k}(h:ox k l=D):∀e∈l,bN e.1=k:=λe m=>bW (bu.mp h e m)
theorem yH(h:yF a=D):yh a:=V h λb h=>V h λc h=>V h λd h=>V h λe h=>V h λf g=>⟨qr b,qr c,qr d,qr e,qr f,qr g⟩
theorem UF:(hl.all λq=>yF (hY q.2.1 q.2.2 (al (.b 10 1)) (aa 2 0))&&cV (ri q.2.1 q.2.2) 20)=D:=by kernel_rfl
theorem bA.d{L c}(g:bA L n)(p:cg L c 17)(i:cg L c 21)(j:cg L c 24)(q:cg L c 25)(s:cg L c 26)(l:cg L c 27):bA c n:=by
 have o:∀m,fS L m->fS c m:=λm w=>w.d p (λr v h=>(i _ A).trans h) (l _ A)
 refine⟨λm h=>?_,λr v h=>?_,λk v e h=>?_⟩
 ·have w:=g.1 m h;exact(aK ((j _ A).trans w.1) ((q _ A).trans w.2.1) ((l _ A).trans w.2.2))
 ·rw[i _ A]at h;exact(g.2 r v h).imp λm w=>(aK w.1 w.2.1 (o m w.2.2))
 ·rw[s k e]at h;exact(g.3 k v e h).imp λm w=>(da w.1 w.2.1 (o m w.2.2.1) (w.2.2.2.d w.2.1.2 λu t=>by unfold cz;exact C (j _ A) A))
theorem cP.d{L i}(k:cg L i 17)(l:cg L i 21)(m:cg L i 24)(o:cg L i 27):cP L i n:=⟨k,λr v j=>(l _ A).trans j,λp z=>m _ A,λp z=>o _ A⟩
inductive cw(L)(n) where
 |mk (f:∀m,n<m->L 27 (ax m)=N)
  (s:∀r v,L 21 (G r)=B v->∃m,v=ax m/\(0<=m/\m<=n)/\fS L m)
theorem bA.a{L}(g:bA L n):cw L n:=⟨λm h=>(g.1 m h).2.2,g.2⟩
theorem cw.d{L c}(g:cw L n)(i:cg L c 17)(k:cg L c 21)(e:cg L c 27):cw c n:=
 ⟨λm h=>(e _ A).trans (g.1 m h),λr v h=>(g.2 r v ((k _ A).symm.trans h)).imp λm w=>(aK w.1 w.2.1 (w.2.2.d i (λr v h=>(k _ A).trans h) (e _ A)))⟩
theorem cw.b{L e}(g:cw L n)(l:bU L c)(p:0<=m/\m<=n)(o:fS L m)(s:cg L e 17)(u:fs L e 21 (G c) (ax m))(k:cg L e 27):cw e n:=
 have i:∀m,fS L m->fS e m:=λm w=>w.d s (re l.2 u) (k _ A)
 ⟨λm h=>(k _ A).trans (g.1 m h),λr v h=>(di (r=c)).elim (λq=>(bi m ((R (u.1.symm.trans (J q h))).symm) p (i m o))) λq=>(g.2 r v ((u.2 _ A λj=>q (dx j)).symm.trans h)).imp λm w=>(aK w.1 w.2.1 (i m w.2.2))⟩
theorem cw.f{L g}{n c}(k:cw L n)(o:0<=n)(i:bU L c)(l:cg L g 17)(u:fs L g 21 (G c) (ax (n+1)))(j:fs L g 27 (ax (n+1)) (G c)):cw g (n+1):=
 have p:∀m,m<=n->m≠n+1:=λm h e=>jP [_,_] (.a 1 (.a 0) (.a 1) (.c (-1) (.a 0) (.c (.a 1) (.b 1)) .b)) A h e
 ⟨λm h=>(j.2 _ A λe=>jP [_,_] (.a 1 (.c (.c (.a 0) (.b 1)) (.b 1)) (.a 1) (.c 1 (.a 1) (.c (.a 0) (.b 1)) .b)) A h (fO e)).trans (k.1 m (M4 (ic n) h)),λr v h=>(di (r=c)).elim (λq=>⟨n+1,(R (u.1.symm.trans (J q h))).symm,⟨ex o,bt _⟩,c,i.1,j.1,u.1,(l _ A).trans i.3⟩)
  λq=>(k.2 r v ((u.2 _ A λe=>q (dx e)).symm.trans h)).imp λm w=>(aK w.1 ⟨w.2.1.1,ex w.2.1.2⟩ (w.2.2.d l (re i.2 u) (j.2 _ A λe=>p m w.2.1.2 (fO e))))⟩
inductive Dx(r)(t:S U)(p q)(s:iO)(b)(l) where
 |mk (c:∃f,t.b (.c p)=.e 0 f/\jH r [(0,s.b),(1,s.a),(2,b),(3,s.f),(4,s.d),(5,G 0)] f)
  (a:t.b (.c q)=.a (aw r l))
inductive eJ(a t)(h p e)(o g m j)(d n r)(k c) where
 |mk (K:∃v i,as (H F) (ah (H F) 7) wX ([.b (.d 16),.b (.c p)]++bG 5) a=B ((.a,lL p o v i),t)/\t.b (.c v)=.a k)
  (J:bz t h n)
  (w:bA (L a) d->bA (L t) n)
  (y:cw (L t) n)
  (l:cP (L a) (L t) d)
  (s:∀x,x≠r->L a 21 (G x)=N->L t 21 (G x)=N)
  (Q:∃q,bm t p q o g m j c/\(q=e∨(a.a<=q/\q<t.a)))
  (E:a.a<=t.a)
  (z:t.a<=a.a+20)
  (P:jN a t)
  (u:∀b,b<a.a->(∀f∈[p,e],b≠f)->t.b (.c b)=a.b (.c b))
  (C:c.length<1000)
section
variable{t:S U}{f p q:Nat}{b n:Int}{a z:List Int}
noncomputable abbrev eh(t:S U)(a z:List Int)(f p q:Nat):em:=⟨a,z,[],[f,p,q],t.a,0⟩
theorem oK(k:(s,c,d)∈hl)(o:bz t f b)(v:t.a<=90000)(J:aS 900 n)(i:cu t f p q)(P:cM (ai (eh t a z f p q)) (xq c d))(y:Q (ai (eh t a z f p q)) (aa 10 0)=G b)(C:Q (ai (eh t a z f p q)) (Ke d)=G n)
  (m:lx (ai (eh t a z f p q)) t (hY c d .f .f)) (h:Dx (ai (eh t a z f p q)) t p q s (.b (.c 2)) (tV c d)):
  ∃e,as (H F) (ah (H F) 7) wX ([.b (.d 16),.b (.c p)]++bG 5) t=B ((.a,lL p (Q (ai (eh t a z f p q)) s.b) t.a (.b (.c (t.a+1)))),e)/\
   rZ (dh (xq c d) (eh t a z f p q) t.b) t e f n (hY c d (al (.b 10 1)) (aa 2 0)) .c .c (BK s c d) (ri c d)/\ri c d<=20/\∀c,c<t.a->(∀d∈[p,q],c≠d)->e.b (.c c)=t.b (.c c):=by
 have r:=eS.mp UI _ k;dsimp only at r;exact V (bu.mp UF _ k) λE l=>((oP (e:=hY c d _ _) (p:=.c) (j:=.c) (d:=Kd s c d) (m:=5) (a7:=Ie _) (λK L u=>Bk (gF (i.e A A) P) 7 _ HZ u) o v (aV (bH l) (by decide)) J A (i.e A A) P A y C A (by rcases d with _|_|_|d<;>rfl)
  m (yH E) rfl rfl (an f _ rfl rfl (an p _ rfl h.1 (an q [] rfl h.2 rfl))) rfl r).imp λe g=>(da (Bj (g.1)) g.2.1 (bH l) (λc w x=>if j:c=f then j▸g.2.1.11 0 _ A else g.2.2 c w (T j x))))
end
def wG(s:iO):=!(aF s.b)&&(!(aF s.a)&&(!(aF s.f)&&!(aF s.d)))
theorem BL:(hl.all λq=>wG q.1)=D:=by kernel_rfl
theorem Jq(h:wG s=D)(g:aF b=I):[(0,s.b),(1,s.a),(2,b),(3,s.f),(4,s.d),(5,G 0)].map (λe=>(e.1,ff r e.2))=tQ (Q r s.b) (Q r s.a) (Q r b) (Q r s.f) (Q r s.d):=V h λa h=>V h λc h=>V h λd f=>by
 show[(0,ff r s.b),(1,ff r s.a),(2,ff r b),(3,ff r s.f),(4,ff r s.d),(5,B (G 0))]=_
 exact C (lb (cq a)) (C (lb (cq c)) (C (lb (cq d)) (C (lb (cq f)) (C (lb g) A))))
inductive pD(L a) where
 |mk (o:cg L a 17)
  (s:cg L a 21)
  (p:cg L a 24)
  (f:cg L a 25)
  (e:cg L a 26)
  (h:cg L a 27)
theorem wP(g:lx x.b t a)(z:rZ x t b f n a p e c d):pD (L t) (L b):=
 ⟨bQ g.1.1 z.3,bQ g.2.1 z.4,bQ g.3.1 z.5,bQ g.4.1 z.6,bQ g.5.1 z.7,bQ g.6.1 z.8⟩
theorem pD.a{L b}(k:pD L b)(g:bA L n):bA b n:=g.d k.1 k.2 k.3 k.4 k.5 k.6
theorem pD.d{L b}(k:pD L b):cP L b n:=.d k.1 k.2 k.3 k.6
theorem bb.a{k}:bb r k o []:=⟨ae,.nil⟩
section
variable{t:S U}{f p q:Nat}{n m a r b e d w:Int}{s:iO}
abbrev eq(t:S U)(r b e d w n m a:Int)(f p q:Nat):=eh t [0,r,b,0,e,d,w] [n,m,0,a] f p q
theorem oI{l}{u}(Z:wG s=D)(a3:cu t f p q)
  (V:as (H F) (ah (H F) 7) wX ([.b (.d 16),.b (.c p)]++bG 5) t=B ((.a,lL p (Q (ai (eh t h z f p q)) s.b) t.a (.b (.c (t.a+1)))),l))
  (o:rZ (dh (xq c g) (eh t h z f p q) t.b) t l f i (hY c g (al (.b 10 1)) (aa 2 0)) .c .c (BK s c g) (ri c g)) (E:ri c g<=20) (P:∀c,c<t.a->(∀g∈[p,q],c≠g)->l.b (.c c)=t.b (.c c))
  (a0:aw (ai (eh t h z f p q)) (Kg c g)=v) (X:(eh t h z f p q).b (.c (Kf c))=.c u) (W:l.b (.c u)=.a j) (Y:u=q∨(t.a<=u/\u<l.a)) (a2:j.length<1000) (S:bA (L t) n->bA (L l) i) (U:cw (L l) i) (J:cP (L t) (L l) n) (K:∀x,x≠k->L t 21 (G x)=N->L l 21 (G x)=N):
  eJ t l f p q (Q (ai (eh t h z f p q)) s.b) (Q (ai (eh t h z f p q)) s.a) (Q (ai (eh t h z f p q)) s.f) (Q (ai (eh t h z f p q)) s.d) n i k v j:=
 ⟨(dE t.a _ V ((o.11 3 _ A).trans (O _ a0))),
  o.1,
  S,
  U,
  J,
  K,
  (ag u ⟨(o.11 1 _ A).imp λa1 y=>⟨y.1,by
  have w:=(Jq (r:=ai _) Z A).subst (motive:=λT=>cL T a1) y.2;rw[show Q _ (.b _)=.b _ from O _ X]at w
  exact w⟩,W⟩ Y),
  C o.2 (bX _ _),
  C o.2 (dT E _),
  ⟨o.9,o.10⟩,
  P,
  a2⟩
theorem oJ(k:wG s=D)(j:aw (ai (eh t c z f p q)) (tV g h)=l)(i:bm t p q (Q (ai (eh t c z f p q)) s.b) (Q (ai (eh t c z f p q)) s.a) (Q (ai (eh t c z f p q)) s.f) (Q (ai (eh t c z f p q)) s.d) l):Dx (ai (eh t c z f p q)) t p q s (.b (.c 2)) (tV g h):=
 ⟨i.1.imp λl y=>⟨y.1,(Jq k A).symm.subst (motive:=λT=>cL T l) y.2⟩,C j i.2⟩
abbrev yq(t i:S U)(f p q)(v)(s:iO)(n g h)(j c:List E):=eJ t i f p q (Q (ai v) s.b) (Q (ai v) s.a) (Q (ai v) s.f) (Q (ai v) s.d) n g h j c
abbrev yw(t:S U)(p q)(v)(s:iO)(l:List E):=bm t p q (Q (ai v) s.b) (Q (ai v) s.a) (Q (ai v) s.f) (Q (ai v) s.d) l
theorem db(h:0<=k):aS k 0:=aS.b h
theorem xy(l:aS 20 r)(u:aS 20 b)(c:aS 20 e)(h:aS 20 d)(v:aS 20 w)(j:aS 1000 n)(g:aS 1000 m)(i:aS 1000 a)(x:m<=n)(k:∀y∈o,lt (ai (eq t r b e d w n m a f p q)) y):cM (ai (eq t r b e d w n m a f p q)) (hS [(10,11,0)] o):=
 gB (T (db (by decide)) (T l (T u (T (db (by decide)) (T c (T h (T v ae))))))) (T j (T g (T (db (by decide)) (T i ae)))) ae (T (show 0<=n-m from CH.mpr x) ae) k
theorem Ih(C:(s,0,0)∈hl)(J:e≠r->(s,1,0)∈hl)(c:bz t f n)(y:cw (L t) n)(x:t.a<=90000)(j:cu t f p q)(h:dL (L t) r m)(E:cx (L t) m e)(F:0<=m/\m<=n)(K:aS 20 d)(Q:aS 20 w)
  (v:yw t p q (eq t r 0 e d w n m 0 f p q) s [aD (G r)]):∃u,yq t u f p q (eq t r 0 e d w n m 0 f p q) s n n r [ax m] [aD (G e)]:=by
 have l:=bu.mp BL _ C;have P:=λS=>xy (t:=t) (o:=S) (f:=f) (p:=p) (q:=q) h.1 (db (by decide)) E.1 K Q c.11.c (c.11.c.d F) (db (by decide)) F.2
 by_cases o:e=r
 ·subst o;have g:lx (ai (eq t e 0 e d w n m 0 f p q)) t (hY 0 0 .f .f):=⟨⟨bh ⟨A,A,h.3⟩,cc⟩,⟨bh ⟨A,A,h.2⟩,cc⟩,.a,.a,.a,⟨bh ⟨A,A,E.2⟩,cc⟩⟩
  exact(oK C c x c.11 j (P _ ae) A A g (oJ l A v)).imp λu z=>have k:=wP g z.2.1
   oI l j z.1 z.2.1 z.2.2.1 z.2.2.2 A A (z.2.1.11 2 _ A) (.inl A) (dH A) k.a (y.d k.1 k.2 k.6) k.d λU V i=>(k.2 _ A).trans i
 ·have H:r≠e:=λi=>o i.symm
  have g:lx (ai (eq t r 0 e d w n m 0 f p q)) t (hY 1 0 .f .f):=⟨⟨bl ⟨A,A,h.3⟩ ⟨A,A,E.4⟩,ep A⟩,⟨bl ⟨A,A,h.2⟩ ⟨A,A,E.3⟩,ep A⟩,.a,.a,.a,⟨bh ⟨A,A,E.2⟩,cc⟩⟩
  exact(oK (J o) c x c.11 j (P _ (T (dO H) ae)) A A g (oJ l A v)).imp λu z=>have k:=wP g z.2.1
   oI l j z.1 z.2.1 z.2.2.1 z.2.2.2 A A (z.2.1.11 4 _ A) (.inr ⟨bX _ _,z.2.1.2▸ht (bH A) _⟩) (dH A) k.a (y.d k.1 k.2 k.6) k.d λU V i=>(k.2 _ A).trans i
theorem Ig(F:(s,0,1)∈hl)(S:(s,1,1)∈hl)(c:bz t f n)(C:cw (L t) n)(y:t.a<=90000)(j:cu t f p q)(g:dL (L t) r m)(E:cx (L t) m e)(H:0<=m/\m<=n)(K:cx (L t) a b)(V:0<=a/\a<=n)(o:m≠a)(U:aS 20 d)(W:aS 20 w)
  (v:yw t p q (eq t r b e d w n m a f p q) s [aD (G r),aD (G b)]):∃u,yq t u f p q (eq t r b e d w n m a f p q) s n n b [ax m,ax a] [aD (G e),aD (G b)]:=by
 have l:=bu.mp BL _ F;have P:=λX=>xy (t:=t) (o:=X) (f:=f) (p:=p) (q:=q) g.1 K.1 E.1 U W c.11.c (c.11.c.d H) (c.11.c.d V) H.2
 have J:=dO (v:=eq t r b e d w n m a f p q) (i:=1) (j:=2) (cx.b g K.c o);have Q:=dO (v:=eq t r b e d w n m a f p q) (i:=11) (j:=13) o
 by_cases x:e=r
 ·subst x;have h:lx (ai (eq t e b e d w n m a f p q)) t (hY 0 1 .f .f):=⟨⟨bl ⟨A,A,g.3⟩ ⟨A,A,K.4⟩,ep A⟩,⟨bl ⟨A,A,g.2⟩ ⟨A,A,K.3⟩,ep A⟩,.a,.a,.a,⟨bl ⟨A,A,E.2⟩ ⟨A,A,K.2⟩,ep A⟩⟩
  exact(oK F c y c.11 j (P _ (T J (T Q ae))) A A h (oJ l A v)).imp λu z=>have k:=wP h z.2.1
   oI l j z.1 z.2.1 z.2.2.1 z.2.2.2 A A (z.2.1.11 2 _ A) (.inl A) (dH A) k.a (C.d k.1 k.2 k.6) k.d λY Z i=>(k.2 _ A).trans i
 ·have h:lx (ai (eq t r b e d w n m a f p q)) t (hY 1 1 .f .f):=⟨⟨lz ⟨A,A,g.3⟩ ⟨A,A,E.4⟩ ⟨A,A,K.4⟩,lV A A⟩,⟨lz ⟨A,A,g.2⟩ ⟨A,A,E.3⟩ ⟨A,A,K.3⟩,lV A A⟩,.a,.a,.a,⟨bl ⟨A,A,E.2⟩ ⟨A,A,K.2⟩,ep A⟩⟩
  exact(oK S c y c.11 j (P _ (T J (T (dO λi=>x i.symm) (T (dO (cx.b E.c K.c o).symm) (T Q ae))))) A A h (oJ l A v)).imp λu z=>have k:=wP h z.2.1
   oI l j z.1 z.2.1 z.2.2.1 z.2.2.2 A A (z.2.1.11 4 _ A) (.inr ⟨bX _ _,z.2.1.2▸ht (bH A) _⟩) (dH A) k.a (C.d k.1 k.2 k.6) k.d λY Z i=>(k.2 _ A).trans i
end
theorem cw.a{L c}(h:cw L n)(i:0<=n)(e:bU L r)(k:cg L c 17)(u:fs L c 21 (G r) (ax (n+1)))(g:fs L c 27 (ax (n+1)) (G r))(j:cg L c 24)(q:cg L c 25)(s:cg L c 26):(bA L n->bA c (n+1))/\cw c (n+1)/\cP L c n/\cx c (n+1) r:=
 (da (λh=>h.f i e k u g (λm z=>j _ A) (λm z=>q _ A) λp v o l=>.inl ((s p o).symm.trans l)) (h.f i e k u g) (.f e k u g λm z=>j _ A) ⟨e.1,g.1,u.1,(k _ A).trans e.3⟩)
section
variable{t:S U}{f p q:Nat}{n m a r e d w:Int}{s:iO}
theorem UH(Q:(s,0,2)∈hl)(V:(s,1,2)∈hl)(c:bz t f n)(v:cw (L t) n)(H:t.a<=90000)(Y:n+1<=900)(l:cu t f p q)(h:dL (L t) a m)(E:cx (L t) m e)(x:0<=m/\m<=n)(K:bU (L t) r)(W:aS 20 d)(X:aS 20 w)
  (C:yw t p q (eq t a r e d w n m (n+1) f p q) s [aD (G a),aD (G r)]):∃u,yq t u f p q (eq t a r e d w n m (n+1) f p q) s n (n+1) r [ax m,ax (n+1)] [aD (G e),aD (G r)]/\cx (L u) (n+1) r:=by
 have o:=bu.mp BL _ Q;have y:aS 900 _:=⟨ex c.11.1,Y⟩
 have J:=v.1 _ (ic n);have P:=λZ=>xy (t:=t) (o:=Z) (f:=f) (p:=p) (q:=q) h.1 K.1 E.1 W X c.11.c (c.11.c.d x) y.c x.2
 have S:=dO (v:=eq t a r e d w n m (n+1) f p q) (i:=1) (j:=2) (K.c h).symm;have U:=dO (v:=eq t a r e d w n m _ f p q) (i:=11) (j:=13) (hp (CC x.2))
 by_cases F:e=a
 ·subst F;have g:bb (ai (eq t e r e d w n m (n+1) f p q)) 1 _ ([(aa 1 0,al (.b 11 0))]++[(aa 2 0,.f)]):=⟨bl ⟨A,A,h.2⟩ ⟨A,A,K.2⟩,ep A⟩
  have k:bb (ai (eq t e r e d w n m (n+1) f p q)) 3 _ ([(al (.b 11 0),aa 1 0)]++[(al (.b 10 1),.f)]):=⟨bl ⟨A,A,E.2⟩ ⟨A,A,J⟩,ep A⟩
  have j:bb (ai (eq t e r e d w n m (n+1) f p q)) 1 _ (hY 0 2 .f .f).a:=⟨bl ⟨A,A,h.3⟩ ⟨A,A,K.3⟩,ep A⟩
  exact(oK Q c H y l (P _ (T S (T U ae))) A A ⟨j,g,.a,.a,.a,k⟩ (oJ o A C)).imp λu z=>have b:=cw.a v c.11.1 K (bQ j.1 z.2.1.3) (cA g.1 z.2.1.4 A) (cA k.1 z.2.1.8 A) (bQ ae z.2.1.5) (bQ ae z.2.1.6) (bQ ae z.2.1.7)
   ⟨oI o l z.1 z.2.1 z.2.2.1 z.2.2.2 A A (z.2.1.11 2 _ A) (.inl A) (dH A) b.1 b.2.1 b.2.2.1 (λa0 i e=>((cA g.1 z.2.1.4 A).2 _ A λq=>i (dx q)).trans e),b.2.2.2⟩
 ·have g:bb (ai (eq t a r e d w n m (n+1) f p q)) 1 _ ([(aa 1 0,al (.b 11 0)),(aa 4 0,al (.b 11 0))]++[(aa 2 0,.f)]):=⟨lz ⟨A,A,h.2⟩ ⟨A,A,E.3⟩ ⟨A,A,K.2⟩,lV A A⟩
  have k:bb (ai (eq t a r e d w n m (n+1) f p q)) 3 _ ([(al (.b 11 0),aa 4 0)]++[(al (.b 10 1),.f)]):=⟨bl ⟨A,A,E.2⟩ ⟨A,A,J⟩,ep A⟩
  have j:bb (ai (eq t a r e d w n m (n+1) f p q)) 1 _ (hY 1 2 .f .f).a:=⟨lz ⟨A,A,h.3⟩ ⟨A,A,E.4⟩ ⟨A,A,K.3⟩,lV A A⟩
  exact(oK V c H y l (P _ (T S (T (dO λi=>F i.symm) (T (dO (K.c E.c)) (T U ae))))) A A ⟨j,g,.a,.a,.a,k⟩ (oJ o A C)).imp λu z=>have b:=cw.a v c.11.1 K (bQ j.1 z.2.1.3) (cA g.1 z.2.1.4 A) (cA k.1 z.2.1.8 A) (bQ ae z.2.1.5) (bQ ae z.2.1.6) (bQ ae z.2.1.7)
   ⟨oI o l z.1 z.2.1 z.2.2.1 z.2.2.2 A A (z.2.1.11 4 _ A) (.inr ⟨bX _ _,z.2.1.2▸ht (bH A) _⟩) (dH A) b.1 b.2.1 b.2.2.1 (λa0 i e=>((cA g.1 z.2.1.4 A).2 _ A λq=>i (dx q)).trans e),b.2.2.2⟩
theorem UG(b:bz t f n)(j:cw (L t) n)(u:t.a<=90000)(y:n+1<=900)(i:cu t f p q)(K:bU (L t) r)(o:bm t p q (W 25) (G (-1)) (W 26) (.c I) [aD (G r)]):
  ∃g,eJ t g f p q (W 25) (G (-1)) (W 26) (.c I) n (n+1) r [ax (n+1)] [aD (G r)]/\cx (L g) (n+1) r:=by
 have h:bb (ai (eq t 0 r 0 0 0 n 0 0 f p q)) 1 _ ([]++[(aa 2 0,.f)]):=⟨bh ⟨A,A,K.2⟩,cc⟩
 have l:bb (ai (eq t 0 r 0 0 0 n 0 0 f p q)) 3 _ ([]++[(al (.b 10 1),.f)]):=⟨bh ⟨A,A,j.1 (n+1) (ic n)⟩,cc⟩
 have k:bb (ai (eq t 0 r 0 0 0 n 0 0 f p q)) 1 _ (hY 2 2 .f .f).a:=⟨bh ⟨A,A,K.3⟩,cc⟩
 have x:(tP,2,2)∈hl:=iH _ (.tail _ (.tail _ (.head _)));exact(oK x b u ⟨ex b.11.1,y⟩ i (xy (db (by decide)) K.1 (db (by decide)) (db (by decide)) (db (by decide)) b.11.c (db (by decide)) (db (by decide)) b.11.1 ae) A A ⟨k,h,.a,.a,.a,l⟩ (oJ A A o)).imp λg z=>have c:=cw.a j b.11.1 K (bQ k.1 z.2.1.3) (cA h.1 z.2.1.4 A) (cA l.1 z.2.1.8 A) (bQ ae z.2.1.5) (bQ ae z.2.1.6) (bQ ae z.2.1.7)
   ⟨oI (s:=tP) A i z.1 z.2.1 z.2.2.1 z.2.2.2 A A (z.2.1.11 2 _ A) (.inl A) (dH A) c.1 c.2.1 c.2.2.1 (λC v e=>((cA h.1 z.2.1.4 A).2 _ A λq=>v (dx q)).trans e),c.2.2.2⟩
end
def hQ(k:Nat):E:=bf (.d [eZ 0,aa 0 0]) (λk z=>bf (.d [eZ 1,aa 0 0]) (λz z=>.f) k) k
def hd(k:Nat)(w:Int):E:=bf (.d [eZ 0,aa 0 0,G w]) (λk z=>bf (.d [eZ 1,aa 0 0,G w]) (λz z=>.d [al (.b 11 0),G 0,G w]) k) k
noncomputable def dn(w:Int)(s:Bool):=bif w==4 then W 13 else bif s then W 11 else W 12
noncomputable def jw(w:Int)(s:Bool):=bif w==1 then(bif s then W 14 else W 16)else bif s then W 15 else W 17
def zY(F):=ah (gb F) 7 35 [.b (.d 16),.b (.c 1),al (.b 11 0)]
def Gy(w:Int)(s f:Bool):=jr (W 8) (aa 5 0) (.b (.c 2)) (.d [G w,.c s]) (.c f)
def zS(P v h:E):fr:=⟨[]++[(aa 5 0,aX)],[]++[(aa 5 0,v)],[(al (.b 11 0),P)],[],[],[]++[(al (.b 10 1),h)]⟩
def gd:=hS [] []
def GG(v h:E):fr:=⟨[]++[(aa 5 0,aX)],[]++[(aa 5 0,v)],[],[],[],[]++[(al (.b 10 1),h)]⟩
theorem PX:([D,I].map λs=>np (ah (gb gd) 7 35 [.b (.d 16),.b (.c 1),al (.b 11 0)]) (aa 10 0) (GG .f .f) .c .c [.c,jr (W 8) (aa 5 0) (.b (.c 2)) (.d [aa 6 0,.c s]) aX,.c] 3)=
  [D,I].map λs=>B (.c D,he (aa 10 1) .f (GG (al (.b 10 1)) (aa 5 0)) .c .c [.d [.b (.d 27),al (.b 10 1),.g]] [.c,jr (W 8) (aa 5 0) (.b (.c 2)) (.d [aa 6 0,.c s]) aX,.c],7):=by kernel_rfl
noncomputable def nc:List (Nat×Int×Bool):=[0,1,2].flatMap λk=>[4,1,2].flatMap λw=>[D,I].map λs=>(k,w,s)
def Se(k:Nat)(w:Int):List E:=[.d [.b (.d 23),hd k w,.g],.d [.b (.d 27),al (.b 10 1),.g]]
theorem Tw:(nc.map λq=>np (zY gd) (aa 10 0) (zS (hQ q.1) .f .f) .c (gC ([]++[(hd q.1 q.2.1,.f)])) [.c,Gy q.2.1 q.2.2 I,.c] 5)=
  nc.map λq=>B (.c D,he (aa 10 1) .f (zS (hQ q.1) (al (.b 10 1)) (aa 5 0)) .c (gC ([]++[(hd q.1 q.2.1,.b (.c 4))])) (Se q.1 q.2.1) [.c,Gy q.2.1 q.2.2 I,.c,.f,.e 3 [(16,al (.b 10 1)),(17,dn q.2.1 q.2.2)]],12):=by kernel_rfl
def zH(P v:E):fr:=⟨[(aa 3 0,aX)]++[(aa 5 0,aX)],[(aa 3 0,al (.b 13 0))]++[(aa 5 0,v)],[(al (.b 11 0),P)],[],[],[(al (.b 13 0),aa 3 0)]⟩
def FN:=hS [] [dW 3 5]
def FO(w)(s)(h):=[.c,jr (W 8) (aa 5 0) .f (.d [G w,.c s]) (.c I),.e 3 [(16,al (.b 13 0)),(17,h)]]
def pT(k:Nat)(w:Int):=gC [(hd k w,.b (.c 2))]
def N'(k:Nat):=jr (W 6) (aa 5 0) (.b (.c k)) (G 0) (.c I)
theorem Wt:(nc.map λq=>np (zY FN) (aa 10 0) (zH (hQ q.1) .f) .c (pT q.1 q.2.1) (FO q.2.1 q.2.2 (dn q.2.1 q.2.2)) 5)=
  nc.map λq=>B (.c D,he (aa 10 0) aX (zH (hQ q.1) (al (.b 13 0))) .c (pT q.1 q.2.1) [] [.c,N' 4,.e 3 [(16,al (.b 13 0)),(17,dn q.2.1 q.2.2)],.f,.a [aD (aa 3 0)]],9):=by kernel_rfl
def rn(w:Int)(s:Bool):E:=.d [jw w s,G 0,.d [al (.b 13 0)]]
def B'(P:E)(K v h F:E):fr:=⟨[(aa 3 0,aX)]++[(aa 5 0,aX)],[(aa 3 0,al (.b 13 0))]++[(aa 5 0,v)],[(al (.b 11 0),P)],[]++[(al (.b 10 1),F)],[]++[(K,v)],[(al (.b 13 0),aa 3 0)]++[(al (.b 10 1),h)]⟩
def Kw:=hS [(10,13,0)] [dW 3 5]
def xB:List (Nat×Int×Bool×E):=[0,1,2].flatMap λk=>[1,2].flatMap λw=>[D,I].flatMap λs=>[W 13,dn 1 (!s)].map λh=>(k,w,s,h)
theorem H6:(xB.map λq=>np (zY Kw) (aa 10 0) (B' (hQ q.1) (rn q.2.1 q.2.2.1) .f .f .f) .c (pT q.1 q.2.1) (FO q.2.1 q.2.2.1 q.2.2.2) 4)=
  xB.map λq=>B (.c D,he (aa 10 1) aX (B' (hQ q.1) (rn q.2.1 q.2.2.1) (al (.b 10 1)) (aa 5 0) (rn q.2.1 q.2.2.1)) .c (pT q.1 q.2.1) [.d [.b (.d 26),rn q.2.1 q.2.2.1,.g],.d [.b (.d 27),al (.b 10 1),.g]] [.c,jr (jw q.2.1 q.2.2.1) (aa 5 0) (.b (.c 3)) (G 0) (.c I),.e 3 [(16,al (.b 13 0)),(17,q.2.2.2)],.a [aD (aa 3 0)]],16):=by kernel_rfl
noncomputable def m':bq->Nat
 |.e c _=>c
 |_=>100
theorem oy{h:U}(d:h a=o)(f:h b=c)(k:m' o≠m' c):a≠b:=λe=>k (J d (J f (C e A)))
def ii(t:S U)(v:E)(m)(h):=∃c,v=.b (.c c)/\c<t.a/\∃f,t.b (.c c)=.e 3 f/\cL [(16,B (ax m)),(17,B h)] f
theorem ii.d{p q}{v h}{m}{k}{r}(l:ii t v m h)(j:∀c,c<t.a->(∀g∈[p,q],c≠g)->a.b (.c c)=t.b (.c c))(s:t.a<=a.a)(n:t.b (.c p)=.e 0 k)(o:t.b (.c q)=.a r):ii a v m h:=
 l.imp λi z=>(aK z.1 (cO z.2.1 s) (z.2.2.imp λf w=>⟨(j i z.2.1 (bl (λe=>oy w.1 n (show m' (.e 3 f)≠m' _ from(by decide:3≠0)) (O af.c e)) λe=>oy w.1 o (show m' (.e 3 f)≠m' _ from(by decide:3≠100)) (O af.c e))).trans w.1,w.2⟩))
theorem H'{f}{m o}(r:nU f)(h:cz (L t) m=.d [f,G o]):∃k∈[0,1,2],∃b c,aS 1000 b/\(∀x∈c,x<51)/\∀v,Z v.f 0=B o->Z v.e 1=B m->Z v.e 2=B b->v.g=c->
  L t 24 (ax m)=(dZ (hQ k)).map (Q (ai v))/\∀w,Q (ai v) (hd k w)=.d [f,G o,G w]:=by
 unfold cz at h;cases g:L t 24 _ with
 |none=>
  rw[g]at h;exact(ag 2 (by decide) (an 0 [] ⟨bt _,by decide⟩ ae (λv e q e e=>⟨A,λw=>by
   show E.d [.d [W 2,.a (.a ((Z v.e 1).getD 0))],G 0,G w]=_
   exact C q (C ((R (O (dP 0) h)).symm) (C ((dx (R (O (dP 1) h))).symm) A))⟩)))
 |some x=>
  rw[g]at h;refine r.elim λa z=>aq z.2 λb c d=>(ag a ((by decide:∀k∈[0,1],k∈[0,1,2]) a z.1) (an b c d.1 d.2.1 (λv p s i j=>?_)))
  have n:∀k∈[0,1],hQ k=.d [eZ k,aa 0 0]/\∀w,hd k w=.d [eZ k,aa 0 0,G w]:=T ⟨A,λe=>A⟩ (T ⟨A,λe=>A⟩ ae);have l:(ai v).a (.b 0 0)=o:=by show(Z v.f 0).getD 0=o;exact C p A
  constructor
  ·exact C ((n a z.1).1) (O B (h.trans (by
    show _=E.d [Q _ _,.a _]
    exact C (d.2.2 v i j) (C l A))))
  ·intro w;rw[(n a z.1).2 w];show E.d [Q _ _,.a _,G w]=_
   exact C (d.2.2 v i j) (C l A)
abbrev lO(p)(m)(t):=ah (H F) 7 35 [.b (.d 16),.b (.c p),ax m]
  t
inductive Do(a t)(f p q)(n d w)(s e)(l) where
 |mk (u:bz t f (n+1))
  (j:bA (L a) n->bA (L t) (n+1))
  (k:cw (L t) (n+1))
  (g:cP (L a) (L t) n)
  (h:∀x,x≠d->L a 21 (G x)=N->L t 21 (G x)=N)
  (m:cx (L t) (n+1) d)
  (y:bm t p q (W 8) (G d) (.d [G w,.c s]) (.c e) l)
  (r:a.a<=t.a)
  (o:t.a<=a.a+20)
  (v:t.b (.d 19)=a.b (.d 19))
  (i:∀b,b<a.a->(∀c∈[p,q],b≠c)->t.b (.c b)=a.b (.c b))
section
variable{t:S U}{f p q:Nat}{n m d w o:Int}{s:Bool}{a:E}{l:List E}
theorem Sz(c:bz t f n)(u:cw (L t) n)(E:t.a<=90000)(S:n+1<=900)(r:cu t f p q)(K:0<=m/\m<=n)(e:bU (L t) d)(Q:aS 20 w)(j:bm t p q (W 8) (G d) (.d [G w,.c s]) (.c D) l):
  ∃b,lO p m t=B (.c D,b)/\Do t b f p q n d w s D l/\b.b (.d 23)=t.b (.d 23):=by
 have i:bb (ai (eh t [0,0,0,0,0,d,w] [n,m] f p q)) 1 _ ([]++[(aa 5 0,.f)]):=⟨bh ⟨A,A,e.2⟩,cc⟩
 have x:bb (ai (eh t [0,0,0,0,0,d,w] [n,m] f p q)) 3 _ ([]++[(al (.b 10 1),.f)]):=⟨bh ⟨A,A,u.1 (n+1) (ic n)⟩,cc⟩
 have v:bb (ai (eh t [0,0,0,0,0,d,w] [n,m] f p q)) 1 _ ([]++[(aa 5 0,aX)]):=⟨bh ⟨A,A,e.3⟩,cc⟩
 have P:cM (ai (eh t _ _ f p q)) gd:=gB (T (db (by decide)) (T (db (by decide)) (T (db (by decide)) (T (db (by decide)) (T (db (by decide)) (T e.1 (T Q ae))))))) (T c.11.c (T (c.11.c.d K) ae)) ae ae ae;exact(oP (p:=.c) (j:=.c) (c:=4)
  (d:=[.c,jr (W 8) (aa 5 0) (.b (.c 2)) (.d [aa 6 0,.c s]) aX,.c]) (m:=3) (a6:=lO p m) (λU b y=>jR (gF (r.e A A) P) 7 35 [.b (.d 16),.b (.c 1),al (.b 11 0)] U b y) c E (by decide) ⟨ex c.11.1,S⟩ A (r.e A A) P A A A A A
  ⟨v,i,.a,.a,.a,x⟩ (yH A) A A (an f _ A A (an p _ A j.1 (an q [] A A A))) A (eS.mp PX s (by cases s<;>decide))).imp λb z=>by
   have g:=cw.a u c.11.1 e (bQ v.1 z.2.1.3) (cA i.1 z.2.1.4 A) (cA x.1 z.2.1.8 A) (bQ ae z.2.1.5) (bQ ae z.2.1.6) (bQ ae z.2.1.7);exact(aK z.1 ⟨z.2.1.1,g.1,g.2.1,g.2.2.1,λV F h=>((cA i.1 z.2.1.4 A).2 _ A λq=>F (dx q)).trans h,g.2.2.2,⟨z.2.1.11 1 _ A,(z.2.1.11 2 _ A).trans j.2⟩,C z.2.1.2 (bX _ _),C z.2.1.2 (dT (by decide) _),z.2.1.9,λk H J=>if h:k=f then h▸z.2.1.11 0 _ A else z.2.2 k H (T h J)⟩ z.2.1.10)
theorem SB{k}{x}(b5:(k,w,s)∈nc)(e:bz t f n)(X:cw (L t) n)(b1:t.a<=90000)(c0:n+1<=900)(b0:cu t f p q)(b6:0<=m/\m<=n)(j:bU (L t) d)(b7:aS 20 o)(F:aS 1000 b)(b9:∀a8∈x,a8<51)(S:bE t.a 3 (t.b (.d 23)))
  (Y:L t 24 (ax m)=(dZ (hQ k)).map (Q (ai ⟨[o,0,0,0,0,d],[n,m,b],x,[f,p,q],t.a,0⟩))) (i:Q (ai ⟨[o,0,0,0,0,d],[n,m,b],x,[f,p,q],t.a,0⟩) (hd k w)=.d [a,G o,G w]) (b8:br (.d [a,G o,G w])=D) (b4:L t 23 (.d [a,G o,G w])=N)
  (H:bm t p q (W 8) (G d) (.d [G w,.c s]) (.c I) l):
  ∃c,lO p m t=B (.c D,c)/\Do t c f p q n d w s I l/\bE c.a 3 (c.b (.d 23))/\(gn (t.b (.d 23))->gn (c.b (.d 23)))/\fs (L t) (L c) 23 (.d [a,G o,G w]) (.b (.c (t.a+1)))/\ii c (.b (.c (t.a+1))) (n+1) (dn w s):=by
 generalize h:(⟨[o,0,0,0,0,d],[n,m,b],x,[f,p,q],t.a,0⟩:em)=v at Y i;have a7:gI v:=b0.e (J h A) (J h A);have P:cM (ai v) gd:=gB (J h (T b7 (T (db (by decide)) (T (db (by decide)) (T (db (by decide)) (T (db (by decide)) (T j.1 ae))))))) (J h (T e.11.c (T (e.11.c.d b6) (T F ae)))) (J h b9) ae ae;have Z:bN (hd k w)=3:=(lK (r:=ai v) _).symm.trans (i▸A);have a2:bb (ai v) 1 (t.b _) ([]++[(aa 5 0,.f)]):=J h ⟨bh ⟨A,A,j.2⟩,cc⟩;have a5:bb (ai v) 3 (t.b _) ([]++[(al (.b 10 1),.f)]):=J h ⟨bh ⟨A,A,X.1 (n+1) (ic n)⟩,cc⟩;have a1:bb (ai v) 1 (t.b _) ([]++[(aa 5 0,aX)]):=J h ⟨bh ⟨A,A,j.3⟩,cc⟩;have a4:bb _ 3 _ [(al (.b 11 0),hQ k)]:=⟨bh ⟨A,A,by exact J Y (J h A)⟩,cc⟩
 have a3:bb _ 3 _ ([]++[(hd k w,.f)]):=⟨bh ⟨C i b8,Z,C i b4⟩,cc⟩
 have a0:=eS.mp Tw _ b5;dsimp only at a0;exact(oP (v:=v) (e:=zS _ _ _) (p:=.c) (c:=9) (m:=5) (a6:=lO p m) (λc1 c a9=>by have z:=jR (gF a7 P) 7 35 [.b (.d 16),.b (.c 1),al (.b 11 0)] c1 c a9;rw[←h]at z⊢;exact z) e b1 (by decide) ⟨ex e.11.1,c0⟩ (J h A) a7 P (by exact J h A) (by exact J h A) (by exact J h A) A A
  ⟨a1,a2,a4,.a,.a,a5⟩ ⟨bh A,bh A,bh A,ae,ae,bh A⟩ A (ma S A a3) (J h (an f _ A A (an p _ A H.1 (an q [] A A A)))) A a0).imp λc z=>by
   have a6:=by have w:=cA a2.1 z.2.1.4 A;rw[←h]at w;exact w
   have r:=cw.a X e.11.1 j (bQ a1.1 z.2.1.3) a6 (by have w:=cA a5.1 z.2.1.8 A;rw[←h]at w;exact w) (bQ a4.1 z.2.1.5) (bQ ae z.2.1.6) (bQ ae z.2.1.7);have E:=hk S A (by exact C z.2.1.2 (bX _ _)) (bh Z) z.2.1.10;have U:=cA a3.1 E A;rw[i,show Q _ _=.b (.c (t.a+1)) by exact J h A]at U;have g:=z.2.1.11;have V:=z.2.2;rw[←h]at g V;exact(jx z.1 ⟨z.2.1.1,r.1,r.2.1,r.2.2.1,λa8 b2 u=>(a6.2 _ A λq=>b2 (dx q)).trans u,r.2.2.2,⟨g 1 _ A,(g 2 _ A).trans H.2⟩,C z.2.1.2 (bX _ _),C z.2.1.2 (dT (by decide) _),z.2.1.9,λK b3 F=>if u:K=f then u▸g 0 _ A else V K b3 (T u F)⟩ E.1 E.4 U (bi _ A (C z.2.1.2 (ht (by decide) _)) ((g 4 _ A).imp λc2 y=>⟨y.1,by
    have y:=y.2;unfold dn;unfold dn at y
    revert y
    cases w==4<;>cases s<;>exact id⟩)))
end
inductive yn(a t)(g p c)(j n d h m)(o i) where
 |mk (E:bz t g n)
  (y:cw (L t) n)
  (u:cP (L a) (L t) j)
  (v:∀x,x≠d->L a 21 (G x)=N->L t 21 (G x)=N)
  (H:∃q,bm t p q o (G d) (G 0) (.c I) [aD (G h)]/\a.a<=q/\q<t.a)
  (C:a.a<=t.a)
  (z:t.a<=a.a+20)
  (F:t.b (.d 19)=a.b (.d 19))
  (l:bE t.a 3 (t.b (.d 23)))
  (s:gn (a.b (.d 23))->gn (t.b (.d 23)))
  (r:cg (L a) (L t) 23)
  (k:∃f,t.b (.c c)=.e 3 f/\cL [(16,B (ax m)),(17,B i)] f)
  (w:∀b,b<a.a->(∀e∈[p,c],b≠e)->t.b (.c b)=a.b (.c b))
section
variable{t:S U}{f p c:Nat}{n a m d w o h:Int}{s:Bool}{b:E}
noncomputable abbrev md(t:S U)(o h d n a e m:Int)(g:List Nat)(f p c:Nat):em:=⟨[o,0,0,h,0,d],[n,a,e,m],g,[f,p,c],t.a,0⟩
theorem FQ:[(16,ff (ai v) (al (.b 13 0))),(17,ff (ai v) (dn w s))]=[(16,B (Q (ai v) (al (.b 13 0)))),(17,B (dn w s))]:=by unfold dn;cases w==4<;>cases s<;>rfl
theorem SC(c0:(k,w,s)∈nc)(q:bz t f n)(b6:cw (L t) n)(b5:t.a<=90000)(b4:cu t f p c)(c1:0<=a/\a<=n)(Z:0<=m/\m<=n)(l:bU (L t) d)(K:cx (L t) m h)(c2:aS 20 o)(P:aS 1000 e)(c4:∀b1∈g,b1<51)(X:bE t.a 3 (t.b (.d 23)))
  (a0:L t 24 (ax a)=(dZ (hQ k)).map (Q (ai (md t o h d n a e m g f p c)))) (E:Q (ai (md t o h d n a e m g f p c)) (hd k w)=.d [b,G o,G w]) (c3:br (.d [b,G o,G w])=D) (b8:L t 23 (.d [b,G o,G w])=B (.b (.c c)))
  (b9:∃j,t.b (.c c)=.e 3 j/\cL [(16,B (ax m)),(17,B (dn w s))] j) (b2:∃j,t.b (.c p)=.e 0 j/\cL [(0,B (W 8)),(1,B (G d)),(2,N),(3,B (.d [G w,.c s])),(4,B (.c I)),(5,B (G 0))] j):
  ∃u,lO p a t=B (.c D,u)/\yn t u f p c n n d h m (W 6) (dn w s):=by
 generalize i:md t o h d n a e m g f p c=v at a0 E;have b0:gI v:=b4.e (J i A) (J i A);have U:cM (ai v) FN:=J i (gB (T c2 (T (db (by decide)) (T (db (by decide)) (T K.1 (T (db (by decide)) (T l.1 ae)))))) (T q.11.c (T (q.11.c.d c1) (T P (T (q.11.c.d Z) ae)))) c4 ae (T (dO (l.c K.c).symm) ae));have a3:bN (hd k w)=3:=(lK (r:=ai v) _).symm.trans (E▸A);have a6:bb (ai v) 1 (t.b _) ([(aa 3 0,al (.b 13 0))]++[(aa 5 0,.f)]):=J i ⟨bl ⟨A,A,K.3⟩ ⟨A,A,l.2⟩,ep A⟩;have a9:bb (ai v) 3 (t.b _) [(al (.b 13 0),aa 3 0)]:=J i ⟨bh ⟨A,A,K.2⟩,cc⟩;have a5:bb (ai v) 1 (t.b _) ([(aa 3 0,aX)]++[(aa 5 0,aX)]):=J i ⟨bl ⟨A,A,K.4⟩ ⟨A,A,l.3⟩,ep A⟩;have a8:bb _ 3 _ [(al (.b 11 0),hQ k)]:=⟨bh ⟨A,A,J a0 (J i A)⟩,cc⟩
 have a7:bb _ 3 _ [(hd k w,.b (.c 2))]:=⟨bh ⟨C E c3,a3,C E (J i b8)⟩,cc⟩
 have a4:=eS.mp Wt _ c0;dsimp only at a4;exact(oP (e:=zH _ _) (p:=.c) (j:=pT k w) (c:=6) (m:=5) (a6:=lO p a) (λc6 u b3=>by have z:=jR (gF b0 U) 7 35 [.b (.d 16),.b (.c 1),al (.b 11 0)] c6 u b3;rw[←i]at z⊢;exact z) q b5 (by decide) q.11 (by exact J i A) b0 U (J i A) (by refine J i ?_;rfl) (by refine J i ?_;rfl) A A
  ⟨a5,a6,a8,.a,.a,a9⟩ ⟨bl A A,bl A A,bh A,ae,ae,bh A⟩ A (ma X A a7) (J i (an f _ A A (an p _ A b2 (an c [] A (b9.imp λj y=>⟨y.1,FQ.symm.subst (motive:=λH=>cL H j) y.2⟩) A)))) A a4).imp λu z=>by
   have S:=by have w:=cA a6.1 z.2.1.4 A;rw[←i]at w;exact w
   have a2:=bQ a9.1 z.2.1.8;have a1:=bQ a5.1 z.2.1.3;have F:=hk X A (by exact C z.2.1.2 (bX _ _)) (bh a3) z.2.1.10;have r:=z.2.1.11;have Y:=z.2.2;rw[←i]at r Y;exact⟨z.1,z.2.1.1,b6.b l Z ⟨h,K⟩ a1 S a2,.b l a1 S (bQ a8.1 z.2.1.5) a2,λb1 h x=>(S.2 _ A λc5=>h (dx c5)).trans x,(bi _ ⟨r 1 _ A,r 4 _ A⟩ (bX _ 1) (C z.2.1.2 (ht (show 1<6 by decide) _))),C z.2.1.2 (bX _ _),C z.2.1.2 (dT (by decide) _),z.2.1.9,F.1,F.4,bQ a7.1 F,(r 2 _ A).imp λj y=>⟨y.1,(FQ (v:=md t o h d n a e m g f p c)).subst (motive:=λH=>cL H j) y.2⟩,λV b7 P=>if x:V=f then x▸r 0 _ A else Y V b7 (T x P)⟩
theorem FT(g:e=W 13∨e=W 11∨e=W 12):[(16,ff (ai v) (al (.b 13 0))),(17,ff (ai v) e)]=[(16,B (Q (ai v) (al (.b 13 0)))),(17,B e)]:=by rcases g with rfl|rfl|rfl<;>rfl
def nC(w:Int)(s:Bool)(a:Int):E:=.d [jw w s,G 0,.d [ax a]]
theorem Kx(h:v.c 13=m):Q (ai v) (rn w s)=nC w s m:=by subst h;unfold rn nC jw;cases w==1<;>cases s<;>rfl
theorem SD(c4:(k,w,s,e)∈xB)(a1:e=W 13∨e=W 11∨e=W 12)(r:bz t f n)(a0:cw (L t) n)(d4:L t 24 (ax (n+1))=N)(b9:L t 25 (ax (n+1))=N)(c0:L t 26 (nC w s m)=N)(b8:t.a<=90000)(c9:n+1<=900)(b7:cu t f p c)(c5:0<=a/\a<=n)(a2:0<=m/\m<=n)(q:bU (L t) d)(K:cx (L t) m h)(c6:aS 20 o)(S:aS 1000 g)(c8:∀b4∈i,b4<51)(Y:bE t.a 3 (t.b (.d 23)))
  (a3:L t 24 (ax a)=(dZ (hQ k)).map (Q (ai (md t o h d n a g m i f p c)))) (F:Q (ai (md t o h d n a g m i f p c)) (hd k w)=.d [b,G o,G w]) (c7:br (.d [b,G o,G w])=D) (c2:L t 23 (.d [b,G o,G w])=B (.b (.c c)))
  (c3:∃l,t.b (.c c)=.e 3 l/\cL [(16,B (ax m)),(17,B e)] l) (b5:∃l,t.b (.c p)=.e 0 l/\cL [(0,B (W 8)),(1,B (G d)),(2,N),(3,B (.d [G w,.c s])),(4,B (.c I)),(5,B (G 0))] l):
  ∃x,lO p a t=B (.c D,x)/\yn t x f p c n (n+1) d h m (jw w s) e:=by
 generalize j:md t o h d n a g m i f p c=v at a3 F;have b3:gI v:=b7.e (J j A) (J j A);have V:cM (ai v) Kw:=J j (gB (T c6 (T (db (by decide)) (T (db (by decide)) (T K.1 (T (db (by decide)) (T q.1 ae)))))) (T r.11.c (T (r.11.c.d c5) (T S (T (r.11.c.d a2) ae)))) c8 (T (show 0<=n-m from CH.mpr a2.2) ae) (T (dO (q.c K.c).symm) ae));have a5:bN (hd k w)=3:=(lK (r:=ai v) _).symm.trans (F▸A);have d2:br (nC w s m)=D:=by unfold nC jw;cases w==1<;>cases s<;>rfl
 have a8:bb (ai v) 1 (t.b _) ([(aa 3 0,al (.b 13 0))]++[(aa 5 0,.f)]):=J j ⟨bl ⟨A,A,K.3⟩ ⟨A,A,q.2⟩,ep A⟩;have b1:bb (ai v) 3 (t.b _) ([(al (.b 13 0),aa 3 0)]++[(al (.b 10 1),.f)]):=J j ⟨bl ⟨A,A,K.2⟩ ⟨A,A,a0.1 (n+1) (ic n)⟩,ep A⟩;have a7:bb (ai v) 1 (t.b _) ([(aa 3 0,aX)]++[(aa 5 0,aX)]):=J j ⟨bl ⟨A,A,K.4⟩ ⟨A,A,q.3⟩,ep A⟩;have b0:bb _ 3 _ [(al (.b 11 0),hQ k)]:=⟨bh ⟨A,A,by exact J a3 (J j A)⟩,cc⟩
 have a9:bb _ 3 _ [(hd k w,.b (.c 2))]:=⟨bh ⟨C F c7,a5,C F (J j c2)⟩,cc⟩
 have a6:=eS.mp H6 _ c4;dsimp only at a6;exact(oP (e:=B' _ _ _ _ _) (p:=.c) (j:=pT k w) (c:=13) (m:=4) (a6:=lO p a) (λd1 x b6=>by have z:=jR (gF b3 V) 7 35 [.b (.d 16),.b (.c 1),al (.b 11 0)] d1 x b6;rw[←j]at z⊢;exact z) r b8 (by decide) ⟨ex r.11.1,c9⟩ (by exact J j A) b3 V (by exact J j A) (by refine J j ?_;rfl) (by refine J j ?_;rfl) A A
  ⟨a7,a8,b0,⟨bh ⟨A,A,J j b9⟩,cc⟩,⟨bh ⟨C (Kx (by refine J j ?_;rfl)) d2,A,C (Kx (by refine J j ?_;rfl)) c0⟩,cc⟩,b1⟩ ⟨bl A A,bl A A,bh A,bh A,bh A,bl A A⟩ A (ma Y A a9) (J j (an f _ A A (an p _ A b5 (an c [] A (c3.imp λl y=>⟨y.1,(FT a1).symm.subst (motive:=λP=>cL P l) y.2⟩) A)))) A a6).imp λx z=>by
   have U:=by have w:=cA a8.1 z.2.1.4 A;rw[←j]at w;exact w
   have b2:=by have w:=cA b1.1 z.2.1.8 A;rw[←j]at w;exact w
   have a4:=bQ a7.1 z.2.1.3;have H:=hk Y A (by exact C z.2.1.2 (bX _ _)) (bh a5) z.2.1.10;have u:=z.2.1.11;have Z:=z.2.2;rw[←j]at u Z;exact⟨z.1,z.2.1.1,a0.f r.11.1 q a4 U b2,.f q a4 U b2 λd3 d3=>bQ b0.1 z.2.1.5 _ A,λb4 h E=>(U.2 _ A λd0=>h (dx d0)).trans E,(bi _ ⟨(u 1 _ A).imp λd5 y=>⟨y.1,by
    have y:=y.2;unfold jw;unfold jw at y
    revert y
    cases w==1<;>cases s<;>exact id⟩,u 3 _ A⟩ (bX _ 0) (C z.2.1.2 (ht (show 0<13 by decide) _))),C z.2.1.2 (bX _ _),C z.2.1.2 (dT (by decide) _),z.2.1.9,H.1,H.4,bQ a9.1 H,(u 2 _ A).imp λl y=>⟨y.1,(FT (v:=md t o h d n a g m i f p c) a1).subst (motive:=λP=>cL P l) y.2⟩,λX c1 S=>if E:X=f then E▸u 0 _ A else Z X c1 (T E S)⟩
end
def bI(m:Int)(b:Nat):=(Z [.d [W 3,G 0],.d [W 3,G 1],.d [W 4,W 23],.d [W 4,W 24],ax m] b).getD .f
def bp(m:Int)(b:Nat)(o w:Int):E:=.d [bI m b,G o,G w]
def cS(w:Int):=w∈[4,1,2]
theorem jg(h:b<5):b∈[0,1,2,3,4]:=(by decide:∀b,b<5->b∈[0,1,2,3,4]) b h
theorem uT(h:b<5)(a:aS 1000 m):nU (bI m b):=
 (T (yi (by decide) ⟨by decide,by decide⟩) (T (yi (by decide) ⟨by decide,by decide⟩) (T (Dd (by decide) (by decide)) (T (Dd (by decide) (by decide)) (T (yi (by decide) a) ae)))):∀b∈[0,1,2,3,4],nU (bI m b)) b (jg h)
theorem jZ(h:b<5):br (bp m b o w)=D:=(T A (T A (T A (T A (T A ae)))):∀b∈[0,1,2,3,4],br (bp m b o w)=D) b (jg h)
def Mc(m)(k):=∃b o w,b<5/\(0<=o/\o<5)/\cS w/\k=bp m b o w
inductive ez(t)(m) where
 |mk (o:bE t.a 3 (t.b (.d 23)))
  (n:gn (t.b (.d 23)))
  (a:∀k v,br k=D->L t 23 k=B v->Mc m k)
def ku(t:S U)(n):=∀k v,br k=D->L t 23 k=B v->∃m h,(0<=m/\m<=n)/\ii t v m h
def el(t:S U)(n:Int)(k:E)(x:Option (Int×E)):Prop:=dc (L t 23 k=N) (λx=>∃v m,L t 23 k=B v/\ii t v m x.2/\(0<=m/\m<=n)/\cx (L t) m x.1) x
theorem ip(e:a.b (.d i)=t.b (.d i))(k):L a i k=L t i k:=O (cN · k) e
theorem ez.a(d:ez t m)(e:c.b (.d 23)=t.b (.d 23))(l:t.a<=c.a):ez c m:=⟨C e (d.1.c l),C e d.2,λk v f h=>d.3 k v f ((ip e k).symm.trans h)⟩
theorem el.a{t g}{n j}{s}{k}(f:el t n k x)(i:L g 23 k=L t 23 k)(o:cP (L t) (L g) n)(w:n<=j)(r:∀h,h<t.a->(∀m∈[p,q],h≠m)->g.b (.c h)=t.b (.c h))(y:t.a<=g.a)(u:t.b (.c p)=.e 0 s)(v:t.b (.c q)=.a l):el g j k x:=by cases x with|none=>exact i.trans f|some x=>exact c' f λC z f=>(da (i.trans f.1) (f.2.1.d r y u v) ⟨f.2.2.1.1,dj f.2.2.1.2 w⟩ (o.g f.2.2.2 f.2.2.1.2))
theorem ku.a{n e}{m}(g:ku t n)(i:∀k v,br k=D->L c 23 k=B v->L t 23 k=B v)(u:n<=e)(j:∀d,d<t.a->(∀f∈[p,q],d≠f)->c.b (.c d)=t.b (.c d))(w:t.a<=c.a)(r:t.b (.c p)=.e 0 m)(s:t.b (.c q)=.a l):ku c e:=
 λk v h o=>c' (g k v h (i k v h o)) λy x z=>⟨⟨z.1.1,dj z.1.2 u⟩,z.2.d j w r s⟩
inductive fV(a t)(f p q)(d r c n m) where
 |mk (u:bz t f n)
  (o:c<=n)
  (k:cw (L t) n)
  (h:cP (L a) (L t) c)
  (i:∀x,x≠d->x≠r->L a 21 (G x)=N->L t 21 (G x)=N)
  (s:a.a<=t.a)
  (l:t.a<=3*a.a+100)
  (v:t.b (.d 19)=a.b (.d 19))
  (g:ez t m)
  (j:∀b,b<a.a->(∀e∈[p,q],b≠e)->t.b (.c b)=a.b (.c b))
  (w:ys a t p q d)
theorem Qu{t d g:S U}(b:∀b,b<t.a->(∀c∈[p,q],b≠c)->d.b (.c b)=t.b (.c b))(l:t.a<=d.a)(j:a=q∨(t.a<=a/\a<d.a))(c:∀b,b<d.a->(∀c∈[p,a],b≠c)->g.b (.c b)=d.b (.c b)):∀b,b<t.a->(∀c∈[p,q],b≠c)->g.b (.c b)=t.b (.c b):=
 λx f h=>(c x (cO f l) (bl (h p (.head _)) (j.elim (λe=>C e (h q (.tail _ (.head _)))) λi e=>ak f (C e (hu.mpr i.1))))).trans (b x f h)
section
variable{g t s:S U}{h p q:Nat}{n l r w:Int}{o j m k u:E}{v i:List E}
theorem eJ.a(P:eJ g t h p q o j m k n l r v i)(G:∀x y,t.b (.c x)=.a v->∃z,as (H F) (ah (H F) 7) BA (lL p o x y) t=B ((.b u,z),s)):fe p g=B (u,s):=
 aq P.1 λx y C=>(G x y C.2).elim λz E=>ft A A ((kK C.1).trans E)
theorem eJ.b(P:eJ g t h p q o j m k n l r v i)(z:cu g h p q){E}(y:E=q∨(g.a<=E/\E<t.a)):cu t h p E:=
 ⟨z.1,y.elim (λx=>C x z.2) λy x=>ak z.4 (C x (hu.mpr y.1)),y.elim (λx=>C x z.3) λy x=>ak z.5 (C x (hu.mpr y.1)),cO z.4 P.8,cO z.5 P.8,y.elim (λx=>cO (C x z.6) P.8) λy=>y.2⟩
end
section
variable{t:S U}{h p q:Nat}{n m g w r o:Int}{i:Nat}{s j:Bool}
theorem Kc(b:a∈[0,1]):(⟨W 8,aa 5 0,.d [aa 6 0,.c s],.c j⟩,a,0)∈hl:=
 mq _ (mq _ (ps.mpr (ag a b (hr.mpr ⟨_,by cases s<;>cases j<;>simp[Jm],A⟩))))
theorem xz(a:cS w):aS 20 w:=T ⟨by decide,by decide⟩ (T ⟨by decide,by decide⟩ (T ⟨by decide,by decide⟩ ae)) w a
theorem bU.d{L a}(b:bU L g)(k:cg L a 17)(e:L 21 (G g)=N->a 21 (G g)=N):bU a g:=⟨b.1,e b.2,(k _ A).trans b.3⟩
theorem cd.c{L}(f:cw L n)(d:cd L n r a o):∃b e,dL L r b/\cx L b e/\(0<=b/\b<=n)/\cz L b=.d [a,G o]:=
 d.elim λb d=>(f.2 r _ d.1.2).elim λk z=>z.2.2.elim λe E=>(dR b e d.1 (C (fO z.1) E) d.2.1 d.2.2)
theorem AG(y:bz t h n)(C:cw (L t) n)(u:t.a<=80000)(k:cu t h p q)(f:dL (L t) r a)(E:cx (L t) a e)(H:0<=a/\a<=n)(d:bU (L t) g)(K:cS w)(v:bm t p q (W 8) (G g) (.d [G w,.c s]) (.c j) [aD (G r)]):
  ∃b c,eJ t b h p q (W 8) (G g) (.d [G w,.c s]) (.c j) n n r [ax a] [aD (G e)]/\cu b h p c/\(c=q∨(t.a<=c/\c<b.a))/\bm b p c (W 8) (G g) (.d [G w,.c s]) (.c j) [aD (G e)]/\bU (L b) g/\b.a<=90000/\(∃z,b.b (.d 16)=.e 4 z)/\∀x,L t 21 (G x)=N->L b 21 (G x)=N:=by
 refine(Ih (Kc (.head _)) (λT=>Kc (.tail _ (.head _))) y C (aV u (by decide)) k f E H d.1 (xz K) v).imp λb P=>P.7.imp λc S=>?_
 have l:=λx=>(di (x=r)).elim (λF e=>X ((J F e:L t 21 (G r)=N).symm.trans f.2)) (P.6 x)
 exact(xG P (P.b k S.2) S.2 S.1 (d.d P.5.1 (l g)) (aV P.9 (aV (rG u 20) (by decide))) (P.2.2.imp λQ w=>w.1) l)
theorem eJ.c{H F a0}{z a8}{a9 V}{x}(P:eJ t l h p q H (G g) F a0 n n a8 a9 V)(Q:x=q∨(t.a<=x/\x<l.a))(a5:bz k h z)(a4:n<=z)(a2:cw (L k) z)(Y:cP (L l) (L k) n){U}(Z:∀E,E≠g->E≠U->L t 21 (G E)=N->L k 21 (G E)=N)(T:l.a<=k.a)(a3:k.a<=l.a+20)(a6:k.b (.d 19)=l.b (.d 19))(W:ez k m)
  (a1:∀y,y<l.a->(∀i∈[p,x],y≠i)->k.b (.c y)=l.b (.c y)) (a7:∃v H F j S,bm k p v H (G g) F j S/\(v=x∨(l.a<=v/\v<k.a))/\S.length<1000):fV t k h p q g U n z m:=
 ⟨a5,a4,a2,P.5.a Y (bt n),Z,aV P.8 T,ap [_,_,_] (.a 1 (.a 0) (.c (.a 1) (.b 20)) (.a 1 (.a 1) (.c (.a 2) (.b 20)) .b)) (.a 0) (.c (.f 3 (.a 2)) (.b 100)) A a3 (P.9),a6.trans P.10.1,W,Qu P.11 P.8 Q a1,
  xF a7 λv K K K K J=>(aK J.1 (J.2.1.elim (λX=>C X (Q.imp id λu=>⟨u.1,cO u.2 T⟩)) (λu=>.inr ⟨aV P.8 u.1,u.2⟩)) J.2.2)⟩
theorem A'(E:bz t h n)(k:cw (L t) n)(H:t.a<=80000)(Q:n+1<=900)(F:cu t h p q)(b:cd (L t) n r a o)(v:bU (L t) g)(l:cS w)(C:ez t m)(u:bm t p q (W 8) (G g) (.d [G w,.c s]) (.c D) [aD (G r)]):
  ∃c,fe p t=B (.c D,c)/\fV t c h p q g g n (n+1) m/\(bA (L t) n->bA (L c) (n+1))/\c.b (.d 23)=t.b (.d 23)/\(∃S K,bm c p S (W 8) (G g) (.d [G w,.c s]) (.c D) K):=
 aq (b.c k) λV f b=>(AG E k H F b.1 b.2.1 b.2.2.1 v l u).elim λY P=>P.elim λX P=>(Sz P.1.2 P.1.4 P.2.2.2.2.2.1 Q P.2.1 b.2.2.1 P.2.2.2.2.1 (xz l) P.2.2.2.1).imp λc z=>
   have e:=z.2.2.trans P.1.10.2
   (iD (P.1.a λZ T J=>P.2.2.2.2.2.2.1.elim λU d=>⟨_,zh d J A z.1⟩) (P.1.c P.2.2.1 z.2.1.1 (ex (bt n)) z.2.1.3 z.2.1.4 (λx d a0 f=>z.2.1.5 x d (P.2.2.2.2.2.2.2 x f)) z.2.1.8 z.2.1.9 z.2.1.10 (C.a e (aV P.1.8 z.2.1.8)) z.2.1.11 ⟨_,_,_,_,_,z.2.1.7,.inl A,dH A⟩) (λy=>z.2.1.2 (P.1.3 y)) e ⟨_,_,z.2.1.7⟩)
theorem IC(v:i<5)(a4:aS 1000 m)(Y:bz t h n)(F:cw (L t) n)(a1:t.a<=80000)(a8:n+1<=900)(Z:cu t h p q)(a:cd (L t) n r (bI m i) o)(u:0<=o/\o<5)(V:bU (L t) g)(x:cS w)(l:ez t m)(a2:L t 23 (bp m i o w)=N)(U:bm t p q (W 8) (G g) (.d [G w,.c s]) (.c I) [aD (G r)]):
  ∃b,fe p t=B (.c D,b)/\fV t b h p q g g n (n+1) m/\(bA (L t) n->bA (L b) (n+1))/\(∃E,fs (L t) (L b) 23 (bp m i o w) (.b (.c E))/\ii b (.b (.c E)) (n+1) (dn w s))/\cx (L b) (n+1) g/\(∃a9 a7,bm b p a9 (W 8) (G g) (.d [G w,.c s]) (.c I) a7):=
 aq (a.c F) λJ e a=>aq (AG Y F a1 Z a.1 a.2.1 a.2.2.1 V x U) λb1 b0 P=>(H' (uT v a4) a.2.2.2).elim λk y=>aq y.2 λa0 b2 K=>by have Q:=K.2.2 ⟨[o,0,0,0,0,g],[n,J,a0],b2,[h,p,b0],b1.a,0⟩ A A A A;have d:=P.1.10.2;have f:(k,w,s)∈nc:=(by decide:∀k∈[0,1,2],∀w∈([4,1,2]:List Int),∀s,(k,w,s)∈([0,1,2].flatMap _)) k y.1 w x s;exact(SB f P.1.2 P.1.4 P.2.2.2.2.2.1 a8 P.2.1 a.2.2.1 P.2.2.2.2.1 ⟨u.1,aG [_] (.a 1 (.c (.a 0) (.b 1)) (.b 5) .b) (.a 0) (.b 20) A u.2⟩ K.1 K.2.1 (C d (l.1.c P.1.8)) ((P.1.5.3 J a.2.2.1.2).trans Q.1) (Q.2 w) (jZ v) ((ip d _).trans a2) P.2.2.2.1).imp λb z=>(jx (P.1.a λS b3 a6=>P.2.2.2.2.2.2.1.elim λb4 c=>⟨_,zh c a6 A z.1⟩) (P.1.c P.2.2.1 z.2.1.1 (ex (bt n)) z.2.1.3 z.2.1.4 (λT c b5 e=>z.2.1.5 T c (P.2.2.2.2.2.2.2 T e)) z.2.1.8 z.2.1.9 z.2.1.10 ⟨z.2.2.1,z.2.2.2.1 (C d l.2),(λk S f c=>(di _).elim (λe=>(xJ i o w v u x e)) λe=>l.3 k S f ((ip d k).symm.trans ((z.2.2.2.2.1.2 k f e).symm.trans c)))⟩ z.2.1.11 ⟨_,_,_,_,_,z.2.1.7,.inl A,dH A⟩) (λX=>z.2.1.2 (P.1.3 X)) ⟨_,⟨z.2.2.2.2.1.1,λH a3 a5=>(z.2.2.2.2.1.2 H a3 a5).trans (ip d H)⟩,z.2.2.2.2.2⟩ z.2.1.6 ⟨_,_,z.2.1.7⟩)
end
theorem Fk{l}(h:cL [(16,B a),(17,B b)] l):l=[(16,a),(17,b)]:=
 aq h λx c h=>aq h.2.2 λy d k=>C h.1 (C k.1 (C (k.2.2) (C (h.2.1.2 a A) (C (k.2.1.2 b A) A))))
theorem Ku{l}(h:cL (tQ a b c d e) l):cL [(0,B a),(1,B b),(2,N),(3,B d),(4,B e),(5,B (G 0))] l:=
 c' h λx f h=>(aK h.1 h.2.1 (c' h.2.2 λx f h=>⟨h.1,h.2.1,c' h.2.2 λx f h=>⟨h.1,⟨h.2.1.1,λz e=>X e⟩,h.2.2⟩⟩))
theorem QP{w}{h}(g:cS w)(d:h=W 13∨h=W 11∨h=W 12)(c:w=4->h=W 13)(b:h≠dn w s){k}(f:k∈[0,1,2]):(k,w,s,h)∈xB:=by
 have a:w=1∨w=2:=by
  rcases cB.mp g with e|e
  ·subst e;exact absurd (c rfl) b
  ·exact(cB.mp e).imp id fR.mp
 refine ps.mpr (ag k f (ps.mpr ⟨w,a.elim (λe=>C e (.head _)) λe=>C e (.tail _ (.head _)),ps.mpr ⟨s,by cases s<;>decide,hr.mpr ⟨h,?_,A⟩⟩⟩));rcases d with rfl|rfl|rfl
 ·exact .head _
 ·rcases a with rfl|rfl<;>cases s<;>first|exact absurd rfl b|exact .tail _ (.head _)
 ·rcases a with rfl|rfl<;>cases s<;>first|exact absurd rfl b|exact .tail _ (.head _)
section
variable{t:S U}{f p q:Nat}{n m d w r o h:Int}{b:Nat}{s:Bool}{a:E}
theorem Vz(a3:b<5)(d0:aS 1000 m)(c1:bz t f n)(U:bA (L t) n)(c3:t.a<=80000)(d5:n+1<=900)(Q:cu t f p q)(c8:∃T,t.b (.c f)=.e 2 T)(i:cd (L t) n r (bI m b) o)(V:0<=o/\o<5)(c0:bU (L t) d)(a6:cS w)(H:ez t m)
  (g:el t n (bp m b o w) (B (h,a))) (b7:a=W 13∨a=W 11∨a=W 12) (c6:w=4->a=W 13) (a1:bm t p q (W 8) (G d) (.d [G w,.c s]) (.c I) [aD (G r)]):
  ∃c l j u,fe p t=B (.c D,c)/\l<=n+1/\fV t c f p q d d n l m/\bm c p j u (G d) (G 0) (.c I) [aD (G h)]/\(a=dn w s->u=W 6)/\(a≠dn w s->u=jw w s):=
 aq (i.c U.a) λZ e i=>aq (AG c1 U.a c3 Q i.1 i.2.1 i.2.2.1 c0 a6 a1) λx e2 P=>(H' (uT a3 d0) i.2.2.2).elim λk a2=>aq a2.2 λc2 d7 K=>aq g λa8 a7 g=>by
  have v:=P.1.10.2;refine bJ a1.1 λe0 d2 b0=>?_
  refine(g.2.1.d P.1.11 P.1.8 d2 a1.2).elim λS X=>?_
  refine bJ X.2.2 λb4 E a4=>?_
  refine bJ P.2.2.2.1.1 λb6 a5 b8=>?_
  refine cn (c8.imp λT e=>(P.1.11 f Q.4 (bl Q.1 Q.2)).trans e) λd9 c9=>?_
  have b2:cu x f p S:=⟨P.2.1.1,λe=>oy c9 E ((by decide:2≠3)) (O af.c e),λe=>oy a5 E ((by decide:0≠3)) (O af.c e),P.2.1.4,P.2.1.5,X.2.1⟩
  have a0:=K.2.2 (md x o h d n Z c2 a7 d7 f p S) A A A A;have Y:(k,w,s)∈nc:=(by decide:∀k∈[0,1,2],∀w∈([4,1,2]:List Int),∀s,(k,w,s)∈([0,1,2].flatMap _)) k a2.1 w a6 s;have b5:∀{c l u},yn x c f p S n l d h a7 u a->n<=l->lO p Z x=B _->fe p t=B (.c D,c)/\fV t c f p q d d n l m/\∃j,bm c p j u _ _ _ _:=λ{c l u} z d4 e=>(aK (P.1.a λa8 d8 d3=>P.2.2.2.2.2.2.1.elim λT h=>⟨_,zh h d3 A e⟩) (P.1.c P.2.2.1 z.1 d4 z.2 z.3 (λb9 h b0 e=>z.4 b9 h (P.2.2.2.2.2.2.2 b9 e)) z.6 z.7 z.8 ⟨z.9,z.10 (C v H.2),λk a8 Y h=>H.3 k a8 Y ((ip v k).symm.trans ((z.11 k Y).symm.trans h))⟩ (λb1 c7 d1=>by
    by_cases e:b1=S
    ·exact z.12.elim λT y=>C e (C y.1 (C (Fk y.2) (C E (C (Fk a4) A))))
    ·exact z.13 b1 c7 (bl (d1 p (.head _)) e)) (z.5.elim λj y=>⟨j,_,_,_,_,y.1,.inr y.2,dH A⟩)) (z.5.imp λj y=>y.1))
  by_cases F:a=dn w s
  ·exact(SC Y P.1.2 P.1.4 P.2.2.2.2.2.1 b2 i.2.2.1 g.2.2.1 P.2.2.2.2.1 (P.1.5.g g.2.2.2 g.2.2.1.2) ⟨V.1,aG [_] (.a 1 (.c (.a 0) (.b 1)) (.b 5) .b) (.a 0) (.b 20) A V.2⟩ K.1 K.2.1 (C v (H.1.c P.1.8)) ((P.1.5.3 Z i.2.2.1.2).trans a0.1) (a0.2 w) (jZ a3) ((ip v _).trans (J X.1 g.1)) (ag b4 E (J F a4)) (ag b6 a5 (Ku b8))).elim λc z=>by have y:=b5 (by have w:=z.2;rw[←F]at w;exact w) (bt n) z.1;exact y.2.2.elim λj a9=>(ko c n j _ (jx y.1 (ex (bt n)) y.2.1 a9 (λb0=>A) (ak F)))
  ·have b3:=(P.1.3 U).1 _ (ic n);have c5:L x 26 (nC w s a7)=N:=by
    cases e:L x 26 _ with
    |none=>rfl
    |some d6=>
     refine((P.1.3 U).3 _ d6 (by unfold nC jw;cases w==1<;>cases s<;>rfl) e).elim λe1 z=>?_
     have:=z.2.2.2.4;unfold nC jw at this;cases c4:w==1<;>cases s<;>rw[c4]at this<;>exact ak (this _ _ A) (by decide)
   exact(SD (QP a6 b7 c6 F a2.1) b7 P.1.2 P.1.4 b3.1 b3.2.1 c5 P.2.2.2.2.2.1 d5 b2 i.2.2.1 g.2.2.1 P.2.2.2.2.1 (P.1.5.g g.2.2.2 g.2.2.1.2) ⟨V.1,aG [_] (.a 1 (.c (.a 0) (.b 1)) (.b 5) .b) (.a 0) (.b 20) A V.2⟩ K.1 K.2.1 (C v (H.1.c P.1.8)) ((P.1.5.3 Z i.2.2.1.2).trans a0.1) (a0.2 w) (jZ a3) ((ip v _).trans (J X.1 g.1)) (ag b4 E a4) (ag b6 a5 (Ku b8))).elim λc z=>by have y:=b5 z.2 (ex (bt n)) z.1;exact y.2.2.elim λj a9=>(ko c _ j _ (jx y.1 (bt _) y.2.1 a9 (λe=>ak e F) (λb0=>A)))
end
def iZ:bq->Bool
 |.f=>D
 |.c=>D
 |.a _=>D
 |.b e _=>ir e
 |_=>I
theorem EN{x:dk U U}{b}(h:ir b=D)(w:bR x p a (.b b e) o):o=.b (eC x.b b) (e+x.b.e a):=w.elim L0 λw=>gR w λk z z z z w=>by rw[w.1]at h;unfold ir at h;rw[CJ]at h;exact V h λz h=>az h
theorem OR{x:dk U U}(f:iZ o=D)(h:bR x p a o b)(e:bR x d a o c):c=b:=by cases o with|f=>exact e.1.trans h.1.symm|c=>exact e.trans h.symm|a l=>exact e.trans h.symm|b i g=>exact(EN f e).trans (EN f h).symm|_=>exact az f
theorem B6:cZ.all iZ=D:=by kernel_rfl
theorem QE(j:a.all iZ=D)(f:b.all iZ=D)(c):iZ (fK a b c)=D:=by
 have g:∀{l}{i}{d},l.all iZ=D->iZ d=D->iZ ((Z l i).getD d)=D:=λh e=>mS (P:=λo=>iZ o=D) e (bu.mp h) _
 cases c with
 |d i=>
  show iZ (bif ar i 10 then(Z cZ i).getD _ else bif ar i 16 then .c else(Z a _).getD .c)=D
  cases ar i 10 with
  |true=>exact g B6 A
  |false=>cases ar i 16 with|true=>rfl|false=>exact g j A
 |c i=>exact g f A
theorem IK(m:d.all iZ=D)(k:a.all iZ=D)(g:a.length=v.h.length)(n:v.a=t.a)(j:bD (dh c v t.b) ⟨fK d a,a.length⟩ t)(f:bD (dh c v t.b) ⟨fK d a,a.length⟩ b):b=t:=by
 have l:b.b=t.b:=funext λi=>(di (∃e,(dh c v t.b).b.b e=i)).elim (λh=>h.elim λe h=>J h (OR (QE m k e) (j.1 e) (f.1 e))) λh=>f.5 i λe g=>h ⟨e,g⟩
 cases b;exact C (congr (O S.mk l) ((nj f (c:=0) g).trans n)) A
def tE:={hS [] []with e:=λk=>bif ar k 10 then 4 else 1000}
def MS(b:Nat):=(Z [.d [W 3,G 0],.d [W 3,G 1],.d [W 4,W 23],.d [W 4,W 24],al (.b 12 0)] b).getD .f
noncomputable def hW:bq:=.a [.d [G 8,G 4],.d [G 8,G 4]]
def fy(k:Nat):List (E×E):=bf [(G 0,aX),(G 1,aX)] (λk z=>bf [(G 1,aX)] (λz z=>[(G 0,aX)]) k) k
def je(b:Nat)(o:bM)(w:Int):E:=.d [MS b,.a o,G w]
noncomputable def qG(a w b):=bif decide (a<0)then decide (-a<w)else decide (a<b)
noncomputable def eg(k b:Nat):=ar b 2&&!(M k (b+1))
def wx(k b a:Nat):=(M b 4||M a 4)&&!(eg k b||eg k a)
def tK(k e:Nat):List bq:=[.c,.c,.c,.b (fy k) e]
def Ag(n k e)(a b):=ah (gb tE) (n+2) 18 [a,b,.b (.c 0),.b (.d 19)] ⟨fK (tK k e) [hW],1⟩
noncomputable def gr:=[0,1,2,3,4]
noncomputable def lf:List Int:=[4,1,2]
theorem Tn(n k e):(gr.map λb=>lf.map λw=>lf.map λa=>[-4,-3,-2,-1,0,1,2,3,4].map λc=>Ag n k e (je b (.b 0 c) w) (je b (.b 0 0) a))=
  gr.map λb=>lf.map λw=>lf.map λa=>[-4,-3,-2,-1,0,1,2,3,4].map λc=>B (.c (qG c w a),⟨fK (tK k e) [hW],1⟩):=by kernel_rfl
theorem Tl(n e):([0,1,2].map λk=>gr.map λb=>gr.map λa=>lf.map λw=>lf.map λc=>bif M b a then N else Ag n k e (je b (.b 0 0) w) (je a (.b 1 0) c))=
  [0,1,2].map λk=>gr.map λb=>gr.map λa=>lf.map λw=>lf.map λc=>bif M b a then N else B (.c (wx k b a),⟨fK (tK k e) [hW],1⟩):=by kernel_rfl
def gO(k b:Nat)(o w)(a:Nat)(c d):=bif M b a then qG (o-c) w d else wx k b a
theorem vU{v}{b}{z}(a:b<5)(d:(ai v).a z=o)(c:Z v.e 2=B m):Q (ai v) (je b z w)=bp m b o w:=by
 subst d;have h:(Z v.e 2).getD 0=m:=by exact C c A
 subst h;exact(T A (T A (T A (T A (T A ae)))):∀b∈[0,1,2,3,4],Q _ (je b z w)=bp ((Z v.e 2).getD 0) b _ w) b (jg a)
inductive fI(t)(k s) where
 |mk (a:k<3)
  (r:cD t)
  (p:∃e,t.b (.d 19)=.b (fy k) e)
  (b:t.b (.c s)=hW)
  (l:s<t.a)
theorem AC(h:∀x∈v.f,aS 4 x)(a:∀x∈v.e,aS 1000 x)(b:v.g=[]):cM (ai v) tE:=
 have P:=gB (λx m=>⟨(h x m).1,dj (h x m).2 (by decide)⟩) a (by exact C b ae) ae ae
 ⟨P.1,P.2,P.3,(λk=>by
   show(bif ar k 10 then(Z v.f k).getD 0 else(Z v.e _).getD 0)<=(bif ar k 10 then 4 else 1000)
   cases ar k 10 with
   |true=>exact(mS ⟨bt _,by decide⟩ h _).2
   |false=>exact(mS ⟨bt _,by decide⟩ a _).2),P.5,P.6,P.7,P.8,P.9,P.10⟩
theorem AK{k}(h:k<3):ir (fy k)=D/\eC r (fy k)=fy k:=by
 match k,h with|0,_=>exact⟨A,A⟩|1,_=>exact⟨A,A⟩|2,_=>exact⟨A,A⟩|_+3,h=>exact⟨pQ [_] (.a 1 (.c (.c (.a 0) (.b 3)) (.b 1)) (.b 3) .b) A h,pQ [_] (.a 1 (.c (.c (.a 0) (.b 3)) (.b 1)) (.b 3) .b) A h⟩
section
variable{t:S U}{k s n c f:Nat}{m d o w e:Int}
theorem Ha(j:fI t k s)(K:t.b (.d 19)=.b (fy k) a)(l:v.h=[s])(p:v.a=t.a)(P:cM (ai v) tE)(y:Q (ai v) b=h)(G:Q (ai v) g=i)(L:Ag n k a b g=B (.c x,⟨fK (tK k a) [hW],1⟩)):
  ah (H F) (n+2) 18 [h,i,.b (.c s),.b (.d 19)] t=B (.c x,t):=by
 have r:gI v:=⟨by exact C l (fF.mpr ⟨cI,mr⟩),by exact C l (C p (T j.5 ae))⟩
 have q:bD _ ⟨fK (tK k a) [hW],1⟩ t:=qW r P j.2 p.symm (iD A A A (.inl ⟨(AK (r:=ai v) j.1).1,by exact C ((AK j.1).2) K⟩) trivial) (by exact C l (an s _ A j.4 A));refine(jR (gF r P) _ 18 _ _ _ q _ _ L).elim λS z=>?_
 rw[(IK (by show(fy k).all _&&D=D;exact C (show(fy k).all _=D from(AK (r:=ai v) j.1).1) A) A (by exact C l A) p q z.2)]at z;refine J y (J G ?_);have u:v.b (.c 0)=.c s:=by show af.c _=_;exact C l A
 have z:ah (H F) _ 18 [Q (ai v) b,Q (ai v) g,E.b (v.b (.c 0)),E.b (.d 19)] t=B (.c x,t):=z.1;rw[u]at z;exact z
theorem Tm(g:fI t k s)(E:aS 1000 m)(h:c<5)(G:0<=d/\d<5)(x:cS w)(r:f<5)(v:0<=o/\o<5)(y:cS e):ah (H F) (n+2) 18 [bp m c d w,bp m f o e,.b (.c s),.b (.d 19)] t=B (.c (gO k c d w f o e),t):=by
 have j:∀{l},0<=l/\l<5->aS 4 l:=λq=>⟨q.1,M2 q.2⟩
 have z:=T (db (by decide)) (T (db (by decide)) (T E ae));refine g.3.elim λp u=>?_
 unfold gO;cases i:M c f with|true=>have i:=bW i;subst i;exact Ha (v:=⟨[o],[0,0,m],[],[s],t.a,0⟩) (b:=je c (.b 0 (d-o)) w) (g:=je c _ e) g u A A (AC (T (j v) ae) z A) (vU h ((eP o _).trans (xT (aG [_,_] .b (.c (.a 0) (.d (.a 1) (.a 0))) (.a 1) A) (aG [_,_] .b (.a 0) (.c (.a 1) (.d (.a 0) (.a 1))) A))) A) (vU h A A) (eS.mp (eS.mp (eS.mp (eS.mp (Tn n k p) c (jg h)) w x) e y) _ ((by decide:∀a∈[0,1,2,3,4],∀b∈[0,1,2,3,4],a-b∈[-4,-3,-2,-1,0,1,2,3,4]) d (by simp;omega) o (by simp;omega)))|false=>refine Ha (v:=⟨[d,o],[0,0,m],[],[s],t.a,0⟩) (b:=je c (.b 0 0) w) (g:=je f (.b 1 0) e) g u A A (AC (T (j G) (T (j v) ae)) z A) (vU h A A) (vU r A A) ?_;have C:=eS.mp (eS.mp (eS.mp (eS.mp (eS.mp (Tl n p) k ((by decide:∀k,k<3->k∈[0,1,2]) k g.1)) c (jg h)) f (jg r)) w x) e y;rw[i]at C;exact C
end
section
variable{a:Nat->List E->S U->av U E}{l:aC}{s b:S U}{r:af}{e d:aJ}{v k:E}{i f:List E}{c h:List (E×E)}{g:Nat}
theorem BS(m:r.a=D)(j:s.a<100000):kj (H F) r o v s=B (v,⟨aZ.d s.b r o,s.a+1⟩):=by
 refine ab (a:=()) ?_ A;show aI (r.a&&D&&ar s.a 100000) _=_
 exact C m (C (show ar s.a _=D from er j) A)
theorem eE{e:aA U E}(j:e l s=B (v,b)):bs [e] l s=B ([v],b):=(ab j (ab A A):aB _ (λv s=>aB (bs [] l s) λm s=>B (v::m,s))=_)
theorem wt{c}{e:aA U E}(p:e l s=B (.b r,s))(n:nl (H F) s.b r m=B N)(t:bs c l s=B (j,b))(o:lR (H F) (na (s.b r)) r m j b=q):li (H F) a e m c l s=q:=
 ab p (au A (au n (ab t o)))
theorem qc(q:K (H F) a e l s=B (.b r,s))(j:s.b r=.a i)(p:K (H F) a d l s=B (v,b))(o:b.b r=.a f)(t:f.length<100000)(w:r.a=D)(u:b.a<100000):K (H F) a (.h e 0 [d]) l s=B (.g,⟨aZ.d b.b r (.a (f++[v])),b.a+1⟩):=by
 refine wt (c:=[K _ a d]) (e:=K _ a e) q ?_ (eE p) ?_
 ·show(match s.b r with
   |.e m _=>Y (dD.h m 0) λn=>B (B n)
   |.f=>.none
   |.c=>.none
   |_=>B _)=_
  exact C j A
 ·unfold lR kU;refine C j (C (show(H F).a b.b r=.a f from o) ?_);show aI (ar _ _) _=_
  exact C (show ar _ _=D from er t) (BS w u)
theorem OM(q:K (H F) a e l s=B (.b r,s))(j:s.b r=.b c g)(o:K (H F) a d l s=B (k,s))(u:pY (H F) c k=B (B v))(t:dG c=D)(p:kJ F k c=B h)(x:r.a=D)(w:s.a<100000):
  K (H F) a (.h e 1 [d]) l s=B (v,⟨aZ.d s.b r (.b h (g+1)),s.a+1⟩):=by
 refine wt (c:=[K _ a d]) (e:=K _ a e) q ?_ (eE o) ?_
 ·show(match s.b r with
   |.e m _=>Y (dD.h m 1) λn=>B (B n)
   |.f=>.none
   |.c=>.none
   |_=>B _)=_
  exact C j A
 ·unfold lR kU;refine C (show(H F).a s.b r=.b c g from j) (C j ?_);show Y _ _=_
  refine C u ?_;show aI _ (Y (kJ F k c) _)=_
  exact C t (C p (BS x w))
end
theorem Ol(p:br k=D):∀{e},(∀q∈e,br q.1=D)->pF e->∃b,kJ F k e=B b/\ch F k b=B N/\(∀j,br j=D->k≠j->ch F j b=ch F j e)/\b.Sublist e:=λ{e}=>by
 induction e with
 |nil=>exactλz z=>(fQ [] A A (λz z z=>A) .slnil)
 |cons a e l=>
  intro h n;have n:=lp.mp n;have g:=h a bn;have r:=λq m=>h q (bT _ m)
  have o:∀{t},eL F a.1 k=B t->kJ F k (a::e)=a' _ _ t:=λq=>by
   show Y _ _=_
   exact C q A
  refine(hI a.1 k g p).elim (λd=>(fQ e (o d.1) ?_ (λj f i=>(eK ((hI a.1 j g f).f (C d.2 i))).symm) (.cons _ (Y4 _)))) λd=>?_
  ·have s:∀e,(∀q∈e,br q.1=D)->(∀q∈e,a.1≠q.1)->ch F k e=B N:=λe=>by
    induction e with|nil=>exactλz z=>A|cons c e l=>exactλh n=>(eK ((hI c.1 k (h c bn) p).f λq=>n c bn (d.2.trans q.symm))).trans (l (λq m=>h q (bT _ m)) λq m=>n q (bT _ m))
   exact s e r n.1
  ·exact(l r n.2).elim λb w=>(fQ _ ((o d.1).trans (au w.1 A)) ((eK d.1).trans w.2.1) (λj f i=>(hI a.1 j g f).elim (λc=>(eK c.1).trans (eK c.1).symm) λc=>(eK c.1).trans ((w.2.2.1 j f i).trans (eK c.1).symm)) (w.2.2.2.cons_cons _))
noncomputable def sF(k:Nat):List (Nat×Option E)->Option (Option E)
 |[]=>N
 |p::r=>a' (sF k r) (B p.2) (M p.1 k)
theorem dg:∀{T}{l},cL T l->sF k T=B (B w)->cG k l=B w:=λ{T}=>by
 induction T with
 |nil=>exactλz h=>X h
 |cons p T i=>
  intro l h e;refine aq h λv a h=>?_
  refine C h.1 ?_;show a' _ (B v) _=B w
  have e:a' _ _ _=B _:=e;cases q:M p.1 k with|true=>rw[q]at e;exact O B (h.2.1.2 w (R e))|false=>rw[q]at e;exact i h.2.2 e
theorem Fj:∀{T}{l},cL T l->(sF k T).isSome=D->∃v,cG k l=B v/\aF v=I:=λ{T}=>by
 induction T with
 |nil=>exactλz h=>az h
 |cons p T i=>
  intro l h e;refine aq h λv a h=>?_
  refine C h.1 ?_;show∃w,a' _ (B v) _=B w/\_
  have e:(a' _ _ _:Option _).isSome=D:=e;cases q:M p.1 k with|true=>exact(ag v A h.2.1.1)|false=>rw[q]at e;exact i h.2.2 e
theorem kb{l}{b}{c:aA U E}{e}(h:c l s=B (b,s))(k:bs e l s=B (v,a)):bs (c::e) l s=B (b::v,a):=(ab h (ab k A):aB _ (λb s=>aB (bs e l s) λv s=>B (b::v,s))=_)
theorem jT{s a:S U}{v}(h:bs e l s=B (v,a)):iC e l s=B (.d v,a):=ab h A
inductive ux(b t)(k) where
 |mk (c:bE t.a 3 (t.b (.d 23)))
  (n:gn (t.b (.d 23)))
  (g:L t 23 k=N)
  (e:∀j,br j=D->k≠j->L t 23 j=L b 23 j)
  (d:∃l,t.b (.d 29)=.a l/\l.length<=t.a)
  (h:t.a=b.a+2)
  (f:∀a,a≠ .d 23->a≠ .d 29->t.b a=b.b a)
theorem ba(n:b≠a):aZ.d h a o b=h b:=by
 show(bif af.e b a then o else h b)=h b
 cases q:af.e b a with|true=>exact ak (af.b.mp q) n|false=>rfl
theorem EP{s}{k E}(Q:t.b (.d 16)=.e 4 s)(T:cG 30 s=B (.b (.d 29)))(r:t.a<=90000)(o:bE t.a 3 (t.b (.d 23)))(x:gn (t.b (.d 23)))(X:∃l,t.b (.d 29)=.a l/\l.length<=t.a)(a:br k=D)(V:cH k 6=D)(W:bN k=3)(P:L t 23 k=B E):
  ∃y,ah (H F) (n+1) 22 [.b (.d 16),.b (.d 23),k] t=B (.g,y)/\ux t y k:=
 X.elim λl c=>aq o.1 λe b z=>by
  have d:=λq m=>(z.2.1 q m).1
  refine(Ol a d (x e b z.1)).elim λp w=>?_
  have f:=o.2 e b z.1;have Y:fb k e=D:=by unfold fb;rw[V,W,f,KZ];cases e with|nil=>rfl|cons G e=>show(D&&D&&M _ 3)&&D=D;exact C ((z.2.1 G bn).2) A
  have u:=λq m=>d q (w.2.2.2.subset m)
  let g:=aZ.d t.b (.d 23) (.b p (b+1))
  have a0:K _ (ah (H F) n) (.h (.a 1) 1 [.a 2]) [.b (.d 16),.b _,k] t=B (E,⟨g,t.a+1⟩):=
   OM A z.1 (show hf _ t=_ from au A (C (wU a) A)) (by
   show aI _ (ch F k e)=_
   exact C Y ((hO d a).trans (O B ((O (cN · k) z.1).symm.trans P)))) f w.1 A (dA r (by decide))
  have v:t.a+1<100000:=dA (fk r) (by decide);exact(ag _ (jS A A (fd (qc (e:=.c (.a 0) 30) (bF A Q T A) c.1 ((jT (kb (c:=ca 1) A (kb (c:=ca 2) (show hf (B k) t=_ from au A (C (wU a) A)) (eE a0))):iC _ [.b _,.b _,k] t=_)) (c.1) (dA c.2 (R5 v)) A v) A)) ⟨⟨(an p _ A (λq m=>z.2.1 q (w.2.2.2.subset m)) (aV (w.2.2.2.length_le) (aV z.2.2 (bX _ 2)))),λi i q=>J (aW (O dy q)) (bu.mpr λZ m=>bu.mp f Z (w.2.2.2.subset m))⟩,λi i q=>J (aW (O dy q)) ((x e b z.1).sublist w.2.2.2),R (((λj h=>(hO u h).symm) k a).trans w.2.1),λj h U=>R (((λj h=>(hO u h).symm) j h).trans ((w.2.2.1 j h U).trans ((hO d h).trans (O B (O (cN · j) z.1).symm)))),(ag _ A (by exact C dr (fk (jD c.2)))),A,λa1 g S=>(ba S).trans (ba g)⟩)
inductive mv(t s:S U) where
 |mk (c:bE s.a 3 (s.b (.d 23)))
  (n:gn (s.b (.d 23)))
  (b:∃l,s.b (.d 29)=.a l/\l.length<=s.a)
  (d:t.a<=s.a)
  (f:∀a,a≠ .d 23->a≠ .d 29->s.b a=t.b a)
theorem mv.l(g:mv t s)(d:ux s a k):mv t a:=⟨d.1,d.2,d.5,aV g.4 (C d.6 (bX _ 2)),λb h c=>(d.7 b h c).trans (g.5 b h c)⟩
theorem Fo{c}{t:E->aC->S U->av U _}(h:s.b c=.a (p++v::r))(e:t v l s=B ((.a,a),b))(k:ed (H F) (.g c) t n (p++[v]).length a b=q):ed (H F) (.g c) t (n+1) p.length l s=q:=
 au (b:=B v) (au (show ce (s.b c)=_ by refine C h ?_;rfl) (by rw[wE])) (ab e (by rw[dr]at k;exact k))
theorem kL{t}{n}{p}{l}{s}(h:s.b a=.a p):ed (H F) (.g a) t (n+1) p.length l s=B ((.a,l),s):=
 au (au (show ce (s.b a)=_ by exact C h A) (by rw[As])) A
theorem Qt{T:E->aC->S U->av U _}{t}{Q:E->Bool}{P:aC->Prop}(W:∀k l s,br k=D->L s 23 k=L t 23 k->L t 23 k≠N->P l->mv t s->s.a<=90000->∃c b,T k l s=B ((.a,c),b)/\P c/\(Q k=D->ux s b k)/\(Q k=I->b=s)):
  ∀r p l s,t.b (.c a)=.a (p++r)->(∀k∈r,br k=D/\L t 23 k≠N)->r.Nodup->P l->mv t s->s.a+2*r.length<=90000->(∀j∈r,L s 23 j=L t 23 j)->(∀j,br j=D->j∉r->L s 23 j=bif Q j then N else L t 23 j)->
   ∃c b,ed (H F) (.g (.c a)) T (r.length+1) p.length l s=B ((.a,c),b)/\mv t b/\(∀j,br j=D->L b 23 j=bif Q j then N else L t 23 j)/\b.a<=s.a+2*r.length:=λr=>by
 induction r with
 |nil=>exactλp l s h z z z g z z v=>(dR l s (kL ((g.5 _ af.noConfusion af.noConfusion).trans (h.trans (O _ (ln p))))) g (λj i=>v j i cI) (bd _))
 |cons k r X=>
  intro p l s h u o V g n w v;have o:=fF.mp o;have G:=u k bn;refine aq (W k l s G.1 (w k bn) G.2 V g (ap [_,_] (.a 1 (.c (.a 0) (.f 2 (.c (.a 1) (.b 1)))) (.b _) .b) (.a 0) (.b _) A n)) λc b q=>?_
  have d:mv t b/\b.a<=s.a+2/\(L b 23 k=bif Q k then N else L t 23 k)/\∀j,br j=D->k≠j->L b 23 j=L s 23 j:=by cases K:Q k with|true=>exact have f:=q.2.2.1 K;(da (g.l f) (pv f.6) f.3 f.4)|false=>exact C (q.2.2.2 K) (da g (bX _ _) (w k bn) (λz z z=>A))
  have x:=d.2.1;exact c' (X _ c b (by rw[h,kp];rfl) (λj m=>u j (bT _ m)) o.2 q.2.1 d.1 (ap [_,_,_] (.a 1 (.c (.a 0) (.f 2 (.c (.a 1) (.b 1)))) (.b _) (.a 1 (.a 2) (.c (.a 0) (.b 2)) .b)) (.c (.a 2) (.f 2 (.a 1))) (.b _) A n x) (λj m=>(d.2.2.2 j (u j (bT _ m)).1 λe=>o.1 (C e m)).trans (w j (bT _ m))) λj i n=>(di (k=j)).elim (λe=>J e d.2.2.1) λe=>(d.2.2.2 j i e).trans (v j i λm=>(cB.mp m).elim (λY=>e Y.symm) n)) λZ a0 y=>(da (Fo ((g.5 _ af.noConfusion af.noConfusion).trans h) q.1 y.1) y.2.1 y.2.2.1 (aV y.2.2.2 (by exact ap [_,_,_] (.a 1 (.a 0) (.c (.a 1) (.b 2)) .b) (.c (.a 0) (.f 2 (.a 2))) (.c (.a 1) (.f 2 (.c (.a 2) (.b 1)))) A x)))
inductive hx(t s:S U) where
 |mk (c:bE s.a 3 (s.b (.d 23)))
  (n:gn (s.b (.d 23)))
  (b:∃l,s.b (.d 29)=.a l/\l.length<=s.a)
  (d:t.a<s.a)
  (f:∀a,a≠ .d 23->a≠ .d 29->a≠ .c t.a->s.b a=t.b a)
section
variable{a:Nat->List E->S U->av U E}{l:aC}{s b d:S U}{e:aJ}{x y z:List de}{c:aC}{q:av U (cQ×aC)}{v:E}
theorem hR(h:s.b (.c s.a)=.f)(f:s.a<100000):fL (H F) N o s=B (.b (.c s.a),⟨aZ.d s.b (.c s.a) o,s.a+1⟩):=by refine au (show qO (s.b (.c s.a))=_ by refine C h ?_;rfl) ?_;refine C (show ar s.a _=D from er f) ?_;rfl
theorem qI(g:f.length<100000)(h:s.b (.c s.a)=.f)(i:s.a<100000):fM (H F) f s=B (.b (.c s.a),⟨aZ.d s.b (.c s.a) (.a f),s.a+1⟩):=by
 show aI _ _=_
 exact C (show ar _ _=D from er g) (hR h i)
theorem js(k:K (H F) a e l s=B (.b f,b))(i:b.b f=.a h)(n:ed (H F) (.g f) (dK (H F) g (as (H F) a x)) (h.length+1) 0 l b=B ((.a,c),d))(o:as (H F) a y c d=q):as (H F) a (.g g (.d e) x::y) l s=q:=by
 have j:hG (H F) (.g f) b.b=h.length:=by show((ce (b.b f)).getD []).length=_;exact C i A
 have m:pg (H F) _ l s=B _:=ab k (au (show ow f (b.b f)=_ by exact C i A) A);exact(gx (ab m (by exact C j n)) o:dS (jy _ g _ _) _ l s=_)
theorem hX(h:bc (H F) (K (H F) a e) l s=B (D,s))(k:as (H F) a x l s=B ((.a,c),d))(f:as (H F) a z c d=q):as (H F) a (.a e x y::z) l s=q:=
 (gx (ab h k) f:dS (iF _ _ _ (as _ a y)) _ l s=_)
theorem OG(j:K (H F) a e l s=B (.b g,s))(k:s.b g=.b f h)(m:dG f=D)(n:f.length<100000)(i:s.b (.c s.a)=.f)(o:s.a<100000):K (H F) a (.m 1 [e]) l s=B (.b (.c s.a),⟨aZ.d s.b (.c s.a) (.a (f.map (·.1))),s.a+1⟩):=by
 exact(ab (eE j) (au (by
  show rb (s.b g)=_
  refine C k ?_;show aI _ _=_
  exact C m A) (qI (f:=f.map (·.1)) (by rw[ea];exact n) i o)):gT _ 1 _ l s=_)
end
theorem Fs{a2}{t}{Q:E->Bool}{P:aC->Prop}(a9:t.b (.d 16)=.e 4 a2)(b5:cG 24 a2=B (.b (.d 23)))(G:t.a<=28000)(a7:t.b (.c t.a)=.f)(p:bE t.a 3 (t.b (.d 23)))(a5:gn (t.b (.d 23)))(b7:∃l,t.b (.d 29)=.a l/\l.length<=t.a)(a8:Z l 0=B (.b (.d 16)))(b2:P l)
  (b3:∀k l s,br k=D->L s 23 k=L t 23 k->L t 23 k≠N->P l->hx t s->s.a<=90000->∃n a0,dK (H F) g (as (H F) a x) k l s=B ((.a,n),a0)/\P n/\(Q k=D->ux s a0 k)/\(Q k=I->a0=s)):
  ∃n o,as (H F) a [.g g (.d (.m 1 [.c (.a 0) 24])) x] l t=B ((.a,n),o)/\hx t o/\o.a<=3*t.a+1/\∀j,br j=D->L o 23 j=bif Q j then N else L t 23 j:=
 aq p.1 λe v z=>by
  let u:S U:=⟨aZ.d t.b (.c t.a) (.a (e.map (·.1))),t.a+1⟩
  have d:=λq m=>(z.2.1 q m).1
  have a1:u.b (.c t.a)=.a ([]++e.map (·.1)):=by show(bif M t.a t.a then _ else _)=_;rw[gj];rfl
  have b4:∀k∈e.map (·.1),br k=D/\L t 23 k≠N:=λk m=>(hr.mp m).elim λq w=>⟨J w.2 (d q w.1),λb=>by
   have K:∀e,(∀q∈e,br q.1=D)->dG e=D->q∈e->ch F k e≠B N:=λe=>by
    induction e with
    |nil=>exactλc c m=>ak m cI
    |cons f e Y=>exactλh i m b=>(hI f.1 k (h f bn) (J w.2 (d q w.1))).elim (λr=>by
      have b:=(eK r.1).symm.trans b;have i:=(ot i).2.1
      revert b i
      cases f.2 with
      |f=>exactλc i=>ck i
      |_=>exactλb c=>X (R b).symm) λr=>(cB.mp m).elim (λx=>r.2 (J x w.2)) λm=>Y (λq m=>h q (bT _ m)) (ot i).2.2 m ((eK r.1).symm.trans b)
   exact K e d (p.2 e v z.1) w.1 ((hO d (w.2▸d q w.1)).trans (O B ((O (cN · k) z.1).symm.trans b)))⟩
  have a3:∀{s},mv u s->hx t s:=λg=>⟨g.1,g.2,g.3,g.4,λa6 T V W=>(g.5 a6 T V).trans (ba W)⟩
  refine(Qt (t:=u) (λk l s T V W b0 b1=>b3 k l s T V W b0 (a3 b1)) _ [] l u a1 b4 (Lu.mpr (a5 e v z.1)) b2 ⟨p.c (gk _),a5,b7.imp λl h=>⟨h.1,jD h.2⟩,bd _,λc c c=>A⟩ (by rw[ea];exact ap [_,_] (.a 3 (.a 0) (.b _) (.a 2 (.a 1) (.a 0) .b)) (.c (.c (.a 0) (.b 1)) (.f 2 (.a 1))) (.b _) A G z.2.2) (λc c=>A) λj a4 b6=>?_).imp λn y=>y.imp λo y=>(da (js (OG (a:=a) (e:=.c (.a 0) 24) (bF (show hf _ t=_ by exact C a8 A) a9 b5 A) z.1 (p.2 e v z.1) (dA (aV z.2.2 G) (by decide)) a7 (dA G (by decide))) a1 y.1 A) (a3 y.2.1) (by have h:=y.2.2.2;rw[ea]at h;exact ap [_,_,_] (.a 2 (.a 0) (.a 1) (.a 1 (.a 2) (.c (.c (.a 1) (.b 1)) (.f 2 (.a 0))) .b)) (.a 2) (.c (.f 3 (.a 1)) (.b 1)) A z.2.2 h) y.2.2.1)
  have b8:L t 23 j=N:=by
   have K:∀e,(∀q∈e,br q.1=D)->j∉e.map (·.1)->ch F j e=B N:=λe=>by
    induction e with|nil=>exactλc c=>A|cons f e Y=>exactλh m=>(eK ((hI f.1 j (h f bn) a4).f λb=>m (J b bn))).trans (Y (λq m=>h q (bT _ m)) λx=>m (bT _ x))
   exact R ((O B (O (cN · j) z.1)).trans ((hO d a4).symm.trans (K e d b6)))
  refine C b8 ?_;cases Q j<;>rfl
theorem hx.d{t s}(g:hx t s){i:Nat}(h:M i 23=I)(j:M i 29=I):s.b (.d i)=t.b (.d i):=
 g.5 _ (λa=>ck ((af.b.mpr a).symm.trans h)) (λa=>ck ((af.b.mpr a).symm.trans j)) af.noConfusion
theorem hx.c{t s}(g:hx t s)(h:i≠t.a):s.b (.c i)=t.b (.c i):=g.5 _ af.noConfusion af.noConfusion λa=>h (af.f a)
theorem hx.f{t s}(g:hx t s)(r:cD t)(k:s.a<=97000):cD s:=
 ⟨k,
  (λm a=>(g.c (λj=>DK (am (am (aQ (ct j) 1) (g.4)) a))).trans (r.2 m (aV (fh g.4) a))),
  (λi h=>(g.d (by cases q:M i 23 with|false=>rfl|true=>exact ak (bW q▸h) (by decide)) (by cases q:M i 29 with|false=>rfl|true=>exact ak (bW q▸h) (by decide))).trans (r.3 i h))⟩
theorem hx.b{t s}{k h}(g:hx t s)(a:fI t k h)(i:s.a<=90000):fI s k h:=
 ⟨a.1,g.f a.2 (aV i (by decide)),C (g.d A A) a.3,(g.c (bw a.5)).trans a.4,dt a.5 g.4⟩
def pZ(v:E):Nat:=dc 0 (λl=>dc 0 (λa=>bif M a 2 then 4 else bif M a 3 then(dc 0 (λz=>z.c.toNat) (Y (Z l 1) dw))else(dc 0 (λj=>j-21) (Y (Z l 1) hD))) (Y (Z l 0) hD)) (hE v)
def rx(v:E):Int:=dc 0 (λz=>z.c) (dw v)
def te(v)(i:Nat):=(dP i v).getD .f
def oL(k b)(o w)(v):=gO k (pZ (te v 0)) (rx (te v 1)) (rx (te v 2)) b o w
def AL(k)(v):=!(eg k (pZ (te v 0)))
theorem p'(h:b<5):pZ (bI m b)=b:=(T A (T A (T A (T A (T A ae)))):∀b∈[0,1,2,3,4],pZ _=b) b (jg h)
theorem AM(h:b<5):oL k a o w (bp m b c d)=gO k b c d a o w:=O (λb=>gO k b c d a o w) (p' h)
theorem Im(h:b<5):AL k (bp m b o w)=!(eg k b):=O (λb=>!(eg k b)) (p' h)
theorem qs(h:b<5):cH (bp m b o w) 6=D/\aF (bI m b)=I:=(T ⟨A,A⟩ (T ⟨A,A⟩ (T ⟨A,A⟩ (T ⟨A,A⟩ (T ⟨A,A⟩ ae)))):∀b∈[0,1,2,3,4],cH (bp m b o w) 6=D/\aF _=I) b (jg h)
def lu(t:S U)(a s):=∃f,t.b (.c a)=.e 2 f/\cG 12 f=B (.b (.c s))
section
variable{a:Nat->List E->S U->av U E}{l:aC}{s:S U}
theorem KE(h:bs (eM (H F) a e) l s=B (v,s))(c:a f v s=B (.c b,s)):bc (H F) (K (H F) a (.k f e)) l s=B (b,s):=
 ab ((ab h c:gg a f _ l s=B _)) A
end
section
variable{t:S U}{f s k n:Nat}{a m:Int}
inductive pB(t b)(Q:E->Bool) where
 |mk (w:hx t b)
  (h:b.a<=3*t.a+1)
  (i:∀j,br j=D->L b 23 j=bif Q j then N else L t 23 j)
theorem Ft(x:bz t f a)(v:fI t k s)(e:lu t f s)(a0:f<t.a)(a1:aS 1000 m)(j:ez t m)(X:t.a<=28000){b}{o w}(Z:b<5)(a3:0<=o/\o<5)(a6:cS w):
  ∃u,ah (H F) (n+3) 36 [.b (.d 16),bp m b o w] t=B (.g,u)/\pB t u (oL k b o w):=
 x.2.elim λb5 h=>e.elim λb4 e=>by
  have G:=dg (k:=24) h.2 A;refine(Fs (P:=λS=>∃W,S=[.b (.d 16),bp m b o w,W]) h.1 G X (v.2.2 _ (bd _)) j.1 j.2 x.10 A ⟨_,A⟩ ?_).elim λb6 z=>z.imp λu z=>⟨jS A A z.1,z.2.1,z.2.2.1,z.2.2.2⟩
  intro Q S c J a5 a2 Y g P;refine cn Y λW q=>?_;subst q
  cases p:L t 23 Q with
  |none=>exact ak p a2
  |some b2=>
   refine xD (j.3 Q b2 J p) λy T V r a4 a7 q=>?_;subst q
   have d:=(g.d A A).trans h.1
   let l:=[.b (.d 16),bp m b o w,bp m y T V]
   have b1:K (H F) (ah (H F) (n+2)) (.c (.c (.a 0) 18) 12) l c=B _:=bF (bF A d (dg (k:=18) h.2 A) A) ((g.c (bw a0)).trans e.1) e.2 A;have a8:K (H F) (ah (H F) (n+2)) (.c (.a 0) 20) l c=B _:=bF A d (dg (k:=20) h.2 A) A;have i:=KE (e:=[.a 2,.a 1,.c (.c (.a 0) 18) 12,.c (.a 0) 20]) (bV A (bV A (bV b1 (bV a8 A)))) (Tm (n:=n) (g.b v P) a1 r a4 a7 Z a3 a6);refine C (AM r) ?_;cases U:gO k y T V b o w with
   |true=>
    rw[U]at i;refine(EP (n:=n+1) d (dg (k:=30) h.2 A) P g.1 g.2 g.3 J (qs r).1 A (a5.trans p)).elim λb0 E=>(dR l b0 ?_ ⟨_,A⟩ (λb3=>E.2) ck)
    have a9:as (H F) (ah _ (n+2)) [.d (.h (.a 0) 32 [.c (.a 0) 24,.a 2])] l c=B _:=fd (zj A d A (bF A d G A) A E.1) A;exact(hX (y:=[]) (z:=[]) i a9 A:as _ _ _ l c=_)
   |false=>rw[U]at i;exact(dR l c (b' (x:=[.d _]) (z:=[]) i A:as _ _ _ l c=_) ⟨_,A⟩ az (λb3=>A))
def Rd(n)(b):=ah (gb tE) (n+1) 17 [b,.b (.c 0)] ⟨fK [] [hW],1⟩
theorem Rf(n):([0,1].map λb=>lf.map λw=>Rd n (je b (.b 0 0) w))=[0,1].map λb=>lf.map λw=>B (.c D,⟨fK [] [hW],1⟩):=by kernel_rfl
theorem Re(c:fI t k s){b}(h:b<2)(e:0<=o/\o<5)(g:cS w):ah (H F) (n+1) 17 [bp m b o w,.b (.c s)] t=B (.c D,t):=by
 have v:gI ⟨[o],[],[],[s],t.a,0⟩:=⟨fF.mpr ⟨cI,mr⟩,T c.5 ae⟩
 have P:cM (ai ⟨[o],[],[],[s],t.a,0⟩) tE:=AC (T ⟨e.1,M2 e.2⟩ ae) ae A;have d:bD _ ⟨fK [] [hW],1⟩ t:=qW v P c.2 A trivial (an s _ A c.4 A);refine(jR (gF v P) _ 17 _ _ _ d _ _ (eS.mp (eS.mp (Rf n) b (mc h)) w g)).elim λi z=>?_
 rw[(IK A A A A d z.2)]at z;exact J ((T A (T A ae):∀b∈[0,1],Q (ai ⟨[o],[],[],[s],t.a,0⟩) (je b (.b 0 0) w)=bp m b o w) b (mc h)) z.1
section
variable{c:Nat->List E->S U->av U E}{l:aC}{b:S U}{e d:aJ}{g:List aJ}{v:E}{r:af}
theorem tB(h:K (H F) c e l b=B (.c D,b)):bc (H F) (K (H F) c (.q (e::d::g))) l b=B (D,b):=
 (ab (ab h (ab A A)) A:aB (gh _ _ (K _ c (.q (d::g))) l b) _=_)
theorem wO(i:K (H F) c e l b=B (.c I,b))(k:bc (H F) (K (H F) c (.q (d::g))) l b=q):bc (H F) (K (H F) c (.q (e::d::g))) l b=q:=by
 have h:gh (H F) _ _ l b=K (H F) c (.q (d::g)) l b:=ab i (ab A A);show aB (gh _ _ _ l b) _=q
 exact C h k
theorem zk(i:K (H F) c e l b=B (v,b))(j:K (H F) c d l b=B (.b r,b))(h:jc (H F) v (b.b r)=B x):K (H F) c (.e .f e d) l b=B (.c (xor D x),b):=
 (ab i (ab j (au h A)):ei (H F) .f _ _ l b=_)
end
theorem UO{k b e:Nat}(d:k<3)(c:b<2):jc (H F) (G b) (.b (fy k) e)=B (eg k b):=by
 match k,b,d,c with|0,0,_,_=>rfl|0,1,_,_=>rfl|1,0,_,_=>rfl|1,1,_,_=>rfl|2,0,_,_=>rfl|2,1,_,_=>rfl|_+3,_,h,_=>exact pQ [_] (.a 1 (.c (.c (.a 0) (.b 3)) (.b 1)) (.b 3) .b) A h|_,_+2,_,h=>exact pQ [_] (.a 1 (.c (.c (.a 0) (.b 2)) (.b 1)) (.b 2) .b) A h
noncomputable def DG:aJ:=.q [.e .c (.f (.a 2) (.b (.a (.a 0)))) (.b (.e 3)),.e .f (.f (.a 2) (.b (.a (.a 1)))) (.c (.a 0) 20),.s (.k 17 [.a 1,.c (.c (.a 0) 18) 12])]
theorem Mx{g j}(i:fI c k s)(l:c.b (.d 16)=.e 4 g)(v:cG 18 g=B (.b (.c f)))(x:cG 20 g=B (.b (.d 19)))(y:c.b (.c f)=.e 2 j)(r:cG 12 j=B (.b (.c s)))(J:c.b (.d 19)=.b (fy k) e)(z:b<5)(E:0<=o/\o<5)(L:cS w):
  bc (H F) (K (H F) (ah (H F) (n+1)) DG) [.b (.d 16),bp m b o w,bI m b] c=B (!(eg k b),c):=by
 have u:∀b∈[2,3,4],K (H F) (ah (H F) (n+1)) (.e .c (.f (.a 2) (.b (.a (.a 0)))) (.b (.e 3))) [.b (.d 16),bp m b o w,bI m b] c=B (.c D,c)/\eg k b=I:=T ⟨A,A⟩ (T ⟨A,A⟩ (T ⟨A,A⟩ ae));have p:∀b∈[0,1],K (H F) (ah (H F) (n+1)) (.e .c (.f (.a 2) (.b (.a (.a 0)))) (.b (.e 3))) [.b (.d 16),bp m b o w,bI m b] c=B (.c I,c)/\K (H F) (ah (H F) (n+1)) (.f (.a 2) (.b (.a (.a 1)))) [.b (.d 16),bp m b o w,bI m b] c=B (G b,c):=T ⟨A,A⟩ (T ⟨A,A⟩ ae)
 by_cases h:b<2
 ·refine wO (p b (mc h)).1 ?_;have d:=zk (p b (mc h)).2 (bF (e:=.a 0) A l x A) (by exact C J (UO i.1 h));have P:K (H F) (ah (H F) (n+1)) (.c (.c (.a 0) 18) 12) [.b _,bp m b o w,bI m b] c=B _:=bF (bF A l v A) y r A;cases q:eg k b with|false=>rw[q]at d;exact tB d|true=>rw[q]at d;exact wO d ((ab (ab (KE (a:=ah _ (n+1)) (e:=[.a 1,.c (.c (.a 0) 18) 12]) (bV A (bV P A)) (Re i h E L)) A) A:aB (lj _ _ _ c) _=_))
 ·have w:=u b ((by decide:∀b,b<5->¬b<2->b∈[2,3,4]) b z h);exact C w.2 (tB w.1)
theorem Qs(E:bz t f a)(o:fI t k s)(d:lu t f s)(Y:f<t.a)(a9:aS 1000 m)(p:ez t m)(V:t.a<=28000):
  ∃w,ah (H F) (n+2) 37 [.b (.d 16)] t=B (.g,w)/\pB t w (AL k):=
 E.2.elim λa8 h=>d.elim λa7 d=>o.3.elim λb1 X=>by
  have J:=dg (k:=24) h.2 A;refine(Fs (x:=[.c 2 _,.a DG _ []]) (P:=λT=>∃U y,T=[.b (.d 16),U,y]) h.1 J V (o.2.2 _ (bd _)) p.1 p.2 E.10 A (dQ _ _ A) ?_).elim λb0 z=>z.imp λw z=>⟨jS A A z.1,z.2.1,z.2.2.1,z.2.2.2⟩
  intro S T b P a1 Z W g Q;refine aq W λU y u=>?_;subst u
  cases r:L t 23 S with
  |none=>exact ak r Z
  |some a5=>
   refine xD (p.3 S a5 P r) λc v x j a0 a2 u=>?_;subst u
   have i:=(g.d A A).trans h.1
   let l:=[.b (.d 16),bp m c v x,bI m c]
   have e:=Mx (n:=n) (m:=m) (g.b o Q) i (dg (k:=18) h.2 A) (dg (k:=20) h.2 A) ((g.c (bw Y)).trans d.1) d.2 ((g.d A A).trans X) j a0 a2;have K:∀{z}{q},as _ _ z l b=q->as (H F) (ah (H F) (n+1)) (.c 2 (.f (.a 1) (.b (.a (.a 0))))::z) [.b _,bp m c v x,y] b=q:=λ{z q} h=>(gx (ab (show hf (B (bI m c)) b=_ from au A (C ((qs (o:=v) (w:=x) j).2) A)) A:iE 2 _ _ b=B _) h:dS (iE 2 _) _ _ b=_)
   refine C (Im j) ?_;cases q:eg k c with
   |false=>
    rw[q]at e;refine(EP (n:=n) i (dg (k:=30) h.2 A) Q g.1 g.2 g.3 P (qs j).1 A (a1.trans r)).elim λa4 G=>(dR l a4 ?_ ⟨_,_,A⟩ (λa6=>G.2) ck)
    have a3:as (H F) _ [.d (.h (.a 0) 32 [.c (.a 0) 24,.a 1])] l b=B _:=fd (zj A i A (bF A i J A) A G.1) A;exact K (hX (y:=[]) (z:=[]) e a3 A)
   |true=>rw[q]at e;exact(dR l b (K (b' (x:=[.d _]) (z:=[]) e A)) ⟨_,_,A⟩ az (λa6=>A))
end
inductive kw(a:Nat)(k) where
 |mk (n:M a 0=I)
  (p:br k=D)
  (h:cH k 6=D)
  (a:bN k=a)
theorem Av{p b}{o}(c:bE p b o)(d:o=.b e a)(q:kw b k):fb k e=D:=by
 unfold fb;rw[q.3,q.4,q.1,(c.2 e a d),KZ];cases e with
 |nil=>rfl
 |cons x e=>
  show(D&&D&&M _ b)&&D=D
  rw[(aq c.1 λg f z=>(z.2.1 x (J (aW (O dy (d.symm.trans z.1))) bn)).2),gj];rfl
theorem sA{p d}(c:bE p d o)(b:o=.b e a)(q:kw d k):pY (H F) e k=B (cN o k):=by
 show aI _ (ch F k e)=_
 exact C (Av c b q) ((hO (a:=a) (λx m=>aq c.1 λg f z=>(z.2.1 x (J (aW (O dy (b.symm.trans z.1))) m)).1) q.2).trans (O B (O (cN · k) b).symm))
inductive Dv(a s)(i c)(k v) where
 |mk (o:bE s.a c (s.b (.d i)))
  (n:gn (a.b (.d i))->gn (s.b (.d i)))
  (d:L s i k=B v)
  (e:∀j,br j=D->k≠j->L s i j=L a i j)
  (g:s.a=a.a+1)
  (f:∀b,b≠ .d i->s.b b=a.b b)
theorem Z'(h:aF v=I):dZ v=B v:=by
 show(bif aF v then _ else _)=_
 exact C h A
section
variable{a:Nat->List E->S U->av U E}{l:aC}{s f:S U}{i c n:Nat}{b d e:aJ}{k v g:E}{x:List de}{o:bq}
theorem cj{b}:aZ.d h b o b=o:=by
 show(bif af.e b b then o else h b)=o
 exact C (af.b.mpr A) A
theorem Bo(y:bE s.a c (s.b (.d i)))(w:kw c k)(L:aF v=I)(U:cV 16 i=D)(G:s.a<99999):∃S,jq (H F) (.b (.d i)) k v s=B ((),S)/\Dv s S i c k v:=
 aq y.1 λh j z=>(Ii v w.2 h λp m=>(z.2.1 p m).1).elim λq u=>by
  have V:=λp m=>(z.2.1 p m).1
  have P:∀p∈q,br p.1=D/\bN p.1=c:=λp m=>(u.4 p m).elim (λe=>e▸⟨w.2,w.4⟩) λK=>K.elim λx K=>J K.2 (z.2.1 x K.1)
  refine(ag ⟨aZ.d s.b (.d i) (.b q (bif M q.length h.length then j else j+1)),s.a+1⟩ ?_ ?_)
  ·show kY _ _ (s.b _) k v s=_
   refine C z.1 ?_;show aI (fb k h&&ar _ 100000) (aI ((dG h||_)&&!(aF v)) (Y (hH F k v h) _))=_
   refine C (Av y z.1 w) (C (show ar _ _=D from er (dA z.2.2 (cO G (by decide)))) (C (y.2 h j z.1) (C L (C u.1 ?_))));show aI (cV 16 i&&D&&ar s.a 100000) _=_
   exact C U (C (show ar s.a _=D from er (cO G (by decide))) A)
  ·have E:aZ.d s.b (.d i) (.b q (bif M q.length h.length then j else j+1)) _=.b q _:=cj;exact⟨E.symm.subst (motive:=bE (s.a+1) c) ⟨(an q _ A P (aV u.5 (fk z.2.2))),λQ Q e=>J (aW (O dy e)) (u.7 L (y.2 h j z.1))⟩,λn=>E.symm.subst λQ Q e=>J (aW (O dy e)) (u.6 (n h j z.1)),(O (cN · k) E).trans (R (((λt r=>(hO (λp m=>(P p m).1) r).symm) k w.2).trans (u.2.trans (O B (Z' L))))),λt r G=>(O (cN · t) E).trans (R (((λt r=>(hO (λp m=>(P p m).1) r).symm) t r).trans ((u.3 t r G).trans ((hO V r).trans (O B (O (cN · t) z.1).symm))))),A,λb T=>ba T⟩
theorem rd(q:K (H F) a e l s=B (v,f))(m:K (H F) a b l f=B (.b (.d i),f))(p:K (H F) a d l f=B (k,f))(j:jq (H F) (.b (.d i)) k v f=B ((),h)):as (H F) a (.i b d e::x) l s=as (H F) a x l h:=
 (gx (ab q (ab m (ab p (ab j A)))) A:dS (pm _ _ _ _) (as _ a x) l s=_)
theorem qd(h:bE s.a c (s.b (.d i)))(q:kw c k)(p:K (H F) a b l s=B (k,s))(r:K (H F) a d l s=B (.b (.d i),s))(t:hD k=N):K (H F) a (.e .b b d) l s=B (.c (L s i k).isSome,s):=
 aq h.1 λj w z=>by
  refine(ab p (ab r (au (b:=(L s i k).isSome) ?_ ?_)):ei _ .b _ _ l s=_)
  ·show jc _ k (s.b _)=_
   refine C z.1 ?_;show aI _ _=_
   refine C (Av h z.1 q) ?_;have u:to (H F) k j=Y (ch F k j) λo=>B o.isSome:=by cases k with|e=>exact X t.symm|_=>rfl
   refine C u (C (aY (show aI _ (ch F k j)=B _ from(sA h z.1 q)) λy m=>m) ?_);rfl
  ·cases(L s i k).isSome<;>rfl
theorem vk(h:bE s.a c (s.b (.d i)))(q:kw c k)(m:K (H F) a b l s=B (.b (.d i),s))(p:K (H F) a d l s=B (k,s))(j:L s i k=B v):K (H F) a (.f b d) l s=B (v,s):=
 aq h.1 λt r z=>by
  refine(ab m (ab p ?_):gV _ _ _ l s=_);show lI _ (s.b _) k s=_
  exact C z.1 (au ((sA h z.1 q).trans (O B j)) A)
theorem zf(h:bE s.a c (s.b (.d i)))(u:kw c k)(t:K (H F) a e l s=B (.b (.d i),s))(q:K (H F) a b l s=B (k,s))(r:K (H F) a d l s=B (g,s)):K (H F) a (.h e 2 [b,d]) l s=B ((L s i k).getD g,s):=
 aq h.1 λm j z=>by
  refine wt (c:=[K _ a b,K _ a d]) t ?_ (bV q (bV r A)) ?_
  ·show(match s.b _ with
    |.e h _=>Y (dD.h h 2) λp=>B (B p)
    |.f=>.none
    |.c=>.none
    |_=>B _)=_
   exact C z.1 A
  ·unfold lR kU;refine C (show(H F).a s.b _=.b m j from z.1) (C z.1 ?_);refine au (sA h z.1 u) ?_;show _=B ((cN _ k).getD g,s)
   cases cN _ k<;>rfl
end
theorem BX:kw 3 (ax m):=⟨A,A,A,A⟩
theorem td(h:b<5):kw 3 (bp m b o w):=⟨A,jZ h,(qs h).1,A⟩
section
variable{a:Nat->List E->S U->av U E}{l i:aC}{s b n:S U}{r:af}{c d e o:aJ}{k v m:E}{j:List E}{x y z:List de}{h:List (Nat×E)}{g f:Nat}{q:av U (cQ×aC)}
theorem nF(t:Z l p=B v)(u:aF v=I):ca p l s=B (v,s):=by
 show hf _ s=_
 exact C t (au A (by exact C u A))
theorem k'(u:K (H F) a e l s=B (.d j,b))(p:kh (H F) a t j l b=B (i,b))(k:as (H F) a x i b=q):as (H F) a (.e t e::x) l s=q:=
 (gx (ab u (au A (ab p A))) k:dS (nL _ a t _) _ l s=_)
theorem dJ(u:K (H F) a e l s=B (v,b))(t:fc l p v=B i)(k:as (H F) a x i b=q):as (H F) a (.c p e::x) l s=q:=
 (gx (ab u (au t A)) k:dS (iE p _) _ l s=_)
theorem iv(t:K (H F) a e l s=B (v,b))(G:aF v=I)(w:K (H F) a o l b=B (.b r,b))(E:b.b r=.e g h)(p:(dD.a g f&&ar h.length 1000)=D)(J:r.a=D)(u:b.a<100000)(k:as (H F) a x l ⟨aZ.d b.b r (.e g (hh f v h)),b.a+1⟩=q):as (H F) a (.f o f e::x) l s=q:=by
 have L:kg (H F) (.b r) f v b=B ((),⟨aZ.d b.b r (.e g (hh f v h)),b.a+1⟩):=by
  refine au (au A (show Y (qP (b.b r)) _=_ by exact C E A)) ?_;show aI _ (aI _ (aI (r.a&&D&&ar _ 100000) _))=_
  exact C p (C G (C J (C (show ar _ _=D from er u) A)))
 exact(gx (ab t (ab w (ab L A))) k:dS (pl _ _ f _) _ l s=_)
theorem uJ(p:K (H F) a c l s=B (.c I,s)):bc (H F) (K (H F) a (.l [c,d])) l s=B (I,s):=
 (ab (ab p (ab A A)) A:aB (gS _ _ (K _ a d) l s) _=_)
theorem sm(t:K (H F) a c l s=B (.c D,s))(u:K (H F) a d l s=B (.c p,s)):bc (H F) (K (H F) a (.l [c,d])) l s=B (p,s):=
 (ab (ab t (ab A u)) A:aB (gS _ _ _ l s) _=_)
theorem zl(t:K (H F) a c l s=B (.c p,s)):K (H F) a (.s c) l s=B (.c (!p),s):=
 (ab (ab t A) A:lj _ _ l s=_)
theorem bS(t:K (H F) a c l s=B (.c p,s)):bc (H F) (K (H F) a c) l s=B (p,s):=ab t A
theorem OQ(u:K (H F) a c l s=B (ax p,s))(w:K (H F) a d l s=B (ax t,s)):bc (H F) (K (H F) a (.e .a c d)) l s=B (p==t,s):=by
 refine bS (ab u (ab w ?_):ei _ .a _ _ l s=_);show Y (a' _ (B D) _) _=_
 cases p==t<;>rfl
end
theorem Ia{t}(b:bz t f a):ah (H F) (n+1) 31 [.b (.d 16),ax m] t=B (cz (L t) m,t):=
 b.2.elim λg h=>by have d:K (H F) (ah (H F) n) (.c (.a 0) 25) [.b _,ax m] t=B _:=bF A h.1 (dg (k:=25) h.2 A) A;have c:=qd (b:=.a 1) b.5 BX A d A;unfold cz;cases e:L t 24 _ with|none=>rw[e]at c;exact ft A A (b' A (b' (bS c) (cY A)))|some v=>rw[e]at c;exact ft A A (b' A (fz (bS c) (cY (vk b.5 BX d A e))))
def sr:=mM.a.drop 3
section
variable{t:S U}{e p n:Nat}{g c a m o w h:Int}{b:Nat}{i:E}{d:Bool}{f:List (Nat×E)}
abbrev fw(p:Nat)(c a:Int)(j:E)(o:Int)(k x:E):aC:=[.b (.d 16),.b (.c p),ax c,ax a,j,G o,k,x]
theorem Jy(j:bz t e g)(v:t.b (.c p)=.e 0 f)(r:cG 3 f=B (G w))(u:cz (L t) c=.d [bI m b,G o])(s:b<5)(x:as (H F) (ah (H F) (n+1)) (mM.a.drop 2) (fw p c a (bI m b) o (bp m b o w) .f) t=q):
  as (H F) (ah (H F) (n+1)) mM.a ([.b (.d 16),.b (.c p),ax c,ax a]++bG 4) t=q:=
 j.2.elim λy l=>by have k:=Ia (n:=n) (m:=c) j;rw[u]at k;exact k' (om A l.1 A A k) A (dJ ((jT (bV (nF A (qs (o:=o) (w:=w) s).2) (bV A (bV (bF A v r A) A))):iC [ca 4,ca 5,K (H F) (ah (H F) (n+1)) (.c (.a 1) 3)] _ t=_)) A x)
theorem DV:mM.a.drop 2=.a (.l [.e .b (.a 6) (.c (.a 0) 24),.s (.c (.a 1) 4)]) [.c 7 (.c (.f (.c (.a 0) 24) (.a 6)) 16),.a (.e .a (.h (.c (.a 0) 29) 2 [.a 7,.a 7]) (.a 3)) [.b (.b (.c I))] []] []::sr:=A
section
variable{q:av U (cQ×aC)}(k:bz t e g)(j:ez t m)(s:t.b (.c p)=.e 0 f)(r:cG 4 f=B (.c d))(l:b<5)
include k j s r l
theorem Jz(G:d=D∨L t 23 (bp m b o w)=N)(J:as (H F) (ah (H F) n) sr (fw p c a (bI m b) o (bp m b o w) .f) t=q):as (H F) (ah (H F) n) (mM.a.drop 2) (fw p c a (bI m b) o (bp m b o w) .f) t=q:=
 k.2.elim λP z=>by have E:K (H F) (ah (H F) n) (.c (.a 0) 24) (fw p c a (bI m b) o (bp m b o w) .f) t=B _:=bF A z.1 (dg z.2 A) A;have u:=qd (b:=.a 6) j.1 (td l) A E A;have y:=zl (a:=ah (H F) n) (l:=fw p c a (bI m b) o (bp m b o w) .f) (bF (e:=.a 1) A s r A);refine C DV ?_;refine b' ?_ J;cases v:L t 23 _ with|none=>rw[v]at u;exact uJ u|some Q=>rw[v]at u;exact G.elim (λx=>by rw[x]at y;exact sm u y) λx=>X (x.symm.trans v)
theorem Jx{v}{S}(V:d=I)(P:L t 23 (bp m b o w)=B (.b (.c u)))(T:t.b (.c u)=.e 3 S)(U:cG 16 S=B (ax v))
  (W:v=a->B ((.b (.c I),fw p c a (bI m b) o (bp m b o w) (ax v)),t)=q) (X:v≠a->as (H F) (ah (H F) n) sr (fw p c a (bI m b) o (bp m b o w) (ax v)) t=q):as (H F) (ah (H F) n) (mM.a.drop 2) (fw p c a (bI m b) o (bp m b o w) .f) t=q:=
 k.2.elim λa1 z=>by
  have G:∀{Z},K (H F) (ah (H F) n) (.c (.a 0) 24) (fw p c a (bI m b) o (bp m b o w) Z) t=B _:=bF A z.1 (dg z.2 A) A;have u:=qd (b:=.a 6) (l:=fw p c a _ o _ .f) j.1 (td l) A G A;have E:=zl (a:=ah (H F) n) (l:=fw p c a (bI m b) o (bp m b o w) .f) (bF (e:=.a 1) A s r A);rw[P]at u;rw[V]at E;have Y:L t 28 (ax v)=N:=O (cN · _) k.9;have Q:=zf (a:=ah (H F) n) (l:=fw p c a (bI m b) o (bp m b o w) (ax v)) (b:=.a 7) (d:=.a 7) (k.9.symm.subst ⟨(an [] 0 A ae (ek _)),λa0 a0 x=>J (aW (O dy x)) A⟩) BX (bF (e:=.a 0) A z.1 (dg (k:=29) z.2 A) A) A A;rw[Y]at Q;have y:=OQ (d:=.a 3) Q A;refine C DV ?_
  by_cases x:v=a
  ·rw[beq_iff_eq.mpr x]at y;exact J (W x) (fz (sm u E) (dJ (bF (vk (d:=.a 6) j.1 (td l) G A P) T U A) A (fz y (cY A))))
  ·rw[beq_eq_false_iff_ne.mpr x]at y;exact hX (sm u E) (dJ (bF (vk (d:=.a 6) j.1 (td l) G A P) T U A) A (b' y A)) (X x)
end
end
theorem kD{i j:Nat}(h:i≠j):M i j=I:=by cases q:M i j with|false=>rfl|true=>exact ak (bW q) h
theorem df(h:i≠j):af.d i≠af.d j:=λe=>h (bW (af.b.mpr e))
theorem cy(h:i≠j):af.c i≠af.c j:=λe=>h (af.f e)
theorem fY(h:i<j):af.c i≠af.c j:=cy (bw h)
theorem iR(h:j<i):af.c i≠af.c j:=cy (cC h)
inductive gl(a t:S U) where
 |mk (d:∃l,t.b (.d 29)=.a l/\l.length<=t.a)
  (e:a.a<=t.a)
  (c:∀i,i≠23->i≠29->t.b (.d i)=a.b (.d i))
  (b:∀i,i<a.a->t.b (.c i)=a.b (.c i))
  (f:∀i,t.a<=i->t.b (.c i)=.f)
theorem hx.e{t s}(g:hx t s)(r:cD t):gl t s:=⟨g.3,fh g.4,λi j k=>g.d (kD j) (kD k),λi h=>g.c (bw h),λi h=>(g.c (λa=>DK (am (am (aQ (ct a) 1) (g.4)) h))).trans (r.2 i (aV (fh g.4) h))⟩
section
variable{t s g:S U}{e k h:Nat}{n:Int}
theorem gl.a(m:gl t s)(j:gl s g):gl t g:=⟨j.1,aV m.2 j.2,λl i o=>(j.3 l i o).trans (m.3 l i o),λl i=>(j.4 l (cO i m.2)).trans (m.4 l i),j.5⟩
theorem gl.f(l:gl t s)(r:cD t)(o:s.a<=97000):cD s:=⟨o,l.5,λm j=>(l.3 m (λi=>ak (i▸j) (by decide)) λi=>ak (i▸j) (by decide)).trans (r.3 m j)⟩
theorem gl.b(j:gl t s)(i:fI t k h)(l:s.a<=97000):fI s k h:=⟨i.1,j.f i.2 l,C (j.3 19 (by decide) (by decide)) i.3,(j.4 _ i.5).trans i.4,cO i.5 j.2⟩
theorem gl.c(j:gl t s)(i:bz t e n)(r:s.a<=97000):bz s e n:=
 have u:∀{l m},l≠23->l≠29->bE t.a m (t.b (.d l))->bE s.a m (s.b _):=λo p q=>C (j.3 _ o p) (q.c j.2)
 ⟨j.f i.1 r,C (j.3 16 (by decide) (by decide)) i.2,u (by decide) (by decide) i.3,u (by decide) (by decide) i.4,u (by decide) (by decide) i.5,u (by decide) (by decide) i.6,u (by decide) (by decide) i.7,u (by decide) (by decide) i.8,(j.3 28 (by decide) (by decide)).trans i.9,j.1,i.11⟩
theorem gl.d(m:gl t s):pD (L t) (L s):=
 have k:∀{i},i≠23->i≠29->cg _ _ i:=λj l o z=>O (cN · o) (m.3 _ j l)
 ⟨k (by decide) (by decide),k (by decide) (by decide),k (by decide) (by decide),k (by decide) (by decide),k (by decide) (by decide),k (by decide) (by decide)⟩
end
section
variable{s:S U}{n:Nat}{m:Int}
theorem Ny(f:K (H F) (ah (H F) (n+1)) a l s=B (ax m,s))(g:s.b (.c s.a)=.f)(c:s.a<99990):
  ∃b,K (H F) (ah (H F) (n+1)) (.t 3 .none [a,.b (.e 13)]) l s=B (.b (.c s.a),b)/\b.b (.c s.a)=.e 3 [(16,ax m),(17,W 13)]/\b.a=s.a+3/\∀x,x≠ .c s.a->b.b x=s.b x:=by
 let d:S U:=⟨aZ.d s.b (.c s.a) (.e 3 []),s.a+1⟩
 let i:S U:=⟨aZ.d d.b (.c s.a) (.e 3 [(16,ax m)]),s.a+1+1⟩
 let e:S U:=⟨aZ.d i.b (.c s.a) (.e 3 [(16,ax m),(17,W 13)]),s.a+1+1+1⟩
 have r:ah (H F) (n+1) 19 [.b _,ax m,W 13] d=B (.g,e):=jS A A (iv A A A cj A A (bB c A) (iv A A A cj A A (so (aP (aQ c 2) A)) A));exact(fQ e (ab (bV f (bV A A)) (au (b:=19) A (ab (hR (o:=.e 3 []) g (aP c A)) (ab r A))):kl _ _ 3 _ [K _ _ a,cr _] l s=_) cj A (λx h=>(ba h).trans ((ba h).trans (ba h))))
theorem TW{e}(p:s.b (.d 16)=.e 4 e)(t:cG 30 e=B (.b (.d 29)))(f:s.a<=90000)(d:bE s.a 3 (s.b (.d 23)))(u:∃l,s.b (.d 29)=.a l/\l.length<=s.a)(q:kw 3 k)(g:aF v=I):
  ∃a,ah (H F) (n+1) 21 [.b (.d 16),.b (.d 23),k,v] s=B (.g,a)/\bE a.a 3 (a.b (.d 23))/\(gn (s.b (.d 23))->gn (a.b (.d 23)))/\L a 23 k=B v/\(∀j,br j=D->k≠j->L a 23 j=L s 23 j)/\(∃l,a.b (.d 29)=.a l/\l.length<=a.a)/\a.a=s.a+2/\∀b,b≠ .d 23->b≠ .d 29->a.b b=s.b b:=
 u.elim λl h=>by have c:=wU q.2;have i:s.a<100000:=dA f (by decide);exact(Bo (s:=⟨aZ.d s.b (.d 29) _,s.a+1⟩) (i:=23) (d.c (gk _)) q g A (dA (fk f) (by decide))).imp λa z=>(xG (jS A A (fd (qc (e:=.c (.a 0) 30) (bF A p t A) h.1 ((jT (bV A (bV (nF A c) (bV (zf (a:=ah (H F) n) (l:=[.b (.d 16),.b _,k,v]) (e:=.a 1) (b:=.a 2) (d:=.b .g) d q A (nF A c) A) A))):iC [ca 1,ca 2,K _ _ _] _ s=_)) h.1 (dA h.2 i) A i) ((rd (d:=.a 2) (e:=.a 3) (nF A g) A (nF A c) z.1).trans A))) z.2.1 z.2.2 z.2.3 z.2.4 (ag (l++[.d [.b (.d 23),k,(L s 23 k).getD .g]]) ((z.2.6 (.d 29) (df (by decide))).trans A) (by exact C dr (C z.2.5 (fk (jD h.2))))) z.2.5 (λb o r=>(z.2.6 b o).trans (ba r)))
end
inductive Dy(a t)(k)(m)(f)(Q:E->Bool) where
 |mk (d:gl a t)
  (h:t.a<=3*a.a+10)
  (o:bE t.a 3 (t.b (.d 23)))
  (n:gn (t.b (.d 23)))
  (i:∀j,br j=D->(f=D∨k≠j)->L t 23 j=bif Q j then N else L a 23 j)
  (b:f=I->∃c,L t 23 k=B (.b (.c c))/\ii t (.b (.c c)) m (W 13))
section
variable{t:S U}{f p n k s:Nat}{g c a m o w:Int}{b:Nat}{d:Bool}{e:List (Nat×E)}{x:E}
theorem YU(X:bz t f g)(W:fI t k s)(a8:lu t f s)(b1:f<t.a)(b3:aS 1000 m)(a7:ez t m)(S:t.a<=28000)(b6:t.b (.c p)=.e 0 e)(b7:p<t.a)(b0:cG 4 e=B (.c d))(a2:b<5)(b5:0<=o/\o<5)(b8:cS w):
  ∃a5,as (H F) (ah (H F) (n+3)) sr (fw p c a (bI m b) o (bp m b o w) x) t=B ((.b (.c D),fw p c a (bI m b) o (bp m b o w) x),a5)/\Dy t a5 (bp m b o w) a d (oL k b o w):=
 X.2.elim λc0 j=>(Ft X W a8 b1 b3 a7 S a2 b5 b8).elim λl z=>by
  have r:=z.2.1.e W.2;have h:=z.2.2;have U:=(r.3 16 (by decide) (by decide)).trans j.1;have E:∀{G},Z G 1=B _->bc _ (K _ (ah (H F) (n+3)) _) G l=B _:=λb2=>bS (zl (bF (e:=.a 1) (nF b2 A) ((r.4 p b7).trans b6) b0 A))
  have E:=E (G:=fw p c a (bI m b) o (bp m b o w) x) A;have a0:∀{y a4},as _ _ y _ l=a4->as (H F) _ (.d (.h (.a 0) 46 [.a 6])::y) (fw p c a (bI m b) o (bp m b o w) x) t=a4:=λk=>fd (om A j.1 A A z.1) k
  cases a3:d with
  |true=>rw[a3]at E;exact⟨l,a0 (b' E (cY A)),r,aV h (ap [_] .b (.c (.f 3 (.a 0)) (.b 1)) (.c (.f 3 (.a 0)) (.b 10)) A),z.2.1.1,z.2.1.2,λv Q V=>z.2.3 v Q,ck⟩
  |false=>
   rw[a3]at E;refine(Ny (n:=n+2) (l:=fw p c a (bI m b) o (bp m b o w) x) (a:=.a 3) A (r.5 _ (bd _)) (ap [_,_] (.a 3 (.a 0) (.b _) (.a 1 (.a 1) (.c (.f 3 (.a 0)) (.b 1)) .b)) (.c (.a 1) (.b 1)) (.b _) A S h)).elim λa6 y=>?_
   have J:∀i,a6.b _=l.b (.d i):=λi=>y.2.2.2 _ af.noConfusion
   have q:=y.2.2.1;refine(TW (n:=n+2) (k:=bp m b o w) (v:=.b (.c l.a)) ((J 16).trans U) (dg j.2 A) (ap [_,_,_] (.a 3 (.a 0) (.b _) (.a 1 (.a 1) (.c (.f 3 (.a 0)) (.b 1)) (.c 1 (.a 2) (.c (.a 1) (.b 3)) .b))) (.a 2) (.b _) A S h q) ((J 23).symm.subst (z.2.1.1.c (eY (cW q)))) ((J 29).symm.subst (motive:=λo=>∃G,o=.a G/\G.length<=a6.a) (z.2.1.3.imp λG j=>⟨j.1,am j.2 (eY (cW q))⟩)) (td a2) A).imp λb9 u=>?_
   have P:=u.2.2.2.2.2.2.1;have T:=u.2.2.2.2.2.2.2;have a1:∀i,i≠l.a->b9.b _=l.b _:=λi j=>(T _ af.noConfusion af.noConfusion).trans (y.2.2.2 _ (cy j))
   refine⟨a0 (hX E (by
    refine fd (v:=.g) ?_ A;have a9:K (H F) (ah (H F) (n+3)) (.c (.a 0) 24) (fw p c a (bI m b) o (bp m b o w) x) l=B _:=bF A U (dg j.2 A) A
    exact(ab A (au (b:=.d 16) A (au (HR (r:=.d 16) U A) (ab (kb a9 (kb A (eE y.1))) u.1))):li (H F) (ah _ (n+3)) (ca 0) 31 [K _ _ _,ca 6,K _ (ah _ (n+3)) _] _ l=_)) (cY A)),⟨u.2.2.2.2.2.1,ap [_,_,_,_] (.a 1 (.c (.a 0) (.b 1)) (.a 1) (.c (-1) (.a 2) (.c (.a 1) (.b 3)) (.c (-1) (.a 3) (.c (.a 2) (.b 2)) .b))) (.a 0) (.a 3) A z.2.1.4 q P,λi Y b=>(T _ (df Y) (df b)).trans ((J i).trans (r.3 i Y b)),λi h=>(a1 i (bw (ap [_,_,_] (.a 1 (.c (.a 0) (.b 1)) (.a 1) (.a 1 (.c (.a 2) (.b 1)) (.a 0) .b)) (.c (.a 2) (.b 1)) (.a 1) A z.2.1.4 h))).trans (r.4 i h),λi h=>(a1 i (cC (ap [_,_,_,_] (.c (-1) (.a 0) (.c (.a 1) (.b 3)) (.c (-1) (.a 2) (.c (.a 0) (.b 2)) (.a 1 (.a 2) (.a 3) .b))) (.c (.a 1) (.b 1)) (.a 3) A q P h))).trans (r.5 i (eY (am (am (cW q) (eY (cW P))) h)))⟩,ap [_,_,_,_] (.a 1 (.a 0) (.c (.f 3 (.a 1)) (.b 1)) (.c 1 (.a 2) (.c (.a 0) (.b 3)) (.c 1 (.a 3) (.c (.a 2) (.b 2)) .b))) (.a 3) (.c (.f 3 (.a 1)) (.b 10)) A h q P,u.2.1,u.2.2.1 (C (J 23) z.2.1.2),λv Q b4=>(u.2.2.2.2.1 v Q (b4.elim (λL=>ck L.symm) id)).trans (((λv=>O (cN · v) (J 23)) v).trans (z.2.3 v Q)),λV=>(ag _ u.2.2.2.1 (bi _ A (ap [_,_,_] (.c (-1) (.a 0) (.c (.a 1) (.b 3)) (.c (-1) (.a 2) (.c (.a 0) (.b 2)) .b)) (.c (.a 1) (.b 1)) (.a 2) A q P) (ag _ ((T _ af.noConfusion af.noConfusion).trans y.2.1) (an _ _ A ⟨A,λV L=>R L⟩ (an _ _ A ⟨A,λV L=>R L⟩ A)))))⟩
end
def Dp(t:S U)(k)(a)(f):=f=D∨L t 23 k=N∨∃c m h,L t 23 k=B (.b (.c c))/\m≠a/\ii t (.b (.c c)) m h
section
variable{t h:S U}{i p q l s:Nat}{n j u k m o w r:Int}{g:Nat}{x:Bool}{v:List E}
inductive uI(t h)(i p q l s)(n j r u k m o w)(g)(x)(v) where
 |mk (P:eJ t h i p q (W 9) (G (-1)) (G w) (.c x) n j r [ax u,ax k] v)
  (J:cz (L h) u=.d [bI m g,G o])
  (c:fI t l s)
  (F:lu t i s)
  (d:cu t i p q)
  (f:t.a<=27000)
  (y:aS 1000 m)
  (C:ez t m)
  (e:g<5)
  (z:0<=o/\o<5)
  (E:cS w)
  (b:∃a,bm t p q (W 9) (G (-1)) (G w) (.c x) a)
  (K:s≠q)
  (H:n<=j)
theorem eJ.e{S F Q H}(P:eJ t h i p q S F Q H n j r z v)(E:fI t l s){J}(K:t.b (.c p)=.e 0 J)(T:t.b (.c q)=.a y)(L:s≠q):fI h l s:=
 ⟨E.1,P.2.1,C P.10.1 E.3,(P.11 s E.5 (bl (λG=>oy E.4 K ((by decide:100≠0)) (O af.c G)) L)).trans E.4,cO E.5 P.8⟩
theorem eJ.d{S}{W V T}{a5}(P:eJ t h i p q W (G S) V T n j r a5 v)(Q:cu t i p q)(a4:n<=j)(a0:t.a<=27000)(z:gl h y)(a3:y.a<=3*h.a+10)(Z:ez y m):fV t y i p q S r n j m/\(bA (L t) n->bA (L y) j):=
 P.7.elim λX J=>by
  have H:=P.8;have F:=z.d;have g:y.a<=3*t.a+100:=ap [_,_,_] (.a 1 (.a 0) (.c (.f 3 (.a 1)) (.b 10)) (.a 3 (.a 1) (.c (.a 2) (.b 20)) .b)) (.a 0) (.c (.f 3 (.a 2)) (.b 100)) A a3 P.9;exact⟨⟨z.c P.2 (ap [_,_] (.a 3 (.a 0) (.b _) (.a 1 (.a 1) (.c (.f 3 (.a 0)) (.b 100)) .b)) (.a 1) (.b _) A a0 g),a4,P.4.d F.1 F.2 F.6,P.5.a F.d (bt n),λa6 a9 E K=>(F.2 _ A).trans (P.6 a6 E K),aV H z.2,g,(z.3 19 (by decide) (by decide)).trans P.10.1,Z,λa7 U a2=>(z.4 _ (cO U H)).trans (P.11 _ U a2),X,W,V,T,v,
   ⟨J.1.1.imp λa8 Y=>⟨(z.4 p (cO Q.5 H)).trans Y.1,Y.2⟩,(z.4 X (J.2.elim (λK=>C K (cO Q.6 H)) λE=>E.2)).trans J.1.2⟩,J.2.imp id λE=>⟨E.1,cO E.2 z.2⟩,P.12⟩,λa1=>F.a (P.3 a1)⟩
theorem nr{c g f d e}(b:cL (tQ c g f d e) a):cG 3 a=B d/\cG 4 a=B e:=⟨dg b A,dg b A⟩
theorem Ba(S:uI t h i p q l s n j r u k m o w g x v)(a7:Dp h (bp m g o w) k x):
  ∃f,fe p t=B (.c D,f)/\fV t f i p q (-1) r n j m/\(bA (L t) n->bA (L f) j)/\Dy h f (bp m g o w) k x (oL l g o w):=by
 refine bJ S.1.7 λc3 b1 c2=>?_
 refine bJ b1.1 λb9 d c=>?_
 refine cn S.12 λb5 U=>?_
 refine bJ U.1 λc0 a8 W=>?_
 refine cn S.4 λZ P=>?_
 refine cn S.1.2.2 λa0 a2=>?_
 have b:=S.5;have C:=S.8.a S.1.10.2 S.1.8;refine(di (∃K,as (H F) (ah (H F) 6) (mM.a.drop 2) (fw p u k (bI m g) o (bp m g o w) .f) h=as (H F) (ah (H F) 6) sr (fw p u k (bI m g) o (bp m g o w) K) h)).elim (λe=>?_) λe=>(e ?_).elim
 ·refine e.elim λK e=>(YU (n:=3) (x:=K) (a:=k) (c:=u) S.1.2 (S.1.e S.3 a8 U.2 S.13) (ag Z ((S.1.11 i b.4 (bl b.1 b.2)).trans P.1) P.2) (cO b.4 S.1.8) S.7 C (aP (am S.1.9 (aQ S.6 20)) A) d (cO b.5 S.1.8) (nr c).2 S.9 S.10 S.11).imp λf z=>?_
  have T:=S.1.d b S.14 S.6 z.2.1 z.2.2 ⟨z.2.3,z.2.4,(λJ V Q a=>by
   by_cases E:bp m g o w=J
   ·exact(xJ g o w S.9 S.10 S.11 E.symm)
   ·have y:=z.2.5 J Q (.inr E);rw[a]at y;cases q:oL l g o w J with
    |true=>rw[q]at y;exact X y.symm
    |false=>rw[q]at y;exact C.3 J V Q y.symm)⟩
  exact(da (S.1.a λV b8 a9=>⟨_,E' a2.1 a9 A A (ft A A (Jy S.1.2 d (nr c).1 S.2 S.9 (e.trans z.1)))⟩) T.1 T.2 z.2)
 ·refine(di _).elim (λG=>⟨_,Jz S.1.2 C d (nr c).2 S.9 (.inl G) A⟩) λG=>a7.elim (λa=>(G a).elim) λa=>a.elim (λa=>⟨_,Jz S.1.2 C d (nr c).2 S.9 (.inr a) A⟩) λa=>?_
  refine cf a λb6 b0 c1 b4=>nD b4 λa1 a3 b2=>gf b2 λb7 a4 W b3=>bJ b3 λa0 a5 a6=>?_
  have Y:=af.f (R (O hC a4)).symm;subst Y;exact⟨ax b0,Jx S.1.2 C d (nr c).2 S.9 (KX.mpr G) a1 a5 (dg a6 A) (λE=>ak E a3) λW=>A⟩
theorem VE(S:uI t h i p q l s n j r u k m o w g I v){c}{P}(E:L h 23 (bp m g o w)=B (.b (.c c)))(G:ii h (.b (.c c)) k P):
  fe p t=B (.c I,h)/\fV t h i p q (-1) r n j m:=by
 refine bJ S.1.7 λU d Q=>?_
 refine bJ d.1 λa0 b a=>?_
 refine cn S.1.2.2 λa1 F=>?_
 have C:=S.8.a S.1.10.2 S.1.8;refine gf G λY H z W=>bJ W λa2 J K=>?_
 have f:=af.f (R (O hC H)).symm;subst f;have V:ah _ 7 38 _ h=B _:=ft A A (Jy S.1.2 b (nr a).1 S.2 S.9 (Jx S.1.2 C b (nr a).2 S.9 A E J (dg K A) (λz=>A) λe=>ak A e));exact⟨S.1.a λa3 Z T=>⟨_,E' F.1 T A A V⟩,S.1.2,S.14,S.1.4,S.1.5,λX z y e=>S.1.6 X y e,S.1.8,ap [_,_] (.a 1 (.a 0) (.c (.a 1) (.b 20)) .b) (.a 0) (.c (.f 3 (.a 1)) (.b 100)) A S.1.9,S.1.10.1,C,S.1.11,U,_,_,_,_,d,Q,S.1.12⟩
end
section
variable{t h y:S U}{g p q k s:Nat}{n i v a0 m o r:Int}{j:Nat}{l z:List E}{x w u:E}
theorem eJ.f(P:eJ t h g p q x (G (-1)) w u n i r z l)(E:cu t g p q)(Q:fI t k s)(L:lu t g s)(K:ez t m)(C:∃H,bm t p q x (G (-1)) w u H)(S:s≠q):fI h k s/\lu h g s/\ez h m/\g<h.a/\∃J,h.b (.d 16)=.e 4 J:=
 C.elim λH C=>C.1.elim λV T=>(iD (P.e Q T.1 C.2 S) (L.imp λU F=>⟨(P.11 g E.4 (bl E.1 E.2)).trans F.1,F.2⟩) (K.a P.10.2 P.8) (cO E.4 P.8) (P.2.2.imp λJ F=>F.1))
theorem pB.c(d:pB h y a)(P:eJ t h g p q x (G (-1)) w u n i r z l)(E:cu t g p q)(J:n<=i)(F:t.a<=27000)(C:ez h m):fV t y g p q (-1) r n i m/\(bA (L t) n->bA (L y) i):=
 P.d E J F (d.1.e P.2.1) (aV d.2 (dT (by decide) _)) ⟨d.1.1,d.1.2,λe K f H=>C.3 e K f (by
  have b:=d.3 e f;rw[H]at b;cases q:a e with
  |true=>rw[q]at b;exact X b.symm
  |false=>rw[q]at b;exact b.symm)⟩
theorem VA(P:eJ t h g p q (W 10) (G (-1)) (.d [G 4,G 4]) (.c I) n i r [ax v,ax a0] l)(a5:cz (L h) v=.d [bI m j,G o])(c:cu t g p q)(Y:fI t k s)(V:lu t g s)(U:ez t m)(T:∃a1,bm t p q (W 10) (G (-1)) (.d [G 4,G 4]) (.c I) a1)(b2:s≠q)(a6:aS 1000 m)(d:t.a<=27000)(b0:n<=i)(J:j<5)(a7:0<=o/\o<5):
  ∃a,fe p t=B (.c D,a)/\fV t a g p q (-1) r n i m/\(bA (L t) n->bA (L a) i)/\pB h a (oL k j o 4):=by
 refine pb (P.f c Y V U T b2) λZ X C a3 b3=>cn b3 λb5 E=>?_
 refine bJ P.7 λb6 b1 b7=>?_
 refine bJ b1.1 λb4 a8 a4=>?_
 refine(Ft (n:=4) P.2 Z X a3 a6 C (aP (am P.9 (aQ d 20)) A) J a7 (.head _)).imp λa b=>?_
 have S:=b.2.c P c b0 d C;refine(da (P.a λQ f a9=>⟨[.b (.d 16),.b (.c p),W 10,.b (.c Q),f,bI m j,G o],?_⟩) S.1 S.2 b.2);have e:=Ia (n:=6) (m:=v) P.2;rw[a5]at e;have a2:K _ (ah (H F) 7) (.f (.c (.a 1) 3) (.b (.a (.a 0)))) [.b (.d 16),.b _,W 10,.b (.c Q),f,bI m j,G o] h=B _:=
  (ab (bF (e:=.a 1) A a8 (nr a4).1 A) A:gV (H F) (K _ (ah (H F) 7) _) (cr _) _ h=_)
 exact b' A (b' A (fz A (k' (om A E A (ol A A a9 A A) e) A (fd (om A E A ((jT (bV (nF A (qs (o:=o) (w:=4) J).2) (bV A (bV a2 A))):iC [ca 5,ca 6,K _ _ _] _ h=_)) b.1) (cY A)))))
theorem IB(P:eJ t h g p q (W 25) (G (-1)) (W 26) (.c I) n i r z l)(c:cu t g p q)(S:fI t k s)(J:lu t g s)(E:ez t m)(e:∃U,bm t p q (W 25) (G (-1)) (W 26) (.c I) U)(a5:s≠q)(a1:aS 1000 m)(f:t.a<=27000)(a3:n<=i):
  ∃a,fe p t=B (.c D,a)/\fV t a g p q (-1) r n i m/\(bA (L t) n->bA (L a) i)/\pB h a (AL k):=by
 refine pb (P.f c S J E e a5) λT Q C V a7=>cn a7 λa9 Y=>?_
 refine bJ P.7 λb1 a4 b2=>?_
 refine bJ a4.1 λa8 a2 Z=>?_
 refine(Qs (n:=5) P.2 T Q V a1 C (aP (am P.9 (aQ f 20)) A)).imp λa b=>?_
 have d:=b.2.c P c a3 f C;refine(da (P.a λa6 X b0=>⟨lL p (W 25) a6 X,?_⟩) d.1 d.2 b.2);exact b' A (b' A (b' A (fd (OI A Y A b.1) (b' (bS (ab (bF (e:=.a 1) A (((b.2.1.e P.2.1).4 p (cO c.5 P.8)).trans a2) (dg (k:=1) Z A) A) A:ei _ .g (K _ (ah (H F) 7) _) (cr (.a (.a 0))) _ a=_)) (cY A)))))
end
structure bY where
 b:Nat
 a:Int
 f:E
 d:Bool
 c:List E
structure aU where
 d:Nat
 n:Nat
 f:Nat
 h:Nat
 j:Nat
 l:Nat
 b:Nat
 a:List bY
 m:U
noncomputable def aU.c(X:aU)(x):=X.l+10*x+1
noncomputable def aU.g(X:aU)(x):=X.l+10*x
def aU.i(X:aU)(x:Nat):E:=.b (.c (X.c x))
inductive cJ(X:aU) where
 |mk (a:X.d<X.l)
  (s:X.n<X.l)
  (S:X.h<X.l)
  (c:X.l+10*X.a.length<=X.j)
  (k:X.b<3)
  (p:∃e,X.m (.d 19)=.b (fy X.b) e)
  (b:∃f,X.m (.c X.d)=.e 2 f/\cG 12 f=B (.b (.c X.n)))
  (d:X.m (.c X.n)=hW)
  (l:X.a.length<=50)
  (g:X.m (.c X.h)=.a ((bv X.a.length).map X.i))
theorem cJ.d{X}(b:cJ X)(h:a<X.l):a<X.j:=am h (eY b.4)
theorem cJ.c{X}(a:cJ X)(h:i<X.a.length):X.c i<X.j:=am (qT h) a.4
theorem cJ.g{X}(a:cJ X)(h:i<X.a.length):X.g i<X.j:=am (tF h) a.4
theorem aU.s{X:aU}(z:x<X.l):x≠X.c y:=bw (am z AF)
theorem aU.q{X:aU}(z:x<X.l):x≠X.g y:=bw (am z (bX _ _))
theorem aU.o{X:aU}:X.c x≠X.g y:=UD
theorem aU.t{X:aU}(C:x≠y):X.c x≠X.c y:=λz=>C (R2 (by decide) (CT (nS z)))
theorem aU.u{X:aU}(C:x≠y):X.g x≠X.g y:=λz=>C (R2 (by decide) (CT z))
def aU.e(X:aU)(y):=∀x,x<X.a.length->y≠X.c x/\y≠X.g x
theorem aU.r{X:aU}{x}(y:x<X.l):X.e x:=λz z=>⟨aU.s y,aU.q y⟩
def aU.k(X:aU)(y x):=x=X.g y∨X.j<x
theorem aU.v{X}(F:cJ X)(G:X.k z y)(H:x<X.a.length):y≠X.c x:=λE=>G.elim (λC=>aU.o (E.symm.trans C)) λC=>CW C (E▸F.c H)
theorem aU.w{X}(F:cJ X)(G:X.k y z)(H:x<X.a.length)(J:y≠x):z≠X.g x:=λE=>G.elim (λC=>aU.u J (C.symm.trans E)) λC=>CW C (E▸F.g H)
def aU.p(X:aU)(y)(C:S U):=∃x H E G F z,bm C (X.c y) x H E G F z/\x<C.a/\X.k y x/\z.length<1000
inductive bO(X:aU)(i)(b:List Nat)(t)(n) where
 |mk (c:bz t X.d n)
  (f:t.b (.d 19)=X.m (.d 19))
  (o:∀a,a<X.j->X.e a->t.b (.c a)=X.m (.c a))
  (k:t.b (.c X.j)=.a (b.map X.i))
  (p:∀j r,Z X.a j=B r->i<=j->bm t (X.c j) (X.g j) (W r.b) (G r.a) r.f (.c r.d) r.c)
  (d:∀j∈b,j<i/\X.p j t)
  (e:X.j<t.a)
  (l:b.length<=i)
inductive mw(a t:S U)(f p c)(n) where
 |mk (j:bz t f n)
  (k:t.b (.d 19)=a.b (.d 19))
  (i:a.a<=t.a)
  (h:∀b,b<a.a->(∀d∈[p,c],b≠d)->t.b (.c b)=a.b (.c b))
  (r:∃q o e m g l,bm t p q o e m g l/\(q=c∨(a.a<=q/\q<t.a))/\l.length<1000)
section
variable{t a:S U}{f p q:Nat}{b r c n m:Int}
theorem kB.d(w:kB t a f p q b r c n):mw t a f p q n:=⟨w.1,w.8.1,w.6,w.9,c' w.10 λh o z=>cf z λg e l z=>(ko _ g e l z)⟩
theorem fV.d(w:fV t a f p q b r c n m):mw t a f p q n:=⟨w.1,w.8,w.6,w.10,c' w.11 λh o z=>cf z λg e l z=>(ko _ g e l z)⟩
end
abbrev BQ:E->aC->S U->av U (cQ×aC):=dK (H F) (.a 3) (as (H F) (ah (H F) 8) [.a (.h (.a 0) 49 [.a 3]) [.d (.h (.a 2) 0 [.a 3])] []])
noncomputable abbrev jf(X:aU)(x:E):aC:=[.b (.d 16),.b (.c X.f),.b (.c X.j),x,.f,.f]
def cv(X)(i)(b:S U)(a:List Nat->S U->Prop):=∀x,∃c t j,ed (H F) (.g (.c X.h)) BQ (X.a.length-i+1) i (jf X x) b=B ((.a,jf X c),t)/\a j t
def hB(X:aU)(i:Nat)(j:List Nat)(t:S U):S U:=⟨aZ.d t.b (.c X.j) (.a (j.map X.i++[X.i i])),t.a+1⟩
section
variable{h:aU}{i:Nat}{k:List Nat}{t j:S U}{n l:Int}{r:bY}{m:List Nat->S U->Prop}
theorem bO.c(o:cJ h)(L:bO h i k t n):lu t h.d h.n:=o.7.imp λq p=>⟨(L.3 _ (o.d o.1) (aU.r o.1)).trans p.1,p.2⟩
theorem bO.b(o:cJ h)(L:bO h i k t n):fI t h.b h.n:=⟨o.5,L.1.1,C L.2 o.6,(L.3 _ (o.d o.2) (aU.r o.2)).trans o.8,dt (o.d o.2) L.7⟩
theorem bO.d(o:cJ h)(L:bO h i k t n):t.b (.c h.h)=.a ((bv h.a.length).map h.i):=(L.3 _ (o.d o.3) (aU.r o.3)).trans o.10
theorem bO.a(o:cJ h)(L:bO h i k t n)(p:Z h.a i=B r):cu t h.d (h.c i) (h.g i):=⟨aU.s o.1,aU.q o.1,aU.o,dt (o.d o.1) L.7,dt (o.c (cE p)) L.7,dt (o.g (cE p)) L.7⟩
theorem bO.e(o:cJ h):h.n≠h.g i:=aU.q o.2
inductive Mi(h:aU)(i)(k:List Nat)(j)(l) where
 |mk (f:bz j h.d l)
  (q:j.b (.d 19)=h.m (.d 19))
  (o:∀b,b<h.j->h.e b->j.b (.c b)=h.m (.c b))
  (c:j.b (.c h.j)=.a (k.map h.i))
  (p:∀a r,Z h.a a=B r->i+1<=a->bm j (h.c a) (h.g a) (W r.b) (G r.a) r.f (.c r.d) r.c)
  (d:∀a∈k,a<i/\h.p a j)
  (g:h.j<j.a)
  (e:h.p i j)
theorem bO.f(q:cJ h)(L:bO h i k t n)(E:Z h.a i=B r)(G:mw t j h.d (h.c i) (h.g i) l):Mi h i k j l:=
 have o:=cE E;have u:∀{v},v<t.a->v≠h.c i->v≠h.g i->j.b _=t.b _:=λx Q S=>G.4 _ x (bl Q S)
 have J:∀{p},p<h.a.length->h.c p<t.a:=λE=>dt (q.c E) L.7
 ⟨G.1,G.2.trans L.2,λv x F=>(u (dt x L.7) (F i o).1 (F i o).2).trans (L.3 v x F),(u L.7 (cC (q.c o)) (cC (q.g o))).trans L.4,λp r s H=>have w:=cC H;(L.5 p r s (eY H)).c (u (J (cE s)) (aU.t w) aU.o) (u (dt (q.g (cE s)) L.7) aU.o.symm (aU.u w)),λp s=>(L.6 p s).imp id λz=>have w:=bw (L.6 p s).1;Ch z λW V K U P T z=>(aK (z.1.c (u (J (dt (L.6 p s).1 o)) (aU.t w) aU.o) (u z.2.1 (aU.v q z.2.2.1 o) (aU.w q z.2.2.1 o w))) (am z.2.1 G.3) z.2.2),am L.7 G.3,Ch G.5 λW V K U P T z=>(da z.1 (z.2.1.elim (λy=>C y (am (dt (q.g o) L.7) G.3)) L0) (z.2.1.imp id λy=>am L.7 y.1) z.2.2)⟩
end
theorem jV{t:E->aC->S U->av U _}{n i}{d}{v}{l c}(h:s.b a=.a d)(f:Z d i=B v)(e:t v l s=B ((.a,c),b))(k:ed (H F) (.g a) t n (i+1) c b=q):ed (H F) (.g a) t (n+1) i l s=q:=
 au (au (show ce (s.b a)=_ by exact C h A) (C f A)) (ab e k)
theorem AY{X:aU}(h:i<m):Z ((bv m).map X.i) i=B (X.i i):=by exact C dC (C jA (C (rD h) A))
section
variable{b:aU}{i:Nat}{j:List Nat}{c t:S U}{g n:Int}{r:bY}{f:List Nat->S U->Prop}
theorem Ko(k:∃d,c.b (.d 16)=.e 4 d)(e:fe (b.c i) c=B (.c a,t))(m:a' (B ((.a,jf b (b.i i)),t)) (as (H F) (ah (H F) 8) [.d (.h (.a 2) 0 [.a 3])] (jf b (b.i i)) t) a=B ((cQ.a,l),s)):BQ (b.i i) (jf b x) c=B ((.a,l),s):=
 k.elim λd h=>(gx (ab (ab (om A h A A e) A) m:iF _ _ _ gz _ c=B _) A:dS _ gz (jf b _) c=_)
theorem EH(h:i<a):a-i+1=a-(i+1)+1+1:=O Nat.succ ((Nat.sub_one_add_one (Nat.sub_ne_zero_of_lt h)).symm.trans (O Nat.succ (Nat.sub_sub a i 1)))
theorem cv.d(o:cJ b)(L:bO b i j c g)(v:Z b.a i=B r)(J:fe (b.c i) c=B (.c D,t))(X:mw c t b.d (b.c i) (b.g i) n)(S:t.a<=90000)(a3:bO b (i+1) (j++[i]) (hB b i j t) n->cv b (i+1) (hB b i j t) f):cv b i c f:=by
 have q:=cE v;have w:=L.f o v X;have y:∀{G},G≠b.j->(hB b i j t).b _=t.b _:=λv=>ba (cy v)
 have W:∀{m E P p s K x},m<b.a.length->E≠b.j->bm t _ E P p s K x->bm _ _ E P p s K x:=λh a2 w=>w.c (y (bw (o.c h))) (y a2)
 have Q:∀{m},m<b.a.length->b.p m t->b.p m _:=λh z=>Ch z λE P p s K x z=>(aK (W h (z.2.2.1.elim (λJ=>C J (bw (o.g h))) cC) z.1) (eb z.2.1) z.2.2)
 have u:∀{V i},bE t.a V _->bE _ V (t.b (.d i)):=λp=>p.c (gk _)
 have k:=w.1;intro a7;have Y:=L.1.2.imp λa4 z=>z.1
 exact mi (a3 ⟨⟨⟨gJ S A,λs U=>(y (cC (am w.7 (eY U)))).trans (k.1.2 s (aV (gk _) U)),k.1.3⟩,k.2,u k.3,u k.4,u k.5,u k.6,u k.7,u k.8,k.9,k.10.imp λx z=>⟨z.1,jD z.2⟩,k.11⟩,w.2,λG T a1=>(y (bw T)).trans (w.3 G T a1),by exact C rE cj,λm r h a0=>W (cE h) (bw (o.g (cE h))) (w.5 m r h a0),λm h=>(hq.mp h).elim (λh=>have z:=w.6 m h;⟨eb z.1,Q (dt z.1 q) z.2⟩) λh=>C (fR.mp h) ⟨fi i,Q q w.8⟩,eb w.7,by exact C dr (fk L.8)⟩ (b.i i)) λa8 a6 a5 z=>⟨(C (EH q) (jV (L.d o) (AY q) (Ko Y J (fd (qc (a:=ah (H F) 8) (e:=.a 2) (d:=.a 3) (l:=jf b (b.i i)) A w.4 A w.4 (C (ea b.i) (bB (am L.8 (aV (fh q) o.9)) A)) A (bB S A)) A)) z.1)),z.2⟩
theorem cv.l(k:cJ b)(L:bO b i j c g)(h:Z b.a i=B r)(p:fe (b.c i) c=B (.c I,t))(G:mw c t b.d (b.c i) (b.g i) n)(q:bO b (i+1) j t n->cv b (i+1) t f):cv b i c f:=by have w:=L.f k h G;intro x;exact mi (q ⟨w.1,w.2,w.3,w.4,w.5,λo m=>⟨eb (w.6 o m).1,(w.6 o m).2⟩,w.7,jD L.8⟩ (b.i i)) λy v u z=>⟨(C (EH (cE h)) (jV (L.d k) (AY (cE h)) (Ko (L.1.2.imp λs z=>z.1) p A) z.1)),z.2⟩
theorem cv.a(h:cJ b)(L:bO b b.a.length j c g)(k:f j c):cv b b.a.length c f:=λx=>(ml x c j (by
 rw[S3];have w:=kL (t:=BQ) (n:=0) (l:=jf b x) (L.d h);rw[ea,jB]at w
 exact w) k)
end
def fN(b:Nat):Int:=(Z [3,4,5,6,0] b).getD 0
noncomputable def xc(i:Int):bY:=⟨3,3+i,G i,I,[]⟩
noncomputable def oN(s:Nat)(d c:Int):bY:=⟨4,d,.d [W s,G c],I,[]⟩
def hT(d r c:Int):bY:=⟨5,d,G 0,I,[aD (G r),dq (G c)]⟩
def dY(g)(b:Nat)(o)(w):=bif(M b 2||M b 3)&&M (w%4) 2 then[oN (21+b) g o]else bif M (w%2) 0 then[hT g (fN b) o]else[hT (g+1) (fN b) (o+w),hT g (g+1) (4294967296-w)]
theorem X0{X}:L (hB X i j t)=L t:=A
theorem DU{b}(h:b<4):bI m b=bI a b:=(T A (T A (T A (T A ae))):∀b∈[0,1,2,3],bI m b=bI a b) b ((by decide:∀b,b<4->b∈[0,1,2,3]) b h)
def r'(L)(n m)(b)(r o):=cd L n r (bI m b) o/\(b=4->cd L n 0 (ax m) 0)
def uF(X:aU)(x):=x=0∨x=1∨x=2∨∃r∈X.a,r.a=x
inductive eV(X)(a)(L)(o:bq)(d)(n m)(u:List Int)(e:Nat)(f) where
 |mk (j:bA L n)
  (g:a<=4)
  (p:∀b,b<a->cd L n (fN b) (bI m b) 0)
  (l:3<=a->∃c,cx L c 5/\(0<=c/\c<=n))
  (k:cd L n 0 (ax m) 0∨bU L 0)
  (i:∀x∈u,uF X x->bU L x)
  (h:o=.b [] 0)
  (m:aS 900 m)
  (d:d<=e)
  (n:n<=f)
section
variable{a:aU}{i:Nat}{t k:S U}{n f j m b q e:Int}{p:bY}{o:List Nat->S U->Prop}{u l:List Int}{g:Nat}{r:List bY}
theorem gu{p:c}{r}:∀{d}{i},d.drop i=p::r->Z d i=B p/\d.drop (i+1)=r:=λ{d}=>by
 induction d with
 |nil=>exactλh=>ak (h.symm.trans xX) (ul _ _)
 |cons x d s=>intro i h;cases i with|zero=>exact⟨O B (kq h).1,(kq h).2⟩|succ i=>exact s h
theorem r'.c{L v}{d}{p w}(h:r' L n j d p w)(E:d<5)(x:cP L v n)(s:n<=f)(z:cd L n 0 (ax j) 0->m=j):r' v f m d p w:=by
 by_cases y:d=4
 ·exact C (z (h.2 y)) ⟨x.e s h.1,λe=>x.e s (h.2 e)⟩
 ·exact⟨J (DU (by omega)) (x.e s h.1),λe=>ak e y⟩
theorem rg(F:cJ a)(y:bO a i (bv i) t n)(S:eV a c (L t) (t.b (.d 23)) t.a n j u g e)(h:Z a.a i=B p)(T:fe (a.c i) t=B (.c D,k))(w:kB t k a.d (a.c i) (a.g i) b q n f)(X:f<=n+2)(U:∀x∈l,x∈u/\x≠b/\x≠q)(P:g<=2000)(H:aS 900 m)(K:cd (L k) f 0 (ax m) 0∨bU (L k) 0)
  (W:∀{d},L d=L k->bO a (i+1) (bv (i+1)) d f->eV a c (L d) (d.b (.d 23)) d.a f m l (g+41) (e+2)->cv a (i+1) d o):cv a i t o:=
 have v:k.a+1<=g+41:=aV (fk w.7) (rG (rG S.9 40) 1)
 .d F y h T w.d (aV (pw v) (gJ P A)) λE=>W A (C x' E) ⟨w.2,S.2,λG s=>J (DU (cO s S.2)) (w.4.e w.3 (S.3 G s)),λh=>(S.4 h).imp λY z=>(aK (w.4.g z.1 z.2.2) z.2.1 (dj z.2.2 w.3)),K,λx V Q=>have z:=U x V;(S.6 x z.1 Q).d w.4.1 (w.5 x z.2.1 z.2.2),w.8.2.trans S.7,H,v,dj X (rB S.10 2)⟩
theorem Bz(v:cJ a)(h:bO a i (bv i) t n)(S:eV a 4 (L t) (t.b (.d 23)) t.a n j u g e)(Q:a.a.drop i=hT b (fN c) y::r)(a8:c<5)(a2:aS 20 y)(a9:b∈u)(K:0≠b)(z:∀x∈l,x∈u/\x≠b/\x≠0)(T:g<=2000)(U:e<=800)
  (a3:∀{d f m},a.a.drop (i+1)=r->bO a (i+1) (bv (i+1)) d f->eV a 4 (L d) (d.b (.d 23)) d.a f m l (g+41) (e+2)->cP (L t) (L d) n->n<=f->(cd (L t) n 0 (ax j) 0->m=j)->r' (L d) f m c b y->(c<4->∃a6 a4,dL (L t) (fN c) a6/\dL (L d) b a4/\a6<a4)->cv a (i+1) d o):cv a i t o:=by
 have s:=gu Q;have a0:t.a<=90000:=aV S.9 (aP T A);have Z:=S.6 b a9 (.inr (.inr (.inr (ag _ (dX s.1) A))));have Y:=h.5 i _ s.1 (bd i);have a1:cd _ n _ _ 0->(c=4->cd _ n 0 _ 0)->cv a i t o:=λP a7=>mg (IA (w:=0) (by decide) h.1 S.1 a0 (aG [_,_] (.a 1 (.a 0) (.b 800) (.a 1 (.a 1) (.a 0) .b)) (.c (.a 1) (.b 1)) (.b 900) A U S.10) a2 Z P (uT a8 S.8.c) Y (h.a v s.1)) λk f V w b3 b0 b1=>(rg v h S s.1 V w (dj b0 (aG [_] .b (.c (.a 0) (.b 1)) (.c (.a 0) (.b 2)) A)) (λx E=>(aK ((z x E).1) ((z x E).2.1) ((z x E).2.1))) T S.8 (S.5.imp (w.4.e w.3) λF=>F.d w.4.1 (w.5 0 K K)) λ{d} e H J=>a3 s.2 H J (C e w.4) w.3 (λW=>A) ⟨C e b3,λG=>C e (w.4.e w.3 (a7 G))⟩ λW=>C e b1)
 by_cases G:c=4
 ·subst G;refine S.5.elim (λP=>a1 P λW=>P) λF=>?_
  refine lg (Vy h.1 S.1 a0 (aG [_,_] (.a 1 (.a 0) (.b 800) (.a 1 (.a 1) (.a 0) .b)) (.c (.a 1) (.b 2)) (.b 900) A U S.10) a2 F Z K Y (h.a v s.1)) λk V w b2 a5=>?_
  have m:aS 900 (n+1):=⟨aG [_] (.a 1 (.b 0) (.a 0) .b) (.b 0) (.c (.a 0) (.b 1)) A h.1.11.1,aG [_,_] (.a 1 (.a 0) (.b 800) (.a 1 (.a 1) (.a 0) .b)) (.c (.a 1) (.b 1)) (.b 900) A U S.10⟩
  exact rg v h S s.1 V w (bt _) z T m (.inl a5) λ{d} e H J=>a3 s.2 H J (C e w.4) w.3 (λP=>P.elim λE P=>X (F.2.symm.trans P.1.2)) ⟨C e b2,λW=>C e a5⟩ λQ=>ak Q (by decide)
 ·exact a1 (S.3 c (by omega)) λe=>ak e G
theorem eV.d{L}(S:eV a s L y x n j u g e)(C:g<=v)(E:e<=w)(F:∀z∈l,z∈u):eV a s L y x n j l v w:=⟨S.1,S.2,S.3,S.4,S.5,λz G=>S.6 z (F z G),S.7,S.8,aV S.9 C,dj S.10 E⟩
abbrev Ml(a)(t)(n j)(l)(g)(e)(r)(h)(b y)(o):=
 ∀{d c f m},a.a.drop d=r->bO a d (bv d) c f->eV a 4 (L c) (c.b (.d 23)) c.a f m l g e->cP (L t) (L c) n->n<=f->(cd (L t) n 0 (ax j) 0->m=j)->r' (L c) f m h b y->cv a d c o
theorem JF(P:cJ a)(K:bO a i (bv i) t n)(E:eV a 4 (L t) (t.b (.d 23)) t.a n j u g e)(G:a.a.drop i=dY b d c w++r)(a4:d<5)(b1:0<=c/\c<5)(b8:w<9)(a5:b∈u)(b6:b+1∈u)(U:0<b)(X:∀x∈l,x∈u/\x≠b/\x≠b+1/\x≠0)(Q:g<=1900)(Z:e<=700)
  (a9:Ml a t n j l (g+82) (e+4) r d b c o):cv a i t o:=by
 have a8:aS 20 c:=⟨b1.1,aG [_] (.a 1 (.c (.a 0) (.b 1)) (.b 5) .b) (.a 0) (.b 20) A b1.2⟩
 unfold dY at G;cases s:(M d 2||M d 3)&&M _ 2 with
 |true=>
  rw[s]at G;have v:=gu (show a.a.drop i=oN _ b c::r from G);have b7:=V s λs H=>(gi.mp s).imp bW bW
  refine eR (VB K.1 E.1 (aV E.9 (aP Q A)) (aG [_,_] (.a 1 (.a 0) (.b 700) (.a 1 (.a 1) (.a 0) .b)) (.c (.a 1) (.b 1)) (.b 900) A Z E.10) a8 (by omega) (E.6 b a5 (.inr (.inr (.inr (ag _ (dX v.1) A))))) (K.5 i _ v.1 (bd i)) (K.a P v.1)) λk f a7 h a1 T=>?_
  have W:0≠b:=hp (aG [_] (.a 1 (.c (.b 0) (.b 1)) (.a 0) .b) (.c (.b 0) (.b 1)) (.a 0) A U);exact rg P K E v.1 a7 h (dj T (aG [_] .b (.c (.a 0) (.b 1)) (.c (.a 0) (.b 2)) A)) (λx y=>have z:=X x y;(aK z.1 z.2.1 z.2.1)) (aP Q A) E.8 (E.5.imp (h.4.e h.3) λa2=>a2.d h.4.1 (h.5 0 W W)) λ{c0} e F S=>a9 v.2 F (S.d (dT (by decide) _) (aG [_] .b (.c (.a 0) (.b 2)) (.c (.a 0) (.b 4)) A) λH=>id) (C e h.4) h.3 (λH=>A) ⟨C e (b7.elim (λs=>by subst s;exact a1) λs=>by subst s;exact a1),λs=>by omega⟩
 |false=>
  rw[s]at G;cases b0:M _ 0 with
  |true=>rw[b0]at G;exact Bz P K E G a4 a8 a5 (hp (aG [_] (.a 1 (.c (.b 0) (.b 1)) (.a 0) .b) (.c (.b 0) (.b 1)) (.a 0) A U)) (λx y=>have z:=X x y;(aK z.1 z.2.1 z.2.2.2)) (aP Q A) (aG [_] (.a 1 (.a 0) (.b 700) .b) (.a 0) (.b 800) A Z) λa3 F S x T a6 a0 H=>a9 a3 F (S.d (dT (by decide) _) (aG [_] .b (.c (.a 0) (.b 2)) (.c (.a 0) (.b 4)) A) λH=>id) x T a6 a0
  |false=>
   rw[b0]at G;have b2:=(by decide:∀h,h<9->Nat.beq (h%2) 0=false->h∈[1,3,5,7]) w b8 b0;have c3:=(by decide:∀h∈[1,3,5,7],1<=h) w b2;refine Bz P K E (show a.a.drop i=hT _ _ _::(hT b _ _::r) from G) a4 ⟨by omega,by omega⟩ b6 (hp (aG [_] (.a 1 (.c (.b 0) (.b 1)) (.a 0) .b) (.c (.b 0) (.b 1)) (.c (.a 0) (.b 1)) A U)) (λx y=>(cB.mp y).elim (λe=>C e (aK a5 (hp (aG [_] .b (.c (.a 0) (.b 1)) (.c (.a 0) (.b 1)) A)) (M6 (aG [_] (.a 1 (.c (.b 0) (.b 1)) (.a 0) .b) (.c (.b 0) (.b 1)) (.a 0) A U)))) λy=>have z:=X x y;(aK z.1 z.2.2.1 z.2.2.2)) (aP Q A) (aG [_] (.a 1 (.a 0) (.b 700) .b) (.a 0) (.b 800) A Z) λ{c0 f m} a3 F S x T a6 a0 H=>?_
   have v:=gu a3;obtain⟨Y,rfl⟩:∃Y,w=Y+1:=⟨w-1,by omega⟩
   have b5:4294967296-(Y+1)=oi c (Y+1):=by show _=(4294967295:Int)-Y;omega
   have W:0≠b:=hp (aG [_] (.a 1 (.c (.b 0) (.b 1)) (.a 0) .b) (.c (.b 0) (.b 1)) (.a 0) A U);refine mg (IA ((by decide:∀h∈[1,3,5,7],h∈[0,1,3,5,7]) _ b2) F.1 S.1 (aV S.9 (gJ Q A)) (aG [_,_] (.a 1 (.a 0) (.b 700) (.a 1 (.a 1) (.c (.a 0) (.b 2)) .b)) (.c (.a 1) (.b 1)) (.b 900) A Z (S.10)) a8 (S.6 b (.head _) (.inr (.inr (.inr (ag _ (dX v.1) A))))) a0.1 (uT a4 S.8.c) (J b5 (F.5 _ _ v.1 (bd _))) (F.a P v.1)) λk c1 a7 h a1 b9 H=>?_
   refine rg P F S v.1 a7 h (dj b9 (aG [_] .b (.c (.a 0) (.b 1)) (.c (.a 0) (.b 2)) A)) (λx y=>(aK (.tail _ y) ((X x y).2.1) ((X x y).2.1))) (gJ Q A) S.8 (S.5.imp (h.4.e h.3) λa2=>a2.d h.4.1 (h.5 0 W W)) λ{c2} e b3 b4=>a9 v.2 b3 (b4.d (bd _) (aG [_] .b (.c (.c (.a 0) (.b 2)) (.b 2)) (.c (.a 0) (.b 4)) A) λH=>id) (C e (x.a h.4 T)) (dj T h.3) a6 ⟨C e a1,λs=>C e (h.4.e h.3 (a0.2 s))⟩
end
def kO:=[xc 0,xc 1,oN 23 5 0,oN 24 6 0]
section
variable{b:aU}{i:Nat}{t l:S U}{n j m p e:Int}{k:List Nat->S U->Prop}{u o:List Int}{g f:Nat}{r:List bY}
theorem eV.c{L}(S:eV b f L q a n m u g e)(s:f<4)(z:cd L n (fN f) (bI m f) 0)(x:f=2->∃v,cx L v 5/\(0<=v/\v<=n)):eV b (f+1) L q a n m u g e:=
 ⟨S.1,s,λw y=>(R6 (CV y)).elim (S.3 w) λe=>C e z,λs=>(R6 (R3 s)).elim (S.4) λe=>x e.symm,S.5,S.6,S.7,S.8,S.9,S.10⟩
theorem JE(y:cJ b)(c:bO b i (bv i) t n)(S:eV b f (L t) (t.b (.d 23)) t.a n m u g e)(v:f<2)(d:b.a.drop i=xc f::r)(U:L t 26 (oz f)=N)(F:(3+f:Int)∈u)(X:∀x∈o,x∈u/\x≠3+f)(E:g<=1900)(Q:e<=700)
  (Y:∀{a},b.a.drop (i+1)=r->bO b (i+1) (bv (i+1)) a (n+1)->eV b (f+1) (L a) (a.b (.d 23)) a.a (n+1) m o (g+41) (e+2)->(∀s,br s=D->s≠oz f->L a 26 s=L t 26 s)->cv b (i+1) a k):cv b i t k:=by
 have h:=gu d;refine gf (VC c.1 S.1 (aV S.9 (aP E A)) (aG [_,_] (.a 1 (.a 0) (.b 700) (.a 1 (.a 1) (.a 0) .b)) (.c (.a 1) (.b 1)) (.b 900) A Q S.10) ⟨by omega,by omega⟩ (S.6 _ F (.inr (.inr (.inr (ag _ (dX h.1) A))))) U (c.5 i _ h.1 (bd i)) (c.a y h.1)) λl V w H=>?_
 exact rg y c S h.1 V w (aG [_] .b (.c (.a 0) (.b 1)) (.c (.a 0) (.b 2)) A) (λx Z=>have z:=X x Z;(aK z.1 z.2 z.2)) (aP E A) S.8 (S.5.imp (w.4.e w.3) λJ=>J.d w.4.1 (w.5 0 (by omega) (by omega))) λ{a} e K P=>Y h.2 K (P.c (aP v A) (C e ((T (λd=>d) (T (λd=>d) ae):∀q∈([0,1]:List Nat),cd (L l) (n+1) (3+(q:Int)) (.d [W 3,G q]) 0->cd (L l) (n+1) (fN q) (bI m q) 0) f (mc v) (H.e (S.6 _ F (.inr (.inr (.inr (ag _ (dX h.1) A))))) c.1.11.1))) λe=>ak (am (aQ (cW e) 1) v) (by decide)) (C e H.6.2)
theorem JD(y:cJ b)(c:bO b i (bv i) t n)(S:eV b f (L t) (t.b (.d 23)) t.a n m u g e)(P:f=2∨f=3)(K:b.a.drop i=oN (21+f) (3+f) 0::r)(T:L t 26 (jd (21+f) 0)=N)(s:(3+f:Int)∈u)(V:∀x∈o,x∈u/\x≠3+f)(E:g<=1900)(Q:e<=700)
  (W:∀{a},b.a.drop (i+1)=r->bO b (i+1) (bv (i+1)) a (n+1)->eV b (f+1) (L a) (a.b (.d 23)) a.a (n+1) m o (g+41) (e+2)->(∀d,br d=D->d≠jd (21+f) 0->L a 26 d=L t 26 d)->cv b (i+1) a k):cv b i t k:=by
 have h:=gu K;refine gf (ID c.1 S.1 (aV S.9 (aP E A)) (aG [_,_] (.a 1 (.a 0) (.b 700) (.a 1 (.a 1) (.a 0) .b)) (.c (.a 1) (.b 1)) (.b 900) A Q S.10) ⟨bt _,by decide⟩ (by omega) (S.6 _ s (.inr (.inr (.inr (ag _ (dX h.1) A))))) T (c.5 i _ h.1 (bd i)) (c.a y h.1)) λl U w v=>?_
 have F:=v.e (S.6 _ s (.inr (.inr (.inr (ag _ (dX h.1) A))))) c.1.11.1;refine rg y c S h.1 U w (aG [_] .b (.c (.a 0) (.b 1)) (.c (.a 0) (.b 2)) A) (λx X=>have z:=V x X;(aK z.1 z.2 z.2)) (aP E A) S.8 (S.5.imp (w.4.e w.3) λG=>G.d w.4.1 (w.5 0 (by omega) (by omega))) λ{a} e H J=>W h.2 H (J.c (by omega) (C e (?_)) λq=>(bi (n+1) (C e (?_)) (aG [_] (.a 1 (.b 0) (.a 0) .b) (.b 0) (.c (.a 0) (.b 1)) A c.1.11.1) (bt _))) (C e v.6.2)
 ·exact P.elim (λq=>by subst q;exact F) λq=>by subst q;exact F
 ·subst q;exact(v.g (S.6 _ s (.inr (.inr (.inr (ag _ (dX h.1) A))))))
inductive ob(b)(L:iI) where
 |mk (c:∀i,i=21∨i=24∨i=25∨i=26∨i=27->∀a,L i a=N)
  (d:∀x,0<=x->uF b x->L 17 (G x)=B aX)
theorem ob.a{L}(s:ob b L)(y:d=.b [] 0)(h:c<=g):eV b 0 L d c 0 0 [3,4,5,6,10,11,12,13,14,7,8,9,1,2] g 0:=by
 have q:∀x,0<=x/\x<=14->uF b x->bU L x:=λx h z=>⟨⟨h.1,aG [_] (.a 1 (.a 0) (.b 14) .b) (.a 0) (.b 20) A h.2⟩,s.1 21 (by decide) _,s.2 x h.1 z⟩
 exact⟨⟨λv E=>(aK (s.1 24 (by decide) _) (s.1 25 (by decide) _) (s.1 27 (by decide) _)),λG C h=>X ((s.1 21 (by decide) _).symm.trans h),λF C E h=>X ((s.1 26 (by decide) _).symm.trans h)⟩,by decide,λw h=>ak h (yc w),λh=>ak h (by decide),.inr (q 0 (by decide) (.inl A)),
  λx v=>q x ((by decide:∀x∈([3,4,5,6,10,11,12,13,14,7,8,9,1,2]:List Int),0<=x/\x<=14) x v),y,⟨by decide,by decide⟩,h,bt _⟩
theorem YZ(c:cJ b)(E:bO b 0 [] t 0)(C:ob b (L t))(V:t.b (.d 23)=.b [] 0)(q:b.a=kO++r)(Z:t.a<=g)(h:g<=1500)
  (a0:∀{a j},b.a.drop 4=r->bO b 4 (bv 4) a j->eV b 4 (L a) (a.b (.d 23)) a.a j 0 [10,11,12,13,14,7,8,9,1,2] (g+164) 8->cv b 4 a k):cv b 0 t k:=
 have d:∀{w x},iw w≠iw x->w≠x:=λq e=>q (O iw e)
 have z:=C.1 26 (by decide)
 JE (o:=[4,5,6,10,11,12,13,14,7,8,9,1,2]) c E (C.a V Z) (by decide) q (z _) (.head _) (by decide) (aP h A) (by decide) λT F S s=>JE (o:=[5,6,10,11,12,13,14,7,8,9,1,2]) c F S (by decide) T ((s (oz 1) A λe=>ak (dx (R (O (dP 1) e))) (by decide)).trans (z _)) (.head _) (by decide) (gJ h A) (by decide) λU G K y=>JD (o:=[6,10,11,12,13,14,7,8,9,1,2]) c G K (.inl A) U ((y (jd 23 0) A (d (show B 4≠B 3 by decide))).trans ((s (jd 23 0) A (d (show B 4≠B 3 by decide))).trans (z _))) (.head _) (by decide) (ap [_] (.a 1 (.a 0) (.b 1500) .b) (.c (.c (.a 0) (.b 41)) (.b 41)) (.b 1900) A h) (by decide) λW H P a1=>JD c H P (.inr A) W ((a1 (jd 24 0) A λe=>ak (R (O (λv=>Y (dP 1 v) λv=>Y (dP 0 v) hD) e)) (by decide)).trans ((y (jd 24 0) A (d (show B 4≠B 3 by decide))).trans ((s (jd 24 0) A (d (show B 4≠B 3 by decide))).trans (z _)))) (.head _) (by decide) (ap [_] (.a 1 (.a 0) (.b 1500) .b) (.c (.c (.c (.a 0) (.b 41)) (.b 41)) (.b 41)) (.b 1900) A h) (by decide) λX J Q a2=>a0 X J Q
theorem YY{q z}(v:cJ b)(S:bO b 0 [] t 0)(b7:ob b (L t))(a3:t.b (.d 23)=.b [] 0)(C:b.a=kO++(dY 10 a q w++(dY 12 a q d++(hT 14 (fN c) z::r))))(a7:t.a<=440)(s:a<5)(G:0<=q/\q<5)(a6:c<5)(H:0<=z/\z<5)(a1:w<9)(a2:d<9)
  (b0:∀{x h j y},b.a.drop x=r->bO b x (bv x) h j->eV b 4 (L h) (h.b (.d 23)) h.a j y [7,8,9,1,2] 809 18->cd (L h) j 10 (bI y a) q->cd (L h) j 12 (bI y a) q->cd (L h) j 14 (bI y c) z->(c<4->∃E K,dL (L h) (fN c) E/\dL (L h) 14 K/\E<K)->cv b x h k):cv b 0 t k:=
 YZ v S b7 a3 C a7 (by decide) λa4 T X=>JF (l:=[12,13,14,7,8,9,1,2]) v T X a4 s G a1 (by decide) (by decide) (by decide) (by decide) (by decide) (by decide) λa5 U Y c2 b9 c1 b4=>JF (l:=[14,7,8,9,1,2]) v U Y a5 s G a2 (by decide) (by decide) (by decide) (by decide) (by decide) (by decide) λa8 V Z b8 b1 b3 b5=>Bz v V Z a8 a6 ⟨H.1,aG [_] (.a 1 (.c (.a 0) (.b 1)) (.b 5) .b) (.a 0) (.b 20) A H.2⟩ (by decide) (by decide) (by decide) (by decide) (by decide) λa9 W a0 F J P b6 b2=>b0 a9 W (a0.d (by decide) (by decide) λc3=>id) ((b4.c s b8 b1 b3).c s F J P).1 (b5.c s F J P).1 b6.1 λC=>c' (b2 C) λE c0 Q=>⟨F.c Q.1,Q.2⟩
end
structure dB where
 c:Nat
 g:Nat
 q:Nat
 r:Nat
 h:Nat
 f:Nat
 d:Nat
 e:Int
 i:Int
 b:Int
 j:Int
 a:Int
 o:Bool
 n:Bool
 k:Bool
 p:Bool
 l:Bool
inductive dB.m(p:dB) where
 |mk (b:p.c<5)
  (d:p.g<5)
  (e:p.q<9)
  (f:p.r<9)
  (k:p.h<6)
  (l:p.f<4)
  (a:p.d<4)
  (o:0<=p.e/\p.e<5)
  (s:0<=p.i/\p.i<5)
  (w:cS p.b)
  (g:cS p.j)
  (c:cS p.a)
def kd(d r w:Int)(s f:Bool):bY:=⟨8,d,.d [G w,.c s],f,[aD (G r)]⟩
def ke(r v w:Int)(f:Bool):bY:=⟨9,-1,G w,f,[aD (G r),aD (G v)]⟩
def xb:bY:=⟨10,-1,.d [G 4,G 4],I,[aD (G 14),aD (G 5)]⟩
def l'(r:Int):bY:=⟨25,-1,W 26,I,[aD (G r)]⟩
def fX(p:dB):=bif p.o then kd 7 10 p.b p.n p.k else ke 10 1 p.b p.k
def gs(k:Nat)(w):=bif M k 1||M k 4 then[ke 14 2 w (M k 4)]else bif M k 2 then[l' 2]else bif M k 3 then[xb]else bif M k 5 then[kd 9 14 w I D]else[]
def eO(p:dB):=bif ar p.d 2 then kd 8 12 p.a p.p p.l else ke 12 (1+(p.d%2:Nat)) p.a p.l
def fa(k:Nat):=bif M k 1||M k 2 then[l' (2+k)]else[]
inductive eA(X)(p:dB)(t)(d a n)(u:List Int)(e) where
 |mk (k:cw (L t) d)
  (f:cd (L t) n 10 (bI a p.c) p.e)
  (g:cd (L t) n 12 (bI a p.c) p.e)
  (h:cd (L t) n 14 (bI a p.g) p.i)
  (l:∃m,cx (L t) m 5/\(0<=m/\m<=n))
  (r:∃m c,dL (L t) 14 m/\dL (L t) 5 c/\m≠c)
  (v:∃b,cd (L t) n 3 b 0)
  (w:∃b,cd (L t) n 4 b 0)
  (j:∀x∈u,uF X x->bU (L t) x)
  (q:aS 1000 a)
  (i:ez t a)
  (s:t.a<=e)
  (o:n<=d)
def fn(L)(n a r):=bU L r∨∃m,cx L m r/\a<m/\m<=n
section
variable{h:aU}{s:dB}{j:Nat}{k:List Nat}{t p:S U}{n o m i y z:Int}{r:bY}{a2:List Nat->S U->Prop}{u a1:List Int}{l:Nat}{a0 v w:Nat}{q:E}{x:Option (Int×E)}
theorem sE{L c}{n i r e}(d:cP L c n)(f:i<=n)(b:cd L i r a e):cd c i r a e:=b.imp λg b=>(aK (d.c b.1) b.2.1 ((d.h (dj b.2.1.2 f)).trans b.2.2))
theorem fn.c{L d}{r}(a:fn L n i r)(e:cP L d n)(g:n<=o)(f:L 21 (G r)=N->d 21 (G r)=N):fn d o i r:=
 a.imp (λa=>a.d e.1 f) λa=>a.imp λC b=>(aK (e.g b.1 b.2.2) b.2.1 (dj b.2.2 g))
theorem ez.b(c:ez t m):ez (hB h j k t) m:=⟨c.1.c (gk _),c.2,c.3⟩
theorem ii.b(G:ii t e c a)(f:∃E,t.b (.c h.j)=.a E):ii (hB h j k t) e c a:=
 G.imp λl C=>(aK C.1 (eb C.2.1) (C.2.2.imp λF g=>⟨(ba (f.elim λE f=>oy g.1 f (show m' (.e 3 F)≠m' _ from(by decide:3≠100)))).trans g.1,g.2⟩))
theorem el.b(f:el t n q x)(g:∃C,t.b (.c h.j)=.a C):el (hB h j k t) n q x:=by cases x with|none=>exact f|some x=>exact c' f λF E f=>(aK f.1 (f.2.1.b g) f.2.2)
theorem ku.b(d:ku t n)(f:∃C,t.b (.c h.j)=.a C):ku (hB h j k t) n:=λq E g e=>c' (d q E g e) λG F c=>⟨c.1,c.2.b f⟩
theorem eA.a(f:eA h s t n m i u l)(E:fV t p a0 v w y z n o m)(J:∀x∈a1,x∈u/\x≠y/\x≠z):eA h s p o m i a1 (3*l+100):=
 have g:=E.4;have C:=f.13
 ⟨E.3,sE g C f.2,sE g C f.3,sE g C f.4,f.5.imp λF e=>⟨g.g e.1 (dj e.2.2 C),e.2⟩,c' f.6 λF K e=>(aK (g.c e.1) (g.c e.2.1) e.2.2),f.7.imp λG e=>sE g C e,f.8.imp λG e=>sE g C e,λx F H=>have e:=J x F;(f.9 x e.1 H).d g.1 (E.5 x e.2.1 e.2.2),f.10,E.9,aV E.7 (rG (LA 3 f.12) 100),dj C E.2⟩
theorem eA.b(e:eA h s t n m i u l):eA h s (hB h j k t) n m i u (l+1):=⟨e.1,e.2,e.3,e.4,e.5,e.6,e.7,e.8,e.9,e.10,e.11.b,fk e.12,e.13⟩
theorem bO.g(L:bO h j k t n){p}{H:Int}(G:fV t p a0 v w y z n o m)(C:h.j≠v)(E:h.j≠w):∃F,p.b (.c h.j)=.a F:=⟨_,(G.10 _ L.7 (bl C E)).trans L.4⟩
end
section
variable{a:aU}{p:dB}{i:Nat}{t b:S U}{n d m c h r:Int}{j:bY}{e:List Nat->S U->Prop}{g u:List Int}{f:Nat}{k:List bY}
theorem qD(l:cJ a)(L:bO a i (bv i) t n)(o:eA a p t n m c g f)(q:Z a.a i=B j)(E:fe (a.c i) t=B (.c D,b))(w:fV t b a.d (a.c i) (a.g i) h r n d m)(v:∀x∈u,x∈g/\x≠h/\x≠r)(z:f<=27000)
  (F:(∃G,b.b (.c a.j)=.a G)->bO a (i+1) (bv (i+1)) (hB a i (bv i) b) d->eA a p (hB a i (bv i) b) d m c u (3*f+101)->cv a (i+1) (hB a i (bv i) b) e):cv a i t e:=
 have s:=cE q
 .d l L q E w.d (aV (o.a w v).12 (ap [_] (.a 3 (.a 0) (.b _) .b) (.c (.f 3 (.a 0)) (.b 100)) (.b _) A z)) λy=>F (L.g (H:=0) w (cC (ap [_,_,_,_] (.a 1 (.c (.a 0) (.f 10 (.a 1))) (.a 2) (.a 10 (.c (.a 3) (.b 1)) (.a 1) .b)) (.c (.c (.c (.a 0) (.f 10 (.a 3))) (.b 1)) (.b 1)) (.a 2) A l.4 s)) (cC (ap [_,_,_,_] (.a 1 (.c (.a 0) (.f 10 (.a 1))) (.a 2) (.a 10 (.c (.a 3) (.b 1)) (.a 1) .b)) (.c (.c (.a 0) (.f 10 (.a 3))) (.b 1)) (.a 2) A l.4 s))) (C x' y) (o.a w v).b
theorem xr(s:l∈[0,1])(v:o∈[1,2]):(⟨W 9,G (-1),aa 6 0,.c q⟩,l,o)∈hl:=
 mq _ (iH _ (ps.mpr (ag l s (ps.mpr ⟨o,v,hr.mpr ⟨_,.tail _ (by cases q with
  |false=>exact .tail _ (.head _)
  |true=>exact .head _),A⟩⟩))))
theorem Bw{S}(F:cJ a)(y:bO a i (bv i) t n)(z:eA a p t n m c g f)(U:Z a.a i=B (ke s l w o))(a7:cd (L t) c s (bI m S) q)(b2:fn (L t) n c l)(a8:S<5)(b1:0<=q/\q<5)(a3:cS w)(a9:f<=27000)(b0:n<=800):
  ∃b d v x Q,uI t b a.d (a.c i) (a.g i) a.b a.n n d l v x m q w S o Q/\cx (L b) x l/\(0<=x/\c<x)/\x<=d/\d<=n+1/\(bU (L t) l->x=n+1):=by
 have Y:=y.5 i _ U (bd i);have a1:=aV z.12 a9;refine eR (a7.elim λv e=>(z.1.2 s _ e.1.2).elim λb5 a6=>a6.2.2.elim λT K=>((dR v T e.1 (C (fO a6.1) K) e.2.1 e.2.2):∃v T,dL _ s v/\cx (L t) v T/\(0<=v/\v<=c)/\cz _ v=.d _)) λv T a4 K J b4=>?_
 have E:0<=v/\v<=n:=⟨J.1,dj J.2 z.13⟩
 have a5:∀{b d x Q},eJ t b a.d _ _ _ _ _ _ n d l _ Q->n<=d->uI t b a.d _ _ a.b a.n n d l v x m q w S o Q:=λP b3=>⟨P,(P.5.h E.2).trans b4,y.b F,y.c F,y.a F U,a1,z.10,z.11,a8,b1,a3,⟨_,Y⟩,bO.e F,b3⟩
 exact b2.elim (λa0=>(bJ (UH (s:=⟨W 9,G (-1),aa 6 0,.c o⟩) (xr (.head _) (.tail _ (.head _))) (xr (.tail _ (.head _)) (.tail _ (.head _))) y.1 z.1 (aV a1 (by decide)) (aG [_] (.a 1 (.a 0) (.b 800) .b) (.c (.a 0) (.b 1)) (.b 900) A b0) (y.a F U) a4 K E a0 (db (by decide)) (xz a3) Y) λb P H=>(mm b _ v _ _ (jx (a5 P (aG [_] .b (.a 0) (.c (.a 0) (.b 1)) A)) H ⟨aG [_,_] (.a 1 (.b 0) (.a 0) (.a 1 (.a 0) (.a 1) .b)) (.b 0) (.c (.a 1) (.b 1)) A E.1 E.2,aG [_,_] (.a 1 (.a 0) (.a 1) .b) (.c (.a 0) (.b 1)) (.c (.a 1) (.b 1)) A z.13⟩ (bt _) (bt _) (λb6=>A))))) λH=>(gf H λx H V a2=>(cn (Ig (s:=⟨W 9,G (-1),aa 6 0,.c o⟩) (xr (.head _) (.head _)) (xr (.tail _ (.head _)) (.head _)) y.1 z.1 (aV a1 (by decide)) (y.a F U) a4 K E H ⟨aG [_,_,_] (.a 1 (.a 0) (.a 1) (.a 1 (.b 0) (.a 0) (.a 1 (.c (.a 1) (.b 1)) (.a 2) .b))) (.b 0) (.a 2) A J.2 E.1 V,a2⟩ (hp (aG [_,_,_] (.a 1 (.a 0) (.a 1) (.a 1 (.c (.a 1) (.b 1)) (.a 2) .b)) (.c (.a 0) (.b 1)) (.a 2) A J.2 V)) (db (by decide)) (xz a3) Y) λb P=>(mm b n v x _ (jx (a5 P (bt n)) (P.5.g H a2) ⟨aG [_,_,_] (.a 1 (.a 0) (.a 1) (.a 1 (.b 0) (.a 0) (.a 1 (.c (.a 1) (.b 1)) (.a 2) .b))) (.b 0) (.a 2) A J.2 E.1 V,V⟩ a2 (aG [_] .b (.a 0) (.c (.a 0) (.b 1)) A) (λa0=>X (a0.2.symm.trans H.3))))))
def fP(p:dB):Option (Int×E):=bif p.k then N else bif decide (p.b=p.a)then B (bif p.o then(7,dn p.b p.n)else(1,W 13))else N
theorem Go(v:w≠q):bp m l o w≠bp m l o q:=λs=>v (dx (R (O (dP 2) s)))
abbrev LR(a)(p)(m c n)(u)(f)(i)(e):=
 ∀{o l},bO a (i+1) (bv (i+1)) o l->eA a p o l m c u f->bA (L o) l->l<=n+1->el o l (bp m p.c p.e p.a) (fP p)->ku o l->fn (L o) l c 1->fn (L o) l c 2->cv a (i+1) o e
theorem Tf(y:p.m)(G:cJ a)(w:bO a i (bv i) t n)(q:eA a p t n m c [7,8,9,1,2] f)(b0:bA (L t) n)(v:Z a.a i=B (fX p))(K:∀s,L t 23 s=N)(P:f<=9000)(Y:n<=100)(s:LR a p m c n [8,9,2] (3*f+101) i e):cv a i t e:=by
 unfold fX at v;have c1:∀{c4 b6:Option (Int×E)},p.b=p.a->(bif decide _ then b6 else c4)=b6:=λo=>C (decide_eq_true o) A
 cases a6:p.o with
 |true=>
  rw[a6]at v;have a3:=w.5 i _ v (bd i);have b4:cd _ n 10 _ _:=q.2.imp λa1 a9=>(aK a9.1 ⟨a9.2.1.1,dj a9.2.1.2 q.13⟩ a9.2.2)
  cases x:p.k with
  |true=>
   rw[x]at a3;refine me (A' w.1 q.1 (aV q.12 (aP P A)) (aG [_] (.a 1 (.a 0) (.b 100) .b) (.c (.a 0) (.b 1)) (.b 900) A Y) (w.a G v) b4 (q.9 7 (by decide) (.inr (.inr (.inr (ag _ (dX v) A))))) y.10 q.11 a3) λb a0 a2 U b9 d3=>?_
   refine qD G w q v a0 a2 (by decide) (aP P A) λS T l=>s T ⟨l.1,l.2,l.3,l.4,l.5,l.6,l.7,l.8,λF a1=>l.9 F ((by decide:∀F∈[8,9,2],F∈([8,9,1,2]:List Int)) F a1),l.10,l.11,l.12,l.13⟩ (U b0) (bt _) ?_ ?_ (.inl (l.9 1 (by decide) (.inr (.inl A)))) (.inl (l.9 2 (by decide) (.inr (.inr (.inl A)))))
   ·unfold fP;exact C x ((ip b9 _).trans (K _))
   ·exactλs c3 V o=>X ((K s).symm.trans ((ip b9 s).symm.trans o))
  |false=>
   rw[x]at a3;obtain⟨b,a0,a2,U,⟨b8,a8,H⟩,b1,_⟩:=IC y.1 q.10 w.1 q.1 (aV q.12 (aP P A)) (aG [_] (.a 1 (.a 0) (.b 100) .b) (.c (.a 0) (.b 1)) (.b 900) A Y) (w.a G v) b4 y.8 (q.9 7 (by decide) (.inr (.inr (.inr (ag _ (dX v) A))))) y.10 q.11 (K _) a3;refine qD G w q v a0 a2 (by decide) (aP P A) λS T l=>s T ⟨l.1,l.2,l.3,l.4,l.5,l.6,l.7,l.8,λF a1=>l.9 F ((by decide:∀F∈([8,9,2]:List Int),F∈[8,9,1,2]) F a1),l.10,l.11,l.12,l.13⟩ (U b0) (bt _) ?_ ?_ (.inl (l.9 1 (by decide) (.inr (.inl A)))) (.inl (l.9 2 (by decide) (.inr (.inr (.inl A)))))
   ·unfold fP;refine C x (C a6 ?_)
    by_cases o:p.b=p.a
    ·exact C (c1 o) (J o (el.b (x:=B (7,dn p.b p.n)) (dR _ _ a8.1 H ⟨aG [_] (.a 1 (.b 0) (.a 0) .b) (.b 0) (.c (.a 0) (.b 1)) A (w.1.11.1),bt _⟩ b1) S))
    ·exact C (decide_eq_false o) ((a8.2 _ (jZ y.1) (Go λz=>o z.symm)).trans (K _))
   ·exact ku.b (λs c3 V o=>(di _).elim (λz=>(dE (n+1) _ ⟨aG [_] (.a 1 (.b 0) (.a 0) .b) (.b 0) (.c (.a 0) (.b 1)) A (w.1.11.1),bt _⟩ ((R ((z▸o).symm.trans a8.1)).symm▸H))) λz=>X ((K s).symm.trans ((a8.2 s V z).symm.trans o))) S
 |false=>
  rw[a6]at v;refine gR (Bw G w q v q.2 (.inl (q.9 1 (by decide) (.inr (.inl A)))) y.1 y.8 y.10 (aP P A) (aG [_] (.a 1 (.a 0) (.b 100) .b) (.a 0) (.b 800) A Y)) λb d a1 b3 d1 d0=>pc d0 λb5 b1 c9 a7 c6 d2=>fg c9 λc2 c7=>?_
  have b7:=λs=>(ip b5.1.10.2 s).trans (K s)
  refine lg (Ba b5 (.inr (.inl (b7 _)))) λc8 a0 a2 U a4=>?_
  have c0:=a4.1.d.d.g b1 a7;have a5:∀Q,br Q=D->(p.k=D∨bp m _ _ p.b≠Q)->L c8 23 Q=N:=λQ c5 Y=>(a4.5 Q c5 Y).trans (by rw[b7];cases oL a.b _ _ p.b Q<;>rfl)
  refine qD G w q v a0 a2 (by decide) (aP P A) λS T l=>s T l (U b0) c6 ?_ ?_ (.inr (bi b3 c0 c7 a7)) (.inl (l.9 2 (by decide) (.inr (.inr (.inl A)))))
  ·unfold fP;refine C a6 ?_;cases x:p.k with
   |true=>exact a5 _ (jZ y.1) (.inl x)
   |false=>
    by_cases o:p.b=p.a
    ·exact C (c1 o) (J o (bJ (a4.6 x) λb8 b2 H=>(el.b (x:=B (1,W 13)) (dR _ b3 b2 H ⟨aG [_] (.a 1 (.b 0) (.a 0) .b) (.b 0) (.a 0) A c2,a7⟩ c0) S)))
    ·exact C (decide_eq_false o) (a5 _ (jZ y.1) (.inr (Go o)))
  ·refine ku.b (λs c3 V o=>?_) S;cases x:p.k with|true=>exact X ((a5 s V (.inl x)).symm.trans o)|false=>exact(di _).elim (λz=>(bJ (a4.6 x) λb8 b2 H=>(dE b3 _ ⟨aG [_] (.a 1 (.b 0) (.a 0) .b) (.b 0) (.a 0) A c2,a7⟩ ((R ((z▸o).symm.trans b2)).symm▸H)))) λz=>X ((a5 s V (.inr z)).symm.trans o)
end
def ll(k)(p:dB)(x:Option (Int×E)):=
 bif M p.h 1||M p.h 4 then(bif gO k p.c p.e p.a p.g p.i p.j then N else x)else bif M p.h 2 then(bif eg k p.c then x else N)else bif M p.h 3 then(bif gO k p.c p.e p.a p.g p.i 4 then N else x)else x
def hn(k)(p):=bif M p.h 1&&(M p.g p.c&&(decide (p.i=p.e)&&decide (p.j=p.a)))then B (2,W 13)else ll k p (fP p)
section
variable{f:aU}{p:dB}{i:Nat}{t l q:S U}{n o m h v w:Int}{a0:bY}{s:List Nat->S U->Prop}{y z:List Int}{j u:Nat}{r:List bY}{g:E}{x:Option (Int×E)}
theorem eA.d(e:eA f p t n m h y j)(k:j<=u)(C:∀x∈z,x∈y):eA f p t n m h z u:=⟨e.1,e.2,e.3,e.4,e.5,e.6,e.7,e.8,λx E=>e.9 x (C x E),e.10,e.11,aV e.12 k,e.13⟩
theorem el.e(k:el t n g x)(E:gl t l)(F:L l 23 g=L t 23 g):el l n g x:=by cases x with|none=>exact F.trans k|some x=>exact c' k λK J k=>(da (F.trans k.1) (k.2.1.imp λj C=>⟨C.1,cO C.2.1 E.2,C.2.2.imp λH G=>⟨(E.4 j C.2.1).trans G.1,G.2⟩⟩) k.2.2.1 (E.d.d.g k.2.2.2 k.2.2.1.2))
theorem el.d(F:el t n g x)(E:gl t l)(C:L l 23 g=bif k then N else L t 23 g):el l n g (bif k then N else x):=by cases k with|true=>exact C|false=>exact F.e E C
theorem el.c{L v K C}(F:el t n g x)(P:eJ t l f.d (f.c i) (f.g i) L v K C n o w a2 k){E}(G:t.b (.c (f.c i))=.e 0 E)(H:t.b (.c (f.g i))=.a a1)(J:n<=o):el l o g x:=F.a (ip P.10.2 g) P.5 J P.11 P.8 G H
theorem eA.c(E:eA f p t n m h y j)(F:cd (L t) h a1 e k):cd (L t) n a1 e k:=F.imp λG C=>(aK C.1 ⟨C.2.1.1,dj C.2.1.2 E.13⟩ C.2.2)
theorem dL.k{L}(d:dL L c a)(e:dL L c b):a=b:=fO (R (d.2.symm.trans e.2))
abbrev Df(f)(p)(m h n)(j)(r)(s):=
 ∀{c b a},f.a.drop c=r->bO f c (bv c) b a->eA f p b a m h [8] j->bA (L b) a->a<=n+1->el b a (bp m p.c p.e p.a) (hn f.b p)->fn (L b) a h 1->fn (L b) a h 2->cv f c b s
theorem wu(k:cJ f)(b:bO f i (bv i) t n)(d:eA f p t n m h [8,9,2] j)(F:Z f.a i=B a0)(E:bA (L t) n)(U:fn (L t) n h 1)(G:j<=9000)(J:f.a.drop (i+1)=r)(K:fe (f.c i) t=B (.c D,q))(a:fV t q f.d (f.c i) (f.g i) v w n o m)(W:v=9∨v= -1)(X:w=9∨w=2∨w=5)(H:bA (L t) n->bA (L q) o)(S:o<=n+1)(Q:el q o (bp m p.c p.e p.a) (hn f.b p))(V:fn (L q) o h 2)(g:Df f p m h n (3*j+101) r s):cv f i t s:=
 qD k b d F K a (λx T=>C (fR.mp T) (aK (.head _) (by omega) (by omega))) (aP G A) λP c e=>g J c e (H E) S (Q.b P) (U.c a.4 a.2 (a.5 1 (by omega) (by omega))) V
theorem Tg(H:p.m)(k:cJ f)(c:bO f i (bv i) t n)(a:eA f p t n m h [8,9,2] j)(a1:bA (L t) n)(E:f.a.drop i=gs p.h p.j++r)(a2:el t n (bp m p.c p.e p.a) (fP p))(d1:ku t n)(a4:fn (L t) n h 1)(e4:fn (L t) n h 2)(X:j<=9000)(b1:n<=100)(g:Df f p m h n (3*j+101) r s):cv f i t s:=by
 have Z:t.a<=27000:=aV a.12 (aP X A);have Y:=a.9 2 (by decide) (.inr (.inr (.inl A)));have Q:=H.1;unfold gs at E;cases a3:M _ 1||M _ 4 with
 |true=>
  rw[a3]at E;exact(λb8 E=>by
  have b:=gu E;refine gR (Bw k c a b.1 a.4 (.inl Y) H.2 H.9 H.11 (aP X A) (aG [_] (.a 1 (.a 0) (.b 100) .b) (.a 0) (.b 800) A b1)) λl o e0 c3 f0 e9=>pc e9 λW b0 e8 b2 d8 d5=>fg e8 λe2 d9=>?_
  have d:=c.5 i _ b.1 (bd i);refine bJ d.1 λa9 J a5=>?_
  refine lg (Ba W (by
   refine .inr ?_;have e:=ip W.1.10.2 (bp m p.g p.i p.j);cases G:L t 23 _ with
   |none=>exact .inl (e.trans G)
   |some b3=>
    refine mf (d1 _ b3 (jZ H.2) G) λe1 d6 d4 a7=>?_
    refine bJ (id a7) λu d7 a5=>?_
    subst d7
    exact .inr (Cm u e1 d6 (e.trans G) (hp (aG [_,_,_] (.a 1 (.a 0) (.a 1) (.c (-1) (.a 2) (.c (.a 1) (.b 1)) .b)) (.c (.a 0) (.b 1)) (.a 2) A d4.2 (d5 Y))) (a7.d W.1.11 W.1.8 J d.2)))) λq U F S T=>?_
  have b6:=T.1.d.d.g b0 b2;refine wu k c a b.1 a1 a4 X b.2 U F (.inr A) (.inr (.inl A)) S d8 ?_ (.inr (bi c3 b6 d9 b2)) g;have c4:∀(b7:M _ 4=D∨bp m _ _ _≠bp m _ _ p.a),el q o _ _:=λb7=>by have e:=T.5 _ (jZ Q) b7;rw[AM Q]at e;exact(a2.c W.1 J d.2 W.14).d T.1 e
  have c1:ll f.b p (fP p)=bif gO f.b p.c p.e p.a p.g p.i p.j then N else fP p:=by unfold ll;refine C (gi.mpr b8) ?_;rfl
  unfold hn;cases c5:M _ 1 with
  |false=>exact C c1 (c4 (.inl (b8.elim (λe=>az (c5.symm.trans e)) id)))
  |true=>
   cases G:M _ _&&(decide (p.i=p.e)&&decide (p.j=p.a))with
   |false=>
    exact C c1 (c4 (.inr ((λG e=>by
   have d3:=dx (R (O (dP 1) e));rw[((p' H.2).symm.trans ((O (λb3=>pZ (te b3 0)) e).trans (p' Q))),d3,(dx (R (O (dP 2) e))),gj,decide_eq_true A,decide_eq_true A]at G
   exact ck G) G)))
   |true=>
    refine bJ (T.6 (by exact C (bW c5) A)) λu e a7=>?_
    refine V G λa6 a8=>V a8 λa8 j=>?_
    rw[bW a6,of_decide_eq_true a8,of_decide_eq_true j]at e
    exact(dR _ c3 e a7 ⟨e2,b2⟩ b6)) (gi.mp a3) E
 |false=>
  rw[a3]at E;have K:hn f.b p=bif M p.h 2 then(bif eg f.b p.c then fP p else N)else bif M p.h 3 then(bif gO f.b p.c p.e p.a p.g p.i 4 then N else fP p)else fP p:=by unfold hn ll;refine C ((KY.mp a3).1) (C ((KY.mp a3).2) ?_);rfl
  cases c6:M _ 2 with
  |true=>
   rw[c6]at E K;have b:=gu (E);have d:=c.5 i _ b.1 (bd i);refine bJ d.1 λa9 J a5=>?_
   refine bJ (UG c.1 a.1 (aV Z (by decide)) (aG [_] (.a 1 (.a 0) (.b 100) .b) (.c (.a 0) (.b 1)) (.b 900) A b1) (c.a k b.1) Y d) λl P b0=>?_
   refine lg (IB P (c.a k b.1) (c.b k) (c.c k) a.11 ⟨_,d⟩ (bO.e k) a.10 Z (aG [_] .b (.a 0) (.c (.a 0) (.b 1)) A)) λq U F S T=>?_
   have e:=T.3 _ (jZ (m:=m) (o:=p.e) (w:=p.a) Q);rw[Im Q]at e;refine wu k c a b.1 a1 a4 X b.2 U F (.inr A) (.inr (.inl A)) S (bt _) ?_ (.inr (bi _ ((T.1.e P.2.1).d.d.g b0 (bt _)) (aG [_,_] (.a 1 (.a 0) (.a 1) .b) (.c (.a 0) (.b 1)) (.c (.a 1) (.b 1)) A (a.13)) (bt _))) g;have c9:=(a2.c P J d.2 (aG [_] .b (.a 0) (.c (.a 0) (.b 1)) A)).d (T.1.e P.2.1) e;refine C K ?_;show el q _ _ (bif eg f.b _ then fP p else N)
   cases G:eg f.b _<;>rw[G]at c9<;>exact c9
  |false=>
   rw[c6]at E K;cases c7:M _ 3 with
   |true=>
    rw[c7]at E K;have b:=gu (E);have d:=c.5 i _ b.1 (bd i);refine bJ d.1 λa9 J a5=>?_
    refine eR ((a.c a.4).c a.1) λe0 e b5 d0 b9 e3=>?_
    refine bJ a.5 λf2 b4 c0=>?_
    refine ev a.6 λf1 f3 e5 e6 e7=>?_
    have c2:∀{a6},a6∈[0,1]->(Jn,a6,1)∈hl:=λb=>mq _ (iH _ (ps.mpr (ag _ b (ps.mpr ⟨1,.head _,.head _⟩))))
    refine cn (Ig (c2 (.head _)) (c2 (.tail _ (.head _))) c.1 a.1 (aV Z (by decide)) (c.a k b.1) b5 d0 b9 b4 ⟨c0.1,dj c0.2 a.13⟩ (λG=>e7 ((e5.k b5).trans (G.trans (b4.c.k e6)))) (db (by decide)) ⟨by decide,by decide⟩ d) λl P=>?_
    refine lg (VA P ((P.5.h b9.2).trans e3) (c.a k b.1) (c.b k) (c.c k) a.11 ⟨_,d⟩ (bO.e k) a.10 Z (bt n) H.2 H.9) λq U F S T=>?_
    have e:=T.3 _ (jZ (m:=m) (o:=p.e) (w:=p.a) Q);rw[AM Q]at e;refine wu k c a b.1 a1 a4 X b.2 U F (.inr A) (.inr (.inr A)) S (aG [_] .b (.a 0) (.c (.a 0) (.b 1)) A) (C K ((a2.c P J d.2 (bt n)).d (T.1.e P.2.1) e)) (.inl (Y.d F.4.1 (F.5 2 (by decide) (by decide)))) g
   |false=>rw[c7]at E K;cases c8:M _ 5 with|true=>rw[c8]at E;have b:=gu (show f.a.drop i=kd 9 14 _ _ D::r from E);have d:=c.5 i _ b.1 (bd i);exact bJ d.1 λa9 J a5=>(me (A' c.1 a.1 (aV Z (by decide)) (aG [_] (.a 1 (.a 0) (.b 100) .b) (.c (.a 0) (.b 1)) (.b 900) A b1) (c.a k b.1) (a.c a.4) (a.9 9 (by decide) (.inr (.inr (.inr (ag _ (dX b.1) A))))) H.11 a.11 d) λl U F S d2 a5=>(wu k c a b.1 a1 a4 X b.2 U F (.inl A) (.inl A) S (bt _) (C K (a2.a (ip d2 _) F.4 F.2 F.10 F.6 J d.2)) (.inl (Y.d F.4.1 (F.5 2 (by decide) (by decide)))) g))|false=>rw[c8]at E;exact g E c (a.d (ap [_] .b (.a 0) (.c (.f 3 (.a 0)) (.b 101)) A) (by decide)) a1 (aG [_] .b (.a 0) (.c (.a 0) (.b 1)) A) (C K a2) a4 e4
end
theorem I2(h:fP p=B y):p.b=p.a/\y=bif p.o then(7,dn p.b p.n)else(1,W 13):=by
 unfold fP at h;cases q:p.k with
 |true=>rw[q]at h;exact X h
 |false=>
  rw[q]at h
  by_cases e:p.b=p.a
  ·rw[decide_eq_true e]at h;exact⟨e,(R h).symm⟩
  ·rw[decide_eq_false e]at h;exact X h
theorem tt{x}{y:Int×E}(h:(bif b then N else x)=B y):x=B y:=by cases b with|true=>exact X h|false=>exact h
theorem I7{x}{y}(h:ll k p x=B y):x=B y:=by
 unfold ll at h
 revert h
 cases M _ 1||M _ 4 with
 |true=>exact tt
 |false=>cases M _ 2 with
  |true=>exactλh=>ga h λz h=>h
  |false=>cases M _ 3 with|true=>exact tt|false=>exact id
theorem FR{w}:(dn w s=W 13∨dn w s=W 11∨dn w s=W 12)/\(w=4->dn w s=W 13):=by unfold dn;refine⟨?_,λe=>C e A⟩;cases w==4<;>cases s<;>first|exact .inl rfl|exact .inr (.inl rfl)|exact .inr (.inr rfl)
theorem Ci{a}(e:hn k p=B (h,a)):(a=W 13∨a=W 11∨a=W 12)/\(p.a=4->a=W 13):=by
 unfold hn at e;cases q:M _ 1&&(M _ _&&(decide (p.i=p.e)&&decide (p.j=p.a)))with
 |true=>rw[q]at e;exact C (bo e) ⟨.inl A,λc=>A⟩
 |false=>rw[q]at e;have z:=I2 (I7 e);cases b:p.o with|true=>rw[b]at z;exact C (show a=dn p.b p.n from O pz z.2) ⟨FR.1,λe=>FR.2 (z.1.trans e)⟩|false=>rw[b]at z;exact C (show a=W 13 from O pz z.2) ⟨.inl A,λc=>A⟩
inductive rX(k)(p)(o)(b) where
 |mk (n:p.l=D∨hn k p=N->o=W 8)
  (y:p.l=I->∀a h,hn k p=B (a,h)->b=[aD (G a)]/\(h=dn p.a p.p->o=W 6)/\(h≠dn p.a p.p->o=jw p.a p.p))
def hj(k)(p):=p.l||dc D (λx=>!(x.1==1+(p.d%2:Nat))) (hn k p)
def fq(X:aU)(t)(i)(o)(a):=∃q d m f,bm t (X.c i) q o d m f a/\q<t.a/\X.k i q/\a.length<1000
def rU(X)(p)(t)(i j)(a):=(ar p.d 2=D->a=bv j/\∃o b,fq X t i o b/\rX X.b p o b)/\(ar p.d 2=I->(hj X.b p=D->a=bv j)/\(hj X.b p=I->a.length=j-1))
section
variable{f:aU}{p:dB}{i w:Nat}{j:List Nat}{t m a1:S U}{n x q g u a7:Int}{a6:bY}{v:List Nat->S U->Prop}{a3 a8:List Int}{s a2:Nat}{a0:List bY}{r:E}{a4:Option (Int×E)}{z y a5:Nat}{o:E}{k:List E}
theorem Jr{o P u d K L h l}{H J}(F:bm t y a o u K h H)(G:bm t y b P d L l J):a=b:=F.1.elim λC k=>G.1.elim λE c=>by have e:C=E:=O pz (R (O qP (k.1.symm.trans c.1)));subst e;exact af.f (R (O hC (R ((dg (k:=2) k.2 A).symm.trans (dg c.2 A)))))
theorem fq.b(h:cJ f)(l:i<f.a.length)(F:fq f t i o k)(w)(j):fq f (hB f w j t) i o k:=
 rq F λJ u H G e=>(aK (e.1.c (ba (fY (h.c l))) (ba (cy (e.2.2.1.elim (λE=>C E (bw (h.g l))) cC)))) (eb e.2.1) e.2.2)
theorem mw.a{o u E l}(L:bO f i j t n)(G:mw t m z (f.c i) (f.g i) c)(P:f.g i<t.a)(d:bm m (f.c i) b o u E l k):fq f m i o k:=by
 refine ro G.5 λT e e e e S Q=>nD Q λF h K=>?_
 cases Jr d F;exact(ko b u E l (da d (h.elim (λH=>C H (cO P G.3)) λh=>h.2) (h.imp id λh=>cO L.7 h.1) (J (R (O ce (F.2.symm.trans d.2))) K)))
theorem fq.d(l:cJ f)(H:fq f t w o k)(L:bO f i j t n)(G:mw t m z (f.c i) (f.g i) e)(E:w<i)(C:i<f.a.length):fq f m w o k:=
 have F:=bw E
 rq H λP u K J h=>(aK (h.1.c (G.4 _ (dt (l.c (dt E C)) L.7) (bl (aU.t F) aU.o)) (G.4 _ h.2.1 (bl (aU.v l h.2.2.1 C) (aU.w l h.2.2.1 C F)))) (cO h.2.1 G.3) h.2.2)
abbrev Md(f)(p)(q g n)(i s)(a0)(v):=
 ∀{a b j},f.a.drop (i+1)=a0->bO f (i+1) j a b->eA f p a b q g [] s->b<=n+1->fn (L a) b g 1->rU f p a i (i+1) j->cv f (i+1) a v
theorem Th(E:p.m)(F:cJ f)(c:bO f i (bv i) t n)(a:eA f p t n q g [8] s)(d6:bA (L t) n)(G:f.a.drop i=eO p::a0)(V:el t n (bp q p.c p.e p.a) (hn f.b p))(c2:fn (L t) n g 1)(f0:fn (L t) n g 2)(a9:s<=26900)(b0:n<=200)(r:Md f p q g n i (3*s+101) a0 v):cv f i t v:=by
 have b7:t.a<=27000:=aV a.12 (aP a9 A);have h:=gu G;have K:=c.5 i _ h.1 (bd i);have b3:=a.c a.3;have b6:=a.9 8 (.head _);have b8:∀{m x o u Q d4 k d},fe _ t=B _->fV t m f.d _ _ 8 8 n x q->x<=n+1->bm m _ d o u Q d4 k->rX f.b p o k->ar p.d 2=D->cv f i t v:=λP l c1 f3 e8 d=>qD F c a h.1 P l ae (aP a9 A) λe0 U b2=>r h.2 U b2 c1 (c2.c l.4 l.2 (l.5 1 (by decide) (by decide))) ⟨λb=>⟨A,(dE _ _ ((l.d.a c ((c.a F h.1).6) f3).b F (cE h.1) i _) e8)⟩,λe=>ck (d.symm.trans e)⟩
 unfold eO at h K;cases d:ar p.d 2 with
 |true=>
  rw[d]at h K;cases H:p.l with
  |true=>rw[H]at K;exact me (A' c.1 a.1 (aV b7 (by decide)) (aG [_] (.a 1 (.a 0) (.b 200) .b) (.c (.a 0) (.b 1)) (.b 900) A b0) (c.a F h.1) b3 (b6 (.inr (.inr (.inr (ag _ (dX h.1) A))))) E.12 a.11 K) λm P l b b Y=>aq Y λd0 e1 W=>(b8 P l (bt _) W ⟨λb=>A,λe=>ck (H.symm.trans e)⟩ d)
  |false=>
   rw[H]at K;cases e:hn f.b p with
   |none=>rw[e]at V;exact KC (IC E.1 a.10 c.1 a.1 (aV b7 (by decide)) (aG [_] (.a 1 (.a 0) (.b 200) .b) (.c (.a 0) (.b 1)) (.b 900) A b0) (c.a F h.1) b3 E.8 (b6 (.inr (.inr (.inr (ag _ (dX h.1) A))))) E.12 a.11 V K) λm P l b b b Y=>aq Y λd0 e1 W=>(b8 P l (bt _) W ⟨λb=>A,λb G c6 b5=>X (e.symm.trans b5)⟩ d)
   |some d3=>
    rw[e]at V;exact mh (Vz E.1 a.10 c.1 d6 (aV b7 (by decide)) (aG [_] (.a 1 (.a 0) (.b 200) .b) (.c (.a 0) (.b 1)) (.b 900) A b0) (c.a F h.1) ((c.c F).imp λd5 G=>G.1) b3 E.8 (b6 (.inr (.inr (.inr (ag _ (dX h.1) A))))) E.12 a.11 V (Ci e).1 (Ci e).2 K) λm x d0 o f4=>pc f4 λP c1 l W e6 e7=>(b8 P l c1 W ⟨λG=>G.elim (λG=>ck (G.symm.trans H)) λG=>X (G.symm.trans e),λb f7 g1 b5=>by
     have T:=dd (R (e.symm.trans b5))
     exact J T.1 (J T.2 (aK A e6 e7))⟩ d)
 |false=>
  rw[d]at h;have d8:fn _ n g (1+(p.d%2:Nat)):=((by decide:∀Q,Q<4->Q%2=0∨Q%2=1) p.d E.7).elim (λe=>C e c2) λe=>C e f0
  have f1:(1:Int)+(p.d%2:Nat)=1∨(1:Int)+(p.d%2:Nat)=2:=by omega
  refine gR (Bw F c a h.1 a.3 d8 E.1 E.8 E.12 (aP a9 A) (aG [_] (.a 1 (.a 0) (.b 200) .b) (.a 0) (.b 800) A b0)) λm x Q c9 f6 f5=>pc f5 λS c0 Y e2 c8 g0=>fg Y λg2 e3=>?_
  refine bJ K.1 λd5 d7 b=>?_
  have b1:=V.c S.1 d7 K.2 S.14;have d1:=f1.elim (λe=>.inr (bi c9 (J e c0) e3 e2)) λe=>c2.c S.1.5 S.14 (S.1.6 1 (by omega))
  have b9:hj f.b p=D->Dp m _ c9 p.l->cv f i t v:=λf2 e9=>by
   refine lg (Ba S e9) λa1 P l f9 c3=>?_
   refine qD F c a h.1 P l ae (aP a9 A) λe0 U b2=>r h.2 U b2 c8 (d1.c c3.1.d.d (bt _) (c3.1.d.2 _ A).trans) ⟨λe=>ck (e.symm.trans d),λb=>⟨λb=>A,λe=>ck (f2.symm.trans e)⟩⟩
  cases H:p.l with
  |true=>exact b9 (by unfold hj;exact C H A) (.inl H)
  |false=>
   cases e:hn f.b p with
   |none=>rw[e]at b1;exact b9 (by unfold hj;exact C H (C e A)) (.inr (.inl b1))
   |some d3=>
    obtain⟨c4,c6⟩:=d3;rw[e]at b1;refine eR b1 λg3 e4 c7 b4 f8 c5=>?_
    refine bJ (id b4) λa2 d9 b=>?_
    subst d9;have d2:hj f.b p=!(c4==1+(p.d%2:Nat)):=by unfold hj;exact C H (C e A)
    by_cases Z:c4=1+(p.d%2:Nat)
    ·have e5:=(Z▸c5.c).k c0.c;rw[H]at S;have T:=VE S c7 (J e5 b4);refine .l F c h.1 T.1 T.2.d λU=>r h.2 U ((a.a T.2 ae).d (ap [_] .b (.c (.f 3 (.a 0)) (.b 100)) (.c (.f 3 (.a 0)) (.b 101)) A) ae) c8 d1 ⟨λe=>ck (e.symm.trans d),λb=>⟨λe=>?_,λb=>jB⟩⟩
     rw[d2,beq_iff_eq.mpr Z]at e;exact az e
    ·exact b9 (C d2 (C (beq_eq_false_iff_ne.mpr Z) A)) (.inr (.inr (Cm a2 e4 c6 c7 (λd=>Z (dx (R (c5.2.symm.trans (C d c0.2))))) b4)))
inductive Dj(f)(p)(a)(j)(t) where
 |mk (b:∃n g,bO f f.a.length j t n/\cw (L t) n/\fn (L t) n g 1/\n<=300)
  (c:t.a<=85000)
  (l:rU f p t a f.a.length j)
theorem Ti(c2:p.m)(b:cJ f)(a:bO f (i+1) j t n)(V:i<f.a.length)(c:eA f p t n q g [] s)(h:f.a.drop (i+1)=fa p.f)(Z:fn (L t) n g 1)(F:rU f p t i (i+1) j)(b2:s<=26900)(W:n<=200):cv f (i+1) t (Dj f p i):=by
 have E:t.a<=27000:=aV c.12 (aP b2 A);unfold fa at h;cases J:M _ 1||M _ 2 with
 |false=>rw[J]at h;rw[←(pu (O7.mp h) V)]at a F⊢;exact .a b a ⟨(dR n g a c.1 Z (aG [_] (.a 1 (.a 0) (.b 200) .b) (.a 0) (.b 300) A W)),aP E A,F⟩
 |true=>
  rw[J]at h;have l:=gu h;have S:=a.5 _ _ l.1 (bd _);have K:∃T,cd _ g (2+p.f) T 0:=(gi.mp J).elim (λe=>C (bW e) c.7) λe=>C (bW e) c.8
  refine cn K λT K=>?_
  refine eR ((c.c K).c c.1) λb7 e U a9 b4 Q=>?_
  refine cn (Ih (iH _ (.head _)) (λQ=>iH _ (.tail _ (.head _))) a.1 c.1 (aV E (by decide)) (a.a b l.1) U a9 b4 (db (by decide)) (db (by decide)) S) λm y=>?_
  refine lg (IB y (a.a b l.1) (a.b b) (a.c b) c.11 ⟨_,S⟩ (bO.e b) c.10 E (bt n)) λa1 b6 d Q c1=>?_
  refine .d b a l.1 b6 d.d (ap [_,_] (.a 3 (.a 0) (.b _) (.a 1 (.a 1) (.c (.f 3 (.a 0)) (.b 100)) .b)) (.a 1) (.b _) A E d.7) λH=>?_
  have b3:fn _ n g 1:=Z.elim (λG=>(di _).elim (λe=>.inl (G.d d.4.1 λQ=>e)) λb5=>ak (d.5 1 (by decide) (λe=>X (G.2.symm.trans (C e U.2))) G.2) b5) λb0=>.inr (b0.imp λb7 P=>⟨d.4.g P.1 P.2.2,P.2⟩)
  have Y:rU f p (hB f (i+1) j a1) i (i+1+1) (j++[i+1]):=⟨λe=>fg (F.1 e) λb1 c0=>mf c0 λo k b9 b8=>⟨(C b1 (C (x' (n:=i+1)) A)),(dE o k ((b9.d b a d.d (fi i) (cE l.1)).b b V _ _) b8)⟩,λe=>⟨λh=>C ((F.2 e).1 h) (C (x' (n:=i+1)) A),λh=>C dr (C ((F.2 e).2 h) A)⟩⟩
  rw[←(pu (O7.mp l.2) (cE l.1))]at H Y⊢;exact .a b H ⟨(dR n g H d.3 b3 (aG [_] (.a 1 (.a 0) (.b 200) .b) (.a 0) (.b 300) A W)),ap [_,_] (.a 3 (.a 0) (.b _) (.a 1 (.a 1) (.c (.f 3 (.a 0)) (.b 100)) .b)) (.c (.a 1) (.b 1)) (.b _) A E d.7,Y⟩
def ci(p):=kO++(dY 10 p.c p.e p.q++(dY 12 p.c p.e p.r++(hT 14 (fN p.g) p.i::(fX p::(gs p.h p.j++(eO p::fa p.f))))))
theorem cv.e(C:cv f i t v)(r:∀j t,v j t->b j t):cv f i t b:=λa4=>mi (C a4) λh h h c=>⟨c.1,r _ _ c.2⟩
theorem eV.h(V:p.m)(Z:0<=n)(S:eV f 4 (L t) (t.b (.d 23)) t.a n q a3 s e)(W:cd (L t) n 10 (bI q p.c) p.e)(Y:cd (L t) n 12 (bI q p.c) p.e)(G:cd (L t) n 14 (bI q p.g) p.i)(F:p.g<4->∃l b,dL (L t) (fN p.g) l/\dL (L t) 14 b/\l<b):eA f p t n q n a3 s:=
 ⟨S.1.a,
  W,
  Y,
  G,
  (S.4 (by decide)),
  (by
  by_cases H:p.g=2
  ·rw[H]at F;exact aq (F (by decide)) λl C E=>(an C l E.2.1 E.1 (λe=>jP [_,_] (.c 1 (.a 0) (.a 1) (.a 1 (.c (.a 1) (.b 1)) (.a 0) .b)) A e (E.2.2)))
  ·exact gf G λC P a Q=>(gf (S.3 2 (by decide)) λb T a U=>(an C b P T (λe=>H ((p' V.2).symm.trans ((O pZ (R (O (dP 0) (Q.symm.trans ((O _ e).trans U))))).trans (p' (by decide)))))))),
  ⟨_,S.3 0 (by decide)⟩,
  ⟨_,S.3 1 (by decide)⟩,
  S.6,
  S.8.c,
  ⟨S.7.symm.subst ⟨(an [] 0 A ae (ek _)),λa a e=>J (aW (O dy e)) A⟩,S.7.symm.subst λa a e=>J (aW (O dy e)) .nil,λr a9 a K=>X ((O (cN · r) S.7).symm.trans K)⟩,
  S.9,
  bt n⟩
theorem VL(a:p.m)(b:cJ f)(b0:f.a=ci p)(J:bO f 0 [] t 0)(b8:ob f (L t))(Z:t.b (.d 23)=.b [] 0)(b1:t.a<=440):cv f 0 t λj b9=>∃G,f.a.drop G=eO p::fa p.f/\Dj f p G j b9:=
 YY b J b8 Z b0 b1 a.1 a.8 a.2 a.9 a.3 a.4 λF E S b5 b6 b7 b4=>
  have h:=S.10
  Tf a b E (S.h a E.1.11.1 b5 b6 b7 b4) S.1 (gu F).1 (λr=>O (cN · r) S.7) (by decide) (aG [_] (.a 1 (.a 0) (.b 18) .b) (.a 0) (.b 100) A h) λK T X l e W c C=>Tg a b K T X (gu F).2 e W c C (by decide) (aG [_,_] (.a 1 (.a 0) (.b 18) (.a 1 (.a 1) (.c (.a 0) (.b 1)) .b)) (.a 1) (.b 100) A h l) λd P U Y H e c C=>Th a b P U Y d e c C (by decide) (aG [_,_,_] (.a 1 (.a 0) (.b 18) (.a 1 (.a 1) (.c (.a 0) (.b 1)) (.a 1 (.a 2) (.c (.a 1) (.b 1)) .b))) (.a 2) (.b 200) A h l H) λa9 Q V b2 c b3=>(Ti a b Q (cE (gu d).1) V a9 c b3 (by decide) (aG [_,_,_,_] (.a 1 (.a 0) (.b 18) (.a 1 (.a 1) (.c (.a 0) (.b 1)) (.a 1 (.a 2) (.c (.a 1) (.b 1)) (.a 1 (.a 3) (.c (.a 2) (.b 1)) .b)))) (.a 3) (.b 200) A h l H b2)).e λj t z=>(ag _ d z)
end
def BH(b:Nat)(v h:E):fr:=⟨[]++[(G 1,aX)],[]++[(G 1,bf (al (.b 11 0)) (λz z=>v) b)],[],[],[],[]++[(bf (al (.b 11 0)) (λz z=>al (.b 10 1)) b,bf (G 1) (λz z=>h) b)]⟩
def ZX(b:Nat):List bq:=[.c,.a [aD (G 1)],.a [bf (al (.b 11 0)) (λz z=>al (.b 10 1)) b],.a [aD (G 1)]]
noncomputable def JW(b:Nat):Int:=bf 0 (λz z=>1) b
def ZW(b:Nat):List E:=bf [] (λz z=>[.d [.b (.d 27),al (.b 10 1),.g]]) b
noncomputable def JV(b:Nat):Nat:=bf 6 (λz z=>10) b
theorem ZY:([0,1].map λb=>np (ah (gb gd) 8 30 [.b (.d 16),.b (.c 1)]) (aa 10 0) (BH b .f .f) .c .c [.c,.a [aD (G 1)]] 4)=
  [0,1].map λb=>B (.d [.b (.c 2),.b (.c 3)],he (aa 10 (JW b)) .f (BH b (al (.b 10 1)) (G 1)) .c .c (ZW b) (ZX b),JV b):=by kernel_rfl
section
variable{t:S U}{f e:Nat}{n a:Int}
theorem ZT(i:bz t f n)(u:cw (L t) n)(a3:fn (L t) n a 1)(U:t.a<=90000)(a1:n+1<=900)(a2:f≠e)(a0:f<t.a)(Z:e<t.a)(l:t.b (.c e)=.a [aD (G 1)]):
  ∃b g,ah (H F) 8 30 [.b (.d 16),.b (.c e)] t=B (.d [.b (.c t.a),.b (.c (t.a+1))],b)/\bz b f g/\b.b (.c (t.a+1))=.a [aD (G 1)]/\t.a<=b.a/\b.a<=t.a+10/\∀d,d<t.a->b.b (.c d)=t.b (.c d):=by
 have v:∀c∈[0,1],∀m,aS 1000 m->lx _ t _->∃b g,ah _ 8 30 _ t=B _/\bz b f g/\b.b _=.a [aD (G 1)]/\t.a<=b.a/\b.a<=t.a+10/\∀d,d<t.a->b.b _=t.b _:=λc j m x E=>by
  have C:gI ⟨[],[n,m],[],[f,e],t.a,0⟩:=⟨fF.mpr ⟨λl=>a2 (fR.mp l),fF.mpr ⟨cI,mr⟩⟩,T a0 (T Z ae)⟩
  have P:cM (ai ⟨[],[n,m],[],[f,e],t.a,0⟩) gd:=gB ae (T i.11.c (T x ae)) ae ae ae;have y:=eS.mp ZY c j;have q:∀{o:Nat->Prop},o 0->o 1->o c:=λV W=>T V (T W ae) c j
  refine bJ (q (o:=λc=>∃p,p<=10/\JV c=2+p) (ag 4 (by decide) A) (ag 8 (by decide) A)) λp w S=>?_
  refine bJ (q (o:=λc=>∃g,aS 900 g/\Q (ai ⟨[],[n,m],[],[f,e],t.a,0⟩) (aa 10 (JW c))=G g) (ag n i.11 A) (ag _ ⟨ex i.11.1,a1⟩ A)) λg X K=>?_
  rw[S]at y;exact(oP (p:=.c) (j:=.c) (d:=[.c,.a [aD (G 1)]]) (m:=4)
   (a7:=ah (gb gd) 8 30 _) (a6:=ah (H F) 8 30 _) (λa4 b J=>jR (gF C P) 8 30 _ a4 b J) i U (aP w A) X A C P A A K A A E (yH (q (o:=λc=>yF (BH c (al (.b 10 1)) (G 1))=D) A A)) A A (an f _ A A (an e _ A l A)) A y).imp λb z=>by
   exact(nI g z.1 z.2.1.1 (z.2.1.11 3 _ A) (ap [_,_,_] (.c (-1) (.a 0) (.c (.a 1) (.a 2)) .b) (.a 1) (.a 0) A z.2.1.2) (ap [_,_,_] (.a 1 (.a 0) (.b 10) (.c 1 (.a 1) (.c (.a 2) (.a 0)) .b)) (.a 1) (.c (.a 2) (.b 10)) A w z.2.1.2) (λd Y=>if k:d=f then k▸z.2.1.11 0 _ A else if s:d=e then s▸(z.2.1.11 1 _ A).trans l.symm else z.2.2 d Y (bl k s)))
 refine a3.elim (λr=>v 1 (.tail _ (.head _)) 0 (db (by decide)) ⟨⟨bh ⟨A,A,r.3⟩,cc⟩,⟨bh ⟨A,A,r.2⟩,cc⟩,.a,.a,.a,⟨bh ⟨A,A,u.1 (n+1) (ic n)⟩,cc⟩⟩) λh=>?_
 refine gf h λm h a5 x=>?_
 refine gf (u.2 1 _ h.3) λa6 k j a5=>?_
 rw[←fO k]at j;exact v 0 (.head _) m (i.11.c.d j) ⟨⟨bh ⟨A,A,h.4⟩,cc⟩,⟨bh ⟨A,A,h.3⟩,cc⟩,.a,.a,.a,⟨bh ⟨A,A,h.2⟩,cc⟩⟩
end
section
variable{a:Nat->List E->S U->av U E}{l:aC}{s:S U}{b c:aJ}{v w:List E}{r q:af}
theorem mL(d:K (H F) a b l s=B (.b r,s))(h:s.b r=.a v):K (H F) a (.m 0 [b]) l s=B (G v.length,s):=
 (ab (eE d) (au (au A (show ce (s.b r)=_ by exact C h A)) A):gT _ 0 _ l s=_)
theorem on(f:o=.a∨o=.c)(h:K (H F) a b l s=B (G i,s))(d:K (H F) a c l s=B (G j,s)):K (H F) a (.e o b c) l s=B (.c (xor (sy o) (i==j)),s):=by refine(ab h (ab d ?_):ei _ o _ _ l s=_);exact f.elim (λe=>by refine C e ?_;rfl) λe=>by refine C e ?_;rfl
theorem OO(d:K (H F) a b l s=B (.b r,s))(e:K (H F) a c l s=B (.b q,s))(h:s.b r=.a [aD (G 1)])(k:s.b q=.a [aD (G 1)]):K (H F) a (.e .c b c) l s=B (.c I,s):=by
 have f:∀{r},s.b r=.a [aD (G 1)]->jW (H F) s.b (.b r)=B (.h [aD (G 1)]):=λ{r} h=>by
  show Y (ce (s.b r)) _=_
  exact C h A
 refine(ab d (ab e (au (b:=D) ?_ A)):ei _ .c _ _ l s=_);show hc _ s.b _ _=_
 unfold hc;exact C (show kR _ s.b _=I by show(match s.b r with|.b _ _=>D|_=>I)=I;exact C h A) (au (f h) (au (f k) A))
end
theorem Qe(b:aF v=I):∀{T}{l},cL T l->sF k T=B N->cL T (hh k v l):=λ{T}=>by
 induction T with
 |nil=>exactλz h=>X h
 |cons p T i=>
  intro l h e;refine aq h λu a h=>?_
  refine C h.1 ?_;show cL _ (a' _ _ _)
  have e:a' _ _ _=B N:=e;cases q:M p.1 k with|true=>rw[q]at e;exact(an v a (O (λk=>(k,v)::a) (bW q).symm) ⟨b,λw h=>X ((R e).symm.trans h)⟩ h.2.2)|false=>rw[q]at e;exact(an u _ A h.2.1 (i h.2.2 e))
theorem PZ:∀{T}{l},cL T l->l.length=T.length:=λ{T}=>by
 induction T with|nil=>exact O _|cons p T i=>exactλw=>aq w λu a w=>w.1▸O _ (i w.2.2)
section
variable{t:S U}{f b:Nat}{n:Int}{o:bq}
theorem bz.d(c:bz t f n)(i:b<=t.a)(g:t.a+1<=97000):bz ⟨aZ.d t.b (.c b) o,t.a+1⟩ f n:=
 have u:∀{k j},bE t.a k (t.b (.d j))->bE (t.a+1) k _:=λe=>e.c (gk _)
 ⟨⟨g,λm h=>(ba (cy (cC (dA i h)))).trans (c.1.2 m (pw h)),c.1.3⟩,c.2,u c.3,u c.4,u c.5,u c.6,u c.7,u c.8,c.9,c.10.imp λl z=>⟨z.1,jD z.2⟩,c.11⟩
theorem bz.a(c:bz t f n)(m:t.b (.d 16)=.e 4 l)(j:t.a+1<=97000):bz ⟨aZ.d t.b (.d 16) (.e 4 (hh 31 aX l)),t.a+1⟩ f n:=
 have u:∀{k i},bE t.a k _->bE (t.a+1) k (t.b (.d i)):=λe=>e.c (gk _)
 ⟨⟨j,λr p=>c.1.2 r (pw p),λi h=>(ba (df λg=>ak (am (aQ (cW g) 1) h) (by decide))).trans (c.1.3 i h)⟩,c.2.elim λq z=>⟨_,A,Qe A (J (show q=l from O pz (R (O qP (z.1.symm.trans m)))) z.2) A⟩,u c.3,u c.4,u c.5,u c.6,u c.7,u c.8,c.9,c.10.imp λl z=>⟨z.1,jD z.2⟩,c.11⟩
end
theorem EZ(h:s.b (.c s.a)=.f)(b:s.a<100000):K (H F) a (.g N []) l s=B (.b (.c s.a),⟨aZ.d s.b (.c s.a) (.a []),s.a+1⟩):=
 (ab A (hR h b):iB _ N [] l s=_)
inductive LU(X)(t)(a e)(c) where
 |mk (d:cJ X)
  (k:X.m=t.b)
  (l:X.j=t.a)
  (g:t.b (.c X.f)=.e 1 [(6,c),(7,.b (.c X.h)),(8,.b (.c a))])
  (h:∃f,t.b (.c a)=.e 0 f/\cG 2 f=B (.b (.c e)))
  (i:t.b (.c e)=.a [aD (G 1)])
  (s:∀j r,Z X.a j=B r->bm t (X.c j) (X.g j) (W r.b) (G r.a) r.f (.c r.d) r.c)
  (m:X.f<X.l)
  (n:∀b∈[a,e],b<X.j/\∀j,j<X.a.length->b≠X.c j/\b≠X.g j)
  (o:X.f≠a/\X.f≠e/\X.d≠e)
inductive De(X)(p)(d t:S U)(g)(e)(i)(j)(b) where
 |mk (h:t.b (.c X.f)=.e 1 [(6,e),(7,.b (.c b)),(8,.b (.c g))])
  (u:t.b (.c b)=.a (j.map X.i))
  (r:∀c∈j,c<X.a.length/\∃o a,fq X t c o a)
  (l:rU X p t i X.a.length j)
  (i:X.a.drop i=eO p::fa p.f)
  (k:∃f v,t.b (.d 16)=.e 4 f/\cG 31 f=B v/\aF v=I)
  (s:cD t)
  (n:t.a<=90000)
  (m:d.a<=t.a)
  (q:∀a,a<X.l->a≠X.f->t.b (.c a)=d.b (.c a))
section
variable{a:aU}{p:dB}{t:S U}{e b:Nat}{c:E}
theorem Nj(f1:p.m)(K:LU a t e b c)(e0:a.a=ci p)(b3:bz t a.d 0)(f5:ob a (L t))(d8:t.b (.d 23)=.b [] 0)(c2:t.a<=439):∃d3 Z P m,ah (H F) 9 40 [.b (.d 16),.b (.c a.f)] t=B (.g,d3)/\De a p t d3 e c Z P m:=by
 have f:=K.1;have o:=K.3;have q:=K.8
 let a9:S U:=⟨aZ.d t.b (.c t.a) (.a []),t.a+1⟩
 have Y:∀d,d≠t.a->a9.b _=t.b _:=λd j=>ba (cy j)
 have b2:bO a 0 [] a9 0:=⟨b3.d (bd _) (gJ c2 A),congrFun K.2.symm _,λd e1 b1=>(Y d (bw (am e1 (ct o)))).trans (congrFun K.2.symm _),C o cj,λk f2 n b1=>(K.7 k f2 n).c (Y _ (bw (am (f.c (cE n)) (ct o)))) (Y _ (bw (am (f.g (cE n)) (ct o)))),λk n=>ak n cI,C o (fi _),bd _⟩
 refine cf (VL f1 f e0 b2 f5 d8 (gJ c2 A) .f) λa2 h P g1=>fg g1 λd1 f9=>bJ f9 λZ a7 s=>?_
 refine eR s.1 λe9 h0 l d7 f3 e5=>?_
 have v:=s.2;have u:=l.7;have a8:=λd w G=>(l.3 d w G).trans (congrFun K.2 _)
 have c8:=λd j=>a8 d (f.d j) (aU.r j)
 have T:=(c8 _ q).trans K.4;have V:=K.9 b (.tail _ (.head _));have a4:=K.9 e (.head _);refine bJ K.5 λg3 e2 c3=>?_
 have a3:=l.d f;refine bJ l.1.2 λg4 a6 e3=>?_
 have e8:∃i m,as (H F) (ah (H F) 8) [.a (.e .c (.m 0 [.a 2]) (.m 0 [.c (.a 1) 7])) [.f (.a 1) 7 (.a 2),.f (.a 0) 31 (.b (.c D))] []] (jf a a2) h=B ((.a,jf a a2),i)/\bz i a.d e9/\L i=L h/\i.b (.c a.f)=.e 1 [(6,c),(7,.b (.c m)),(8,.b (.c e))]/\(∀d,d≠a.f->i.b (.c d)=h.b (.c d))/\h.a<=i.a/\i.a<=h.a+2/\h.b (.c m)=.a (P.map a.i)/\m<=a.j/\m≠a.f:=by
  have y:=on (a:=ah (H F) 8) (l:=jf a a2) (.inr A) (mL (b:=.a 2) A l.4) (mL (b:=.c (.a 1) 7) (bF A T A A) a3);rw[ea,ea,jB]at y
  by_cases g:(P.length:Int)=a.a.length
  ·rw[beq_iff_eq.mpr g]at y;have d5:=by
    cases x:ar p.d 2 with
    |true=>exact(s.3.1 x).1
    |false=>cases d0:hj a.b p with|true=>exact(s.3.2 x).1 d0|false=>exact ak ((CF g).symm.trans ((s.3.2 x).2 d0)) (cC (Nat.sub_lt (Nat.zero_lt_of_lt (cE (gu a7).1)) Nat.one_pos))
   exact(dQ h a.h (KH (b' (bS y) A) l.1 A (C T A) (λb1 b1=>A) (bd _) (bX _ _) (C d5 a3) (fh (f.d f.3)) (λg=>oy a3 T (show 100≠1 by decide) (O af.c g))))
  ·rw[beq_eq_false_iff_ne.mpr g]at y
   let i:S U:=⟨aZ.d h.b (.c a.f) (.e 1 [(6,c),(7,.b (.c a.j)),(8,.b (.c e))]),h.a+1⟩
   exact(dQ _ a.j (KH (hX (bS y) (iv A A A T A A (bB v A) (iv (b:=i) A A A a6 (by
     exact C (PZ e3) A) A (iS v A) A)) A) ((l.1.d (fh (dt (f.d q) u)) (gJ v A)).a a6 (gJ (aQ v 1) A)) (funext λg7=>funext λc5=>(di _).elim (λg=>by subst g;exact(O (cN · c5) a6).symm) λg=>O (cN · c5) (ba (df g))) cj (λd j=>ba (cy j)) (bX _ 2) (bd _) l.4 (bd _) (cC (f.d q))))
 refine aq e8 λi m g0=>I3 g0 λf4 b4 c6 b6 a5 a1 c4 d4 e6 f0=>?_
 have Q:=aV (fh u) a1;have c0:=(a5 e λg=>K.10.1 g.symm).trans ((a8 e a4.1 a4.2).trans e2);have b9:=(a5 b λg=>K.10.2.1 g.symm).trans ((a8 b V.1 V.2).trans K.6);refine bJ b4.2 λg5 d9 g6=>?_
 refine Cd (ZT b4 (C c6 d7) (C c6 f3) (aP (am c4 (aQ v 2)) A) (aG [_] (.a 1 (.a 0) (.b 300) .b) (.c (.a 0) (.b 1)) (.b 900) A e5) K.10.2.2 (am (f.d f.1) Q) (am V.1 Q) b9) λb0 g9 f6 b5 d6 c7 e4 X=>?_
 have b7:=(X a.f (am (dt (f.d q) u) a1)).trans b6
 let g8:=[.b (.d 16),.b (.c a.f),.b (.c a.j),a2,.b (.c i.a),.b (.c (i.a+1))]
 refine(ko b0 Z P m ⟨(jS A A (by
  refine dJ (b:=a9) (i:=[.b _,.b _,.b _,.f,.f,.f]) (EZ (b3.1.2 _ (bd _)) (aP (am (am (aQ (cW o) 1) u) v) A)) A ?_;have e7:jf a .f=[.b (.d 16),.b (.c a.f),.b (.c t.a),.f,.f,.f]:=by show[_,_,E.b _,_,_,_]=_;exact C o A
  rw[e7]at d1;refine js (bF A ((Y _ (bw (am (f.d q) (ct o)))).trans K.4) A A) (b2.d f) (by rw[ea,jB];exact d1) ?_
  exact(kK f4).trans (k' (om A d9 A (bF (bF A b6 A A) c0 c3 A) f6) A (b' (bS (OO A (bF (bF A b7 A A) ((X e (am a4.1 Q)).trans c0) c3 A) d6 ((X b (am V.1 Q)).trans b9))) A)))),?_⟩)
 have W:∀d,d<h.a->d≠a.f->b0.b _=h.b _:=λd w G=>(X d (am w a1)).trans (a5 d G)
 have d2:∀k r d,k<a.a.length->fq a h k r d->fq a b0 k r d:=λk r d n j=>rq j λx b8 c9 c1 z=>(aK (z.1.c (W _ (dt (f.c n) u) (aU.s q).symm) (W _ z.2.1 (z.2.2.1.elim (λg=>C g ((aU.q q).symm)) λj=>cC (dt (f.d q) j)))) (am (am z.2.1 a1) c7) z.2.2)
 exact⟨b7,(W m (am (aQ e6 1) u) f0).trans d4,λk n=>have z:=l.6 k n;⟨z.1,ro z.2 λx r b8 c9 c1 a0 g2=>(dQ r a0 (d2 k r a0 z.1 ⟨x,b8,c9,c1,g2⟩))⟩,⟨λg=>(s.3.1 g).imp id λz=>c' z λr d z=>⟨d2 Z r d (cE (gu a7).1) z.1,z.2⟩,s.3.2⟩,a7,b5.2.elim λa0 z=>(Fj z.2 A).elim λf7 f8=>(dE a0 f7 z.1 f8),b5.1,aP (am (am e4 (aQ c4 10)) (aQ v 12)) A,aV (J o Q) c7,λd w G=>(W d (dt (f.d w) u) G).trans (c8 d w)⟩
end
theorem Bd{X:aU}{t:E->aC->S U->av U _}{a:Nat->aC->S U->Prop}(e:∀i l s,a i l s->s.b (.c X.h)=.a ((bv X.a.length).map X.i))(g:∀i l s r,a i l s->Z X.a i=B r->∃c d,t (X.i i) l s=B ((.a,c),d)/\a (i+1) c d):
  ∀k i l s,i+k=X.a.length->a i l s->∃c d,ed (H F) (.g (.c X.h)) t (k+1) i l s=B ((.a,c),d)/\a X.a.length c d:=λk=>by
 induction k with
 |zero=>intro i l s h b;have w:=kL (t:=t) (n:=0) (l:=l) (e i l s b);rw[ea,jB]at w;have h:i=X.a.length:=h;exact(dE l s (C h w) (J h b))
 |succ k j=>intro i l s h b;have f:i<X.a.length:=J h (px (lq k));cases q:Z _ i with|none=>exact ak (lT q) (CZ.mpr f)|some r=>exact aq (g i l s r b q) λm n z=>c' (j _ m n ((CU i 1 k).trans h) z.2) λo p y=>⟨jV (e i l s b) (AY f) z.1 y.1,y.2⟩
theorem lY:kw 1 (G x):=⟨A,A,A,A⟩
section
variable{a:Nat->List E->S U->av U E}{l d:aC}{s b c:S U}{e:aJ}{k:Nat}{x y:List de}{q:av U (cQ×aC)}
theorem vj(h:s.b (.d k)=.f)(f:cV 16 k=D)(g:s.a<100000):K (H F) a (.r (B k)) l s=B (.b (.d k),⟨aZ.d s.b (.d k) (.b [] 0),s.a+1⟩):=by
 refine(au (show qO (s.b _)=_ by refine C h ?_;rfl) ?_:qH (H F) _ _ s=_);show aI (D&&cV 16 k&&ar s.a _) _=_
 refine C f (C (show ar s.a _=D from er g) ?_);rfl
theorem SO{g f:aA U E}(h:g l s=B (v,b))(k:f l b=B (w,c)):bs [g,f] l s=B ([v,w],c):=
 (ab h (ab (eE k) A):aB _ (λv s=>aB (bs [f] l s) λi s=>B (v::i,s))=_)
theorem YG(j:K (H F) a e l s=B (.b f,s))(h:s.b f=.b [] 0)(n:as (H F) a y l s=q):as (H F) a (.g g (.d e) x::y) l s=q:=by have m:pg (H F) _ l s=B (.b f 0 0,s):=ab j (au (show ow f (s.b f)=_ by exact C h A) A);have i:ed (H F) (.b f 0 0) (dK (H F) g (as (H F) a x)) 1 0 l s=B _:=au (b:=N) (show Y (dy (s.b f)) _=_ by exact C h A) A;exact(gx (ab m i) n:dS (jy _ g _ _) _ l s=_)
end
section
variable{a:Nat->List E->S U->av U E}{l d:aC}{s f:S U}{e b c:aJ}{x y z:List de}{q:av U (cQ×aC)}
theorem oQ(h:bc (H F) (K (H F) a e) l s=B (I,s))(k:as (H F) a y l s=B ((.a,d),f))(g:as (H F) a z d f=q):as (H F) a (.a e x y::z) l s=q:=
 (gx (ab h k) g:dS (iF _ _ (as _ a x) _) _ l s=_)
theorem vl(h:K (H F) a b l s=B (G i,s))(g:K (H F) a c l s=B (G j,s)):bc (H F) (K (H F) a (.e .g b c)) l s=B (!(decide (i<j)),s):=by
 refine bS (ab h (ab g ?_):ei _ .g _ _ l s=_);show B (E.c (xor D _),s)=_
 cases decide (i<j)<;>rfl
end
inductive rP(X:aU)(t)(p b e)(a) where
 |mk (d:∃f,t.b (.c X.d)=.e 2 f/\cG 10 f=B (.b (.c p))/\cG 12 f=B (.b (.c X.n))/\cG 13 f=B (.b (.c b)))
  (p:t.b (.c p)=.a [G 0,G 1,G 2])
  (b:t.b (.c b)=.a [.b (.c X.f)])
  (c:t.b (.c X.f)=.e 1 [(6,a),(7,.b (.c X.h)),(8,.b (.c e))])
  (s:t.b (.c X.h)=.a ((bv X.a.length).map X.i))
  (g:∀j r,Z X.a j=B r->bm t (X.c j) (X.g j) (W r.b) (G r.a) r.f (.c r.d) r.c)
theorem rP.a{X}{t i}(d:rP X t p c e b)(h:∀f,i.b (.c f)=t.b (.c f)):rP X i p c e b:=
 ⟨d.1.imp λk z=>⟨(h _).trans z.1,z.2⟩,(h _).trans d.2,(h _).trans d.3,(h _).trans d.4,(h _).trans d.5,λj r g=>⟨(d.6 j r g).1.imp λl z=>⟨(h _).trans z.1,z.2⟩,(h _).trans (d.6 j r g).2⟩⟩
def lv(X:aU)(i)(x):=x=0∨x=1∨x=2∨(0<=x/\∃r∈X.a.take i,r.a=x)
theorem tU:∀{l}{i},Z l i=B r->(x∈l.take (i+1)↔x∈l.take i∨x=r):=λ{l}=>by
 induction l with
 |nil=>exactλh=>X h
 |cons y l a=>intro i h;cases i with|zero=>exact C (R h) ⟨λm=>.inr (fR.mp m),λm=>m.elim (λm=>ak m cI) λe=>C e bn⟩|succ i=>exact⟨λm=>(cB.mp m).elim (λe=>.inl (C e bn)) λm=>((a h).mp m).imp (bT _) id,λm=>m.elim (λm=>(cB.mp m).elim (λe=>C e bn) λm=>bT _ ((a h).mpr (.inl m))) λe=>bT _ ((a h).mpr (.inr e))⟩
inductive yo(X)(t s:S U)(i) where
 |mk (o:bE s.a 1 (s.b (.d 17)))
  (b:∀x,lv X i x->L s 17 (G x)=B aX)
  (n:∀x,¬lv X i x->L s 17 (G x)=N)
  (l:t.a<=s.a)
  (h:s.a<=t.a+5+i)
  (e:s.b (.d 18)=.b [] 0)
  (f:∀a,a≠ .d 17->a≠ .d 18->s.b a=t.b a)
noncomputable def wJ:List de:=[.a (.e .b (.c (.a 5) 1) (.a 1)) [.i (.a 2) (.c (.a 5) 1) (.b (.c D))] [.a (.e .g (.c (.a 5) 1) (.b (.a (.a 0)))) [.i (.a 1) (.c (.a 5) 1) (.b (.c D))] []]]
theorem Uj{X}{t}(f:rP X t p a e b)(c1:t.b (.d 17)=.f)(c2:t.b (.d 18)=.f)(w:t.a<=1000)(c9:X.a.length<=50)(b0:∀i r,Z X.a i=B r->¬lv X i r.a):
  ∃b6,ah (H F) (n+1) 12 [.b (.c X.d)] t=B (.b (.d 17),b6)/\yo X t b6 X.a.length:=by
 refine lg f.1 λd9 b2 c3 e1 c4=>?_
 let b5:S U:=⟨aZ.d t.b (.d 17) (.b [] 0),t.a+1⟩
 let d4:S U:=⟨aZ.d b5.b (.d 18) (.b [] 0),t.a+1+1⟩
 have a0:∀{s x},bE s.a 1 _->s.a<2000->∃Q,jq _ _ (G x) aX s=B _/\Dv s Q 17 1 _ aX:=λb9 h=>Bo b9 lY A A (aP h A)
 refine bJ (a0 (s:=d4) (x:=0) ⟨(an [] 0 A ae (ek _)),λd8 d8 c=>J (aW (O dy c)) A⟩ (ap [_] (.a 1 (.a 0) (.b 1000) .b) (.c (.c (.c (.a 0) (.b 1)) (.b 1)) (.b 1)) (.b 2000) A w)) λd5 d1 q=>?_
 have W:d5.a=t.a+3:=q.5;refine bJ (a0 (x:=1) q.1 (bB (am (ct W) (aQ w 3)) A)) λe3 d2 m=>?_
 have a7:=m.5;refine bJ (a0 (x:=2) m.1 (bB (am (am (ct a7) (aQ (ct W) 1)) (aQ w 4)) A)) λY d3 g=>?_
 have b1:=λj u a4=>(g.6 j u).trans ((m.6 j u).trans ((q.6 j u).trans ((ba a4).trans (ba u))))
 have o:∀{x b7},x≠b7->G x≠G b7:=λh c=>h (dx c)
 have b8:yo X t Y 0:=⟨g.1,λx h=>h.elim (λc=>C c ((g.4 _ A (o (by decide))).trans ((m.4 _ A (o (by decide))).trans q.3))) λh=>h.elim (λc=>C c ((g.4 _ A (o (by decide))).trans m.3)) λh=>h.elim (λc=>C c g.3) λh=>h.2.elim λr z=>ak z.1 cI,λx h=>(g.4 _ A (o λc=>h (.inr (.inr (.inl c.symm))))).trans ((m.4 _ A (o λc=>h (.inr (.inl c.symm)))).trans (q.4 _ A (o λc=>h (.inl c.symm)))),eY (am (am (cW W) (eY (cW a7))) (eY (cW g.5))),am (am (ct g.5) (aQ (ct a7) 1)) (aQ (ct W) 2),(g.6 _ (df (by decide))).trans ((m.6 _ (df (by decide))).trans ((q.6 _ (df (by decide))).trans A)),b1⟩
 have a9:∀{c8:List E}{x}{s Q},jq _ _ _ aX s=B ((),Q)->dK (H F) (.a 3) (as _ (ah (H F) n) [.i (.a 1) (.a 3) (.b (.c D))]) (G x) [.b (.c X.d),.b (.d 17),.b (.d 18),c8.headD .f,.f,.f] s=B _:=λh=>(rd (x:=[]) A A A h).trans A
 have b3:=(q.6 (.c p) af.noConfusion).trans f.2;have b4:=(m.6 _ af.noConfusion).trans b3;refine ev (Bd (t:=dK (H F) (.a 5) (as _ _ wJ))
  (a:=λi a5 s=>yo X t s i/\∃x,a5=[.b _,.b _,.b _,G 2,.b _,x]) (λi a5 s z=>(z.1.7 _ af.noConfusion af.noConfusion).trans f.5) (λi a5 s r z k=>by
   obtain⟨d,x,rfl⟩:=z;have c6:=cE k;obtain⟨e0,c7,c5⟩:=(f.6 i r k).1
   let P:=[.b (.c X.d),.b (.d 17),.b (.d 18),G 2,.b (.c X.f),X.i i]
   have a3:K (H F) (ah (H F) n) (.c (.a 5) 1) P s=B _:=bF A ((d.7 _ af.noConfusion af.noConfusion).trans c7) (dg c5 A) A;have a2:=qd (d:=.a 1) d.1 lY a3 A A;rw[d.3 _ (b0 i r k)]at a2;have T:=vl (c:=.b (.a (.a 0))) a3 A
   by_cases V:r.a<0
   ·rw[decide_eq_true V]at T;have y:∀x,lv X _ x↔lv X i x:=λx=>⟨λh=>h.imp id λh=>h.imp id λh=>h.imp id λh=>⟨h.1,h.2.elim λv z=>((tU k).mp z.1).elim (λa6=>(ag v a6 z.2)) λc=>by subst c;exact jP [_,_] (.a 1 (.b 0) (.a 0) (.c (-1) (.a 1) (.a 0) (.a 1 (.c (.a 1) (.b 1)) (.b 0) .b))) A h.1 z.2 V⟩,λh=>h.imp id λh=>h.imp id λh=>h.imp id λh=>⟨h.1,h.2.imp λv z=>⟨(tU k).mpr (.inl z.1),z.2⟩⟩⟩
    exact(an P s (show as _ _ wJ P s=B _ from oQ (bS a2) (b' T A) A) ⟨d.1,λx h=>d.2 x ((y x).mp h),λx h=>d.3 x λa8=>h ((y x).mpr a8),d.4,ap [_,_,_] (.a 1 (.a 0) (.c (.c (.a 1) (.b 5)) (.a 2)) .b) (.a 0) (.c (.c (.a 1) (.b 5)) (.c (.a 2) (.b 1))) A d.5,d.6,d.7⟩ ⟨_,A⟩)
   ·rw[decide_eq_false V]at T;obtain⟨Q,v,l⟩:=a0 d.1 (ap [_,_,_,_] (.a 1 (.a 0) (.b 1000) (.a 1 (.a 1) (.b 50) (.a 1 (.c (.a 2) (.b 1)) (.a 1) (.a 1 (.a 3) (.c (.c (.a 0) (.b 5)) (.a 2)) .b)))) (.c (.a 3) (.b 1)) (.b 2000) A w c9 c6 d.5);have y:∀x,lv X _ x↔lv X i x∨x=r.a:=λx=>⟨λh=>h.elim (λc=>.inl (.inl c)) λh=>h.elim (λc=>.inl (.inr (.inl c))) λh=>h.elim (λc=>.inl (.inr (.inr (.inl c)))) λh=>h.2.elim λv z=>((tU k).mp z.1).elim (λa6=>.inl (.inr (.inr (.inr ⟨h.1,(ag v a6 z.2)⟩)))) λc=>.inr (J c z.2.symm),λh=>h.elim (λh=>h.imp id λh=>h.imp id λh=>h.imp id λh=>⟨h.1,h.2.imp λv z=>⟨(tU k).mpr (.inl z.1),z.2⟩⟩) λc=>.inr (.inr (.inr ⟨(aG [_,_] (.a 1 (.b 0) (.a 0) (.c (-1) (.a 1) (.a 0) .b)) (.b 0) (.a 1) A (lm.mp V) c),(ag r ((tU k).mpr (.inr A)) c.symm)⟩))⟩
    exact(an P Q (show as _ _ wJ P s=B _ from oQ (bS a2) (hX T ((rd A A a3 v).trans A) A) A) ⟨l.1,λx h=>((y x).mp h).elim (λh=>(l.4 _ A (o λc=>b0 i r k (C c h))).trans (d.2 x h)) λc=>C c l.3,λx h=>(l.4 _ A (o λc=>h ((y x).mpr (.inr c.symm)))).trans (d.3 x λa8=>h ((y x).mpr (.inl a8))),am (d.4) (eY (cW (l.5))),ap [_,_,_,_] (.a 1 (.a 0) (.c (.c (.a 1) (.b 5)) (.a 2)) (.c 1 (.a 3) (.c (.a 0) (.b 1)) .b)) (.a 3) (.c (.c (.a 1) (.b 5)) (.c (.a 2) (.b 1))) A d.5 (l.5),(l.6 _ (df (by decide))).trans d.6,λj u a4=>(l.6 j u).trans (d.7 j u a4)⟩ ⟨_,A⟩)) _ 0 [.b _,.b _,.b _,G 2,.b _,.f] Y (ie _) ⟨b8,⟨_,A⟩⟩) λe2 d6 d0 a1 d7=>cn d7 λe4 c0=>?_;subst c0
 have L:∀j,Y.b _=t.b (.c j):=λj=>b1 _ af.noConfusion af.noConfusion
 refine(ag d6 (ft A A (k' ((jT (SO (vj (a:=ah (H F) n) c1 A (bB w A)) (vj (a:=ah (H F) n) (s:=b5) (k:=18) c2 A (iS w A))):iC _ _ t=_)) A (js (bF A b2 c3 A) f.2 (jV f.2 A (a9 (c8:=[]) d1) (jV b3 A (a9 (c8:=[G 0]) d2) (jV b4 A (a9 (c8:=[G 1]) d3) (kL ((g.6 _ af.noConfusion).trans b4))))) (js (bF A ((L _).trans b2) c4 A) ((L _).trans f.3) (jV ((L _).trans f.3) A (show as _ _ [.g _ _ wJ] _ Y=B _ from js (bF A ((L _).trans f.4) A A) ((L _).trans f.5) (by rw[ea,jB];exact d0) A) (kL (((λj=>a1.7 _ af.noConfusion af.noConfusion) _).trans f.3))) (YG A a1.6 (cY A)))))) a1)
def vu(p s b):=[(9,W 28),(10,p),(11,.c I),(12,s),(13,b),(14,G 16),(15,aX)]
noncomputable def EU(e):=[(0,W 27),(1,G (-1)),(2,e),(3,G 0),(4,.c I),(5,G 0)]
def wM:List bq:=[.e 2 (vu (.b (.c 4)) (.b (.c 5)) (.b (.c 1))),.a [.b (.c 2)],.e 1 [(6,G 0),(7,.b (.c 6)),(8,.b (.c 3))],.e 0 (EU (.b (.c 7))),.c,.c,.c,.c]
noncomputable def HM:List bq:=[.a [G 0],.d [G 0],.a [],.a [G 0,.b (.c 10),G 0],.a [],.f,.f,.a [G 0]]
noncomputable def Br:List af:=(bv 14).map λi=>.d (16+i)
theorem Ul(n):tN (rj++(Br++(bv 16).map .c)) (ah (gb gd) (n+3) 7 [.b (.c 0)] ⟨fK [] wM,8⟩)=B (.b (.c 15),cZ++(hs 14 .c++(wM++HM)),16):=by kernel_rfl
theorem Fl:∀{f l},jH r f l->(f.all λp=>!(aF p.2))=D->l=f.map λp=>(p.1,Q r p.2):=λ{f}=>by
 induction f with|nil=>exactλh z=>h|cons p f i=>exactλh e=>V e λa b=>aq h λv c h=>by exact C h.1 (C (h.2.1.2 _ (lb (cq a))) (C (i h.2.2 b) A))
inductive pI(X:aU)(t:S U)(p b e a) where
 |mk (h:t.b (.c X.d)=.e 2 (vu (.b (.c p)) (.b (.c X.n)) (.b (.c b))))
  (d:t.b (.c b)=.a [.b (.c X.f)])
  (f:t.b (.c X.f)=.e 1 [(6,G 0),(7,.b (.c X.h)),(8,.b (.c e))])
  (g:t.b (.c e)=.e 0 (EU (.b (.c a))))
  (n:[X.d,b,X.f,e,p,X.n,X.h,a].Nodup)
  (l:∀c∈[X.d,b,X.f,e,p,X.n,X.h,a],c<t.a)
theorem Uo{X}{t}(d:pI X t p b a e)(a3:cD t)(Y:t.a<=90000):
  ∃c,ah (H F) (n+3) 7 [.b (.c X.d)] t=B (.b (.c (t.a+7)),c)/\c.b (.c (t.a+7))=.a [G 0]/\(∀q,q<t.a->c.b (.c q)=t.b (.c q))/\(∀i,i<14->c.b (.d (16+i))=t.b (.d (16+i)))/\c.a=t.a+8/\cD c:=by
 let v:em:=⟨[],[],[],[X.d,b,X.f,a,p,X.n,X.h,e],t.a,0⟩
 have K:gI v:=⟨d.5,d.6⟩
 have P:cM (ai v) gd:=gB ae ae ae ae ae;have z:∀{f},(f.all λj=>!(aF j.2))=D->jH _ f (f.map λj=>(j.1,Q (ai v) j.2)):=λ{f}=>by
  induction f with|nil=>exactλa7=>A|cons j f a1=>exactλg=>V g λu r=>(an _ _ A ⟨(ji j.2).trans (cq u),λw h=>R ((lb (cq u)).symm.trans h)⟩ (a1 r))
 have U:bD _ ⟨fK [] wM,8⟩ t:=qW K P a3 A trivial (an X.d _ A ⟨_,d.1,z A⟩ (an b _ A d.2 (an X.f _ A ⟨_,d.3,z A⟩ (an a _ A ⟨_,d.4,z A⟩ (an p _ A A (an X.n _ A A (an X.h _ A A (an e _ A A A))))))));refine gf (xk (Ul n)) λa4 u r S=>?_
 refine bJ (jR (gF K P) _ 7 _ _ _ U _ _ u) λc W m=>?_
 have o:∀i s,Z _ i=B s->i<16->bR _ _ _ s (c.b _):=λi s g h=>J ((λi s g h=>kf r (gA.trans (gA.trans (zF h))) (gA.trans (gA.trans g))) i s g h) (m.1 _)
 refine(nI c W (o 15 _ A (by decide)) (λq E=>?_) (λi k=>by
  have w:=m.1 (.d (16+i));rw[show(dh gd v t.b).a.a a4.b _=.c from(kf r ((gA).trans (gQ (by exact C dC (C (jA) (C (rD k) A))))) ((gA).trans (gQ (C dC (C (Ln) (C (if_pos k) A))))))]at w
  exact w) (nj m S) (wZ m (aP (am (ct (nj m S)) (aQ Y 8)) A) (λi k=>kf r (gQ (nu k).1) (gQ (nu k).2)) (gF K P)))
 have a2:∀l,l<8->c.b ((ai v).b _)=t.b ((ai v).b (.c l)):=λl x=>by
  have y:∀{i L f},Z (wM++HM) i=B (.e L f)->i<16->(f.all _)=D->c.b ((ai v).b _)=.e L (f.map λj=>(j.1,Q (ai v) j.2)):=λh k E=>(o _ _ h k).elim λa6 T=>T.1.trans (O _ (Fl T.2 E))
  match l,x with|0,_=>exact(y A (by decide) A).trans d.1.symm|1,_=>exact(o 1 _ A (by decide)).trans d.2.symm|2,_=>exact(y A (by decide) A).trans d.3.symm|3,_=>exact(y A (by decide) A).trans d.4.symm|4,_=>exact o 4 _ A (by decide)|5,_=>exact o 5 _ A (by decide)|6,_=>exact o 6 _ A (by decide)|7,_=>exact o 7 _ A (by decide)|_+8,h=>exact pQ [_] (.a 1 (.c (.c (.a 0) (.b 8)) (.b 1)) (.b 8) .b) A h
 by_cases h:q∈v.h
 ·refine cn (P4 h) λl x=>?_
  have g:(ai v).b (.c l)=.c q:=by show af.c _=_;exact C dC (C x A)
  have w:=a2 l ((xY.mp x).1);rw[g]at w;exact w
 ·exact vw m E λa5 a0 g=>h (C g a0)
def hZ(H:Int->Option Int)(r:bY):=bif M r.b 3 then B (rx r.f)else bif M r.b 5 then H (rx ((Y (Z r.c 0) (dP 1)).getD .f))else N
def gN(H:Int->Option Int)(r):=λx=>bif decide (x=r.a)then dc (H x) (λi=>B i) (hZ H r)else H x
def bK(r:List bY):=r.foldl gN λz=>N
inductive jM(r:bY) where
 |mk (k:(r.b=3/\(∃i,0<=i/\r.f=G i)/\r.c=[]/\0<=r.a)∨(r.b=5/\(∃x c,r.c=[aD (G x),dq (G c)])/\0<=r.a)∨(r.b∈[4,8,9,10,25]/\∃a:List Int,r.c=a.map λx=>aD (G x)))
section
variable{a:Nat->List E->S U->av U E}{l:aC}{s:S U}{b d:aJ}{e:List aJ}{v:E}{c:List E}
theorem lE{i j}(f:ar j 1000=D)(h:K (H F) a b l s=B (W i,s)):K (H F) a (.e .a b (.b (.e j))) l s=B (.c (M i j),s):=by
 have k:cr (.e j) l s=B (W j,s):=by show aI (ar j 1000) _=_;refine C f ?_;rfl
 refine(ab h (ab k (au (Bn i j) ?_)):ei (H F) .a _ _ l s=_);cases M i j<;>rfl
theorem uK(h:K (H F) a b l s=B (.c I,s)):bc (H F) (K (H F) a (.l (b::d::e))) l s=B (I,s):=
 (ab (ab h (ab A A)) A:aB (gS _ _ (K _ a (.l (d::e))) l s) _=_)
theorem uL(h:K (H F) a b l s=B (.c D,s))(k:bc (H F) (K (H F) a (.l (d::e))) l s=q):bc (H F) (K (H F) a (.l (b::d::e))) l s=q:=by
 have f:gS (H F) _ _ l s=K (H F) a (.l (d::e)) l s:=ab h (ab A A);show aB (gS _ _ _ l s) _=q
 exact C f k
theorem gv(h:K (H F) a b l s=B (.d c,s))(g:ar c.length 100000=D)(f:Z c i=B v)(j:aF v=I):K (H F) a (.f b (.b (.a (.a i)))) l s=B (v,s):=by
 refine(ab h (ab A ?_):gV _ _ (cr (G i)) l s=_);show aI _ (hf (Z c i) s)=_
 refine C g (C f ?_);show hf _ s=_
 exact au A (C j A)
theorem vn(f:K (H F) a b l s=B (.b r,s))(h:s.b r=.a c)(g:Z c i=B v)(j:aF v=I):K (H F) a (.f b (.b (.a (.a i)))) l s=B (v,s):=ol f A h g j
end
theorem B1{s}(b:bm s p q (W r.b) (G r.a) r.f (.c r.d) r.c)(E:jM r)(w:bE s.a 1 (s.b (.d 20)))(z:∀x,L s 20 (G x)=(a x).map G):ah (H F) (n+1) 13 [.b (.c p),.b (.d 20)] s=B (G ((hZ a r).getD (-1)),s):=by
 refine bJ b.1 λJ j i=>?_
 have e:∀{t},Z t 0=B _->K (H F) (ah (H F) n) (.c (.a 0) 0) t s=B _:=λh=>bF (nF h A) j (dg i A) A
 have e:=e (t:=[.b _,.b (.d 20)]) A;have c:=bS (lE (j:=3) A e);have f:=lE (j:=6) A e;have d:=lE (j:=5) A e;unfold hZ;rcases E.1 with⟨h,⟨Q,P,o⟩,g,y⟩|⟨h,⟨x,k,g⟩,y⟩|⟨h,S,g⟩
 ·rw[h]at c⊢;exact C o (ft (d:=Fc) A A (fz c (cY (bF A j ((dg i A).trans (O B o)) A))))
 ·rw[h]at c f d⊢;rw[g]at b⊢;have u:K (H F) (ah (H F) n) (.c (.a 0) 2) [.b _,.b (.d 20)] s=B _:=bF A j (dg i A) A;have v:=vn u b.2 (i:=0) A A;have m:=zf (e:=.a 1) (d:=.p (.b (.a (.a 1)))) (g:=G (-1)) w lY A (gv v A (i:=1) A A) A;rw[z]at m;refine ft A A (b' c (b' (uK f) (fz (uL d (uL (lE (j:=1) A (gv v A (i:=0) A A)) (bS (lE (j:=0) A (gv (vn u b.2 (i:=1) A A) A (i:=0) A A))))) (cY (m.trans ?_)))));show B _=B (G ((a x).getD (-1)),s)
  cases a x<;>rfl
 ·have l:=(by decide:∀k∈[4,8,9,10,25],Nat.beq k 3=false/\Nat.beq k 5=false/\Nat.beq k 6=false) r.b h;rw[l.1]at c⊢;rw[l.2.2]at f;rw[l.2.1]at d⊢;exact ft A A (b' c (b' (uK f) (b' (uK d) (cY A))))
theorem ZU:∀{l}{i},Z l i=B r->l.take (i+1)=l.take i++[r]:=λ{l}=>by
 induction l with
 |nil=>exactλh=>X h
 |cons x l a=>intro i h;cases i with|zero=>exact O (· ::[]) (R h)|succ i=>exact O _ (a h)
theorem vA{X:aU}(h:Z X.a i=B r):bK (X.a.take (i+1))=gN (bK (X.a.take i)) r:=by unfold bK;exact C (ZU h) (C P2 A)
inductive uz(X:aU)(u s:S U)(i) where
 |mk (o:bE s.a 1 (s.b (.d 20)))
  (b:∀x,L s 20 (G x)=(bK (X.a.take i) x).map G)
  (n:∀x k,bK (X.a.take i) x=B k->0<=k)
  (l:u.a<=s.a)
  (h:s.a<=u.a+i)
  (f:∀a,a≠ .d 20->s.b a=u.b a)
noncomputable def vC:List de:=[.a (.e .b (.c (.a 4) 1) (.a 1)) [.c 5 (.k 13 [.a 4,.a 2]),.a (.e .g (.a 5) (.b (.a (.a 0)))) [.i (.a 2) (.c (.a 4) 1) (.a 5)] []] []]
section
variable{a:aU}{u:S U}{n:Nat}
theorem QN{r}(a1:bm u (a.c i) (a.g i) (W r.b) (G r.a) r.f (.c r.d) r.c)(t:jM r)(h:Z a.a i=B r)(b:uz a u s i)(a6:u.a<=2000)(a7:a.a.length<=50)(a2:bE u.a 1 (u.b (.d 17)))(b0:0<=r.a->L u 17 (G r.a)=B aX)(a9:r.a<0->L u 17 (G r.a)=N):
  ∃a0 m,dK (H F) (.a 4) (as (H F) (ah (H F) (n+1)) vC) (a.i i) [.b (.c a.d),.b (.d 17),.b (.d 20),G 0,y,z] s=B ((.a,a0),m)/\uz a u m (i+1)/\∃y z,a0=[.b (.c a.d),.b (.d 17),.b (.d 20),G 0,y,z]:=by
 have p:=cE h;refine bJ a1.1 λa4 T Q=>?_
 let l:=[.b (.c a.d),.b (.d 17),.b (.d 20),G 0,a.i i,z]
 have w:∀{z},K (H F) (ah (H F) (n+1)) (.c (.a 4) 1) [.b (.c a.d),.b (.d 17),.b (.d 20),G 0,a.i i,z] s=B _:=bF A ((b.6 _ af.noConfusion).trans T) (dg Q A) A;have a8:L s 17 _=L u 17 _:=O (cN · (G r.a)) (b.6 _ (df (by decide)));have d:=qd (d:=.a 1) (l:=l) ((b.6 _ (df (by decide))).symm.subst (a2.c b.4)) lY w A A;rw[a8]at d;have Y:hZ _ r=N->uz a u s (i+1):=λb2=>by
  have e:gN (bK (a.a.take i)) r=bK _:=funext λx=>by unfold gN;refine C b2 ?_;cases decide (x=r.a)<;>rfl
  exact⟨b.1,λx=>by exact C (vA h) (C e (b.2 x)),λx k=>by exact C (vA h) (C e (b.3 x k)),b.4,ap [_,_,_] (.a 1 (.a 0) (.c (.a 1) (.a 2)) .b) (.a 0) (.c (.a 1) (.c (.a 2) (.b 1))) A b.5,b.6⟩
 by_cases j:r.a<0
 ·rw[a9 j]at d;exact(an l s (show as _ _ vC l s=B _ from b' (bS d) A) (Y (by
   rcases t.1 with⟨_,_,_,o⟩|⟨_,_,o⟩|⟨h,_⟩
   ·exact jP [_] (.a 1 (.c (.a 0) (.b 1)) (.b 0) (.a 1 (.b 0) (.a 0) .b)) rfl j o
   ·exact jP [_] (.a 1 (.c (.a 0) (.b 1)) (.b 0) (.a 1 (.b 0) (.a 0) .b)) rfl j o
   ·have g:=(by decide:∀k∈[4,8,9,10,25],Nat.beq k 3=false/\Nat.beq k 5=false) r.b h;unfold hZ
    refine C g.1 (C g.2 ?_);rfl)) (dQ _ _ A))
 ·rw[b0 (aG [_] (.a 1 (.b 0) (.a 0) .b) (.b 0) (.a 0) A (lm.mp j))]at d;have E:K (H F) (ah (H F) (n+1)) (.k 13 [.a 4,.a 2]) l s=B _:=(ab (bV A (bV A A)) (B1 (n:=n) ⟨(ag a4 ((b.6 _ af.noConfusion).trans T) Q),(b.6 _ af.noConfusion).trans a1.2⟩ t b.1 b.2):gg _ 13 [ca 4,ca 2] l s=_)
  let f:=[.b (.c a.d),.b (.d 17),.b (.d 20),G 0,a.i i,G ((hZ (bK (a.a.take i)) r).getD (-1))]
  have c:=vl (a:=ah (H F) (n+1)) (b:=.a 5) (c:=.b (.a (.a 0))) (l:=f) (s:=s) A A;cases q:hZ _ r with
  |none=>rw[q]at c;exact(an f s (show as _ _ vC l s=B _ from hX (c:=f) (bS d) (dJ E A (b' c A)) A) (Y q) (dQ _ _ A))
  |some k=>
   have V:0<=k:=by
    unfold hZ at q;rcases t.1 with⟨h,⟨i,p,a5⟩,_⟩|⟨h,_⟩|⟨h,_⟩
    ·rw[h,a5]at q;exact J (R q) p
    ·rw[h]at q;exact b.3 _ _ q
    ·have g:=(by decide:∀k∈[4,8,9,10,25],Nat.beq k 3=false/\Nat.beq k 5=false) r.b h;rw[g.1,g.2]at q;exact X q
   rw[q]at c;have c:bc _ _ f s=B (!(decide (k<0)),s):=c;rw[decide_eq_false (lm.mpr V)]at c;refine bJ (Bo (k:=G r.a) (v:=G ((hZ (bK (a.a.take i)) r).getD (-1))) b.1 lY A A (ap [_,_,_,_] (.a 1 (.a 0) (.b 2000) (.a 1 (.a 1) (.b 50) (.a 1 (.c (.a 2) (.b 1)) (.a 1) (.a 1 (.a 3) (.c (.a 0) (.a 2)) .b)))) (.c (.a 3) (.b 1)) (.b 99999) A a6 a7 p b.5)) λm b1 S=>?_
   refine(an f m (show as _ _ vC l s=B _ from hX (bS d) (dJ E A (hX c ((rd A A w b1).trans A) A)) A) ⟨S.1,λx=>?_,λx U=>?_,am (b.4) (eY (cW (S.5))),ap [_,_,_,_] (.a 1 (.a 0) (.c (.a 1) (.a 2)) (.c 1 (.a 3) (.c (.a 0) (.b 1)) .b)) (.a 3) (.c (.a 1) (.c (.a 2) (.b 1))) A b.5 (S.5),λv P=>(S.6 v P).trans (b.6 v P)⟩ (dQ _ _ A))
   ·refine C (vA h) ?_;unfold gN
    by_cases e:x=r.a
    ·exact C (decide_eq_true e) (C q (C e (S.3.trans (O B (by exact C q A)))))
    ·exact C (decide_eq_false e) ((S.4 _ A λa3=>e (dx a3).symm).trans (b.2 x))
   ·refine C (vA h) ?_;unfold gN
    by_cases e:x=r.a
    ·exact C (decide_eq_true e) (C q (λe=>J ((R e:k=U)) V))
    ·exact C (decide_eq_false e) (b.3 x U)
theorem QO{t}(d:pI a t p b c e)(c0:t.b (.c a.h)=.a ((bv a.a.length).map a.i))(a1:∀m r,Z a.a m=B r->bm t (a.c m) (a.g m) (W r.b) (G r.a) r.f (.c r.d) r.c)(b3:∀m,m<a.a.length->a.c m<t.a/\a.g m<t.a)(b6:∀r∈a.a,jM r)(r:cD t)(q:t.a<=1000)(Y:a.a.length<=50)(a7:t.b (.d 20)=.f)(a5:bE t.a 1 (t.b (.d 17)))(b7:∀r∈a.a,0<=r.a->L t 17 (G r.a)=B aX)(b5:∀x,x<0->L t 17 (G x)=N):
  ∃j,ah (H F) (n+4) 14 [.b (.c a.d),.b (.d 17)] t=B (.b (.d 20),j)/\bE j.a 1 (j.b (.d 20))/\(∀x,L j 20 (G x)=(bK a.a x).map G)/\cD j/\t.a<=j.a/\j.a<=t.a+10+a.a.length/\(∀g,g<t.a->j.b (.c g)=t.b (.c g))/\∀i,i<14->i≠4->j.b (.d (16+i))=t.b (.d (16+i)):=by
 let a2:S U:=⟨aZ.d t.b (.d 20) (.b [] 0),t.a+1⟩
 have a4:pI a a2 p b c e:=⟨d.1,d.2,d.3,d.4,d.5,λg s=>eb (d.6 g s)⟩
 refine KC (Uo (n:=n) a4 ⟨by exact gJ q A,λs h=>r.2 s (pw h),λi k=>(ba (df (bw (aP k A)))).trans (r.3 i k)⟩ (gJ q A)) λu b8 E a8 w v T=>?_
 have l:∀g,g<t.a->u.b _=t.b _:=λg h=>a8 g (eb h)
 have a3:u.b (.d 20)=.b [] 0:=w 4 (by decide);have a0:=(l _ (d.6 a.h (by simp))).trans c0;refine ev (Bd (t:=dK _ _ (as _ (ah _ (n+3)) _)) (a:=λi C K=>uz a u K i/\∃P z,C=[.b _,.b _,.b _,G 0,P,z]) (λi C K z=>(z.1.6 _ af.noConfusion).trans a0) (λi C K r z o=>by
  obtain⟨f,P,z,rfl⟩:=z;have V:=b3 i (cE o)
  exact QN ⟨(a1 i r o).1.imp λC z=>⟨(l _ V.1).trans z.1,z.2⟩,(l _ V.2).trans (a1 i r o).2⟩ (b6 r (dX o)) o f (aP (am (ct v) (aQ q 9)) A) Y ((w 1 (by decide)).symm.subst (a5.c (ap [_,_] (.c (-1) (.a 0) (.c (.c (.a 1) (.b 1)) (.b 8)) .b) (.a 1) (.a 0) A v))) (λh=>(O (cN · _) (w 1 (by decide))).trans (b7 r (dX o) h)) λh=>(O (cN · _) (w 1 (by decide))).trans (b5 r.a h)) _ 0 [.b _,.b _,.b _,G 0,.f,.f] u (ie _) ⟨(⟨a3.symm.subst ⟨(an [] 0 A ae (ek _)),λQ Q y=>J (aW (O dy y)) A⟩,λx=>O (cN · _) a3,λx c3 h=>X h,bd _,bd _,λQ Q=>A⟩),(dQ _ _ A)⟩) λc4 b9 b4 f c1=>aq c1 λP z a6=>?_;subst a6
 have k:=f.5;have b2:=
  (show as _ _ [.g _ _ _] _ u=B _ from
   js (bF (w:=7) (ol (t:=.a 3) (bF (w:=13) (e:=.a 0) A ((l _ (d.6 a.d (.head _))).trans d.1) A A) A ((l _ (d.6 b (.tail _ (.head _)))).trans d.2) A A) ((l _ (d.6 a.f (.tail _ (.tail _ (.head _))))).trans d.3) A A) a0 (by rw[ea,jB];exact b4) A)
 refine(Cj b9 (ft A A (dJ (i:=[.b _,.b _,.b _,.f,.f,.f]) (vj a7 A (bB q A)) A (js ((ab (bV A A) b8:gg _ 7 [ca 0] [.b _,.b (.d 17),.b (.d 20),.f,.f,.f] a2=_)) E (jV E A b2 (kL ((f.6 _ af.noConfusion).trans E))) (cY A)))) f.1 ?_ ?_ (ap [_,_,_] (.c (-1) (.a 0) (.c (.c (.a 1) (.b 1)) (.b 8)) (.a 1 (.a 0) (.a 2) .b)) (.a 1) (.a 2) A v f.4) (ap [_,_,_,_] (.c 1 (.a 0) (.c (.c (.a 1) (.b 1)) (.b 8)) (.a 1 (.a 2) (.c (.a 0) (.a 3)) .b)) (.a 2) (.c (.c (.a 1) (.b 10)) (.a 3)) A v k) (λg b0=>(f.6 _ af.noConfusion).trans (l g b0)) (λi a9 c2=>(f.6 _ (df (by omega))).trans ((w i a9).trans (ba (df (by omega))))))
 ·have y:=f.2;rw[up]at y;exact y
 ·exact⟨ap [_,_,_,_] (.a 1 (.a 0) (.b 1000) (.a 1 (.a 1) (.b 50) (.c 1 (.a 2) (.c (.c (.a 0) (.b 1)) (.b 8)) (.a 1 (.a 3) (.c (.a 2) (.a 1)) .b)))) (.a 3) (.b _) A q Y v k,λs b1=>(f.6 _ af.noConfusion).trans (T.2 s (am f.4 b1)),λi k=>(f.6 _ (df (bw (aP k A)))).trans (T.3 i k)⟩
end
def rY(H:Int->Option Int)(v):=(∃c,v=dq (G c))∨∃x,v=aD (G x)/\H x=N
inductive jJ(H:Int->Option Int)(k)(s) where
 |mk (o:bE s.a 1 (s.b (.d 20)))
  (i:∀x,L s 20 (G x)=(H x).map G)
  (p:∃e,s.b (.d 19)=.b (fy k) e)
def zE(H:Int->Option Int)(v:E):Bool:=dc I (λi=>M i 1&&(H (rx ((dP 1 v).getD .f))).isSome) (iw v)
noncomputable def zD:List de:=[.a (.l [.e .a (.f (.a 3) (.b (.a (.a 0)))) (.b (.e 1)),.e .b (.f (.a 3) (.b (.a (.a 1)))) (.a 1)]) [.d (.h (.a 2) 1 [.f (.a 1) (.f (.a 3) (.b (.a (.a 1)))),.b .g])] []]
section
variable{a:Int->Option Int}{k n:Nat}{s:S U}{b:Nat}{x:Int}
theorem FE(h:jJ a k s)(f:(∃d,v=dq (G d))∨∃x,v=aD (G x)):bc (H F) (K (H F) c (.l [.e .a (.f (.a 3) (.b (.a (.a 0)))) (.b (.e 1)),.e .b (.f (.a 3) (.b (.a (.a 1)))) (.a 1)])) [.b (.c b),.b (.d 20),.b (.d 19),v] s=B (zE a v,s):=by
 rcases f with⟨d,rfl⟩|⟨x,rfl⟩
 ·exact uK (lE (i:=0) A (gv A A A A))
 ·have e:=qd (a:=c) (b:=.f (.a 3) (.b (.a (.a 1)))) (d:=.a 1) (l:=[.b (.c b),.b _,.b (.d 19),aD (G x)]) h.1 lY (gv A A A A) A A;rw[h.2]at e;refine(uL (lE (i:=1) A (gv A A A A)) (bS e)).trans ?_;show B _=B ((a x).isSome,s)
  cases a x<;>rfl
theorem FF(m:jJ a k s)(g:s.b (.c b)=.a v)(h:∀c∈v,rY a c):ah (H F) (n+1) 15 [.b (.c b),.b (.d 20),.b (.d 19)] s=B (.g,s):=by
 have l:∀r p x,p++r=v->∃d,ed _ _ (dK (H F) (.a 3) (as (H F) (ah (H F) n) zD)) (r.length+1) p.length [.b (.c b),.b _,.b _,x] s=B ((.a,[.b _,.b (.d 20),.b (.d 19),d]),s):=λr=>by
  induction r with
  |nil=>intro p x e;rw[ln]at e;exact⟨x,kL (C e g)⟩
  |cons c r q=>
   intro p x e;refine cn (q (p++[c]) c (by rw[kp];exact e)) λd i=>?_
   have h:=h c (J e (iH _ bn));refine⟨d,Fo (C g (C e A)) ?_ i⟩;have f:=FE (c:=ah (H F) n) (b:=b) m (h.imp id λz=>z.imp λx z=>z.1);have j:zE a c=I:=by
    rcases h with⟨f,rfl⟩|⟨x,rfl,o⟩
    ·rfl
    ·show(D&&(a x).isSome)=I
     exact C o A
   rw[j]at f;exact(show as _ _ zD _ s=B _ from b' f A)
 exact cn (l v [] .f A) λd i=>(jS (d:=Fb) A A (js (f:=.c b) (e:=.a 0) (y:=[]) (l:=[.b (.c b),.b (.d 20),.b (.d 19),.f]) A g i A))
theorem QC{j:Nat}(h:jJ a 0 s)(l:s.b (.c b)=.a [aD (G x)])(o:a x=B j)(t:j<2)(u:s.a<100000):∃c,ah (H F) (n+1) 15 [.b (.c b),.b (.d 20),.b (.d 19)] s=B (.g,c)/\(∃e,c.b (.d 19)=.b (fy (j+1)) e)/\c.a=s.a+1/\∀d,d≠ .d 19->c.b d=s.b d:=by
 refine cn h.3 λe i=>?_
 have f:=FE (c:=ah (H F) n) (b:=b) h (.inr ⟨x,A⟩);have g:zE a (aD (G x))=D:=by
  show(D&&(a x).isSome)=D
  exact C o A
 rw[g]at f
 let m:=[.b (.c b),.b (.d 20),.b (.d 19),aD (G x)]
 let c:S U:=⟨aZ.d s.b (.d 19) (.b (fy (j+1)) (e+1)),s.a+1⟩
 have w:∀{Q:Nat->Prop},Q 0->Q 1->Q j:=λp q=>T p (T q ae) j (mc t)
 have v:K (H F) (ah (H F) n) (.h (.a 2) 1 [.f (.a 1) (.f (.a 3) (.b (.a (.a 1)))),.b .g]) m s=B (aX,c):=by
  refine wt (c:=[K _ _ _,cr _]) (e:=ca 2) A ?_ (bV (vk (a:=ah (H F) n) (b:=.a 1) (d:=.f (.a 3) (.b (.a (.a 1)))) (l:=m) h.1 lY A (gv A A A A) ((h.2 x).trans (by exact C o A))) (bV A A)) ?_
  ·show(match s.b _ with
    |.e f _=>Y _ λg=>B (B g)
    |.f=>.none
    |.c=>.none
    |_=>B _)=_
   exact C i A
  ·unfold lR kU;exact C (show(H F).a s.b _=.b _ e from i) (C i ((w (Q:=λj=>qC (H F) D _ (fy 0) e [G j,.g] s=kj _ (.d 19) (.b (fy (j+1)) _) aX s) A A).trans (BS A u)))
 exact(fQ c (jS A A (js (l:=[.b _,.b _,.b _,.f]) A l (jV l A (show as _ _ zD m s=B _ from hX f (fd v A) A) (kL (p:=[aD _]) ((ba (a:=.d 19) (o:=.b (fy (j+1)) (e+1)) af.noConfusion).trans l))) A)) ⟨e+1,A⟩ A (λd r=>ba r))
end
noncomputable def gM(H:Int->Option Int)(r:bY):=bif M r.b 8||M r.b 9 then r.c.drop 1 else bif M r.b 10 then r.c.drop 2 else bif M r.b 3 then[]else bif(H r.a).isSome then[]else r.c
noncomputable def qU:List de:=[.a (.e .b (.c (.a 6) 0) (.j 5)) [.d (.k 15 [.n (.c (.a 6) 2) (.f (.j 5) (.c (.a 6) 0)) (.b .g),.a 4,.a 2])] [.a (.e .a (.c (.a 6) 0) (.b (.e 3))) [.a (.e .f (.c (.a 6) 1) (.a 1)) [.d (.h (.a 2) 1 [.c (.a 6) 3,.b .g])] []] [.a (.e .f (.c (.a 6) 1) (.a 4)) [.d (.k 15 [.c (.a 6) 2,.a 4,.a 2])] []]]]
inductive LY(H)(k)(a s:S U) where
 |mk (c:jJ H k s)
  (l:a.a<=s.a)
  (h:s.a<=a.a+1)
  (f:∀b,b≠ .d 19->s.b b=a.b b)
section
variable{a:Nat->List E->S U->av U E}{l:aC}{s:S U}{c d e:aJ}{b:E}{v:List E}{r q:af}
theorem vm(f:K (H F) a c l s=B (b,s))(g:K (H F) a d l s=B (.b r,s))(h:jc (H F) b (s.b r)=B x):K (H F) a (.e .b c d) l s=B (.c x,s):=
 (ab f (ab g (au h (by cases x<;>rfl))):ei (H F) .b _ _ l s=_)
theorem nd{i:aA U E}(j:i l s=B (b,g))(k:bs f l g=B (v,h)):bs (i::f) l s=B (b::v,h):=(ab j (ab k A):aB _ (λb s=>aB (bs f l s) λv s=>B (b::v,s))=_)
theorem OP{n:Nat}(f:K (H F) a c l s=B (.b q,s))(g:K (H F) a d l s=B (G n,s))(h:s.b q=.a v)(k:v.length<1000)(i:s.b (.c s.a)=.f)(j:s.a<100000):K (H F) a (.n c d (.b .g)) l s=B (.b (.c s.a),⟨aZ.d s.b (.c s.a) (.a (v.drop n)),s.a+1⟩):=(ab f (ab g (ab A (au (au A (show ce (s.b q)=_ by exact C h A)) (au A (au A (C up (qI (by refine C xZ ?_;omega) i j))))))):kn _ _ _ (cr _) l s=_)
end
section
variable{b:aU}{a:Int->Option Int}{k c n:Nat}{s:S U}{r:bY}{p q:Nat}{y:E}
theorem UJ(a3:bm s p q (W r.b) (G r.a) r.f (.c r.d) r.c)(c0:jM r)(h:jJ a k s)(a8:s.a<=2000)(E:s.b (.c s.a)=.f)(c3:s.b (.d 2)=fA (.d 2))(b4:bE s.a 1 (s.b (.d 17)))(d2:0<=r.a->L s 17 (G r.a)=B aX)(d0:r.c.length<1000)
  (b3:∀o e,jJ a k o->o.b (.c e)=.a (gM a r)->o.a<=3000->∃d,ah (H F) (n+1) 15 [.b (.c e),.b (.d 20),.b (.d 19)] o=B (.g,d)/\LY a c o d) (c9:gM a r=[]->k=c):
  ∃d,as (H F) (ah (H F) (n+1)) qU [.b (.c b.d),.b (.d 17),.b (.d 19),y,.b (.d 20),.b (.c b.f),.b (.c p)] s=B ((.a,[.b (.c b.d),.b (.d 17),.b (.d 19),y,.b (.d 20),.b (.c b.f),.b (.c p)]),d)/\jJ a c d/\s.a<=d.a/\d.a<=s.a+2/\(∀e,e<s.a->d.b (.c e)=s.b (.c e))/\(∀i,i≠19->d.b (.d i)=s.b (.d i))/\∀m,d.a<=m->s.b (.c m)=.f->d.b (.c m)=.f:=by
 refine bJ a3.1 λd3 a9 a7=>?_
 let l:=[.b (.c b.d),.b (.d 17),.b (.d 19),y,.b (.d 20),.b (.c b.f),.b (.c p)]
 have a5:K (H F) (ah (H F) (n+1)) _ l s=B _:=bF (w:=0) (e:=.a 6) A a9 (dg a7 A) A;have b5:K (H F) (ah (H F) (n+1)) _ l s=B _:=bF (w:=1) (e:=.a 6) A a9 (dg a7 A) A;have b6:K (H F) (ah (H F) (n+1)) _ l s=B _:=bF (e:=.a 6) A a9 (dg (k:=2) a7 A) A;have b7:K (H F) (ah (H F) (n+1)) (.j 5) l s=B (.b _,s):=A;have a1:∀{b2},jc _ _ _=B b2->bc _ _ l s=B (b2,s):=λ{b2} u=>bS (vm a5 b7 (c3▸u))
 have a4:∀{m},jc _ _ _=B D->lI _ _ _ s=B _->gM a r=r.c.drop m->∃d,as _ _ qU l s=B _/\jJ a c d/\s.a<=d.a/\d.a<=s.a+2/\(∀e,e<s.a->d.b _=s.b _)/\(∀i,i≠19->d.b _=s.b _)/\∀m,d.a<=m->s.b _=.f->d.b _=.f:=λ{m} a0 c8 c7=>by
  have d1:K (H F) (ah (H F) (n+1)) (.f (.j 5) (.c (.a 6) 0)) l s=B _:=(ab b7 (ab a5 (show lI _ (s.b _) _ s=_ from C c3 c8)):gV (H F) _ _ l s=_)
  let o:S U:=⟨aZ.d s.b (.c s.a) (.a (r.c.drop m)),s.a+1⟩
  refine bJ (b3 o s.a ⟨h.1.c (gk _),h.2,h.3⟩ (C c7 cj) (gJ a8 A)) λd P g=>?_
  have a2:=g.2;have j:=g.3;exact(xH d (hX (a1 a0) (fd (ab (nd (OP b6 d1 a3.2 d0 E (bB a8 A)) (bV A (bV A A))) P:gg _ 15 [K _ _ _,ca 4,ca 2] l s=_) A) A) g.1 (eY a2) j (λe b8=>(g.4 _ af.noConfusion).trans (ba (cy (bw b8)))) (λi j=>(g.4 _ (df j)).trans A) (λm b9 E=>(g.4 _ af.noConfusion).trans ((ba (cy (cC (am a2 b9)))).trans E)))
 have c2:gM a r=[]->as _ _ _ l s=B ((.a,l),s)->∃d,as (H F) (ah (H F) (n+1)) qU l s=B _/\jJ a c d/\s.a<=d.a/\d.a<=s.a+2/\(∀e,e<s.a->d.b (.c e)=s.b (.c e))/\(∀i,i≠19->d.b (.d i)=s.b (.d i))/\∀m,d.a<=m->s.b (.c m)=.f->d.b (.c m)=.f:=λu P=>(xH s P ((λu=>J (c9 u) h) u) (bd _) (bX _ _) (λz z=>A) (λz z=>A) (λz z h=>h))
 have t:=bS (lE (j:=3) A a5)
 by_cases w:r.b=8
 ·refine a4 (m:=1) (by exact C w A) (by exact C w A) (by unfold gM;refine C w ?_;rfl)
 by_cases x:r.b=9
 ·refine a4 (m:=1) (by exact C x A) (by exact C x A) (by unfold gM;refine C x ?_;rfl)
 by_cases v:r.b=10
 ·refine a4 (m:=2) (by exact C v A) (by exact C v A) (by unfold gM;refine C v ?_;rfl)
 by_cases f:r.b=3
 ·have c4:0<=r.a:=by
   rcases c0.1 with⟨_,_,_,c6⟩|⟨h,_⟩|⟨h,_⟩
   ·exact c6
   ·rw[f]at h;exact absurd h (by decide)
   ·rw[f]at h;exact absurd h (by decide)
  rw[f]at t;exact c2 (by unfold gM;refine C f ?_;rfl) (oQ (a1 (by exact C f rfl)) (hX t (b' (bS (zk b5 rfl (by
   refine mf b4.1 λa6 c5 V z=>?_
   have Q:=sA (k:=G r.a) b4 V lY;rw[show cN _ _=B aX from d2 c4]at Q;exact C V (aY Q λb0 b1=>by
    show aI _ (Y (ch F _ a6) _)=_
    exact C b0 (au b1 A))))) A) A) A)
 ·have a0:jc (H F) (W r.b) (fA (.d 2))=B I:=by
   rcases c0.1 with⟨h,_⟩|⟨h,_⟩|⟨h,_⟩
   ·exact absurd h f
   ·exact C h rfl
   ·exact(T (λz z z=>A) (T (λh z z=>ak A h) (T (λz h z=>ak A h) (T (λz z h=>ak A h) (T (λz z z=>A) ae)))):∀k∈[4,8,9,10,25],k≠8->k≠9->k≠10->jc _ _ _=B _) r.b h w x v
  rw[kD f]at t;have X:K _ _ (.e .f _ (.a 4)) l s=B (.c (xor D (a r.a).isSome),s):=zk b5 A (by
   refine mf h.1.1 λa6 c5 V z=>?_
   have Q:=sA (k:=G r.a) h.1 V lY;rw[show cN _ _=(a r.a).map G from h.2 r.a]at Q;exact C V (aY Q λb0 b1=>by
    show aI _ (Y (ch F _ a6) _)=_
    refine C b0 ?_;refine au b1 ?_;cases a r.a<;>rfl))
  have Z:gM a r=bif(a r.a).isSome then[]else r.c:=by unfold gM;refine C (kD w) (C (kD x) (C (kD v) (C (kD f) ?_)));rfl
  cases c1:(a r.a).isSome with
  |true=>rw[c1]at X Z;exact c2 Z (oQ (a1 a0) (oQ t (b' (bS X) A) A) A)
  |false=>
   rw[c1]at X Z;refine bJ (b3 s q h (C Z a3.2) (aP a8 A)) λd P g=>?_
   have a2:=g.2;have j:=g.3;exact(xH d (oQ (a1 a0) (oQ t (hX (bS X) (fd (ab (bV b6 (bV A (bV A A))) P:gg _ 15 [K _ _ _,ca 4,ca 2] l s=_) A) A) A) A) g.1 a2 (am j (uN A)) (λe b8=>g.4 _ af.noConfusion) (λi j=>g.4 _ (df j)) (λm b9 E=>(g.4 _ af.noConfusion).trans E))
end
noncomputable def jY(X:aU)(i:Nat):=bif M i X.a.length then X.b else 0
def yr(X:aU):=∀i r,Z X.a i=B r->((∀v∈gM (bK X.a) r,rY (bK X.a) v)/\(i+1=X.a.length->X.b=0))∨(i+1=X.a.length/\∃(x:Int)(j:Nat),gM (bK X.a) r=[aD (G x)]/\bK X.a x=B (j:Int)/\j<2/\X.b=j+1)
inductive Dq(X)(u s:S U)(i) where
 |mk (d:jJ (bK X.a) (jY X i) s)
  (l:u.a<=s.a)
  (h:s.a<=u.a+2*i)
  (b:∀a,a<u.a->s.b (.c a)=u.b (.c a))
  (c:∀i,i≠19->s.b (.d i)=u.b (.d i))
  (f:∀m,s.a<=m->s.b (.c m)=.f)
section
variable{a:Nat->List E->S U->av U E}{l c d:aC}{s b f:S U}{e:aJ}{x y:List de}{q:av U (cQ×aC)}{g:dN}
theorem sI{t:E->aC->S U->av U _}{h}(j:Z v i=B h)(e:t h l s=B ((.a,c),b))(k:ed (H F) (.d v) t n (i+1) c b=q):ed (H F) (.d v) t (n+1) i l s=q:=
 au (show B (Z v i)=_ by exact C j A) (ab e k)
theorem Fp(h:Z v i=N):ed (H F) (.d v) t (n+1) i l s=B ((.a,l),s):=
 au (show B (Z v i)=_ by exact C h A) A
theorem YH(j:K (H F) a e l s=B (G 2,s))(h:dK (H F) g (as (H F) a x) (G 0) l s=B ((.a,c),b))(i:dK (H F) g (as (H F) a x) (G 1) c b=B ((.a,d),f))(m:as (H F) a y d f=q):as (H F) a (.g g (.b [e]) x::y) l s=q:=by have k:uh _ l s=B _:=ab (eE j) (au (b:=[G 0,G 1]) A A);exact(gx (ab k (sI A h (sI A i (Fp A)))) m:dS (jy _ g _ _) _ l s=_)
theorem Bu(h:bc (H F) (K (H F) a e) l s=B (I,b))(k:as (H F) a y l b=q):as (H F) a (.a e x []::y) l s=q:=
 (gx (ab h A) k:dS (iF _ _ (as _ a x) gz) _ l s=_)
theorem IW{j m}{k v}(n:s.b r=.b h j)(e:kY (H F) r (.b h j) k v s=nw (H F) r (.b i m) s)(p:r.a=D)(o:s.a<100000):jq (H F) (.b r) k v s=B ((),⟨aZ.d s.b r (.b i m),s.a+1⟩):=by
 show kY _ r (s.b r) k v s=_
 refine C n (C e ?_);show aI (r.a&&D&&ar s.a 100000) _=_
 exact C p (C (show ar s.a _=D from er o) A)
end
theorem UK{X:aU}{t:S U}(d:pI X t p b a e)(d0:t.b (.c X.h)=.a ((bv X.a.length).map X.i))(b5:∀j r,Z X.a j=B r->bm t (X.c j) (X.g j) (W r.b) (G r.a) r.f (.c r.d) r.c)(b4:∀j,j<X.a.length->X.c j<t.a/\X.g j<t.a)(c8:∀r∈X.a,jM r/\r.c.length<1000)(r:cD t)(l:t.a<=800)(c6:X.a.length<=50)(g8:0<X.a.length)(f7:t.b (.d 19)=.f)(f8:t.b (.d 20)=.f)
  (f3:bE t.a 1 (t.b (.d 17))) (e0:∀r∈X.a,0<=r.a->L t 17 (G r.a)=B aX) (h0:∀x,x<0->L t 17 (G x)=N) (h4:t.b (.c X.n)=hW) (f6:t.b (.c e)=.a [aD (G 1)]) (h1:yr X) (a5:bK X.a 1=N):
  ∃a2,ah (H F) (n+5) 16 [.b (.c X.d),.b (.d 17)] t=B (.b (.d 19),a2)/\(∃u,a2.b (.d 19)=.b (fy X.b) u)/\cD a2/\t.a<=a2.a/\a2.a<=t.a+14+3*X.a.length/\(∀c,c<t.a->a2.b (.c c)=t.b (.c c))/\∀i,i<14->i≠3->i≠4->a2.b (.d (16+i))=t.b (.d (16+i)):=by
 let b7:S U:=⟨aZ.d t.b (.d 19) (.b [] 0),t.a+1⟩
 let b1:S U:=⟨aZ.d b7.b (.d 19) (.b [(G 0,aX)] 1),t.a+1+1⟩
 let o:S U:=⟨aZ.d b1.b (.d 19) (.b (fy 0) 2),t.a+1+1+1⟩
 let q:S U:=⟨aZ.d o.b (.c o.a) (.b [] 0),t.a+1+1+1+1⟩
 have y:∀c,c<t.a->q.b (.c c)=t.b (.c c):=λc v=>ba (cy (by exact bw (ap [_,_] (.a 1 (.c (.a 0) (.b 1)) (.a 1) .b) (.c (.a 0) (.b 1)) (.c (.c (.c (.a 1) (.b 1)) (.b 1)) (.b 1)) A v)))
 have a9:∀i,i≠19->q.b (.d i)=t.b (.d i):=λi h=>(ba (h:=b1.b) (df h)).trans ((ba (h:=b7.b) (df h)).trans (ba (h:=t.b) (df h)))
 have e5:pI X q p b a e:=⟨(y _ (d.6 X.d (.head _))).trans d.1,(y _ (d.6 b (.tail _ (.head _)))).trans d.2,(y _ (d.6 X.f (.tail _ (.tail _ (.head _))))).trans d.3,(y _ (d.6 a (.tail _ (.tail _ (.tail _ (.head _)))))).trans d.4,d.5,λc m=>by have:=d.6 c m;exact ap [_,_] (.a 1 (.c (.a 0) (.b 1)) (.a 1) .b) (.c (.a 0) (.b 1)) (.c (.c (.c (.c (.a 1) (.b 1)) (.b 1)) (.b 1)) (.b 1)) A this⟩
 have b3:X.h<t.a:=d.6 X.h (by simp);have d3:bE q.a 1 (q.b (.d 17)):=(a9 17 (by decide)).symm.subst (f3.c (by exact ap [_] .b (.a 0) (.c (.c (.c (.c (.a 0) (.b 1)) (.b 1)) (.b 1)) (.b 1)) A));have c4:=λx=>O (cN · x) (a9 17 (by decide))
 refine Cc (QO (n:=n) e5 ((y _ b3).trans d0) (λj r Q=>have z:=b4 j (cE Q);⟨(b5 j r Q).1.imp λa8 b2=>⟨(y _ z.1).trans b2.1,b2.2⟩,(y _ z.2).trans (b5 j r Q).2⟩) (λj Q=>by exact⟨ap [_,_] (.a 1 (.c (.a 0) (.b 1)) (.a 1) .b) (.c (.a 0) (.b 1)) (.c (.c (.c (.c (.a 1) (.b 1)) (.b 1)) (.b 1)) (.b 1)) A (b4 j Q).1,ap [_,_] (.a 1 (.c (.a 0) (.b 1)) (.a 1) .b) (.c (.a 0) (.b 1)) (.c (.c (.c (.c (.a 1) (.b 1)) (.b 1)) (.b 1)) (.b 1)) A (b4 j Q).2⟩) (λr m=>(c8 r m).1) ⟨by show t.a+4<=97000;exact gJ l A,λm g=>(ba (cy (by exact cC g))).trans (r.2 m (by exact ap [_,_] (.a 1 (.c (.c (.c (.c (.a 0) (.b 1)) (.b 1)) (.b 1)) (.b 1)) (.a 1) .b) (.a 0) (.a 1) A g)),λi h=>(a9 i (bw (aP h A))).trans (r.3 i h)⟩ (show t.a+4<=1000 from gJ l A) c6 ((a9 20 (by decide)).trans f8) d3 (λr m g=>(c4 _).trans (e0 r m g)) λx g=>(c4 _).trans (h0 x g)) λb8 h3 f4 g4 b9 a3 c1 g0 b6=>?_
 have P:=λc v=>(g0 c (by exact ap [_,_] (.a 1 (.c (.a 0) (.b 1)) (.a 1) .b) (.c (.a 0) (.b 1)) (.c (.c (.c (.c (.a 1) (.b 1)) (.b 1)) (.b 1)) (.b 1)) A v)).trans (y c v)
 have g5:jY X 0=0:=by unfold jY;refine C (kD (bw g8)) ?_;rfl
 refine ev (Bd (X:=X) (a:=λi a8 s=>Dq X b8 s i/\∃x,a8=[.b (.c X.d),.b (.d 17),.b (.d 19),G 1,.b (.d 20),.b (.c X.f),x]) (λi a8 s z=>(z.1.4 _ (ap [_,_,_] (.a 1 (.c (.a 0) (.b 1)) (.a 1) (.a 1 (.c (.c (.c (.c (.a 1) (.b 1)) (.b 1)) (.b 1)) (.b 1)) (.a 2) .b)) (.c (.a 0) (.b 1)) (.a 2) A b3 a3)).trans ((P _ b3).trans d0)) (λi a8 s r z a1=>by
  obtain⟨f,x,rfl⟩:=z;have h:=cE a1;have z:=b4 i h;have g6:jY X i=0:=by unfold jY;refine C (kD (bw h)) ?_;rfl
  have d8:=f.1;rw[g6]at d8;have d9:∀{j},(i+1=X.a.length->X.b=j)->(i+1≠X.a.length->j=0)->jY X (i+1)=j:=λ{j} a5 d5=>by
   unfold jY
   by_cases u:i+1=X.a.length
   ·rw[u,gj];exact a5 u
   ·exact C (kD u) ((d5 u).symm)
  have e4:bm s (X.c i) (X.g i) (W r.b) (G r.a) r.f (.c r.d) r.c:=⟨(b5 i r a1).1.imp λa8 b2=>⟨(f.4 _ (ap [_,_,_] (.a 1 (.c (.c (.c (.c (.a 0) (.b 1)) (.b 1)) (.b 1)) (.b 1)) (.a 1) (.a 1 (.c (.a 2) (.b 1)) (.a 0) .b)) (.c (.a 2) (.b 1)) (.a 1) A a3 z.1)).trans ((P _ z.1).trans b2.1),b2.2⟩,(f.4 _ (ap [_,_,_] (.a 1 (.c (.c (.c (.c (.a 0) (.b 1)) (.b 1)) (.b 1)) (.b 1)) (.a 1) (.a 1 (.c (.a 2) (.b 1)) (.a 0) .b)) (.c (.a 2) (.b 1)) (.a 1) A a3 z.2)).trans ((P _ z.2).trans (b5 i r a1).2)⟩
  have d4:=λ{a7:Nat} (w:jY X (i+1)=a7) e6 a6=>UJ (b:=X) (k:=0) (c:=a7) (n:=n+3) (y:=G 1) e4 (c8 r (dX a1)).1 d8 (ap [_,_,_,_,_] (.a 1 (.a 0) (.b 800) (.a 3 (.a 1) (.b 50) (.a 1 (.a 2) (.c (.c (.c (.c (.c (.c (.a 0) (.b 1)) (.b 1)) (.b 1)) (.b 1)) (.b 10)) (.a 1)) (.a 2 (.c (.a 3) (.b 1)) (.a 1) (.a 1 (.a 4) (.c (.a 2) (.f 2 (.a 3))) .b))))) (.a 4) (.b 2000) A l c6 c1 h f.3) (f.6 _ (bd _)) ((f.5 2 (by decide)).trans (b9.3 2 (by decide))) (((f.5 17 (by decide)).trans (b6 1 (by decide) (by decide))).symm.subst (d3.c (by exact am a3 f.2))) (λg=>((λx=>(O (cN · x) ((f.5 17 (by decide)).trans (b6 1 (by decide) (by decide)))).trans (c4 x)) _).trans (e0 r (dX a1) g)) (c8 r (dX a1)).2 e6 a6
  have e1:∀{a7},jY X (i+1)=a7->(∃k,as (H F) _ qU [.b (.c X.d),.b (.d 17),.b (.d 19),G 1,.b (.d 20),.b (.c X.f),.b (.c (X.c i))] s=B ((.a,[.b (.c X.d),.b (.d 17),.b (.d 19),G 1,.b (.d 20),.b (.c X.f),.b (.c (X.c i))]),k)/\jJ (bK X.a) a7 k/\s.a<=k.a/\k.a<=s.a+2/\(∀c,c<s.a->k.b (.c c)=s.b (.c c))/\(∀i,i≠19->k.b (.d i)=s.b (.d i))/\∀m,k.a<=m->s.b (.c m)=.f->k.b (.c m)=.f)->∃c3 e2,dK (H F) (.a 6) (as (H F) (ah (H F) (n+4)) qU) (X.i i) [.b (.c X.d),.b (.d 17),.b (.d 19),G 1,.b (.d 20),.b (.c X.f),x] s=B ((.a,c3),e2)/\Dq X b8 e2 (i+1)/\∃x,c3=[.b (.c X.d),.b (.d 17),.b (.d 19),G 1,.b (.d 20),.b (.c X.f),x]:=λw z=>by obtain⟨k,c9,V,d1,e7,e8,e9,f0⟩:=z;exact(an _ k c9 ⟨C w V,am f.2 d1,ap [_,_,_,_] (.a 1 (.a 0) (.c (.a 1) (.f 2 (.a 2))) (.a 1 (.a 3) (.c (.a 0) (.b 2)) .b)) (.a 3) (.c (.a 1) (.f 2 (.c (.a 2) (.b 1)))) A f.3 e7,λc v=>(e8 c (am v f.2)).trans (f.4 c v),λi h=>(e9 i h).trans (f.5 i h),λm d7=>f0 m d7 (f.6 m (am d1 d7))⟩ ⟨_,A⟩)
  rcases h1 i r a1 with⟨g,a6⟩|⟨g2,x,j,d6,g3,Q,a6⟩
  ·have w:=d9 (j:=0) a6 λa0=>A
   exact e1 w (d4 w (λe3 c V c2 l=>⟨e3,FF V c2 g,V,bd _,gk _,λa0 a0=>A⟩) λa0=>A)
  ·have w:=d9 (j:=j+1) (λa0=>a6) λg=>ak g2 g
   exact e1 w (d4 w (λe3 c V c2 l=>by
    obtain⟨k,c9,h2,c7,c0⟩:=QC (n:=n+3) V (J d6 c2) g3 Q (bB l A)
    exact⟨k,c9,⟨(c0 (.d 20) (df (by decide))).symm.subst (V.1.c (eY (cW c7))),λx=>(O (cN · (G x)) (c0 (.d 20) (df (by decide)))).trans (V.2 x),h2⟩,eY (cW c7),(ct c7),c0⟩) λu=>ak (d6.symm.trans u) (ul _ _))) X.a.length 0 [.b (.c X.d),.b (.d 17),.b (.d 19),G 1,.b (.d 20),.b (.c X.f),.f] b8 (ie _) ⟨(⟨⟨f4,g4,2,by exact C g5 ((b6 3 (by decide) (by decide)))⟩,bd _,bd _,λa0 a0=>A,λa0 a0=>A,b9.2⟩),⟨_,A⟩⟩) λc3 b0 g9 f h5=>cn h5 λh8 f5=>?_;subst f5
 have h:=f.3;have a4:∀c,c<t.a->b0.b (.c c)=t.b (.c c):=λc v=>(f.4 c (ap [_,_,_] (.a 1 (.c (.c (.c (.c (.a 0) (.b 1)) (.b 1)) (.b 1)) (.b 1)) (.a 1) (.a 1 (.c (.a 2) (.b 1)) (.a 0) .b)) (.c (.a 2) (.b 1)) (.a 1) A a3 v)).trans (P c v)
 have f9:=FF (n:=n+3) f.1 ((a4 _ (d.6 e (by simp))).trans f6) (T (.inr (ag 1 A a5)) ae)
 let c5:List E:=[.b (.c X.d),.b (.d 17),.b (.d 19),G 1,.b (.d 20),.b (.c X.f),h8]
 have d2:=(P _ (d.6 b (.tail _ (.head _)))).trans d.2
 let f1:List de:=[.g (.a 6) (.d (.c (.a 5) 7)) qU,.d (.k 15 [.c (.c (.a 5) 8) 2,.a 4,.a 2])]
 have h6:jq (H F) (.b (.d 19)) (G 0) aX b7=B ((),b1):=IW (h:=[]) A A A (iS l A);have h7:jq (H F) (.b (.d 19)) (G 1) aX b1=B ((),o):=IW A A A (ap [_] (.a 1 (.a 0) (.b 800) .b) (.c (.c (.c (.a 0) (.b 1)) (.b 1)) (.b 1)) (.b 100000) A l);have f2:bc (H F) (K (H F) (ah (H F) (n+4)) (.e .a (.a 2) (.r .none))) [.b (.c X.d),.b (.d 17),.b (.d 19),G 1,.f,.f,.f] o=B (I,q):=by
  have u:hc (H F) q.b (.b (.d 19)) (.b (.c o.a))=B I:=by
   unfold hc;show Y _ (λh9=>Y (dy (q.b (.c o.a))) _)=_
   refine C (show q.b (.c o.a)=.b [] 0 from cj) ?_;rfl
  exact(ab ((ab (s:=o) A (ab (hR (s:=o) (r.2 _ (ap [_] .b (.a 0) (.c (.c (.c (.a 0) (.b 1)) (.b 1)) (.b 1)) A)) (ap [_] (.a 1 (.a 0) (.b 800) .b) (.c (.c (.c (.c (.a 0) (.b 1)) (.b 1)) (.b 1)) (.b 1)) (.b 100000) A l)) (au (b:=I) (show yT (H F) .a (.b (.d 19)) _ q.b=B I from u) A)):ei (H F) .a (ca 2) (K (H F) (ah (H F) (n+4)) (.r .none)) [.b (.c X.d),.b (.d 17),.b (.d 19),G 1,.f,.f,.f] o=_)) A:aB _ _=_)
 have g7:jY X X.a.length=X.b:=by unfold jY;rw[gj];rfl
 exact(xH b0 (ft A A (dJ (i:=[.b (.c X.d),.b (.d 17),.b (.d 19),.f,.f,.f,.f]) (vj f7 A (bB l A)) A (YH (b:=b1) (f:=o) (mL (v:=[.d [G 8,G 4],.d [G 8,G 4]]) (bF (w:=12) (e:=.a 0) (s:=b7) A d.1 A A) h4)
   ((rd (b:=.a 2) (d:=.a 3) (x:=[]) A A A h6).trans A) ((rd (b:=.a 2) (d:=.a 3) (x:=[]) A A A h7).trans A)
   (Bu f2 (dJ (ab (bV (e:=ca 0) A (bV (e:=ca 1) A A)) h3:gg _ 14 [ca 0,ca 1] [.b (.c X.d),.b (.d 17),.b (.d 19),G 1,.f,.f,.f] q=_) A
    (js (f:=.c b) (bF (w:=13) (e:=.a 0) A ((P _ (d.6 X.d (.head _))).trans d.1) A A) d2 (jV d2 A ((show as (H F) _ f1 _ b8=B ((.a,c5),b0) from
   js (f:=.c X.h) (c:=c5) (d:=b0) (bF (w:=7) (e:=.a 5) A ((P _ (d.6 X.f (.tail _ (.tail _ (.head _))))).trans d.3) A A) ((P _ b3).trans d0) (by rw[ea,jB];exact g9) (fd ((ab (bV (bF (w:=2) (bF (w:=8) (e:=.a 5) A ((a4 _ (d.6 X.f (.tail _ (.tail _ (.head _))))).trans d.3) A A) ((a4 _ (d.6 a (.tail _ (.tail _ (.tail _ (.head _)))))).trans d.4) A A) (bV (e:=ca 4) A (bV (e:=ca 2) A A))) f9:gg _ 15 [K (H F) (ah (H F) (n+4)) _,ca 4,ca 2] c5 b0=_)) A))) (kL ((a4 _ (d.6 b (.tail _ (.head _)))).trans d.2))) (cY A))))))) (J g7 f.1.3) ⟨ap [_,_,_,_] (.a 1 (.a 0) (.b 800) (.a 3 (.a 1) (.b 50) (.a 1 (.a 2) (.c (.c (.c (.c (.c (.c (.a 0) (.b 1)) (.b 1)) (.b 1)) (.b 1)) (.b 10)) (.a 1)) (.a 1 (.a 3) (.c (.a 2) (.f 2 (.a 1))) .b)))) (.a 3) (.b 97000) A l c6 c1 h,f.6,λi h=>(f.5 i (bw (aP h A))).trans (b9.3 i h)⟩ (ap [_,_,_] (.a 1 (.c (.c (.c (.c (.a 0) (.b 1)) (.b 1)) (.b 1)) (.b 1)) (.a 1) (.a 1 (.a 1) (.a 2) .b)) (.a 0) (.a 2) A a3 f.2) (ap [_,_,_,_] (.a 1 (.a 0) (.c (.c (.c (.c (.c (.c (.a 1) (.b 1)) (.b 1)) (.b 1)) (.b 1)) (.b 10)) (.a 2)) (.a 1 (.a 3) (.c (.a 0) (.f 2 (.a 2))) .b)) (.a 3) (.c (.c (.a 1) (.b 14)) (.f 3 (.a 2))) A c1 h) a4 (λi a5 d5 g1=>(f.5 _ (by omega)).trans ((b6 i a5 g1).trans (a9 _ (by omega)))))
inductive uG(X)(t)(p b a e) where
 |mk (c:pI X t p b a e)
  (p:t.b (.c p)=.a [G 0,G 1,G 2])
  (h:t.b (.c X.h)=.a ((bv X.a.length).map X.i))
  (k:∀j r,Z X.a j=B r->bm t (X.c j) (X.g j) (W r.b) (G r.a) r.f (.c r.d) r.c)
  (l:∀j,j<X.a.length->X.c j<t.a/\X.g j<t.a)
  (s:t.b (.c X.n)=hW)
  (d:t.b (.c e)=.a [aD (G 1)])
  (g:cD t)
  (f:∀i,i<14->t.b (.d (16+i))=.f)
open PyProof.Rows in
theorem ZR(n):tN (rj++(Br++[.c 0])) (ra (gb gd) (ah (gb gd) n) (vp.a.drop 3) [.b (.d 16),.b (.c 0)] ⟨fK ([.e 4 [(18,.b (.c 0)),(19,.b (.d 17)),(20,.b (.d 19))],.c,.c,.c,.c]++hs 9 .f) [.c],1⟩)=
  B (.d [.b (.d 16),.b (.c 0)],cZ++([Al (.b (.c 0)) (G 0) (.c I),.c,.c,.c,.c]++(hs 8 (.b [] 0)++[.a [],.c])),21):=by kernel_rfl
theorem ZQ(X:cD t)(L:t.a<=90000)(U:f<t.a)(Q:t.b (.d 16)=.e 4 [(18,.b (.c f)),(19,.b (.d 17)),(20,.b (.d 19))])(b:∀i,5<=i->i<14->t.b (.d (16+i))=.f):
  ∃a,as (H F) (ah (H F) n) (vp.a.drop 3) [.b (.d 16),.b (.c f)] t=B ((.a,[.b (.d 16),.b (.c f)]),a)/\cD a/\a.a=t.a+20/\(∃l,a.b (.d 16)=.e 4 l/\cL (Am f (G 0)) l)/\(∀i,5<=i->i<13->a.b (.d (16+i))=.b [] 0)/\a.b (.d 29)=.a []/\(∀d,d<t.a->a.b (.c d)=t.b (.c d))/\∀i,0<i->i<5->a.b (.d (16+i))=t.b (.d (16+i)):=by
 let v:em:=⟨[],[],[],[f],t.a,0⟩
 have q:gI v:=⟨fF.mpr ⟨cI,mr⟩,T U ae⟩
 have P:cM (ai v) gd:=gB ae ae ae ae ae;have y:bD _ ⟨fK ([.e 4 [(18,.b (.c 0)),(19,.b (.d 17)),(20,.b (.d 19))],.c,.c,.c,.c]++hs 9 .f) [.c],1⟩ t:=qW q P X A ⟨⟨_,Q,_,_,A,⟨A,λx e=>R e⟩,_,_,A,⟨A,λx e=>R e⟩,_,_,A,⟨A,λx e=>R e⟩,A⟩,A,A,A,A,⟨b 5 (by decide) (by decide),A⟩,⟨b 6 (by decide) (by decide),A⟩,⟨b 7 (by decide) (by decide),A⟩,⟨b 8 (by decide) (by decide),A⟩,⟨b 9 (by decide) (by decide),A⟩,⟨b 10 (by decide) (by decide),A⟩,⟨b 11 (by decide) (by decide),A⟩,⟨b 12 (by decide) (by decide),A⟩,⟨b 13 (by decide) (by decide),A⟩,trivial⟩ (an f _ A A A);refine gf (xk (ZR n)) λY E g r=>?_
 refine bJ (Bk (gF (h:=t.b) q P) n _ _ y _ _ E) λa K c=>?_
 have o:∀i p,i<14->Z _ i=B p->bR _ a.a _ p (a.b (.d (16+i))):=λi p h V=>by exact J (kf g (gA.trans (gQ ((λi h=>by refine C dC (C jA (C (rD h) ?_));rfl) i h))) (gA.trans V)) (c.1 _)
 refine(Cj a (Bj K) (wZ c (aP (am (ct (nj c (c:=20) r)) (aQ L 20)) A) (λi h=>kf g (gQ (nu h).1) (gQ (nu h).2)) (gF q P)) (nj c (c:=20) r) ((o 0 _ (by decide) A).imp λl z=>⟨z.1,(An (v:=v) (f:=f) (k:=0) A A A).subst (motive:=λW=>cL W l) (Hh z.2)⟩) (λi s m=>?_) (o 13 _ (by decide) A) (λd S=>(di (d=f)).elim (λe=>C e (by
  have w:=c.1 (.c 0);rw[show(dh gd v t.b).a.a Y.b (.c 0)=.c from(kf g (i:=24) A A)]at w
  exact w)) λe=>vw c S (T e ae)) (λi s m=>?_))
 ·obtain⟨j,rfl⟩:∃j,i=5+j:=⟨i-5,by omega⟩
  have u:j<8:=ap [_] (.a 1 (.c (.c (.b 5) (.a 0)) (.b 1)) (.b 13) .b) (.c (.a 0) (.b 1)) (.b 8) A m;exact ET (by show(bif af.e _ (.d 23)then 0 else 0)=0;cases af.e _ (.d 23)<;>rfl) (o (5+j) (.b [] 0) (ap [_] (.a 1 (.c (.a 0) (.b 1)) (.b 8) .b) (.c (.c (.b 5) (.a 0)) (.b 1)) (.b 14) A u) (gA.trans (gQ (by exact C dC (C Ln (C (if_pos u) A))))))
 ·match i,s,m with|1,_,_=>exact o 1 .c (by decide) A|2,_,_=>exact o 2 .c (by decide) A|3,_,_=>exact o 3 .c (by decide) A|4,_,_=>exact o 4 .c (by decide) A|0,k,_=>exact ak k (by decide)|_+5,_,k=>exact pQ [_] (.a 1 (.c (.c (.a 0) (.b 5)) (.b 1)) (.b 5) .b) A k
inductive uH(X) where
 |mk (o:∀r∈X.a,jM r/\r.c.length<1000)
  (d:∀i r,Z X.a i=B r->¬lv X i r.a)
  (p:yr X)
  (h:bK X.a 1=N)
  (l:0<X.a.length)
  (a:X.a.length<=13)
theorem Rc{X:aU}{t:S U}{b1 a6 a8 c0 o:Nat}(W:uG X t b1 a6 a8 c0)(y:uH X)(l:t.a<=300):
  ∃r,K (H F) (ah (H F) (o+7)) (.t 4 (B 16) [.a 0]) [.b (.c X.d),.f] t=B (.b (.d 16),r)/\bz r X.d 0/\ob X (L r)/\r.b (.d 23)=.b [] 0/\(∃f,r.b (.d 19)=.b (fy X.b) f)/\t.a<=r.a/\r.a<=t.a+139/\∀b,b<t.a->r.b (.c b)=t.b (.c b):=by
 have z:∀i,i<14->t.b (.d (16+i))=.f:=W.9;have n:=y.6
 let a0:S U:=⟨aZ.d t.b (.d 16) (.e 4 []),t.a+1⟩
 let b4:S U:=⟨aZ.d a0.b (.d 16) (.e 4 [(18,.b (.c X.d))]),t.a+1+1⟩
 have b9:rP X b4 b1 a6 a8 (G 0):=⟨(fQ _ W.1.1 A A A),W.2,W.1.2,W.1.3,W.3,λw Q v=>⟨(W.4 w Q v).1,(W.4 w Q v).2⟩⟩
 refine bJ (Uj (n:=o+5) b9 (z 1 (by decide)) (z 2 (by decide)) (show t.a+1+1<=1000 from ap [_] (.a 1 (.a 0) (.b 300) .b) (.c (.c (.a 0) (.b 1)) (.b 1)) (.b 1000) A l) (aP n A) y.2) λa d3 j=>?_
 have p:t.a+1+1<=a.a:=j.4;have u:a.a<=t.a+1+1+5+X.a.length:=j.5
 let a1:S U:=⟨aZ.d a.b (.d 16) (.e 4 [(18,.b (.c X.d)),(19,.b (.d 17))]),a.a+1⟩
 have g:∀b,a1.b (.c b)=t.b (.c b):=λb=>j.7 _ af.noConfusion af.noConfusion
 have Z:∀i,i≠16->i≠17->i≠18->a1.b (.d i)=t.b (.d i):=λi c k c4=>(ba (h:=a.b) (df c)).trans ((j.7 _ (df k) (df c4)).trans ((ba (h:=a0.b) (df c)).trans (ba (h:=t.b) (df c))))
 have d1:∀x,x<0->¬lv X X.a.length x:=λx b0 h=>by rcases h with h|h|h|h<;>omega
 refine cn (UK (n:=o+1) ⟨(g _).trans W.1.1,(g _).trans W.1.2,(g _).trans W.1.3,(g _).trans W.1.4,W.1.5,λb q=>by have:=W.1.6 b q;show b<a.a+1;exact ap [_,_,_] (.a 1 (.c (.c (.a 0) (.b 1)) (.b 1)) (.a 1) (.a 1 (.c (.a 2) (.b 1)) (.a 0) .b)) (.c (.a 2) (.b 1)) (.c (.a 1) (.b 1)) A p this⟩ ((g _).trans W.3) (λw Q v=>have b6:=W.4 w Q v;⟨b6.1.imp λd9 b7=>⟨(g _).trans b7.1,b7.2⟩,(g _).trans b6.2⟩) (λw v=>by show _<a.a+1/\_<a.a+1;exact⟨ap [_,_,_] (.a 1 (.c (.c (.a 0) (.b 1)) (.b 1)) (.a 1) (.a 1 (.c (.a 2) (.b 1)) (.a 0) .b)) (.c (.a 2) (.b 1)) (.c (.a 1) (.b 1)) A p (W.5 w v).1,ap [_,_,_] (.a 1 (.c (.c (.a 0) (.b 1)) (.b 1)) (.a 1) (.a 1 (.c (.a 2) (.b 1)) (.a 0) .b)) (.c (.a 2) (.b 1)) (.c (.a 1) (.b 1)) A p (W.5 w v).2⟩) y.1 ⟨by show a.a+1<=97000;exact ap [_,_,_] (.a 1 (.a 0) (.b 300) (.a 1 (.a 1) (.b 13) (.a 1 (.a 2) (.c (.c (.c (.c (.a 0) (.b 1)) (.b 1)) (.b 5)) (.a 1)) .b))) (.c (.a 2) (.b 1)) (.b 97000) A l n u,λq h=>(g q).trans (W.8.2 q (by exact ap [_,_,_] (.a 1 (.c (.c (.a 0) (.b 1)) (.b 1)) (.a 1) (.a 1 (.c (.a 1) (.b 1)) (.a 2) .b)) (.a 0) (.a 2) A p h)),λi d=>(Z i (bw (aP d A)) (bw (aP d A)) (bw (aP d A))).trans (W.8.3 i d)⟩ (show a.a+1<=800 from ap [_,_,_] (.a 1 (.a 0) (.b 300) (.a 1 (.a 1) (.b 13) (.a 1 (.a 2) (.c (.c (.c (.c (.a 0) (.b 1)) (.b 1)) (.b 5)) (.a 1)) .b))) (.c (.a 2) (.b 1)) (.b 800) A l n u) (aP n A) y.5 ((Z 19 (by decide) (by decide) (by decide)).trans (z 3 (by decide))) ((Z 20 (by decide) (by decide) (by decide)).trans (z 4 (by decide)))
  (j.1.c (gk _)) (λQ q h=>j.2 _ (.inr (.inr (.inr ⟨h,(ag Q (by exact C up q) A)⟩)))) (λx b0=>j.3 x (d1 x b0)) ((g _).trans W.6) ((g _).trans W.7) y.3 y.4) λe d7=>Kz d7 λd4 d2 a5 P E c1 a4=>?_
 have P:a.a+1<=e.a:=P;have E:e.a<=a.a+1+14+3*X.a.length:=E
 let b5:S U:=⟨aZ.d e.b (.d 16) (.e 4 [(18,.b (.c X.d)),(19,.b (.d 17)),(20,.b (.d 19))]),e.a+1⟩
 refine Cc (ZQ (t:=b5) (f:=X.d) (n:=o+6) ⟨by show e.a+1<=97000;exact ap [_,_,_,_] (.a 1 (.a 0) (.b 300) (.a 4 (.a 1) (.b 13) (.a 1 (.a 2) (.c (.c (.c (.c (.a 0) (.b 1)) (.b 1)) (.b 5)) (.a 1)) (.a 1 (.a 3) (.c (.c (.c (.a 2) (.b 1)) (.b 14)) (.f 3 (.a 1))) .b)))) (.c (.a 3) (.b 1)) (.b 97000) A l n u E,λq c5=>a5.2 q (pw c5),λi d=>(ba (h:=e.b) (df (bw (aP d A)))).trans (a5.3 i d)⟩ (show e.a+1<=90000 from ap [_,_,_,_] (.a 1 (.a 0) (.b 300) (.a 4 (.a 1) (.b 13) (.a 1 (.a 2) (.c (.c (.c (.c (.a 0) (.b 1)) (.b 1)) (.b 5)) (.a 1)) (.a 1 (.a 3) (.c (.c (.c (.a 2) (.b 1)) (.b 14)) (.f 3 (.a 1))) .b)))) (.c (.a 3) (.b 1)) (.b 90000) A l n u E) (by have:=W.1.6 X.d (.head _);show X.d<e.a+1;exact ap [_,_,_,_] (.a 1 (.c (.c (.a 0) (.b 1)) (.b 1)) (.a 1) (.a 1 (.c (.a 1) (.b 1)) (.a 2) (.a 1 (.c (.a 3) (.b 1)) (.a 0) .b))) (.c (.a 3) (.b 1)) (.c (.a 2) (.b 1)) A p P this) (cj (h:=e.b) (b:=.d 16)) (λi c k=>(ba (h:=e.b) (df (cC (ap [_] (.a 1 (.b 5) (.a 0) .b) (.c (.b 16) (.b 1)) (.c (.b 16) (.a 0)) A c)))).trans ((λi c k=>(a4 i k (cC (so (MG A c))) (cC c)).trans ((Z _ (cC (ap [_] (.a 1 (.b 5) (.a 0) .b) (.c (.b 16) (.b 1)) (.c (.b 16) (.a 0)) A c)) (cC (ap [_] (.a 1 (.b 5) (.a 0) .b) (.c (.b 17) (.b 1)) (.c (.b 16) (.a 0)) A c)) (cC (ap [_] (.a 1 (.b 5) (.a 0) .b) (.c (.b 18) (.b 1)) (.c (.b 16) (.a 0)) A c))).trans (z i k))) i c k))) λs d5 b8 a2 d0 Y c8 c2 b3=>?_
 have c9:K (H F) (ah (H F) (o+7)) (.t 4 (B 16) [.a 0]) [.b (.c X.d),.f] t=B (.b (.d 16),s):=by
  exact(ab (bV (e:=ca 0) A A) (au (b:=20) A (ab (by
   refine(au (b:=()) (show qO (t.b (.d 16))=_ by refine C (z 0 (by decide)) ?_;rfl) ?_:qH (H F) (.d 16) (.e 4 []) t=_);show aI (D&&D&&ar t.a 100000) _=_
   refine C (show ar t.a 100000=D from er (ap [_] (.a 1 (.a 0) (.b 300) .b) (.c (.a 0) (.b 1)) (.b 100000) A l)) ?_;rfl) (ab (jS (d:=vp) A A (by
  exact iv (g:=4) (b:=a0) (r:=.d 16) A A A (cj (h:=t.b) (b:=.d 16)) A A (show t.a+1<100000 from iS l A) (iv (g:=4) (b:=a) (r:=.d 16) ((ab (bV (e:=ca 1) A A) d3:gg (ah (H F) (o+6)) 12 [ca 1] [.b (.d 16),.b (.c X.d)] b4=_)) A A ((j.7 _ (df (by decide)) (df (by decide))).trans (cj (h:=a0.b) (b:=.d 16))) A A (ap [_,_,_] (.a 1 (.a 0) (.b 300) (.a 1 (.a 1) (.b 13) (.a 1 (.a 2) (.c (.c (.c (.c (.a 0) (.b 1)) (.b 1)) (.b 5)) (.a 1)) .b))) (.c (.a 2) (.b 1)) (.b 100000) A l n u) (iv (g:=4) (b:=e) (r:=.d 16) ((ab (bV (e:=ca 1) A (bV (bF (w:=19) (e:=.a 0) (r:=.d 16) (d:=4) (h:=[(18,.b (.c X.d)),(19,.b (.d 17))]) A (cj (h:=a.b) (b:=.d 16)) A A) A)) d4:gg (ah (H F) (o+6)) 16 [ca 1,K (H F) (ah (H F) (o+6)) (.c (.a 0) 19)] [.b (.d 16),.b (.c X.d)] a1=_)) A A ((a4 0 (by decide) (by decide) (by decide)).trans (cj (h:=a.b) (b:=.d 16))) A A (ap [_,_,_,_] (.a 1 (.a 0) (.b 300) (.a 4 (.a 1) (.b 13) (.a 1 (.a 2) (.c (.c (.c (.c (.a 0) (.b 1)) (.b 1)) (.b 5)) (.a 1)) (.a 1 (.a 3) (.c (.c (.c (.a 2) (.b 1)) (.b 14)) (.f 3 (.a 1))) .b)))) (.c (.a 3) (.b 1)) (.b 100000) A l n u E) d5)))) A))):kl (H F) (ah (H F) (o+7)) 4 (B 16) [ca 0] [.b (.c X.d),.f] t=_)
 have b2:∀i,i≠16->b5.b (.d i)=e.b (.d i):=λi h=>ba (h:=e.b) (df h)
 have d6:∀i,i≠16->a1.b (.d i)=a.b (.d i):=λi h=>ba (h:=a.b) (df h)
 have a7:s.b (.d 17)=a.b (.d 17):=(b3 1 (by decide) (by decide)).trans ((b2 17 (by decide)).trans ((a4 1 (by decide) (by decide) (by decide)).trans (d6 17 (by decide))));have T:∀{i c7},5<=i->i<13->bE s.a c7 (s.b (.d (16+i))):=λc k=>(Y _ c k).symm.subst (motive:=λa3=>bE s.a _ a3) ⟨(an [] 0 A ae (ek _)),λd8 d8 f=>J (aW (O dy f)) A⟩
 have V:∀i,5<=i->i<13->∀m,L s (16+i) m=N:=λi c k m=>O (cN · m) (Y i c k)
 exact(Cj s c9 ⟨b8,d0,a7.symm.subst (motive:=λa3=>bE s.a 1 a3) (j.1.c (ap [_,_,_] (.a 1 (.c (.a 0) (.b 1)) (.a 1) (.c (-1) (.a 2) (.c (.c (.a 1) (.b 1)) (.b 20)) .b)) (.a 0) (.a 2) A P a2)),T (i:=5) (by decide) (by decide),T (i:=8) (by decide) (by decide),T (i:=9) (by decide) (by decide),T (i:=10) (by decide) (by decide),T (i:=11) (by decide) (by decide),Y 12 (by decide) (by decide),⟨[],c8,ek _⟩,by decide,by decide⟩ ⟨λi d m=>d.elim (λf=>C f (V 5 (by decide) (by decide) m)) λd=>d.elim (λf=>C f (V 8 (by decide) (by decide) m)) λd=>d.elim (λf=>C f (V 9 (by decide) (by decide) m)) λd=>d.elim (λf=>C f (V 10 (by decide) (by decide) m)) λf=>C f (V 11 (by decide) (by decide) m),λx c3 c6=>(O (cN · (G x)) a7).trans (j.2 x (c6.imp id λh=>h.imp id λh=>h.imp id λh=>⟨c3,by exact C up h⟩))⟩ (Y 7 (by decide) (by decide)) (C ((b3 3 (by decide) (by decide)).trans (b2 19 (by decide))) d2) (ap [_,_,_,_] (.a 1 (.c (.c (.a 0) (.b 1)) (.b 1)) (.a 1) (.a 1 (.c (.a 1) (.b 1)) (.a 2) (.c (-1) (.a 3) (.c (.c (.a 2) (.b 1)) (.b 20)) .b))) (.a 0) (.a 3) A p P a2) (ap [_,_,_,_,_] (.a 4 (.a 0) (.b 13) (.a 1 (.a 1) (.c (.c (.c (.c (.a 2) (.b 1)) (.b 1)) (.b 5)) (.a 0)) (.a 1 (.a 3) (.c (.c (.c (.a 1) (.b 1)) (.b 14)) (.f 3 (.a 0))) (.c 1 (.a 4) (.c (.c (.a 3) (.b 1)) (.b 20)) .b)))) (.a 4) (.c (.a 2) (.b 139)) A n u E a2) (λb a9=>(c2 b (by show b<e.a+1;exact ap [_,_,_,_] (.a 1 (.c (.c (.a 0) (.b 1)) (.b 1)) (.a 1) (.a 1 (.c (.a 1) (.b 1)) (.a 2) (.a 1 (.c (.a 3) (.b 1)) (.a 0) .b))) (.c (.a 3) (.b 1)) (.c (.a 2) (.b 1)) A p P a9)).trans ((c1 b (by show b<a.a+1;exact ap [_,_,_] (.a 1 (.c (.c (.a 0) (.b 1)) (.b 1)) (.a 1) (.a 1 (.c (.a 2) (.b 1)) (.a 0) .b)) (.c (.a 2) (.b 1)) (.c (.a 1) (.b 1)) A p a9)).trans (g b))))
inductive Me(X:aU)(t:S U)(a e) where
 |mk (f:X.d<X.l)
  (s:X.n<X.l)
  (b:X.h<X.l)
  (c:X.f<X.l)
  (a:X.l+10*X.a.length<=a/\a<t.a)
  (e:X.l+10*X.a.length<=e/\e<t.a)
noncomputable def DP(X:aU)(t:S U):={X with j:=t.a,m:=t.b}
theorem Ua{X}{f}(a9:p.m)(W:uG X f c b e a)(s:uH X)(a2:X.a=ci p)(Y:Me X f e a)(a7:X.b<3)(J:f.a<=300):
  ∃v t n o q S,ah (H F) 10 45 [.b (.c X.d)] f=B (v,n)/\De (DP X t) p t n e (G 0) o q S/\(∀d,d<X.l->d≠X.f->n.b (.c d)=f.b (.c d))/\f.a<=n.a:=by
 refine Cc (Rc (o:=2) W s J) λt b1 r u a1 b0 l a5 g=>?_
 have z:=(g _ (cO Y.1 (ap [_,_,_,_] (.a 1 (.c (.a 0) (.f 10 (.a 1))) (.a 2) (.a 1 (.c (.a 2) (.b 1)) (.a 3) .b)) (.a 0) (.a 3) A (Y.5).1 (Y.5).2))).trans W.1.1;have m:∀d,d<X.l->t.b _=f.b _:=λd a3=>g d (ap [_,_,_,_,_] (.a 1 (.c (.a 0) (.b 1)) (.a 1) (.a 1 (.c (.a 1) (.f 10 (.a 2))) (.a 3) (.a 1 (.c (.a 3) (.b 1)) (.a 4) .b))) (.c (.a 0) (.b 1)) (.a 4) A a3 (Y.5).1 (Y.5).2)
 have i:=Y.5;have y:=Y.6;have U:cJ (DP X t):=⟨Y.1,Y.2,Y.3,by exact ap [_,_,_,_,_] (.a 1 (.a 0) (.a 1) (.a 1 (.c (.a 2) (.f 10 (.a 3))) (.a 4) (.a 1 (.c (.a 4) (.b 1)) (.a 0) .b))) (.c (.a 2) (.f 10 (.a 3))) (.a 1) A l y.1 y.2,a7,b0,(ag _ z A),(m _ Y.2).trans W.6,by exact aP s.6 A,(m _ Y.3).trans W.3⟩
 refine mh (Nj a9 ⟨U,A,A,(m _ Y.4).trans W.1.3,(ag _ ((g _ i.2).trans W.1.4) A),(g _ y.2).trans W.7,(λj L h=>by
   have Q:=W.5 j (cE h)
   exact⟨(W.4 j L h).1.imp λb7 P=>⟨(g _ Q.1).trans P.1,P.2⟩,(g _ Q.2).trans (W.4 j L h).2⟩),Y.4,(T ⟨by exact am i.2 l,λj h=>by exact⟨cC (ap [_,_,_,_] (.a 1 (.c (.a 0) (.f 10 (.a 1))) (.a 2) (.a 10 (.c (.a 3) (.b 1)) (.a 1) .b)) (.c (.c (.c (.a 0) (.f 10 (.a 3))) (.b 1)) (.b 1)) (.a 2) A i.1 h),cC (ap [_,_,_,_] (.a 1 (.c (.a 0) (.f 10 (.a 1))) (.a 2) (.a 10 (.c (.a 3) (.b 1)) (.a 1) .b)) (.c (.c (.a 0) (.f 10 (.a 3))) (.b 1)) (.a 2) A i.1 h)⟩⟩ (T ⟨by exact am y.2 l,λj h=>by exact⟨cC (ap [_,_,_,_] (.a 1 (.c (.a 0) (.f 10 (.a 1))) (.a 2) (.a 10 (.c (.a 3) (.b 1)) (.a 1) .b)) (.c (.c (.c (.a 0) (.f 10 (.a 3))) (.b 1)) (.b 1)) (.a 2) A y.1 h),cC (ap [_,_,_,_] (.a 1 (.c (.a 0) (.f 10 (.a 1))) (.a 2) (.a 10 (.c (.a 3) (.b 1)) (.a 1) .b)) (.c (.c (.a 0) (.f 10 (.a 3))) (.b 1)) (.a 2) A y.1 h)⟩⟩ ae)),(by have E:=Y.4;have a4:=Y.1;exact⟨bw (ap [_,_,_,_] (.a 1 (.c (.a 0) (.f 10 (.a 1))) (.a 2) (.a 1 (.c (.a 3) (.b 1)) (.a 0) .b)) (.c (.a 3) (.b 1)) (.a 2) A i.1 E),⟨bw (ap [_,_,_,_] (.a 1 (.c (.a 0) (.f 10 (.a 1))) (.a 2) (.a 1 (.c (.a 3) (.b 1)) (.a 0) .b)) (.c (.a 3) (.b 1)) (.a 2) A y.1 E),bw (ap [_,_,_,_] (.a 1 (.c (.a 0) (.f 10 (.a 1))) (.a 2) (.a 1 (.c (.a 3) (.b 1)) (.a 0) .b)) (.c (.a 3) (.b 1)) (.a 2) A y.1 a4)⟩⟩)⟩ a2 r ⟨u.1,u.2⟩ a1 (am a5 (aQ J 139))) λb3 o q S b4=>fg b4 λb2 k=>?_
 refine ev k.6 λb5 v V a6 a8=>?_
 refine bJ r.2 λb6 Z b8=>?_
 have w:=(g _ (W.1.6 b (.tail _ (.head _)))).trans W.1.2;have x:K (H F) (ah (H F) 9) _ [.b _,.b (.d 16)] t=B (.b _,t):=bF (w:=13) (e:=.a 0) A z A A;exact(Cn v t b3 o q S (da (ft A A (dJ b1 A (hX (bS (on (c:=.b (.a (.a 1))) (i:=1) (.inl A) (mL x w) A)) (fd (om A Z A (vn x w A A) b2) A) (cY (bF (e:=.a 1) A V a6 a8))))) k (λd C a0=>(k.10 d C a0).trans (m d C)) (am l k.9)))
section
variable{c:Nat->List E->S U->av U E}{l:aC}{s a:S U}{d b f:aJ}{v:E}{e:List E}
theorem UN:∀{h},(hh g v h).length<=h.length+1:=λ{h}=>by
 induction h with
 |nil=>exact bd _
 |cons p h i=>
  show(a' _ _ _:List _).length<=_
  cases M p.1 g with|true=>exact gk _|false=>exact fk i
theorem iY(h:Z l i=B v)(g:aF v=I):K (H F) c (.a i) l s=B (v,s):=by
 show hf _ s=_
 refine C h ?_;show(a' _ _ _:Option _)=_
 exact C g A
theorem Mn(G:r.a=D)(x:∀s,K (H F) c o l s=B (.b r,s)):∀{i:List (Nat×aJ×E)}{h}{s},s.b r=.e g h->(∀w∈i,aF w.2.2=I/\dD.a g w.1=D/\∀s,K (H F) c w.2.1 l s=B (w.2.2,s))->h.length+i.length<=900->s.a+i.length<100000->
  ∃j,as (H F) c (i.map (λw=>de.f o w.1 w.2.1)++z) l s=as (H F) c z l j/\j.b r=.e g (i.foldl (λh w=>hh w.1 w.2.2 h) h)/\j.a=s.a+i.length/\∀b,b≠r->j.b b=s.b b:=λ{i}=>by
 induction i with|nil=>exactλ{h s} m k k k=>(fQ s A m A (λk k=>A))|cons w i y=>intro h s m u p t;have q:=u w (.head _);refine(y cj (λw J=>u w (.tail _ J)) (ap [_,_,_] (.a 1 (.c (.a 0) (.c (.a 1) (.b 1))) (.b 900) (.a 1 (.a 2) (.c (.a 0) (.b 1)) .b)) (.c (.a 2) (.a 1)) (.b 900) A p (UN (g:=w.1) (v:=w.2.2) (h:=h))) (by exact ap [_,_] (.a 1 (.c (.c (.a 0) (.c (.a 1) (.b 1))) (.b 1)) (.b _) .b) (.c (.c (.c (.a 0) (.b 1)) (.a 1)) (.b 1)) (.b _) A t)).imp λj z=>(da (iv (q.2.2 s) q.1 (x s) m (by exact C q.2.1 (C (show ar h.length 1000=D from er (ap [_,_] (.a 1 (.c (.a 0) (.c (.a 1) (.b 1))) (.b 900) .b) (.c (.a 0) (.b 1)) (.b 1000) A p)) A)) G (ap [_,_] (.a 1 (.c (.c (.a 0) (.c (.a 1) (.b 1))) (.b 1)) (.b _) .b) (.c (.a 0) (.b 1)) (.b _) A t) z.1) z.2.1 (z.2.2.1.trans (by exact pu (ap [_,_] .b (.c (.c (.a 0) (.b 1)) (.a 1)) (.c (.a 0) (.c (.a 1) (.b 1))) A) (ap [_,_] .b (.c (.a 0) (.c (.a 1) (.b 1))) (.c (.c (.a 0) (.b 1)) (.a 1)) A))) (λb n=>(z.2.2.2 b n).trans (ba n)))
theorem ze{d}(h:K (H F) c f l s=B (.b d,s))(g:s.b d=.a e)(j:e.length<100000)(i:s.b (.c s.a)=.f)(k:s.a<100000):K (H F) c (.m 1 [f]) l s=B (.b (.c s.a),⟨aZ.d s.b (.c s.a) (.a e),s.a+1⟩):=
 (ab (eE h) (au (show rb (s.b d)=B e by exact C g A) (qI j i k)):gT (H F) 1 _ l s=_)
theorem Ju{o i m}(k:bs (eM (H F) (ah (H F) (n+1)) g) l s=B ([o,i,.b q,m],a))(u:aF o=I)(w:aF i=I)(x:aF m=I)(E:a.b (.c a.a)=.f)(t:a.a+9<100000):
  ∃h,K (H F) (ah (H F) (n+1)) (.t 0 N g) l s=B (.b (.c a.a),h)/\h.b (.c a.a)=.e 0 [(0,o),(1,i),(2,.b q),(3,m),(4,.c I),(5,G 0)]/\h.a=a.a+7/\∀b,b≠ .c a.a->h.b b=a.b b:=by
 let r:af:=.c a.a
 let y:S U:=⟨aZ.d a.b r (.e 0 []),a.a+1⟩
 have P:fL _ N _ a=B (.b r,y):=hR E (ap [_] (.a 1 (.c (.c (.a 0) (.b 9)) (.b 1)) (.b _) .b) (.c (.a 0) (.b 1)) (.b _) A t);have j:∀{L}{v},Z _ L=B v->aF v=I->∀s,K _ (ah (H F) n) _ [.b r,o,i,.b q,m] s=B _:=λk J s=>iY k J
 exact(Mn (o:=.a 0) A (λC=>A) (i:=[(0,.a 1,o),(1,.a 2,i),(2,.a 3,.b q),(3,.a 4,m),(4,.b (.c _),.c _),(5,.b (.a _),G 0)]) (s:=y) cj
  (T (aK u A (j A u)) (T (aK w A (j A w)) (T (aK A A (j A A)) (T (aK x A (j A x)) (T (aK A A (λC=>A)) (T (aK A A (λC=>A)) ae)))))) (by show 6<=900;decide) (by exact ap [_] (.a 1 (.c (.c (.a 0) (.b 9)) (.b 1)) (.b _) .b) (.c (.c (.c (.a 0) (.b 1)) (.b 6)) (.b 1)) (.b _) A t)).elim λh z=>(fQ h ((ab k (au (b:=1) A (ab P (ab (jS (d:=Fa) A A z.1) A))):kl (H F) (ah (H F) (n+1)) 0 N (eM (H F) (ah (H F) (n+1)) g) l s=_)) z.2.1 (z.2.2.1.trans (by exact pu (bd _) (bd _))) (λb p=>(z.2.2.2 b p).trans (ba p)))
end
def gH(f)(u:S U)(v:E)(r:bY):=∃a,v=.d [W r.b,G r.a,.b a,r.f,.c r.d]/\u.b a=.a r.c/\((∀m,a=.c m->m<f)/\∀m,a=.d m->m<10)/\r.c.length<1000/\aF r.f=I
noncomputable def nb(p:af)(g:Nat)(r:af)(i:E)(c:Nat)(a b d e f h:E):aC:=[.b p,.b (.c g),G 0,.b r,i,.b (.c c),a,b,d,e,f,h,.f,.f]
noncomputable def uW:List de:=[.c 11 (.t 0 .none [.a 6,.a 7,.m 1 [.a 8],.a 9]),.f (.a 11) 4 (.a 10),.d (.h (.c (.a 5) 7) 0 [.a 11])]
inductive sb(X:aU)(u s:S U)(i) where
 |mk (n:s.a=X.l+10*i)
  (c:cD s)
  (a:s.b (.c X.h)=.a ((bv i).map X.i))
  (d:∀j r,j<i->Z X.a j=B r->bm s (X.c j) (X.g j) (W r.b) (G r.a) r.f (.c r.d) r.c)
  (o:∀b,b≠ .c X.h->(∀m,b=.c m->m<X.l)->s.b b=u.b b)
theorem VF{X:aU}{Q s:S U}{j:bY}{b8:E}(l:sb X Q s i)(d2:Z X.a i=B j)(d3:gH X.d Q b8 j)(b1:i<50)(d1:X.l<=1000)(a8:X.d<X.h)(w:X.h<X.l)(V:X.f<X.h)(c5:Q.b (.c X.f)=.e 1 [(6,G 0),(7,.b (.c X.h)),(8,.g)]):
  ∃c0 c1 c2 c3 c4 x b6,dK (H F) (.e [.a 6,.a 7,.a 8,.a 9,.a 10]) (as (H F) (ah (H F) (n+1)) uW) b8 (nb p X.d r g X.f b c d e f a) s=B ((.a,nb p X.d r g X.f c0 c1 c2 c3 c4 x),b6)/\sb X Q b6 (i+1):=by
 refine me d3 λT c6 c9 e0 d5 a1=>fg e0 λb5 z=>?_;subst c6
 have o:=l.1;have a7:X.c i=s.a+1:=by refine C o ?_;rfl
 have c7:X.g i=s.a:=by refine C o ?_;rfl
 have a0:=am (bX _ _) (cW o);have a4:=am (ct o) (rF d1 (LA 10 (CV b1)));have u:=am w a0
 let b3:=nb p X.d r g X.f (W j.b) (G j.a) (.b T) j.f (.c j.d) a
 let d9:S U:=⟨aZ.d s.b (.c s.a) (.a j.c),s.a+1⟩
 have b9:bs (eM (H F) (ah (H F) (n+1)) [.a 6,.a 7,.m 1 [.a 8],.a 9]) b3 s=B ([W j.b,G j.a,.b (.c s.a),j.f],d9):=
  nd A (nd A (nd (ze (c:=ah (H F) (n+1)) (f:=.a 8) A ((l.5 T (λh=>CW a8 (b5 _ h)) λL h=>dt (b5 _ h) (dt a8 w)).trans c9) (aP d5 A) (l.2.2 _ (bd _)) (bB a4 A)) (eE (iY (c:=ah (H F) (n+1)) (i:=9) A a1))))
 refine lg (Ju b9 A A a1 ((ba (cy (py s.a))).trans (l.2.2 _ (gk _))) (iS (aQ a4 1) A)) λa2 d6 d7 K a9=>?_
 have K:=K
 let x:E:=.b (.c (s.a+1))
 let b0:=[(0,W j.b),(1,G j.a),(2,.b (.c s.a)),(3,j.f),(4,E.c j.d),(5,G 0)]
 let v:S U:=⟨aZ.d a2.b (.c (s.a+1)) (.e 0 b0),a2.a+1⟩
 have Y:∀k,k≠ .c (s.a+1)->k≠ .c s.a->v.b k=s.b k:=λk q t=>(ba q).trans ((a9 k q).trans (ba t))
 have a5:=(Y _ (fY (eb u)) (fY u)).trans l.3;have a6:=dt V u;have a3:=am (ct K) (aQ a4 8)
 let b7:S U:=⟨aZ.d v.b (.c X.h) (.a ((bv i).map X.i++[x])),v.a+1⟩
 let d4:=nb p X.d r g X.f (W j.b) (G j.a) (.b T) j.f (.c j.d) x
 have y:∀k,k≠ .c X.h->k≠ .c (s.a+1)->k≠ .c s.a->b7.b k=s.b k:=λk c8 q t=>(ba c8).trans (Y k q t)
 exact(Co _ _ _ _ _ x b7 ⟨(au (b:=b3) A (dJ d6 (i:=d4) A (iv (g:=0) (b:=a2) A A A d7 A A (bB a3 A) (fd (qc (s:=v) (b:=v) (bF (w:=7) A ((Y _ (fY (eb a6)) (fY a6)).trans ((l.5 _ (fY V) λL h=>by cases h;exact dt V w).trans c5)) A A) a5 A a5 (by rw[ea,jB];exact aP b1 A) A (iS a3 A)) A)))),(⟨(O (· +2) K).trans (O (· +10) o),⟨gJ (aQ a3 1) A,λL d0=>have P:s.a+10<=L:=am (cW (O (· +2) K)) d0
   (y _ (iR (am u (eY P))) (iR (gq P A)) (iR (DJ P A))).trans (l.2.2 L (eY P)),λJ m=>(y _ af.noConfusion af.noConfusion af.noConfusion).trans (l.2.3 J m)⟩,(by
   exact C x' (C rE ((cj (h:=v.b)).trans (by show _=bq.a (_++[E.b (.c (X.c i))]);exact C a7 A)))),(λJ d8 m b2=>by
   by_cases h:J=i
   ·subst h;cases(d2.symm.trans b2);exact C a7 (C c7 (⟨(ag b0 ((ba (iR (eb u))).trans (cj)) (an _ _ A ⟨A,λz h=>R h⟩ (an _ _ A ⟨A,λz h=>R h⟩ (an _ _ A ⟨A,λz h=>R h⟩ (an _ _ A ⟨a1,λz h=>R h⟩ (an _ _ A ⟨A,λz h=>R h⟩ (an _ _ A ⟨A,λz h=>R h⟩ A))))))),(ba (iR u)).trans ((ba (cy (iT))).trans ((a9 _ (cy (by exact iT))).trans cj))⟩))
   ·have m:J<i:=Nat.lt_of_le_of_ne (CV m) h;have b4:=am (tF m) (cW o)
    exact(l.4 J d8 m b2).c (y _ (iR (am w AF)) (fY (eb (am (qT m) (cW o)))) (fY (am (qT m) (cW o)))) (y _ (iR (am w (bX _ _))) (fY (eb b4)) (fY b4))),(λk q t=>(y k q (λh=>rI (t _ h) (jD a0)) λh=>rI (t _ h) a0).trans (l.5 k q t))⟩)⟩)
def fW(f)(u:S U)(b:List E)(a:List bY):=b.length=a.length/\∀i v r,Z b i=B v->Z a i=B r->gH f u v r
theorem VM{X}{u}{E}(P:fW X.d u v X.a)(b3:X.a.length<50)(b0:X.l<=1000)(x:X.d<X.h)(S:X.h<X.l)(a1:X.f<X.h)(a2:u.b (.c X.f)=.e 1 [(6,G 0),(7,.b (.c X.h)),(8,.g)])(b1:u.b r=.a v)(U:∀z,r=.c z->z<X.d):
  ∀k i b c d e f h s,i+k=X.a.length->sb X u s i->∃m n o q t w V,ed (H F) (.g r) (dK (H F) (.e [.a 6,.a 7,.a 8,.a 9,.a 10]) (as (H F) (ah (H F) (E+1)) uW)) (k+1) i (nb p X.d r g X.f b c d e f h) s=B ((.a,nb p X.d r g X.f m n o q t w),V)/\sb X u V X.a.length:=λk=>by
 have T:∀{i s},sb X u s i->s.b r=.a v:=λ{i s} a=>(a.5 r (λj=>CW x (U _ j)) λz j=>dt (U _ j) (dt x S)).trans b1
 induction k with
 |zero=>intro i b c d e f h s l a;have W:=kL (t:=dK (H F) (.e [.a 6,.a 7,.a 8,.a 9,.a 10]) (as (H F) (ah (H F) (E+1)) uW)) (n:=0) (l:=nb p X.d r g X.f b c d e f h) (T a);rw[P.1,←l]at W;exact(Co _ _ _ _ _ _ s ⟨W,(J l a)⟩)
 |succ k b2=>
  intro i b c d e f h s l a;have y:i<X.a.length:=J l (px (lq k));cases K:Z _ i with
  |none=>exact ak (lT K) (CZ.mpr y)
  |some b4=>cases L:Z v i with|none=>exact ak (lT L) (C P.1 (rI y))|some b7=>exact Cf (VF (n:=E) (p:=p) (r:=r) (g:=g) (b:=b) (c:=c) (d:=d) (e:=e) (f:=f) (a:=h) a K (P.2 i b7 b4 L K) (dt y b3) b0 x S a1 a2) λm n o q t w b5 Q=>fg Q λj Y=>(Cf (b2 (i+1) m n o q t w b5 ((S4 i k).trans l) Y) λa3 a4 a5 a6 a7 a8 b6 Q=>fg Q λa9 a0=>(Co a3 a4 a5 a6 a7 a8 b6 ⟨(jV (T a) L j a9),a0⟩))
def FK:=[.c,.e 2 (vu (.b (.c 12)) (.b (.c 16)) (.b (.c 8))),.f,.a [],.f,.f,.a [],.f,.a [],.f,.f,.f,.a [G 0,G 1,G 2],.f,.f,.f,hW,.f]
theorem QM(n):tN (rj++(Br++(bv 18).map .c)) (ra (gb gd) (ah (gb gd) (n+1)) (qe.a.take 5) ([.b (.c 0)]++bG 13) ⟨fK [] [.c],1⟩)=B (.d ([.b (.c 0),.b (.c 1)]++bG 12),cZ++(hs 14 .c++FK),18):=by kernel_rfl
theorem QK{t:S U}(x:cD t)(q:t.a<=90000)(u:p<t.a):
  ∃a,as (H F) (ah (H F) (n+1)) (qe.a.take 5) ([.b (.c p)]++bG 13) t=B ((.a,[.b (.c p),.b (.c t.a)]++bG 12),a)/\a.a=t.a+17/\cD a/\a.b (.c t.a)=.e 2 (vu (.b (.c (t.a+11))) (.b (.c (t.a+15))) (.b (.c (t.a+7))))/\a.b (.c (t.a+7))=.a []/\a.b (.c (t.a+11))=.a [G 0,G 1,G 2]/\a.b (.c (t.a+15))=hW/\(∀i,i<14->a.b (.d (16+i))=t.b (.d (16+i)))/\∀c,c<t.a->a.b (.c c)=t.b (.c c):=by
 let v:em:=⟨[],[],[],[p],t.a,0⟩
 have g:gI v:=⟨fF.mpr ⟨cI,mr⟩,T u ae⟩
 have P:cM (ai v) gd:=gB ae ae ae ae ae;have k:bD _ ⟨fK [] [.c],1⟩ t:=qW g P x A trivial (an p _ A A A);refine gf (xk (QM n)) λy l d j=>?_
 refine bJ (Bk (gF g P) (n+1) _ _ k _ _ l) λa m b=>?_
 have o:∀i f,Z FK i=B f->i<18->bR _ a.a (.c i) f _:=λi f e r=>by exact J (kf d (gA.trans (gA.trans (zF r))) (gA.trans (gA.trans e))) (b.1 (.c i))
 exact⟨a,(KG (Bj m) (nj b j) (wZ b (aP (am (ct (nj b j)) (aQ q 17)) A) (λi h=>kf d (gQ (nu h).1) (gQ (nu h).2)) (gF g P)) ((o 1 _ A (by decide)).elim λE z=>z.1.trans (O (bq.e _) (Fl z.2 A))) (o 8 _ A (by decide)) (o 12 _ A (by decide)) (o 16 _ A (by decide)) (λi h=>by
  have w:=b.1 (.d (16+i));rw[show(dh gd v t.b).a.a y.b _=.c from(kf d ((gA).trans (gQ (by refine C dC (C (jA) (C (rD h) ?_));rfl))) ((gA).trans (gQ (by exact C dC (C (Ln) (C (if_pos h) A))))))]at w
  exact w) (λc s=>(di (c=p)).elim (λe=>C e (o 0 _ A (by decide))) λe=>vw b s (T e ae)))⟩
theorem fq.a{X}(j:fq X t i o e)(h:fq X t i g f):o=g/\e=f:=mh j λw p u r j=>cf h λx q v h=>h.elim λs h=>⟨j.1.1.elim λm e=>h.1.1.elim λn l=>by
  have k:m=n:=O pz (R (O qP (e.1.symm.trans l.1)));subst k;exact R ((dg (k:=0) e.2 A).symm.trans (dg l.2 A)),by
  have k:=Jr j.1 h.1;subst k
  exact R (O ce (j.1.2.symm.trans h.1.2))⟩
theorem fq.c{X}{i}{o}{e}(h:fq X t i o e)(f:X.c i<t.a)(g:∀e,e<t.a->s.b (.c e)=t.b (.c e))(l:t.a<=s.a):fq X s i o e:=
 rq h λq j n k h=>(aK ⟨h.1.1.imp λm z=>⟨(g _ f).trans z.1,z.2⟩,(g q h.2.1).trans h.1.2⟩ (cO h.2.1 l) h.2.2)
theorem zv(h:cL a l)(e:sF k a=B (B w)):cG k l=B w/\aF w=I:=
 ⟨dg h e,(Fj h (by exact C e A)).elim λv z=>C (R ((dg h e).symm.trans z.1)) z.2⟩
noncomputable def ES:aJ:=.d [.c (.a 13) 0,.c (.a 13) 1,.m 1 [.c (.a 13) 2]]
theorem Ow{X}(h:fq X s j o b)(i:Z l 13=B (X.i j))(r:cD s)(k:s.a<=95000):∃d,K (H F) a ES l s=B (.d [o,d,.b (.c s.a)],⟨aZ.d s.b (.c s.a) (.a b),s.a+1⟩):=
 mh h λq d p m h=>h.1.1.elim λn z=>by have e:K _ a _ l s=B _:=iY i A;have f:=zv (k:=0) z.2 A;have c:=zv (k:=1) z.2 A;have g:=zv (k:=2) z.2 A;exact⟨d,jT (kb (bF e z.1 f.1 f.2) (kb (bF e z.1 c.1 c.2) (eE (ze (bF e z.1 g.1 g.2) h.1.2 (aP (h.2.2.2) A) (r.2 _ (bd _)) (bB k A)))))⟩
theorem yV{e:E->aC->S U->av U _}{n i}{c b}{v x}(h:s.b r=.a c)(g:Z c i=B v)(d:e v l s=B (B x,a))(f:b.length<100000)(k:fu (H F) (.g r) e n (i+1) (b++[x]) l a=q):fu (H F) (.g r) e (n+1) i b l s=q:=
 au (b:=B v) (au (show ce (s.b r)=_ by exact C h A) (C g A)) (ab d (by
  exact C (show ar _ _=D from er f) k))
theorem yU{e}{n i}{l}{s}(h:s.b r=.a v)(b:Z v i=N):fu (H F) (.g r) e (n+1) i a l s=B (a,s):=
 au (au (show ce (s.b r)=_ by exact C h A) (C b A)) A
def Dt(X)(t s:S U)(b:List Nat)(v:List E):=∀i j o a,Z b i=B j->fq X t j o a->∃d q,Z v i=B (.d [o,d,.b (.c q)])/\q<s.a/\s.b (.c q)=.a a
theorem At{f:a->b}:∀{l}{i},Z (l.map f) i=(Z l i).map f:=λ{l i}=>C dC (C dC (C jA A))
theorem wD{l r:List a}{i}(h:i<l.length):Z (l++r) i=Z l i:=C dC (C dC (C (List.getElem?_append_left h) A))
theorem Vl{X:aU}{u}{V:Nat}{s}(a4:u.b (.c V)=.a (s.map X.i))(a8:V<u.a)(c9:∀a7∈s,X.c a7<u.a/\∃a9 p,fq X u a7 a9 p)(a1:u.a+s.length<=95000)(c3:s.length<=50):
  ∀E r w t,r+E=s.length->w.length=r->t.a=u.a+r->cD t->(∀p,p<u.a->t.b (.c p)=u.b (.c p))->Dt X u t (s.take r) w->
   ∃P L,fu (H F) (.g (.c V)) (dK (H F) (.a 13) (km (H F) N (K (H F) a ES))) (E+1) r w [b,c,g,h,i,j,k,l,m,n,d,e,f,o] t=B (P,L)/\P.length=s.length/\L.a=u.a+s.length/\cD L/\(∀p,p<u.a->L.b (.c p)=u.b (.c p))/\Dt X u L s P:=λE=>by
 induction E with
 |zero=>intro r w t q x v G y Q;have q:r=s.length:=q;refine(rr w t (yU ((y _ a8).trans a4) (by refine C At (C dC (C (Lm (cW q)) ?_));rfl)) (pu (am (ct x) (ct q)) (am (cW q) (cW x))) (pu (ap [_,_,_,_] (.c 1 (.a 0) (.c (.a 1) (.a 2)) (.c 1 (.a 2) (.a 3) .b)) (.a 0) (.c (.a 1) (.a 3)) A v q) (ap [_,_,_,_] (.c (-1) (.a 0) (.c (.a 1) (.a 2)) (.c (-1) (.a 2) (.a 3) .b)) (.c (.a 1) (.a 3)) (.a 0) A v q)) G y (by rw[q,up]at Q;exact Q))
 |succ E c4=>
  intro r w t q x v G y Q;have z:r<s.length:=ap [_,_,_] (.c 1 (.c (.a 0) (.c (.a 1) (.b 1))) (.a 2) .b) (.c (.a 0) (.b 1)) (.a 2) A q;have a5:Z s r=B s[r]:=C dC (C (Ll z) A);refine fg (c9 s[r] (List.getElem_mem z)) λc6 d1=>aq d1 λa9 p b2=>?_
  let Y:=[b,c,g,h,i,j,k,l,m,n,d,e,f,X.i s[r]]
  refine cn (Ow (a:=a) (l:=Y) (b2.c c6 y (ap [_,_,_] (.c (-1) (.a 0) (.c (.a 1) (.a 2)) .b) (.a 1) (.a 0) A v)) A G (ap [_,_,_,_] (.a 1 (.c (.a 0) (.a 1)) (.b 95000) (.c 1 (.a 2) (.c (.a 0) (.a 3)) (.a 1 (.c (.a 3) (.b 1)) (.a 1) .b))) (.a 2) (.b 95000) A a1 v z)) λb5 c0=>?_
  let b1:S U:=⟨aZ.d t.b (.c t.a) (.a p),t.a+1⟩
  have a0:∀p,p<t.a->b1.b (.c p)=t.b (.c p):=λp q=>ba (cy (bw q))
  refine mf (c4 (r+1) (w++[.d _]) b1 (pu (ap [_,_,_] (.c 1 (.c (.a 0) (.c (.a 1) (.b 1))) (.a 2) .b) (.c (.c (.a 0) (.b 1)) (.a 1)) (.a 2) A q) (ap [_,_,_] (.c (-1) (.c (.a 0) (.c (.a 1) (.b 1))) (.a 2) .b) (.a 2) (.c (.c (.a 0) (.b 1)) (.a 1)) A q)) (by refine C dr (C x ?_);rfl) (by exact pu (ap [_,_,_] (.c 1 (.a 0) (.c (.a 1) (.a 2)) .b) (.c (.a 0) (.b 1)) (.c (.a 1) (.c (.a 2) (.b 1))) A v) (ap [_,_,_] (.c (-1) (.a 0) (.c (.a 1) (.a 2)) .b) (.c (.a 1) (.c (.a 2) (.b 1))) (.c (.a 0) (.b 1)) A v)) ⟨by exact ap [_,_,_,_] (.a 1 (.c (.a 0) (.a 1)) (.b 95000) (.c 1 (.a 2) (.c (.a 0) (.a 3)) (.a 1 (.c (.a 3) (.b 1)) (.a 1) .b))) (.c (.a 2) (.b 1)) (.b 97000) A a1 v z,λc7 a6=>(ba (cy (cC a6))).trans (G.2 c7 (pw a6)),G.3⟩ (λp q=>(a0 p (ap [_,_,_,_] (.c (-1) (.a 0) (.c (.a 1) (.a 2)) (.a 1 (.c (.a 3) (.b 1)) (.a 1) .b)) (.c (.a 3) (.b 1)) (.a 0) A v q)).trans (y p q)) (by
   intro W c5 c8 b3 T a2;have b4:W<r+1:=by have:=cE T;rw[Lp]at this;omega
   rw[dC,CO,if_pos b4,←dC]at T
   by_cases b7:W=r
   ·subst b7;have b9:=R (T.symm.trans a5);subst b9;obtain⟨rfl,rfl⟩:=b2.a a2;exact(an b5 t.a (by rw[dC,CM (pv x),x,S3];rfl) (fi _) cj)
   ·obtain⟨b6,b0,c1,a3,c2⟩:=Q W c5 c8 b3 (by exact C dC (C CO (C (if_pos (by omega)) (J dC T)))) a2
    exact(an b6 b0 ((wD (by omega)).trans c1) (eb a3) ((a0 b0 a3).trans c2)))) λP d0 b8 d2=>?_
  exact(dE P d0 (yV ((y _ a8).trans a4) (by refine C At (C a5 ?_);rfl) (au (b:=Y) A (ab c0 A:kZ _ Y t=_)) (aP (am (am (aQ (ct x) 1) z) c3) A) b8) d2)
section
variable{b:Nat->List E->S U->av U E}{l c:aC}{s a:S U}{e:aJ}{x y:List de}{q:av U (cQ×aC)}{v:E}
theorem YF(i:K (H F) b e l s=B (.b d,s))(h:s.b d=.a [v])(t:dK (H F) g (as (H F) b x) (.d [G 0,v]) l s=B ((.a,c),a))(j:a.b d=.a [v])(m:as (H F) b y c a=q):as (H F) b (.g g (.a e) x::y) l s=q:=by
 have f:hG (H F) (.a d) s.b=1:=by show((ce (s.b d)).getD []).length=_;exact C h A
 have k:uf (H F) _ l s=B _:=ab i (ab (au A (au (show ce (s.b d)=_ by refine C h ?_;rfl) A)) A);exact(gx (ab k (C f ((au (au (show ce (s.b d)=_ by refine C h ?_;rfl) A) (ab t (au (b:=N) (au (show ce (a.b d)=_ by refine C j ?_;rfl) A) A)):Y (jl _ (.a d) 0 s.b) _=_)))) m:dS (jy _ g _ _) _ l s=_)
theorem Ni(p:Z l 2=B (G 0))(r:cD s)(i:s.a<=90000):
  ∃d,K (H F) (ah (H F) (n+1)) (.t 1 N [.a 2]) l s=B (.b (.c s.a),d)/\d.b (.c s.a)=.e 1 [(6,G 0),(7,.b (.c (s.a+2))),(8,.g)]/\d.b (.c (s.a+2))=.a []/\d.a=s.a+5/\∀g,g≠ .c s.a->g≠ .c (s.a+2)->d.b g=s.b g:=by
 let f:af:=.c s.a
 let a:S U:=⟨aZ.d s.b f (.e 1 []),s.a+1⟩
 let d:S U:=⟨aZ.d a.b f (.e 1 [(6,G 0)]),s.a+2⟩
 let k:S U:=⟨aZ.d d.b (.c (s.a+2)) (.a []),s.a+3⟩
 let m:S U:=⟨aZ.d k.b f (.e 1 [(6,G 0),(7,.b (.c (s.a+2)))]),s.a+4⟩
 let w:S U:=⟨aZ.d m.b f (.e 1 [(6,G 0),(7,.b (.c (s.a+2))),(8,.g)]),s.a+5⟩
 have u:fL _ N _ s=B (.b f,a):=hR (r.2 _ (bd _)) (bB i A);have h:af.c (s.a+2)≠f:=cy DI;have o:d.b _=.f:=(ba h).trans ((ba h).trans (r.2 _ (bX _ _)));exact(pk w (ab (eE (iY p A)) (au A (ab u (ab (jS A A (iv A A A cj A A (iS i A) (iv (b:=k) (EZ o (iS i A)) A A ((ba h.symm).trans cj) A A (iS i A) (iv (b:=m) A A A cj A A (iS i A) A)))) A))):kl _ _ 1 N [K _ (ah (H F) (n+1)) _] l s=_) cj ((ba h).trans ((ba h).trans cj)) A (λg j t=>(ba j).trans ((ba j).trans ((ba t).trans ((ba j).trans (ba j))))))
end
theorem nq:af.d i≠af.c j:=af.noConfusion
theorem GU(r:cD t)(h:t.b (.c a)≠ .f):a<t.a:=Nat.lt_of_not_le λl=>h (r.2 a l)
noncomputable def qu(b k:Nat)(r:List bY):aU:=⟨b,b+15,b+17,b+19,0,b+22,k,r,λz=>.f⟩
noncomputable def qm:E:=.d [W 27,.b (.d 9),G 0]
theorem fW.c{f}{t e}(h:fW f t v r)(g:∀d,d<f->e.b (.c d)=t.b (.c d))(s:∀i,i<10->e.b (.d i)=t.b (.d i)):fW f e v r:=
 ⟨h.1,λi n l j k=>(h.2 i n l j k).imp λd z=>(aK z.1 ((match d,z.2.2.1 with
  |.c m,z=>g m (z.1 m A)
  |.d m,z=>s m (z.2 m A):e.b d=t.b d).trans z.2.1) z.2.2)⟩
def W8:List de:=[.c 5 (.t 1 .none [.a 2]),.g (.e [.a 6,.a 7,.a 8,.a 9,.a 10]) (.d (.a 3)) uW,.f (.a 5) 8 (.t 0 .none [.f (.a 4) (.b (.a (.a 0))),.p (.b (.a (.a 1))),.m 1 [.f (.a 4) (.b (.a (.a 1)))],.f (.a 4) (.b (.a (.a 2)))]),.d (.h (.c (.a 1) 13) 0 [.a 5])]
theorem TA(h:b+22<=e):[b,b+7,b+17,e+1,b+11,b+15,b+19,e].Nodup:=
 have l:∀{i},cV _ 22=D->b+i≠e:=λr=>bw (gq h r)
 have a:∀{i},cV _ 22=D->b+i≠e+1:=λr=>bw (eb (gq h r))
 ng (T iT (T iT (T (a (i:=0) A) (T iT (T iT (T iT (T (l (i:=0) A) ae)))))))
  (ng (T (eB A) (T (a A) (T (eB A) (T (eB A) (T (eB A) (T (l A) ae))))))
   (ng (T (a A) (T (eB A) (T (eB A) (T (eB A) (T (l A) ae)))))
    (ng (T (a A).symm (T (a A).symm (T (a A).symm (T DI ae))))
     (ng (T (eB A) (T (eB A) (T (l A) ae)))
      (ng (T (eB A) (T (l A) ae)) (ng (T (l A) ae) (ng ae mr)))))))
theorem SP(h:b+22<=e):∀a∈[b,b+7,b+17,e+1,b+11,b+15,b+19,e],a<e+10:=
 have l:∀{i},cV _ 22=D->b+i<e+10:=λr=>rH 10 (gq h r)
 T (l (i:=0) A) (T (l A) (T (l A) (T (mG A) (T (l A) (T (l A) (T (l A) (T (uM A) ae)))))))
theorem Ot{t}(P:cD t)(E:t.a<=500)(f9:∀i,i<14->t.b (.d (16+i))=.f)(g2:t.b (.c p)=.a [.d [.b (.c a),qm]])(c3:t.b (.c a)=.a v)(c9:fW t.a t v r)(b3:a<t.a)(c6:p<t.a)(c5:r.length<50):
  ∃b0 a2,(∀{q},as (H F) (ah (H F) (n+1)) (qe.a.drop 6) b0 a2=q->as (H F) (ah (H F) (n+1)) qe.a ([.b (.c p)]++bG 13) t=q)/\(∃d8 d9 e0 e1 e2 e3 e4 e5 d6 d7,b0=[.b (.c p),.b (.c t.a),d8,d9,e0,e1,e2,e3,e4,e5,d6,d7,.f,.f])/\uG (qu t.a k r) a2 (t.a+11) (t.a+7) (t.a+22+10*r.length+1) (t.a+22+10*r.length)/\a2.a=t.a+22+10*r.length+10/\∀b,b<t.a->a2.b (.c b)=t.b (.c b):=by
 refine cn (QK (n:=n) P (aP E A) c6) λa3 h2=>KB h2 λg6 L V f8 f4 g5 g8 g9 a5=>?_
 let X:=qu t.a k r
 let c4:=[.b (.c p),.b (.c t.a),G 0,.b (.c a),qm,.f,.f,.f,.f,.f,.f,.f,.f,.f]
 refine me (Ni (n:=n) (l:=c4) A V (aP (am (ct L) (aQ E 17)) A)) λa4 c0 Y b8 g4 w=>?_
 have h1:a3.a+2=X.h:=by refine C L ?_;rfl
 have b6:a4.a=X.l:=g4.trans (by refine C L ?_;rfl);rw[h1]at b8 w Y;rw[L]at Y w c0;have a7:=λb h=>(w _ (fY (rH 17 h)) (fY (rH 19 h))).trans (a5 b h)
 have d1:∀i,a4.b _=a3.b (.d i):=λi=>w _ af.noConfusion af.noConfusion
 have b7:cD a4:=⟨aP (am (ct b6) (aQ E 22)) A,λm a8=>have q:=am (cW b6) a8;(w _ (iR (gq q A)) (iR (gq q A))).trans (V.2 m (am (ct L) (am (uN A) q))),λi j=>(d1 i).trans (V.3 i j)⟩
 refine Cf (VM (E:=n) (p:=.c p) (g:=qm) (c9.c a7 λi j=>(b7.3 i j).trans (P.3 i j).symm) c5 (aP (aQ E 22) A) (uM A) (mG A) (mG A) Y ((a7 a b3).trans c3) (λm o=>by cases o;exact b3) _ 0 .f .f .f .f .f .f a4 (ie _) ⟨b6,b7,b8,λa0 P h=>ak h (yc a0),λd5 d5 d5=>A⟩) λe8 e9 f0 f1 f2 f3 s h3=>fg h3 λf5 c=>?_
 have e:s.a=X.l+10*r.length:=c.1;have l:=am (bX _ _) (cW e);have Q:=am (ct e) (rF (aQ E 22) (LA 10 (CV c5)))
 let b1:=nb (.c p) X.d (.c a) qm X.f e8 e9 f0 f1 f2 f3
 have a9:∀{i}{d2}{a1},Z _ i=B d2->aF d2=I->K _ (ah (H F) (n+1)) (.f (.a 4) _) b1 a1=B _:=λh g3=>gv A A h g3
 let g7:S U:=⟨aZ.d s.b (.c s.a) (.a [aD (G 1)]),s.a+1⟩
 have e6:bs (eM _ (ah (H F) (n+1)) [.f (.a 4) (.b (.a (.a 0))),.p (.b (.a (.a 1))),.m 1 [.f (.a 4) (.b (.a (.a 1)))],.f (.a 4) (.b (.a (.a 2)))]) b1 s=B ([W 27,G (-1),.b _,G 0],g7):=
  kb (a9 A A) (kb A (nd (ze (a9 A A) (show s.b _=.a [aD _] from c.2.3 9 (by decide)) (by decide) (c.2.2 _ (bd _)) (bB Q A)) (eE (a9 A A))))
 refine lg (Ju e6 A A A ((ba (cy (py _))).trans (c.2.2 _ (gk _))) (iS (aQ Q 1) A)) λb5 f6 f7 b4 c2=>?_
 have J:=λe7 d g=>(c2 e7 g).trans (ba d)
 let z:S U:=⟨aZ.d b5.b (.c X.f) (.e 1 [(6,G 0),(7,.b (.c X.h)),(8,.b (.c (s.a+1)))]),b5.a+1⟩
 have a6:∀b,b<X.l->b≠X.f->b≠X.h->z.b _=a3.b _:=λb d g x=>(ba (cy g)).trans ((J _ (fY (am d l)) (fY (eb (am d l)))).trans ((c.5 _ (cy x) λm o=>by cases o;exact d).trans (w _ (cy g) (cy x))))
 have c1:=(a6 _ (uM A) (iT) (iT)).trans f8;have b9:=(a6 _ (mG A) (eB A) (eB A)).trans f4
 let T:S U:=⟨aZ.d z.b (.c (t.a+7)) (.a [.b (.c X.f)]),z.a+1⟩
 have y:T.a=s.a+10:=O (· +2) b4;have u:∀b,b≠t.a+7->T.b _=z.b _:=λb h=>ba (cy h)
 have b2:=λb d g x g1=>(u b g1).trans (a6 b d g x)
 have c7:=λb h=>(b2 b (rH 22 h) (bw (rH 17 h)) (bw (rH 19 h)) (bw (rH 7 h))).trans (a5 b h)
 have j:=λb d g x=>(u b (cC (gq d A))).trans ((ba (iR (gq (j:=22) d A))).trans (J _ (cy g) (cy x)))
 have d0:∀i,T.b (.d i)=a3.b _:=λi=>(ba (h:=z.b) (a:=.c (t.a+7)) (o:=.a [.b (.c X.f)]) nq).trans ((ba (h:=b5.b) (a:=.c X.f) (o:=.e 1 [(6,G 0),(7,.b (.c X.h)),(8,.b (.c (s.a+1)))]) nq).trans ((J _ nq nq).trans ((c.5 _ nq λm o=>ak o nq).trans (d1 i))))
 have c8:∀{a1:S U},(∀b,b<t.a->a1.b (.c b)=t.b _)->a1.b _=.a _:=λg0=>(g0 p c6).trans g2
 refine(xI b1 T (λ{q} k=>?_) ⟨_,_,_,_,_,_,_,_,_,_,A⟩ ?_ (y.trans (O (· +10) e)) c7)
 ·exact(kK (c:=qe.a.drop 5) g6).trans (YF A (c8 a5) (au (b:=c4) A (dJ c0 A (js A ((a7 a b3).trans c3) (C c9.1 f5) (iv f6 A A ((J _ (fY (gq l A)) (fY (eb (gq l A)))).trans ((c.5 _ (cy (eB A)) λm o=>by cases o;exact mG A).trans Y)) A A (bB (am (ct b4) (aQ Q 8)) A) (fd (qc (b:=z) (bF A c1 A A) b9 A b9 (by decide) A (iS (am (ct b4) (aQ Q 8)) A)) A))))) (c8 c7) k)
 ·have h0:=λi h=>(d0 _).trans ((g9 i h).trans (f9 i h))
  show uG X T _ _ _ _
  exact C e.symm ⟨⟨(u _ iT).trans c1,cj,((u _ (eB A)).trans (cj)),((u _ (cC (eb (gq l A)))).trans ((ba (iR (eb (gq l A)))).trans f7)),TA l,λb m=>am (SP l b m) (cW y)⟩,(b2 _ (mG A) (eB A) (eB A) (eB A)).trans g5,(u _ (eB A)).trans ((ba (cy (eB A))).trans ((J _ (fY (gq l A)) (fY (eb (gq l A)))).trans c.3)),(λa0 P f=>by
   have d3:=c.4 a0 P (cE f) f
   exact⟨d3.1.imp λb0 d4=>⟨(j _ AF (bw (am (qT (cE f)) (cW e))) (bw (eb (am (qT (cE f)) (cW e))))).trans d4.1,d4.2⟩,(j _ (bX _ _) (bw (am (tF (cE f)) (cW e))) (bw (eb (am (tF (cE f)) (cW e))))).trans d3.2⟩),λa0 f=>⟨am (am (qT f) (cW e)) (eY (cW y)),am (am (tF f) (cW e)) (eY (cW y))⟩,(b2 _ (mG A) (eB A) (eB A) (eB A)).trans g8,((u _ (cC (gq l A))).trans ((ba (iR (gq l A))).trans ((c2 _ (cy iT)).trans (cj)))),⟨aP (am (ct y) (aQ Q 10)) A,λm a8=>have q:=am (cW y) a8;(j _ (am l (eY q)) (cC (DJ q A)) (cC (gq q A))).trans (c.2.2 m (eY q)),λi h=>(d0 i).trans (V.3 i h)⟩,h0⟩
theorem Sd{g}{v x}{l e}(j:K (H F) c i l s=B (.b b,s))(h:s.b b=.a [v])(m:lA (H F) g v s.b l=B e)(f:K (H F) c d e s=B (x,a))(k:a.b b=.a [v])(n:a.b (.c a.a)=.f)(o:a.a<100000):
  K (H F) c (.u d g i .none) l s=B (.b (.c a.a),⟨aZ.d a.b (.c a.a) (.a [x]),a.a+1⟩):=
 (ab j (ab (au A (au (show ce (s.b b)=_ by exact C h A) A)) (C (show hG _ _ s.b=1 by show((ce (s.b b)).getD []).length=_;exact C h A) (ab (yV h A (au m (ab f A:kZ _ e s=_)) (by decide) (yU k A)) (hR n o)))):ia _ (K _ c d) g _ N l s=_)
theorem Sc{i d}{g}{l}{s c}(f:K (H F) b i l s=B (.b a,s))(h:s.b a=.a v)(e:fu (H F) (.g a) (dK (H F) g (km (H F) N (K (H F) b d))) (v.length+1) 0 [] l s=B (x,c))(j:c.b (.c c.a)=.f)(k:c.a<100000):
  K (H F) b (.u d g i .none) l s=B (.b (.c c.a),⟨aZ.d c.b (.c c.a) (.a x),c.a+1⟩):=
 (ab f (ab (au A (au (show ce (s.b a)=_ by exact C h A) A)) (C (show hG _ _ s.b=v.length by show((ce (s.b a)).getD []).length=_;exact C h A) (ab e (hR j k)))):ia _ (K _ b d) g _ N l s=_)
inductive LZ(k)(p)(s:S U)(c:E)(n i) where
 |mk (e:∃L a v,c=.b (.c L)/\s.b (.c L)=.a [.b (.c a)]/\s.b (.c a)=.a v/\(ar p.d 2=D->v.length=n/\∃o d q b,Z v i=B (.d [o,d,.b (.c q)])/\s.b (.c q)=.a b/\rX k p o b)/\(ar p.d 2=I->(hj k p=D->v.length=n)/\(hj k p=I->v.length=n-1)))
theorem Sb{t}{b1}{c}(c7:c.m)(c9:cD t)(a4:t.a<=138)(a5:∀l,l<14->t.b (.d (16+l))=.f)(b9:t.b (.c p)=.a [.d [.b (.c r),qm]])(c0:t.b (.c r)=.a b1)(d2:fW t.a t b1 (ci c))(c5:r<t.a)(c4:p<t.a)(G:uH (qu t.a k (ci c)))(c3:k<3):
  ∃b0 w i,ah (H F) 11 46 [.b (.c p)] t=B (b0,w)/\LZ k c w b0 (ci c).length i/\(ci c).drop i=eO c::fa c.f/\(∀a,a<t.a->w.b (.c a)=t.b (.c a))/\cD w:=by
 have o:(ci c).length<=13:=G.6;obtain⟨e2,d4,c2,⟨L,P,Q,T,V,X,Y,Z,J,K,rfl⟩,W,n,b5⟩:=Ot c9 (aP a4 A) a5 b9 c0 d2 c5 c4 (bB o A)
 let b3:=qu t.a k (ci c)
 refine ro (Ua c7 W G A ⟨so (uN A),ap [_] .b (.c (.c (.a 0) (.b 15)) (.b 1)) (.c (.a 0) (.b 22)) A,ap [_] .b (.c (.c (.a 0) (.b 19)) (.b 1)) (.c (.a 0) (.b 22)) A,ap [_] .b (.c (.c (.a 0) (.b 17)) (.b 1)) (.c (.a 0) (.b 22)) A,show t.a+22+10*(ci c).length<=_/\_ from⟨ap [_,_] .b (.c (.c (.a 0) (.b 22)) (.f 10 (.a 1))) (.c (.c (.c (.a 0) (.b 22)) (.f 10 (.a 1))) (.b 1)) A,ap [_,_,_] (.c (-1) (.a 0) (.c (.c (.c (.a 1) (.b 22)) (.f 10 (.a 2))) (.b 10)) .b) (.c (.c (.c (.c (.a 1) (.b 22)) (.f 10 (.a 2))) (.b 1)) (.b 1)) (.a 0) A n⟩,show t.a+22+10*(ci c).length<=_/\_ from⟨ap [_,_] .b (.c (.c (.a 0) (.b 22)) (.f 10 (.a 1))) (.c (.c (.a 0) (.b 22)) (.f 10 (.a 1))) A,ap [_,_,_] (.c (-1) (.a 0) (.c (.c (.c (.a 1) (.b 22)) (.f 10 (.a 2))) (.b 10)) .b) (.c (.c (.c (.a 1) (.b 22)) (.f 10 (.a 2))) (.b 1)) (.a 0) A n⟩⟩ c3 (ap [_,_,_] (.a 1 (.a 0) (.b 138) (.a 10 (.a 1) (.b 13) (.c 1 (.a 2) (.c (.c (.c (.a 0) (.b 22)) (.f 10 (.a 1))) (.b 10)) .b))) (.a 2) (.b 300) A a4 o n)) λe4 e3 d3 i c1 e0 d7=>ue d7 λd0 b x s=>?_
 have u:=b.8;have e:c1.length<=50:=by
  cases q:ar c.d 2 with
  |true=>exact C ((b.4.1 q).1) (C jB (aP o A))
  |false=>cases a8:hj _ c with|true=>exact C ((b.4.2 q).1 a8) (C jB (aP o A))|false=>refine C ((b.4.2 q).2 a8) ?_;show(ci c).length -1<=50;omega
 refine Cd (Vl (a:=ah (H F) 10) (b:=.b (.c p)) (c:=.b (.c t.a)) (g:=L) (h:=P) (i:=Q) (j:=T) (k:=V) (l:=X) (m:=Y) (n:=Z) (d:=J) (e:=K) (f:=.b (.c b3.f)) (o:=.f) b.2 (GU b.7 (C b.2 (bq.noConfusion))) (λz m=>⟨ro (b.3 z m).2 λv a q a0 m e1 h=>h.1.1.elim λa5 d8=>GU b.7 (C d8.1 (bq.noConfusion)),(b.3 z m).2⟩) (ap [_,_] (.a 1 (.a 0) (.b _) (.a 1 (.a 1) (.b 50) .b)) (.c (.a 0) (.a 1)) (.b _) A u e) e _ 0 [] d3 (ie _) A A b.7 (λd9 d9=>A) (λl z v a h=>by cases l<;>cases h)) λb2 d b4 E f j a6 d1=>?_
 let g:S U:=⟨aZ.d d.b (.c d.a) (.a b2),d.a+1⟩
 let a9:S U:=⟨aZ.d g.b (.c g.a) (.a [.b (.c d.a)]),g.a+1⟩
 have a2:∀a,a<d.a->g.b _=d.b _:=λa h=>ba (cy (bw h))
 have a3:∀a,a<d.a->a9.b _=d.b _:=λa h=>(ba (cy (bw (eb h)))).trans (a2 a h)
 have a7:=(x (t.a+7) (ap [_] .b (.c (.c (.a 0) (.b 7)) (.b 1)) (.c (.a 0) (.b 22)) A) (eB A)).trans W.1.2;refine(xK _ a9 i (ft A A (c2 (fd ((ab (eE A) d0:gg _ 45 [ca 1] [.b (.c p),.b (.c t.a),L,P,Q,T,V,X,Y,Z,J,K,.f,.f] d4=_)) (cY (Sd (bF A ((x t.a (so (uN A)) iT).trans W.1.1) A A) a7 A (Sc (bF A b.1 A A) b.2 (by rw[ea];exact b4) (j.2 _ (bd _)) (ap [_,_,_] (.a 1 (.a 0) (.b _) (.a 1 (.a 1) (.b 50) (.c 1 (.a 2) (.c (.a 0) (.a 1)) .b))) (.c (.a 2) (.b 1)) (.b _) A u e f)) ((a2 _ (ap [_,_,_,_,_,_] (.c (-1) (.a 0) (.c (.c (.c (.a 1) (.b 22)) (.f 10 (.a 2))) (.b 10)) (.a 1 (.a 0) (.a 3) (.c (-1) (.a 4) (.c (.a 3) (.a 5)) .b))) (.c (.c (.a 1) (.b 7)) (.b 1)) (.a 4) A n s f)).trans ((a6 _ (ap [_,_,_,_] (.c (-1) (.a 0) (.c (.c (.c (.a 1) (.b 22)) (.f 10 (.a 2))) (.b 10)) (.a 1 (.a 0) (.a 3) .b)) (.c (.c (.a 1) (.b 7)) (.b 1)) (.a 3) A n s)).trans a7)) ((ba (cy (py _))).trans (j.2 _ (gk _))) (ap [_,_,_] (.a 1 (.a 0) (.b _) (.a 1 (.a 1) (.b 50) (.c 1 (.a 2) (.c (.a 0) (.a 1)) .b))) (.c (.c (.a 2) (.b 1)) (.b 1)) (.b _) A u e f)))))) ⟨g.a,d.a,b2,A,cj,(ba (cy (bw (fi _)))).trans (cj),λq=>?_,λq=>?_⟩ b.5 (λa h=>(a3 a (ap [_,_,_,_,_,_,_] (.c (-1) (.a 0) (.c (.c (.c (.a 1) (.b 22)) (.f 10 (.a 2))) (.b 10)) (.a 1 (.a 0) (.a 3) (.c (-1) (.a 4) (.c (.a 3) (.a 5)) (.a 1 (.c (.a 6) (.b 1)) (.a 1) .b)))) (.c (.a 6) (.b 1)) (.a 4) A n s f h)).trans ((a6 a (ap [_,_,_,_,_] (.c (-1) (.a 0) (.c (.c (.c (.a 1) (.b 22)) (.f 10 (.a 2))) (.b 10)) (.a 1 (.a 0) (.a 3) (.a 1 (.c (.a 4) (.b 1)) (.a 1) .b))) (.c (.a 4) (.b 1)) (.a 3) A n s h)).trans ((λa h=>(x a (am h (bX _ _)) (bw (am h (bX _ _)))).trans (b5 a h)) a h))) ⟨ap [_,_,_] (.a 1 (.a 0) (.b _) (.a 1 (.a 1) (.b 50) (.c 1 (.a 2) (.c (.a 0) (.a 1)) .b))) (.c (.c (.a 2) (.b 1)) (.b 1)) (.b _) A u e f,λm y=>?_,j.3⟩)
 ·exact fg (b.4.1 q) λa1 d6=>mf d6 λv a d5 c6=>(ev (d1 i i v a (by exact C a1 (C dC (rD (cE (gu b.5).1)))) d5) λa0 c8 b6 b7 b8=>(⟨(E.trans ((O CQ a1).trans jB)),(ko v a0 c8 a (aK b6 ((a3 _ b7).trans b8) c6))⟩))
 ·exact⟨λh=>E.trans ((O _ ((b.4.2 q).1 h)).trans jB),λh=>E.trans ((b.4.2 q).2 h)⟩
 ·exact(ba (cy (cC y))).trans ((ba (cy (show m≠d.a from cC (ap [_,_] (.a 1 (.c (.c (.a 0) (.b 1)) (.b 1)) (.a 1) .b) (.c (.a 0) (.b 1)) (.a 1) A y)))).trans (j.2 m (ap [_,_] (.a 1 (.c (.c (.a 0) (.b 1)) (.b 1)) (.a 1) .b) (.a 0) (.a 1) A y)))
inductive dF(s) where
 |mk (r:cD s)
  (f:∀i,i<14->s.b (.d (16+i))=.f)
inductive bP(s a:S U)(c) where
 |mk (r:dF a)
  (l:s.a<=a.a)
  (h:a.a<=s.a+c)
  (f:∀b,b<s.a->a.b (.c b)=s.b (.c b))
theorem bP.a{j i}(g:bP s d j)(h:bP d e i):bP s e (j+i):=
 ⟨h.1,aV g.2 h.2,aV h.3 (J (gX s.a j i) (rG g.3 i)),λx k=>(h.4 x (cO k g.2)).trans (g.4 x k)⟩
theorem bP.b(r:dF s):bP s s 0:=⟨r,bd _,bd _,λz z=>A⟩
theorem dF.b(r:dF s)(c:a<=s.a)(d:s.a<90000):dF ⟨aZ.d s.b (.c a) o,s.a+1⟩:=
 ⟨⟨aV d (by decide),λm h=>(ba (cy (cC (dA c h)))).trans (r.1.2 m (pw h)),r.1.3⟩,r.2⟩
theorem bP.f(r:dF s)(d:s.a<90000):bP s ⟨aZ.d s.b (.c s.a) o,s.a+1⟩ 1:=
 ⟨r.b (bd _) d,gk _,bd _,λe h=>ba (cy (bw h))⟩
def nW(b)(v:E):=∀o d a m f,v=.d [o,d,.b a,m,f]->a≠ .c b
def es(s:S U)(b:E)(r:List bY):=∃a v,b=.b (.c a)/\a<s.a/\s.b (.c a)=.a v/\fW s.a s v r/\∀w∈v,nW a w
theorem Kn{g h}(i:E.d [o,d,.b g,m,f]=.d [e,a,.b h,c,b]):g=h:=R (O (λv=>Y (dP 2 v) hC) i)
theorem fW.b{s}{f d}(e:fW f s v r)(l:f<=d):∀w∈v,nW d w:=λw m x p n u t g=>by
 refine cn (P4 m) λi h=>?_
 rw[←dC]at h;cases q:Z r i with|none=>exact ak (cE h) (hu.mpr (e.1▸lT q))|some k=>exact(e.2 i w k h q).elim λo z=>λj=>ak (z.2.2.1.1 d ((Kn (z.1.symm.trans g)).trans j)) (hu.mpr l)
theorem gH.a{r}(n:bP s b c)(t:cD s)(h:gH s.a s v r):gH b.a b v r:=
 h.imp λd z=>(da z.1 ((match d,z.2.2.1 with
  |.c m,z=>n.4 m (z.1 m A)
  |.d m,z=>(n.1.1.3 m (z.2 m A)).trans (t.3 m (z.2 m A)).symm:b.b d=s.b d).trans z.2.1) ⟨λm e=>cO (z.2.2.1.1 m e) n.2,z.2.2.1.2⟩ z.2.2.2)
theorem fW.a{s e}(n:bP s e d)(t:cD s)(h:fW s.a s v r):fW e.a e v r:=⟨h.1,λi k j f g=>(h.2 i k j f g).a n t⟩
theorem es.a(n:bP s b c)(t:cD s)(h:es s v r):es b v r:=c' h λd e h=>(iD h.1 (cO h.2.1 n.2) ((n.4 d h.2.1).trans h.2.2.1) (h.2.2.2.1.a n t) h.2.2.2.2)
theorem qX{v w}(h:fW f s v r)(k:fW f s w a):fW f s (v++w) (r++a):=
 ⟨C dr (C dr (C h.1 (C k.1 A))),λi g d b c=>by
  by_cases e:i<v.length
  ·rw[wD e]at b;rw[wD (h.1▸e)]at c;exact h.2 i g d b c
  ·have e:=hu.mp e;rw[dC,CM e,←dC]at b;rw[dC,CM (J h.1 e),←h.1,←dC]at c
   exact k.2 _ g d b c⟩
theorem no(a:gH f s v r):fW f s [v] [r]:=⟨A,λi w q h b=>by
 cases i with
 |zero=>exact J (R h) (R b▸a)
 |succ i=>exact X h⟩
section
variable{c:Nat->List E->S U->av U E}{l:aC}{s a b:S U}{e d g m h:aJ}{n o:List aJ}{v w:E}{r:bY}{f i j:List bY}{k:Nat}
theorem hU(T:ar k 1000=D)(L:∀s,K (H F) c g l s=B (G r.a,s))(E:bs (eM (H F) c n) l s=B (r.c,s))(Q:∀s,K (H F) c m l s=B (r.f,s))(P:∀s,K (H F) c h l s=B (.c r.d,s))(t:k=r.b/\r.c.length<1000/\aF r.f=I)(u:dF s)(x:s.a<90000):
  ∃v a,K (H F) c (.d [.b (.e k),g,.g N n,m,h]) l s=B (v,a)/\bP s a 1/\gH a.a a v r/\∀q,q<s.a->nW q v:=by
 let a:S U:=⟨aZ.d s.b (.c s.a) (.a r.c),s.a+1⟩
 have y:K (H F) c (.b (.e k)) l s=B (W k,s):=by show aI (ar k 1000) _=_;exact C T A
 exact(dR _ a (jT (kb y (kb (L s) (nd ((ab E (hR (u.1.2 _ (bd _)) (aP x A)):iB _ N _ l s=_)) (kb (Q a) (eE (P a))))))) (.f u x) ⟨.c s.a,C t.1 A,cj,⟨λm p=>J (af.f p) (fi _),λm p=>ak p.symm nq⟩,t.2.1,t.2.2⟩ (λq z V g e m h p=>J (Kn p) (cy (cC z))))
theorem Bc(x:bs (eM (H F) c o) l s=B (p,a))(q:bP s a k)(u:fW a.a a p f)(t:a.a<90000):∃v b,K (H F) c (.g N o) l s=B (v,b)/\bP s b (k+1)/\es b v f:=
 (an _ _ (ab x (hR (q.1.1.2 _ (bd _)) (aP t A)):iB _ N _ l s=_) (q.a (.f q.1 t)) (xI _ p A (fi _) cj (u.a (.f q.1 t) q.1.1) (u.b (bd _))))
theorem VI(P:K (H F) c e l s=B (v,a))(y:es a v i)(Q:K (H F) c d l a=B (w,b))(p:bP a b k)(T:dF a)(z:es b w j)(t:b.a<90000)(S:i.length+j.length<1000):∃x u,K (H F) c (.i .b e d) l s=B (x,u)/\bP a u (k+1)/\es u x (i++j):=by
 refine mg (y.a p T.1) λW a0 q Y J E U=>?_;subst q
 refine mg z λX a1 q Z L G U=>?_;subst q
 have V:=qX E G;exact(an _ _ (ab P (ab Q ((au (show ce (b.b _)=_ by refine C J ?_;rfl) (au (au A (show ce (b.b _)=_ by refine C L ?_;rfl)) (qI (by exact C V.1 (C dr (ap [_,_] (.a 1 (.c (.c (.a 0) (.a 1)) (.b 1)) (.b 1000) .b) (.c (.c (.a 0) (.a 1)) (.b 1)) (.b 100000) A S))) (p.1.1.2 _ (bd _)) (aP t A)))))):fC _ .b _ _ l s=_) (p.a (.f p.1 t)) (xI _ _ A (fi _) cj (V.a (.f p.1 t) p.1.1) (V.b (bd _))))
theorem xh(b0:Z l p=B v)(J:es s v f)(a9:K (H F) c e l s=B (w,a))(t:bP s a k)(b3:dF s)(a1:gH a.a a w r)(L:∀q,q<s.a->nW q w)(T:a.a<90000)(b1:f.length<1000):
  ∃b,K (H F) c (.h (.a p) 0 [e]) l s=B (.g,b)/\dF b/\b.a=a.a+1/\es b v (f++[r])/\∀d,d<s.a->E.b (.c d)≠v->b.b (.c d)=s.b (.c d):=by
 refine mg J λq Y a4 y P a2 b5=>?_;subst a4
 refine mg (J.a t b3.1) λb6 b7 a3 W Q V G=>?_
 cases a3;have a5:=R (O ce (P.symm.trans ((t.4 _ y).symm.trans Q)));subst a5
 let b:S U:=⟨aZ.d a.b (.c q) (.a (Y++[w])),a.a+1⟩
 have X:∀{v}{r},nW q v->gH a.a a v r->gH _ b v r:=λa0 a6=>a6.imp λe z=>(da z.1 ((ba (a0 _ _ _ _ _ z.1)).trans z.2.1) ⟨λm u=>eb (z.2.2.1.1 m u),z.2.2.1.2⟩ z.2.2.2)
 refine(pk b (qc (iY b0 A) P a9 Q (by exact C a2.1 (aP b1 A)) A (aP T A)) (t.1.b (fh W) T) A ⟨q,Y++[w],A,eb W,cj,qX ⟨V.1,λp v r x a7=>X (G v (by rw[dC]at x;exact fE x)) (V.2 p v r x a7)⟩ (no (X (L q y) a1)),λb4 m=>(hq.mp m).elim (G b4) λm=>C (fR.mp m) (L q y)⟩ (λd a8 b2=>(ba (cy λu=>b2 (O (λm=>E.b _) u))).trans (t.4 d a8)))
end
section
variable{e:Nat->List E->S U->av U E}{l:aC}{s h:S U}{d g j k:aJ}{m:List aJ}{v:E}{i:List E}
theorem Qk{d g:Nat}:cs d g=(d%g:Nat):=by cases d<;>cases g<;>first|rfl|exact congrArg _ _
theorem PP{d g:Nat}:fD d g=(d / g:Nat):=by cases d<;>cases g<;>first|rfl|exact congrArg _ (Nat.zero_div _).symm
theorem zi(b:K (H F) e d l s=B (G x,s))(c:(!(a==0))=D):K (H F) e (.i .a d (.b (.a (.a a)))) l s=B (G (cs x a),s):=by
 refine(ab b ?_:fC _ .a _ (cr _) l s=_);show Y (Y (aI _ _) _) _=_
 exact C c A
theorem OF(b:K (H F) e d l s=B (G x,s))(c:(!(a==0)&&eQ a)=D):K (H F) e (.i .d d (.b (.a (.a a)))) l s=B (G (fD x a),s):=by
 refine(ab b ?_:fC _ .d _ (cr _) l s=_);show Y (Y (aI _ _) _) _=_
 exact C c A
theorem qN{x a:Nat}(b:K (H F) e d l s=B (G x,s))(c:(!((a:Int)==0))=D):K (H F) e (.i .a d (.b (.a (.a a)))) l s=B (G (x%a:Nat),s):=(zi b c).trans (C Qk A)
theorem HA{x a:Nat}(b:K (H F) e d l s=B (G x,s))(c:(!((a:Int)==0)&&eQ a)=D):K (H F) e (.i .d d (.b (.a (.a a)))) l s=B (G (x / a:Nat),s):=(OF b c).trans (C PP A)
theorem jk{x a:Nat}(b:K (H F) e d l s=B (G x,s)):K (H F) e (.e .a d (.b (.a (.a a)))) l s=B (.c (M x a),s):=by
 have w:=on (c:=.b (.a (.a a))) (.inl A) b A;rw[show((x:Int)==a)=M x a by
  cases q:M x a with
  |true=>exact C (bW q) (beq_iff_eq.mpr A)
  |false=>exact beq_eq_false_iff_ne.mpr λj=>ak (CF j) (yb q)]at w
 exact w.trans (by cases M x a<;>rfl)
theorem vo{a:Nat}(n:K (H F) e j l s=B (.d i,s))(b:K (H F) e k l s=B (G a,s))(c:Z i a=B v)(o:aF v=I)(f:ar i.length 100000=D):K (H F) e (.f j k) l s=B (v,s):=by
 refine(ab n (ab b ?_):gV _ _ _ l s=_);show aI _ (Y (Z i a) _)=_
 rw[f,c];show(a' _ _ _:Option _)=_
 exact C o A
theorem zg(b:K (H F) e d l s=B (G x,s))(c:K (H F) e g l s=B (.d i,s))(a:fx F (.a x) i=B t):K (H F) e (.e .b d g) l s=B (.c t,s):=by
 refine(ab b (ab c ?_):ei _ .b _ _ l s=_);show Y (fx F _ i) _=_
 refine C a ?_;cases t<;>rfl
theorem Q'{a:Nat}(b:a<5):fx F (.a a) [G 2,G 3]=B (M a 2||M a 3):=(T A (T A (T A (T A (T A ae)))):∀a∈([0,1,2,3,4]:List Nat),fx F (.a a) _=B (M a 2||M a 3)) a (jg b)
theorem Is(b:a<5):Z [G 3,G 4,G 5,G 6,G 0] a=B (G (fN a)):=(T A (T A (T A (T A (T A ae)))):∀a∈[0,1,2,3,4],Z _ a=B (G _)) a (jg b)
theorem qY(f:K (H F) e d l s=B (v,h))(c:bP s h a)(V:gH h.a h v r)(n:h.a<90000):∃v b,K (H F) e (.g N [d]) l s=B (v,b)/\bP s b (a+1)/\es b v [r]:=
 Bc (eE f:bs _ l s=_) c (no V) n
theorem VO{w}{r q}(p:K (H F) e d l s=B (v,h))(f:bP s h c)(V:gH h.a h v r)(t:K (H F) e g l h=B (w,a))(n:bP h a b)(o:gH a.a a w q)(u:a.a<90000):∃v a,K (H F) e (.g N [d,g]) l s=B (v,a)/\bP s a (c+b+1)/\es a v [r,q]:=
 Bc (nd p (eE t):bs _ l s=_) (f.a n) (qX (no (V.a n f.1.1)) (no o)) u
theorem tA{d g}{P:Prop}(a:(d||g)=D)(b:d=D->P)(c:g=D->P):P:=by cases d with|true=>exact b A|false=>exact c a
theorem bP.c(q:bP s p n)(r:n<=o):bP s p o:=⟨q.1,q.2,aV q.3 (dT r _),q.4⟩
end
noncomputable abbrev xE(i:aJ):aJ:=.f (.d [.b (.a (.a 3)),.b (.a (.a 4)),.b (.a (.a 5)),.b (.a (.a 6)),.b (.a (.a 0))]) i
theorem Qi:∀w:Nat,w<9->0<w->cs (- w) 4294967296=4294967296-w:=by decide
theorem Qh(h:0<=x)(k:x<4294967296):cs x 4294967296=x:=(Int.fmod_eq_emod_of_nonneg _ (by decide)).trans (Int.emod_eq_of_lt h k)
theorem JI{n b w:Nat}(u:dF s)(h:s.a<80000)(P:b<5)(a7:0<=o/\o<5)(Y:w<9):
  ∃v J,ah (H F) (n+1) 47 [G g,G b,G o,G w] s=B (v,J)/\bP s J 3/\es J v (dY g b o w):=by
 let l:=[G g,G b,G o,G w,aD (G (fN b))]
 have a3:K _ (ah (H F) n) (xE (.a 1)) [G g,G b,G o,G w,.f] s=B _:=vo A A (Is P) A A;have y:K _ (ah (H F) n) (.d [.b (.e 1),xE (.a 1)]) _ s=B (aD _,s):=jT (bV A (bV a3 A));have Q:K (H F) (ah (H F) n) (.a 3) l s=B _:=A;have m:K _ (ah (H F) n) (.e .b (.a 1) (.d [.b (.a (.a 2)),.b (.a (.a 3))])) l s=B _:=zg A A (Q' P);have p:=jk (a:=0) (qN (a:=2) Q A);have e:bc (H F) (K (H F) (ah (H F) n) (.l [.e .b (.a 1) (.d [.b (.a (.a 2)),.b (.a (.a 3))]),.e .a (.i .a (.a 3) (.b (.a (.a 4)))) (.b (.a (.a 2)))])) l s=B ((M b 2||M b 3)&&M (w%4) 2,s):=by cases q:(M b 2||M b 3)with|true=>rw[q]at m;exact sm m (jk (qN Q A))|false=>rw[q]at m;exact uJ m
 unfold dY;cases q:(M b 2||M b 3)&&M _ 2 with
 |true=>
  rw[q]at e;exact eR (hU (k:=4) A (λz=>A) A (λs=>by
   refine V q λq z=>tA q (λq=>?_) λq=>?_
   ·have f:=bW q;subst f;rfl
   ·have f:=bW q;subst f;rfl) (λz=>A) (aK A (by show 0<1000;decide) A) u (aP h A)) λv S j a d L=>(ev (qY j a d (bB (am (a.3) h) A)) λt r k c x=>(an t r ((λi=>ft A A (dJ y A i)) (fz e (cY k))) (c.c (by decide)) x))
 |false=>
  rw[q]at e;cases E:M _ 0 with
  |true=>rw[E]at p;exact eR (hU (k:=5) A (λz=>A) A (λz=>A) (λz=>A) (aK A (by show 2<1000;decide) A) u (aP h A)) λv S j a d L=>(ev (qY j a d (bB (am (a.3) h) A)) λt r k c x=>(an t r ((λi=>ft A A (dJ y A i)) (b' e (fz (bS p) (cY k)))) (c.c (by decide)) x))
  |false=>
   rw[E]at p;have a1:∀{s},K _ (ah (H F) n) _ l s=B _:=λ{s}=>(zi (d:=.i .b (.a 2) (.a 3)) A A).trans (C (Qh (by omega) (by omega)) A)
   have a2:∀{s},K _ (ah (H F) n) _ l s=B _:=λ{s}=>(zi (d:=.p (.a 3)) A A).trans (C (Qi w Y (Nat.pos_of_ne_zero λf=>by subst f;cases E)) A)
   have Z:∀{s},bs (eM _ (ah (H F) n) [.a 4,.d [.b (.e 0),.i .a (.i .b (.a 2) (.a 3)) (.j 8)]]) l s=B ([aD _,dq _],s):=λ{s}=>bV A (eE (jT (bV A (eE a1))))
   have a0:∀{s},bs (eM (H F) (ah (H F) n) [.d [.b (.e 1),.i .b (.a 0) (.b (.a (.a 1)))],.d [.b (.e 0),.i .a (.p (.a 3)) (.j 8)]]) l s=B ([aD (G _),dq _],s):=λ{s}=>bV A (eE (jT (bV A (eE a2))))
   exact eR (hU (k:=5) A (λz=>A) Z (λz=>A) (λz=>A) (aK A (by show 2<1000;decide) A) u (aP h A)) λv S j a d L=>(eR (hU (k:=5) A (λz=>A) a0 (λz=>A) (λz=>A) (aK A (by show 2<1000;decide) A) a.1 (bB (am (a.3) h) A)) λt r k c W a6=>(ev (VO j a d k c W (bB (am (am (c.3) (aQ (a.3) 1)) (aQ h 1)) A)) λa5 a4 X T U=>(an a5 a4 ((λi=>ft A A (dJ y A i)) (b' e (b' (bS p) (cY X)))) (T.c (by decide)) U)))
section
variable{a:Nat->List E->S U->av U E}{l:aC}{s e f:S U}{b c d:aJ}{p q:Bool}{v:E}
theorem Ay(h:K (H F) a b l s=B (.c p,s))(k:K (H F) a c l s=B (.c q,s)):bc (H F) (K (H F) a (.q [b,c])) l s=B (p||q,s):=by cases p with|true=>exact tB h|false=>exact wO h (bS k)
theorem iX(h:bc (H F) (K (H F) a d) l s=B (p,s))(g:p=D)(k:K (H F) a b l s=B (v,e)):K (H F) a (.o d b c) l s=B (v,e):=(ab h (by exact C g k):lh _ _ (K _ a b) (K _ a c) l s=_)
theorem iW(h:bc (H F) (K (H F) a d) l s=B (p,s))(g:p=I)(k:K (H F) a c l s=B (v,e)):K (H F) a (.o d b c) l s=B (v,e):=(ab h (by exact C g k):lh _ _ (K _ a b) (K _ a c) l s=_)
theorem VN(g:dF s)(i:s.a<90000):∃v f,K (H F) a (.g N []) l s=B (v,f)/\bP s f 1/\es f v []:=Bc (A:bs [] l s=_) (bP.b g) ⟨A,λj v r h=>X h⟩ i
end
theorem Nm{y k:Nat}(p:dF s)(d:s.a<80000):
  ∃g q,ah (H F) (y+1) 49 [G k,G o,G w,G 4] s=B (g,q)/\bP s q 2/\es q g (gs k w):=by
 let m:=[G k,G o,G w,G 4]
 let C:=ah (H F) y
 have f:∀x s,K _ C _ m s=B (.c (M k x),s):=λx s=>jk (d:=.a 0) A
 have j:=Ay (f 1 s) (f 4 s);have t:∀{g q},as _ C _ m s=B _->ah (H F) _ 49 m s=B (g,q):=λS=>ft (l:=m) A A S
 unfold gs;cases J:M k 1||M k 4 with
 |true=>rw[J]at j;exact eR (hU (k:=9) (g:=.p (.b (.a (.a 1)))) (n:=[.d [.b (.e 1),.b (.a (.a 14))],.d [.b (.e 1),.b (.a (.a 2))]]) (m:=.a 2) (r:=ke 14 2 w (M k 4)) A (λz=>A) A (λz=>A) (f 4) (aK A (by show 2<1000;decide) A) p (aP d A)) λg r l a V E=>(ev (qY l a V (bB (am (a.3) d) A)) λv e h b c=>(an v e (t (fz j (cY h))) b c))
 |false=>
  rw[J]at j;cases L:M k 2 with
  |true=>have i:=f 2 s;rw[L]at i;exact eR (hU (c:=C) (l:=m) (k:=25) (g:=.p (.b (.a (.a 1)))) (n:=[.d [.b (.e 1),.b (.a (.a 2))]]) (m:=.b (.e 26)) (h:=.b (.c I)) (r:=l' 2) A (λz=>A) A (λz=>A) (λz=>A) (aK A (by show 1<1000;decide) A) p (aP d A)) λg r l a V E=>(ev (qY l a V (bB (am (a.3) d) A)) λv e h b c=>(an v e (t (b' j (fz (bS i) (cY h)))) b c))
  |false=>
   have i:=f 2 s;rw[L]at i;cases P:M k 3 with
   |true=>have n:=f 3 s;rw[P]at n;exact eR (hU (c:=C) (l:=m) (k:=10) (g:=.p (.b (.a (.a 1)))) (n:=[.d [.b (.e 1),.b (.a (.a 14))],.d [.b (.e 1),.b (.a (.a 5))]]) (m:=.d [.a 3,.b (.a (.a 4))]) (h:=.b (.c I)) (r:=xb) A (λz=>A) A (λz=>A) (λz=>A) (aK A (by show 2<1000;decide) A) p (aP d A)) λg r l a V E=>(ev (qY l a V (bB (am (a.3) d) A)) λv e h b c=>(an v e (t (b' j (b' (bS i) (fz (bS n) (cY h))))) b c))
   |false=>have n:=f 3 s;rw[P]at n;have u:=bS (f 5 s);cases Q:M k 5 with|true=>exact eR (hU (c:=C) (l:=m) (k:=8) (g:=.b (.a (.a 9))) (n:=[.d [.b (.e 1),.b (.a (.a 14))]]) (m:=.d [.a 2,.b (.c I)]) (h:=.b (.c D)) (r:=kd 9 14 w _ D) A (λz=>A) A (λz=>A) (λz=>A) (aK A (by show 1<1000;decide) A) p (aP d A)) λg r l a V E=>(ev (qY l a V (bB (am (a.3) d) A)) λv e h b c=>(an v e (t (b' j (b' (bS i) (b' (bS n) (cY (iX u Q h)))))) b c))|false=>exact ev (VN p (aP d A)) λv e h b c=>(an v e (t (b' j (b' (bS i) (b' (bS n) (cY (iW u Q h)))))) (b.c (by decide)) c)
def o'(i:Nat):Int:=(Z [4,1,2] i).getD 0
def wY(a b c:Nat):dB where
 c:=a%5
 g:=(Z [a%5,b / 5%5,b%5] (b / 25%3)).getD 0
 q:=a / 1500%9
 r:=b / 1125%9
 h:=c / 8%6
 f:=c / 48%4
 d:=c / 384%4
 e:=(a / 5%5:Nat)
 i:=(b / 75%5:Nat)
 b:=o' (a / 25%3)
 j:=o' (b / 375%3)
 a:=bif ar (c%8) 6 then o' (a / 25%3)else o' (b / 375%3)
 o:=M (a / 150%2) 1
 n:=M (a / 75%2) 1
 k:=M (a / 300%5) 4
 p:=M (c / 192%2) 1
 l:=M (c / 1536%5) 4
theorem uc(h:i<3):Z [G 4,G 1,G 2] i=B (G (o' i))/\cS (o' i):=
 (T ⟨A,bn⟩ (T ⟨A,bT _ bn⟩ (T ⟨A,bT _ (bT _ bn)⟩ ae)):∀i∈[0,1,2],Z _ i=B (G _)/\cS (o' i)) i ((by decide:∀i,i<3->i∈[0,1,2]) i h)
theorem HP{x y z i:Nat}(h:i<3)(a:x<5)(b:y<5)(c:z<5):Z [G x,G y,G z] i=B (G ((Z [x,y,z] i).getD 0))/\(Z [x,y,z] i).getD 0<5:=
 (T ⟨A,a⟩ (T ⟨A,b⟩ (T ⟨A,c⟩ ae)):∀i∈[0,1,2],Z _ i=B (G ((Z _ i).getD 0:Nat))/\(Z [x,y,z] i).getD 0<5) i ((by decide:∀i,i<3->i∈[0,1,2]) i h)
theorem Hg(x):0<=((x%5:Nat):Int)/\((x%5:Nat):Int)<5:=⟨nP _,pr.mpr (fj x (by decide))⟩
theorem UL:(wY a b c).m:=
 ⟨(fj _ (by decide)),
  ((HP (fj _ (by decide)) (fj _ (by decide)) (fj _ (by decide)) (fj _ (by decide))).2),
  (fj _ (by decide)),
  (fj _ (by decide)),
  (fj _ (by decide)),
  (fj _ (by decide)),
  (fj _ (by decide)),
  Hg _,
  Hg _,
  ((uc (fj _ (by decide))).2),
  ((uc (fj _ (by decide))).2),
  (by
  show cS (bif ar _ 6 then _ else _)
  cases ar _ 6 with
  |true=>exact(uc (fj _ (by decide))).2
  |false=>exact(uc (fj _ (by decide))).2)⟩
noncomputable def ka(a b c:Nat)(p:dB)(r:List E):aC:=[G a,G b,G c,G p.c,G p.e,G p.b,.c p.n,.c p.o,.c p.k,G p.g,G p.i,G p.j,G p.h,G p.f,G p.a,.c p.p,G p.d,.c p.l]++r
section
variable{a:Nat->List E->S U->av U E}{l:aC}{s b:S U}{c d e:aJ}
theorem ee:bs (eM (H F) a []) l s=B ([],s):=A
theorem bC(i:K (H F) a e l s=B (v,b))(k:bs (eM (H F) a f) l b=B (h,g)):bs (eM (H F) a (e::f)) l s=B (v::h,g):=nd i k
theorem h'(h:bs (eM (H F) a f) l s=B (v,b)):K (H F) a (.d f) l s=B (.d v,b):=jT h
theorem HB{x k:Nat}(h:K (H F) a c l s=B (G x,s)):K (H F) a (.e .e c (.b (.a (.a k)))) l s=B (.c (ar x k),s):=by
 refine(ab h (ab A ?_):ei _ .e _ (cr (G k)) l s=_);show B (E.c (xor I _),s)=_
 have q:decide (x<(k:Int))=ar x k:=by cases q:ar x k with|true=>exact decide_eq_true (pr.mpr (bH q))|false=>exact decide_eq_false λe=>az (q.symm.trans (er (pr.mp e)))
 refine C q ?_;cases ar x k<;>rfl
end
theorem Vm{n a b c:Nat}:as (H F) (ah (H F) n) (dV.a.take 6) ([G a,G b,G c]++bG 28) s=B ((.a,ka a b c (wY a b c) (bG 13)),s):=by
 let C:=ah (H F) n
 have m:∀{l:aC}{i x k f:Nat},K _ C (.a i) l s=B (G x,s)->(!((k:Int)==0))=D->(!((f:Int)==0)&&eQ f)=D->K _ C _ l s=B _:=λh d o=>qN (HA h o) d
 have e:∀{l:aC}{i x k:Nat},K _ C (.a i) l s=B (G x,s)->(!((k:Int)==0))=D->K _ C _ l s=B _:=λh d=>qN h d
 have j:∀{l:aC}{i:aJ}{k},K _ C i l s=B _->k<3->K _ C (.f (.d [.b (.a (.a 4)),.b (.a (.a 1)),.b (.a (.a 2))]) i) l s=B _:=λh r=>vo (i:=[G 4,G 1,G 2]) A h (uc r).1 A A
 let p:=wY a b c
 let z:aC:=[G a,G b,G c]++bG 28
 let t:aC:=[G a,G b,G c,G p.c,G p.e,G p.b,.c p.n]++bG 24
 let u:aC:=[G a,G b,G c,G p.c,G p.e,G p.b,.c p.n,.c p.o,.c p.k]++bG 22
 let v:aC:=[G a,G b,G c,G p.c,G p.e,G p.b,.c p.n,.c p.o,.c p.k,G p.g,G p.i,G p.j]++bG 19
 let g:aC:=[G a,G b,G c,G p.c,G p.e,G p.b,.c p.n,.c p.o,.c p.k,G p.g,G p.i,G p.j,G p.h,G p.f]++bG 17
 let y:aC:=[G a,G b,G c,G p.c,G p.e,G p.b,.c p.n,.c p.o,.c p.k,G p.g,G p.i,G p.j,G p.h,G p.f,G p.a]++bG 16
 exact k' (h' (bC (e (k:=5) A A) (bC (m (k:=5) (f:=5) A A A) (bC (j (m (k:=3) (f:=25) A A A) (fj _ (by decide))) (bC (jk (m (k:=2) (f:=75) A A A)) ee))))) (i:=t) A (k' (h' (bC (jk (m (k:=2) A A A)) (bC (jk (m (k:=5) A A A)) ee))) (i:=u) A (k' (h' (bC (vo (h' (bC A (bC (m (k:=5) (f:=5) A A A) (bC (e (k:=5) A A) ee)))) (m (k:=3) (f:=25) A A A) (HP (fj _ (by decide)) (fj _ (by decide)) (fj _ (by decide)) (fj _ (by decide))).1 A A) (bC (m (k:=5) (f:=75) A A A) (bC (j (m (k:=3) A A A) (fj _ (by decide))) ee)))) (i:=v) A (k' (h' (bC (m (k:=6) (f:=8) A A A) (bC (m (k:=4) A A A) ee))) (i:=g) A (dJ (by
  have w:=bS (HB (l:=g) (k:=6) (e (i:=2) (k:=8) A A));show _=B (G (bif ar _ 6 then _ else _),s)
  cases q:ar _ 6 with
  |true=>exact iX w q A
  |false=>exact iW w q A) (i:=y) A (k' (h' (bC (jk (m (k:=2) A A A)) (bC (m (k:=4) A A A) (bC (jk (m (k:=5) A A A)) ee)))) A A)))))
noncomputable def vB:List E:=[.d [W 3,G 3,.b (.d 5),G 0,.c I],.d [W 3,G 4,.b (.d 6),G 1,.c I],.d [W 4,G 5,.b (.d 7),.d [W 23,G 0],.c I],.d [W 4,G 6,.b (.d 8),.d [W 24,G 0],.c I]]
section
variable{b:Nat->List E->S U->av U E}{l:aC}{s a c:S U}{f g e:aJ}{v w:E}{r d:List bY}{j k:Nat}
theorem QL(h:dF s)(n:s.a<90000):∃v a,K (H F) b (.m 1 [.j 12]) l s=B (v,a)/\bP s a 1/\es a v kO:=by
 have o:∀{k}{u p m}{q}{i},k<10->k<10/\E.d [u,p,.b (.d k),m,.c q]=.d _->fA _=.a i.c->i.c.length<1000->aF i.f=I->gH s.a s _ i:=λ{k u p m q i} t e x y z=>(pk _ e.2 ((h.1.3 k t).trans x) ⟨λm e=>ak e nq,λm e=>by cases e;exact t⟩ y z)
 have V:fW s.a s vB kO:=qX (no (o (by decide) ⟨by decide,A⟩ A (by show 0<1000;decide) A)) (qX (no (o (by decide) ⟨by decide,A⟩ A (by show 0<1000;decide) A)) (qX (no (o (by decide) ⟨by decide,A⟩ A (by show 0<1000;decide) A)) (no (o (by decide) ⟨by decide,A⟩ A (by show 0<1000;decide) A))));exact(an _ _ (ab (eE (v:=.d vB) A) (au (b:=vB) (f:=λl=>fM _ l s) A (qI (by decide) (h.1.2 _ (bd _)) (aP n A))):gT _ 1 [K (H F) b (.j 12)] l s=_) (.f h n) (xI s.a vB A (fi _) cj (V.a (.f h n) h.1) (V.b (bd _))))
theorem Bb(p:K (H F) b f l s=B (v,a))(i:bP s a j)(n:es a v r)(q:K (H F) b g l a=B (w,c))(m:bP a c k)(o:es c w d)(x:c.a<90000)(t:r.length+d.length<1000):∃u h,K (H F) b (.i .b f g) l s=B (u,h)/\bP s h (j+(k+1))/\es h u (r++d):=
 c' (VI p n q m i.1 o x t) λu h z=>(aK z.1 (i.a z.2.1) z.2.2)
theorem sv(n:bs (eM (H F) b i) l s=B (m,a))(k:b h m a=B (v,c)):K (H F) b (.k h i) l s=B (v,c):=(ab n k:gg b h _ l s=_)
end
def vZ(a b c:Nat)(p:dB)(r:E)(x:List E):=ka a b c p (r::x)
theorem VH{s}(o:p.m)(c2:p.q=a / 1500%9)(c3:p.r=b / 1125%9)(U:dF s)(h:s.a<70000):
  ∃P e,as (H F) (ah (H F) (n+1)) ((dV.a.drop 6).take 2) (ka a b c p (bG 13)) s=B ((.a,vZ a b c p P (bG 12)),e)/\dF e/\e.a<=s.a+11/\es e P (((kO++dY 10 p.c p.e p.q)++dY 12 p.c p.e p.r)++[hT 14 (fN p.g) p.i]):=by
 let d:=ah (H F) (n+1)
 let l:=ka a b c p (bG 13)
 have i:∀{u g L S},(dY u g L S).length<=2:=λ{u g L S}=>by unfold dY;cases(M g 2||M g 3)&&M _ 2<;>cases M _ 0<;>exact bH rfl
 have E:∀{b5 c4 b6 t:Nat}{s},K _ d (.a b5) l s=B (G c4,s)->(!((b6:Int)==0))=D->(!((t:Int)==0)&&eQ t)=D->K _ d _ l s=B _:=λb2 b3 b4=>qN (HA b2 b4) b3
 refine ev (QL (b:=d) (l:=l) U (aP h A)) λc8 e a5 j V=>?_
 have v:=j.3;refine ev (JI (n:=n) (g:=10) j.1 (bB (am v h) A) o.1 o.8 o.3) λc9 c5 a6 q W=>?_
 have a3:K _ d (.k 47 [.b (.a (.a 10)),.a 3,.a 4,.i .a (.i .d (.a 0) (.b (.a (.a 1500)))) (.b (.a (.a 9)))]) l e=B _:=sv (bC (v:=G 10) A (bC A (bC A (bC (E (b6:=9) (t:=1500) A A A) ee)))) (J c2 a6);refine ev (Bb a5 j V a3 q W (bB (am (am q.3 (aQ v 3)) (aQ h 3)) A) (dA (dT i 4) (by decide))) λd0 b9 a7 k X=>?_
 have w:=k.3;refine ev (JI (n:=n) (g:=12) k.1 (bB (am w (aQ h 4)) A) o.1 o.8 o.4) λd1 c6 a8 r Y=>?_
 have a4:K _ d (.k 47 [.b (.a (.a 12)),.a 3,.a 4,.i .a (.i .d (.a 1) (.b (.a (.a 1125)))) (.b (.a (.a 9)))]) l b9=B _:=sv (bC (v:=G 12) A (bC A (bC A (bC (E (b6:=9) (t:=1125) A A A) ee)))) (J c3 a8);have y:(kO++dY 10 p.c p.e p.q).length<=6:=by exact C dr (dT i 4)
 refine ev (Bb a7 k X a4 r Y (bB (am (am r.3 (aQ w 3)) (aQ h 7)) A) (dA (rF y i) (by decide))) λQ c0 a9 f Z=>?_
 let x:=vZ a b c p Q (bG 12)
 have b8:K _ d (xE (.a 9)) x c0=B _:=vo A A (Is o.2) A A;exact eR (hU (k:=5) (g:=.b (.a (.a 14))) (n:=[.d [.b (.e 1),xE _],.d [.b (.e 0),.a 10]]) (m:=.b (.a (.a 0))) (h:=.b (.c I)) (r:=hT 14 _ _) A (λz=>A) (bC (h' (bC A (bC b8 ee))) (bC A ee)) (λz=>A) (λz=>A) (aK A (by show 2<1000;decide) A) f.1 (bB (am f.3 (aQ h 8)) A)) λd2 c7 b0 m a1 T=>(me (xh A Z b0 m f.1 a1 T (bB (am (am m.3 (aQ f.3 1)) (aQ h 9)) A) (dA (by exact C dr (rF y i)) (by decide))) λc1 b1 a0 b7 a2 z=>(dR Q c1 (dJ a9 (i:=x) A (fd b1 A)) a0 (am (am (ct b7) (aQ m.3 1)) (aQ f.3 2)) a2))
section
variable{b:Nat->List E->S U->av U E}{l:aC}{a s:S U}{c d e:aJ}{v:E}{p:Bool}
theorem FW{r:bY}{P:E->S U->Prop}(h:∀a,bc (H F) (K (H F) b e) l a=B (p,a))(g:p=D->∃v s,K (H F) b c l a=B (v,s)/\P v s)(f:p=I->∃v s,K (H F) b d l a=B (v,s)/\P v s):∃v s,K (H F) b (.o e c d) l a=B (v,s)/\P v s:=by cases q:p with|true=>exact c' (g q) λv s z=>⟨iX (h a) q z.1,z.2⟩|false=>exact c' (f q) λv s z=>⟨iW (h a) q z.1,z.2⟩
end
noncomputable abbrev ug(i:Int):aJ:=.d [.b (.e 1),.b (.a (.a i))]
def v'(a b c:Nat)(p:dB)(v)(m:Int)(x:List E):=ka a b c p (v::aD (G (1+(p.d%2:Nat)))::G m::x)
theorem VJ{s}{p}{v}{r}(m:dF s)(h:s.a<70000)(a3:es s v r)(L:r.length<=10):
  ∃u d,as (H F) (ah (H F) (n+1)) ((dV.a.drop 8).take 5) (vZ a b c p v (bG 12)) s=B ((.a,v' a b c p u (((r++[fX p])++gs p.h p.j)++[eO p]).length (bG 10)),d)/\dF d/\d.a<=s.a+7/\es d u (((r++[fX p])++gs p.h p.j)++[eO p]):=by
 let i:=ah (H F) (n+1)
 let P:=vZ a b c p v (bG 12)
 have b6:∀s,bc _ (K _ i (.a 7)) P s=B _:=λs=>bS A
 refine eR (FW (r:=fX p) (P:=λv d=>bP s d 1/\gH _ d v (fX p)/\∀e,e<s.a->nW e v) (c:=.d [.b (.e 8),.b (.a (.a 7)),.g _ [ug 10],.d [.a 5,.a 6],.a 8]) (d:=.d [.b (.e 9),.p (.b (.a (.a 1))),.g _ [ug 10,ug 1],.a 5,.a 8]) b6
  (λq=>C (show fX p=kd 7 10 p.b p.n p.k by unfold fX;refine C q ?_;rfl) (hU A (λz=>A) A (λz=>A) (λz=>A) (aK A (by show 1<1000;decide) A) m (aP h A)))
  (λq=>C (show fX p=ke 10 1 p.b p.k by unfold fX;refine C q ?_;rfl) (hU A (λz=>A) A (λz=>A) (λz=>A) (aK A (by show 2<1000;decide) A) m (aP h A)))) λc1 d a6 t a1 U=>?_
 have f:=t.3;refine me (xh (p:=18) A a3 a6 t m a1 U (bB (am f h) A) (bB L A)) λb7 a7 y g W z=>?_
 refine ev (Nm (y:=n) (k:=p.h) (o:=p.g) (w:=p.j) y (bB (am (am (ct g) (aQ f 1)) (aQ h 1)) A)) λc2 b8 a8 w X=>?_
 have Q:(r++[fX p]).length<=11:=by exact C dr (rG L 1)
 have T:(gs p.h p.j).length<=1:=by unfold gs;cases M _ 1||M _ 4<;>cases M _ 2<;>cases M _ 3<;>cases M _ 5<;>exact bH rfl
 refine ev (Bb (b:=i) (l:=P) (f:=.a 18) (g:=.k 49 [.a 12,.a 9,.a 11,.b (.a (.a 4))]) (iY A (by obtain⟨e,_,a4,_⟩:=W;exact C a4 A)) (bP.b y) W (sv (bC A (bC A (bC A (bC (v:=G 4) A ee)))) a8) w X (bB (am (am (am w.3 (aQ (ct g) 2)) (aQ f 3)) (aQ h 3)) A) (ap [_,_] (.a 1 (.a 0) (.b 11) (.a 1 (.a 1) (.b 1) .b)) (.c (.c (.a 0) (.a 1)) (.b 1)) (.b 1000) A Q T)) λu l a9 j Y=>?_
 have k:=j.3
 let o:=ka a b c p (u::bG 12)
 let S:=ka a b c p (u::aD (G (1+(p.d%2:Nat)))::bG 11)
 have b5:∀s,bc _ (K _ i (.e .e (.a 16) (.b (.a (.a 2))))) S s=B _:=λs=>bS (HB A)
 refine eR (FW (r:=eO p) (P:=λv d=>bP l d 1/\gH _ d v (eO p)/\∀e,e<l.a->nW e v) (c:=.d [.b (.e 8),.b (.a (.a 8)),.g _ [ug 12],.d [.a 14,.a 15],.a 17]) (d:=.d [.b (.e 9),.p (.b (.a (.a 1))),.g _ [ug 12,.a 19],.a 14,.a 17]) b5
  (λq=>C (show eO p=kd 8 12 p.a p.p p.l by unfold eO;refine C q ?_;rfl) (hU A (λz=>A) A (λz=>A) (λz=>A) (aK A (by show 1<1000;decide) A) j.1 (bB (am (am (am k (aQ (ct g) 3)) (aQ f 4)) (aQ h 4)) A)))
  (λq=>C (show eO p=ke 12 _ p.a p.l by unfold eO;refine C q ?_;rfl) (hU A (λz=>A) A (λz=>A) (λz=>A) (aK A (by show 2<1000;decide) A) j.1 (bB (am (am (am k (aQ (ct g) 3)) (aQ f 4)) (aQ h 4)) A)))) λc3 b9 b0 x a2 V=>?_
 have J:=x.3;refine me (xh (p:=18) A Y b0 x j.1 a2 V (bB (am (am (am (am J (aQ k 1)) (aQ (ct g) 4)) (aQ f 5)) (aQ h 5)) A) (bB (by exact C dr (rF Q T)) A)) λb4 b1 Z b3 E z=>?_
 exact mg E λe c0 a5 z b2 a0 z=>(dR u b4 (fd a7 (dJ a9 (i:=o) A (dJ (by
  exact h' (bC A (bC (ab A (ab (qN (e:=i) (d:=.a 16) (l:=o) (s:=l) (a:=2) A A) A):fC (H F) .b (K (H F) i (.b (.a (.a 1)))) _ o l=_) ee))) (i:=S) A (fd b1 (dJ (i:=v' a b c p u (((r++[fX p])++gs p.h p.j)++[eO p]).length (bG 10)) (a0.1▸mL (b:=.a 18) (r:=.c e) (iY (i:=18) (a5▸A) A) b2) A A))))) Z (am (am (am (am (ct b3) (aQ J 1)) (aQ k 2)) (aQ (ct g) 5)) (aQ f 6)) E)
section
variable{a:Nat->List E->S U->av U E}{l:aC}{s b:S U}{c e:aJ}{v w f g:E}{d h:List E}{r q:af}{t:Bool}
theorem mQ(k:s.b r=.a d)(i:∀j,jX j d n=B h):mP (H F).toHOps s.b 3 (n+1) r=B (.h h):=by
 show Y (ce (s.b r)) _=_
 refine C k ?_;show Y (jX (mP _ s.b 2) d n) _=_
 rw[i];rfl
theorem ok(y:o=.a∨o=.c)(p:K (H F) a c l s=B (v,s))(u:K (H F) a e l s=B (w,b))(x:kR (H F) b.b v=I)(k:jW (H F) b.b v=B f)(m:jW (H F) b.b w=B g)(n:eL F f g=B t):K (H F) a (.e o c e) l s=B (.c (xor (sy o) t),b):=by
 have j:hc (H F) b.b v w=B t:=by unfold hc;exact C x (au k (au m n))
 exact(ab p (ab u (au (y.elim (λi=>C i j) λi=>C i j) A)):ei _ o _ _ l s=_)
theorem Cg(i:K (H F) a c l s=B (.c p,b)):bc (H F) (K (H F) a c) l s=B (p,b):=ab i A
theorem Jp{q}(k:bc (H F) (K (H F) a c) l s=B (D,b))(m:as (H F) a x l b=B ((.a,i),j))(n:as (H F) a z i j=q):as (H F) a (.a c x y::z) l s=q:=
 (gx (ab k m) n:dS (iF _ _ _ (as _ a y)) _ l s=_)
theorem zJ(i:s.b r=.a d):kR (H F) s.b (.b r)=I:=by show(match s.b r with|.b _ _=>D|_=>I)=I;exact C i A
theorem wh(j:bs (eM (H F) a []) l s=B ([],s))(i:dF s)(k:s.a<90000):K (H F) a (.g N []) l s=B (.b (.c s.a),⟨aZ.d s.b (.c s.a) (.a []),s.a+1⟩):=(ab j (hR (i.1.2 _ (bd _)) (aP k A)):iB _ N [] l s=_)
end
noncomputable def eD(k:Nat):=bif M k 1 then 1 else bif M k 2 then 2 else 0
noncomputable def kc(k:Nat):=bif M k 1 then[G 0]else bif M k 2 then[G 1]else[]
theorem QY{k:Nat}(h:k<4):fx F (.a k) [G 1,G 2]=B (M k 1||M k 2):=(T A (T A (T A (T A ae))):∀k∈([0,1,2,3]:List Nat),fx F (.a k) _=B (M k 1||M k 2)) k ((by decide:∀k,k<4->k∈[0,1,2,3]) k h)
def qt(a b c:Nat)(p:dB)(v)(m:Int)(o:Nat)(x:List E):=ka a b c p (v::aD (G (1+(p.d%2:Nat)))::G m::.b (.c o)::x)
theorem VK{s:S U}{p:dB}(b3:p.m){v:E}{t:Int}{L:List bY}(r:dF s)(h:s.a<70000)(P:es s v L)(b0:L.length<=13):
  ∃y d,as (H F) (ah (H F) (n+1)) ((dV.a.drop 13).take 2) (v' a b c p v t (bG 10)) s=B ((.a,qt a b c p v t y (bG 9)),d)/\dF d/\d.a<=s.a+4/\es d v (L++fa p.f)/\y<d.a/\d.b (.c y)=.a (kc p.f):=by
 let i:=ah (H F) (n+1)
 let T:=v' a b c p v t (bG 10)
 have X:bc (H F) (K (H F) i (.e .b (.a 13) (.d [.b (.a (.a 1)),.b (.a (.a 2))]))) T s=B _:=bS (zg (x:=p.f) A A (QY b3.6))
 let d:S U:=⟨aZ.d s.b (.c s.a) (.a (kc p.f)),s.a+1⟩
 have j:bP s d 1:=.f r (aP h A);have Q:=P.a j r.1
 let l:=qt a b c p v t s.a (bG 9)
 cases q:M p.f 1||M p.f 2 with
 |false=>
  have J:kc p.f=[]:=by unfold kc;cases a8:M p.f 1<;>cases a9:M p.f 2<;>rw[a8,a9]at q<;>first|rfl|cases q
  have b2:fa p.f=[]:=by unfold fa;refine C q ?_;rfl
  let f:S U:=⟨aZ.d d.b (.c d.a) (.a []),d.a+1⟩
  have e:bP d f 1:=.f j.1 (by exact bB h A);have g:=(e.4 s.a (fi _)).trans (cj.trans (by exact C J A));have a3:K (H F) i (.e .c (.a 21) (.g .none [])) l d=B (.c I,f):=ok (o:=.c) (t:=D) (.inr A) A (wh A j.1 (by show s.a+1<_;exact bB h A)) (zJ g) (mQ (n:=19) g λz=>A) (mQ (n:=19) (d:=[]) cj λz=>A) A;have x:=Q.a e j.1.1;refine(rr s.a f (dJ (iW X q ((wh A r (aP h A)).trans (by show _=B (_,(⟨aZ.d s.b (.c s.a) _,s.a+1⟩:S U));exact C J A))) (i:=l) A (Bu (Cg a3) A)) e.1 (by exact ap [_] .b (.c (.c (.a 0) (.b 1)) (.b 1)) (.c (.a 0) (.b 4)) A) (by rw[b2,ln];exact x) (by exact ap [_] .b (.c (.a 0) (.b 1)) (.c (.c (.a 0) (.b 1)) (.b 1)) A) (g.trans (by exact C J A)))
 |true=>
  have u:kc p.f=[G ((p.f:Int)-1)]/\fa p.f=[l' (2+p.f)]:=tA q (λm=>by exact C (bW m) ⟨A,A⟩) λm=>by exact C (bW m) ⟨A,A⟩
  let f:S U:=⟨aZ.d d.b (.c d.a) (.a []),d.a+1⟩
  have e:bP d f 1:=.f j.1 (by exact bB h A);have o:f.a=s.a+2:=A;have g:=(e.4 s.a (fi _)).trans (cj.trans (by exact C u.1 A));have x:=Q.a e j.1.1;have b1:∀{k:S U},k.b (.c s.a)=.a [G _]->K (H F) i (.i .b (.b (.a (.a 3))) (.f (.a 21) (.b (.a (.a 0))))) l k=B _:=λ{k} a7=>(ab (a:=G 3) (s:=k) A (ab (vn (b:=.a 21) (r:=.c s.a) (i:=0) A a7 A A) (show B (G _,k)=B _ by exact C (show(3:Int)+((p.f:Int)-1)=2+p.f from xT (aG [_] .b (.c (.b 3) (.d (.a 0) (.b 1))) (.c (.b 2) (.a 0)) A) (aG [_] .b (.c (.b 2) (.a 0)) (.c (.b 3) (.d (.a 0) (.b 1))) A)) A)):fC (H F) .b (K (H F) i (.b (.a (.a 3)))) (K (H F) i (.f (.a 21) (.b (.a (.a 0))))) l k=_)
  refine eR (hU (c:=i) (l:=l) (s:=f) (k:=25) (g:=.p (.b (.a (.a 1)))) (n:=[.d [.b (.e 1),.i .b _ _]]) (m:=.b (.e 26)) (h:=.b (.c I)) (r:=l' (2+p.f)) A (λz=>A) (bC (h' (bC (v:=W 1) (b:=f) A (bC (b1 g) ee))) ee) (λz=>A) (λz=>A) (aK A (by show 1<1000;decide) A) e.1 (bB (am (ct o) (aQ h 1)) A)) λb8 b6 a4 w a1 Z=>?_
  have:=w.3;refine me (xh (l:=l) (p:=18) A x a4 w e.1 a1 Z (bB (am (am this (aQ (ct o) 1)) (aQ h 2)) A) (bB b0 A)) λb4 a5 a0 V a2 a6=>?_
  refine(rr s.a b4 (dJ (iX X q ((ab (a:=[G _]) (s:=s) A (hR (r.1.2 _ (bd _)) (aP h A)):iB (H F) N (eM (H F) i [.i .c (.a 13) (.b (.a (.a 1)))]) T s=_).trans (by show _=B (_,(⟨aZ.d s.b (.c s.a) _,s.a+1⟩:S U));exact C u.1 A))) (i:=l) A (Jp (Cg (ok (o:=.c) (t:=I) (.inr A) A (wh A j.1 (by show s.a+1<_;exact bB h A)) (zJ g) (mQ (n:=19) g λz=>A) (mQ (n:=19) (d:=[]) cj λz=>A) A)) (fd a5 A) A)) a0 (am (am (ct V) (aQ this 1)) (aQ (ct o) 2)) (by exact C u.2 a2) (ap [_,_,_,_] (.c (-1) (.a 0) (.c (.a 1) (.b 2)) (.c (-1) (.a 2) (.c (.a 3) (.b 1)) (.a 1 (.a 0) (.a 3) .b))) (.c (.a 1) (.b 1)) (.a 2) A o V (w.2)) ((a6 s.a (ap [_,_] (.c (-1) (.a 0) (.c (.a 1) (.b 2)) .b) (.c (.a 1) (.b 1)) (.a 0) A o) (aq P λb5 b7 Y=>λm=>ak (af.f (R (O hC (m.trans Y.1)))) (cC Y.2.1))).trans (g.trans (by exact C u.1 A))))
def dI(o w:Int):=lX o w.toNat
noncomputable def kP:List Int:=[0,1,2,3,4]
noncomputable def nA:List Int:=[4,1,2]
theorem vE(h:0<=o/\o<5):o∈kP:=by
 refine cn (CB h.1) λn e=>?_;subst e
 exact(T (.head _) (T (.tail _ (.head _)) (T (.tail _ (.tail _ (.head _))) (T (.tail _ (.tail _ (.tail _ (.head _)))) (T (.tail _ (.tail _ (.tail _ (.tail _ (.head _))))) ae)))):∀n∈([0,1,2,3,4]:List Nat),(n:Int)∈kP) n (jg (pr.mp h.2))
theorem eF{a b:Type}{f g:a->b}{l:List a}(h:l.map f=l.map g){x}(m:x∈l):f x=g x:=eS.mp h x m
theorem Vx:(kP.map λo=>nA.map λw=>kP.map λa=>nA.map λb=>io F (dI o w) (dI a b))=kP.map λo=>nA.map λw=>kP.map λa=>nA.map λb=>B (decide (o=a)&&decide (w=b)):=by kernel_rfl
theorem Vw(h:0<=o/\o<5)(k:cS w)(c:0<=a/\a<5)(d:cS b):io F (dI o w) (dI a b)=B (decide (o=a)&&decide (w=b)):=eF (eF (eF (eF Vx (vE h)) k) (vE c)) d
theorem AZ(k:cS w):(dI o w).length<1000/\∀g n,jX g (dI o w) n=B (dI o w):=
 (T ⟨dH A,λz z=>A⟩ (T ⟨dH A,λz z=>A⟩ (T ⟨dH A,λz z=>A⟩ ae)):∀w∈[4,1,2],(dI o w).length<1000/\∀g n,jX g (dI o w) n=B (dI o w)) w k
section
variable{a:Nat->List E->S U->av U E}{l:aC}{s d:S U}{b c:aJ}
theorem Jj(h:0<=o/\o<20):eQ o=D:=by unfold eQ;exact C (decide_eq_true (aG [_] (.a 1 (.b 0) (.a 0) .b) (.c (.g (.b 1000000)) (.b 1)) (.a 0) A h.1)) (C (decide_eq_true (aG [_] (.a 1 (.c (.a 0) (.b 1)) (.b 20) .b) (.c (.a 0) (.b 1)) (.b 1000000) A h.2)) A)
theorem ON(i:bs (eM (H F) a [b,c]) l s=B ([G o,G (o+w)],s))(h:0<=o/\o<5)(f:cS w)(g:dF s)(j:s.a<90000):K (H F) a (.m 2 [b,c]) l s=B (.b (.c s.a),⟨aZ.d s.b (.c s.a) (.a (dI o w)),s.a+1⟩):=by
 have e:=(T (by decide) (T (by decide) (T (by decide) ae)):∀w∈([4,1,2]:List Int),0<=w/\w<5) w f;refine(ab i ?_:gT _ 2 _ l s=_);show Y (aI _ _) _=_
 exact C (Jj ⟨h.1,aG [_] (.a 1 (.c (.a 0) (.b 1)) (.b 5) .b) (.c (.a 0) (.b 1)) (.b 20) A h.2⟩) (C (Jj (o:=o+w) ⟨aG [_,_] (.a 1 (.b 0) (.a 0) (.a 1 (.b 0) (.a 1) .b)) (.b 0) (.c (.a 0) (.a 1)) A h.1 e.1,aG [_,_] (.a 1 (.c (.a 0) (.b 1)) (.b 5) (.a 1 (.c (.a 1) (.b 1)) (.b 5) .b)) (.c (.c (.a 0) (.a 1)) (.b 1)) (.b 20) A h.2 e.2⟩) (C (show o+w-o=w from xT (aG [_,_] .b (.d (.c (.a 0) (.a 1)) (.a 0)) (.a 1) A) (aG [_,_] .b (.a 0) (.d (.c (.a 1) (.a 0)) (.a 1)) A)) (qI (f:=dI o w) (aP ((AZ (o:=o) f).1) A) (g.1.2 _ (bd _)) (aP j A))))
end
def hA(s:S U)(v:E)(b:Nat)(o w):=∃a,v=.d [G b,.b (.c a)]/\a<s.a/\s.b (.c a)=.a (dI o w)
theorem hA.a(n:bP s d e)(h:hA s v c o w):hA d v c o w:=h.imp λf h=>(aK h.1 (cO h.2.1 n.2) ((n.4 f h.2.1).trans h.2.2))
theorem hA.b{o w}(h:hA s v c o w)(k:cS w):jW (H F) s.b v=B (.d [G c,.h (dI o w)]):=by
 refine gf h λd e z g=>?_;subst e
 show Y (Y (B (G c)) λx=>Y (Y (mP _ s.b 3 (18+1) _) λy=>Y (B []) _) _) _=_
 exact C (mQ g ((AZ k).2 · 18)) A
theorem Ib{b a:Nat}{o w c d}(h:0<=o/\o<5)(k:cS w)(f:0<=c/\c<5)(g:cS d):eL F (.d [G b,.h (dI o w)]) (.d [G a,.h (dI c d)])=B (M b a&&(decide (o=c)&&decide (w=d))):=by
 show Y (B _) (λt=>a' _ (Y (io F (dI o w) (dI c d)) λt=>a' (B I) (B D) t) t)=_
 refine C (Vw h k f g) (C (show(b==(a:Int))=M b a by
  cases q:M b a with
  |true=>exact C (bW q) (beq_iff_eq.mpr A)
  |false=>exact beq_eq_false_iff_ne.mpr λe=>ak (CF e) (yb q)) ?_)
 cases M b a<;>cases(decide (o=c)&&decide (w=d))<;>rfl
noncomputable def iq(p:dB):=bif M p.h 3 then 4 else p.j
theorem wy(o:p.m):cS (iq p):=by unfold iq;cases M _ 3 with|true=>exact .head _|false=>exact o.11
def zR(a b c:Nat)(p:dB)(v:E)(m:Int)(o:Nat)(x y z:E)(r:List E):=ka a b c p (v::aD (G (1+(p.d%2:Nat)))::G m::.b (.c o)::x::y::z::r)
section
variable{a:Nat->List E->S U->av U E}{l:aC}{s b:S U}{e f:aJ}
theorem zo{d:Nat}(j:K (H F) a e l s=B (G d,s))(i:bs (eM (H F) a [f,g]) l s=B ([G o,G (o+w)],s))(k:0<=o/\o<5)(m:cS w)(c:dF s)(h:s.a<90000):∃v b,K (H F) a (.d [e,.m 2 [f,g]]) l s=B (v,b)/\bP s b 1/\hA b v d o w:=
 (an _ _ (h' (bC j (bC (ON i k m c h) ee))) (.f c h) (bi s.a A (fi _) cj))
theorem zn(h:K (H F) a e l s=B (G o,s))(k:K (H F) a f l s=B (G w,s)):K (H F) a (.i .b e f) l s=B (G (o+w),s):=(ab h (ab k A):fC _ .b _ _ l s=_)
end
theorem UC{g}{p}{v}{m}(d:p.m)(w:dF g)(i:g.a<80000):
  ∃x y z s,as (H F) (ah (H F) n) ((dV.a.drop 15).take 3) (qt a b c p v m o (bG 9)) g=B ((.a,zR a b c p v m o x y z (bG 6)),s)/\bP g s 3/\hA s x p.c p.e p.b/\hA s y p.c p.e p.a/\hA s z p.g p.i (iq p):=by
 let C:=ah (H F) n
 refine ev (zo (a:=C) (l:=qt a b c p v m o (bG 9)) (e:=.a 3) (f:=.a 4) (g:=.i .b (.a 4) (.a 5)) A (bC A (bC (zn A A) ee)) d.8 d.10 w (aP i A)) λx s E e P=>?_
 let q:=qt a b c p v m o (x::bG 8)
 refine ev (zo (a:=C) (l:=q) (e:=.a 3) (f:=.a 4) (g:=.i .b (.a 4) (.a 14)) A (bC A (bC (zn A A) ee)) d.8 d.12 e.1 (bB (am e.3 i) A)) λy j J f t=>?_
 let l:=qt a b c p v m o (x::y::bG 7)
 have k:=bS (jk (e:=C) (d:=.a 12) (l:=l) (s:=j) (a:=3) A);have Q:K (H F) C (.o (.e .a (.a 12) (.b (.a (.a 3)))) (.b (.a (.a 4))) (.a 11)) l j=B (G (iq p),j):=by unfold iq;cases r:M _ 3 with|true=>exact iX k r A|false=>exact iW k r A
 exact ev (zo (e:=.a 9) (f:=.a 10) (g:=.i .b _ _) A (bC A (bC (zn A Q) ee)) d.9 (wy d) f.1 (bB (am (am f.3 (aQ e.3 1)) (aQ i 1)) A)) λz S L h u=>(ko x y z S (iD (dJ E (i:=q) A (dJ J (i:=l) A (dJ L A A))) ((e.a f).a h) ((P.a f).a h) (t.a h) u))
def qp(o w)(v):=(ne (H F) v (dI o w)).getD I
theorem To:(kP.map λo=>nA.map λw=>kP.map λa=>nA.map λb=>((dI o w).all λv=>(ne (H F) v (dI a b)).isSome)&&((dI o w).all λv=>(dw v).isSome)&&(((dI o w).filter (qp a b)).isEmpty==!(qG (o-a) w b)))=kP.map λo=>nA.map λw=>kP.map λa=>nA.map λb=>D:=by kernel_rfl
theorem Tk(h:0<=a/\a<5)(k:cS b)(g:0<=o/\o<5)(i:cS w):(∀v∈dI a b,ne (H F) v (dI o w)=B (qp o w v)/\∃z,v=.a z)/\((dI a b).filter (qp o w)).isEmpty=!(qG (a-o) b w):=
 V (eF (eF (eF (eF To (vE h)) k) (vE g)) i) λe f=>V e λc d=>⟨λv m=>⟨(Option.some_get (bu.mp c v m)).symm.trans (by unfold qp;rw[Option.get_eq_getD]),match v,bu.mp d v m with
  |.a z,_=>⟨z,A⟩⟩,beq_iff_eq.mp f⟩
theorem Qx:∀{v},(∀a∈v,∃z,a=E.a z)->jX g v n=B v:=λ{v}=>by
 induction v with
 |nil=>exactλb=>A
 |cons a v i=>
  intro h;refine cn (h a (.head _)) λz e=>?_;subst e
  show Y (B _) _=_
  exact C (i λa m=>h a (.tail _ m)) A
section
variable{b:Nat->List E->S U->av U E}{l:aC}{s e a:S U}{c d:aJ}{v w f g:E}{t:Bool}
theorem OE(r:o=.a∨o=.c)(n:K (H F) b c l s=B (v,e))(p:K (H F) b d l e=B (w,a))(q:kR (H F) a.b v=I)(j:jW (H F) a.b v=B f)(k:jW (H F) a.b w=B g)(m:eL F f g=B t):K (H F) b (.e o c d) l s=B (.c (xor (sy o) t),a):=by
 have i:hc (H F) a.b v w=B t:=by unfold hc;exact C q (au j (au k m))
 exact(ab n (ab p (au (r.elim (λh=>C h i) λh=>C h i) A)):ei _ o _ _ l s=_)
theorem NU{n:E->aC->S U->av U _}{o}:∀h p i,s.b r=.a (p++h)->(∀v∈h,n v l s=B (bif o v then B v else N,s))->i.length+h.length<1000->fu (H F) (.g r) n (h.length+1) p.length i l s=B (i++h.filter o,s):=λh=>by
 induction h with
 |nil=>exactλp i j K K=>(yU (j.trans (O _ (ln p))) (As _)).trans (by rw[List.filter_nil,ln])
 |cons v h G=>
  intro p i j x u;have m:=x v (.head _);have y:s.b r=.a ((p++[v])++h):=by rw[j,kp];rfl
  have w:∀k,k.length+h.length<1000->fu _ _ n _ (p.length+1) k l s=B _:=λk q=>by have z:=G _ k y (λv J=>x v (.tail _ J)) q;rw[dr]at z;exact z
  cases q:o v with|true=>rw[q]at m;have z:=w (i++[v]) (by exact C dr (ap [_,_] (.a 1 (.c (.c (.a 0) (.c (.a 1) (.b 1))) (.b 1)) (.b 1000) .b) (.c (.c (.c (.a 0) (.b 1)) (.a 1)) (.b 1)) (.b 1000) A u));rw[kp]at z;exact(yV j (wE _) m (ap [_,_] (.a 1 (.c (.c (.a 0) (.c (.a 1) (.b 1))) (.b 1)) (.b 1000) .b) (.c (.a 0) (.b 1)) (.b _) A u) z).trans (by refine C Lj (C q ?_);rfl)|false=>rw[q]at m;have z:=w i (ap [_,_] (.a 1 (.c (.c (.a 0) (.c (.a 1) (.b 1))) (.b 1)) (.b 1000) .b) (.c (.c (.a 0) (.a 1)) (.b 1)) (.b 1000) A u);exact(au (b:=B v) (au (show ce (s.b r)=_ by exact C j A) (by rw[wE])) (ab m z)).trans (by exact C Lj (C q A))
theorem MT{x y:Nat}:(x==(y:Int))=M x y:=by cases q:M x y with|true=>exact C (bW q) (beq_iff_eq.mpr A)|false=>exact beq_eq_false_iff_ne.mpr λh=>ak (CF h) (yb q)
end
theorem sq(h:b<5):b∈gr:=jg h
noncomputable def tf:=[0,1,2,3]
theorem Gv(h:k<4):k∈tf:=((by decide:∀k,k<4->k∈[0,1,2,3]) k h)
theorem Up:(tf.map λk=>gr.map λ(b:Nat)=>(fx F (.a b) (kc k)).isSome&&((decide ((1:Int)<b)||(fx F (.a b) (kc k)).getD I)==!(eg (eD k) b)))=tf.map λk=>gr.map λb=>D:=by kernel_rfl
theorem HQ{k b:Nat}(c:k<4)(h:b<5):∃t,fx F (.a b) (kc k)=B t/\(decide ((1:Int)<b)||t)=!(eg (eD k) b):=
 V (eF (eF Up (Gv c)) (sq h)) λe a=>by cases q:fx F _ _ with|none=>rw[q]at e;cases e|some t=>rw[q]at a;exact(ag t A (beq_iff_eq.mp a))
theorem Tx:(tf.map λk=>gr.map λb=>gr.map λa=>M b a||(((M b 4&&!(eg (eD k) a))||(M a 4&&!(eg (eD k) b)))==wx (eD k) b a))=tf.map λk=>gr.map λb=>gr.map λa=>D:=by kernel_rfl
noncomputable abbrev NR:aJ:=.l [.e .a (.f (.a 3) (.b (.a (.a 0)))) (.b (.a (.a 4))),.q [.e .h (.f (.a 4) (.b (.a (.a 0)))) (.b (.a (.a 1))),.e .b (.f (.a 4) (.b (.a (.a 0)))) (.a 2)]]
section
variable{a:Nat->List E->S U->av U E}{s:S U}{o k:Nat}
theorem yC{b c}(h:K (H F) a b l s=B (.c p,s))(d:K (H F) a c l s=B (.c q,s)):bc (H F) (K (H F) a (.l [b,c])) l s=B (p&&q,s):=by cases p with|true=>exact sm h d|false=>exact uJ h
theorem zm{p q}(h:K (H F) a c l s=B (.c p,s))(d:K (H F) a b l s=B (.c q,s)):K (H F) a (.q [c,b]) l s=B (.c (p||q),s):=by refine(ab h (ab A ?_):gh _ _ (K _ a b) l s=_);cases p with|true=>rfl|false=>exact d
theorem EG{c b:Nat}{r d}(f:b<5)(j:k<4)(m:s.b (.c o)=.a (kc k)):bc (H F) (K (H F) a NR) [x,z,.b (.c o),.d [G c,.b r],.d [G b,.b d],y] s=B (M c 4&&!(eg (eD k) b),s):=by
 let l:=[x,z,.b (.c o),.d [G c,.b r],.d [G b,.b d],y]
 refine bJ (HQ j f) λt h e=>?_
 have n:K _ a (.f (.a 3) (.b (.a (.a 0)))) l s=B _:=gv A A A A;have i:K _ a (.f (.a 4) (.b (.a (.a 0)))) l s=B _:=gv A A A A;have g:K (H F) a (.e .h (.f (.a 4) (.b (.a (.a 0)))) (.b (.a (.a 1)))) l s=B (.c (decide _),s):=(ab i (ab A (show B (E.c (xor I _),s)=_ by cases decide ((1:Int)<b)<;>rfl)):ei _ .h _ (cr (G 1)) l s=_)
 have w:=yC (jk (a:=4) n) (zm g (vm i (d:=.a 2) A (by exact C m h)));rw[e]at w;exact w
end
theorem So{s}{r}(h:s.b r=.a v):tk (H F) (.b r) s=B (r,s):=au A (au (show ce (s.b r)=_ by exact C h A) A)
theorem I5{l}{t}(c:bc (H F) q l s=B (t,s))(e:b l s=B (v,s)):km (H F) (B q) b l s=B (bif t then B v else N,s):=by
 show aB _ (λc s=>a' (B (N,s)) (kZ b l s) c)=_
 refine C c ?_;cases t with|true=>exact(ab e A:kZ b l s=_)|false=>rfl
section
variable{a:Nat->List E->S U->av U E}{l b:aC}{s c:S U}{g:dN}{e:aJ}{x y:List de}{v:List E}{d:E}{q:av U (cQ×aC)}
theorem Gh(h:K (H F) a e l s=B (.d v,s)):pg (H F) (K (H F) a e) l s=B (.d v,s):=ab h A
theorem Fn(h:K (H F) a e l s=B (.d v,s))(k:ed (H F) (.d v) (dK (H F) g (as (H F) a x)) (v.length+1) 0 l s=B ((.b d,b),c)):as (H F) a (.g g (.d e) x::y) l s=B ((.b d,b),c):=
 (zO (ab (Gh h) k):dS (jy _ g _ _) (as _ a y) l s=_)
theorem Qo(h:K (H F) a e l s=B (.d v,s))(k:ed (H F) (.d v) (dK (H F) g (as (H F) a x)) (v.length+1) 0 l s=B ((.a,b),c))(f:as (H F) a y b c=q):as (H F) a (.g g (.d e) x::y) l s=q:=
 (gx (ab (Gh h) k) f:dS (jy _ g _ _) _ l s=_)
theorem Fq{t:E->aC->S U->av U _}{n i}{w}(h:Z v i=B w)(e:t w l s=B ((.b d,b),c)):ed (H F) (.d v) t (n+1) i l s=B ((.b d,b),c):=
 au (O B h) (ab e A)
end
theorem Tp{s}{a5 f V d e}{x z}(a9:hA s x d o w)(b0:hA s z e b a)(b6:0<=o/\o<5)(a3:cS w)(b7:0<=b/\b<5)(b8:cS a)(a0:d<5)(a1:e<5)(T:V<4)(c9:f<s.a)(a2:s.b (.c f)=.a (kc V))(t:dF s)(p:s.a<80000):
  ∃k,ah (H F) (a5+1) 48 [x,z,.b (.c f)] s=B (.c (gO (eD V) d o w e b a),k)/\bP s k 2:=by
 refine gf a9 λu j c5 P=>?_;subst j
 refine gf b0 λy j c6 b4=>?_;subst j
 let c:=ah (H F) a5
 let x:E:=.d [G d,.b (.c u)]
 let z:E:=.d [G e,.b (.c y)]
 let l:=[x,z,.b (.c f),.f,.f,.f]
 have h:K _ c (.e .a (.f (.a 0) (.b (.a (.a 0)))) (.f (.a 1) (.b (.a (.a 0))))) l s=B _:=on (.inl A) (gv A A A A) (gv A A A A);rw[MT]at h;unfold gO;cases X:M d e with
 |true=>
  rw[X]at h;refine fg (Tk b6 a3 b7 b8) λa4 c1=>?_
  let L:=(dI o w).filter (qp b a)
  let g:S U:=⟨aZ.d s.b (.c s.a) (.a L),s.a+1⟩
  have r:bP s g 1:=.f t (aP p A)
  let q:S U:=⟨aZ.d g.b (.c g.a) (.a []),g.a+1⟩
  have Y:bP g q 1:=.f r.1 (by exact bB p A);have b2:K _ c (.f (.a 0) (.b (.a (.a 1)))) l s=B _:=gv A A A A;have b3:∀v∈dI o w,dK (H F) (.a 5) (km _ _ (K (H F) c (.a 5))) v l s=B (bif qp b a v then B v else N,s):=λv W=>by
   refine fg (a4 v W) λn c2=>cn c2 λc3 j=>?_;subst j
   exact au A (I5 (bS (vm (a:=c) (c:=.a 5) (d:=.f (.a 1) (.b (.a (.a 1)))) (l:=[x,z,.b (.c f),.f,.f,.a c3]) A (gv A A A A) (by exact C b4 n))) A)
  have c0:K _ c (.u (.a 5) _ (.f (.a 0) (.b (.a (.a 1)))) (B (.e .b (.a 5) (.f (.a 1) (.b _))))) l s=B (.b _,g):=
   (ab b2 (ab (So P) (by
    exact C (show hG _ _ s.b=(dI o w).length by show((ce (s.b _)).getD []).length=_;exact C P A) (ab (NU _ [] [] P b3 (by have:=(AZ (o:=o) a3).1;exact ap [_] (.a 1 (.c (.a 0) (.b 1)) (.b 1000) .b) (.c (.c (.b 0) (.a 0)) (.b 1)) (.b 1000) A this)) (hR (t.1.2 _ (bd _)) (aP p A))))):ia _ (K _ c (.a 5)) _ _ (B (K _ c (.e .b (.a 5) (.f (.a 1) (.b _))))) l s=_)
  have Z:=(Y.4 s.a (fi _)).trans cj;have a6:K _ c _ l s=B (.c (xor _ L.isEmpty),q):=
   OE (.inr A) c0 (wh A r.1 (by exact bB p A)) (zJ Z) (mQ Z λc4=>Qx λv W=>(a4 v ((Q1.mp W).1)).2) (mQ cj λd0=>A) (by cases L<;>rfl)
  rw[c1]at a6;refine(ag q (ft A A (fz (bS h) (cY (a6.trans ?_)))) (r.a Y));show B _=B (E.c (qG _ w a),q)
  cases qG _ w a<;>rfl
 |false=>
  rw[X]at h;have n:=eF (eF (eF Tx (Gv T)) (sq a0)) (sq a1);rw[X]at n;show∃k,ah _ _ 48 [x,z,.b _] s=B (.c (wx _ d e),k)/\bP s k 2
  refine J (beq_iff_eq.mp n) ?_;have i:=EG (a:=c) (x:=x) (z:=z) (y:=.f) (c:=d) (r:=.c u) (d:=.c y) a1 T a2;have m:=EG (a:=c) (x:=x) (z:=z) (y:=.f) (c:=e) (r:=.c y) (d:=.c u) a0 T a2;have Q:∀{b1}{b9},as _ c _ l s=B ((.b (.c b1),b9),s)->ah (H F) _ 48 [x,z,.b _] s=B _:=λb5=>ft A A (b' (bS h) b5)
  refine(ag s ?_ ((bP.b t).c (by decide)))
  let c7:=[x,z,.b (.c f),x,z,.f]
  let c8:=[x,z,.b (.c f),z,x,.f]
  cases a7:M d 4&&!(eg _ e)with
  |true=>rw[a7]at i;exact Q (Fn A (Fq A (au A (fz i (cY A)))))
  |false=>rw[a7]at i;cases a8:M e 4&&!(eg _ d)with|true=>rw[a8]at m;exact Q (Fn A (sI A (au A (b' i A)) (Fq A (au A (fz m (cY A))))))|false=>rw[a8]at m;exact Q (Qo A (sI A (au A (b' i A)) (sI A (au A (b' m A)) (Fp A))) (cY A))
def hL(x:Option (Int×E)):E:=dc .g (λx=>.d [aD (G x.1),x.2]) x
noncomputable def nG(p:dB):Option (Int×E):=bif p.k then N else B (bif p.o then(7,bif p.n then W 11 else W 12)else(1,W 13))
noncomputable def sT(k:Nat):=M k 1||(M k 3||M k 4)
noncomputable def hi(b a:Nat)(o c w d:Int):=M b a&&(decide (o=c)&&decide (w=d))
def nH(p):=bif !(hi p.c p.c p.e p.e p.b p.a)||(sT p.h&&gO (eD p.f) p.c p.e p.b p.g p.i (iq p))then N else nG p
def mj(p):=bif M p.h 2&&!(eg (eD p.f) p.c)then N else nH p
def ew(p):=bif M p.h 1&&hi p.g p.c p.i p.e (iq p) p.a then B (2,W 13)else mj p
theorem QZ{k:Nat}(h:k<6):fx F (.a k) [G 1,G 3,G 4]=B (sT k):=(T A (T A (T A (T A (T A (T A ae))))):∀k∈([0,1,2,3,4,5]:List Nat),fx F (.a k) _=B _) k ((by decide:∀k,k<6->k∈[0,1,2,3,4,5]) k h)
def wa(a b c)(p)(v)(m)(o)(x y z k)(r):=ka a b c p (v::aD (G (1+(p.d%2:Nat)))::G m::.b (.c o)::x::y::z::k::r)
section
variable{a:Nat->List E->S U->av U E}{l d:aC}{s c:S U}{b:aJ}{x y:List de}{q:av U (cQ×aC)}{t:Bool}
theorem HN{q}(h:K (H F) a b l s=B (.c I,s))(k:bc (H F) (K (H F) a e) l s=q):bc (H F) (K (H F) a (.q [b,e])) l s=q:=wO h k
theorem My{q}(h:K (H F) a b l s=B (.c D,s))(k:bc (H F) (K (H F) a e) l s=q):bc (H F) (K (H F) a (.l [b,e])) l s=q:=uL h k
theorem Bv(h:bc (H F) (K (H F) a b) l s=B (t,c))(f:K (H F) a e l c=B (v,c))(g:fc l i v=B d)(j:t=D->as (H F) a y d c=q)(k:t=I->as (H F) a y l c=q):as (H F) a (.a b [.c i e] []::y) l s=q:=by cases t with|true=>exact Jp h (dJ f g A) (j A)|false=>exact Bu h (k A)
end
theorem RO{s}(d:p.m)(Q:dF s)(b3:s.a<80000)(P:hA s x p.c p.e p.b)(w:hA s y p.c p.e p.a)(J:hA s z p.g p.i (iq p))(a0:o<s.a)(Y:s.b (.c o)=.a (kc p.f)):
  ∃u,as (H F) (ah (H F) (n+1)) ((dV.a.drop 18).take 4) (zR a b c p v m o x y z (bG 6)) s=B ((.a,wa a b c p v m o x y z (hL (ew p)) (bG 5)),u)/\bP s u 2:=by
 let f:=ah (H F) (n+1)
 let U:=zR a b c p v m o x y z (bG 6)
 have b6:∃h,x=.d h:=P.elim λa j=>⟨_,j.1⟩
 have b8:∃h,z=.d h:=J.elim λa j=>⟨_,j.1⟩
 have b7:∃h,y=.d h:=w.elim λa j=>⟨_,j.1⟩
 refine cn b6 λa8 i=>?_;subst i
 refine cn b7 λa9 i=>?_;subst i
 refine cn b8 λb0 i=>?_;subst i
 let L:=λb4=>wa a b c p v m o (.d a8) (.d a9) (.d b0) b4 (bG 5)
 have b1:K (H F) f (.o (.a 8) (.b .g) (.o (.a 7) (.d [.d [.b (.e 1),.b (.a (.a 7))],.f (.b (.e 32)) (.o (.a 6) (.b (.a (.a 0))) (.b (.a (.a 1))))]) (.d [.d [.b (.e 1),.b (.a (.a 1))],.b (.e 13)]))) U s=B (hL (nG p),s):=by
  unfold nG;cases a4:p.k with
  |true=>exact iX (bS A) a4 A
  |false=>
   refine iW (bS A) a4 ?_;cases a3:p.o with
   |false=>exact iW (bS A) a3 A
   |true=>refine iX (bS A) a3 ?_;cases a2:p.n with|true=>exact h' (bC (v:=aD (G 7)) A (bC (ab (a:=W 32) A (ab (iX (bS A) a2 A) A):gV _ (K (H F) f (.b (.e 32))) (K _ f (.o (.a 6) (.b (.a (.a 0))) (.b _))) U s=_) ee))|false=>exact h' (bC (v:=aD (G 7)) A (bC (ab (a:=W 32) A (ab (iW (bS A) a2 (v:=G 1) A) A):gV _ (K (H F) f (.b (.e 32))) (K _ f (.o (.a 6) (.b _) (.b _))) U s=_) ee))
 let r:=L (hL (nG p))
 have g:K (H F) f (.e .c (.a 22) (.a 23)) r s=B (.c (!(hi p.c p.c p.e p.e p.b p.a)),s):=by
  refine(ok (.inr A) A A A (P.b d.10) (w.b d.12) (Ib d.8 d.10 d.8 d.12)).trans ?_;show B (E.c (xor D (hi _ _ _ _ p.b p.a)),s)=_
  cases hi _ _ _ _ p.b p.a<;>rfl
 have l:K _ f (.e .b (.a 12) (.d [.b (.a (.a 1)),.b (.a (.a 3)),.b (.a (.a 4))])) r s=B _:=zg A A (QZ d.5);refine bJ (Tp (a5:=n) P J d.8 d.10 d.9 (wy d) d.1 d.2 d.6 a0 Y Q b3) λu b5 a6=>?_
 have S:∃e,bc (H F) (K (H F) f (.q [.e .c (.a 22) (.a 23),.l [.e .b (.a 12) (.d [.b (.a (.a 1)),.b (.a (.a 3)),.b (.a (.a 4))]),.k 48 [.a 22,.a 24,.a 21]]])) r s=B (!(hi p.c p.c p.e p.e p.b p.a)||(sT p.h&&gO (eD p.f) p.c p.e p.b p.g p.i (iq p)),e)/\bP s e 2:=by
  cases q:!(hi _ _ _ _ p.b p.a)with
  |true=>rw[q]at g;exact(ag s (tB g) ((bP.b Q).c (by decide)))
  |false=>rw[q]at g;cases a1:sT _ with|false=>rw[a1]at l;exact(ag s (HN g (uJ l)) ((bP.b Q).c (by decide)))|true=>rw[a1]at l;exact(ag u (HN g (My l (Cg (sv (bC A (bC A (bC A ee))) b5)))) a6)
 refine bJ S λe S k=>?_
 let t:=L (hL (nH p))
 refine bJ (HQ d.6 d.1) λc1 b9 c0=>?_
 let Z:=L (hL (mj p))
 have a7:bc (H F) (K (H F) f (.l [.e .a (.a 12) (.b (.a (.a 1))),.e .a (.a 24) (.a 23)])) Z e=B (M p.h 1&&hi p.g p.c p.i p.e (iq p) p.a,e):=by
  refine yC (jk A) ((ok (.inl A) A A A ((J.a k).b (wy d)) ((w.a k).b d.12) (Ib d.9 (wy d) d.8 d.12)).trans ?_);show B (E.c (xor I (hi _ _ _ _ _ p.a)),e)=_
  cases hi _ _ _ _ _ p.a<;>rfl
 refine(ag e (dJ b1 (i:=r) A (Bv S (d:=L _) A A (λq=>?_) λq=>?_)) k)
 all_goals
  first
  |(have V:nH p=N:=by unfold nH;refine C q ?_;rfl)
  |(have V:nH p=nG p:=by unfold nH;refine C q ?_;rfl)
  refine(show as _ f _ t e=B ((.a,L _),e)->_ by show as _ f _ (L _) e=_->_;exact C V id) ?_;refine Bv (by
  have b2:K (H F) f (.e .h (.a 3) (.b (.a (.a 1)))) t e=B (.c (decide _),e):=(ab (s:=e) A (ab (a:=G 1) (s:=e) A (show B (E.c (xor I _),e)=_ by cases decide ((1:Int)<p.c)<;>rfl)):ei (H F) .h (K (H F) f (.a 3)) (cr (G 1)) t e=_)
  have a5:=yC (jk (e:=f) (d:=.a 12) (l:=t) (s:=e) (a:=2) A) (zm b2 (vm (c:=.a 3) (d:=.a 21) (r:=.c o) A A (by exact C ((k.4 o a0).trans Y) b9)));rw[c0]at a5
  exact a5) (d:=L _) A A (λq=>?_) λq=>?_
  all_goals
   first
   |(have X:mj p=N:=by unfold mj;refine C q ?_;rfl)
   |(have X:mj p=nH p:=by unfold mj;refine C q ?_;rfl)
   refine(show as _ f _ Z e=B _->_ by show as _ f _ (L _) e=_->_;exact C X id) ?_;refine Bv a7 (v:=hL (B (2,W 13))) (d:=L _) A A (λq=>?_) λq=>?_
   ·have T:ew p=B (2,W 13):=by unfold ew;refine C q ?_;rfl
    refine C T ?_;rfl
   ·have T:ew p=mj p:=by unfold ew;refine C q ?_;rfl
    refine C T ?_;rfl
noncomputable def mo(r:bY):bY:=⟨r.b,r.a,bif M r.b 3 then r.f else G 0,I,r.c.take 1⟩
theorem Hz{a:List E}:Z (a.take 1) 0=Z a 0:=by cases a<;>rfl
theorem B3:hZ a (mo r)=hZ a r:=by unfold hZ mo;cases q:M r.b 3 with|true=>rfl|false=>refine C Hz ?_;rfl
theorem Qq:∀{r:List bY}{H},(r.map mo).foldl gN H=r.foldl gN H:=λ{r}=>by
 induction r with
 |nil=>exact A
 |cons a r i=>
  intro H;have e:gN H (mo a)=gN H a:=by unfold gN;exact C B3 A
  show(r.map mo).foldl gN _=_
  exact C e i
theorem QQ(h:(M r.b 3||M r.b 5)=I):gN a r=a:=funext λx=>by
 have e:hZ a r=N:=by unfold hZ;cases q:M r.b 3 with|true=>rw[q]at h;cases h|false=>rw[q]at h;refine C (show M r.b 5=I from h) ?_;rfl
 unfold gN;refine C e ?_;cases decide (x=r.a)<;>rfl
theorem Qp:∀{T:List bY}{H},(∀r∈T,(M r.b 3||M r.b 5)=I)->T.foldl gN H=H:=λ{T}=>by
 induction T with|nil=>exactλz=>A|cons r T i=>exactλh=>(O (T.foldl gN) (QQ (h r (.head _)))).trans (i λr m=>h r (.tail _ m))
noncomputable def kI(b w:Nat):=bif(M b 2||M b 3)&&M (w%4) 2 then 0 else bif M (w%2) 0 then 1 else 2
def BB(g:Int)(b c:Nat):List bY:=(Z [[⟨4,g,G 0,I,[]⟩],[⟨5,g,G 0,I,[aD (G (fN b))]⟩],[⟨5,g+1,G 0,I,[aD (G (fN b))]⟩,⟨5,g,G 0,I,[aD (G (g+1))]⟩]] c).getD []
theorem JL:(dY g b o w).map mo=BB g b (kI b w):=by unfold dY kI;cases(M b 2||M b 3)&&M _ 2<;>cases M _ 0<;>rfl
theorem EE:kI b w∈[0,1,2]:=by unfold kI;cases(M b 2||M b 3)&&M _ 2<;>cases M _ 0<;>first|exact .head _|exact .tail _ (.head _)|exact .tail _ (.tail _ (.head _))
def jp(p:dB):=kO++(dY 10 p.c p.e p.q++(dY 12 p.c p.e p.r++[hT 14 (fN p.g) p.i]))
def xg(b c a o):=kO.map mo++(BB 10 b c++(BB 12 b a++[⟨5,14,G 0,I,[aD (G (fN o))]⟩]))
theorem IE:(jp p).map mo=xg p.c (kI p.c p.q) (kI p.c p.r) p.g:=by exact C rE (C rE (C rE (C JL (C JL A))))
def sp(r:bY):=rx ((Y (Z r.c 0) (dP 1)).getD .f)
def Au(r:List bY):=(((bK r 1).isNone&&(bK r 2).isNone)&&((bK r (-1)).isNone&&(decide (bK r 3=B 0)&&decide (bK r 4=B 1))))&&r.all λa=>!(M a.b 5)||((bK r a.a).isSome||(bK r (sp a)).isNone)
theorem Ud:(gr.map λb=>[0,1,2].map λc=>[0,1,2].map λa=>gr.map λo=>Au (xg b c a o))=gr.map λb=>[0,1,2].map λc=>[0,1,2].map λa=>gr.map λo=>D:=by kernel_rfl
section
variable{p:dB}
def la(p):=fX p::(gs p.h p.j++[eO p])
theorem xf:ci p=(jp p++la p)++fa p.f:=by unfold ci jp la;simp only[kp,O5,Q2]
theorem DB{P:bY->Prop}(h:P (kd 7 10 p.b p.n p.k))(a:P (ke 10 1 p.b p.k)):P (fX p):=by unfold fX;cases p.o with|true=>exact h|false=>exact a
theorem Nn{P:bY->Prop}(h:∀f,P (ke 14 2 w f))(a:P (l' 2))(b:P xb)(c:P (kd 9 14 w I D)):∀r∈gs k w,P r:=by
 unfold gs;cases M k 1||M k 4 with
 |true=>exact T (h _) ae
 |false=>cases M k 2 with
  |true=>exact T a ae
  |false=>cases M k 3 with
   |true=>exact T b ae
   |false=>cases M k 5 with|true=>exact T c ae|false=>exact ae
theorem Gw{P:bY->Prop}(h:P (kd 8 12 p.a p.p p.l))(a:∀v,v=1∨v=2->P (ke 12 v p.a p.l)):P (eO p):=by unfold eO;cases ar p.d 2 with|true=>exact h|false=>exact a _ ((by decide:∀k,k<2->(1+(k:Nat):Int)=1∨(1+k:Int)=2) _ (fj _ (by decide)))
theorem BF{P:bY->Prop}(l:∀d r w b f,P (kd d r w b f))(s:∀r v w f,v=1∨v=2->P (ke r v w f))(c:P (l' 2))(a:P xb):∀r∈la p,P r:=
 T (DB (l _ _ _ _ _) (s _ _ _ _ (.inl A))) λr m=>(hq.mp m).elim (Nn (λz=>s _ _ _ _ (.inr A)) c a (l _ _ _ _ _) r) (T (Gw (l _ _ _ _ _) λv h=>s _ _ _ _ h) ae r)
theorem JK{P:bY->Prop}(a:∀s,P (oN s g o))(h:∀d r c,d=g∨d=g+1->P (hT d r c)):∀r∈dY g b o w,P r:=by
 unfold dY;cases(M b 2||M b 3)&&M _ 2 with
 |true=>exact T (a _) ae
 |false=>cases M _ 0 with|true=>exact T (h _ _ _ (.inl A)) ae|false=>exact T (h _ _ _ (.inr A)) (T (h _ _ _ (.inl A)) ae)
theorem FL{P:bY->Prop}(s:∀i,i=0∨i=1->P (xc i))(n:∀b d c,0<=d->P (oN b d c))(a:∀d r c,0<=d->P (hT d r c)):∀r∈jp p,P r:=λr m=>(hq.mp m).elim (T (s 0 (.inl A)) (T (s 1 (.inr A)) (T (n _ _ _ (by decide)) (T (n _ _ _ (by decide)) ae))) r) λm=>(hq.mp m).elim (JK (λz=>n _ _ _ (by decide)) (λd r c h=>a _ _ _ (h.elim (λe=>e▸(by decide)) λe=>e▸(by decide))) r) λm=>(hq.mp m).elim (JK (λz=>n _ _ _ (by decide)) (λd r c h=>a _ _ _ (h.elim (λe=>e▸(by decide)) λe=>e▸(by decide))) r) (T (a _ _ _ (by decide)) ae r)
theorem QF:bK (ci p)=bK (xg p.c (kI p.c p.q) (kI p.c p.r) p.g):=by
 rw[xf,kp,←IE];unfold bK;exact C P2 (C (Qp (λr m=>(hq.mp m).elim (BF (P:=λr=>(M r.b 3||M r.b 5)=I) (λz z z z z=>A) (λz z z z z=>A) A A r) λm=>by
  unfold fa at m;cases q:M _ 1||M _ 2 with
  |true=>rw[q]at m;exact(T A ae:∀r∈[l' _],(M r.b 3||M r.b 5)=I) r m
  |false=>rw[q]at m;cases m)) (C Qq A))
inductive yk(p) where
 |mk (h:bK (ci p) 1=N)
  (b:bK (ci p) 2=N)
  (e:bK (ci p) (-1)=N)
  (c:bK (ci p) 3=B 0)
  (d:bK (ci p) 4=B 1)
  (a:∀r∈jp p,M r.b 5=D->(bK (ci p) r.a).isSome=D∨bK (ci p) (sp r)=N)
theorem FM(o:p.m):yk p:=by
 have T:Au (xg _ (kI p.c p.q) (kI p.c p.r) _)=D:=eF (eF (eF (eF Ud (sq o.1)) EE) EE) (sq o.2);unfold Au at T;rw[←(QF (p:=p))]at T;refine V T λa c=>V a λd b=>V d λe f=>V b λg b=>V b λh i=>⟨ks.mp e,ks.mp f,ks.mp g,of_decide_eq_true h,of_decide_eq_true i,λr m k=>?_⟩
 have z:=bu.mp c _ (IE▸un m);have z:(!(M r.b 5)||((bK _ r.a).isSome||(bK _ _).isNone))=D:=z;rw[k,show sp _=sp r by unfold sp;exact C (show(mo r).c=r.c.take 1 from A) (C Hz A)]at z;have z:((bK _ r.a).isSome||(bK _ _).isNone)=D:=z;exact tA z .inl λj=>.inr (ks.mp j)
end
section
variable{p:dB}
theorem wf{P:List bY->Nat->Prop}(a:P [] 0)(h:∀j:Nat,j<2->k=j+1->P [l' (2+k)] (j+1)):P (fa k) (eD k):=by
 unfold fa eD;cases q:M k 1 with
 |true=>exact h 0 (by decide) (bW q)
 |false=>cases b:M k 2 with|true=>exact h 1 (by decide) (bW b)|false=>exact a
theorem PY:∀r∈ci p,jM r/\r.c.length<1000:=λr m=>by
 rw[xf]at m;have x:∀{o}{d}{a}{f}(l:List Int),o∈[4,8,9,10,25]->l.length<1000->jM ⟨o,d,a,f,l.map _⟩/\(l.map λb=>aD (G b)).length<1000:=λl h k=>⟨⟨.inr (.inr ⟨h,⟨l,A⟩⟩)⟩,by rw[ea];exact k⟩
 exact(hq.mp m).elim (λm=>(hq.mp m).elim (FL (P:=λr=>jM r/\r.c.length<1000) (λi h=>⟨⟨.inl (da A ⟨i,by omega,A⟩ A (by show 0<=3+i;omega))⟩,dH A⟩) (λs d c h=>x [] (.head _) (dH A)) (λd r c h=>⟨⟨.inr (.inl (aK A ⟨r,c,A⟩ h))⟩,dH A⟩) r) (BF (P:=λr=>jM r/\r.c.length<1000) (λd r w s f=>x [r] (by decide) (dH A)) (λr v w f z=>x [r,v] (by decide) (dH A)) (x [2] (by decide) (dH A)) (x [14,5] (by decide) (dH A)) r)) λm=>(wf (P:=λl z=>∀r∈l,jM r/\r.c.length<1000) ae (λj z z=>T (x [2+(p.f:Int)] (by decide) (dH A)) ae) r m)
theorem QD(h:yk p):∀r∈jp p++la p,∀v∈gM (bK (ci p)) r,rY (bK (ci p)) v:=λr m=>by
 refine(hq.mp m).elim (λm=>?_) λm=>?_
 ·refine FL (P:=λr=>(M r.b 5=D->(bK _ r.a).isSome=D∨bK _ _=N)->∀v∈gM _ r,rY (bK (ci p)) v) (λi z z=>ae) (λs d c z z=>?_) (λd r c z a=>?_) r m (h.6 r m)
  ·show∀v∈(bif(bK _ d).isSome then[]else[]),_
   cases(bK _ d).isSome<;>exact ae
  ·show∀v∈(bif(bK _ d).isSome then[]else[aD _,dq _]),_
   cases q:(bK _ d).isSome with|true=>exact ae|false=>exact(a A).elim (λe=>az (q.symm.trans e)) λe=>T (.inr (ag r A e)) (T (.inl ⟨c,A⟩) ae)
 ·refine BF (P:=λr=>∀v∈gM _ r,rY (bK (ci p)) v) (λz z z z z=>ae) (λr v w f b=>T (.inr (ag v A (b.elim (λe=>e▸h.1) λe=>e▸h.2))) ae) ?_ ae r m;show∀v∈(bif(bK _ (-1)).isSome then[]else[aD _]),_
  exact C h.3 (T (.inr (ag 2 A h.2)) ae)
theorem UP(a:yk p):yr (qu b (eD p.f) (ci p)):=λi r h=>by
 have h:Z (ci p) i=B r:=h;have d:(ci p).length=(jp p++la p).length+(fa _).length:=C xf (C dr A);refine C d ?_;rw[xf]at h
 by_cases q:i<(jp p++la p).length
 ·rw[wD q]at h;exact .inl ⟨QD a r (by rw[dC]at h;exact fE h),(wf (P:=λl k=>i+1=(jp p++la p).length+l.length->k=0) (λz=>A) λj z z e=>ak e (bw (so (aQ q 1))))⟩
 ·rw[dC,CM (hu.mp q),←dC]at h;refine .inr (wf (P:=λl k=>Z l _=B r->i+1=(jp p++la p).length+l.length/\∃(x:Int)(j:Nat),gM (bK (ci p)) r=[aD (G x)]/\bK (ci p) x=B (j:Int)/\j<2/\k=j+1) X (λj c g e=>?_) h);have m:i-(jp p++la p).length=0:=by
   cases y:i-(jp p++la p).length with|zero=>rfl|succ n=>rw[y]at e;exact X e
  rw[m]at e;have f:=R e;subst f;refine⟨(by show i+1=_+1;omega),(dR (2+p.f) j ?_ ?_ c A)⟩
  ·show(bif(bK _ (-1)).isSome then[]else[aD _])=_
   exact C a.3 A
  ·exact C g ((T a.4 (T a.5 ae):∀j∈([0,1]:List Nat),bK (ci p) (2+((j+1:Nat):Int))=B (j:Int)) j (mc c))
noncomputable def EQ(a l:List Int):Bool:=ds (λz=>D) (λd z i a=>(decide (d<0)||(decide (2<d)&&!(a.contains d)))&&i (d::a)) l a
theorem Ov:∀{l}{a}{i}{d},EQ a l=D->Z l i=B d->0<=d->2<d/\d∉a/\d∉l.take i:=λ{l}=>by
 induction l with
 |nil=>exactλr h=>X h
 |cons x l n=>
  intro a i d h f c;refine V h λj k=>?_
  cases i with
  |zero=>
   have e:=R f;subst e;refine tA j (λe=>ak (of_decide_eq_true e) (lm.mpr (aG [_] (.a 1 (.b 0) (.a 0) .b) (.b 0) (.a 0) A c))) λe=>V e λg b=>(aK (of_decide_eq_true g) (λm=>?_) cI)
   rw[O6.mpr m]at b;cases b
  |succ i=>exact nD (n k f c) λo z q=>(aK o (λm=>z (.tail _ m)) (λm=>(cB.mp m).elim (λe=>z (e▸.head _)) q))
end
noncomputable def yX(s d b e)(a c:Int):=[3,4,5,6]++(s++(d++(14::a::(b++(c::e)))))
def HI(d:List Int):=EQ [] d&&(cV d.length 13&&ar 0 d.length)
theorem Ob:[[10],[11,10]].map (λs=>[[12],[13,12]].map λd=>[[],[-1],[9]].map λb=>[[],[-1]].map λe=>[7,-1].map λa=>[8,-1].map λc=>HI (yX s d b e a c))=([[10],[11,10]]:List (List Int)).map (λs=>([[12],[13,12]]:List (List Int)).map λd=>[[],[-1],[9]].map λb=>[[],[-1]].map λe=>[7,-1].map λa=>[8,-1].map λc=>D):=by kernel_rfl
theorem JH:(dY g b o w).map (·.a)∈[[g],[g+1,g]]:=by unfold dY;cases(M b 2||M b 3)&&M _ 2<;>cases M _ 0<;>first|exact .head _|exact .tail _ (.head _)
theorem Nl:(gs k w).map (·.a)∈[[],[-1],[9]]:=by unfold gs;cases M k 1||M k 4<;>cases M k 2<;>cases M k 3<;>cases M k 5<;>first|exact .head _|exact .tail _ (.head _)|exact .tail _ (.tail _ (.head _))
section
variable{p:dB}
theorem Oa:HI ((ci p).map (·.a))=D:=by
 have e:(ci p).map (·.a)=yX ((dY 10 p.c p.e p.q).map (·.a)) ((dY 12 p.c p.e p.r).map (·.a)) ((gs p.h p.j).map (·.a)) ((fa p.f).map (·.a)) (fX p).a (eO p).a:=by unfold ci yX;simp only[rE,List.map_cons];rfl
 exact C e (eF (eF (eF (eF (eF (eF Ob JH) JH) Nl) (wf (P:=λl z=>l.map (·.a)∈([[],[-1]]:List (List Int))) (.head _) λz z z=>.tail _ (.head _))) (DB (P:=λr=>r.a∈([7,-1]:List Int)) (.head _) (.tail _ (.head _)))) (Gw (P:=λr=>r.a∈([8,-1]:List Int)) (.head _) λz z=>.tail _ (.head _)))
theorem IF(o:p.m):uH (qu b (eD p.f) (ci p)):=by
 have d:=Oa (p:=p);refine V d λf d=>V d λa c=>?_
 rw[(ea _)]at a c;exact⟨PY,(λj r i h=>by
   have z:=Ov f (show Z _ j=B r.a by exact C At (O (lr (·.a)) i))
   exact h.elim (λe=>ak (z (aG [_] (.c (-1) (.a 0) (.b 0) .b) (.b 0) (.a 0) A e)).1 (lm.mpr (aG [_] (.c 1 (.a 0) (.b 0) .b) (.a 0) (.b 2) A e))) λh=>h.elim (λe=>ak (z (aG [_] (.c (-1) (.a 0) (.b 1) .b) (.b 0) (.a 0) A e)).1 (lm.mpr (aG [_] (.c 1 (.a 0) (.b 1) .b) (.a 0) (.b 2) A e))) λh=>h.elim (λe=>ak (z (aG [_] (.c (-1) (.a 0) (.b 2) .b) (.b 0) (.a 0) A e)).1 (lm.mpr (aG [_] (.c 1 (.a 0) (.b 2) .b) (.a 0) (.b 2) A e))) λh=>(fg h λg w=>bJ w λk m e=>((z g).2.2 (by exact J Lr (J e (un m)))))),UP (FM o),(FM o).1,bH c,bH a⟩
end
def oB(a b c:Nat)(p:dB)(v:E)(m:Int)(o:Nat)(x y z k w:E)(r:List E):=ka a b c p (v::aD (G (1+(p.d%2:Nat)))::G m::.b (.c o)::x::y::z::k::w::r)
inductive Mf(p)(s:S U)(w:E)(n i) where
 |mk (b:∃L v,w=.b (.c L)/\s.b (.c L)=.a v/\(ar p.d 2=D->v.length=n/\∃o d q a,Z v i=B (.d [o,d,.b (.c q)])/\s.b (.c q)=.a a/\rX (eD p.f) p o a)/\(ar p.d 2=I->(hj (eD p.f) p=D->v.length=n)/\(hj (eD p.f) p=I->v.length=n-1)))
theorem OH(e:K (H F) c d l a=B (.b r,s))(h:s.b r=.a b)(f:Z b i=B v)(g:aF v=I):K (H F) c (.f d (.b (.a (.a i)))) l a=B (v,s):=by
 refine(ab e (ab A ?_):gV _ _ (cr (G i)) l a=_);show lI _ (s.b r) _ s=_
 refine C h ?_;show Y (Z b i) _=_
 refine C f ?_;show(a' _ _ _:Option _)=_
 exact C g A
theorem GJ(h:bs (eM (H F) b e) l a=B (v,s))(c:s.b (.c s.a)=.f)(d:s.a<100000):K (H F) b (.g N e) l a=B (.b (.c s.a),⟨aZ.d s.b (.c s.a) (.a v),s.a+1⟩):=(ab h (hR c d):iB _ N _ l a=_)
theorem RB:eD k<3:=by unfold eD;cases M k 1<;>cases M k 2<;>decide
theorem Sg{s}{p}(n:p.m)(f:dF s)(h:s.a<=137)(W:es s v (ci p)):
  ∃w d i,as (H F) (ah (H F) 11) ((dV.a.drop 22).take 1) (wa a b c p v m o x y z k (bG 5)) s=B ((.a,oB a b c p v m o x y z k w (bG 4)),d)/\Mf p d w (ci p).length i/\(ci p).drop i=eO p::fa p.f/\(∀a,a<s.a->d.b (.c a)=s.b (.c a))/\cD d:=by
 refine mg W λr a3 g l J V a4=>?_;subst g
 let X:=wa a b c p (.b (.c r)) m o x y z k (bG 5)
 let d:S U:=⟨aZ.d s.b (.c s.a) (.a [.d [.b (.c r),qm]]),s.a+1⟩
 have e:bP s d 1:=.f f (bB h A);have C:K _ (ah (H F) 11) (.g _ [.d [.a 18,.j 13]]) X s=B (.b _,d):=GJ (bC A ee) (f.1.2 _ (bd _)) (bB h A);refine Ce (Sb n e.1.1 (gJ h A) e.1.2 cj ((e.4 r l).trans J) (V.a e f.1) (eb l) (fi _) (IF n) RB) λa2 Z i Y G T E u=>?_
 refine Ce G.1 λa1 L a0 g P Q q t=>?_;subst g
 refine(xK _ Z i (dJ (OH (sv (bC C ee) Y) P A A) A A) ⟨L,a0,A,Q,q,t⟩ T (λa j=>(E a (eb j)).trans (e.4 a j)) u)
def gm(l:Int)(x y:Option (Int×E)):=(y=N->x=N)/\∀r h,y=B (r,h)->∃a,x=B (r,a)/\(l≠4->a=h)
section
variable{p:dB}{l:Int}{x y:Option (Int×E)}
theorem gm.a:gm l N N:=⟨λz=>A,λz z e=>X e⟩
theorem gm.g(h:gm l x y):gm l (bif b then N else x) (bif b then N else y):=by cases b with|true=>exact gm.a|false=>exact h
theorem gm.d:gm l (B (r,h)) (B (r,h)):=⟨λe=>X e.symm,λz z e=>(ag _ e (λz=>A))⟩
theorem Wv:hi p.c p.c p.e p.e p.b p.a=decide (p.b=p.a):=by unfold hi;rw[gj,decide_eq_true A];rfl
theorem RT(e:p.b=p.a):gm p.a (fP p) (nG p):=by unfold fP nG;refine C (decide_eq_true e) ?_;refine gm.g ?_;cases p.o with|false=>exact gm.d|true=>refine⟨λe=>X e.symm,λr h q=>(ag _ (O (λr=>B (r,dn p.b p.n)) (O Prod.fst (R q))) (λn=>?_))⟩;have a:(bif p.n then W 11 else W 12)=h:=O pz (R q);refine J a ?_;unfold dn;refine C (beq_eq_false_iff_ne.mpr (e▸n)) ?_;rfl
theorem I1(e:p.b≠p.a):fP p=N:=by unfold fP;refine C (decide_eq_false e) ?_;cases p.k<;>rfl
theorem I6:ll k p N=N:=by
 unfold ll;cases M _ 1||M _ 4 with
 |true=>cases gO k _ _ p.a _ _ _<;>rfl
 |false=>cases M _ 2 with
  |true=>cases eg k _<;>rfl
  |false=>cases M _ 3 with|true=>cases gO k _ _ p.a _ _ 4<;>rfl|false=>rfl
theorem RU:gm p.a (ll (eD p.f) p (fP p)) (mj p):=by
 unfold mj nH;refine C Wv ?_
 by_cases e:p.b=p.a
 ·refine C (decide_eq_true e) (C e ?_);have h:=RT e;unfold ll sT iq;cases q:M _ 1 with
  |true=>exact C (bW q) h.g
  |false=>cases b:M _ 4 with
   |true=>exact C (bW b) h.g
   |false=>cases a:M _ 2 with
    |true=>refine C (bW a) ?_;cases eg _ _ with|true=>exact h|false=>exact gm.a
    |false=>cases c:M _ 3 with|true=>exact h.g|false=>exact h
 ·refine C (decide_eq_false e) (C (I1 e) (C I6 ?_));show gm p.a N (bif M _ 2&&!(eg _ _)then N else N)
  cases M _ 2&&!(eg _ _)<;>exact gm.a
theorem Gu:gm p.a (hn (eD p.f) p) (ew p):=by
 unfold hn ew;have e:(M p.h 1&&hi p.g p.c p.i p.e (iq p) p.a)=(M p.h 1&&(M p.g p.c&&(decide (p.i=p.e)&&decide (p.j=p.a)))):=by cases q:M _ 1 with|false=>rfl|true=>unfold hi iq;refine C (bW q) ?_;rfl
 refine C e ?_;cases M _ 1&&(M _ _&&(decide (p.i=p.e)&&decide (p.j=p.a)))with|true=>exact gm.d|false=>exact RU
end
section
variable{a:Nat->List E->S U->av U E}{l:aC}{s d:S U}{b c:aJ}{v w:E}{p:dB}{q:Bool}
def ns(p):=p.l||dc D (λx=>!(x.1==1+(p.d%2:Nat))) (ew p)
theorem YI:ns p=hj (eD p.f) p:=by unfold ns hj;have h:=Gu (p:=p);cases e:ew p with|none=>exact C (h.1 e) A|some x=>exact bJ (h.2 x.1 x.2 e) λf z g=>(C z A)
theorem OL(h:K (H F) a b l s=B (.c u,s))(k:K (H F) a c l s=B (.c D,s)):K (H F) a (.q [b,c,e]) l s=B (.c D,s):=by refine(ab h (ab ((λz=>A) u) ?_):gh _ _ (K _ a (.q [c,e])) l s=_);cases u with|true=>rfl|false=>exact(ab k (ab ((λz=>A) D) A):gh _ _ (K _ a e) l s=_)
theorem OK{u r}(h:K (H F) a b l s=B (.c u,s))(k:K (H F) a c l s=B (.c q,s))(f:K (H F) a e l s=B (.c r,s)):K (H F) a (.q [b,c,e]) l s=B (.c (u||(q||r)),s):=by refine(ab h (ab ((λz=>A) u) ?_):gh _ _ (K _ a (.q [c,e])) l s=_);cases u with|true=>rfl|false=>exact(zm k f:K _ a _ l s=B _)
theorem Ge(h:K (H F) a b l s=B (hL x,s)):K (H F) a (.e .i b (.b .g)) l s=B (.c x.isNone,s):=by refine(ab h (ab A ?_):ei _ .i _ (cr .g) l s=_);cases x<;>rfl
end
noncomputable abbrev Uk:aJ:=.q [.a 17,.e .i (.a 25) (.b .g),.e .c (.f (.a 25) (.b (.a (.a 0)))) (.a 19)]
theorem MC{n c d f o m:Nat}{p}{x y z X:E}{r L}{v w}(J:s.b (.c r)=.a v)(i:s.b (.c L)=.a w)(S:ar p.d 2=I)(Q:ns p=D->w.length=v.length)(P:ns p=I->w.length=v.length-1)(W:0<v.length):
  ∃T,as (H F) (ah (H F) n) (dV.a.drop 23) (oB c d f p (.b (.c r)) m o x y z (hL (ew p)) (.b (.c L)) (bG 4)) s=B ((.b (.c D),T),s):=by
 let a:=ah (H F) n
 let b:=oB c d f p (.b (.c r)) m o x y z (hL (ew p)) (.b (.c L)) (bG 4)
 have g:=Ge (a:=a) (l:=b) (s:=s) (iY (i:=25) A (by cases ew p<;>rfl));have u:K (H F) a Uk b s=B (.c (ns p),s):=by
  have V:(ew p).isNone=D->∀{h},K _ a (.q [.a 17,.e .i _ _,h]) b s=B _:=λe {h}=>OL A (e▸g)
  unfold ns;cases e:ew p with
  |none=>exact(V (by exact C e A)).trans (by cases p.l<;>rfl)
  |some x=>
   have k:K _ a (.a 25) b s=B _:=(iY A (by exact C e A)).trans (by exact C e A);refine((OK A g) (ok (e:=.a 19) (f:=aD (G x.1)) (g:=aD (G _)) (t:=x.1==1+(p.d%2:Nat)) (.inr A) (gv k A A A) A A A A (by
    show Y (B D) (λt=>a' (B I) (Y (B (x.1==1+(p.d%2:Nat))) λt=>a' (B I) (B D) t) t)=_
    cases x.1==1+(p.d%2:Nat)<;>rfl))).trans ?_
   refine C e ?_;show B (E.c (p.l||(I||xor D _)),s)=B (E.c (p.l||!(x.1==1+(p.d%2:Nat))),s)
   cases x.1==1+(p.d%2:Nat)<;>rfl
 let l:=oB c d f p (.b (.c r)) m o x y z (hL (ew p)) (.b (.c L)) (.c (ns p)::bG 3)
 have j:K _ a _ l s=B _:=mL (b:=.a 18) A J;have U:K _ a (.i .c (.m 0 [.a 18]) (.b (.a (.a 1)))) l s=B (G _,s):=(ab j A:fC _ .c _ (cr _) l s=_)
 exact⟨l,fz ((vl A A).trans (by
  exact C (show decide ((p.d:Int)<2)=I from decide_eq_false λe=>az (S.symm.trans (er (pr.mp e)))) A)) (dJ (i:=l) u A (cY (by
  cases q:ns p with
  |true=>refine iX (bS A) q ((on (.inl A) (mL (b:=.a 26) A i) j).trans ?_);refine C (Q q) (C (beq_iff_eq.mpr A) ?_);rfl
  |false=>
   refine iW (bS A) q ((on (.inl A) (mL (b:=.a 26) A i) U).trans ?_);refine C (P q) (C (beq_iff_eq.mpr (by omega)) ?_)
   rfl)))⟩
section
variable{a:Nat->List E->S U->av U E}{l:aC}{s b:S U}{c d:aJ}{v w:E}{p:dB}{q:Bool}
theorem Fx(g:s.b r=.a [aD (G h)]):jW (H F) s.b (.d [W k,.b r])=B (.d [W k,.h [aD (G h)]]):=by
 show Y (Y (B (W k)) λx=>Y (Y (mP _ s.b 3 (18+1) r) λy=>Y (B []) _) _) _=_
 exact C (mQ (h:=[aD (G h)]) g λz=>A) A
theorem EY{r}{y:Nat}{u:E}(x:ar k 1000=D)(e:cD s)(g:s.b r=.a [aD (G h)])(m:K (H F) a (.d [.a 28,.a 30]) l s=B (.d [W k,.b r],s))(n:K (H F) a c l s=B (W k,s))(o:K (H F) a d l s=B (aD (G h),s)):
  ∃b,K (H F) a (.e .a (.d [.a 28,.a 30]) (.d [c,.g .none [d]])) l s=B (.c D,b):=by
 let b:S U:=⟨aZ.d s.b (.c s.a) (.a [aD (G h)]),s.a+1⟩
 have f:=h' (bC n (bC (GJ (bC o ee) (e.2 _ (bd _)) (bB (e.1) A)) ee));refine⟨b,(ok (.inl A) m f A (Fx ((ba λf=>by rw[f,e.2 _ (bd _)]at g;cases g).trans g)) (Fx cj) (t:=D) ?_)⟩;have i:hV F k k=B D:=by unfold hV;rw[gj];rfl
 have j:io F [aD (G h)] [aD (G h)]=B D:=by
  show Y (Y (B D) λt=>a' (B I) (Y (B (h==h)) λt=>a' (B I) (B D) t) t) (a' _ (B D))=_
  refine C (beq_iff_eq.mpr A) ?_;rfl
 show Y (hV F k k) (λt=>a' _ (Y (io F [aD (G h)] [aD (G h)]) λt=>a' (B I) (B D) t) t)=_
 refine C i (C j ?_);rfl
end
theorem I9(e:nG p=B (r,h)):h=W 11∨h=W 12∨h=W 13:=by
 have e:=tt e;have e:=O pz (R e);cases q:p.o with
 |true=>rw[q]at e;cases a:p.n with|true=>rw[a]at e;exact .inl e.symm|false=>rw[a]at e;exact .inr (.inl e.symm)
 |false=>rw[q]at e;exact .inr (.inr e.symm)
theorem Ck(e:ew p=B (r,h)):h=W 11∨h=W 12∨h=W 13:=by unfold ew at e;cases q:M _ 1&&hi _ _ _ _ _ p.a with|true=>rw[q]at e;exact .inr (.inr (O pz (R e)).symm)|false=>rw[q]at e;exact I9 (tt (tt e))
theorem MB{s:S U}{p}(e3:p.m){a3}(c8:s.b (.c a3)=.a w)(d5:ar p.d 2=D)(d4:Z w i=B (.d [o,f,.b (.c q)]))(c0:s.b (.c q)=.a e)(b3:rX (eD p.f) p o e)(b4:cD s):
  ∃P Q,as (H F) (ah (H F) n) (dV.a.drop 23) (oB a b c p v (i+1) d x y z (hL (ew p)) (.b (.c a3)) (bG 4)) s=B ((.b (.c D),P),Q):=by
 let j:=ah (H F) n
 let e1:=oB a b c p v (i+1) d x y z (hL (ew p)) (.b (.c a3)) (bG 4)
 let l:=oB a b c p v (i+1) d x y z (hL (ew p)) (.b (.c a3)) [.f,o,f,.b (.c q)]
 have b2:=Gu (p:=p);have V:=Ay (b:=.a 17) A (Ge (a:=j) (l:=l) (s:=s) (iY (i:=25) A (by cases ew p<;>rfl)));refine c' (?_:∃P Q,as _ j (dV.a.drop 25) l s=B _) λP Q E=>b' ((vl A A).trans (by
  refine C (decide_eq_true (pr.mpr (bH d5))) ?_
  rfl)) (k' (ol A ((ab A (show B (G _,s)=B (G i,s) by rw[Int.add_sub_cancel]):fC (H F) .c (K (H F) j (.a 20)) (cr (G 1)) e1 s=_)) c8 d4 A) (i:=l) A E)
 cases L:p.l||(ew p).isNone with
 |true=>rw[L]at V;have g:=b3.1 (tA L .inl λg=>.inr (b2.1 (ks.mp g)));subst g;exact(dQ l s (fz V (cY (lE (i:=8) A A))))
 |false=>
  rw[L]at V;cases t:ew p with
  |none=>rw[t,Bool.or_comm]at L;cases L
  |some x=>
   refine bJ (b2.2 x.1 x.2 t) λc9 b7 c1=>?_
   refine nD (b3.2 (by
    cases q:p.l with
    |false=>rfl
    |true=>rw[q]at L;cases L) x.1 c9 b7) λb6 c6 e2=>?_
   have b5:K _ j (.a 25) l s=B _:=(iY A (by exact C t A)).trans (by exact C t A);have c3:K _ j (.f _ (.b (.a (.a 0)))) l s=B _:=gv b5 A A A;have d7:K _ j (.f _ (.b (.a (.a 1)))) l s=B _:=gv b5 A A ((Ck t).elim (λg=>g▸A) λE=>E.elim (λg=>g▸A) λg=>g▸A);have a4:=on (a:=j) (l:=l) (s:=s) (b:=.a 14) (c:=.b (.a (.a 4))) (.inl A) A A;have c4:∀m,o=W m->K _ j (.d [.a 28,.a 30]) l s=B _:=λm g=>h' (bC (v:=W m) (iY (by exact J g A) A) (bC A ee))
   have b8:o=W 6->∃a0,K _ j (.e .a _ (.d [.b (.e 6),.g _ _])) l s=B _:=λg=>EY (y:=0) (u:=.g) A b4 (c0.trans (O _ b6)) (c4 6 g) A c3
   have a1:bc _ (K _ j (.a 15)) l s=B _:=bS A
   by_cases T:p.a=4
   ·rw[T]at a4;exact cn (b8 (c6 (((Ci b7).2 T).trans (by exact C T A)))) λa0 a2=>(dQ l a0 (b' V (fz (tB a4) (cY a2))))
   ·rw[beq_eq_false_iff_ne.mpr T]at a4;have c5:p.a=1∨p.a=2:=by
     have:=e3.12;unfold cS at this;simp only[cB,cI,or_false]at this;omega
    have c2:dn p.a p.p=bif p.p then W 11 else W 12:=by unfold dn;exact C (beq_eq_false_iff_ne.mpr T) A
    have b9:∀{h k},x.2=W h->(bif p.p then W 11 else W 12)=W k->hV F h k=B (M h k)->True->bc _ _ l s=B (M h k,s):=λ{h k} u r t e4=>by
     have b:K (H F) j (.o (.a 15) (.b (.e 11)) (.b (.e 12))) l s=B (W k,s):=by cases q:p.p with|true=>rw[q]at r;exact iX a1 q (r▸A)|false=>rw[q]at r;exact iW a1 q (r▸A)
     exact(Ay a4 (ok (.inl A) (f:=W h) (g:=W k) (d7.trans (C u A)) b A A A t)).trans (by cases M h k<;>rfl)
    have a7:∀{h},x.2=W h->(bif p.p then W 11 else W 12)=W h->hV F h h=B _->M h h=D->∃P Q,as _ j (dV.a.drop 25) l s=B ((.b _,P),Q):=λ{h} u r a9 a6=>by have c:=b9 u r a9 trivial;rw[a6]at c;exact cn (b8 (c6 ((c1 T).trans (u.trans (c2.trans r).symm)))) λa0 a2=>(dQ l a0 (b' V (fz c (cY a2))))
    have c7:K (H F) j (.a 14) l s=B _:=A;have X:∀{h k},x.2=W h->(bif p.p then W 11 else W 12)=W k->hV F h k=B _->M h k=I->∃P Q,as _ j (dV.a.drop 25) l s=B ((.b _,P),Q):=λ{h k} u r a9 a6=>by
     have c:=b9 u r a9 trivial;rw[a6]at c;exact gf (by
     have a8:∀{b1 m},p.a=b1->(H F).c.e _=B m->eQ b1=D->K _ j (.m 4 [.i .e (.b _) (.a 14)]) l s=B _:=λ{b1 m} g d3 d6=>by
      have z:K _ j (.i .e (.b (.a (.a 8))) (.a 14)) l s=B (G _,s):=(ab A (ab c7 (by
       show Y (Y (aI _ _) _) _=_
       rw[g,d6]
       rfl)):fC (H F) .e (K (H F) j (.b (.a (.a 8)))) _ l s=_)
      exact(ab (eE z) (show Y _ _=B (W m,s) by refine C d3 ?_;rfl):gT _ 4 _ l s=_)
     have a5:∀{h m b0},K _ j (.o (.a 15) (.b _) (.b _)) l s=B (W h,s)->K _ j (.m 4 [.i .e (.b (.a (.a 8))) (.a 14)]) l s=B (W m,s)->(H F).c.d h m=B b0->K _ j (.i .b (.o (.a 15) (.b (.e 18)) (.b (.e 19))) (.m 4 [.i .e (.b _) (.a 14)])) l s=B _:=λ{h m b0} d0 d1 d2=>(ab d0 (ab d1 (show Y _ _=B (W b0,s) by refine C d2 ?_;rfl)):fC _ .b _ _ l s=_)
     cases q:p.p with
     |true=>exact c5.elim (λg=>(bi 14 (by exact C g A) A (a5 (iX a1 q A) (a8 (b1:=1) g A A) A))) λg=>(bi 15 (by exact C g A) A (a5 (iX a1 q A) (a8 (b1:=2) g A A) A))
     |false=>exact c5.elim (λg=>(bi 16 (by exact C g A) A (a5 (iW a1 q A) (a8 (b1:=1) g A A) A))) λg=>(bi 17 (by exact C g A) A (a5 (iW a1 q A) (a8 (b1:=2) g A A) A))) λm d8 d9 e0=>(cn (EY (y:=0) (u:=.g) d9 b4 (c0.trans (O _ b6)) (c4 m ((e2 (λg=>yb a6 (R (O hD (((c1 T).trans u).symm.trans (g.trans (c2.trans r))))))).trans d8)) e0 c3) λa0 a2=>(dQ l a0 (b' V (b' c (cY a2)))))
    cases q:p.p with|true=>rw[q]at a7 X;exact(Ck t).elim (λg=>a7 g A A A) λE=>E.elim (λg=>X g A A A) λg=>X g A A A|false=>rw[q]at a7 X;exact(Ck t).elim (λg=>X g A A A) λE=>E.elim (λg=>a7 g A A A) λg=>X g A A A
def xd(p:dB):=((kO++dY 10 p.c p.e p.q)++dY 12 p.c p.e p.r)++[hT 14 (fN p.g) p.i]
def kX(p):=((xd p++[fX p])++gs p.h p.j)++[eO p]
theorem xe:kX p++fa p.f=ci p:=by unfold ci kX xd;simp only[kp,O5,Q2]
theorem JJ{g o}:(dY g b o w).length<=2:=by unfold dY;cases(M b 2||M b 3)&&M _ 2<;>cases M _ 0<;>exact bH rfl
theorem VG:(xd p).length<=9:=by exact C dr (C dr (C dr (rF (rF (dT JJ 4) JJ) (bd 1))))
theorem S'(h:(ci p).drop i=eO p::fa p.f):(kX p).length=i+1:=by have a:=O CQ h;have b:=O CQ (xe (p:=p));rw[dr]at b;rw[xZ,←b]at a;have a:(kX p).length+(fa _).length -i=(fa _).length+1:=a;omega
theorem Tt{a b c:Nat}(Y:dF s)(h:s.a<=100):∃r,ah (H F) 12 50 [G a,G b,G c] s=B (.c D,r):=by
 let p:=wY a b c
 have o:p.m:=UL
 let c9:=ah (H F) 11
 refine eR (VH (n:=10) (c:=c) o A A Y (bB h A)) λe1 d6 a6 Z n a3=>?_
 refine eR (VJ (n:=10) (a:=a) (b:=b) (c:=c) (p:=p) (r:=xd p) Z (bB (am n (aQ h 11)) A) a3 (aV VG (by decide))) λz d7 a7 a0 e a4=>?_
 have l:=(IF (b:=0) o).6;have l:(ci p).length<=13:=l;refine Cd (VK (n:=10) (a:=a) (b:=b) (c:=c) (t:=(kX p).length) (L:=kX p) o a0 (bB (am (am e (aQ n 7)) (aQ h 18)) A) a4 (by rw[←xe,dr]at l;exact ap [_,_] (.a 1 (.c (.a 0) (.a 1)) (.b 13) .b) (.a 0) (.b 13) A l)) λf d8 a8 t m a5 y c1=>?_
 refine mh (UC (n:=11) (a:=a) (b:=b) (c:=c) (o:=f) (v:=z) (m:=(kX p).length) o t (bB (am (am (am m (aQ e 4)) (aQ n 11)) (aQ h 22)) A)) λE K L d9 c7=>pb c7 λa9 d U V X=>?_
 refine bJ (RO (n:=10) (a:=a) (b:=b) (c:=c) (v:=z) (m:=(kX p).length) o d.1 (bB (am (am (am (am d.3 (aQ m 3)) (aQ e 7)) (aQ n 14)) (aQ h 25)) A) U V X (cO y d.2) ((d.4 f y).trans c1)) λe0 b0 g=>?_
 have W:=((xe▸a5).a d t.1).a g d.1.1;refine Ce (Sg (a:=a) (b:=b) (c:=c) (o:=f) (x:=E) (y:=K) (z:=L) (k:=hL (ew p)) (m:=(kX p).length) o g.1 (aP (am (am (am (am (am g.3 (aQ d.3 2)) (aQ m 5)) (aQ e 9)) (aQ n 16)) (aQ h 27)) A) W) λw c4 d3 b1 P c0 b3 a1=>?_
 have v:=S' c0;refine mg W λc3 e2 j c2 b4 a2 c8=>?_;subst j
 refine eR P.1 λd0 e3 j u Q S=>?_;subst j
 exact aq (by
  cases q:ar p.d 2 with
  |true=>exact fg (Q q) λc8 c5=>mh c5 λd4 d2 d5 d1 c6=>nD c6 λb9 b7 T=>(C v (MB o u q b9 b7 T a1))
  |false=>
   refine fg (S q) λb5 b6=>?_
   have k:=a2.1;have w:=YI (p:=p)
   exact cn (MC (n:=11) (c:=a) (d:=b) (f:=c) (o:=f) (m:=(kX p).length) (x:=E) (y:=K) (z:=L) (X:=.g) ((b3 c3 c2).trans b4) u q (λi=>(b5 (w.symm.trans i)).trans k.symm) (λi=>(b6 (w.symm.trans i)).trans (C k A)) (by exact C k (J xe (C dr (C v (ap [_,_] .b (.c (.b 0) (.b 1)) (.c (.c (.a 0) (.b 1)) (.a 1)) A)))))) λx b8=>((dQ x c4 b8))) λx r b2=>⟨r,ft A A ((kK (d:=dV.a.take 6) (c:=dV.a.drop 6) Vm).trans ((kK (d:=(dV.a.drop 6).take 2) (c:=dV.a.drop 8) a6).trans ((kK (d:=(dV.a.drop 8).take 5) (c:=dV.a.drop 13) a7).trans ((kK (d:=(dV.a.drop 13).take 2) (c:=dV.a.drop 15) a8).trans ((kK (d:=(dV.a.drop 15).take 3) (c:=dV.a.drop 18) a9).trans ((kK (d:=(dV.a.drop 18).take 4) (c:=dV.a.drop 22) b0).trans ((kK (d:=(dV.a.drop 22).take 1) (c:=dV.a.drop 23) b1).trans b2)))))))⟩
theorem YK:dF ⟨fA,0⟩:=⟨⟨by decide,λz z=>A,λz z=>A⟩,λi h=>(O (λn=>fA (.d n)) (kr 16 i)).trans A⟩
theorem Ts(h:0<=a)(d:0<=b)(f:0<=c):∃s,ah (H F) 12 50 ([a,b,c].map G) ⟨fA,0⟩=B (.c D,s):=by
 refine cn (CB h) λa e=>?_;subst e
 refine cn (CB d) λb e=>?_;subst e
 refine cn (CB f) λc e=>?_;subst e
 exact Tt YK (ek _)
end
section
open PySem PySem.W PySem.Calls PyProof.Rows
abbrev iu:=rK.row.prog
theorem Sq:sreFenced iu.main=D:=by kernel_rfl
theorem Sr:namesResolve iu=D:=by kernel_rfl
theorem Ss:namesMeet iu iu.main.body (λ_ n=>attrL n)=D:=by kernel_rfl
theorem Sv:readsOut iu iu.main.body "vars"=I:=by kernel_rfl
theorem Sw:readsOut iu iu.main.body "dir"=I:=by kernel_rfl
theorem Sx:readsOut iu iu.main.body "locals"=I:=by kernel_rfl
theorem Sy:(["vars","dir","locals"]:List Str).filter (readsOut iu iu.main.body)=[]:=by rw[CK,Sv,CK,Sw,CK,Sx,CK]
theorem Su:looksOpen iu=D:=by unfold looksOpen;rw[Sy];refine look_both (look_both (look_both (look_both (look_both Sq ?_) Sr) ?_) ?_) Ss<;>kernel_rfl
theorem H9:rK.row.wellSaid=D:=by
 unfold OpenRow.wellSaid OpenRow.partSaid;rw[Su]
 kernel_rfl
theorem I0:rK.wellSaid=D:=by
 unfold OpenLaw.wellSaid;rw[H9]
 kernel_rfl
noncomputable def t'(a:SharedT->Thread->Option (SharedT×Thread))(o:Thread->Bool):Nat->SharedT->Thread->Option SharedT
 |0,_,_=>N
 |n+1,s,t=>match through t with
  |true=>B s
  |false=>match o t with
   |false=>N
   |true=>match a s t with|some (b,c)=>t' a o n b c|none=>N
theorem B7{p:Program}{w:World}{m:Nat}{a:Option Value}:∀(n:Nat){s c:SharedT}{t:Thread},t' (stepT (denote treeTable) p w) (stepOk m a) n s t=B c->topRun treeTable p w m a n s.abs t=B c.abs:=λn=>by
 induction n with
 |zero=>exact @λz z z h=>by cases h
 |succ n i=>
  exact @λs c t h=>by
    unfold t' at h;unfold topRun;cases e:through t with
    |true=>rw[e]at h;cases h;rfl
    |false=>
     rw[e]at h;cases d:stepOk m a t with
     |false=>rw[d]at h;cases h
     |true=>rw[d]at h;cases b:stepT (denote treeTable) p w s t with|none=>rw[b]at h;cases h|some r=>rw[b]at h;rw[stepT_spec b];exact i h
noncomputable def HH:List Obj->Nat->BT->BT
 |[],_,t=>t
 |o::r,n,t=>HH r (n+1) (t.ins n o)
def yt(w:World)(o:OsState):SharedT:=⟨HH (boot_heap w.params).objs.toList 0 .nil,11,(boot_heap w.params).life,uk [],boot_drawn,boot_toks,o⟩
theorem Mj(w:World)(o:OsState):(yt w o).abs=⟨boot_heap w.params,uk [],boot_drawn,boot_toks,o⟩:=by kernel_rfl
abbrev eG:=Challenge.pw_nm0051_01
abbrev IH:=rK
def tJ(w:World)(o:OsState):Option SharedT:=t' (stepT (denote treeTable) eG w) (stepOk 11 (B (.ref 6))) 4000 (yt w o) (topStub eG)
theorem VQ{w:World}{o:OsState}{S:SharedT}(h:tJ w o=B S):topRun treeTable eG w 11 (B (.ref 6)) 4000 ⟨boot_heap w.params,uk [],boot_drawn,boot_toks,o⟩ (topStub eG)=B S.abs:=by rw[←Mj];exact B7 _ h
theorem PQ(w:World):(fencedOpening treeTable eG w 4000).map (λs=>(s.heap,s.gens,s.drawn,s.toks))=B (boot_heap w.params,uk [],boot_drawn,boot_toks):=
 boot_open (by kernel_rfl) (by decide+kernel) (λs=>by kernel_rfl) w
theorem Sh{q:Program}{l:List Str}{X:Shared->Bool}{b:Type}{a:Shared->b}{Y:World->b}
  (h:∀w o,(tJ w o).map (λS=>((staticsOk (importedModules eG.main.body) (boot_heap w.params) S.abs.heap&&namesBound eG S.abs.heap&&gensDone S.abs&&laidKept (boot_heap w.params) S.abs.heap),openSeen q l (importedModules eG.main.body) X D S.abs,a S.abs))=B (D,openGood q l,Y w)):
  LeftO eG q l X a Y 4000 D:=λw=>by
 obtain⟨⟨i,g,d,k,o⟩,e,c⟩:=S6.mp (PQ w);obtain⟨rfl,rfl,rfl,rfl⟩:i=boot_heap w.params/\g=_/\d=_/\k=_:=by simpa using c
 obtain⟨S,j,f⟩:=S6.mp (h w o);obtain⟨m,n⟩:=dd f;have z:((boot_heap w.params).isNs mainGlobals&&(uk []:Array GenState).size==0)=D:=by kernel_rfl
 have p:(boot_heap w.params).objs.size=11:=by with_unfolding_all rfl
 have r:(boot_heap w.params).nsMap mainGlobals "__annotations__"=B (.ref 6):=by with_unfolding_all rfl
 have t:topFrom treeTable eG w 4000 ⟨boot_heap w.params,uk [],boot_drawn,boot_toks,o⟩=B S.abs:=by
  unfold topFrom;dsimp only;rw[z,p,r,VQ j];show(match staticsOk (importedModules eG.main.body) (boot_heap w.params) S.abs.heap&&namesBound eG S.abs.heap&&gensDone S.abs&&laidKept (boot_heap w.params) S.abs.heap with|true=>_|false=>_)=_
  rw[m]
 unfold openEnds;rw[e,Option.bind_some,t];exact O B n
structure aM where
 a:af->Bool->Option Addr
 e:Addr->Option (List Value)
structure gZ where
 c:Nat->Str
 b:Nat->Str
 a:Nat->Addr
 k:Nat->Addr
 e:Nat->Str
 j:Str->Option Value
 d:Nat->Str
noncomputable def ef:=100000
mutual
def ao(b:gZ)(g:aM):E->Value->Prop
 |.f,_=>False
 |.g,v=>v=.none
 |.c d,v=>v=.bool d
 |.a z,v=>∃t,v=.int z.c t
 |.e k,v=>∃t,v=.str (b.c k) t
 |.d l,v=>∃c a,v=.ref c/\g.e c=B a/\aE b g l a
 |.h _,_=>False
 |.b n,v=>∃c,v=.ref c/\g.a n I=B c
termination_by structural x=>x
def aE(b:gZ)(g:aM):List E->List Value->Prop
 |[],a=>a=[]
 |x::e,a=>∃v r,a=v::r/\ao b g x v/\aE b g e r
termination_by structural x=>x
end
mutual
def cp(a:gZ):E->Option PyData
 |.a z=>B (.int z.c)
 |.c b=>B (.int (bif b then 1 else 0))
 |.e k=>B (.str (a.c k))
 |.d l=>Y (pU a l) λd=>B (.tuple d)
 |_=>.none
termination_by structural x=>x
def pU(a:gZ):List E->Option (List PyData)
 |[]=>B []
 |x::e=>Y (cp a x) λk=>Y (pU a e) λc=>B (k::c)
termination_by structural x=>x
end
mutual
noncomputable def hN(w:World):PyData->Int
 |.int i=>hashInt i
 |.str s=>hashStr w s
 |.tuple l=>reduceHash (Z2 (zQ w l))
 |_=>0
termination_by structural x=>x
noncomputable def zQ(w:World):List PyData->List Int
 |[]=>[]
 |k::r=>hN w k::zQ w r
termination_by structural x=>x
end
structure bg(H) where
 a:eT H
 e:gZ
 c:Program
 b:World
 d:Heap
 g:aM
 f:Frag
section
variable{a:Type}(c:bg a)(g:aM)
def cm:List (E×E)->List DictEntry->Prop
 |[],q=>q=[]
 |e::r,q=>∃u x i k b,q=⟨i,u,x⟩::b/\cp c.e e.1=B k/\i=hN c.b k/\ao c.e g e.1 u/\ao c.e g e.2 x/\cm r b
inductive fm(d)(b:List (E×E)) where
 |mk (k:∀e∈b,∀f∈b,bN e.1=bN f.1)
  (o:∀e∈b,cH e.1 6=D/\bN e.1≠0)
  (n:(b.map λe=>cp d e.1).Nodup)
noncomputable def et(v:Array Value)(k:Nat):Obj:={cls:=.type "list",data:=.seq v k}
noncomputable def sB(e:Array DictEntry)(k:Nat):Obj:={cls:=.type "dict",data:=.dict e k}
def ey(h:Heap)(b:Addr)(d:Option Addr):bq->Prop
 |.a l=>d=N/\∃r k,h.get? b=B (et r k)/\aE c.e g l r.toList/\l.length<=ef
 |.b j k=>d=N/\∃n,h.get? b=B (sB n k)/\cm c g j n.toList/\fm c.e j/\j.length<=ef
 |.d l=>d=N/\∃q S k,h.get? b=B q/\q.cls=.type "set"/\h.SetOf (intKind c.c c.b) b S k/\k<=l.length/\∀p,S p=D↔∃z,E.a z∈l/\z.c=p
 |.e i o=>∃e m,d=B e/\h.get? b=B (instObj (c.e.a i) e)/\h.Ns e m/\h.DictLe e o.length/\(∀y,m y≠N->∃f,c.a.c.a i f=D/\y=c.e.b f)/\
   ∀f x,cG f o=B x->c.a.c.a i f=D/\∃v,m (c.e.b f)=B v/\ao c.e g x v
 |_=>False
def ec(h)(n)(o):=(o=.f/\∀e,g.a n e=N)∨∃b d,g.a n I=B b/\g.a n D=d/\ey c g h b d o
inductive yj where
 |mk (k:∀n d f e b,g.a n d=B b->g.a f e=B b->n.a=D->n=f/\d=e)
  (h:∀n d b,g.a n d=B b->n.a=D->c.d.get? b=N)
  (l:∀n d,g.a n d≠B sysModules)
  (s:∀n d b,g.a n d=B b->g.e b=N)
  (i:∀n d b,c.g.a n d=B b->g.a n d=B b)
  (j:∀b v,c.g.e b=B v->g.e b=B v)
inductive ay(s:S a)(h) where
 |mk (k:yj c g)
  (d:∀n,ec c g h n (c.a.a s.b n))
  (t:∀b v,g.e b=B v->h.IsTuple b v.toArray)
  (e:∀b o,c.d.get? b=B o->h.get? b=B o)
end
abbrev gY(h b:Heap):=∀a o,h.get? a=B o->b.get? a=B o
inductive bk(L)(g:aM)(h:Heap)(c:aM)(d:Heap) where
 |mk (f:∀n b a,g.a n b=B a->c.a n b=B a)
  (t:∀a v,g.e a=B v->c.e a=B v)
  (i:∀n b a,c.a n b=B a->g.a n b=B a∨h.get? a=N)
  (j:∀a v,c.e a=B v->g.e a=B v∨h.get? a=N)
  (l:∀a o,h.get? a=B o->∃e,d.get? a=B e)
  (k:∀a o,h.get? a=B o->(∀n b,g.a n b≠B a)->a≠L->d.get? a=B o)
theorem bZ{c:Type}{x}{a:c}{P:Prop}(e:x=N)(b:x=B a):P:=X (e.symm.trans b)
theorem bk.b(L)(i)(j):bk L i j i j:=
 ⟨λz z z h=>h,λz z h=>h,λz z z h=>.inl h,λz z h=>.inl h,λz o h=>⟨o,h⟩,λz z h z z=>h⟩
theorem wC{h b:Heap}{a}(x:∀a o,h.get? a=B o->∃c,b.get? a=B c)(e:b.get? a=N):h.get? a=N:=by cases q:h.get? a with|none=>rfl|some o=>exact(x a o q).elim λz d=>bZ e d
theorem bk.a{L}{k l m}{p r s}(x:bk L k p l r)(y:bk L l r m s):bk L k p m s:=
 ⟨(λn j h i=>y.1 n j h (x.1 n j h i)),
  (λh v i=>y.2 h v (x.2 h v i)),
  (λn j h i=>(y.3 n j h i).elim (x.3 n j h) λq=>.inr (wC x.5 q)),
  (λh v i=>(y.4 h v i).elim (x.4 h v) λq=>.inr (wC x.5 q)),
  (λh o i=>(x.5 h o i).elim λz w=>y.5 h z w),
  (λh o i u t=>y.6 h o (x.6 h o i u t) (λn j q=>(x.3 n j h q).elim (u n j) λq=>bZ q i) t)⟩
section
variable{s:gZ}{t u:aM}(x:∀z w r,t.a z w=B r->u.a z w=B r)(y:∀r v,t.e r=B v->u.e r=B v)
include x y
mutual
theorem ao.e:∀F E,ao s t F E->ao s u F E
 |.f,_,C=>C
 |.g,_,C=>C
 |.c _,_,C=>C
 |.a _,_,C=>C
 |.e _,_,C=>C
 |.d H,_,C=>aq C λr v C=>(an r v C.1 (y _ _ C.2.1) (aE.e H v C.2.2))
 |.h _,_,C=>C
 |.b _,_,C=>C.elim λr C=>(ag r C.1 (x _ _ _ C.2))
theorem aE.e:∀F E,aE s t F E->aE s u F E
 |[],_,C=>C
 |F::J,_,C=>aq C λE G C=>(an E G C.1 (ao.e F E C.2.1) (aE.e J G C.2.2))
end
end
theorem bk.d{L}{j}{k l}(x:bk L k h l i){v}{u}(r:ao j k v u):ao j l v u:=ao.e x.1 x.2 v u r
theorem bk.e{L}{j}{k l}(x:bk L k h l i){v}{u}(r:aE j k v u):aE j l v u:=aE.e x.1 x.2 v u r
theorem cm.e{p q}(r:∀v t o,p.a v t=B o->q.a v t=B o)(s:∀o x,p.e o=B x->q.e o=B x):∀{u}{w},cm l p u w->cm l q u w
 |[],_,n=>n
 |_::_,_,n=>xF n λz z z z z n=>(jx n.1 n.2.1 n.2.2.1 (ao.e r s _ _ n.2.2.2.1) (ao.e r s _ _ n.2.2.2.2.1) (n.2.2.2.2.2.e r s))
section
variable{r:gZ}{s:aM}
theorem aE.b{P:List _->Prop}(u:aE r s (x::t) v)(z:∀y w,ao r s x y->aE r s t w->P (y::w)):P v:=aq u λy w u=>u.1▸z y w u.2.1 u.2.2
theorem aE.i(t:aE r s [] v):v=[]:=t
theorem aE.h:∀{t}{v},aE r s t v->v.length=t.length
 |[],_,u=>O _ u.i
 |_::t,_,u=>u.b (P:=λv=>v.length=t.length+1) λz z z w=>O _ w.h
theorem aE.c:∀{y}{t}{u}{C},aE r s y t->Z y u=B C->∃v,t[u]?=B v/\ao r s C v
 |_::_,_,0,_,x,w=>x.b (P:=λt=>∃v,t[0]?=B v/\ao r s _ v) λv z E z=>(ag v A (J (R w) E))
 |_::_,_,u+1,_,x,w=>x.b (P:=λt=>∃v,t[u+1]?=B v/\ao r s _ v) λz z z F=>F.c w
theorem aE.g:∀{u}{v}{t},aE r s u v->Z u t=N->v[t]?=N:=λ{u}=>by
 induction u with
 |nil=>exact @λz z x z=>C x.i A
 |cons _ _ E=>exact @λz F=>by cases F with|zero=>exactλz w=>X w.symm|succ t=>exactλx w=>x.b (P:=λv=>v[t+1]?=.none) λz z z y=>E y (t:=t) w
theorem aE.n:∀{t y}{v u},aE r s t v->aE r s y u->aE r s (t++y) (v++u):=λ{t}=>by
 induction t with|nil=>exact @λz z z w x=>C w.i x|cons _ _ G=>exact @λz z u w x=>w.b (P:=λv=>aE r s _ (v++u)) λH z E F=>(an H _ A E (G F x))
theorem aE.k{v}(t:ao r s x v):aE r s [x] [v]:=(an v [] A t A)
end
section
variable{w:Type}{s:bg w}{q u:aM}{v:S w}{r t:Heap}
theorem ec.c(x:ec s q r n o)(f:q.a n I=B a):ey s q r a (q.a n D) o:=
 x.elim (λx=>bZ (x.2 _) f) λx=>aq x λg h x=>C x.2.1 (R (x.1.symm.trans f)▸x.2.2)
theorem ec.b(x:ec s q r n o){f}(g:q.a n D=B f):∃a,q.a n I=B a/\ey s q r a (B f) o:=
 x.elim (λx=>bZ (x.2 D) g) λx=>aq x λa h x=>(ag a x.1 (J (x.2.1.symm.trans g) x.2.2))
theorem ey.a(x:ey s q r c f o):∃g,r.get? c=B g:=by cases o with|a l=>exact aq x.2 λh k x=>⟨_,x.1⟩|b m k=>exact x.2.elim λh x=>⟨_,x.1⟩|d l=>exact cf x.2 λg S k x=>⟨_,x.1⟩|e i n=>exact aq x λj p x=>⟨_,x.2.1⟩|_=>exact x.elim
theorem ey.b(x:ey s q r f (B c) o):∃g,r.get? c=B g:=by cases o with|a l=>exact X x.1.symm|b j m=>exact X x.1.symm|d l=>exact X x.1.symm|e h k=>exact aq x λi n x=>cf x.2.2.1 λg z z y=>⟨g,C (R x.1) y.1⟩|_=>exact x.elim
theorem ay.h(z:ay s q v r){C}(E:q.a x y=B C):∃F,r.get? C=B F:=by cases y with|false=>exact((z.2 x).c E).a|true=>exact((z.2 x).b E).elim λH G=>G.2.b
theorem ay.n(C:ay s q v r){z}{y}{x}(E:q.a z y=B x):q.e x=N:=C.1.4 z y x E
theorem ay.j(C:ay s q v r)(E:q.e x=B y):∃z,r.get? x=B z:=(C.3 x y E).elim λz F=>⟨z,F.1⟩
theorem qq{b}(x:r.IsTuple a b)(k:∀o,r.get? a=B o->t.get? a=B o):t.IsTuple a b:=x.elim λo e=>(ag o (k o e.1) e.2)
theorem ey.d(x:ey s q r c f o)(k:∀g,r.get? c=B g->t.get? c=B g)(i:∀h,f=B h->∀g,r.get? h=B g->t.get? h=B g):ey s q t c f o:=by cases o with|a l=>exact⟨x.1,c' x.2 λm j x=>⟨k _ x.1,x.2⟩⟩|b l p=>exact⟨x.1,x.2.imp λm x=>⟨k _ x.1,x.2⟩⟩|d l=>exact⟨x.1,mi x.2 λo S j x=>(da (k _ x.1) x.2.1 (rq x.2.2.1 λz z z z y=>⟨k _ y.1,y.2⟩) x.2.2.2)⟩|e n C=>exact c' x λh E x=>(iD x.1 (k _ x.2.1) (mi x.2.2.1 λz z z y=>⟨i _ x.1 _ y.1,y.2⟩) (cf x.2.2.1 λz z z y=>x.2.2.2.1.of_same y.1 (i _ x.1 _ y.1)) x.2.2.2.2)|_=>exact x
theorem ey.e(x:ey s q r c f o)(i:∀n k c,q.a n k=B c->u.a n k=B c)(j:∀c g,q.e c=B g->u.e c=B g):ey s u r c f o:=by cases o with|a p=>exact⟨x.1,aq x.2 λg h x=>(an g h x.1 (aE.e i j _ _ x.2.1) x.2.2)⟩|b p G=>exact⟨x.1,x.2.elim λg x=>(bi g x.1 (x.2.1.e i j) x.2.2)⟩|e F H=>exact aq x λm C x=>(rr m C x.1 x.2.1 x.2.2.1 x.2.2.2.1 x.2.2.2.2.1 (λl y h=>⟨(x.2.2.2.2.2 l y h).1,(x.2.2.2.2.2 l y h).2.elim λE z=>(ag E z.1 (ao.e i j _ _ z.2))⟩))|_=>exact x
theorem ec.d(x:ec s q r n o)(k:∀h f a,q.a n h=B f->r.get? f=B a->t.get? f=B a):ec s q t n o:=
 x.imp id λx=>aq x λf i x=>(an f i x.1 x.2.1 (x.2.2.d (λa g=>k _ _ a x.1 g) λj g a z=>k _ _ a (x.2.1.trans g) z))
theorem ec.e(x:ec s q r n o)(h:∀n a f,q.a n a=B f->u.a n a=B f)(i:∀a,q.a n a=N->u.a n a=N)(l:∀f k,q.e f=B k->u.e f=B k):ec s u r n o:=
 x.imp (λx=>⟨x.1,λa=>i a (x.2 a)⟩) λx=>aq x λf g x=>(an f g (h _ _ _ x.1) (by
  cases j:g with
  |none=>exact i _ (x.2.1.trans j)
  |some m=>exact h _ _ _ (x.2.1.trans j)) (x.2.2.e h l))
inductive dU(s:bg w)(q:aM)(L a) where
 |mk (d:∀n b,q.a n b≠B a)
  (e:q.e a=N)
  (o:s.d.get? a=N)
  (c:a≠L)
theorem Hr{L a}(x:bk L q r u t)(c:q.e a=N)(e:r.get? a=B o):u.e a=N:=by cases b:u.e a with|none=>rfl|some d=>exact(x.4 a d b).elim (bZ c) λz=>bZ z e
theorem Hq{L a}(x:bk L q r u t)(d:∀n b,q.a n b≠B a)(e:r.get? a=B o)(n)(b):u.a n b≠B a:=λc=>(x.3 n b a c).elim (d n b) λz=>bZ z e
theorem dU.a{L e}(b:dU s q L e)(x:bk L q r u t)(f:r.get? e=B o):dU s u L e:=⟨Hq x b.1 f,Hr x b.2 f,b.3,b.4⟩
theorem dU.c{L b}(e:dU s q L b)(x:bk L q r u t)(f:r.get? b=B o):t.get? b=B o:=x.6 b o f e.1 e.4
theorem ay.d(F:ay s q v r){Q L}(K:dU s q Q L)(G:∀C y,C≠L->r.get? C=B y->t.get? C=B y):ay s q v t:=
 ⟨F.1,λP=>(F.2 P).d λC z S x H=>G z S (λE=>K.1 P C (J E x)) H,λz T x=>qq (F.3 z T x) λy H=>G z y (λE=>bZ K.2 (J E x)) H,
  λz y x=>G z y (λE=>bZ K.3 (J E x)) (F.4 z y x)⟩
theorem ay.c(y:ay s q v r)(E:gY r t):ay s q v t:=⟨y.1,λG=>(y.2 G).d λK x H K F=>E x H F,λx J C=>qq (y.3 x J C) λz F=>E x z F,λx z C=>E x z (y.4 x z C)⟩
theorem bk.c{L}(k:gY r t):bk L q r q t:=⟨λz z z h=>h,λz z h=>h,λz z z h=>.inl h,λz z h=>.inl h,λi o h=>⟨o,k i o h⟩,λi o h z z=>k i o h⟩
end
theorem cb{m n:Nat}:M m n=D↔m=n:=⟨bW,λh=>J h (gj m)⟩
theorem oF{m n:Nat}(h:m≠n):M m n=I:=by cases q:M m n with|false=>rfl|true=>exact ak (bW q) h
theorem af.g(i):af.e i i=D:=by cases i<;>exact gj _
theorem af.h(l:i≠j):af.e i j=I:=by cases i<;>cases j<;>first|rfl|exact oF λk=>l (O _ k)
section
variable{w:Type}{s:bg w}{q t:aM}{v:S w}{r u:Heap}{x:Addr}
theorem eT.h(k:eT w)(l:k.e n=D):k.a (k.d j n o) n=o:=(k.g j n o n l).trans (C (af.g n) A)
theorem eT.i(k:eT w)(p:k.e n=D)(l:m≠n):k.a (k.d j n o) m=k.a j m:=(k.g j n o m p).trans (C (af.h l) A)
theorem zC{P:bq->Prop}(a:eT w)(k:a.e n=D)(b:m=n->P o)(c:m≠n->P (a.a h m)):P (a.a (a.d h n o) m):=
 (di (m=n)).elim (λe=>by exact C e (C (a.h k) (b e))) λe=>by exact C (a.i k e) (c e)
theorem ay.o(E:ay s q v r)(H:q.a y a1=B z)(X:s.a.e y=D)(S:y.a=D)(L:kt z r u)(G:ec s q u y a0):ay s q ⟨s.a.d v.b y a0,a2⟩ u:=
 ⟨E.1,λW=>zC s.a X (λK=>C K G) λK=>(E.2 W).d λZ U a3 V F=>(L.2 U λQ=>K (E.1.1 _ _ _ _ _ H (J Q V) S).1.symm).trans F,
  λG Y F=>qq (E.3 G Y F) λT Q=>(L.2 G λP=>bZ (E.n H) (J P F)).trans Q,
  λG T F=>(L.2 G λP=>bZ (E.1.2 _ _ _ H S) (J P F)).trans (E.4 G T F)⟩
theorem ay.p(Q:ay s q a0 u){H}(E:q.a z y=B H)(L:kt H r u):bk x q r q u:=
 ⟨λF F F E=>E,λF F E=>E,λF F F E=>.inl E,λF F E=>.inl E,λG P K=>(di (G=H)).elim (λJ=>C J (Q.h E)) λJ=>⟨P,(L.2 G J).trans K⟩,λG P K S F=>(L.2 G λT=>S z y (C T E)).trans K⟩
theorem ay.k(E:ay s q v r)(F:s.a.a v.b y=.f)(C):q.a y C=N:=
 (F▸E.2 y).elim (λz=>z.2 C) λz=>aq z λG G z=>z.2.2.elim
inductive nX(q t:aM)(n)(r:Heap) where
 |mk (d:∀m b,m≠n->t.a m b=q.a m b)
  (f:t.e=q.e)
  (e:∀b a,t.a n b=B a->r.get? a=N)
  (i:∀b c a,t.a n b=B a->t.a n c=B a->b=c)
theorem nX.c(f:nX q t n r)(e:t.a m d=B b):(m=n/\r.get? b=N)∨(m≠n/\q.a m d=B b):=
 (di _).elim (λh=>.inl ⟨h,f.3 _ _ (J h e)⟩) λh=>.inr ⟨h,(f.1 m d h).symm.trans e⟩
theorem nX.a(f:nX q t n r)(g:∀b,q.a n b=N)(m)(b)(d)(e:q.a m b=B d):t.a m b=B d:=(f.1 m b λh=>bZ (g b) (h▸e)).trans e
theorem ay.f(H:ay s q v r)(a4:s.a.a v.b y=.f)(a7:s.a.e y=D)(L:nX q t y r)(a5:∃K,s.d.get? sysModules=B K)(V:gY r u)(F:ec s t u y z):
  ay s t ⟨s.a.d v.b y z,a0⟩ u/\bk x q r t u:=
 have X:=L.a (H.k a4);have a1:=λC T E=>(congrFun L.2 C).trans E
 have a2:∀{C K},r.get? C=N->s.d.get? C=B K->False:=λE G=>bZ E (H.4 _ _ G)
 ⟨⟨⟨λQ P a9 a3 C E W Y=>(L.c E).elim
    (λF=>(L.c W).elim (λS=>⟨F.1.trans S.1.symm,L.4 P a3 C (J F.1 E) (J S.1 W)⟩) λS=>(H.h S.2).elim λU G=>bZ F.2 G)
    λF=>(L.c W).elim (λS=>(H.h F.2).elim λU G=>bZ S.2 G) λS=>H.1.1 _ _ _ _ _ F.2 S.2 Y,
   λQ P C E Y=>(L.c E).elim (λF=>by
    cases G:s.d.get? C with
    |none=>rfl
    |some K=>exact(a2 F.2 G).elim) λF=>H.1.2 _ _ _ F.2 Y,
   λQ P E=>(L.c E).elim (λF=>a5.elim λU G=>a2 F.2 G) λF=>H.1.3 _ _ F.2,
   λQ P C E=>(congrFun L.2 C).trans ((L.c E).elim (λF=>by
    cases G:q.e C with
    |none=>rfl
    |some T=>exact(H.j G).elim λU a8=>bZ F.2 a8) λF=>H.1.4 _ _ _ F.2),
   λQ P C E=>X Q P C (H.1.5 Q P C E),λC T E=>a1 C T (H.1.6 C T E)⟩,
  λQ=>zC s.a a7 (λZ=>Z▸F) λZ=>(ec.e (H.2 Q) X (λP G=>(L.1 Q P Z).trans G) a1).d λU C a6 U G=>V C a6 G,
  λC T E=>qq (H.3 C T ((congrFun L.2 C).symm.trans E)) λK G=>V C K G,λC K E=>V C K (H.4 C K E)⟩,
 ⟨X,a1,λQ P C E=>(L.c E).elim (λF=>.inr F.2) λF=>.inl F.2,λC T E=>.inl ((congrFun L.2 C).symm.trans E),λC K E=>⟨K,V C K E⟩,λC K E U U=>V C K E⟩⟩
def aM.b(q:aM)(o:af)(l:Addr)(n:Option Addr):aM where
 a:=λm k=>bif af.e m o then(bif k then n else B l)else q.a m k
 e:=q.e
theorem aM.h(r:m≠n):(q.b n l o).a m k=q.a m k:=O (λp=>bif p then _ else q.a m k) (af.h r)
theorem aM.j{m}:(q.b n k l).a n m=bif m then l else B k:=O (λo=>bif o then(bif m then l else B k)else q.a n m) (af.g n)
theorem aM.c:(q.b n k l).a n I=B k:=aM.j
theorem aM.f:(q.b n l k).a n D=k:=aM.j
theorem en:r.get? r.objs.size=N:=by cases a:r.get? _ with|none=>rfl|some o=>exact ak (ig a) (CX _)
theorem ts{a}(h:r.get? a=N):nX q (q.b n a N) n r:=
 ⟨λz z f=>aM.h f,A,λb g e=>by
  cases b with
  |true=>exact bZ aM.f e
  |false=>exact J (R (aM.c.symm.trans e)) h,λb c g e d=>by cases b<;>cases c<;>first|rfl|exact bZ aM.f e|exact bZ aM.f d⟩
theorem TF{a d}(g:r.get? a=N)(i:r.get? d=N)(h:a≠d):nX q (q.b n a (B d)) n r:=
 ⟨λz z j=>aM.h j,A,λb k e=>by
  cases b with
  |true=>exact J (R (aM.f.symm.trans e)) i
  |false=>exact J (R (aM.c.symm.trans e)) g,λb f k e c=>by
  cases b<;>cases f<;>first|rfl|exact absurd (R ((aM.c.symm.trans e).trans (c.symm.trans aM.f))) h|exact absurd (R ((aM.c.symm.trans c).trans (e.symm.trans aM.f))) h⟩
noncomputable def aM.d(q:aM)(l:Addr)(m:List Value):aM where
 a:=q.a
 e:=λk=>bif M k l then B m else q.e k
theorem aM.i:(q.d k l).e k=B l:=O (λm=>bif m then B l else q.e k) (gj k)
theorem aM.g(r:k≠l):(q.d l m).e k=q.e k:=O (λn=>bif n then B m else q.e k) (oF r)
theorem xt(f:(q.d a d).e b=B c):(b=a/\d=c)∨(b≠a/\q.e b=B c):=
 (di _).elim (λe=>.inl ⟨e,R (aM.i.symm.trans (e▸f))⟩) λe=>.inr ⟨e,(aM.g e).symm.trans f⟩
theorem ay.l(H:ay s q v r){P}(Q:r.get? y=N)(L:gY r u)(W:u.IsTuple y P.toArray):ay s (q.d y P) v u/\bk x q r (q.d y P) u:=
 have S:=λV K z=>(aM.g λU=>(H.j z).elim λG F=>bZ Q (U▸F)).trans z
 ⟨⟨⟨H.1.1,H.1.2,H.1.3,λT V E z=>(aM.g λU=>(H.h z).elim λG F=>bZ Q (U▸F)).trans (H.1.4 T V E z),H.1.5,λE K z=>S E K (H.1.6 E K z)⟩,
  λT=>(ec.e (u:=q.d y P) (H.2 T) (λG G G z=>z) (λG z=>z) S).d λG E X G F=>L E X F,
  λE K z=>(xt z).elim (λF=>C F.1 (F.2▸W)) λF=>qq (H.3 E K F.2) λJ F=>L E J F,λE J z=>L E J (H.4 E J z)⟩,
 ⟨λG G G z=>z,S,λG G G z=>.inl z,λE K z=>(xt z).elim (λF=>.inr (C F.1 Q)) λF=>.inl F.2,λE J z=>⟨J,L E J z⟩,λE J z G G=>L E J z⟩⟩
theorem bk.f{l}(j:bk x q r t u)(m:r.get? l=N)(n:∀i o,i≠l->u.get? i=B o->h.get? i=B o):bk x q r t h:=
 ⟨j.1,j.2,j.3,j.4,λi o k=>(j.5 i o k).imp λE p=>n i E (λz=>bZ m (J z k)) p,λi o k C y=>n i o (λz=>bZ m (J z k)) (j.6 i o k C y)⟩
end
inductive eH(e:Env)(n:Nat->Option Str) where
 |mk (k:e.scope.kind=.function)
  (g:e.globals=mainGlobals)
  (b:e.builtins=builtinsNs)
  (a:∀i j y,n i=B y->n j=B y->i=j)
  (d:∀i y,n i=B y->(y=="__debug__")=I)
  (c:∀i y,n i=B y->(y=="__classdict__")=I)
section
variable{a:Type}(c:bg a)(e:Env)(n:Nat->Option Str)
def rV(g)(h:Heap)(m:Str->Option _)(y)(x):=
 (e.kindOf y=B .local/\∃v,m y=B v/\ao c.e g x v)∨
 ((e.kindOf y=B .cell∨e.kindOf y=B .free)/\∃q v,e.cells.lookup y=B q/\h.IsCell q (B v)/\dU c g e.locals q/\ao c.e g x v)
inductive aT(g)(h)(l:aC) where
 |mk (j:∃m,h.Ns e.locals m/\∀i x y,Z l i=B x->aF x=I->n i=B y->rV c e g h m y x)
  (p:∀d b,g.a d b≠B e.locals)
  (t:g.e e.locals=N)
  (k:c.d.get? e.locals=N)
  (f:∀y q,e.cells.lookup y=B q->∃o,h.get? q=B o)
end
section
variable{p:Type}{l:bg p}{k m:aM}{s:S p}{h j:Heap}{i:Env}{o:Nat->Option Str}{n:aC}
theorem aT.b(x:aT l i o k h n):∃g,h.get? i.locals=B g:=x.1.elim λz y=>cf y.1 λg z z y=>⟨g,y.1⟩
theorem sX{v}(x:h.IsCell a v)(c:∀b,h.get? a=B b->j.get? a=B b):j.IsCell a v:=x.elim λb e=>(ag b (c b e.1) e.2)
theorem rV.a(t:rV l i k h b y x)(z:bk i.locals k h m j):rV l i m j b y x:=
 t.imp (λt=>⟨t.1,t.2.imp λc t=>⟨t.1,z.d t.2⟩⟩) λt=>⟨t.1,c' t.2 λc c t=>(da t.1 (sX t.2.1 λd e=>t.2.2.1.c z e) (t.2.1.elim λc e=>t.2.2.1.a z e.1) (z.d t.2.2.2))⟩
theorem aT.a(x:aT l i o k h n)(z:bk i.locals k h m j)(F:∀g,h.get? i.locals=B g->j.get? i.locals=B g):aT l i o m j n:=
 ⟨x.1.imp λK y=>⟨mi y.1 λg t t y=>⟨F g y.1,y.2⟩,λE H J v r w=>(y.2 E H J v r w).a z⟩,
  λG r=>x.b.elim λt q=>Hq z x.2 q G r,x.b.elim λt q=>Hr z x.3 q,x.4,λy u q=>(x.5 y u q).elim λg C=>z.5 u g C⟩
theorem bk.g(y:gY h r)(G:h.get? q=N)(z:bk q k r m j):
  (∀L,bk L k h m j)/\∀t v,h.get? t=B v->(∀C w,k.a C w≠B t)->j.get? t=B v:=
 have E:=λt v u x=>z.6 t v (y t v u) x λH=>bZ G (J H u)
 have F:=λt u=>wC (λt v u=>⟨v,y t v u⟩) u
 ⟨λL=>⟨z.1,z.2,λC w t u=>(z.3 C w t u).imp id (F t),λt K u=>(z.4 t K u).imp id (F t),λt v u=>z.5 t v (y t v u),λt v u x P=>E t v u x⟩,E⟩
theorem aT.c(x:aT l i o k h n)(g:gY h j):aT l i o k j n:=x.a (.c g) λr q=>g _ r q
end
noncomputable def vI(o:Option (Option Value))(v:Option Value):Bool:=o==B v
def qQ(K:Frag)(C:Addr)(n:Str):Bool:=plainGet K C n&&(hasDictIn K C&&((findIn K (.ref C) n).any (noGet K)&&
 (vI (findIn K (.ref C) "__setattr__") (B (.builtin "object.__setattr__"))&&(plainOver K C&&vI (takerIn K C n) N))))
def tv(K:Frag)(C:Addr)(n:Str)(f:Addr):Bool:=plainGet K C n&&(vI (findIn K (.ref C) n) (B (.ref f))&&(typeIn K (.ref f)==B (.type "function")&&keepIn K (.ref f)))
def tu(K:Frag)(C:Addr)(f:Addr):Bool:=makesIn K C&&(vI (findIn K (.ref C) "__init__") (B (.ref f))&&(typeIn K (.ref f)==B (.type "function")&&keepIn K (.ref C)))
inductive aH{H:Type}(c:bg H):Prop where
 |mk (J:c.a.f<=ef)
  (S:c.a.b=F)
  (G:∀a b,c.e.c a=c.e.c b->a=b)
  (P:c.d.NoLimit)
  (V:∃o,c.d.get? sysModules=B o)
  (p:∀a b r,c.a.c.d a b=B r->c.e.c a++c.e.c b=c.e.c r/\(c.e.c a).length+(c.e.c b).length<=sizeLine)
  (U:∀k,V3 (c.e.c k)=D)
  (T:∀a b r,c.a.c.n a b=B r->decide ((c.e.c a).cps.toList<(c.e.c b).cps.toList)=r)
  (q:∀a n b,c.a.c.f a n=B b->∃x,(c.e.c a).cps[n]?=B x/\(c.e.c b).cps=#[x]/\n<1000)
  (t:∀i b,c.a.c.e i=B b->0<=i/\i<1000/\ih (toString i)=c.e.c b)
  (y:c.f.In c.d)
  (C:∀j,aF (c.a.c.b j)=I->∃v,c.e.j (c.e.d j)=B v/\ao c.e c.g (c.a.c.b j) v)
  (l:∀i f,c.a.c.a i f=D->qQ c.f (c.e.a i) (c.e.b f)=D)
  (u:∀i f d,c.a.c.a i f=D->c.a.c.a i d=D->c.e.b f=c.e.b d->f=d)
  (L:∀i m f,c.a.c.h i m=B f->tv c.f (c.e.a i) (c.e.e m) (c.e.k f)=D/\∀d,c.a.c.a i d=D->c.e.b d≠c.e.e m)
  (K:∀i f,c.a.c.g i=B f->tu c.f (c.e.a i) (c.e.k f)=D)
  (w:∀f h,c.a.c.c f=B h->keepIn c.f (.ref (c.e.k f))=D)
  (z:∀x v,c.e.j x=B v->∀(g:Around)(e:Env)(Q:Value->Shared->Prop)(E:Value->Shared->Prop)(s:Shared),e.globals=mainGlobals->e.builtins=builtinsNs->gY c.d s.heap->Q v s->wpAny (model c.c c.b) g (loadGlobal e x) Q E s)
theorem Xf{a b:Nat}{t:Bool}(h:hV F a b=B t):t=M a b:=by unfold hV at h;cases q:M a b with|true=>rw[q]at h;exact(R h).symm|false=>rw[q]at h;exact ga h λz h=>(R h).symm
theorem aH.c{H:Type}{h:bg H}(i:aH h){f g:Nat}{t:Bool}(k:hV h.a.b f g=B t):(h.e.c f==h.e.c g)=t:=by refine C (show t=M f g from Xf (by rw[←i.2];exact k)) ?_;cases q:M f g with|true=>exact C (cb.mp q) (beq_self_eq_true _)|false=>exact beq_eq_false_iff_ne.mpr λj=>ck ((cb.mpr (i.3 _ _ j)).symm.trans q)
inductive dM(a:Around)(n:Nat):Prop where
 |mk (h:a.handled=N)
  (d:a.depth+10*n+20<recursionLimit)
  (u:a.units+100*n+200<cLine)
section
variable{a:Type}(c:bg a)(b:Around)(e:Env)(n:Nat->Option Str)
abbrev W2(s:Shared)(h:Heap)(t:Nat):Shared:={s with heap:=h,toks:=t}
def aN(k:Expr)(x:aA a E):Prop:=∀(Q:Value->Shared->Prop)(j:Value->Shared->Prop)(s:Shared)(d:aM)(f:S a)(l:aC)(v:E)(i:S a),
 ay c d f s.heap->aT c e n d s.heap l->x l f=B (v,i)->
 (∀g h t u,bk e.locals d s.heap g h->ay c g i h->aT c e n g h l->ao c.e g v u->Q u {s with heap:=h,toks:=t})->
 wpAny (model c.c c.b) b (eval k e) Q j s
def fJ(f:Expr)(x:aA a Bool):Prop:=∀(Q:Bool->Shared->Prop)(E:Value->Shared->Prop)(s:Shared)(g:aM)(i:S a)(l:aC)(v:Bool)(j:S a),
 ay c g i s.heap->aT c e n g s.heap l->x l i=B (v,j)->
 (∀d h t,bk e.locals g s.heap d h->ay c d j h->aT c e n d h l->Q v {s with heap:=h,toks:=t})->
 wpAny (model c.c c.b) b (Dc f e (eval f e)) Q E s
def g'(f:List Expr)(x:aA a (List E)):Prop:=∀(p:Pos)(Q:List Value->Shared->Prop)(k:Value->Shared->Prop)(s:Shared)(d:aM)(i:S a)(l:aC)(v:List E)(j:S a),
 ay c d i s.heap->aT c e n d s.heap l->x l i=B (v,j)->
 (∀g h t u,bk e.locals d s.heap g h->ay c g j h->aT c e n g h l->aE c.e g v u->u.length=f.length->Q u {s with heap:=h,toks:=t})->
 wpAny (model c.c c.b) b (spliced (backTo p (starEach f e))) Q k s
end
def pK(a:Expr):Prop:=∀r e,starEach (a::r) e=(I,eval a e)::starEach r e
section
variable{b:Type}{c:bg b}{a:Around}{e:Env}{n:Nat->Option Str}
theorem xm(v:E)(u:Const)(k:Nat)(p:Pos)(i:∀{Q:Value->Shared->Prop}{d:Value->Shared->Prop}{s:Shared}{g:aM},(∀w t,ao c.e g v w->Q w {s with toks:=t})->wpAny (model c.c c.b) a (constValue e u) Q d s):
  aN c a e n (.Constant u k p) (pe v):=
 λQ d s g m l j o h F f q=>i λw t r=>q g s.heap t w (.b _ _ _) (J (bo f) h) F (J (aW f) r)
theorem Yf(k:Nat)(p:Pos):aN c a e n (.Constant .none k p) (pe .g):=xm _ _ _ _ λh=>wpAny_pure (h _ _ A)
theorem XK(d:Bool)(k:Nat)(p:Pos):aN c a e n (.Constant (.bool d) k p) (pe (.c d)):=xm _ _ _ _ λh=>wpAny_pure (h _ _ A)
theorem Jf(i:Int)(k:Nat)(p:Pos):aN c a e n (.Constant (.int i) k p) (pe (.a (.a i))):=xm _ _ _ _ λh=>wpAny_mkInt (h _ _ ⟨_,A⟩)
theorem Yl(i:Nat)(t:Str)(k:Nat)(p:Pos)(d:c.e.c i=t):aN c a e n (.Constant (.str t) k p) (pe (.e i)):=xm _ _ _ _ λh=>wpAny_mkText (h _ _ ⟨_,O (Db · _) d.symm⟩)
theorem SA{Q:Value->Shared->Prop}{d:Value->Shared->Prop}{s:Shared}{g:aM}{m:Str->Option Value}{y:Str}{x:E}(f:eH e n){i:Nat}(h:n i=B y)(j:s.heap.Ns e.locals m)(t:rV c e g s.heap m y x)(q:∀u,ao c.e g x u->Q u s):
  wpAny (model c.c c.b) a (loadName e y) Q d s:=
 t.elim (λt=>t.2.elim λu z=>wpAny_loadName_local f.1 t.1 j z.1 (q u z.2)) λt=>aq t.2 λk u z=>t.1.elim
  (λp=>wpAny_loadName_cell f.1 p z.1 z.2.1 (q u z.2.2.2)) λp=>wpAny_loadName_free f.1 p z.1 z.2.1 (q u z.2.2.2) (f.6 i y h)
theorem Yb(f:eH e n)(i:Nat)(y:Str)(p:Pos)(h:n i=B y):aN c a e n (.Name y p) (ca i):=
 λQ E s o x r v z g F j q=>tw j λk l m=>F.1.elim λw d=>wpAny_Name (SA f h d.1 (d.2 i v y k l h) λu t=>q o s.heap s.toks u (.b _ _ _) (J m g) F t) (f.5 i y h)
theorem Y2{l:aC}{d:S b}:bs ([]:List (aA b E)) l d=B ([],d):=A
theorem I4{x:aA b E}{y:List (aA b E)}{l:aC}{d:S b}:bs (x::y) l d=aB (x l d) λv s=>aB (bs y l s) λf s=>B (v::f,s):=A
theorem Ye:g' c a e n [] (bs []):=λp Q E s g h l v i f F d q=>wpAny_pure (q g s.heap s.toks [] (.b _ _ _) (J (bo d) f) F (J (aW d) A) A)
theorem XR{d:Expr}{r:List Expr}{x:aA b E}{y:List (aA b E)}(s:pK d)(q:aN c a e n d x)(t:g' c a e n r (bs y)):g' c a e n (d::r) (bs (x::y)):=
 λv Q G Y L a4 X a3 a5 i F h w=>aO (I4.symm.trans h) λH Z o h=>aO h λK a0 p h=>(s r e).symm▸
  wpAny_bind (q _ _ _ _ _ _ _ _ i F o λP U a1 z l j f V=>wpAny_bind (wpAny_pure (wpAny_bind (wpAny_holding (t v _ _ _ _ _ _ _ _ j f p λS W a2 C T k g m u=>wpAny_pure (w _ _ _ _ (l.a T) (J (bo h) k) g (J (aW h) (an z C A (T.d V) m)) (O (· +1) u)))))))
theorem Bs{d m:Nat}(h:d=m)(k:m<=1000):d<=sizeLine:=by exact C h (C sizeLine_eq (aV k (by decide)))
theorem lN{d:Nat}(k:d<=ef):d<=sizeLine:=by exact C sizeLine_eq (aV k (by decide))
theorem eu(h:Heap)(o:Obj):gY h (h.push o):=λf g d=>jE _ d
theorem Yo{d:List Expr}{x:List (aA b E)}(q:Nat)(p:Pos)(m:d.length<=1000)(l:g' c a e n d (bs x)):aN c a e n (.Tuple d q p) (iC x):=
 λQ t H w S C P U g F h s=>aO h λv K k h=>Tuple_ (l p _ _ _ _ _ _ _ _ g F k λy o L u T i f V r=>wpAny_newObj_type
  (have z:=i.l (x:=e.locals) (P:=u) en (eu o {cls:=.type "tuple",data:=.seq u.toArray}) (bi _ (fl _ A) A ⟨0,A⟩)
   s _ _ _ _ (T.a z.2) (J (bo h) z.1) (f.a z.2 λG j=>eu _ _ _ _ j) (J (aW h) (an _ u A aM.i (z.2.e V)))) (Bs r m))
theorem wq(s:aH c){f:aM}{j q:S b}{h:Heap}{p:aC}{u:Option Nat}{i:bq}{v:E}{o:Obj}(k:ay c f j h)(F:aT c e n f h p)(t:fL c.a u i j=B (v,q))
  (x:∀g,bk e.locals f h g (h.push o)->ey c g (h.push o) h.objs.size N i) {P:Prop}
  (C:∀g,bk e.locals f h g (h.push o)->ay c g q (h.push o)->aT c e n g (h.push o) p->ao c.e g v (.ref h.objs.size)->P):P:=
 wB t λw d m y H r=>
  have T:bk e.locals f h (f.b w h.objs.size N) (h.push o):=⟨(ts en).a (k.k m),λz z d=>d,λK G l d=>((ts en).c d).elim (λx=>.inr x.2) λx=>.inl x.2,λz z d=>.inl d,λl i d=>⟨i,eu _ _ _ _ d⟩,λl i d z z=>eu _ _ _ _ d⟩
  C _ T (J r (k.f (x:=e.locals) (a0:=j.a+1) m y (ts en) s.5 (eu h o) (.inr (an _ _ aM.c aM.f (x _ T)))).1) (F.a T λi d=>eu _ _ _ _ d) (J d (ag _ A aM.c))
theorem yN{g:aM}{h:Heap}{u:Array Value}{v:List E}(r:aE c.e g v u.toList)(d:v.length<=ef):ey c g (h.push (et u 0)) h.objs.size N (.a v):=⟨A,(an u 0 (fl _ A) r d)⟩
theorem Ya(t:aH c){d:List Expr}{x:List (aA b E)}(v:Option Nat)(p:Pos)(f:d.length<=1000)(u:g' c a e n d (bs x)):aN c a e n (.List d p) (iB c.a v x):=
 λQ z W H a0 U Z a1 k F h w=>aO h λG X s h=>List_ (u p _ _ _ _ _ _ _ _ k F s λL S Y y o l i V g=>wpAny_newObj_type
  (wq t (o:=et y.toArray 0) l i h (λK T=>yN (T.e V) (by exact J V.h (C g (aV f (by decide))))) λP q m j r=>w _ _ _ _ (o.a q) m j r) (Bs g f))
end
noncomputable def ss:ls->Operator
 |.b=>.Add
 |.c=>.Sub
 |.e=>.Mult
 |.d=>.FloorDiv
 |.a=>.Mod
 |.f=>.BitAnd
theorem xn(h:eQ z=D):-1000000<z/\z<1000000:=V h λa b=>⟨of_decide_eq_true a,of_decide_eq_true b⟩
theorem Rh(h:eQ a=D):Y7 a<=64:=have h:=xn h;intBits_le_64 (by omega) (by omega)
theorem Tz(h:eQ a=D):IntMulOk a b:=by unfold IntMulOk;have:=Rh h;simp[shortFactorBits];omega
theorem Nh(a b):Builtin.bitAnd (.ofNat a) (.ofNat b)=.ofNat (Nat.land a b):=by have h:0<=iG a:=nP a;have c:0<=iG b:=nP b;rfl
section
variable{e:Type}{c:bg e}{b:Around}{d:Value->Shared->Prop}{s:Shared}{a:Value->Shared->Prop}
theorem K7{o:ls}(h:Cx o f g=B r)(q:∀k,a (.int r k) {s with toks:=s.toks+1}):
  wpAny (model c.c c.b) b (binaryOp (ss o) (.int f t) (.int g u)) a d s:=by
 cases o with
 |b=>exact add_int (C (R h) (q _))
 |c=>exact sub_int (C (R h) (q _))
 |e=>exact aY h λp h=>mul_int (C (R h) (q _)) (V p λp z=>Tz p)
 |d=>exact aY h λp h=>V p λi j=>floordiv_int (bne_iff_ne.mp i) (C (R h) (q _)) (.inl (S7 (by have:=xn j;omega)))
 |a=>exact aY h λp h=>mod_int' (bne_iff_ne.mp p) (C (R h) (q _))
 |f=>
  cases f with
  |negSucc=>exact X h
  |ofNat f=>cases g with|negSucc=>exact X h|ofNat g=>exact and_int (Nh f g▸R h▸q _)
theorem KR{o}(h:rz F o x y=B z):Cx o x.c y.c=B z.c:=by
 cases x with
 |a g=>cases y with
  |a f=>exact aj h λl i h=>R h▸i
  |b k f=>cases o<;>first|exact X h|exact R h▸rfl
 |b k g=>cases y with
  |a f=>cases o<;>first|exact X h|exact R h▸rfl|exact aY h λj h=>X h
  |b k f=>cases o<;>first|exact X h|exact ga h λj h=>R h▸A
theorem K8(g:aH c)(h:rz c.a.b o x y=B z)(q:∀f,a (.int z.c f) {s with toks:=s.toks+1}):
  wpAny (model c.c c.b) b (binaryOp (ss o) (.int x.c t) (.int y.c u)) a d s:=K7 (KR (g.2▸h)) q
end
section
variable{p:Program}{w:World}{b:Around}{c:Value->Shared->Prop}{s:Shared}{a:Value->Shared->Prop}
theorem Nq{l e}{n g}(f:s.heap.get? l=B (et v n))(h:s.heap.get? e=B (et d g))(j:v.size+d.size<=sizeLine)
  (i:a (.ref s.heap.objs.size) {s with heap:=s.heap.push (et (v++d) 0)}):wpAny (model p w) b (binaryOp .Add (.ref l) (.ref e)) a c s:=
 concat_meets (ag _ f A) (ag _ h A) noFill_list_add seq_list_add PySem.F.slot_list_add PySem.F.entry_list_add (PySem.F.args_list_add_2 _ _) (list_addW l e v d n g N N #[] #[] j) (aK f h i)
theorem Vu{v:Value}:∀n d,P1 (λx e=>x++e) d (hs n #[v])=d++(hs n v).toArray:=λn=>by
 induction n with|zero=>exactλd=>Array.append_empty.symm|succ n i=>exactλd=>by rw[Q6,List.foldl_cons,i,Q6];exact KT (by simp)
theorem Nt{i}(h:s.heap.get? l=B (et i k))(m:-2^63<=x)(j:x<2^63)(n:i.size*x.toNat<=2^24)
  (d:a (.ref s.heap.objs.size) {s with heap:=s.heap.push {cls:=.type "list",data:=.seq (P1 (λf g=>f++g) #[] (hs (if i.isEmpty=D then 0 else x.toNat) i))}}):
  wpAny (model p w) b (binaryOp .Mult (.ref l) (.int x u)) a c s:=
 wpAny_binaryOp_repeat_ref A (ag _ h A) (λe=>typeIs_int e x u) noFill_list_mul PySem.F.fills_int_mul U0 repeat_list PySem.F.slot_int_index.lookup
  (call_meets U0 (typeIs_int s x u) PySem.F.entry_int_rmul (PySem.F.args_int_rmul_2 _ _) (int___rmul___int_list x u l _ k)
   (da h A (ag _ h A) (call_meets PySem.F.slot_list_mul (ag _ h A) PySem.F.entry_list_mul (PySem.F.args_list_mul_2 _ _)
    (AutoListH.list___mul___list_int_3 l _ k x u (by simp[Y8];omega) (by omega) (by simp[Z0,sizeLine];omega)) ⟨h,d⟩)))
theorem Ns(g:s.heap.get? l=B (et #[v] k))(i:n<ef)(h:a (.ref s.heap.objs.size) {s with heap:=s.heap.push (et (hs n v).toArray 0)}):
  wpAny (model p w) b (binaryOp .Mult (.ref l) (.int (.ofNat n) u)) a c s:=by
 have e:(iG n)=n:=A;have f:(iG n).toNat=n:=A;have d:#[v].size=1:=A;unfold ef at i;refine Nt g (by rw[e];omega) (by omega) (by refine C d (C f ?_);omega) ?_;have j:#[v].isEmpty=I:=A;rw[Vu,Array.empty_append];exact h
end
theorem aE.o(u:ao r s x v):∀t,aE r s (hs t x) (hs t v):=λt=>by
 induction t with|zero=>exact A|succ t w=>exact(an v _ A u w)
section
variable{w:Type}{q:bg w}{u:Around}{v:Value->Shared->Prop}{s:Shared}{r:Env}{t:Nat->Option Str}
theorem ay.a(G:ay q y a2 a1)(H:q.a.a a2.b z=.a x)(J:y.a z I=B a0){P:Prop}
  (K:∀E F,a1.get? a0=B (et E F)->aE q.e y x E.toList->E.size=x.length->x.length<=ef->P):P:=
 have C:=H▸(G.2 z).c J
 aq C.2 λE F C=>K E F C.1 C.2.1 (C.2.1.h) C.2.2
theorem GY(o:aH q)(j:ay q g c s.heap)(F:aT q r t g s.heap l)(y:fL q.a k (.a x) c=B (b,d))(C:aE q.e g x a)(p:x.length<=ef){Q:Value->Shared->Prop}
  (z:∀e h E f,bk r.locals g s.heap e h->ay q e d h->aT q r t e h l->ao q.e e b f->Q f {s with heap:=h,toks:=E}):Q (.ref s.heap.objs.size) {s with heap:=s.heap.push (et a.toArray 0)}:=
 wq o (o:=et a.toArray 0) j F y (λe T=>yN (T.e C) p) λG n m i V=>z _ _ _ _ n m i V
theorem aH.e(g:aH q)(h:n<q.a.f):n<ef:=cO h g.1
theorem MW(g:aH q){o:ls}{x a1 Y:E}{a3 a4:S w}{d:aM}{U:aC}{j k:Value}(c:ay q d a3 s.heap)(F:aT q r t d s.heap U)(a:ao q.e d x j)(b:ao q.e d a1 k)(h:uU q.a o x a1 a3=B (Y,a4)){T:Value->Shared->Prop}
  (y:∀l m Q f,bk r.locals d s.heap l m->ay q l a4 m->aT q r t l m U->ao q.e l Y f->T f {s with heap:=m,toks:=Q}):wpAny (model q.c q.b) u (binaryOp (ss o) j k) T v s:=by
 cases x with
 |a x=>exact aj h λc5 e h=>aj h λb7 p h=>a.elim λb5 a=>((fZ e)▸b).elim λf b=>a▸b▸K8 g p λz=>y d s.heap _ _ (.b _ _ _) (bo h▸c) F (aW h▸⟨z,A⟩)
 |e x=>cases o with|b=>exact aj h λc4 e h=>aj h λb7 p h=>a.elim λb5 a=>((yI e)▸b).elim λf b=>a▸b▸add_str (λz Q=>y d s.heap Q _ (.b _ _ _) (bo h▸c) F (aW h▸⟨z,O (Db · z) (g.6 _ _ _ p).1⟩)) (g.6 _ _ _ p).2|_=>exact X h
 |b x=>
  cases o with
  |b=>
   exact aj h λa8 G h=>aj h λc0 H h=>qj H λW K H=>oG h λL h=>a.elim λa5 a=>(K▸b).elim λb8 b=>a.1▸b.1▸
    c.a (jm G) a.2 λi a7 P n a9 a2=>c.a H b.2 λa0 b9 b0 b1 b2 a2=>Nq P b0 (lN (by exact C a9 (C b2 (J dr (fh (g.e L))))))
     (C (show i++a0=(i.toList++a0.toList).toArray from KT (by simp)) (GY g c F h (n.n b1) (fh (g.e L)) y))
  |e=>
   exact aj h λa8 G h=>aj h λW K h=>aY h λp h=>oG h λL h=>V p λP n=>a.elim λa5 a=>((tq K)▸b).elim λf b=>a.1▸b▸
    c.a (jm G) a.2 λi a7 b3 b4 c2 a2=>by
     refine cn (P7.mp (cb.mp P)) λc3 a6=>?_;subst a6
     exact b4.b (P:=λb6=>i.toList=b6->_) (λZ c1 j k e=>by
      have e:i=#[Z]:=KT (e.trans (O (Z::·) k.i));subst e
      exact Ns b3 (g.e (bH n)) (GY g c F h (aE.o j W) (by exact C List.length_replicate (fh (g.e (bH n)))) y)) A
  |_=>exact X h
 |_=>exact X h
theorem XJ(C:aH q)(H)(E:aN q u r t a x)(G:aN q u r t b y):aN q u r t (.BinOp a (ss o) b H) (fC q.a o x y):=
 λQ v s K b0 Y a7 b1 f F h J=>aO h λa8 Z p h=>aO h λa9 a0 z h=>wpAny_BinOp (E _ _ _ _ _ _ _ _ f F p λL U a1 a4 k g c V=>G _ _ _ _ _ _ _ _ g c z λP W a2 a5 T i d m=>MW C i d (T.d V) m h λS X a3 a6 l j e n=>J _ _ _ _ ((k.a T).a l) j e n)
theorem Jg(p)(i:aN q u r t a x):aN q u r t (.UnaryOp .USub a p) (ph x):=
 λQ v s k L o H P c F h j=>aO h λJ y f h=>aj h λK e h=>aj h λn g h=>wpAny_UnaryOp (i _ _ _ _ _ _ _ _ c F f λl m E G T d b V=>((fZ e).trans (O _ (mn g))▸V).elim λz V=>C V (neg_int (j _ _ _ _ T (bo h▸d) b (aW h▸⟨_,A⟩))))
end
theorem PyData.i{P:PySem.PyData->Prop}{Q:List _->Prop}(a:P .none)(b:∀b,P (.bool b))(c:∀b,P (.int b))(d:∀b,P (.str b))(e:∀l,Q l->P (.list l))(f:∀l,Q l->P (.tuple l))(g:∀l,P (.dict l))(h:Q [])(j:∀v l,P v->Q l->Q (v::l)):(∀v,P v)/\∀l,Q l:=
 ⟨Z7 (motive_3:=λz=>True) (motive_4:=λz=>True) a b c d e f (λl z=>g l) h j trivial (λz z z z=>trivial) (λz z z z=>trivial),
  Z8 (motive_3:=λz=>True) (motive_4:=λz=>True) a b c d e f (λl z=>g l) h j trivial (λz z z z=>trivial) (λz z z z=>trivial)⟩
mutual
noncomputable def it(a:gZ):E->PyData
 |.c b=>.bool b
 |.a z=>.int z.c
 |.e k=>.str (a.c k)
 |.d l=>.tuple (hg a l)
 |.h l=>.list (hg a l)
 |_=>.none
termination_by structural x=>x
noncomputable def hg(a:gZ):List E->List PyData
 |[]=>[]
 |x::c=>it a x::hg a c
termination_by structural x=>x
end
theorem xN{k}(h:xM F k c i=B r):r=I/\i≠c:=ga h λp h=>⟨(R h).symm,λe=>by
 subst e;rw[Lg]at p
 exact az p⟩
theorem K3{a b}(h:po F a b=B r):(a.c==b.c)=r:=by
 cases a with
 |a i=>cases b with|a j=>exact R h|b k d=>exact C ((xN h).1) (beq_eq_false_iff_ne.mpr (xN h).2)
 |b k d=>cases b with
  |a i=>exact C ((xN h).1) (beq_eq_false_iff_ne.mpr (xN h).2.symm)
  |b c e=>have h:(bif M k c then B _ else N)=B r:=h;cases p:M k c with|false=>rw[p]at h;exact X h|true=>rw[p]at h;exact R h
theorem K6{r}(h:ry F a b=B r):decide (a.c<b.c)=r:=by
 cases a with
 |a i=>cases b with
  |a j=>exact R h
  |b k d=>have h:(bif decide (i<0+d)then B D else bif decide _ then B _ else N)=B r:=h;rw[nQ]at h;cases p:decide (i<d)with|true=>rw[p]at h;exact p.trans (R h)|false=>rw[p]at h;exact ga h λz h=>p.trans (R h)
 |b k d=>cases b with
  |a i=>have h:(bif decide (0+d<i)then B D else bif decide _ then B _ else N)=B r:=h;rw[nQ]at h;cases p:decide (d<i)with|true=>rw[p]at h;exact p.trans (R h)|false=>rw[p]at h;exact ga h λz h=>p.trans (R h)
  |b=>exact X h
section
variable{g:Type}{f:bg g}
theorem aH.a(l:aH f)(m:po f.a.b j k=B r):(j.c==k.c)=r:=K3 (J l.2 m)
theorem aH.b(l:aH f)(m:ry f.a.b j k=B r):decide (j.c<k.c)=r:=K6 (J l.2 m)
theorem V9{P:Prop}(a:sn b=B r)(k:r=I->aF b=I->P):P:=by cases b<;>first|exact X a|exact k (R a).symm rfl
mutual
theorem vh(c:aH f):∀d b r,eL f.a.b d b=B r->jF (it f.e d) (it f.e b)=r
 |.g,b,r,a=>by cases b<;>first|exact X a|exact R a
 |.c x,b,r,a=>by
  cases b with
  |a z=>exact(by cases x<;>rfl:PyData.eqv (.bool x) (.int _)=((bif x then 1 else 0)==z.c)).trans (c.a (j:=.a (bif x then 1 else 0)) a)
  |_=>first|exact X a|exact R a
 |.a x,b,r,a=>by
  cases b with
  |a z=>exact c.a a
  |c y=>exact(by cases y<;>rfl:PyData.eqv (.int _) (.bool y)=(x.c==(bif y then 1 else 0))).trans (c.a (k:=.a (bif y then 1 else 0)) a)
  |_=>first|exact X a|exact R a
 |.e x,b,r,a=>by
  cases b with
  |e z=>exact c.c a
  |_=>first|exact X a|exact R a
 |.d x,b,r,a=>by
  cases b with
  |d y=>exact zd c x y r a
  |_=>first|exact X a|exact R a
 |.h x,b,r,a=>by
  cases b with
  |h y=>exact zd c x y r a
  |_=>first|exact X a|exact R a
 |.f,_,_,a=>X a
 |.b _,_,_,a=>X a
theorem zd(c:aH f):∀d b r,io f.a.b d b=B r->us (hg f.e d) (hg f.e b)=r
 |[],b,r,a=>by cases b<;>exact R a
 |x::e,b,r,a=>by
  cases b with
  |nil=>exact R a
  |cons y j=>
   exact aj a λt p a=>(O (· &&us _ _) (vh c x y t p)).trans (by
    cases t with
    |true=>exact zd c e j r a
    |false=>exact R a)
end
inductive Dl(f:bg g)(b)(n)(y)(v) where
 |mk (r:∃a,Reads b v (it f.e y) a)
  (l:(it f.e y).canLay0=D)
  (d:(it f.e y).depth<=n)
def Dk(f:bg g)(b)(c:Heap)(r:Nat->af->Option E):=∀n a y,r n a=B y->∀v,ao f.e b (.b a) v->Dl f c n y v
inductive LX(f:bg g)(b)(n)(y)(v) where
 |mk (r:∃a,ReadsAll b v (hg f.e y) a)
  (l:LN (hg f.e y)=D)
  (d:yf (hg f.e y)<=n)
section
variable(d:aH f){a:aM}{j:S g}{b:Heap}(c:ay f a j b){r:Nat->af->Option E}(e:Dk f a b r)
include d c e
mutual
theorem zz:∀x n y,sJ r x n=B y->∀v,ao f.e a x v->Dl f b n y v
 |.g,n,y,k,v,w=>J (R k) (w▸⟨⟨[],.none⟩,A,ek _⟩)
 |.c m,n,y,k,v,w=>J (R k) (w▸⟨⟨[],.bool m⟩,A,ek _⟩)
 |.a z,n,y,k,v,w=>w.elim λt w=>J (R k) (w▸⟨⟨[],.int _ t⟩,A,ek _⟩)
 |.e u,n,y,k,v,w=>w.elim λt w=>J (R k) (w▸⟨⟨[],.str _ t⟩,d.7 u,ek _⟩)
 |.d C,0,y,k,v,w=>X k
 |.d C,n+1,y,k,v,w=>aj k λF p k=>aq w λl E w=>R k▸w.1▸(c.3 l E w.2.1).elim λV z=>z.2.2.elim λu T=>
  have q:=zy C n F p E w.2.2
  ⟨q.1.elim λo q=>⟨o,.tuple z.1 z.2.1 T q⟩,q.2,fk q.3⟩
 |.b l,n,y,k,v,w=>e n l y k v w
 |.f,_,_,k,_,_=>X k
 |.h _,_,_,k,_,_=>X k
theorem zy:∀x n y,jX r x n=B y->∀v,aE f.e a x v->LX f b n y v
 |[],n,y,k,v,w=>J (R k) (w▸⟨⟨[],.nil⟩,A,ek _⟩)
 |x::Q,n,y,k,v,w=>aj k λP p k=>aj k λS q k=>R k▸w.b λG H K L=>
  have l:=zz x n P p G K;have m:=zy Q n S q H L
  ⟨l.1.elim λo z=>m.1.elim λU y=>⟨_,.cons z y⟩,ho.mpr ⟨l.2,m.2⟩,R8.mpr ⟨l.3,m.3⟩⟩
end
end
theorem Fy(l:aH f)(d:ay f a c b):∀k,Dk f a b (mP f.a.toHOps c.b k):=λk=>by
 induction k with
 |zero=>exactλn j y e=>X e
 |succ k m=>
  exactλn j y e F w=>w.elim λC w=>aj e λo q e=>by
    cases n with
    |zero=>exact X e
    |succ n=>
     exact aj e λp u e=>d.a (jm q) w.2 λG E r t v v=>R e▸w.1▸
      have z:=zy l d m o n p u _ t
      ⟨z.1.elim λx y=>⟨_,.list r A A y⟩,z.2,fk z.3⟩
variable{h:Around}{i:Value->Shared->Prop}{s:Shared}
theorem dM.a(r:dM h n):h.units+100<cLine:=ap [_,_,_] (.a 1 (.c (.c (.c (.a 0) (.f 100 (.a 1))) (.b 200)) (.b 1)) (.a 2) .b) (.c (.c (.a 0) (.b 100)) (.b 1)) (.a 2) A (r.3)
theorem OA(e:aH f)(J:dM h n)(k:ay f c d s.heap){P:Prop}(j:vg f.a d.b a b=B r)(t:ao f.e c a u)(w:ao f.e c b v)
  (C:∀l m o p,Reads s.heap u l o->Reads s.heap v m p->l.canLay0=D->m.canLay0=D->h.units+min l.depth m.depth<cLine->jF l m=r->P):P:=
 aj j λx E j=>aj j λy F j=>
  have z:=zz e k (Fy e k 3) a 20 x E u t;have q:=zz e k (Fy e k 3) b 20 y F v w
  z.1.elim λo G=>q.1.elim λp H=>C _ _ o p G H z.2 q.2 (dA (dT (aV (ya _ _) (aV z.3 (by decide))) _) J.a) (vh e x y r j)
end
mutual
def gt:PyData->Nat->Option PyData
 |.int i,_=>B (.int i)
 |.bool b,_=>B (.int (bif b then 1 else 0))
 |.str s,_=>B (.str s)
 |.tuple l,n=>bf .none (λn z=>Y (f' l n) λc=>B (.tuple c)) n
 |_,_=>N
termination_by structural x=>x
def f':List PyData->Nat->Option (List PyData)
 |[],_=>B []
 |x::d,n=>Y (gt x n) λk=>Y (f' d n) λa=>B (k::a)
termination_by structural x=>x
end
mutual
noncomputable def y':PyData->Nat
 |.tuple l=>za l+1
 |_=>1
termination_by structural x=>x
noncomputable def za:List PyData->Nat
 |[]=>0
 |x::a=>y' x+za a
termination_by structural x=>x
end
theorem kF{k}{P:Nat->PyData->Prop}(h:gt (.tuple l) n=B k)(q:∀m a,f' l m=B a->P (m+1) (.tuple a)):P n k:=by cases n with|zero=>exact X h|succ m=>exact aj h λa p h=>J (R h) (q m a p)
theorem og{l}{k}{P:List _->Prop}(h:f' (x::l) n=B k)(q:∀y r,gt x n=B y->f' l n=B r->P (y::r)):P k:=
 aj h λy a h=>aj h λr b h=>J (R h) (q y r a b)
theorem jh{a:Type}{k j:a}(h:k≠j):I=D↔k=j:=⟨az,λe=>ak e h⟩
theorem vG:(a==b)=D↔LO a=.int b:=beq_iff_eq.trans ⟨O _,V2⟩
theorem Ed:(∀x y n m k j,gt x n=B k->gt y m=B j->(jF x y=D↔k=j))/\∀x y n m k j,f' x n=B k->f' y m=B j->(us x y=D↔k=j):=by
 refine PyData.i ?_ ?_ ?_ ?_ ?_ ?_ ?_ ?_ ?_
 ·exact @λ_ _ _ _ _ a _=>X a
 ·intro c;exact @λy n m k j a h=>by refine J (R a) (?_);cases y with|int b=>exact R h▸(by cases c<;>rfl:PyData.eqv (.bool c) (.int b)=((bif c then 1 else 0)==b))▸vG|bool b=>exact R h▸(by cases c<;>cases b<;>rfl:PyData.eqv (.bool c) (.bool b)=(((bif c then 1 else 0):Int)==(bif b then 1 else 0)))▸vG|str=>exact R h▸jh nofun|tuple=>exact kF (P:=λz j=>jF _ _=D↔LO _=j) h λz z z=>jh nofun|_=>exact X h
 ·intro c;exact @λy n m k j a h=>by refine J (R a) (?_);cases y with|int b=>exact R h▸vG|bool b=>exact R h▸(by cases b<;>rfl:PyData.eqv (.int c) (.bool b)=(c==(bif b then 1 else 0)))▸vG|str=>exact R h▸jh nofun|tuple=>exact kF (P:=λz j=>jF _ _=D↔LO c=j) h λz z z=>jh nofun|_=>exact X h
 ·intro c;exact @λy n m k j a h=>by refine J (R a) (?_);cases y with|int b=>exact R h▸jh nofun|bool b=>exact R h▸jh nofun|str b=>exact R h▸(beq_iff_eq.trans ⟨O _,Da⟩)|tuple=>exact kF (P:=λz j=>jF _ _=D↔PyData.str c=j) h λz z z=>jh nofun|_=>exact X h
 ·intro z z;exact @λ_ _ _ _ _ a _=>X a
 ·intro c t;exact @λy n m k j a h=>kF (P:=λz k=>jF _ y=D↔k=j) a λv i f=>by cases y with|int b=>exact J (R h) (jh nofun)|bool b=>exact J (R h) (jh nofun)|str=>exact J (R h) (jh nofun)|tuple b=>exact kF (P:=λz j=>jF _ _=D↔ut i=j) h λu d g=>((t b v u i d f g).trans ⟨O _,Z9⟩)|_=>exact X h
 ·intro z;exact @λ_ _ _ _ _ a _=>X a
 ·exact @λy n m k j a h=>by refine J (R a) (?_);cases y with|nil=>exact R h▸⟨λz=>A,λz=>A⟩|cons b e=>exact og (P:=λj=>I=D↔[]=j) h λz z z z=>jh nofun
 ·intro x E q s;exact @λy n m k j a h=>og (P:=λk=>us _ y=D↔k=j) a λc r f o=>by
   cases y with
   |nil=>exact J (R h) (jh nofun)
   |cons b e=>
    exact og (P:=λj=>(jF x b&&us E e)=D↔c::r=j) h λd w g p=>ho.trans ((and_congr (q b n m c d f g) (s e n m r w o p)).trans
     ⟨λl=>C l.1 (l.2▸A),kq⟩)
theorem Et:∀x y n m k j,gt x n=B k->gt y m=B j->(jF x y=D↔k=j):=(Ed).1
theorem W4:∀x y n m k j,f' x n=B k->f' y m=B j->(us x y=D↔k=j):=(Ed).2
theorem UQ{E}{Q}(c:a.units<cLine)(h:Q (hashInt (bif b then 1 else 0)) {s with toks:=s.toks+1}):
  wpAny (model p w) a (pyHash (.bool b)) Q E s:=by
 refine pyHash_slot A PySem.F.slot_bool_hash entry_int_hash (args_int_hash _) (beq_builtin_none _) (.inr c) ?_;cases b
 ·exact(show wpAny _ _ (do V7 (←mkInt 0)) _ _ s from wpAny_bind (wpAny_mkInt (wpAny_pure (dE _ _ A h))))
 ·exact(show wpAny _ _ (do V7 (←mkInt 1)) _ _ s from wpAny_bind (wpAny_mkInt (wpAny_pure (dE _ _ A h))))
section
variable{h:Heap}{v:Value}{b:List Addr}{a:Value->Prop}
theorem AQ(r:Reads h v (.int i) b)(k:∀t,a (.int i t)):a v:=by cases r;exact k _
theorem AO(r:Reads h v (.bool c) b)(k:a (.bool c)):a v:=by cases r;exact k
theorem AS(r:Reads h v (.str t) b)(k:∀u,a (.str t u)):a v:=by cases r;exact k _
theorem AT(r:Reads h v (.tuple l) b)(k:∀c o d j b,h.get? c=B o->o.cls=.type "tuple"->o.data=.seq d j->ReadsAll h d.toList l b->a (.ref c)):a v:=by cases r with|tuple e f g i=>exact k _ _ _ _ _ e f g i
theorem AP{l}{d}{a:List _->Prop}(r:ReadsAll h d (x::l) b)(k:∀u c b e,Reads h u x b->ReadsAll h c l e->a (u::c)):a d:=by cases r with|cons f g=>exact k _ _ _ _ f g
theorem AR(r:ReadsAll h c [] b):c=[]:=by cases r;rfl
end
section
variable{p:Program}{w:World}{a:Value->Shared->Prop}
def rR(p:Program)(w:World)(a:Value->Shared->Prop)(h:Heap)(n)(k:PyData)(v:Value):=∀b s Q,s.heap=h->b.units+n<cLine->Q (hN w k) {s with toks:=s.toks+y' k}->wpAny (model p w) b (pyHash v) Q a s
def pC(p:Program)(w:World)(a:Value->Shared->Prop)(h)(n)(k:List _)(v:List _):=∀b s (c:Array Int) Q,s.heap=h->b.units+n<cLine->(∀d,d.toList=c.toList++zQ w k->Q d {s with toks:=s.toks+za k})->
  wpAny (model p w) b (forIn v c λx r=>do let h ←pyHash x;pure _;pure (pq (r.push h))) Q a s
theorem QI{o}(c:h.get? b=B o)(f:o.cls=.type "tuple")(g:o.data=.seq v i)(k:pC p w a h m l v.toList):rR p w a h (m+1) (.tuple l) (.ref b):=λn s Q e d q=>by
 subst e;refine pyHash_slot (ag _ c f) PySem.F.slot_tuple_hash PySem.F.entry_tuple_hash (PySem.F.args_tuple_hash_1 _) (beq_builtin_none _) (.inr (dA (bX _ _) d)) ?_;show wpAny _ _ (Z3 _>>=_) _ _ s
 refine wpAny_bind (wpAny_tupleItemsOf c g ?_);refine wpAny_bind ?_;refine J L3 ?_;refine k _ s #[] _ A (by rw[gX,kr 1 m];exact d) λr j=>?_
 show wpAny _ _ (retInt _) _ _ _
 exact C j (wpAny_bind (wpAny_mkInt (wpAny_pure (dE _ _ A q))))
theorem QH{h}{n}{d}(f:rR p w a h n y d)(g:pC p w a h n r u):pC p w a h n (y::r) (d::u):=λb s k Q e c q=>by rw[Lk];refine wpAny_bind (wpAny_bind (f b s _ e c ?_));refine wpAny_bind (wpAny_pure (wpAny_pure ?_));exact g b _ _ Q e c λi j=>C (gX _ _ _) (q i (j.trans (by rw[Cy,kp];rfl)))
section
variable{h:Heap}
theorem Ek:(∀r n k v c,gt r n=B k->Reads h v r c->rR p w a h n k v)/\∀o n k e c,f' o n=B k->ReadsAll h e o c->pC p w a h n k e:=by
 refine PyData.i ?_ ?_ ?_ ?_ ?_ ?_ ?_ ?_ ?_
 ·exact @λ_ _ _ _ b _=>X b
 ·intro i;exact @λn k v c b d=>J (R b) (AO d λg s Q j f q=>UQ (dA (bX _ _) f) q)
 ·intro C;exact @λn k v c b d=>J (R b) (AQ d λT g s Q j f q=>wpAny_pyHash_int q)
 ·intro i;exact @λn k v c b d=>J (R b) (AS d λT g s Q j f q=>wpAny_pyHash_str q)
 ·intro z z;exact @λ_ _ _ _ b _=>X b
 ·intro o G;exact @λn k v c b d=>kF (P:=λn k=>rR p w a h n k v) b λK H y=>AT d λY Z e C c l m u x=>QI l m u (G K H _ c y x)
 ·intro z;exact @λ_ _ _ _ b _=>X b
 ·exact @λn k e c b d=>J (R b) (AR d▸λg s i Q j f q=>wpAny_pure (q i (ln _).symm))
 ·intro a0 a1 E F;exact @λn k e c b d=>og (P:=λk=>pC p w a h n k e) b λW L l m=>AP d λU V c t P S=>QH (E n W U c l P) (F n L V t m S)
theorem Ik:∀d n k v b,gt d n=B k->Reads h v d b->rR p w a h n k v:=(Ek).1
theorem X8:∀l n k v b,f' l n=B k->ReadsAll h v l b->pC p w a h n k v:=(Ek).2
end
def iM(p:Program)(w:World)(a:Value->Shared->Prop)(h)(i)(v:Value):=∀b s Q,s.heap=h->Q D s->wpAny (model p w) b (eqIsQuiet i v) Q a s
theorem US{o}(d:h.get? b=B o)(e:o.cls=.type "tuple")(m:o.data=.seq v j)(q:∀c∈v.toList,iM p w a h i c):iM p w a h (i+1) (.ref b):=λy u Q l t=>by
 subst l;unfold eqIsQuiet;refine wpAny_bind (wpAny_specialOf (ag _ d e) PySem.F.slot_tuple_eq.lookup ?_);refine wpAny_bind (wpAny_isInstance (ag _ d e) isSubtype_tuple_tuple ?_);refine wpAny_bind (wpAny_seqItems d m (wpAny_bind ?_));refine J L3 ?_;refine wpAny_forIn_list _ (λk r s=>r.1=N/\s=u/\∀c∈k,iM p w a _ i c) _ ?_ ?_ _ _ (aK A A q)
 ·rintro c k r s ⟨g,rfl,f⟩;exact wpAny_bind (f c bn _ _ _ A (wpAny_pure (aK A A (λx n=>f x (bT _ n)))))
 ·rintro⟨z,C⟩ s ⟨g,rfl,_⟩;subst g;exact wpAny_pure t
theorem AN(e:carriedByValue v=D):iM p w a h i v:=λb s Q c q=>by exact C (eqIsQuiet_byValue _ e) (wpAny_pure q)
section
variable{h:Heap}
theorem El:(∀q n k v d i,gt q n=B k->Reads h v q d->n<=i->iM p w a h i v)/\∀m n k g d i,f' m n=B k->ReadsAll h g m d->n<=i->∀v∈g,iM p w a h i v:=by
 refine PyData.i ?_ ?_ ?_ ?_ ?_ ?_ ?_ ?_ ?_
 ·exact @λ_ _ _ _ _ b _ _=>X b
 ·intro z;exact @λn k v d i b e c=>AO e (AN A)
 ·intro z;exact @λn k v d i b e c=>AQ e λP=>AN A
 ·intro z;exact @λn k v d i b e c=>AS e λP=>AN A
 ·intro z z;exact @λ_ _ _ _ _ b _ _=>X b
 ·intro m F;exact @λn k v d T=>by cases T with|zero=>exact @λb e c=>kF (P:=λn z=>n<=0->iM p w a h 0 v) b (λo z z c=>ak c (S1 o)) c|succ i=>exact @λb e c=>kF (P:=λn z=>n<=i+1->iM p w a h _ v) b (λo G x c=>AT e λV Y g W d j l t u=>US j l t (F o G _ d i x u (R3 c))) c
 ·intro z;exact @λ_ _ _ _ _ b _ _=>X b
 ·exact @λn k g d i b e c v f=>ak (J (AR e) f) cI
 ·intro Z a0 y E;exact @λn k g d i b e c v f=>og (P:=λz=>iM p w a h i v) b λU H j l=>AP (a:=λg=>v∈g->iM p w a h i v) e (λQ S d r K L f=>(cB.mp f).elim (λs=>C s (y n U Q d i j K c)) λf=>E n H S r i l L c v f) f
theorem UR:∀d n k v b i,gt d n=B k->Reads h v d b->n<=i->iM p w a h i v:=(El).1
theorem X9:∀l n k v b i,f' l n=B k->ReadsAll h v l b->n<=i->∀c∈v,iM p w a h i c:=(El).2
end
end
theorem Ee:(∀d n k,gt d n=B k->d.depth<=n)/\∀d n k,f' d n=B k->yf d<=n:=by
 refine PyData.i ?_ ?_ ?_ ?_ ?_ ?_ ?_ ?_ ?_
 ·exact @λ_ _ h=>X h
 ·intro z;exact @λ_ _ _=>ek _
 ·intro z;exact @λ_ _ _=>ek _
 ·intro z;exact @λ_ _ _=>ek _
 ·intro z z;exact @λ_ _ h=>X h
 ·intro l f;exact @λn k h=>kF (P:=λn z=>(ut l).depth<=n) h λm g c=>fk (f m g c)
 ·intro z;exact @λ_ _ h=>X h
 ·exact @λ_ _ _=>ek _
 ·intro x j i e;exact @λn k h=>og (P:=λz=>yf (x::j)<=n) h λy r a b=>R8.mpr ⟨i n y a,e n r b⟩
theorem Eu:∀d n k,gt d n=B k->d.depth<=n:=(Ee).1
theorem Nv:∀d n k,f' d n=B k->yf d<=n:=(Ee).2
section
variable{b h:Heap}(k:∀a o v i,b.get? a=B o->o.data=.seq v i->h.get? a=B o)
include k
mutual
theorem Iu:∀l n j c e,gt l n=B j->Reads b c l e->∃d,Reads h c l d
 |.int i,n,j,c,e,f,g=>AQ (a:=λc=>∃d,Reads h c _ d) g λF=>⟨_,.int _ _⟩
 |.bool i,n,j,c,e,f,g=>AO (a:=λc=>∃d,Reads h c _ d) g ⟨_,.bool _⟩
 |.str i,n,j,c,e,f,g=>AS (a:=λc=>∃d,Reads h c _ d) g λF=>⟨_,.str _ _⟩
 |.tuple u,n,j,c,e,f,g=>kF (P:=λz z=>∃d,Reads h c _ d) f λx w t=>AT (a:=λc=>∃d,Reads h c _ d) g λa o v i e m p r s=>(Iv u x w _ e t s).elim λd q=>⟨_,.tuple (k a o v i m r) p r q⟩
 |.none,_,_,_,_,f,_=>X f
 |.list _,_,_,_,_,f,_=>X f
 |.dict _,_,_,_,_,f,_=>X f
theorem Iv:∀l n j c e,f' l n=B j->ReadsAll b c l e->∃d,ReadsAll h c l d
 |[],n,j,c,e,f,g=>AR g▸⟨_,.nil⟩
 |J::K,n,j,c,e,f,g=>og (P:=λz=>∃d,ReadsAll h c _ d) f λL y m p=>AP (a:=λc=>∃d,ReadsAll h c _ d) g λG H e d C E=>(Iu J n L G e m C).elim λz q=>(Iv K n y H d p E).elim λz P=>⟨_,.cons q P⟩
end
end
def ym(h:Heap)(k:PyData)(a:Addr):=∃d,(∃b,Reads h (.ref a) d b)/\d.canLay0=D/\gt d 6=B k
abbrev Gp(p)(w):@HeapKind p w PyData (CA _):=
 letI:=CA PyData
 {is:=ym
  hash:=hN w
  draws:=y'
  room:=λb=>b.units+10<cLine
  inj:=λ{h c x y} ⟨d,⟨a,r⟩,l,e⟩ ⟨f,⟨n,m⟩,_,g⟩=>R (e.symm.trans (C (aaa d f _ _ _ l r m) g))
  keeps:=λ{h K k c d P J H} ⟨o,⟨a,r⟩,l,e⟩ u t v=>(bi o (Iu (λc S T L i q=>(v.2 c λF=>by rw[F,u]at i;cases i;rw[t]at q;cases q).trans i) o 6 k _ a e r) l e)
  pyHash:=λ{b E s k c Q} j ⟨d,⟨a,r⟩,l,e⟩ h=>Ik d 6 k _ a e r b s Q A (dA (dT (by decide) _) j) h
  eqBool:=λ{b E s x y c G Q} j ⟨d,⟨a,r⟩,l,e⟩ ⟨f,⟨n,m⟩,z,g⟩ h=>V4 p w b E s _ _ d f a n Q r m l z
   (dA (dT (aV (ya _ _) (aV (Eu d 6 x e) (by decide))) _) j)
   (C (xQ.mpr ((Et d f 6 6 x y e g).trans decide_eq_true_iff.symm)) h)
  quiet:=λ{b E s k c Q} ⟨d,⟨a,r⟩,l,e⟩ h=>UR d 6 k _ a 8 e r (by decide) b s Q A h}
theorem HE{x d:Option a}{y e}(h:x=d)(k:y=e):(Y x λb=>Y y λc=>B (b::c))=Y d λb=>Y e λc=>B (b::c):=C h (k▸A)
theorem Ef(a):(∀v n,cH v n=D->gt (it a v) n=cp a v/\∃k,cp a v=B k)/\∀v n,hJ v n=D->f' (hg a v) n=pU a v/\∃k,pU a v=B k:=by
 refine E.i ?_ ?_ ?_ ?_ ?_ ?_ ?_ ?_ ?_ ?_
 ·exact @λ_ h=>az h
 ·exact @λ_ h=>az h
 ·intro b;exact @λn _=>⟨A,⟨_,A⟩⟩
 ·intro z;exact @λn _=>⟨A,⟨_,A⟩⟩
 ·intro k;exact @λn _=>⟨A,⟨_,A⟩⟩
 ·intro p l;exact @λo=>by
   cases o with
   |zero=>exact @λh=>az h
   |succ n=>
    exact @λh=>have z:=l n h
     ⟨O (λx=>Y x _) z.1,z.2.elim λk e=>⟨.tuple k,O (λx=>Y x _) e⟩⟩
 ·intro d d;exact @λ_ h=>az h
 ·intro d;exact @λ_ h=>az h
 ·exact @λn _=>⟨A,⟨_,A⟩⟩
 ·intro x q i j;exact @λn h=>V h λf b=>have z:=i n f
   have c:=j n b
   ⟨HE z.1 c.1,z.2.elim λk e=>c.2.elim λm g=>⟨k::m,HE e g⟩⟩
theorem oh(a):∀v n,cH v n=D->gt (it a v) n=cp a v/\∃k,cp a v=B k:=(Ef _).1
theorem EC(a):∀v n,hJ v n=D->f' (hg a v) n=pU a v/\∃k,pU a v=B k:=(Ef _).2
section
variable{o:Type}{l:bg o}
abbrev Mb(l:bg o)(h)(x)(v:Value):=(∃a,Reads h v (it l.e x) a)/\(it l.e x).canLay0=D
section
variable(b:aH l){g:aM}{c:S o}{h:Heap}(a:ay l g c h)
include b a
mutual
theorem oA:∀x d,cH x d=D->∀v,ao l.e g x v->Mb l h x v
 |.c j,d,_,v,w=>C w ⟨⟨[],.bool j⟩,A⟩
 |.a z,d,_,v,w=>w.elim λt w=>C w ⟨⟨[],.int _ t⟩,A⟩
 |.e k,d,_,v,w=>w.elim λt w=>C w ⟨⟨[],.str _ t⟩,b.7 k⟩
 |.d m,0,e,v,w=>az e
 |.d m,d+1,e,v,w=>aq w λi r w=>w.1▸(a.3 i r w.2.1).elim λQ z=>z.2.2.elim λk L=>have q:=vV m d e r w.2.2
  ⟨q.1.elim λf q=>⟨f,.tuple z.1 z.2.1 L q⟩,q.2⟩
 |.f,_,e,_,_=>az e
 |.g,_,e,_,_=>az e
 |.h _,_,e,_,_=>az e
 |.b _,_,e,_,_=>az e
termination_by structural x=>x
theorem vV:∀x d,hJ x d=D->∀v,aE l.e g x v->(∃f,ReadsAll h v (hg l.e x) f)/\LN (hg l.e x)=D
 |[],d,_,v,w=>w▸⟨⟨[],.nil⟩,A⟩
 |x::J,d,e,v,w=>V e λu y=>w.b (P:=λv=>(∃f,ReadsAll h v _ f)/\LN _=D) λE F G H=>
  have i:=oA x d u E G;have j:=vV J d y F H
  ⟨i.1.elim λf K=>j.1.elim λP z=>⟨_,.cons K z⟩,ho.mpr ⟨i.2,j.2⟩⟩
termination_by structural x=>x
end
end
theorem OD(g:aH l)(h:eL l.a.b a k=B r)(d:cH a 6=D)(e:cH k 6=D):r=D↔cp l.e a=cp l.e k:=
 have z:=oh l.e a 6 d;have c:=oh l.e k 6 e
 z.2.elim λi f=>c.2.elim λj b=>by exact J (vh g a k r h) (C f (C b ((Et _ _ 6 6 i j (z.1.trans f) (c.1.trans b)).trans ⟨O B,R⟩)))
inductive ij(l:bg o)(g)(e:E×E)(d:DictEntry) where
 |mk (a:∃k,cp l.e e.1=B k/\d.hash=hN l.b k)
  (r:ao l.e g e.1 d.key)
  (b:ao l.e g e.2 d.val)
section
variable{q:aM}
theorem cm.b{P:List _->Prop}(v:cm l q (r::u) t)(y:∀x w,ij l q r x->cm l q u w->P (x::w)):P t:=
 gR v λE F C z w v=>v.1▸y _ _ ⟨(ag z v.2.1 v.2.2.1),v.2.2.2.1,v.2.2.2.2.1⟩ v.2.2.2.2.2
theorem cm.d(w:ij l q u t)(y:cm l q v r):cm l q (u::v) (t::r):=w.1.elim λz x=>(mm _ _ _ z r (jx A x.1 x.2 w.2 w.3 y))
theorem cm.f{P:List _->Prop}(t:cm l q [] r)(u:P []):P r:=t.symm▸u
theorem cm.i(t:cm l q [] r):r=[]:=t
theorem cm.c:∀{w}{t},cm l q w t->∀{x:Nat}{u},w[x]?=B u->∃r,t[x]?=B r/\ij l q u r:=λ{w}=>by
 induction w with
 |nil=>exact @λz z z z v=>X v
 |cons J H F=>exact @λt y G=>by cases G with|zero=>exact @λu v=>y.b (P:=λt=>∃r,t[0]?=B r/\ij l q u r) λr z C z=>(ag r A (R v▸C))|succ x=>exact @λu v=>y.b (P:=λt=>∃r,t[x+1]?=B r/\ij l q u r) λz z z E=>F E v
theorem cm.h:∀{u}{r},cm l q u r->r.length=u.length
 |[],_,t=>O _ t.i
 |x::w,_,t=>t.b (P:=λr=>r.length=w.length+1) λz z z v=>O _ v.h
theorem cm.a:∀{v}{w},cm l q v w->∀t∈w,∃u∈v,ij l q u t:=λ{v}=>by
 induction v with|nil=>exact @λH x t r=>ak (x.i▸r) cI|cons y G F=>exact @λH x t r=>x.b (P:=λw=>t∈w->∃u∈y::G,ij l q u t) (λJ K C E r=>(cB.mp r).elim (λu=>(ag y bn (u▸C))) λr=>(F E t r).imp λu z=>⟨bT _ z.1,z.2⟩) r
theorem ij.c(a:ij l q e d)(h:ao l.e q v x):ij l q (e.1,v) {d with val:=x}:=⟨a.1,a.2,h⟩
theorem cm.j(F:ao l.e q v x):∀{E}{t},cm l q E t->∀r,cm l q (E.modify r λz=>(z.1,v)) (t.modify r λz=>{z with val:=x})
 |[],_,u,r=>u.i▸(by cases r<;>rfl)
 |H::G,_,u,0=>u.b (P:=λt=>cm l q _ (t.modify 0 _)) λC C w y=>.d (w.c F) y
 |H::G,_,u,r+1=>u.b (P:=λt=>cm l q (H::G.modify r _) (t.modify _ _)) λC C w y=>.d w (y.j F r)
theorem cm.g(x:ij l q t r):∀{v}{u},cm l q v u->cm l q (v++[t]) (u++[r]):=λ{v}=>by
 induction v with|nil=>exact @λu w=>w.f (P:=λu=>cm l q [t] (u++[r])) (.d x (Eq.refl _))|cons G F E=>exact @λz w=>w.b (P:=λu=>cm l q (G::(F++[t])) (u++[r])) λz z y C=>.d y (E C)
theorem cm.m:∀{u}{r},cm l q u r->∀t,cm l q (u.eraseIdx t) (r.eraseIdx t):=λ{u}=>by
 induction u with
 |nil=>exact @λz v t=>v.i▸A
 |cons F C y=>exact @λz v E=>by cases E with|zero=>exact v.b (P:=λr=>cm l q C (r.eraseIdx 0)) λz z z w=>w|succ t=>exact v.b (P:=λr=>cm l q _ (r.eraseIdx _)) λz z x w=>.d x (y w t)
end
theorem Aj{v}:∀{a:List (E×E)}{j},e∈a.modify j (λe=>(e.1,v))->∃b∈a,e.1=b.1:=λ{a}=>by
 induction a with
 |nil=>exact @λj h=>ak h (by cases j<;>exact cI)
 |cons x r i=>exact @λc=>by cases c with|zero=>exactλh=>(cB.mp h).elim (λz=>(ag x bn (C z A))) λh=>(ag e (bT _ h) A)|succ j=>exactλh=>(cB.mp (show e∈x::r.modify j _ from h)).elim (λz=>(ag x bn (O _ z))) λh=>(i h).imp λb z=>⟨bT _ z.1,z.2⟩
theorem Ta{c:Type}(f:E->c):∀(a:List (E×E)) j,(a.modify j (λe=>(e.1,v))).map (λe=>f e.1)=a.map λe=>f e.1:=λa=>by
 induction a with
 |nil=>exactλj=>by cases j<;>rfl
 |cons x r i=>exactλb=>by cases b with|zero=>exact A|succ j=>exact O (f x.1::·) (i j)
section
variable{c:gZ}{e:List (E×E)}
theorem fm.j(f:fm c e)(q)(v):fm c (e.modify q λd=>(d.1,v)):=
 ⟨(λd i t r=>(Aj i).elim λx h=>(Aj r).elim λy k=>C h.2 (k.2▸f.1 x h.1 y k.1)),
  (λd i=>(Aj i).elim λx h=>C h.2 (f.2 x h.1)),
  (Ta _ e q).symm▸f.3⟩
inductive rW(k)(e:List (E×E)) where
 |mk (h:cH k 6=D)
  (d:bN k≠0)
  (b:∀a r,e=a::r->bN a.1=bN k)
theorem wH(h:fb k e=D):rW k e:=V h λh z=>V h λh f=>V h λb d=>⟨b,λa=>ck ((cb.mpr a).symm.trans (cq d)),λa r q=>by subst q;exact cb.mp f⟩
theorem fm.a(f:fm c e){k}(i:rW k e):∀d∈e,bN d.1=bN k:=λd h=>by cases e with|nil=>exact ak h cI|cons x r=>exact(f.1 d h x bn).trans (i.3 x r A)
theorem Hf{f:Type}{b}{a x}{P:f->Prop}(h:x∈b++[a])(k:x∈b->P x)(d:P a):P x:=(hq.mp h).elim k λh=>fR.mp h▸d
theorem fm.g(h:fm c e)(i:rW k e)(C)(v:∀d∈e,cp c d.1≠cp c k):fm c (e++[(k,C)]):=
 ⟨(λd f q u=>have z:=λx w=>Hf (P:=λx:E×E=>bN x.1=bN k) w (h.a i x) A
  (z d f).trans (z q u).symm),
  (λd f=>Hf (P:=λx=>cH x.1 6=D/\bN x.1≠0) f (h.2 d) ⟨i.1,i.2⟩),
  (by
  rw[rE,List.nodup_append]
  exact(aK h.3 (fF.mpr ⟨cI,mr⟩) (λF r G t y=>(hr.mp r).elim λd z=>v d z.1 (z.2.trans (y.trans (fR.mp t))))))⟩
theorem fm.m(h:fm c e)(i):fm c (e.eraseIdx i):=
 ⟨(λd f k q=>h.1 d (Lt f) k (Lt q)),
  (λd f=>h.2 d (Lt f)),
  h.3.sublist ((List.eraseIdx_sublist e i).map _)⟩
theorem fm.b(q:fm c e){i f:Nat}{x y}(h:e[i]?=B x)(r:e[f]?=B y)(k:cp c x.1=cp c y.1):i=f:=
 have d:∀{i}{x},e[i]?=B x->(e.map _)[i]?=B _:=λh=>jA.trans (O _ h)
 (P3 (xY.mp (d h)).1 q.3).mp ((d h).trans (k▸(d r).symm))
end
inductive eI(a)(k)(b:List (E×E))(j:Nat)(e) where
 |mk (c:b[j]?=B e)
  (d:cp a e.1=cp a k)
abbrev fU(a)(k)(b:List (E×E)):=∀e∈b,cp a e.1≠cp a k
theorem eI.c(h:eI d k f j e):eI d k (x::f) (j+1) e:=⟨h.1,h.2⟩
theorem fU.d(b:cp a x.1≠cp a k)(h:fU a k e):fU a k (x::e):=λc f=>(cB.mp f).elim (λz=>z▸b) (h c)
def rT(a)(k)(b:List _)(P:Nat->E×E->Prop)(Q):=(∃j e,eI a k b j e/\P j e)∨(fU a k b/\Q)
theorem zI(i:aH l)(q:cH k 6=D){d}{C}{g y}{r:C}(f:∀c∈d::e,cH c.1 6=D)
  (h:(Y (eL l.a.b d.1 k) λt=>a' g y t)=B r) (v:y=B r->a 0 d) (u:g=B r->(∀c∈e,cH c.1 6=D)->rT l.e k e (λj c=>a (j+1) c) b):rT l.e k (d::e) a b:=
 aj h λt c h=>have z:=OD i c (f _ bn) q
  match t,z,h with|true,z,h=>.inl (dE 0 d ⟨A,z.mp A⟩ (v h))|false,z,h=>(u h λc m=>f c (bT _ m)).imp (λx=>aq x λj c x=>(dE _ c x.1.c x.2)) λx=>⟨x.1.d λw=>az (z.mpr w),x.2⟩
theorem ww:fU a k []:=λz h=>ak h cI
theorem yY(g:aH l)(c:cH k 6=D):∀{e}{r},(∀a∈e,cH a.1 6=D)->ch l.a.b k e=B r->rT l.e k e (λz a=>r=dZ a.2) (r=.none):=λ{e}=>by
 induction e with|nil=>exact @λr z h=>.inr ⟨ww,(R h).symm⟩|cons d e i=>exact @λr b h=>zI g c b h (λh=>(R h).symm) λh b=>i b h
theorem Oq(g:aH l)(f:cH k 6=D):∀{e b},(∀a∈e,cH a.1 6=D)->hH l.a.b k v e=B b->rT l.e k e (λj z=>b=e.modify j λa=>(a.1,v)) (b=e++[(k,v)]):=λ{e}=>by
 induction e with
 |nil=>exact @λr z h=>.inr ⟨ww,(R h).symm⟩
 |cons q e i=>
  exact @λr c h=>zI g f c h (λh=>(R h).symm) λh c=>aj h λm d h=>R h▸
    (i c d).imp (λx=>aq x λj a x=>(dE j a x.1 (O _ x.2))) λx=>⟨x.1,O _ x.2⟩
theorem Oe(g:aH l)(f:cH k 6=D):∀{e b},(∀a∈e,cH a.1 6=D)->kJ l.a.b k e=B b->rT l.e k e (λj z=>b=e.eraseIdx j) (b=e):=λ{e}=>by
 induction e with
 |nil=>exact @λr z h=>.inr ⟨ww,(R h).symm⟩
 |cons q e i=>
  exact @λr c h=>zI g f c h (λh=>(R h).symm) λh c=>aj h λm d h=>R h▸
    (i c d).imp (λx=>aq x λj a x=>(dE j a x.1 (O _ x.2))) λx=>⟨x.1,O _ x.2⟩
variable{n:Around}{p:Value->Shared->Prop}{s:Shared}
theorem PU{c:Array _}(f:cm l g e c.toList){P:Option Nat->Prop}(v:fU l.e k e->P N)(w:∀j b,eI l.e k e j b->P (B j))(m:∀b∈e,∀d,ij l g b d->(a d=D↔cp l.e b.1=cp l.e k)):P (c.findIdx? a):=by cases q:c.findIdx? a with|none=>exact v λb h r=>(Ls.mp h).elim λj u=>(f.c u).elim λd z=>az ((Array.findIdx?_eq_none_iff.mp q d (KU.mp (fE z.1))).symm.trans ((m b h d z.2).mpr r))|some j=>obtain⟨i,t,_⟩:=L2.mp q;have h:=Ll (J f.h i);exact w j _ ⟨h,(f.c h).elim λd z=>(m _ (fE h) d z.2).mp (R ((gW.symm.trans z.1).symm.trans (xP i))▸t)⟩
theorem Ff{K} [DecidableEq K]{t:KeyKind l.c l.b K}{m:K->PyData}(T:∀f j,m f=m j->f=j)(F:∀f,hN l.b (m f)=t.hash f)
  (v:∀x u,bN x=c->ao l.e g x u->∃f,cp l.e x=B (m f)/\t.is f u=D) {P} (X:s.heap.get? d=B (sB b P)) (G:cm l g e b.toList) {k} (V:ao l.e g k u) (w:bN k=c) (H:∀h∈e,bN h.1=bN k) {y} (U:cp l.e k=B y) (W:fU l.e k e->a N s) (Y:∀J h,eI l.e k e J h->a (B J) s):wpAny (model l.c l.b) n (dictFind d u (hN l.b y)) a p s:=
 (v k u w V).elim λf r=>by
  cases U.symm.trans r.1;exact C (F f) (wpAny_dictFind_of (knd:=t) (k:=f) r.2 X A (λq Q=>(G.a q (KU.mpr Q)).elim λh z=>(v h.1 q.key ((H h z.1).trans w) z.2.2).elim λj i=>(ag j i.2 (z.2.1.elim λy L=>L.2.trans ((O _ (R (L.1.symm.trans i.1))).trans (F j)))))
   (PU (P:=λZ=>a Z s) G W Y λh S q z=>(v h.1 q.key ((H h S).trans w) z.2).elim λj i=>⟨λE=>i.1.trans ((O (λx=>B (m x)) (t.inj _ _ _ i.2 E)).trans r.1.symm),λE=>T _ _ (R (i.1.symm.trans (E.trans r.1)))▸i.2⟩))
theorem RN{P:Prop}(k)(h:bN k≠0)(a:bN k=1->P)(b:bN k=2->P)(c:bN k=3->P):P:=by cases k<;>first|exact absurd rfl h|exact a rfl|exact b rfl|exact c rfl
theorem P'(x)(u)(h:bN x=1)(r:ao l.e g x u):∃a,cp l.e x=B (.int a)/\(intKind l.c l.b).is a u=D:=by cases x with|a z=>exact r.elim λt r=>(ag _ A (r▸beq_self_eq_true _))|_=>exact az (cb.mpr h)
theorem Qa(x)(u)(h:bN x=2)(r:ao l.e g x u):∃a,cp l.e x=B (.str a)/\(strKind l.c l.b).is a u=D:=by cases x with|e z=>exact r.elim λt r=>(ag _ A (r▸strKind_is _ _ _ _))|_=>exact az (cb.mpr h)
theorem Gr(e:aH l)(d:ay l g a h)(x)(u)(f:bN x=3)(c:cH x 6=D)(r:ao l.e g x u){k}(i:cp l.e x=B k):∃b,u=.ref b/\ym h k b:=by cases x with|d j=>have z:=oA e d _ 6 c u r;exact aq r λb v r=>(ag b r.1 (bi _ (J r.1 z.1) z.2 ((oh l.e _ 6 c).1.trans i)))|_=>exact az (cb.mpr f)
theorem Og{d:DictEntry}(h:d.hash=i)(k:d.key=u):d=⟨i,u,d.val⟩:=J h (k▸A)
inductive Di(l:bg o)(h)(b:List (E×E))(q)(a:List _) where
 |mk (q:q=a.map (letI:=CA PyData;entryOfKey (Gp l.c l.b)))
  (i:∀x∈a,ym h x.1 x.2.1)
  (k:b.map (λe=>cp l.e e.1)=a.map λx=>B x.1)
theorem cm.k(T:aH l)(L:ay l r t q):∀{v}{y},cm l r v y->(∀u∈v,bN u.1=3/\cH u.1 6=D)->∃w,Di l q v y w:=λ{v}=>by
 induction v with
 |nil=>exact @λF x F=>C x.i ⟨[],A,λF q=>ak q cI,A⟩
 |cons u Z W=>
  exact @λF x H=>x.b (P:=λy=>∃w,Di l q _ y w) λS Y G Q=>have K:=H _ bn
   (W Q λu U=>H u (bT _ U)).elim λw E=>G.1.elim λX z=>(Gr T L u.1 _ K.1 K.2 G.2 z.1).elim λP J=>⟨(X,P,S.val)::w,Lh.mpr ⟨Og z.2 J.1,E.1⟩,λx V=>(cB.mp V).elim (λu=>C u J.2) (E.2 x),Lh.mpr ⟨z.1,E.3⟩⟩
theorem Oo(S:aH l)(a0:n.units+10<cLine)(P:ay l g h s.heap)
  (F:s.heap.get? d=B (sB b f)) (H:cm l g e b.toList) (w:fm l.e e) (x:ao l.e g k u) (G:rW k e) (q:cp l.e k=B c) (E:fU l.e k e->a N s) (K:∀j m,eI l.e k e j m->a (B j) s):
  wpAny (model l.c l.b) n (dictFind d u (hN l.b c)) a p s:=
 have J:=w.a G
 RN k G.2 (λt=>Ff (m:=.int) (λr r=>V2) (λr=>A) P' F H x t J q E K)
  (λt=>Ff (m:=.str) (λr r=>Da) (λr=>A) Qa F H x t J q E K)
  λT=>(Gr S P k u T G.1 x q).elim λa4 V=>(H.k S P λm i=>⟨(J m i).trans T,(w.2 m i).1⟩).elim λa3 y=>
   have Q:=λj=>jA.symm.trans (C y.3 jA)
   letI:=CA PyData
   C V.1 (wpAny_dictFind_heap (knd:=Gp _ l.b) a0 V.2 F A y.1 y.2 (by
     have U:=w.3;rw[y.3,Q3,Lu]at U;rw[Q3,Lu]
     exact U.imp λW a1=>W (O B a1)))
    (λZ=>E λm i Y=>(Ls.mp i).elim λj v=>by
     have z:=Q j;rw[v]at z;cases L:a3[j]? with
     |none=>rw[L]at z;exact X z.symm
     |some a2=>rw[L]at z;exact Z j a2.2 (L.trans (O B (LB (R ((R z).symm.trans (Y.trans q))) A))))
    λj a5 v=>by have z:=Q j;rw[v]at z;cases i:e[j]? with|none=>rw[i]at z;exact X z|some m=>rw[i]at z;exact K j m ⟨i,(R z).trans q.symm⟩
theorem RI(e:aH l)(j:n.units+10<cLine){g}{m}(c:ay l g m s.heap){k}{u}(i:ao l.e g k u)(h:cH k 6=D){b}(f:cp l.e k=B b)(q:∀t,a (hN l.b b) {s with toks:=t}):wpAny (model l.c l.b) n (pyHash u) a p s:=
 (oA e c _ 6 h u i).1.elim λd r=>Ik _ 6 b u d ((oh l.e _ 6 h).1.trans f) r n s a A (dA (dT (by decide) _) j) (q _)
end
section
variable{a3:Type}{r:bg a3}{z:Around}{a1:Value->Shared->Prop}{v:Shared}
inductive fH(r:bg a3)(u)(h:Heap)(t)(s)(x)(w) where
 |mk (c:h.get? t=B (sB x w))
  (d:cm r u s x.toList)
  (a:fm r.e s)
  (b:s.length<=ef)
theorem ay.b(F:ay r u a2 a5)(G:r.a.a a2.b a4=.b s w)(H:u.a a4 I=B t){P:Prop}(y:∀x,u.a a4 D=N->fH r u a5 t s x w->P):P:=
 have E:ey r u a5 t _ (.b s w):=J G ((F.2 a4).c H)
 E.2.elim λx C=>y x E.1 ⟨C.1,C.2.1,C.2.2.1,C.2.2.2⟩
variable{u:aM}{t:Addr}{s:List (E×E)}{x:Array DictEntry}{w:Nat}
theorem fH.o(c:fH r u h t s x w)(d:u.a n I=B t)(f:u.a n D=N):ec r u h n (.b s w):=.inr (dR t N d f A (fQ x c.1 c.2 c.3 c.4))
theorem fH.b(c:fH r u h t s x w):x.size=s.length:=c.2.h
theorem fH.e(c:fH r u h t s x w):x.size<=sizeLine:=c.b▸lN c.4
theorem fH.a(c:fH r u v.heap t s x w):v.TypeIs (.ref t) "dict":=(ag _ c.1 A)
theorem ay.i(C:ay r u a2 a6)(F:u.a a5 a4=B t):(t==sysModules)=I:=beq_eq_false_iff_ne.mpr λE=>C.1.3 a5 a4 (J E F)
inductive rM(r)(u)(a2:S a3)(h)(t)(s)(x)(w)(y)(a0) where
 |mk (g:aH r)
  (b:ay r u a2 h)
  (a:fH r u h t s x w)
  (k:ao r.e u y a0)
  (o:rW y s)
variable{a2:S a3}{y:E}{a0:Value}(q:rM r u a2 v.heap t s x w y a0)
include q
theorem rM.b{P:Prop}(c:∀k,cp r.e y=B k->P):P:=(oh r.e y 6 q.5.1).2.elim c
theorem rM.a:∀e∈s,cH e.1 6=D:=λe h=>(q.3.3.2 e h).1
theorem qo(a:z.units+20<cLine)(h:n<=19):z.in1.units+n<cLine:=dA (by rw[gX];exact dT (by rw[kr];exact fk h) _) a
theorem zt(l:z.units+10<cLine)(f:cp r.e y=B k)(g:fU r.e y s->b N {v with toks:=a})
  (i:∀j e,eI r.e y s j e->∀d,x[j]?=B d->ij r u e d->b (B j) {v with toks:=a}):wpAny (model r.c r.b) z (dictFind t a0 (hN r.b k)) b a1 {v with toks:=a}:=
 Oo (s:={v with toks:=a}) q.1 l q.2 q.3.1 q.3.2 q.3.3 q.4 q.5 f g λj e h=>(q.3.2.c h.1).elim λd c=>i j e h d (gW.symm.trans c.1) c.2
theorem zG(b:z.units+10<cLine)(h:cp r.e y=B k)(c:∀d,a (hN r.b k) {v with toks:=d}):wpAny (model r.c r.b) z (pyHash a0) a a1 v:=RI q.1 b q.2 q.4 q.5.1 h c
theorem yZ(c:z.units+10<cLine)(k:fU r.e y s->∀b,a N {v with toks:=b})
  (l:∀j e,eI r.e y s j e->∀d,ao r.e u e.2 d->∀b,a (B d) {v with toks:=b}):wpAny (model r.c r.b) z (dictGet t a0) a a1 v:=q.b λo h=>by
 unfold dictGet
 try with_reducible refine wpAny_holding ?_
 refine wpAny_bind (zG q c h λb=>?_);exact wpAny_bind (zt q c h (λi=>wpAny_pure (k i b)) λj e g n f m=>(wpAny_bind (wpAny_dictEntries q.3.1 A (C f (wpAny_pure (l j e g _ m.3 b))))))
theorem QA(g:z.units+20<cLine)(h:eI r.e y s j e)(k:∀b d,ao r.e u e.2 b->a b {v with toks:=d}):wpAny (model r.c r.b) z (getItem (.ref t) a0) a a1 v:=by
 unfold getItem
 try with_reducible refine wpAny_holding ?_
 refine wpAny_bind (wpAny_sequenceKey q.3.a A ?_);refine wpAny_bind (wpAny_callSpecial?_slot q.3.a slot_dict_getitem (wpAny_call_entry slot_dict_getitem q.3.a entry_dict_getitem ?_ (args_dict_getitem _ _)));show wpAny _ _ (dictGet t a0>>=_) _ _ v
 refine wpAny_bind (yZ q (qo q g (by decide)) (λf=>ak h.2 (f e (fE h.1))) λm l c b i d=>?_);have:=R (c.1.symm.trans (J (q.3.3.b h.1 c.1 (h.2.trans c.2.symm)) h.1));exact wpAny_pure (ag b A (wpAny_pure (k b d (J this i))))
theorem NZ(l:z.units+20<cLine)(g:(t==sysModules)=I)(h:fU r.e y s->b=I)(f:∀j e,eI r.e y s j e->b=D)(d:∀c,a b {v with toks:=c}):wpAny (model r.c r.b) z (contains (.ref t) a0) a a1 v:=by
 unfold contains
 try with_reducible refine wpAny_holding ?_
 refine wpAny_bind (wpAny_specialOf q.3.a slot_dict_contains.lookup ?_);refine wpAny_bind (wpAny_callSpecialUnlessNone?_slot q.3.a slot_dict_contains (wpAny_call_entry slot_dict_contains q.3.a entry_dict_contains ?_ (args_dict_contains _ _)));show wpAny _ _ (dictGet t a0>>=_) _ _ v
 exact wpAny_bind (yZ q (qo q l (by decide)) (λk c=>(wpAny_bind (wpAny_pendingKey_other g (wpAny_pure (ag _ A (wpAny_truthy_bool (h k▸d c))))))) λj e i n m c=>(wpAny_pure (ag _ A (wpAny_truthy_bool (f j e i▸d c)))))
theorem Sk{w}:w+1=(bif M (s++[e]).length s.length then w else w+1):=by exact C dr (C (oF (by exact py _)) A)
theorem Sj{j w}:w=(bif M (s.modify j λe=>(e.1,a)).length s.length then w else w+1):=by rw[P8,gj];rfl
theorem Xi(l:z.units+20<cLine){d}(m:ao r.e u d a){f}(G:hH r.a.b y d s=B f)(F:s.length<ef){Q}
  (o:∀g c E,kt t v.heap g->fH r u g t f E (bif M f.length s.length then w else w+1)->Q () {v with heap:=g,toks:=c}):wpAny (model r.c r.b) z (setItem (.ref t) a0 a) Q a1 v:=q.b λn i=>by
 have p:=Oq q.1 q.5.1 q.a G;unfold setItem
 try with_reducible refine wpAny_holding ?_
 refine wpAny_bind (wpAny_sequenceKey q.3.a A ?_);refine wpAny_bind (wpAny_callSpecial?_slot q.3.a slot_dict_setitem (wpAny_call_entry slot_dict_setitem q.3.a entry_dict_setitem ?_ (args_dict_setitem _ _ _)));refine wpAny_bind (wpAny_notOrdered_dict q.3.a ?_);show wpAny _ _ (dictSet t a0 a>>=_) _ _ v
 refine wpAny_bind ?_;unfold dictSet
 try with_reducible refine wpAny_holding ?_
 refine wpAny_bind (zG q (qo q l (by decide)) i λc=>?_);unfold dictSetHashed
 try with_reducible refine wpAny_holding ?_
 exact wpAny_bind (zt q (qo q l (by decide)) i (λk=>(p.elim (λb=>aq b λH e b=>ak b.1.2 (k e (fE b.1.1))) λb=>wpAny_bind (wpAny_rule (wpAny_updateDictKeys (hz:=q.3.e) q.3.1 A (wpAny_pure (ag _ A (wpAny_pure (o _ c (x.push ⟨hN r.b n,a0,a⟩) (pA ..) (b.2▸Sk q▸
    ⟨rL _ q.3.1 A,by exact C Cy (q.3.2.g ⟨(ag n i A),q.4,m⟩),q.3.3.g q.5 d k,by exact C dr F⟩))))))))) λH e h K P S=>(p.elim (λb=>aq b λj L b=>by
   exact J (q.3.3.b b.1.1 h.1 (b.1.2.trans h.2.symm)) (wpAny_bind (wpAny_rule (wpAny_bind (wpAny_updateDict (s:={v with toks:=c}) q.3.1 A (wpAny_point (wpAny_pure (ag .none A (wpAny_pure (o _ c (x.modify j λe=>{e with val:=a}) (pA ..) (b.2▸Sj q▸
    ⟨rL _ q.3.1 A,by exact C Array.toList_modify (q.3.2.j m j),q.3.3.j j d,by rw[P8];exact q.3.4⟩))))))))))
   ) λb=>ak h.2 (b.1 e (fE h.1))))
theorem ZS(f:z.units+10<cLine)(n:fU r.e y s->∀b,a N {v with toks:=b})
  (o:∀j e,eI r.e y s j e->∀d h b g,ao r.e u e.2 d.val->kt t v.heap h->fH r u h t (s.eraseIdx j) g (w+1)->a (B d) {v with heap:=h,toks:=b}):
  wpAny (model r.c r.b) z (LD t a0) a a1 v:=q.b λE c=>by
 unfold LD
 try with_reducible refine wpAny_holding ?_
 refine wpAny_bind (zG q f c λb=>?_);refine wpAny_bind (zt q f c (λm=>wpAny_pure (n m b)) λj e k d i p=>?_);refine wpAny_bind (wpAny_dictEntries q.3.1 A ?_);refine C i ?_;have l:(x.eraseIdxIfInBounds j).toList=x.toList.eraseIdx j:=by simp
 exact wpAny_bind (wpAny_updateDictKeys (hz:=q.3.e) q.3.1 A (wpAny_pure (o j e k d _ b (x.eraseIdxIfInBounds j) p.3 (pA ..)
  ⟨rL _ q.3.1 A,C l (q.3.2.m j),q.3.3.m j,aV (List.length_eraseIdx_le s j) q.3.4⟩)))
end
section
variable{s:Type}{r:bg s}
abbrev pL(r:bg s)(e)(n)(b)(a:Shared)(l)(c)(v)(Q:Value->Shared->Prop):=
 ∀g h t u,bk e.locals b a.heap g h->ay r g c h->aT r e n g h l->ao r.e g v u->Q u {a with heap:=h,toks:=t}
theorem aE.j{t}{w}{P:List _->Prop}(C:aE t w [x] v)(E:∀u,ao t w x u->P [u]):P v:=C.b λu F y z=>z.i▸E u y
theorem aE.f{v}{P:List _->Prop}(w:aE t u [] v)(x:P []):P v:=C w x
theorem aE.a:∀{C}{w}{y:Nat}{F},aE t u C w->C[y]?=B F->∃v,w[y]?=B v/\ao t u F v:=λ{C}=>by
 induction C with
 |nil=>exact @λz z z z x=>X x
 |cons _ _ K=>exact @λz L=>by cases L with|zero=>exact @λz E x=>E.b (P:=λw=>∃v,w[0]?=B v/\ao t u _ v) λv z G z=>(ag v A (J (R x) G))|succ y=>exact @λz E x=>E.b (P:=λw=>∃v,w[y+1]?=B v/\ao t u _ v) λz z z H=>K H (y:=y) x
theorem aE.m:∀{w}{v},aE t u w v->∀y,aE t u (w.eraseIdx y) (v.eraseIdx y):=λ{w}=>by
 induction w with
 |nil=>exact @λz x z=>x.f (P:=λv=>aE t u [] (v.eraseIdx _)) A
 |cons K w F=>exact @λz x H=>by cases H with|zero=>exact x.b (P:=λv=>aE t u _ (v.eraseIdx 0)) λz z z C=>C|succ y=>exact x.b (P:=λv=>aE t u _ (v.eraseIdx _)) λG J E C=>(an G _ A E (F C y))
section
variable{x:Env}{a0:Nat->Option Str}{q:aM}{y a1:S s}{u v:Heap}{z:aC}{t:af}{w:Addr}
theorem uX(d:ay r q y u)(F:aT r x a0 q u z)(e:q.a t b=B w)(g:r.a.e t=D)(f:t.a=D)(h:kt w u v)(i:ec r q v t o){P:Prop}
  (a:ay r q ⟨r.a.d y.b t o,k⟩ v->bk x.locals q u q v->aT r x a0 q v z->P):P:=
 have c:=d.o e g f h i;have T:=c.p e h
 a c T (F.a T λl a=>(h.2 _ λj=>F.2 t b (e.trans (O B j.symm))).trans a)
theorem xv(j:kj r.a t o b y=B (a,a1))(c:ay r q y u)(F:aT r x a0 q u z)(e:q.a t I=B w)(g:kt w u v)(m:ec r q v t o){P:Prop}
  (l:b=a->ay r q a1 v->bk x.locals q u q v->aT r x a0 q v z->P):P:=D8 j λi h k f=>uX c F e k h g m λd=>l i (J f d)
theorem ay.m(C:ay r q y u)(F:r.a.a y.b t=.a a2)(E:q.a t I=B w):q.a t D=N:=(show ey r q u w _ (.a a2) from J F ((C.2 t).c E)).1
theorem AV(h:q.a t I=B w)(d:q.a t D=N){b}{i}(e:u.get? w=B (et b i))(f:aE r.e q a b.toList)(c:a.length<=ef):ec r q u t (.a a):=.inr (dR w N h d A (an b i e f c))
end
def rN(r:bg s)(h j)(f)(d)(v)(i):=∀b E a g e n l c u Q,
 b.units+30<cLine->ay r g h a.heap->aT r e n g a.heap l->g.a f I=B c->aE r.e g d u->pL r e n g a l j v Q->wpAny (model r.c r.b) b (call (.builtin i) (.ref c::u)) Q E a
section
variable{b d:S s}{a:af}{c:List E}{v:E}
theorem ME(p:r.a.a b.b a=.a x)(h:tl r.a a x c b=B (v,d))(w:aH r):rN r b d a c v "list.append":=λj E U i X a1 a0 W u Q Y f F e H S=>aj h λV m h=>aY h λG h=>f.a p e λa3 P n o t q=>(show aE r.e i [V] u from J (wK m) H).j (P:=λu=>wpAny _ j (call _ _) Q E U) λa2 z=>wpAny_list_append_plain (hsz:=C t (lN q)) ⟨P,n⟩ λy g K=>g.elim λZ g=>xv h f F e K (AV e (f.m p e) g (C Cy (o.n (aE.k z))) (C dr (w.e (bH G)))) λL l T k=>S i y _ _ T l k (J L A)
theorem SN(p:r.a.a b.b a=.a x)(h:wp r.a a x c b=B (v,d)):rN r b d a c v "list.pop":=λq E P n U X W k u Q V f F e z L=>aY h λy h=>aj h λY K h=>aY h λZ h=>f.a p e λj H g l i m=>(show aE r.e n [] u from J (ej.mp y) z).f (P:=λu=>wpAny _ q (call _ _) Q E P)
  ((l.a (List.getLast?_eq_getElem?.symm.trans K)).elim λS o=>call_meets U2 (ag _ g A) PySem.F.entry_list_pop (PySem.F.args_list_pop_1 _) (Z6 k j H S (gW.symm.trans (C i o.1)) (hs1:=C i (lN m))) ⟨g,
   xv h f F e (pA _ k _) (AV e (f.m p e) (rL _ g A) (J List.eraseIdx_length_sub_one (C i (C (show(j.eraseIdxIfInBounds _).toList=j.toList.eraseIdx _ from by simp) (l.m _)))) (C List.length_dropLast (aV (S2 _ _) m))) λG w T t=>L n _ _ _ T w t (J G o.2)⟩)
end
section
variable{c:Around}{f:Value->Shared->Prop}{a:Shared}{g:aM}{j:S s}{d:Addr}{e:List (E×E)}{i:Array DictEntry}{h:Nat}{k:E}{u:Value}(b:rM r g j a.heap d e i h k u)
include b
theorem Ox{J:Bool->Sem l}{Q}(q:∀n,(n=D->e=[])->wpAny (model r.c r.b) c (J n) Q f a):wpAny (model r.c r.b) c (if(keyPart u).isSome=D then(do let m ←pure I;J m)else do let x ←dictEntries d;let m ←pure x.isEmpty;J m) Q f a:=by
 split
 ·exact wpAny_bind (wpAny_pure (q _ az))
 ·exact wpAny_bind (wpAny_dictEntries b.3.1 A (wpAny_bind (wpAny_pure (q _ λo=>CR.mp (b.3.b.symm.trans (O _ (L5.mp o)))))))
theorem B4{J:Option _->Sem l}(E:c.units+10<cLine){m}(y:m=D->e=[]){Q}(v:fU r.e k e->∀t,wpAny (model r.c r.b) c (J N) Q f {a with toks:=t})
  (z:∀w q,eI r.e k e w q->∀p n t x,ao r.e g q.2 p.val->kt d a.heap n->fH r g n d (e.eraseIdx w) x (h+1)->wpAny (model r.c r.b) c (J (B p)) Q f {a with heap:=n,toks:=t}):
  wpAny (model r.c r.b) c (if m=D then(do rule "dict.pop.empty";let o ←pure N;J o)else(do let o ←LD d u;J o)) Q f a:=by
 cases m with|false=>exact wpAny_bind (ZS b E v z)|true=>exact wpAny_bind (wpAny_rule (wpAny_bind (wpAny_pure (v (C (y A) ww) _))))
theorem Gm(n)(m)(q:l (d,u,m) a):wpAny (model r.c r.b) c (Y6 n ⟨.ref d::u::m.toList,[]⟩) l f a:=by refine wpAny_bind (wpAny_notOrdered_dict b.3.a ?_);cases m<;>exact wpAny_pure q
theorem Er(J:c.units+30<cLine)(z:(d==sysModules)=I)(o)(H:m=o.toList)(F:fU r.e k e->∃x,o=B x/\∀t,l x {a with toks:=t})
  (K:∀q p,eI r.e k e q p->∀x n t v,ao r.e g p.2 x->kt d a.heap n->fH r g n d (e.eraseIdx q) v (h+1)->l x {a with heap:=n,toks:=t}):
  wpAny (model r.c r.b) c (call (.builtin "dict.pop") (.ref d::u::m)) l f a:=by
 subst H;exact wpAny_call_entry T9 b.3.a PySem.F.entry_dict_pop (wpAny_bind (Gm b "pop" o (Ox b λS y=>B4 b (qo b (dt (ht (by decide) _) J) (by decide)) y (λG t=>((F G).elim λx w=>C w.1 (wpAny_bind (wpAny_missedRemoval_other z (wpAny_bind (wpAny_rule (wpAny_pure (ag _ A (w.2 t))))))))) λq p E T n t v L P Q=>(wpAny_bind (wpAny_letGo (wpAny_pure (ag _ A (K q p E _ n t v L P Q)))))))) (by cases o;exact PySem.F.args_dict_pop_2 _ _;exact PySem.F.args_dict_pop_3 _ _ _)
theorem Ep(z:c.units+30<cLine)(o:(d==sysModules)=I)(q:fU r.e k e->∀t,l w {a with toks:=t})
  (C:∀n m,eI r.e k e n m->∀x t,ao r.e g m.2 x->l x {a with toks:=t}):wpAny (model r.c r.b) c (call (.builtin "dict.get") [.ref d,u,w]) l f a:=by
 exact wpAny_call_entry T6 b.3.a PySem.F.entry_dict_get (wpAny_bind (Gm b _ (B w) (wpAny_bind (yZ b (qo b (dt (ht (by decide) _) z) (by decide)) (λv t=>(wpAny_bind (wpAny_missed_other o (wpAny_pure (ag w A (q v t)))))) λn m p x y t=>wpAny_pure (ag x A (C n m p x t y)))))) (PySem.F.args_dict_get_3 _ _ _)
end
theorem eI.a{e}{j l}{g i}(m:fm d e)(h:eI d k e j g)(f:eI d k e l i):j=l/\g=i:=
 have w:=m.b h.1 f.1 (h.2.trans f.2.symm)
 ⟨w,R (h.1.symm.trans (C w f.1))⟩
theorem eI.b{P:Prop}(h:eI d k f j e)(m:fU d k f):P:=ak h.2 (m e (fE h.1))
theorem xp{x}(h:ao a g x u):dZ x=B x:=by cases x<;>first|rfl|exact h.elim
section
variable{l n:S s}{k:af}{m:List E}{v:E}
theorem EO(U:aH r){d}{T}(c9:r.a.a l.b k=.b d T)(h:qC r.a p k d T m l=B (v,n)):rN r l n k m v (bif p then "dict.pop" else "dict.get"):=λK L a0 g d9 e2 e1 P a Q E j a3 x q a9=>j.b c9 x λb5 c1 i=>by
  cases m with
  |nil=>exact X h
  |cons c7 b0=>
   refine q.b (P:=λa=>wpAny _ K (call _ _) Q L a0) λu a c4 y=>aj h λc8 q h=>aY q λc2 q=>?_
   have c:rM r g l _ P d b5 T c7 u:=⟨U,j,i,c4,wH c2⟩
   have b1:=yY U c.5.1 c.a q;have z:=j.i x;have a1:l=n->∀{u t},ao r.e g v u->Q u _:=λd u t d0=>a9 g _ t u (.b _ _ _) (J d j) a3 d0
   cases c8 with
   |none=>
    have a6:=b1.elim (λw=>aq w λZ e w=>(i.2.c w.1.1).elim λd7 d6=>X (w.2.trans (xp d6.2.3))) λw=>w.1
    refine aj h λS e F=>(show aE r.e g [S] a from J (wK e) y).j (P:=λa=>wpAny _ K (call _ (.ref P::u::a)) Q L a0) λw Y=>?_
    cases p with|false=>exact Ep c E z (λH t=>a1 (bo F) (J (aW F) Y)) λZ e b=>b.b a6|true=>exact Er c E z _ A (λH=>(ag w A (λt=>a1 (bo F) (J (aW F) Y)))) λZ e b=>b.b a6
   |some d2=>
    refine b1.elim (λw=>aq w λZ e w=>aY h λb9 h=>V b9 λc0 a5=>?_) λw=>X w.2.symm
    have a7:∀u,ao r.e g e.2 u->ao r.e g d2 u:=λu a4=>C (R (w.2.trans (xp a4))) a4
    cases p with
    |false=>
     cases b0 with
     |nil=>exact ak (cb.mp a5) (by decide)
     |cons S a2=>cases a2 with|cons=>exact ak (cb.mp a5) (by simp)|nil=>exact y.j (P:=λa=>wpAny _ K (call _ (.ref P::u::a)) Q L a0) λe3 Y=>Ep c E z (w.1.b) λa8 b6 b G t c6=>a1 (bo h) (J (aW h) (a7 G ((w.1.a i.3 b).2▸c6)))
    |true=>
     have W:=by
      cases b0 with
      |nil=>exact y.f (P:=λa=>∃o,a=o.toList) ⟨N,A⟩
      |cons S a2=>cases a2 with|cons=>exact ak (bH c0) (by simp)|nil=>exact y.j (P:=λa=>∃o,a=o.toList) λw H=>⟨B w,A⟩
     exact W.elim λo W=>aY h λH h=>aj h λb7 c3 h=>Er c E z o W (w.1.b) λa8 b6 b G b8 t d8 d3 d4 d5=>
      have d1:b7=d.eraseIdx a8:=(Oe U c.5.1 c.a c3).elim (λf=>aq f λe0 H f=>J ((f.1.a i.3 b).1) f.2) λf=>b.b f.1
      xv h j a3 x d4 ((d1▸d5).o x c1) λc5 b3 b4 b2=>a9 g b8 t G b4 b3 b2 (J c5 (a7 G ((w.1.a i.3 b).2▸d3)))
theorem E.j(q:E.a o=.a p):o=p:=R (O dw q)
theorem Ah(g:aH r){z}:∀{a}{b},fx r.a.b z a=B b->(b=D↔∃y,E.a y∈a/\y.c=z.c):=λ{a}=>by
 induction a with
 |nil=>exact @λb h=>J (R h) ⟨az,λh=>h.elim λq h=>ak h.1 cI⟩
 |cons t k i=>
  exact @λb h=>aj h λy e h=>aj h λu p h=>aj h λF c h=>C (fZ e) (R h▸gi.trans)
    ⟨λx=>x.elim (λf=>(ag y bn (beq_iff_eq.mp ((g.a p).trans f)))) λj=>((i c).mp j).imp λq w=>⟨bT _ w.1,w.2⟩,
     λx=>x.elim λo w=>(cB.mp w.1).elim (λe=>.inl ((g.a p).symm.trans (beq_iff_eq.mpr (J (E.j e) w.2)))) λd=>.inr ((i c).mpr (ag o d w.2))⟩
theorem Ws(q:aH r)(a6:r.a.a l.b k=.d x)(a:wo r.a k x m l=B (v,n)):rN r l n k m v "set.add":=λK L a8 g a9 b2 b1 p G S c o P e a1 a7=>
 have H:ey r g _ p _ (.d x):=J a6 ((o.2 k).c e)
 aj a λb6 W a=>aj a λj X a=>aj a λt F a=>aY a λa0 a=>aq H.2 λb3 U z=>z.elim λb0 z=>
  have a5:∀f,(U f||decide _)=D↔∃y,E.a y∈(bif t then x else x++[.a j])/\y.c=f:=λf=>by rw[L9,z.2.2.2.2,decide_eq_true_eq];cases t with|true=>exact⟨λh=>h.elim id λh=>C h ((Ah q F).mp A),.inl⟩|false=>exact⟨λh=>h.elim (λh=>h.imp λb w=>⟨mq _ w.1,w.2⟩) λh=>(ag j (iH _ bn) h.symm),λh=>h.elim λy w=>(hq.mp w.1).elim (λi=>.inl (ag y i w.2)) λi=>.inr (w.2.symm.trans (O _ (E.j (fR.mp i))))⟩
  have a4:=by
   cases t with
   |true=>exact C (if_pos ((z.2.2.2.2 _).mpr ((Ah q F).mp A))) z.2.2.2.1
   |false=>
    refine C dr ?_;split
    ·exact jD z.2.2.2.1
    ·exact fk z.2.2.2.1
  (show aE r.e g [.a j] G from J (fZ X) (wK W▸a1)).j (P:=λG=>wpAny _ K (call _ _) S L a8) λb5 c=>c.elim λb4 c=>c▸
   call_set_add (beq_self_eq_true _) A z.2.2.1 (dA (fk z.2.2.2.1) (dA (bH a0) (by decide))) λY a2 Z=>Z.elim λu d=>xv a o P e a2 (.inr (dR p N e H.1 A (xK u _ _ (cf d λb b b y=>y.1) (cf d λb b b y=>y.2.1.1) ⟨u,d⟩ a4 a5))) λa3 T V Q=>a7 g Y _ _ V T Q (J a3 A)
end
noncomputable def Gt
 |0=>"list"
 |1=>"dict"
 |_=>"set"
noncomputable def oD:Nat->Option Str
 |0=>B "append"
 |1=>B "pop"
 |2=>B "get"
 |3=>B "add"
 |_=>N
inductive LS(T)(n)(i) where
 |mk (p:PlainAttrs T)
  (a:Slot T n i)
  (t:typeOf (.builtin i)=pure (.type "method_descriptor"))
theorem Tv(g:aH r)(h:lR r.a k a m c b=B (v,d)){P:Prop}(q:∀n i,oD m=B n->LS (Gt k) n i->rN r b d a c v i->P):P:=
 aY h λe h=>by
  rw[←cb.mp e]at q;unfold kU at h;cases p:r.a.a b.b a with
  |a x=>
   rw[p]at h q;cases m with
   |zero=>exact q _ _ A ⟨LG,U1,U5⟩ (ME p h g)
   |succ m=>cases m with|zero=>exact q _ _ A ⟨LG,U2,PySem.F.type_list_pop⟩ (SN p h)|succ m=>exact X h
  |b y w=>
   rw[p]at h q;cases m with
   |zero=>exact X h
   |succ m=>cases m with
    |zero=>exact q _ _ A ⟨T4,T9,PySem.F.type_dict_pop⟩ (EO g p h)
    |succ m=>cases m with|zero=>exact q _ _ A ⟨T4,T6,PySem.F.type_dict_get⟩ (EO g p h)|succ m=>exact X h
  |d x=>rw[p]at h q;exact aY h λe h=>q _ _ (C (cb.mp e) A) ⟨PySem.F.plainAttrs_set,PySem.F.slot_set_add,PySem.F.type_set_add⟩ (Ws g p h)
  |g x=>rw[p]at h q;exact aY h λe h=>q _ _ (C (cb.mp e) A) ⟨LG,U1,U5⟩ λt E L l u K H j S Q G f F o z q=>(show ey r l _ j _ (.g x) from J p ((f.2 a).c o)).elim
  |_=>rw[p]at h;exact X h
end
section
variable{i:Type}{f:bg i}{g:Around}{h:Value->Shared->Prop}{s:Shared}
theorem B9{v:Array Value}{l:List E}(a:v.size=l.length):v.isEmpty=l.isEmpty:=by rw[xQ,Array.isEmpty_iff_size_eq_zero,a,ej,CR]
theorem GK(a:n<=ef):(n:Int)<2^63:=by unfold ef at a;omega
theorem BP(r:aH f)(m:ay f b c s.heap){j}(d:nv f.a c.b v=B j)(e:ao f.e b v u)(q:∀t,a j {s with toks:=t}):wpAny (model f.c f.b) g (truthy u) a h s:=by cases v with|g=>have k:=R d;subst k;exact C e (λz z z=>q _)|c L=>have k:=R d;subst k;exact C e (λz z z=>q _)|a w=>exact e.elim λJ e=>aj d λH p d=>C e (P.truthy_int ((show(w.c !=0)=j from(O not (r.a p)).trans (R d)).symm▸q _))|b G=>exact e.elim λx e=>aj d λF p d=>m.a (jm p) e.2 λK E n y l o=>C e.1 (wpAny_truthy_list (bi _ n A ⟨_,A⟩) (l▸GK o) (B9 l▸R d▸q _))|_=>exact X d
def sk(f:bg i)(g:Around)(h:Value->Shared->Prop)(s:Shared)(o a:CmpOp)(u v:Value)(b:Bool):=
 ∀n Q,(∀t,Q (.bool (bif n then !b else b)) {s with toks:=t})->wpAny (model f.c f.b) g (compareOp (bif n then a else o) u v) Q h s
theorem II{t}{l m}{o}(k:fH f b s.heap l e d o)(n:fH f b s.heap m [] c j)(p:(l==sysModules)=I)(r:(m==sysModules)=I)(q:a e.isEmpty s):wpAny (model f.c f.b) g (S8 t l m) a h s:=by unfold S8 LC;refine C p (C r (C (if_neg nO) ?_));refine wpAny_bind (wpAny_pure (wpAny_bind (wpAny_pure ?_)));refine wpAny_bind (wpAny_dictEntries k.1 A ?_);refine wpAny_bind (wpAny_dictEntries n.1 A ?_);refine C k.b (C n.b ?_);cases e with|nil=>refine wpAny_bind (wpAny_dictEpoch k.1 A ?_);refine wpAny_bind ?_;rw[aak];exact wpAny_pure (wpAny_pure q)|cons u v=>exact wpAny_bind (wpAny_rule (wpAny_pure q))
theorem Ji(k:fH f j s.heap a c d e)(q:b (.ref a,v) s):wpAny (model f.c f.b) g (Y5 n ⟨[.ref a,v],[]⟩) b h s:=by exact wpAny_bind (wpAny_notOrdered_dict k.a (wpAny_pure q))
theorem OC{m n}(q:g.units<cLine)(k:fH f a s.heap m e d c)(l:fH f a s.heap n [] b j)(o:(m==sysModules)=I)(p:(n==sysModules)=I):
  sk f g h s .Eq .NotEq (.ref m) (.ref n) e.isEmpty:=λt Q r=>by
 cases t with|false=>exact wpAny_richCompare_same_room (op:=.Eq) k.a l.a T5 (wpAny_call_entry T5 k.a PySem.F.entry_dict_eq (wpAny_bind (Ji k (wpAny_bind (wpAny_isInstance l.a U4 (wpAny_bind (wpAny_pure (wpAny_bind (wpAny_pure (wpAny_bind (II k l o p (wpAny_pure (bi _ A (λx=>nomatch x) (C (beq_true e.isEmpty) (r _)))))))))))))) (PySem.F.args_dict_eq_2 _ _)) q|true=>exact wpAny_richCompare_same_room (op:=.NotEq) k.a l.a T8 (wpAny_call_entry T8 k.a PySem.F.entry_dict_ne (wpAny_bind (Ji k (wpAny_bind (wpAny_isInstance l.a U4 (wpAny_bind (wpAny_pure (wpAny_bind (wpAny_pure (wpAny_bind (II k l o p (wpAny_pure (bi _ A (λx=>nomatch x) (C (beq_false e.isEmpty) (r _)))))))))))))) (PySem.F.args_dict_ne_2 _ _)) q
theorem dM.e(r:dM g n)(c:m<=100):g.units+m<cLine:=dA (dT c _) r.a
theorem FB{c:S i}(b:zB a c.b x=B p){P:Prop}(k:∀n,x=.b n->a.a c.b n=.b p.1 p.2->P):P:=aj b λn e b=>k n (mH e) (wF b)
theorem EX(U:aH f)(H:dM g n)(e:ay f a b s.heap)(d:hc f.a b.b x y=B c)(r:ao f.e a x u)(t:ao f.e a y v):sk f g h s .Eq .NotEq u v c:=by
 unfold hc at d;cases K:kR f.a b.b x with
 |false=>rw[K]at d;exact OA U H e d r t λa3 a4 a1 a2 F G w z p q X Y E=>by cases X with|false=>exact SeqAt.compareEq_reads F G w z p (C q (E _))|true=>exact SeqAt.compareNe_reads F G w z p (C q (E _))
 |true=>rw[K]at d;exact aj d λa7 j d=>aj d λa8 k d=>aY d λl d=>FB j λn T j=>FB k λW S k=>(show ao f.e a (.b n) u from J T r).elim λZ m=>(show ao f.e a (.b W) v from J S t).elim λa0 o=>C m.1 (o.1▸R d▸e.b j m.2 λa5 L P=>e.b k o.2 λa6 L Q=>OC (H.e (ek _)) P ((ej.mp (V l λL l=>l))▸Q) (e.i m.2) (e.i o.2))
theorem aH.d(m:aH f)(j k):(f.e.c j==f.e.c k)=M k j:=by cases p:M k j with|true=>exact C (cb.mp p) (beq_self_eq_true _)|false=>exact beq_eq_false_iff_ne.mpr λl=>ck ((cb.mpr (m.3 _ _ l.symm)).symm.trans p)
theorem Hd(a:qE F k l=B b):l.all qx=D/\l.any (mY k)=b:=ga a λc a=>⟨c,by
 have a:(bif(l.any _&&D)then B D else bif(!(l.any _)&&D)then B _ else N)=B b:=a
 revert a
 cases l.any _<;>exact R⟩
theorem YX(d:aH f)(k):∀l,l.all qx=D->hJ l 0=D/\((hg f.e l).any λy=>jF y (it f.e (.e k)))=l.any (mY k):=λl=>by
 induction l with
 |nil=>exactλz=>⟨A,A⟩
 |cons x r a=>exactλe=>V e λc b=>by cases x with|e j=>exact⟨(a b).1,congr (O or (d.d j k)) (a b).2⟩|_=>exact az c
theorem Rj(d:aH f):∀{l}{b},fx f.a.b z l=B b->hJ l 0=D/\((hg f.e l).any λy=>jF y (it f.e (.a z)))=b:=λ{l}=>by
 induction l with|nil=>exact @λb a=>⟨A,R a⟩|cons k r c=>exact @λb a=>aj a λy e a=>aj a λt j a=>aj a λu p a=>C (fZ e) (R a▸⟨(c p).1,congr (O or (d.a j)) (c p).2⟩)
theorem Hc(c:aH f){a}(d:ne f.a a l=B b):cH a 0=D/\hJ l 0=D/\((hg f.e l).any λy=>jF y (it f.e a))=b:=by cases a with|e k=>have w:=Hd (by exact J c.2 d);have z:=YX c k l w.1;exact(aK A z.1 (z.2.trans w.2))|a z=>exact⟨A,Rj c d⟩|_=>exact X d
theorem Tr(l:aH f){k}(m:cH k 6=D)(t:∀a∈e,cH a.1 6=D)(u:∀a∈e,dZ a.2=B a.2)(c:to f.a k e=B b):(fU f.e k e->b=I)/\∀j a,eI f.e k e j a->b=D:=by
 have r:∀{k},cH k 6=D->(Y _ _)=B b->(fU f.e k e->b=I)/\∀j a,eI f.e k e j a->b=D:=λm c=>aj c λx a c=>
  have q:=yY l m t a
  ⟨λn=>q.elim (λw=>aq w λj a w=>w.1.b n) λw=>(R c).symm.trans (O S5 w.2),
   λj a d=>q.elim (λw=>aq w λj a w=>(R c).symm.trans (O _ (w.2.trans (u a (fE w.1.1))))) λw=>d.b w.1⟩
 cases k with
 |e k=>
  exact aY c λF c=>by
   have w:=Hd (by exact J l.2 c);have p:∀a∈e,cp f.e a.1=cp f.e (.e k)↔mY k a.1=D:=λa d=>by have o:=bu.mp w.1 a.1 (un d);cases v:a.1 with|e j=>exact⟨λz=>cb.mpr (l.3 _ _ (Da (R z)).symm),λz=>C (cb.mp z) A⟩|_=>rw[v]at o;exact az o
   exact J w.2 ⟨λn=>KX.mpr λz=>(xW.mp z).elim λE z=>(hr.mp z.1).elim λa y=>n a y.1 ((p a y.1).mpr (y.2▸z.2)),
    λj a d=>xW.mpr (ag a.1 (un (fE d.1)) ((p a (fE d.1)).mp d.2))⟩
 |_=>exact r m c
theorem D3(a:∀Q,(∀t,Q b {s with toks:=t})->wpAny (model f.c f.b) g (contains v u) Q h s):sk f g h s .In .NotIn u v b:=λn Q q=>by cases n with|false=>exact(wpAny_bind (a _ λt=>wpAny_pure (q t)))|true=>exact(wpAny_bind (a _ λt=>wpAny_pure (q t)))
theorem Gg(k:aH f)(a0:dM g n)(j:ay f a c s.heap)(d:sZ f.a c.b x y=B b)(H:ao f.e a x u)(e:ao f.e a y v):sk f g h s .In .NotIn u v b:=by
 have G:∀{l}{U:PyData},hJ l 0=D->g.units+1+min (yf _) U.depth<cLine:=λ{l U} W=>(EC f.e l 0 W).2.elim λZ F=>by rw[Nat.le_zero.mp (Nv _ 0 Z ((EC f.e l 0 W).1.trans F))];exact a0.e (by decide)
 cases y with
 |d l=>
  have w:=Hc k d;have r:=oA k j x 0 w.1 u H;exact aq e λK P e=>e.1▸(j.3 K P e.2.1).elim λb2 t=>t.2.2.elim λZ a2=>have m:=vV k j l 0 w.2.1 P e.2.2
   r.1.elim λa4 z=>m.1.elim λa5 E=>λo Q q=>by cases o with|false=>exact SeqAt.in_tuple_reads (.tuple t.1 t.2.1 a2 E) z m.2 r.2 (G w.2.1) (C w.2.2 (q _))|true=>exact SeqAt.notIn_tuple_reads (.tuple t.1 t.2.1 a2 E) z m.2 r.2 (G w.2.1) (C w.2.2 (q _))
 |b n=>
  refine e.elim λK e=>C e.1 (?_)
  have d:jc f.a x _=B b:=d;cases p:f.a.a c.b n with
  |a l=>
   rw[p]at d;have w:=Hc k d;have r:=oA k j x 0 w.1 u H;exact j.a p e.2 λP b1 V a6 a3 a3=>have m:=vV k j l 0 w.2.1 _ a6
    r.1.elim λa4 z=>m.1.elim λa5 E=>λo Q q=>by cases o with|false=>exact SeqAt.in_list_reads (.list V A A E) z m.2 r.2 (G w.2.1) (C w.2.2 (q _))|true=>exact SeqAt.notIn_list_reads (.list V A A E) z m.2 r.2 (G w.2.1) (C w.2.2 (q _))
  |b b7 b6=>
   rw[p]at d;exact aY d λa9 d=>j.b p e.2 λb5 a3 T=>
    have L:=⟨k,j,T,H,wH a9⟩
    have a1:=Tr k L.5.1 L.a (λF a7=>(Ls.mp a7).elim λb8 a8=>(T.2.c a8).elim λb4 S=>xp S.2.3) d
    D3 λQ q=>NZ L (a0.e (by decide)) (j.i e.2) a1.1 a1.2 q
  |d l=>rw[p]at d;exact aj d λS F d=>cf (show ey f a _ K _ (.d l) from J p ((j.2 n).c e.2)).2 λb2 b3 b1 t=>(show ao f.e a (.a S) u from J (fZ F) H).elim λb9 b0=>by have Y:=xQ.mpr ((t.2.2.2.2 _).trans (Ah k d).symm);subst b0;intro o Q q;cases o with|false=>exact wpAny_inSet_of (beq_self_eq_true _) A t.2.2.1 (C Y (q _))|true=>exact wpAny_notInSet_of (beq_self_eq_true _) A t.2.2.1 (C Y (q _))
  |_=>rw[p]at d;exact X d
 |_=>exact X d
theorem Ab(l:aH f)(d:lP f.a.b f.a.c.n x y=B c)(e:ao f.e a x u)(j:ao f.e a y v)(q:b (.bool c) s):wpAny (model f.c f.b) g (compareOp .Lt u v) b h s:=by cases x with|a x=>exact aj d λz k d=>e.elim λt e=>(show ao f.e a (.a z) v from J (fZ k) j).elim λm j=>C e (j▸P.lt_int (l.b d▸q))|e x=>exact aj d λz k d=>e.elim λt e=>(show ao f.e a (.e z) v from J (yI k) j).elim λm j=>C e (j▸P.lt_str (l.8 _ _ _ d▸q))|_=>exact X d
theorem vt(a:lG x=D)(n):cH x n=D:=by cases x<;>first|rfl|exact az a
theorem zb(e:aH f)(j:ay f b c s.heap)(d:lG x=D)(p:lG y=D)(q:eL f.a.b x y=B r)(w:ao f.e b x u)(z:ao f.e b y v)(t:g.units+5<cLine)(F:a r s):wpAny (model f.c f.b) g (eqBool u v) a h s:=
 have k:=oA e j x 0 (vt d 0) u w;have l:=oA e j y 0 (vt p 0) v z
 k.1.elim λm G=>l.1.elim λn H=>(oh f.e x 0 (vt d 0)).2.elim λE o=>V4 _ _ g h s _ _ _ _ m n a G H k.2 l.2
  (dA (dT (aV (ya _ _) (aV (Eu _ 0 E ((oh f.e x 0 (vt d 0)).1.trans o)) (ek 5))) _) t) (C (vh e x y r q) F)
def iJ(f:bg i)(g:Around)(h:Value->Shared->Prop)(s:Shared)(b)(u v:List _):=wpAny (model f.c f.b) g (forIn (u.zip v) (N,()) λx c=>do
    let b ←eqBool x.1 x.2
    if(!b)=D then do
     rule "tuple.compare.by-the-first-pair-that-differs"
     let z ←richCompare .Lt x.1 x.2
     let z ←ret z
     pure (ForInStep.done (B z,()))
    else pure (pq (N,()))) (λr a=>a=s/\(r.1=N/\b=decide (u.length<v.length)∨r.1=B (.done (.ret (.bool b))))) h s
theorem iJ.b(d:u.zip v=[])(e:c=decide (u.length<v.length)):iJ f g h s c u v:=by unfold iJ;exact C d (wpAny_pure ⟨A,.inl ⟨A,e⟩⟩)
theorem iJ.a{e r}(l:∀Q,Q r s->wpAny (model f.c f.b) g (eqBool u v) Q h s)(m:r=D->iJ f g h s e c d)
  (n:r=I->∀Q,Q (.bool e) s->wpAny (model f.c f.b) g (compareOp .Lt u v) Q h s):iJ f g h s e (u::c) (v::d):=by
 unfold iJ;rw[Q7,Lk];refine wpAny_bind (wpAny_bind (l _ ?_));cases r with|true=>exact wpAny_pure (wpAny_mono (m A) (λr o j=>⟨j.1,j.2.imp (λx=>⟨x.1,x.2.trans (decide_eq_decide.mpr ⟨uq,CY⟩)⟩) id⟩) λz z k=>k)|false=>exact wpAny_bind (wpAny_rule (wpAny_bind (n A _ (wpAny_bind (wpAny_pure (wpAny_pure (wpAny_pure ⟨A,.inr A⟩)))))))
theorem SS(l:aH f)(m:ay f a b s.heap)(r:g.units+5<cLine):∀{x y}{d}{u v},kT f.a.b f.a.c.n x y=B d->aE f.e a x u->aE f.e a y v->iJ f g h s d u v:=λ{x}=>by
 induction x with
 |nil=>exact @λG=>by cases G with|nil=>exact @λd u v c j e=>j.f (P:=λu=>iJ f g h s d u v) (e.f (.b A (R c).symm))|cons y J=>exact @λd u v c j e=>j.f (P:=λu=>iJ f g h s d u v) (e.b (P:=λv=>iJ f g h s d [] v) λF E K K=>.b A ((R c).symm.trans (decide_eq_true (lq _)).symm))
 |cons x T z=>exact @λH=>by cases H with|nil=>exact @λd u v c j e=>e.f (.b Lw ((R c).symm.trans (decide_eq_false (yc _)).symm))|cons y J=>exact @λd u v c j e=>j.b (P:=λu=>iJ f g h s d u v) λL P j t=>e.b λF S e w=>aY c λp c=>aj c λE C c=>V p λn o=>.a (λQ q=>zb l m n o C j e r q) (λk=>z (by rw[k]at c;exact c) t w) λk Q q=>Ab l (by rw[k]at c;exact c) j e q
theorem SU{P:Prop}(d:lQ a c x y=B b)(k:∀l,x=.d l->(Y (hE y) λy=>kT a c l y)=B b->P)(e:lP a c x y=B b->P):P:=by cases x<;>first|exact k _ rfl d|exact e d
theorem SV(p:aH f)(l:ay f a c s.heap)(z:g.units+20<cLine){m}(d:lQ f.a.b f.a.c.n x y=B m)(e:ao f.e a x u)(j:ao f.e a y v)(q:b (.bool m) s):
  wpAny (model f.c f.b) g (compareOp .Lt u v) b h s:=by
 refine SU d (λx G d=>?_) λd=>Ab p d e j q
 ·refine aj d λS n d=>aq (show ao f.e a (.d x) u from J G e) λE P e=>aq (show ao f.e a (.d S) v from J (DM n) j) λF Q j=>e.1▸j.1▸(l.3 E P e.2.1).elim λW t=>(l.3 F Q j.2.1).elim λX k=>t.2.2.elim λU K=>k.2.2.elim λV L=>?_
  refine wpAny_richCompare_same_room (op:=.Lt) (ag _ t.1 t.2.1) (ag _ k.1 k.2.1) U3 (wpAny_call_entry U3 (ag _ t.1 t.2.1) PySem.F.entry_tuple_lt ?_ (PySem.F.args_tuple_lt_2 _ _)) (dA (bX _ _) z);refine wpAny_bind (wpAny_pure ?_);refine wpAny_bind (wpAny_isInstance (ag _ k.1 k.2.1) isSubtype_tuple_tuple ?_);refine wpAny_bind (wpAny_tupleItemsOf t.1 K ?_);refine wpAny_bind (wpAny_tupleItemsOf k.1 L ?_);refine wpAny_bind (wpAny_mono (SS p l (by rw[gX];exact dA (dT (by decide) _) z) d e.2.2 j.2.2) (λH a0 r=>?_) λT T n=>n);obtain⟨Y,Z⟩:=H;refine C r.1 ?_;refine r.2.elim (λw=>?_) λw=>?_
  ·have o:=w.1;subst o;exact wpAny_pure (bi _ A (λx=>nomatch x) (C (show Z1 .Lt _ _=.bool m from by refine C w.2 ?_;rfl) q))
  ·have o:=w;subst o;exact wpAny_pure (bi _ A (λx=>nomatch x) q)
noncomputable def lC:nV->CmpOp
 |.a=>.Eq
 |.c=>.NotEq
 |.e=>.Lt
 |.d=>.LtE
 |.h=>.Gt
 |.g=>.GtE
 |.i=>.Is
 |.j=>.IsNot
 |.b=>.In
 |.f=>.NotIn
theorem Ac(j:aH f)(c:qA f.a a b=B r){P:Prop}(k:∀x y,a=.a x->b=.a y->decide (x.c<y.c)=r->P):P:=aj c λx e c=>aj c λy d c=>k x y (fZ e) (fZ d) (j.b c)
theorem Hv{a b:Int}(c:decide (a<b)=r):decide (b<=a)=!r:=by exact J c (J decide_not (decide_eq_decide.mpr lm.symm))
theorem Wu{x y}(d:qZ x y=B b)(c:ao f.e a x u)(e:ao f.e a y v):v=.none/\plainIs u .none=D/\(u==V6)=b:=by
 cases y with
 |g=>refine⟨e,?_⟩;cases x with|g=>exact C c ⟨A,R d⟩|c=>exact C c ⟨A,R d⟩|a=>exact c.elim λt c=>C c ⟨A,R d⟩|e=>exact c.elim λt c=>C c ⟨A,R d⟩|d=>exact aq c λt z c=>C c.1 ⟨A,R d⟩|b=>exact c.elim λt c=>C c.1 ⟨A,R d⟩|_=>exact c.elim
 |_=>exact X d
theorem IL(c:qZ x y=B b)(d:ao f.e a x u)(e:ao f.e a y v):sk f g h s .Is .IsNot u v b:=λn Q q=>by have w:=Wu c d e;refine C w.1 ?_;cases n with|false=>exact wpAny_is_plain w.2.1 (C w.2.2 (q _))|true=>exact wpAny_isNot_plain w.2.1 (w.2.2▸q _)
theorem NP(l:aH f)(z:dM g n)(m:ay f a d s.heap)(e:yT f.a o x y d.b=B c)(j:ao f.e a x u)(k:ao f.e a y v)(q:∀G,b (.bool (bif sy o then !c else c)) {s with toks:=G}):wpAny (model f.c f.b) g (compareOp (lC o) u v) b h s:=by cases o with|a=>exact EX l z m e j k _ b q|c=>exact EX l z m e j k D b q|i=>exact IL e j k _ b q|j=>exact IL e j k D b q|b=>exact Gg l z m e j k _ b q|f=>exact Gg l z m e j k D b q|e=>exact SV l m (z.e (by decide)) e j k (q _)|h=>exact Ac l e λt w p r e=>(show ao f.e a (.a w) u from J r j).elim λE j=>(show ao f.e a (.a t) v from J p k).elim λF k=>C j (k▸P.gt_int (e.symm▸q _))|d=>exact Ac l e λt w p r e=>(show ao f.e a (.a w) u from J r j).elim λE j=>(show ao f.e a (.a t) v from J p k).elim λF k=>C j (k▸P.le_int ((Hv e).symm▸q _))|g=>exact Ac l e λt w p r e=>(show ao f.e a (.a t) u from J p j).elim λE j=>(show ao f.e a (.a w) v from J r k).elim λF k=>C j (k▸P.ge_int ((Hv e).symm▸q _))
theorem I8(t b):xor t b=bif t then !b else b:=by cases t<;>cases b<;>rfl
theorem NQ(m:aH f)(z:dM g n){e}(k:ay f e a s.heap)(d:va f.a o x y a=B (w,c))(p:ao f.e e x u)(q:ao f.e e y v)(r:∀j t,w=.c j->c=a->b (.bool j) {s with toks:=t}):wpAny (model f.c f.b) g (compareOp (lC o) u v) b h s:=
 aj d λC l d=>NP m z k l p q λt=>J (I8 _ C) (r _ t (aW d).symm (bo d).symm)
end
theorem gP:∀(l:List a) i,Z l i=l[i]?:=λl=>by
 induction l with
 |nil=>exactλz=>A
 |cons _ r b=>exactλv=>by cases v with|zero=>exact A|succ n=>exact b n
section
variable{x:Type}{r:bg x}{t:Around}{w:Value->Shared->Prop}{s:Shared}
theorem JG{l b}{T j}(d:s.TypeIs o T)(f:typeLookup (.type T) "__getitem__"=pure (B (.builtin j)))(h:wpAny (model r.c r.b) t (getItem o i) a w s):
  wpAny (model r.c r.b) t (subscriptTail l b o i) a w s:=by
 refine wpAny_bind ?_;refine wpAny_bind (wpAny_specialOf d f ?_);have e:∃c,subscripted b I o i=operate c (getItem o i):=by cases b with|Slice _ _ k=>cases k<;>exact⟨_,A⟩|_=>exact⟨_,A⟩
 exact e.elim λc e=>wpAny_pure (wpAny_bind (C e (wpAny_operating (wpAny_mono h (λn p g=>wpAny_bind (wpAny_letTemporaryGo (wpAny_pure g))) λz z m=>m))))
theorem QT(h:sQ l i=B a){P:Prop}(k:∀j,i=.a (.a j)->jQ l j=B a->P):P:=aj h λz e h=>aj h λj b h=>k j ((fZ e).trans (O _ (mn b))) h
theorem QR(h:vD F l i=B a){P:Prop}(k:∀j,i=.a (.a j)->jQ l j=B a->P):P:=aj h λz e h=>by cases z with|a j=>exact k j (fZ e) h|b=>exact X h
theorem DQ(h:jQ l i=B a){P:Prop}(k:∀n:Nat,i=n->l[n]?=B a->P)(c:∀n,i=.negSucc n->n<l.length->l[l.length-1-n]?=B a->P):P:=by cases i with|ofNat n=>exact k n A ((gP l n).symm.trans h)|negSucc n=>exact aY h λb h=>c n A (bH b) ((gP l _).symm.trans h)
theorem qB{b:Type}{l:List b}{a}(h:l[n]?=B a):n<l.length:=(xY.mp h).1
theorem IT{n m:Nat}(h:n<m):seqIndex? n m=B n:=by simp[seqIndex?,(lm.mpr (nP n)),h]
theorem Hi(h:n<m):(Le n+m).toNat=m-1-n:=by omega
theorem Xe(h:n<m):seqIndex? (.negSucc n) m=B (m-1-n):=by exact C (MeetsSeq.seqIndex_neg (Lf n) (by omega)) (O B (Hi h))
theorem qf(h:n<m)(k:m<=ef):-(2^63)<=(n:Int)/\(n:Int)<2^63/\ -(2^63)<=Le n:=by unfold ef at k;omega
theorem BN{l:List Value}{i:Nat}{a}(h:l[i]?=B a):l.toArray[i]?=B a:=by exact C P5 h
theorem F'(H:aH r)(b9:t.units+30<cLine){g:aM}{j a7:S x}(G:ay r g j s.heap){Q a2 a6:E}{a5 F:Value}(h:sV r.a Q a2 j=B (a6,a7))(b:ao r.e g Q a5)(f:ao r.e g a2 F){b0}(q:∀d a4,a7=j->ao r.e g a6 d->b0 d {s with toks:=a4}){a9:Prop}
  (k:∀b1 c0,s.TypeIs a5 b1->typeLookup (.type b1) "__getitem__"=pure (B (.builtin c0))->wpAny (model r.c r.b) t (getItem a5 F) b0 w s->a9):a9:=by
 cases Q with
 |d L=>
  refine aY h λl h=>aq b λT z b=>tw h λV b6 i=>QR (J H.2 V) λm W Z=>(show ao r.e g (.a (.a m)) F from J W f).elim λb5 f=>?_
  rw[b.1,f]at k;have a1:=G.3 T z b.2.1;have o:z.toArray.size=L.length:=b.2.2.h;have a3:L.length<=ef:=fh (bH l);exact k "tuple" _ a1.typeIs slot_tuple_getitem.lookup (DQ Z (λn e a=>(b.2.2.a a).elim λd c=>C e (getItem_tuple a1 (qf (qB a) a3).1 (qf (qB a) a3).2.1 (o▸IT (qB a)) (BN c.1) (q d s.toks i.symm c.2)))
   λn e a Y=>(b.2.2.a Y).elim λd c=>C e (getItem_tuple a1 (qf a a3).2.2 (M3 (Lf n) (by decide)) (by exact C o (Xe a)) (BN c.1) (q d s.toks i.symm c.2)))
 |e Q=>
  refine aj h λn e h=>aj h λc2 b7 h=>b.elim λb5 b=>(show ao r.e g (.a (.a (.ofNat n))) F from J (tq e) f).elim λc8 f=>(H.9 _ _ _ b7).elim λy K=>?_
  rw[b]at k;rw[f]at k;refine k "str" _ (typeIs_str s _ _) PySem.F.slot_str_getitem.lookup (P.getItem_str ?_ ?_ (q _ _ (bo h).symm (J (aW h) ⟨_,O (Db · _) (by exact J K.2.1 A)⟩)))
  ·have a:=K.2.2;rw[KY,decide_eq_false_iff_not,decide_eq_false_iff_not];show¬(n:Int)<_/\¬(n:Int)≥_
   omega
  ·exact C (IT ((Array.getElem?_eq_some_iff.mp K.1).1)) K.1
 |b n=>
  refine b.elim λT b=>?_
  rw[b.1]at k;have h:lI r.a (r.a.a j.b n) a2 j=B (a6,a7):=h;cases p:r.a.a j.b n with
  |a L=>
   rw[p]at h;refine tw h λV b6 i=>QT V λm W Z=>(show ao r.e g (.a (.a m)) F from J W f).elim λb5 f=>G.a p b.2 λz c6 c1 b3 o b4=>?_
   rw[f]at k;have l:s.heap.IsList T z:=(bi _ c1 A ⟨_,A⟩)
   exact k "list" _ l.typeIs slot_list_getitem.lookup (DQ Z (λn e a=>(b3.a a).elim λd c=>wpAny_getItem_list l (C e (nP n)) (C e ((qf (qB a) b4).2.1)) (C e (gW.symm.trans c.1)) (q d s.toks i.symm c.2))
    λn e a Y=>(b3.a Y).elim λd c=>wpAny_getItem_list_neg l (C e (Lf n)) (by exact C o (C e (Int.neg_le_neg (CG.mpr a)))) (C e ((qf a b4).2.2)) (by exact C (show(bM.c (.a m)+(z.size:Int)).toNat=L.length-1-n from by rw[o,e];exact Hi a) (gW.symm.trans c.1)) (q d s.toks i.symm c.2))
  |b i c5=>
   rw[p]at h;exact aj h λc7 a0 h=>aY a0 λb8 a0=>aj h λc9 b2 h=>G.b p b.2 λc3 d0 a8=>
    have U:=⟨H,G,a8,f,wH b8⟩
    (yY H U.5.1 U.a a0).elim (λy=>aq y λm c4 y=>k "dict" _ a8.a slot_dict_getitem.lookup (QA U (dt (ht (by decide) _) b9) y.1 λd a4 c=>q d a4 (bo h).symm (aW h▸R (b2.symm.trans (y.2.trans (xp c)))▸c))) λy=>X (y.2.symm.trans b2)
  |_=>rw[p]at h;exact X h
 |_=>exact X h
variable{u:Env}{v:Nat->Option Str}
theorem XZ(o:aH r)(H:t.units+30<cLine)(L)(q:aN r t u v a c)(K:aN r t u v b y):aN r t u v (.Subscript a b L) (gV r.a c y):=
 λW w s Y b1 a2 a8 b2 i F h P=>aO h λa9 a3 m h=>aO h λb0 a4 n h=>Subscript_ (q _ _ _ _ _ _ _ _ i F m λZ a0 a5 a6 k j f V=>K _ _ _ _ _ _ _ _ j f n λp e U a7 T d g l=>F' (s:={s with heap:=e,toks:=U}) o H d h (T.d V) l (λQ S G E=>P p e S Q (k.a T) (G▸d) g E) λX a1 z C J=>JG z C J)
def se(r:bg x)(t:Around)(u)(v:Nat->Option Str)(e:Option Expr)(d:aA x E):=∀Q w s g b l a c,
 ay r g b s.heap->aT r u v g s.heap l->d l b=B (a,c)->pL r u v g s l c a Q->wpAny (model r.c r.b) t (evalPart e u) Q w s
theorem Xx:se r t u v N (cr .g):=λQ w s g c l b d a F h q=>wpAny_pure (q g _ _ _ (.b _ _ _) (J (bo h) a) F (J (aW h) A))
theorem Ja(h:aN r t u v e a):se r t u v (B e) a:=h
def uA(d n:Nat)(p:Option Int):=(p=N/\n=d)∨p=B (n:Int)
theorem En(h:su d b=B n)(c:ao r.e g b a){P:Prop}(k:∀p,IsPart a p->uA d n p->P):P:=by
 have e:=λh=>(show ao r.e g (.a _) a from J (tq h) c).elim λf c=>k _ (C c (.int _ f)) (.inr A)
 cases b with|g=>exact k N (C c .none) (.inl ⟨A,(R h).symm⟩)|_=>exact e h
theorem ED{d n k}(h:uA d n p)(b:d<=k):p.elim d (clipAt k)=min n k:=h.elim (λa=>by exact C a.1 (C a.2 ((Lz b).symm))) λa=>by exact C a (clipAt_nat k n)
theorem UA{m n}(d:uA 0 m p)(e:uA a.size n q):(slicePick a p q N).toList=(a.toList.take n).drop m:=by
 rw[slicePick_plain,ED d (ek _),ED e (bd _),List.drop_take];have h:a.toList.length=a.size:=A;rcases R4 m _ with b|b
 ·refine C (Lz b) ?_;rcases R4 n _ with c|c
  ·exact C (Lz c) rfl
  ·exact C (R9 c) (C (Lv (by rw[xZ];exact bd _)) (C (Lv (by rw[xZ];exact Nat.sub_le_sub_right c m)) rfl))
 ·exact C (R9 b) (C (O8 (pv h)) (C (O8 (C h b)) (C CS (C CS rfl))))
theorem aE.q:∀{H}{F} E,aE y z H F->aE y z (H.take E) (F.take E)
 |[],_,_,G=>G.f (P:=λF=>aE y z _ _) (by exact C CS (C CS A))
 |_::_,_,0,_=>A
 |P::Q,_,E+1,G=>G.b (P:=λF=>aE y z (P::Q.take E) _) λL S J K=>(an L _ A J (K.q E))
theorem aE.l:∀{H}{G} F,aE y z H G->aE y z (H.drop F) (G.drop F)
 |[],_,_,E=>E.f (P:=λG=>aE y z _ _) (by exact C xX (C xX A))
 |_::_,_,0,E=>E
 |Q::K,_,F+1,E=>E.b (P:=λG=>aE y z (K.drop F) _) λP S L J=>J.l F
theorem aE.p:∀{E}{F},aE y z E F->aE y z E.reverse F.reverse:=λ{E}=>by
 induction E with|nil=>exact @λL G=>G.f (P:=λF=>aE y z [] _) A|cons S T K=>exact @λL G=>G.b (P:=λF=>aE y z _ _) λQ P H J=>by exact C uo (C uo ((K J).n (aE.k H)))
theorem Jh(K:aH r)(p:ay r g e s.heap)(F:aT r u v g s.heap l)(Y:r.a.a e.b n=.a c)(P:g.a n I=B a){z C E}(Z:IsPart z h)(a0:IsPart C i)(a1:IsPart E b)(L:b≠B 0)
  (a2:∀m,m.size=c.length->aE r.e g c m.toList->aE r.e g d (slicePick m h i b).toList) (Q:d.length<=ef) (S:fL r.a N (.a d) e=B (j,k)) {a5 a4} (a3:pL r u v g s l k j f):
  wpAny (model r.c r.b) t (subscriptTail a5 a4 (.ref a) (.ref s.heap.objs.size)) f w {s with heap:=s.heap.push {cls:=.type "slice",data:=.fields #[z,C,E]}}:=
 p.a Y P λm a8 U W y X=>
  have o:=eu _ _;have q:(s.heap.push _).IsList a m:=(bi _ (o _ _ U) A ⟨_,A⟩)
  JG q.typeIs slot_list_getitem.lookup (wpAny_getItem_list_slice q (Z4 _ _ _ _) Z a0 a1 L
   (wq K (p.c o) (F.c o) S (λa6 T=>yN (T.e (a2 m y W)) Q) λa7 J H G V=>a3 _ _ _ _ ((bk.c o).a J) H G V) (y▸lN X))
theorem Y0{l:List E}{m n k}(h:l.length<=k):((l.take n).drop m).length<=k:=by exact C xZ (aV (S2 _ _) (aV (List.length_take_le' n l) h))
theorem Yk(g:aH r){l d}(a9 b3)(Z:aN r t u v a b)(a3:se r t u v l y)(a4:se r t u v d z):aN r t u v (.Subscript a (.Slice l d N a9) b3) (kn r.a b y z):=
 λc0 w s c2 e7 c9 e1 e8 k F h b4=>aO h λe2 d2 Q h=>aO h λe3 d3 S h=>aO h λe4 d4 U h=>Subscript_ (Z _ _ _ _ _ _ _ _ k F Q λY c6 d5 b9 q m e E=>wpAny_Slice (a3 _ _ _ _ _ _ _ _ m e S λc3 c7 d6 d8 c n f G=>a4 _ _ _ _ _ _ _ _ n f U λc4 a2 b8 d9 T o i H=>wpAny_pure (aj h λe6 a0 h=>aj h λa5 L h=>aj h λa7 P h=>oG h λa1 h=>qj a0 λa6 W b2=>(show ao r.e Y (.b a6) b9 from J W E).elim λc1 V=>V.1▸En L (T.d G) λd0 b0 b1=>En P H λd1 b5 b6=>Jh (s:={s with heap:=a2,toks:=b8}) g o i b2 (T.1 _ _ _ (c.1 _ _ _ V.2)) b0 b5 .none X (λe5 a8 b7=>UA b1 (a8▸b6)▸(b7.q a7).l a5) (fh (g.e a1)) h
     λc5 c8 d7 e0 C p j K=>b4 _ _ _ _ (((q.a c).a T).a C) p j K)))
theorem Yi(g:aH r)(k)(p d W Y)(K:aN r t u v a b):aN r t u v (.Subscript a (.Slice N N (B (.UnaryOp .USub (.Constant (.int 1) k p) d)) W) Y) (pi r.a b):=
 λa5 w s a7 c1 S b8 c2 j F h Z=>aO h λb9 b3 E h=>Subscript_ (K _ _ _ _ _ _ _ _ j F E λH b0 b4 a3 o l e y=>wpAny_Slice (wpAny_pure (wpAny_pure (Ja (Jg d (Jf 1 k p)) _ _ _ _ _ S _ _ l e A λa8 Q a2 b6 T m f V=>aj h λc0 L h=>oG h λP h=>qj L λU G X=>(show ao r.e H (.b U) a3 from J G y).elim λa6 c=>c.1▸V.elim λa1 V=>Jh (s:={s with heap:=Q,toks:=a2}) g m f X (T.1 _ _ _ c.2) .none .none (V▸IsPart.int (-1) a1) (λC=>ak (R C) (by decide)) (λa4 b2 a0=>(krv_pick a4).symm▸a0.p) (fh (g.e P)) h
    λa9 b1 b5 b7 q n i z=>Z _ _ _ _ ((o.a T).a q) n i z))))
theorem Bp{P:List b->Prop}:∀{l}{i}{c},fc l i a=B c->(i<l.length->P (l.set i a))->P c
 |[],_,_,h,_=>X h
 |_::_,0,_,h,k=>J (R h) (k (lq _))
 |g::j,i+1,c,h,k=>aj h λf e h=>J (R h) (Bp (P:=λf=>P _) e λd=>k (uq d))
theorem aE.d(K:ao y z a1 a0):∀{H}{C}{G},aE y z H C->aE y z (H.set G a1) (C.set G a0)
 |[],_,_,E=>E.f (P:=λC=>aE y z [] (C.set _ a0)) A
 |_::_,_,0,E=>E.b (P:=λC=>aE y z (a1::_) (C.set 0 a0)) λJ J J F=>(an a0 _ A K F)
 |Q::H,_,G+1,E=>E.b (P:=λC=>aE y z _ (C.set _ a0)) λP J L F=>(an P _ A L (F.d K))
theorem Xj{l}{i}{j:Nat}{k:Int}{p}(h:s.heap.get? l=B (et i m))(f:k=j)(e:k<2^63)(n:j<i.size)
  (g:∀c o,c.get? l=B (et (i.setIfInBounds j a) o)->kt l s.heap c->b () {s with heap:=c}):
  wpAny (model r.c r.b) t (setItem (.ref l) (.int k p) a) b w s:=by
 have d:s.heap.IsList l _:=(bi _ h A ⟨_,A⟩)
 unfold setItem
 try with_reducible refine wpAny_holding ?_
 refine wpAny_bind (wpAny_sequenceKey d.typeIs A ?_);refine wpAny_bind (wpAny_callSpecial?_slot d.typeIs slot_list_setitem (wpAny_call_entry slot_list_setitem d.typeIs entry_list_setitem ?_ (args_list_setitem _ _ _)));show wpAny _ _ (Y9 _>>=_) _ _ s
 refine wpAny_bind (wpAny_listSubscript_int (fitsIndex_of (C f (nP j)) e) ?_);clear e;subst f;refine wpAny_bind (wpAny_bind (wpAny_seqItemAt h A (wpAny_pure ?_)));refine C (xP n) ?_;refine wpAny_bind (wpAny_setSeqItemAt h A ?_)
 first
  |exact wpAny_bind _
  |exact wpAny_pure (ag _ rfl (wpAny_pure (g _ _ (rL (LM (·.setIfInBounds j a)) h rfl) (pA ..))))
theorem IX(W:aH r)(b0:t.units+30<cLine)(o:ay r g a s.heap)(S:aT r u v g s.heap l)(k:jq r.a h i f a=B (j,e))(m:ao r.e g h c)(y:ao r.e g i d)(Z:ao r.e g f z)(a1:∀n L,bk u.locals g s.heap g n->ay r g e n->aT r u v g n l->b () {s with heap:=n,toks:=L}):
  wpAny (model r.c r.b) t (setItem c d z) b w s:=by
 refine aj k λK a5 k=>(show ao r.e g (.b K) c from J (mH a5) m).elim λb7 m=>m.1▸?_
 cases p:r.a.a a.b K with|a c5=>rw[p]at k;exact aj k λb1 a4 k=>aj k λb6 U k=>(show ao r.e g (.a _) d from J (tq a4) y).elim λb5 y=>y▸xw k λP Q q=>o.a p m.2 λc4 c2 b2 b3 b4 a0=>Bp (P:=λb6=>⟨r.a.d a.b K _,a.a+1⟩=e->wpAny _ t (setItem _ (.int (.ofNat b1) b5) z) b w s) U (λY q=>Xj b2 A (qf Y a0).2.1 (C b4 Y) λn c3 a8 H=>uX o S m.2 Q P H (AV m.2 (o.m p m.2) a8 (by exact C Array.toList_setIfInBounds (b3.d Z)) (by exact C Lo a0)) λE T F=>a1 n _ T (J q E) F) q|b U c0=>rw[p]at k;exact aY k λG k=>V G λG a6=>aY k λc6 k=>aj k λc1 a9 k=>xw k λP Q q=>o.b p m.2 λb8 a7 a2=>Xi ⟨W,o,a2,y,wH G⟩ (dt (ht (by decide) _) b0) Z a9 (W.e (bH a6)) λn L b9 H a3=>uX o S m.2 Q P H (a3.o m.2 a7) λE T F=>a1 n L T (J q E) F|_=>rw[p]at k;exact X k
end
def sa(h:Heap)(d:Addr)(a:Array DictEntry)(e):=h.get? d=B (sB a e)
section
variable{p:Program}{w:World}{c:Around}{f:Value->Shared->Prop}{s:Shared}{d i:Addr}{a:Array DictEntry}{e b:Nat}
theorem Il(k:(d==sysModules)=I)(h:sa s.heap d a e)
  (j:g (.ref s.heap.objs.size) {s with heap:=s.heap.push {cls:=.type "dict_keyiterator",data:=.fields #[.ref d,.int 0 0,.int a.size 0,.int e 0]}}):wpAny (model p w) c (pyIter (.ref d)) g f s:=by
 refine wpAny_pyIter_slot (ag _ h A) T7 (wpAny_call_entry T7 (ag _ h A) PySem.F.entry_dict_iter ?_ (PySem.F.args_dict_iter_1 _));refine wpAny_bind (wpAny_bind (wpAny_notOrdered_dict (ag _ h A) ?_));show wpAny _ _ (pure (LQ d)) _ _ s
 refine wpAny_pure ?_;show wpAny _ _ (LC d>>=_) _ _ s
 unfold LC;refine C (if_neg (by rw[k];exact nO)) ?_;refine wpAny_bind (wpAny_pure (wpAny_bind (wpAny_dictEntries h A (wpAny_bind (wpAny_dictEpoch h A ?_)))));refine wpAny_bind (wpAny_newObj_type (wpAny_pure (ag _ A (an _ _ (ag _ (fl _ A) A) yd.lookup ?_))));simpa[rawInt]using j
theorem Hk(j:s.heap.IsKeyIter i d b a.size e)(o:sa s.heap d a e)(t:a[b]?=B h)
  (q:∀l,l.IsKeyIter i d (b+1) a.size e->kt i s.heap l->g (B h.key) {s with heap:=l}):wpAny (model p w) c (pyNext (.ref i)) g f s:=by
 refine gf (id j) λu m r k=>?_
 refine wpAny_bind (wpAny_attempt (wpAny_callSpecial?_slot j.typeIs yd
  (wpAny_call_entry yd j.typeIs T3 ?_ (T2 _))))
 refine wpAny_bind (wpAny_pure (wpAny_bind (wpAny_bind ?_)))
 first|refine wpAny_bind (wpAny_typeNameOfWhole_keyiter j.typeIs (wpAny_pure ?_))|refine wpAny_bind _
 refine wpAny_bind (wpAny_fieldsOf m k ?_);refine wpAny_bind (wpAny_pure (wpAny_bind (wpAny_dictEntries o rfl ?_)));refine C (if_neg (by simp)) ?_;refine wpAny_bind (wpAny_pure (wpAny_bind (wpAny_dictEpoch o rfl ?_)));refine C (if_neg (by simp)) ?_;refine wpAny_pure ?_;dsimp only;rw[O1,t];refine wpAny_bind ?_
 first|refine wpAny_bind (wpAny_typeNameOfWhole_keyiter j.typeIs (wpAny_pure ?_))|refine wpAny_bind _
 refine wpAny_bind (wpAny_isOneOf_keyiter j.typeIs ?_);show wpAny _ _ (setField _ 1 (rawInt (b+1))>>=_) _ _ s
 refine wpAny_bind (wpAny_setField m k (by simp) ?_);have n:(s.heap.update i (Obj.mapFields (·.setIfInBounds 1 (rawInt (b+1))))).IsKeyIter i d (b+1) a.size e:=
  (bi _ (rL _ m (Obj.isFreed_of_fields (U8 k _))) ((Obj.cls_mapFields ..).trans r) (by rw[U8 k];simp[rawInt]))
 exact wpAny_bind (wpAny_holding (wpAny_bind (wpAny_isOneOf_keyiter n.typeIs (wpAny_pure (wpAny_pure (ag _ A (wpAny_pure (q _ n (pA ..)))))))))
theorem Hj(q:c.handled=N)(h:s.heap.IsKeyIter i d b a.size e)(m:sa s.heap d a e)(o:a.size<=b)
  (n:∀j,LH i s.heap j->g N {s with heap:=j}):wpAny (model p w) c (pyNext (.ref i)) g f s:=by
 refine gf (id h) λt l r k=>?_
 refine wpAny_bind (wpAny_attempt (wpAny_callSpecial?_slot h.typeIs yd
  (wpAny_call_entry yd h.typeIs T3 ?_ (T2 _))))
 refine wpAny_bind (wpAny_pure (wpAny_bind (wpAny_bind ?_)))
 first|refine wpAny_bind (wpAny_typeNameOfWhole_keyiter h.typeIs (wpAny_pure ?_))|refine wpAny_bind _
 refine wpAny_bind (wpAny_fieldsOf l k ?_);refine wpAny_bind (wpAny_pure (wpAny_bind (wpAny_dictEntries m rfl ?_)));refine C (if_neg (by simp)) ?_;refine wpAny_bind (wpAny_pure (wpAny_bind (wpAny_dictEpoch m rfl ?_)));refine C (if_neg (by simp)) ?_;refine wpAny_pure ?_;dsimp only;rw[O1,L4 o];refine wpAny_bind ?_
 first|refine wpAny_bind (wpAny_typeNameOfWhole_keyiter h.typeIs (wpAny_pure ?_))|refine wpAny_bind _
 show wpAny _ _ (setField _ 0 _>>=_) _ _ s
 refine wpAny_bind (wpAny_setField l k (by simp) ?_);refine wpAny_bind ?_;refine wpAny_bind (m:=firstArgMember _ _) (wpAny_of_eq (a:=V6) (by first|rfl|(rfl)) ?_);refine wpAny_newObj_type ?_ (by size_fits);refine wpAny_bind (wpAny_handled ?_);refine C q ?_;refine wpAny_bind (wpAny_pure (wpAny_throw ?_));exact wpAny_bind (wpAny_isInstance (ag _ (fl _ rfl) rfl) isSubtype_stop (wpAny_pure (n _ (((pA ..).extBut.push _).push _))))
end
section
variable{p:Program}{w:World}{a:Around}
theorem G9(u:a.handled=N)(b d)(y:d≠b)(i)(l):
  Walks p w a b [b,d] [b] i.size (λj C=>∃e,i[j]?=B e/\C=e.key) (λj h=>h.IsKeyIter b d j i.size l/\sa h d i l) where
 sub:=λg c=>by simp at c;simp[c]
 frame:=λz z z s m=>⟨s.1.at λo e=>m b (by simp) o e,m d (by simp) _ s.2⟩
 item:=λj r Q E v s f=>by have q:=xP v;exact Hk s.1 s.2 q λk x n=>(f _ k r.toks (ag _ q A) ⟨x,(n.2 d y).trans s.2⟩ λg o c e=>n.extBut g o (λh=>c (by simp[h])) e)
 done:=λr Q E s f=>Hj u s.1 s.2 (bd _) λk t=>f k _ λg o c e=>t g o (λh=>c (by simp[h])) e
 self:=λz z z z s f=>wpAny_pyIter_keyiter s.1 f
theorem YD(l:(d==sysModules)=I):KdlSrc p w "dict" d d b.size (λk v=>∃f,b[k]?=B f/\v=f.key) (λg=>sa g d b e) where
 type:=λz h=>(ag _ h A)
 there:=λz h=>⟨ig h,ig h⟩
 keep:=λz z h j=>j d (.inl A) _ h
 notList:=A
 notTuple:=A
 hint:=λz z z z h c=>kdl_hint_dict (ag _ h A) c
 iter:=λz z i h=>(an _ _ (λz z c=>Il l h c) (G9 i _ d (bw (ig h)) b e) ⟨(bi _ (fl _ A) A A),jE _ h⟩)
end
section
variable{d:Type}{c:bg d}{a:Around}{b:Value->Shared->Prop}{s:Shared}{e:Env}{n:Nat->Option Str}
theorem tm(E:aH c){l}{i j}{v}{x}{y}{w}(p:ay c l f i)(F:aT c e n l i v)(K:fL c.a k (.a x) f=B (y,g)){o}(q:i.get? o=N)
  (t:gY i j) (H:j.get? o=B (et u w)) (S:aE c.e l x u.toList) (G:x.length<=ef) {P:Prop} (Q:∀m,bk e.locals l i m j->ay c m g j->aT c e n m j v->ao c.e m y (.ref o)->P):P:=
 wB K λV h r L U C=>
  have z:=p.f (z:=.a x) r L (ts q) E.5 t (.inr (dR _ _ aM.c aM.f A (an u w H (aE.e ((ts q).a (p.k r)) (λT T h=>h) _ _ S) G)))
  Q _ z.2 (J C z.1) (F.a z.2 λW h=>t _ _ h) (h▸(ag _ A aM.c))
theorem Iy:∀{l}{i},i.length=l.length->(∀(j:Nat) x u,l[j]?=B x->i[j]?=B u->ao f g x u)->aE f g l i:=λ{l}=>by
 induction l with
 |nil=>exact @λi h z=>CR.mp h
 |cons x t p=>exact @λq=>by cases q with|nil=>exactλh z=>ak h (ur _).symm|cons u r=>exactλh k=>(an u r A (k 0 x u A A) (p (nS h) λj y v m o=>k (j+1) y v m o))
noncomputable def kE:Nat->Value
 |0=>.builtin "len"
 |1=>.type "list"
 |3=>.builtin "sorted"
 |4=>.type "str"
 |5=>.type "tuple"
 |_=>.type "bool"
noncomputable def mK:Nat->Str
 |0=>"len"
 |1=>"list"
 |3=>"sorted"
 |4=>"str"
 |5=>"tuple"
 |_=>"bool"
section
variable(l:aH c){o:Nat}(r:dM a o){g:aM}{j m:S d}{p:aC}(f:ay c g j s.heap)(i:aT c e n g s.heap p){x:E}{u:Value}{v:E}
  (h:ao c.e g x u) {k:Value->Shared->Prop} (q:pL c e n g s p m v k)
include f i h q
theorem MK(t:uP c.a x j=B (v,m)):wpAny (model c.c c.b) a (call (.builtin "len") [u]) k b s:=
 aj t λT E t=>qj E λK z H=>(show ao c.e g (.b K) u from J z h).elim λL w=>w.1▸f.a H w.2 λS Q F P y G=>call_len_list (bi _ F A ⟨_,A⟩) (C y (GK G)) (q g _ _ _ (.b _ _ _) (J (bo t) f) i (J (aW t) ⟨s.toks+1,O (λo:Nat=>V5 o _) y⟩))
include l
theorem MQ(t:DS c.a x j=B (v,m)):wpAny (model c.c c.b) a (call (.type "tuple") [u]) k b s:=
 aj t λX G t=>qj G λT w S=>(show ao c.e g (.b T) u from J w h).elim λU F=>F.1▸f.a S F.2 λW V H K L P=>call_tuple_list (bi _ H A ⟨_,A⟩) (λE y=>
   have z:=(f.c y).l en (eu E _) (bi _ (fl _ A) A ⟨0,A⟩)
   q _ _ _ _ ((bk.c y).a z.2) (J (bo t) z.1) ((i.c y).a z.2 λQ w=>(eu E _) _ Q w) (J (aW t) (an _ _ A aM.i (z.2.e K)))) (C L (lN P))
theorem MJ(t:uO x j=B (v,m)):wpAny (model c.c c.b) a (call (.type "bool") [u]) k b s:=by cases x with|c w=>exact h▸call_bool_bool (q g _ _ _ (.b _ _ _) (bo t▸f) i (aW t▸A))|_=>exact X t
theorem MP(t:uR c.a x j=B (v,m)):wpAny (model c.c c.b) a (call (.type "str") [u]) k b s:=
 aj t λK y t=>aj t λF z t=>aj t λG C t=>(show ao c.e g (.a _) u from J ((fZ y).trans (O _ (mn z))) h).elim λH E=>E▸have w:=l.10 _ _ C
  PySem.P.str_of_int (dA (Nat.log2_le_self _) (dt (show F.natAbs<1000 by omega) (by decide))) (q g _ _ _ (.b _ _ _) (bo t▸f) i (aW t▸⟨_,O (Db · _) w.2.2⟩))
include r
theorem ML(a8:DR c.a x j=B (v,m)):wpAny (model c.c c.b) a (call (.type "list") [u]) k b s:=by
 refine aj a8 λb6 t K=>oG K λy K=>?_
 have y:=fh (l.e y);cases x with
 |d a5=>
  exact aq h λS Y h=>h.1▸(f.3 S Y h.2.1).elim λc5 Z=>Z.2.2.elim λb3 b7=>have w:=R t
   call_list_seq S (.inr A) Z.1 Z.2.1 b7 (λG a0 L H=>tm l f i K en L H (J w h.2.2) y λE T z F V=>q E G _ _ T z F V) (by exact C (show Y.toArray.size=a5.length from h.2.2.h) (C w (lN y)))
 |b b4=>
  refine h.elim λS U=>U.1▸?_
  have t:rb _=B b6:=t;cases P:c.a.a j.b b4 with
  |a a5=>rw[P]at t;have w:=R t;exact f.a P U.2 λY b3 a9 b0 b1 b2=>call_list_seq S (.inl A) a9 A A (λG a0 L H=>tm l f i K en L H (J w b0) y λE T z F V=>q E G _ _ T z F V) (b1▸lN b2)
  |b a7 c4=>
   rw[P]at t;exact aY t λb8 t=>f.b P U.2 λc2 b8 Q=>kdl_call (YD (f.i U.2)) r.1 Q.1 Q.e λG b5 b9 a0 L H a3=>tm l f i K en L H (R t▸Iy (a3.1.trans (Q.b.trans (ea _).symm)) λa4 x u w a6=>(a3.2 a4 u (gW.symm.trans a6)).elim λc0 a1=>by
     rw[jA]at w;cases W:a7[a4]? with
     |none=>rw[W]at w;exact X w
     |some c3=>
      rw[W]at w
      exact(Q.2.c W).elim λc1 a2=>a1.2▸R w▸R (a2.1.symm.trans (gW.trans a1.1))▸a2.2.2) y λE T z F V=>q E G b5 _ T z F V
  |_=>rw[P]at t;exact X t
 |_=>exact X t
end
end
theorem X1{a b:Type}{o}{f:a->b}(h:o.map f=N):o=N:=by cases o with|none=>rfl|some=>exact X h.symm
theorem SH{h:Heap}{m}(j:h.Ns d m):∃o,h.get? d=B o/\∀y,lookIn y o=B (m y):=by
 refine xD j λl a p b c f g=>?_
 refine(ag l b (λy=>?_));have e:((a.toList.find? λe=>e.key.isStr y).map _)=m y:=C Array.find?_toList (g y);unfold lookIn;refine C c ?_;dsimp only
 revert e
 cases r:a.toList.find? _ with
 |some n=>exact O B
 |none=>
  intro e;have:a.toList.any (·.refKey)=I:=O3.mpr λx k=>aq (f x (KU.mp k)) λq t i=>by unfold T0;exact C i nO
  exact C this (C (if_neg nO) (O B e))
section
variable{g f:Nat}{u v:E}{r:List (Nat×E)}
theorem sH(h:M g f=D):cG f ((g,u)::r)=B u:=by
 show(a' _ (B u) _:Option E)=_
 exact C h A
theorem oo(h:M g f=I):cG f ((g,u)::r)=cG f r:=by
 show(a' _ (B u) _:Option E)=_
 exact C h A
theorem AJ(h:M g f=D):hh f v ((g,u)::r)=(f,v)::r:=by
 show(a' _ _ _:List _)=_
 exact C h A
theorem AI(h:M g f=I):hh f v ((g,u)::r)=(g,u)::hh f v r:=by
 show(a' _ _ _:List _)=_
 exact C h A
end
theorem ik{b:Type}{o:Option b}{p}{P:Prop}(h:o.any p=D)(k:∀a,o=B a->p a=D->P):P:=by cases o with|none=>exact az h|some a=>exact k a A h
theorem HJ{K}{P:Prop}(h:qQ K a n=D)(k:plainGet K a n=D->hasDictIn K a=D->∀b,findIn K (.ref a) n=B b->noGet K b=D->
  findIn K (.ref a) "__setattr__"=B (B (.builtin "object.__setattr__"))->plainOver K a=D->takerIn K a n=B N->P):P:=
 V h λd h=>V h λe h=>V h λc h=>ik c λb c f=>V h λg h=>V h λi j=>k d e b c f (beq_iff_eq.mp g) i (beq_iff_eq.mp j)
theorem Uf{K}{f}{P:Prop}(h:tv K a n f=D)(k:plainGet K a n=D->findIn K (.ref a) n=B (B (.ref f))->typeIn K (.ref f)=B (.type "function")->keepIn K (.ref f)=D->P):P:=
 V h λb h=>V h λc h=>V h λd e=>k b (beq_iff_eq.mp c) (beq_iff_eq.mp d) e
theorem Ue{K}{P:Prop}(h:tu K a f=D)(k:makesIn K a=D->findIn K (.ref a) "__init__"=B (B (.ref f))->typeIn K (.ref f)=B (.type "function")->keepIn K (.ref a)=D->P):P:=
 V h λb h=>V h λc h=>V h λd e=>k b (beq_iff_eq.mp c) (beq_iff_eq.mp d) e
section
variable{w:Type}{q:bg w}{t:Around}{u:Value->Shared->Prop}{s:Shared}{r:Env}{v:Nat->Option Str}
theorem ay.g(E:aH q)(C:ay q y z x):q.f.In x:=E.11.keeps C.4
inductive L'(q:bg w)(g)(h)(e)(c)(a)(d)(m)(o) where
 |mk (n:h.Ns d m)
  (l:h.DictLe d a.length)
  (i:InstAt h e (instObj (q.e.a c) d) (q.e.a c) (B o))
  (k:∀y,lookIn y o=B (m y))
  (p:∀y,m y≠N->∃f,q.a.c.a c f=D/\y=q.e.b f)
  (j:∀f x,cG f a=B x->q.a.c.a c f=D/\∃b,m (q.e.b f)=B b/\ao q.e g x b)
theorem ay.e(L:ay q x a2 a1){F}(Q:q.a.a a2.b y=.e z a0)(S:x.a y I=B F){P:Prop}(T:∀E G H,x.a y D=B E->L' q x a1 F z a0 E G H->P):P:=
 aq (show ey q x a1 F _ (.e z a0) from J Q ((L.2 y).c S)) λE G C=>(SH C.2.2.1).elim λH K=>T E G H C.1 ⟨C.2.2.1,C.2.2.2.1,⟨C.2.1,A,A,K.1⟩,K.2,C.2.2.2.2.1,C.2.2.2.2.2⟩
theorem Vt{a}(h:ao q.e g x a):handedIn a=D:=by cases x with|g=>exact C h A|c=>exact C h A|a=>exact h.elim λc h=>C h A|e=>exact h.elim λc h=>C h A|d=>exact aq h λb d h=>C h.1 A|b=>exact h.elim λb h=>h.1▸A|f=>exact h.elim|h=>exact h.elim
theorem FD(o:aH q)(m:ay q g c s.heap)(k:sM q.a x f c=B (a,e))(G:ao q.e g x b)(T:∀j U,e=c->ao q.e g a j->d j {s with toks:=U}):
  wpAny (model q.c q.b) t (getAttr b (q.e.b f) h) d u s:=
 aj k λQ F k=>vy F λy S=>tw k λn z E=>(show ao q.e g (.b Q.1) b from J y G).elim λV p=>m.e S p.2 λX Y Z z i=>(i.6 f a n).2.elim λj l=>HJ (o.13 _ f (i.6 f a n).1) λH K W L P z z z=>C p.1 (get_value (m.g o) i.3 (plainGet_of H).1 (findObj_own K L P (by rw[i.4,l.1])) (Vt l.2) (T j _ E.symm l.2))
theorem Qd:∀b,cG f (hh f a b)=B a:=λb=>by
 induction b with
 |nil=>exact sH (gj f)
 |cons c d i=>
  obtain⟨g,e⟩:=c;exact by
   cases p:M g f with|true=>exact C (AJ p) (sH (gj f))|false=>exact C (AI p) (C (oo p) i)
theorem Qc(h:f≠a):∀c,cG f (hh a b c)=cG f c:=λc=>by
 induction c with
 |nil=>exact oo (oF h.symm)
 |cons e j i=>
  obtain⟨g,k⟩:=e;exact by
   cases p:M g a with
   |true=>exact C (AJ p) (C (cb.mp p) (C (oo (oF h.symm)) (C (oo (oF h.symm)) A)))
   |false=>refine C (AI p) ?_;cases d:M g f with|true=>exact C (sH d) (C (sH d) A)|false=>exact C (oo d) (C (oo d) i)
theorem UM:∀b,(hh f a b).length=bif(cG f b).isSome then b.length else b.length+1:=λb=>by
 induction b with
 |nil=>exact A
 |cons c d i=>
  obtain⟨g,e⟩:=c;exact by
   cases p:M g f with|true=>exact C (AJ p) (C (sH p) A)|false=>refine C (AI p) (C (oo p) (C P6 (C i ?_)));cases(cG f d).isSome<;>rfl
theorem TX{m}{n}{f}{Q}(X:s.heap.Ns b m)(V:s.heap.DictLe b f)
  (h:∀k a2,k.Ns b (λx=>if x=n then B a else m x)->kt b s.heap k->k.DictLe b (if(m n).isSome then f else f+1)->Q () {s with heap:=k,toks:=a2}):
  wpAny (model q.c q.b) t (nsSet b n a) Q u s:=by
 refine xD X λo e G l y z E=>?_
 have T:e.any (·.refKey)=I:=by rw[Array.any_eq_false'];intro g U;refine aq (z g U) λf b1 h=>?_;simp[T0,h]
 have K:=V _ _ _ l y;refine wpAny_bind (wpAny_bind (wpAny_askSetting (wpAny_pure (wpAny_bind (wpAny_mkText (wpAny_bind (wpAny_loadPart l ?_)))))));refine C y ?_;dsimp only;rw[aRefKeyMayBeTheName_at,T,L8];refine wpAny_updatePart l ?_;generalize(if n.cps.isEmpty=D then 0 else reduceHash _)=p;have a1:∃c j,U9 n p (.str n s.toks) a o={o with data:=.dict c j}/\StrKeys c/\(∀x,nsFind c x=if x=n then B a else m x)/\c.size<=(if(m n).isSome then f else f+1):=by
  obtain⟨a7,a8,a4,b0⟩:=o;subst y;have i:=E n;rw[show nsFind e n=findBy _ e n from A,findBy_of_findIdx?]at i;cases d:e.findIdx? _ with
  |some L=>
   rw[d]at i;refine(dR (e.modify L λg=>{g with val:=a}) G (by simp only[V1,V0,d]) (z.modify _ _) (λx=>?_) ?_)
   ·rw[←E];exact findBy_modify _ Value.isStr_inj e n x a L d
   ·obtain⟨W,_,_⟩:=L2.mp d;refine J i ?_;simp[xP W];exact K
  |none=>
   refine(dR (e.push ⟨p,.str n s.toks,a⟩) (G+1) (by simp only[V1,V0,d]) (z.push _ _ _ _) (λx=>?_) ?_)
   ·rw[←E];exact findBy_push _ e n x _ _ a (λF=>by
     show(n==F)=decide _
     by_cases h:F=n
     ·subst h;simp
     ·have:¬n=F:=λg=>h g.symm
      simp[h,this]) d
   ·rw[d]at i;refine J i ?_;simp;exact K
 refine eR a1 λc j P Y Z a0=>?_
 have H:(s.heap.update b (U9 n p (.str n _) a)).get? b=B {o with data:=.dict c j}:=J P (rL _ l (by exact C P A));exact h _ _ (xJ _ c j H A Y Z) (pA ..) λa6 a5 a9 S a3=>by rw[H]at S;cases S;cases a3;exact a0
theorem IV(H:aH q)(o:ay q g d s.heap)(a0:aT q r v g s.heap l)(k:kg q.a x f c d=B (h,e))(b1:ao q.e g x b)(b0:ao q.e g c z)
  (b8:∀m W,bk r.locals g s.heap g m->ay q g e m->aT q r v g m l->a () {s with heap:=m,toks:=W}):
  wpAny (model q.c q.b) t (setAttr b (q.e.b f) z) a u s:=by
 refine aj k λd1 a9 k=>vy a9 λi b7=>aY k λn k=>aY k λd3 k=>V n λn a8=>xw k λY b9 a5=>(i▸b1).elim λF p=>o.e b7 p.2 λa4 b6 c9 K j=>HJ (H.13 _ f n) λc6 b2 c1 c7 c8 b3 b4 b5=>p.1▸ik b2 λc3 a6 a7=>?_
 have X:=o.g H;refine set_plain X j.3 b3 (osa_open X j.3 b4 b5 λc2=>?_);refine wpAny_bind (wpAny_pure (wpAny_bind (wpAny_bind (wpAny_loadPart j.3.at_ (wpAny_bind (Looks.here (looks_clsIn X a6) ?_))))));refine C a7 ?_;exact wpAny_pure (wpAny_bind (wpAny_pure (wpAny_bind (TX j.1 j.2 λm W Q S P=>cf Q λd0 c5 c4 y=>(wpAny_bind (wpAny_lookBehind y.1 (by exact C y.2.1 (pastItsLine_dict (jD<|Bs rfl (aV (P _ _ _ y.1 y.2.1) (by
  have:=bH a8;split
  ·exact pw this
  ·exact this))))) (wpAny_pure (uX o a0 K b9 Y S (by
  refine .inr (an F _ p.2 K (rr a4 _ A ((S.2 F λi=>by have:=(o.1.1 _ _ _ _ F p.2 (C i K) Y).2;exact az this).trans j.3.at_) Q (P.mono ?_) (λy T=>?_) (λG c0 E=>?_)))
  ·rw[UM];cases i:cG f _ with
   |some Z=>rw[show(b6 _).isSome=D from(j.6 f Z i).2.elim λd2 z=>O _ z.1];exact bd _
   |none=>split<;>first|exact gk _|exact bd _
  ·exact(di _).elim (λi=>(ag f n i)) λi=>j.5 y (by rw[if_neg i]at T;exact T)
  ·exact(di (G=f)).elim (λi=>by
    rw[i,Qd]at E
    exact C i (⟨n,(ag z (if_pos A) (J (R E) b0))⟩)) λi=>by
    rw[Qc i]at E;have L:=j.6 G c0 E
    exact⟨L.1,L.2.imp λZ U=>⟨(if_neg λz=>i (H.14 _ G f L.1 n z)).trans U.1,U.2⟩⟩) λa2 a3 a1=>b8 m _ a3 (J a5 a2) a1))))))))
def pJ(o):=∀b r a,attributeBase o b r a=a
theorem XI(g:aH q)(y)(l:n=q.e.b f)(k:pJ a)(j:aN q t r v a x):aN q t r v (.Attribute a n y) (nE q.a x f):=
 λQ u s H W J S X d F h z=>aO h λU K e h=>by
  rw[l,arm_eval_Attribute,k];exact wpAny_bind (j _ _ _ _ _ _ _ _ d F e λi p L P T b c V=>wpAny_bind (wpAny_standAt (wpAny_bind (wpAny_holding
   (FD g b h V λE G o m=>wpAny_bind (wpAny_letTemporaryGo (wpAny_pure (z i p G E T (C o b) c m))))))))
end
inductive fG(a) where
 |mk (g:∀p e,(backTo p (starEach a e)).any (·.1)=I)
  (h:∀{c}{b}{E}{s}{f}{p}{e}{Q},wpAny c b (spliced (backTo p (starEach a e))) (λv d=>Q ⟨v,[]⟩ d) E s->wpAny c b (evalArgs f D (backTo p (starEach a e)) []) Q E s)
  (l:a.length<20)
theorem fG.a:fG []:=⟨λz z=>A,λh=>by
  exact wpAny_bind (wpAny_mono h (λv s b=>(wpAny_bind (wpAny_pure (wpAny_holding (wpAny_bind (wpAny_pure (wpAny_bind (wpAny_pure (wpAny_pure b))))))))) λz z x=>x),by decide⟩
theorem fG.d(h:pK e)(c:fG r)(f:r.length+1<20):fG (e::r):=
 ⟨λp b=>by rw[h];exact c.1 p b,λ{i g E s j p b Q} k=>by rw[h]at k⊢;exact evalArgs_plain k,f⟩
inductive jI(c:bg a)(e:Env)(x)(v) where
 |mk (g:c.e.j x=B v)
  (k:e.kindOf x=B .globalImplicit)
  (d:(x=="__debug__")=I)
section
variable{g:Type}{a:bg g}{d:Around}{f:Value->Shared->Prop}{s:Shared}{b:Env}{n:Nat->Option Str}
theorem ao.c{k}{j}(i:ay a h k j){x}{v}(r:ao a.e a.g x v):ao a.e h x v:=ao.e i.1.5 i.1.6 x v r
theorem nf(j:aH a)(c:eH b n){x}(h:jI a b x v){i}{k}(e:ay a i k s.heap){p}{Q}(q:Q v s):wpAny (model a.c a.b) d (eval (.Name x p) b) Q f s:=
 Name_function_global c.1 h.2 (j.18 x v h.1 d b Q f s c.2 c.3 e.4 q) h.3
theorem XX(e:aH a)(k:eH b n)(j)(r)(o:x=a.e.d j)(p:aF (a.a.c.b j)=I)(q:b.kindOf x=B .globalImplicit)(m:(x=="__debug__")=I):aN a d b n (.Name x r) (pe (a.a.c.b j)):=
 λQ f s l y v w z c F i t=>(e.12 j p).elim λu h=>nf e k ⟨o▸h.1,q,m⟩ c (t l _ _ u (.b _ _ _) (J (bo i) c) F (J (aW i) (ao.c c h.2)))
def Dw(a:bg g)(j r)(x:List E->S g->av g E):=∀d T s c m l k v p,dM d j->ay a c m s.heap->aE a.e c l k->x l m=B (v,p)->
 (∀i h t u,(∀L,bk L c s.heap i h)->(∀e o,s.heap.get? e=B o->(∀j q,c.a j q≠B e)->h.get? e=B o)->ay a i p h->ao a.e i v u->T (.ok (.ret u)) {s with heap:=h,toks:=t})->
 codeAny (model a.c a.b) d (.call (.ref (a.e.k r)) ⟨k,[]⟩) T s
def n'(a:bg g)(e)(C:Nat->List E->S g->av g E):=∀c,Dw a e c (C c)
theorem yP{l}(F:aT a b n c h l)(T:∀L,bk L c h i e)(p:∀j o,h.get? j=B o->(∀q k,c.a q k≠B j)->e.get? j=B o):aT a b n i e l:=F.a (T _) λo m=>p _ o m F.2
theorem oe{l}{y}(z:fG l)(x:g' a d b n l y){m}{o}(r:ay a m e s.heap)(F:aT a b n m s.heap o)(C:y o e=B (v,h))
  (G:∀j k H u,bk b.locals m s.heap j k->ay a j h k->aT a b n j k o->aE a.e j v u->c ⟨u,[]⟩ {s with heap:=k,toks:=H}):wpAny (model a.c a.b) d (evalArgs i D (backTo p (starEach l b)) []) c f s:=
 z.2 (x p _ _ _ _ _ _ _ _ r F C λw E J u T t q V K=>G w E J u T t q V)
theorem XN(m:aH a)(v:eH b n)(S:dM d h)(E:n' a h c)(i)(L P)(G:jI a b x (.ref (a.e.k i)))(H:keepIn a.f (.ref (a.e.k i))=D)
  (o:fG e) (C:g' a d b n e (bs y)):aN a d b n (.Call (.Name x L) e [] P) (gg c i y):=
 λa2 f s a3 a7 a5 Z a1 k F j Q=>aO j λa0 U u j=>Call_ (nf m v G k (callWith_of (by rw[o.1];rfl) (keeps_K H) (oe o C k F u λw a4 a6 Y r l p V=>⟨l.g m,
  wpAny_call (E i d _ _ w U a0 Y Z a1 S l V j λz J W X T K q t=>Q z J W X (r.a (T _)) q (yP p T K) t)⟩)))
theorem No:∀c,(∃i,kE c=.builtin i)∨∃T,kE c=.type T
 |0=>.inl ⟨_,A⟩
 |1=>.inr ⟨_,A⟩
 |2=>.inr ⟨_,A⟩
 |3=>.inl ⟨_,A⟩
 |4=>.inr ⟨_,A⟩
 |5=>.inr ⟨_,A⟩
 |_+6=>.inr ⟨_,A⟩
theorem Np(l:c.any (·.1)=I)(h)(i:wpAny (model a.c a.b) d (evalArgs (kE h) D c []) (λk m=>wpAny (model a.c a.b) d (call (kE h) ([]++k.pos) k.kw) e f m) f s):wpAny (model a.c a.b) d (callWith p (kE h) [] c []) e f s:=by
 rcases No h with⟨o,j⟩|⟨T,j⟩
 ·rw[j]at i⊢;exact callWith_builtin l i
 ·rw[j]at i⊢;exact yg l i
def uw(a:bg g)(d:Around)(e):=∀f s b n c h i l x u v Q,ay a c h s.heap->aT a b n c s.heap l->ao a.e c x u->uQ a.a e x h=B (v,i)->
 pL a b n c s l i v Q->wpAny (model a.c a.b) d (call (kE e) [u]) Q f s
theorem Nk(o:aH a)(t:dM d c)(r:uw a d 3):∀p,uw a d p
 |0=>λf s b n j k m l x u v Q e F i h q=>MK e F i q h
 |1=>λf s b n j k m l x u v Q e F i h q=>ML o t e F i q h
 |2=>λf s b n j k m l x u v Q e F i h q=>X h
 |3=>r
 |4=>λf s b n j k m l x u v Q e F i h q=>MP o e F i q h
 |5=>λf s b n j k m l x u v Q e F i h q=>MQ o e F i q h
 |6=>λf s b n j k m l x u v Q e F i h q=>MJ o e F i q h
 |_+7=>λf s b n j k m l x u v Q e F i h q=>X h
theorem XM(E:aH a)(C:eH b n)(c)(X Y)(L:uw a d c)(K:M c 2=I)(P:jI a b x (kE c))(m:fG e)(H:g' a d b n e (bs y)):aN a d b n (.Call (.Name x X) e [] Y) (gT a.a c y):=
 λQ f s a4 a8 W a2 a3 j F h Z=>aO h λa7 a0 w h=>Call_ (nf E C P j (Np (m.1 _ _) c (oe m H j F w λl a5 a6 i T q o V=>by
  have h:a' _ _ _=B _:=h;rw[K]at h
  exact aj h λk z h=>(show aE a.e l [k] i from J (wK z) V).j (P:=λi=>wpAny _ d (call _ i) Q f _) λu S=>L f _ b n l a0 a3 W k u a2 Q q o S h λG U a1 u t r p v=>Z G U a1 u (T.a t) r p v)))
theorem PR(h:fG e):methodCallForm (e.length+([]:List Keyword).length) (backTo p (starEach e b)) (backToKw p (keywordEach [] b))=D:=by
 unfold methodCallForm;refine C (bu.mpr λx c=>by
  cases q:x.1 with
  |false=>rfl
  |true=>exact ak q (O3.mp (h.1 p b) x c)) (C (show backToKw p _=[] from A) ?_)
 simp;exact aP h.3 A
theorem Nr(r:pJ o)(t:fG e)(u:(h.endLine==p.line)=D)
  (q:wpAny (model a.c a.b) d (eval o b) (λk l=>∀y,wpAny (model a.c a.b) d (getMethod k i y) (λj m=>wpAny (model a.c a.b) d (callWith p j.1 j.2 (backTo p (starEach e b)) []) c f m) f l) f s):
  wpAny (model a.c a.b) d (eval (.Call (.Attribute o i h) e [] p) b) c f s:=by
 rw[arm_eval_Call,r];refine wpAny_bind (wpAny_mono q (λk l v=>wpAny_bind (wpAny_standAt ?_)) λz z x=>x);unfold methodCall;exact C (PR t) (wpAny_bind (wpAny_holding (wpAny_mono (v _) (λj m w=>(wpAny_bind (wpAny_of_eq (by unfold methodCallPos;exact C u A) w))) λz z x=>x)))
theorem Uq(e:nl c h r m=B o){P:Prop}(l:∀i k j,c.a h r=.e i k->c.c.h i m=B j->o=B j->P)(q:o=N->na (c.a h r)<3->P):P:=by unfold nl at e;cases p:c.a h r with|f=>rw[p]at e;exact X e|c=>rw[p]at e;exact X e|e i k=>rw[p]at e;exact aj e λj t e=>l i k j p t (R e).symm|_=>rw[p]at e;exact q (R e).symm (by refine C p ?_;first|exact(show 0<3 by decide)|exact(show 1<3 by decide)|exact(show 2<3 by decide))
theorem Ht{h:Heap}{o}(j:h.get? c=B o)(k:o.dict=N):∀e,LQ c=.ref e->∃i,h.get? e=B i/\i.dict=N:=λe q=>(ag o (J (Value.ref.inj q) j) k)
theorem RM(x:ey a h s.heap c e o)(k:na o<3):s.TypeIs (.ref c) (Gt (na o))/\∀j,LQ c=.ref j->∃i,s.heap.get? j=B i/\i.dict=N:=by cases o with|a l=>exact aq x.2 λv m x=>⟨(ag _ x.1 A),Ht x.1 A⟩|b l p=>exact x.2.elim λv x=>⟨(ag _ x.1 A),Ht x.1 A⟩|d l=>exact cf x.2 λi S m x=>⟨x.2.2.1.typeIs,x.2.2.1.noDict⟩|g l=>exact x.elim|_=>exact ak k (show¬3<3 by decide)
def tp(c:gZ)(m:Nat):=(oD m).getD (c.e m)
theorem Yd(q:aH a)(b6:dM d h)(c8:n' a h c)(m)(a7 b3)(a8:i=tp a.e m)
  (d1:∀d5 k,a.a.c.h d5 m=B k->oD m=N) (c9:pJ o) (t:fG e) (d4:(a7.endLine==b3.line)=D) (c7:aN a d b n o x) (a9:g' a d b n e (bs y)):aN a d b n (.Call (.Attribute o i a7) e [] b3) (li a.a c x m y):=
 λc1 f s e9 f9 e1 e5 e6 c2 b9 j b4=>aO j λf6 f4 c5 j=>Nr c9 t d4 (c7 _ _ _ _ _ _ _ _ c2 b9 c5 λf0 w z f5 a6 l a5 c3 f3=>aj j λb5 S j=>aj j λf2 p j=>by
  have S:=mH S;subst S;refine c3.elim λK r=>C r.1 (Uq p (λP e8 k d6 a0 p=>?_) λp d0=>?_)
  ·rw[p]at j;refine aO j λb8 b7 Q j=>l.e d6 r.2 λe7 b2 e3 f8 G=>Uf (q.15 P m k a0).1 λb0 d7 d8 d9=>?_
   have d3:b2 (a.e.e m)=N:=by cases E:b2 _ with|none=>rfl|some f7=>exact(G.5 _ (by exact C E (λc4=>X c4.symm))).elim λc6 E=>ak E.2.symm ((q.15 P m k a0).2 c6 E.1)
   exact C (a8.trans (by unfold tp;refine C (d1 P k a0) ?_;rfl)) (method_fn (s:={s with heap:=w,toks:=z}) (l.g q) G.3 (plainGet_of b0).1 (plainGet_of b0).2 d7 d8 (by show(lookIn _ e3).map _=_;rw[G.4,d3];rfl)
    (callWith_of (P:=a.f.In) (by rw[t.1];rfl) (keeps_K d9) (oe (s:={s with heap:=w,toks:=z}) t a9 l a5 Q λU Y a2 a4 T u F V=>⟨u.g q,
     wpAny_call (c8 k d _ {s with heap:=Y,toks:=a2} U b7 (.b b5::b8) (.ref K::a4) e5 e6 b6 u (an _ _ A (ag K A (T.1 _ _ _ r.2)) V) j λW Z a1 a3 v e0 H J=>b4 W Z a1 a3 ((a6.a T).a (v _)) H (yP F v e0) J)⟩)))
  ·rw[p]at j;exact aO j λb8 b7 Q j=>Tv q j λe2 f1 d2 L e4=>by
    have b1:=RM (s:={s with heap:=w,toks:=z}) ((l.2 b5).c r.2) d0
    exact C a8 (C (show tp a.e m=e2 from by unfold tp;rw[d2];rfl) (getMethod_builtin b1.1 L.1 L.2 L.3 b1.2 (callWith_builtin (t.1 _ _) (oe (s:={s with heap:=w,toks:=z}) t a9 l a5 Q λU Y a2 a4 T u F V=>e4 d f {s with heap:=Y,toks:=a2} U b n e1 K a4 c1 (b6.e (by decide)) u F (T.1 _ _ _ r.2) V λW Z a1 a3 v H c0 J=>b4 W Z a1 a3 ((a6.a T).a v) H c0 J)))))
end
theorem Iq:∀n a,(lX a n).length=n:=λn=>by
 induction n with|zero=>exactλz=>A|succ n i=>exactλa=>O _ (i _)
theorem Io:∀n a (j:Nat) x,(lX a n)[j]?=B x->x=.a (.a (a+j*1)):=λn=>by
 induction n with
 |zero=>exactλz z z h=>X h
 |succ n b=>exactλa v=>by cases v with|zero=>exactλx h=>(R h).symm.trans (O (λi=>E.a _) (by show a=a+0*1;rw[CI,rC]))|succ j=>exactλx h=>(b _ j x h).trans (O (λi=>E.a _) (by rw[CD,CD,CE,rA,Int.add_comm 1]))
theorem Ri:∀{v}{i},sW v=B i->v=i.map λa=>.a (.a a):=λ{v}=>by
 induction v with|nil=>exact @λi h=>J (R h) A|cons g r d=>exact @λi h=>aj h λz e h=>aj h λa b h=>aj h λf c h=>J (R h) (Lh.mpr ⟨(fZ e).trans (O _ (mn b)),d c⟩)
theorem Vj{P:Prop}(h:oM v=B x)(k:∀n,v=[.a (.a n)]->eQ n=D->x=lX 0 n.toNat->P)(c:∀a b,v=[.a (.a a),.a (.a b)]->eQ a=D->eQ b=D->x=lX a (b-a).toNat->P)
  (d:v=[.a (.a 0),.a (.a 12),.a (.a 4)]->x=[.a (.a 0),.a (.a 4),.a (.a 8)]->P):P:=aj h λi e h=>by
 have e:=Ri e;cases i with
 |nil=>exact X h
 |cons a i=>cases i with
  |nil=>exact aY h λp h=>k a e p (R h).symm
  |cons b i=>cases i with
   |nil=>exact aY h λp h=>V p λp q=>c a b e p q (R h).symm
   |cons l i=>cases i with|nil=>exact aY h λp h=>V p λp j=>V p λf g=>by rw[beq_iff_eq.mp f,beq_iff_eq.mp g,beq_iff_eq.mp j]at e;exact d e (R h).symm|cons=>exact X h
theorem Jk(h:eQ a=D)(c:eQ b=D):S9 a b 1=D/\LF a b 1=(b-a).toNat:=by have h:=xn h;have c:=xn c;refine⟨small_one (by omega) (by omega) (by omega) (by omega),?_⟩;rw[rangeSize_one];split<;>omega
section
variable{d:Type}{c:bg d}{a:Around}{b:Value->Shared->Prop}{s:Shared}{e:Env}{n:Nat->Option Str}
theorem Es{H}{u}{E}(J:oM H=B E)(i:aE c.e g H u)
  (x:∀F W k l p t y a0,S9 k l p=D->LF k l p=E.length->(∀(o:Nat) C,E[o]?=B C->C=.a (.a (k+o*p)))->IsRange (s.heap.push F) s.heap.objs.size k l p t y a0->f (.ref s.heap.objs.size) {s with heap:=s.heap.push F,toks:=W}):
  wpAny (model c.c c.b) a (call (.type "range") u) f b s:=
 Vj J (λK h L m=>by
   subst h;subst m;exact i.j (P:=λu=>wpAny _ a (call _ u) f b s) λy j=>j.elim λt j=>j▸have z:=Jk A L
    call_range_1 (x _ _ 0 K 1 _ t _ z.1 (by rw[z.2,Iq,O0]) (Io _ _) (LJ _ _ _ _ _ _ _)))
  (λk l h P Q m=>by
   subst h;subst m;exact i.b (P:=λu=>wpAny _ a (call _ u) f b s) λy G j i=>i.j (P:=λu=>wpAny _ a (call _ _) f b s) λa1 w=>j.elim λt j=>w.elim λS w=>j▸w▸have z:=Jk P Q
    call_range_2 (x _ _ k l 1 t S _ z.1 (by rw[z.2,Iq]) (Io _ _) (LJ _ _ _ _ _ _ _)))
  λh m=>by
   subst h;subst m;exact i.b (P:=λu=>wpAny _ a (call _ u) f b s) λY G q i=>i.b (P:=λu=>wpAny _ a (call _ _) f b s) λZ G r i=>i.j (P:=λu=>wpAny _ a (call _ (Y::Z::u)) f b s) λa2 v=>q.elim λT q=>r.elim λU r=>v.elim λV v=>q▸r▸v▸
    call_range_3 (by decide) (x _ _ 0 12 4 T U V A A (λo C h=>by
     match o,h with
     |0,h=>exact(R h).symm
     |1,h=>exact(R h).symm
     |2,h=>exact(R h).symm
     |(_+3),h=>exact X h) (LJ _ _ _ _ _ _ _)) (.inl (S7 (by decide)))
theorem Yc(i:aH c)(m:eH e n)(a8:dM a g)(a2 a3 a4 a5)(U:jI c e "list" (.type "list"))(W:jI c e "range" (.type "range"))
  (p:fG f) (P:g' c a e n f (bs y)):aN c a e n (.Call (.Name "list" a2) [.Call (.Name "range" a3) f [] a5] [] a4) (gT c.a 2 y):=
 λb4 b s b9 d2 c1 c8 d3 k F h a7=>aO h λc9 c3 J h=>Call_ (nf i m U k (yg A (evalArgs_plain (spliced_cons (Call_ (nf i m W k (yg (p.1 _ _) (oe p P k F J λc0 q c5 c7 z x v E=>aj h λd1 a6 h=>oG h λj h=>have j:=fh (i.e j)
   Es a6 E λt b0 b5 b7 c2 c4 c6 d0 Z a0 S Y=>spliced_nil (have l:=eu q t
    call_list_range (s:={s with heap:=q.push t,toks:=b0}) a8.1 Y Z a0 (by unfold ef at j;omega) λQ b1 b6 b8 a1 X o=>tm i (x.c l) (v.c l) h en a1 X (Iy o.1 λr b3 b2 G H=>(o.2 r b2 (gW.symm.trans H)).elim λa9 K=>C (S r b3 G) ⟨a9,K⟩) j λL T w u V=>a7 L Q b1 _ ((z.a (.c l)).a T) w u V)))))))))
theorem ql{h:Heap}:h.get? (h.objs.size+1)=N:=by cases q:h.get? _ with|none=>rfl|some o=>exact ak (ig q) (hu.mpr (gk _))
theorem XO(k:aH c)(v:eH e n)(r:dM a (h+1))(a1:n' c h g)(l)(a7)(b4 b6)(a4:jI c e x (.ref (c.e.a l)))
  (C:fG f) (a0:g' c a e n f (bs y)):aN c a e n (.Call (.Name x b4) f [] b6) (kl c.a g l a7 y):=
 λc4 b s c7 d7 d0 d5 d8 t K i b7=>aO i λc3 b9 U i=>aj i λw b5 i=>aO i λo d2 W i=>aO i λF c0 Y i=>Ue (k.16 l w b5) λa8 a9 b0 b1=>Call_ (nf k v a4 t (callWith_of (by rw[C.1];rfl) (keeps_K b1) (oe C a0 t K U λc8 q d3 c2 Q m L V=>⟨m.g k,by
   have p:=m.g k;have E:gY q ((q.push emptyDict).push (instObj (c.e.a l) q.objs.size)):=λc5 o j=>eu _ _ _ _ (eu _ _ _ _ j)
   refine wpAny_call (make_core (makes_of p a8) (looks_findIn p a9) (λb8=>bind_fn p b8 b0) (.inl A) (wB W λd1 u a3 b3 c9 f=>?_));have z:=m.f (x:=e.locals) (a0:=b9.a+1) (z:=.e l []) a3 b3 (TF ql en (py _)) k.5 E (.inr (an _ _ aM.c aM.f (rr _ _ A ((ye ..)▸fl _ A) (xJ _ _ _ (eu _ _ _ _ (fl _ A)) A (λj a2=>ak a2 (Array.not_mem_empty _)) (λd6=>A)) (λo f c6 G H=>by rw[(eu _ _ _ _ (fl _ A))]at G;rw[←R G]at H;exact J ((Data.dict.inj H).1) (bd _)) (λy a5=>ak A a5) (λv x j=>X j))));subst f;refine a1 w _ _ _ _ _ (o::c3) (.ref _::c2) F c0 ⟨r.1,by have:=r.2;exact ap [_,_,_] (.a 1 (.c (.c (.c (.a 0) (.f 10 (.c (.a 1) (.b 1)))) (.b 20)) (.b 1)) (.a 2) .b) (.c (.c (.c (.c (.a 0) (.b 1)) (.f 10 (.a 1))) (.b 20)) (.b 1)) (.a 2) A this,by have:=r.3;exact ap [_,_,_] (.a 1 (.c (.c (.c (.a 0) (.f 100 (.c (.a 1) (.b 1)))) (.b 200)) (.b 1)) (.a 2) .b) (.c (.c (.c (.c (.a 0) (.b 1)) (.f 100 (.a 1))) (.b 200)) (.b 1)) (.a 2) A this⟩ z.1 (an _ _ A (J u (ag _ A aM.c)) (z.2.e V)) Y λZ a6 c1 d4 T b2 P S=>?_
   cases F with
   |g=>exact⟨S,b7 Z a6 c1 _ ((Q.a z.2).a (T _)) (J (bo i) P) (yP (L.a z.2 λo j=>E _ o j) T b2) (J (aW i) (u▸(ag _ A ((T e.locals).1 _ _ _ aM.c))))⟩
   |_=>exact X i⟩)))
end
section
variable{d:Type}{c:bg d}{a:Around}{b:Value->Shared->Prop}{s:Shared}{e:Env}{n:Nat->Option Str}
theorem pd{P:Prop}(j:bc g x l i=B (h,f))(o:∀v,x l i=B (v,f)->nv g f.b v=B h->P):P:=aO j λv s k j=>qw j λt m=>by subst m;exact o v k t
theorem rp(j:x l i=B (v,f))(t:nv g f.b v=B h):bc g x l i=B (h,f):=
 (O (λz=>aB z _) j).trans (O (λz=>qv z f) t)
def yx(f:Expr):=∀e w,Dc f e w=(do let v ←w;standAt f.pos;holding [v] (truthy v))
theorem Xp(k:aH c)(o:yx f)(m:aN c a e n f x):fJ c a e n f (bc c.a x):=
 λQ b s v G w C H i F q t=>pd q λE j p=>wpAny_isTrue_value (m _ _ _ _ _ _ _ _ i F j λl r y z T g h V=>BP k g p V λu=>t l r u T g h) (o e _)
theorem EF(S:aH c)(a1:dM a m)(W:aN c a e n i x)(Z:aN c a e n f y)(H:ay c g j s.heap)(F:aT c e n g s.heap l)(p:ei c.a o x y l j=B (w,k))
  (a0:∀r q t f,bk e.locals g s.heap r q->ay c r k q->aT c e n r q l->w=.c f->h (.bool f) {s with heap:=q,toks:=t}):
  wpAny (model c.c c.b) a (eval i e) (λa3 z=>wpAny (model c.c c.b) a (eval f e) (λa4 C=>wpAny (model c.c c.b) a (compareOp (lC o) a3 a4) h b C) b z) b s:=
 aO p λb0 z P p=>aO p λb1 C Q p=>W _ _ _ _ _ _ _ _ H F P λa5 a6 a7 a8 K J E V=>Z _ _ _ _ _ _ _ _ J E Q λU v a2 a9 T u G L=>NQ (s:={s with heap:=v,toks:=a2}) S a1 u p (T.d V) L λf t Y X=>a0 U v t f (K.a T) (X▸u) G Y
theorem XP(l:aH c)(C:dM a h)(w)(q:behindInMarks (lC o) f=I)(p:aN c a e n g x)(v:aN c a e n f y):aN c a e n (.Compare g [lC o] [f] w) (ei c.a o x y):=
 λQ b s G K H J L j F t z=>wpAny_Compare1 (EF l C p v j F t λm u E f T k i r=>z m u E _ T k i (r▸A)) q
theorem Xm(m:aH c)(G:dM a h)(C)(r:behindInMarks (lC o) f=I)(q:aN c a e n g x)(z:aN c a e n f y):fJ c a e n (.Compare g [lC o] [f] C) (bc c.a (ei c.a o x y)):=
 λQ b s J S K L U j F v E=>pd v λP l t=>wpAny_isTrue_Compare1 (EF m G q z j F l λp w H f T k i u=>by
  subst u
  exact wpAny_truthy_bool (R t▸E p w H T k i)) r
theorem Xr(l:aH c)(t)(o:aN c a e n f x):aN c a e n (.UnaryOp .Not f t) (lj c.a x):=
 λQ b s y L z H P j F h u=>aO h λw C p h=>pd p λK k q=>wpAny_UnaryOp (o _ _ _ _ _ _ _ _ j F k λm r E G T g i V=>not_of
  (BP l g q V λv=>u m r v _ T (J (bo h) g) i (J (aW h) A)))
theorem Xo(t)(m:fJ c a e n f (bc c.a x)):fJ c a e n (.UnaryOp .Not f t) (bc c.a (lj c.a x)):=
 λQ b s y J z G K i F q u=>pd q λH g p=>aO g λw E o g=>wpAny_bind (m _ _ _ _ _ _ _ _ i F o λl r v T j h=>wpAny_pure (by
  have k:=aW g;subst k
  exact C (R p) (u l r v T (bo g▸j) h)))
theorem Xq(E)(v:fJ c a e n t (bc c.a x))(w:aN c a e n f y)(C:aN c a e n g z):aN c a e n (.IfExp t f g E) (lh c.a x y z):=
 λQ b s H V L U W p o h q=>aO h λG P r h=>wpAny_IfExp (v _ _ _ _ _ _ _ _ p o r λJ K S m l F=>by
  cases G with
  |true=>exact w _ _ _ _ _ _ _ _ l F h λi j k u T=>q i j k u (m.a T)
  |false=>exact C _ _ _ _ _ _ _ _ l F h λi j k u T=>q i j k u (m.a T))
theorem Xn(H)(w:fJ c a e n t (bc c.a x))(E:fJ c a e n f (bc c.a y))(G:fJ c a e n g (bc c.a z)):fJ c a e n (.IfExp t f g H) (bc c.a (lh c.a x y z)):=
 λQ b s K Y S W Z r p C q=>pd C λX u m=>aO u λJ U v o=>by refine wpAny_bind (w _ _ _ _ _ _ _ _ r p v λL P V l k F=>?_);cases J with|true=>exact E _ _ _ _ _ _ _ _ k F (rp o m) λh i j T=>q h i j (l.a T)|false=>exact G _ _ _ _ _ _ _ _ k F (rp o m) λh i j T=>q h i j (l.a T)
def mB(c:bg d)(a:Around)(e)(n:Nat->Option Str)(o:BoolOp)(k:List Expr)(x:aA d Bool):=∀Q b s g i l v j,
 ay c g i s.heap->aT c e n g s.heap l->x l i=B (v,j)->
 (∀f h t,bk e.locals g s.heap f h->ay c f j h->aT c e n f h l->Q v {s with heap:=h,toks:=t})->wpAny (model c.c c.b) a (allTrue o k e) Q b s
theorem Jb(o)(l:fJ c a e n f x):mB c a e n o [f] x:=λQ b s p u r v w k j m q=>by
 cases o with
 |And=>exact wpAny_allTrue_And_cons (l _ _ _ _ _ _ _ _ k j m λh i t T g F=>by
   cases v with
   |true=>exact wpAny_allTrue_And_nil (q h i t T g F)
   |false=>exact q h i t T g F)
 |Or=>exact wpAny_allTrue_Or_cons (l _ _ _ _ _ _ _ _ k j m λh i t T g F=>by
   cases v with
   |false=>exact wpAny_allTrue_Or_nil (q h i t T g F)
   |true=>exact q h i t T g F)
theorem Jw{s j:S d}(k:B (h,s)=B (i,j))(t:nv f s.b h=B g)(o:nv f j.b i=B v):g=v/\s=j:=by have l:=aW k;have m:=bo k;subst l;subst m;exact⟨R (t.symm.trans o),A⟩
theorem Xy(w:fJ c a e n g (bc c.a x))(G:mB c a e n .And f (bc c.a y)):mB c a e n .And (g::f) (bc c.a (gS c.a x y)):=
 λQ b s L Y P W Z l k h q=>pd h λV h j=>aO h λX S p h=>aO h λo U r h=>qw r λt f=>by subst f;refine wpAny_allTrue_And_cons (w _ _ _ _ _ _ _ _ l k (rp p t) λu C H T i F=>?_);cases o with|true=>exact G _ _ _ _ _ _ _ _ i F (rp h j) λv E K m=>q v E K (T.a m)|false=>have z:=Jw h t j;rw[←z.1]at q;exact q u C H T (J z.2 i) F
theorem Xz(w:fJ c a e n g (bc c.a x))(G:mB c a e n .Or f (bc c.a y)):mB c a e n .Or (g::f) (bc c.a (gh c.a x y)):=
 λQ b s L Y P W Z l k h q=>pd h λV h j=>aO h λX S p h=>aO h λo U r h=>qw r λt f=>by subst f;refine wpAny_allTrue_Or_cons (w _ _ _ _ _ _ _ _ l k (rp p t) λu C H T i F=>?_);cases o with|false=>exact G _ _ _ _ _ _ _ _ i F (rp h j) λv E K m=>q v E K (T.a m)|true=>have z:=Jw h t j;rw[←z.1]at q;exact q u C H T (J z.2 i) F
theorem IZ(p)(i:mB c a e n o f x):fJ c a e n (.BoolOp o f p) x:=λQ b s h k l v m g F j q=>wpAny_isTrue_BoolOp (i Q b s h k l v m g F j q)
def mC(c)(a:Around)(e)(n:Nat->Option Str)(o:BoolOp)(i:List Expr)(x:aA d E):=∀p Q b s g f l v h,
 ay c g f s.heap->aT c e n g s.heap l->x l f=B (v,h)->pL c e n g s l h v Q->wpAny (model c.c c.b) a (boolOp p o (evalEach i e)) Q b s
theorem Jc(o)(i:aN c a e n f x):mC c a e n o [f] x:=λz Q b s h k l v m g F j q=>i Q b s h k l v m g F j q
theorem Jd(K:aH c){t:BoolOp}{Q}{r}(P:aN c a e n g x)(C:ay c r m s.heap)(F:aT c e n r s.heap l)(E:x l m=B (v,j))(G:rk c.a v j=B (f,k))
  (U:∀o q u w,bk e.locals r s.heap o q->ay c o k q->aT c e n o q l->ao c.e o v w->wpAny (model c.c c.b) a (match t,f with
   |.And,I=>pure w
   |.Or,D=>pure w
   |_,_=>boolOp p t (evalEach (h::i) e)) Q b {s with heap:=q,toks:=u}):wpAny (model c.c c.b) a (boolOp p t (evalEach (g::h::i) e)) Q b s:=
 qw G λW H=>wpAny_bind (P _ _ _ _ _ _ _ _ C F E λL S Y X T y z V=>wpAny_bind (wpAny_standAt (wpAny_bind (wpAny_holding
  (BP K y W V λu=>U L S u X T (J H y) z V)))))
theorem XA(t:aH c){x y}(w:aN c a e n f x)(E:mC c a e n .And (g::h) y):mC c a e n .And (f::g::h) (gS c.a x y):=
 λG Q b s S a0 U Y a1 l k i q=>aO i λZ W p i=>aO i λo X r i=>Jd t w l k p r λu z H L T j F V=>by cases o with|true=>exact E G _ _ _ _ _ _ _ _ j F i λv C K P m=>q v C K P (T.a m)|false=>exact wpAny_pure (q u z H L T (J (bo i) j) F (J (aW i) V))
theorem XB(t:aH c){x y}(w:aN c a e n f x)(E:mC c a e n .Or (g::h) y):mC c a e n .Or (f::g::h) (gh c.a x y):=
 λG Q b s S a0 U Y a1 l k i q=>aO i λZ W p i=>aO i λo X r i=>Jd t w l k p r λu z H L T j F V=>by cases o with|false=>exact E G _ _ _ _ _ _ _ _ j F i λv C K P m=>q v C K P (T.a m)|true=>exact wpAny_pure (q u z H L T (J (bo i) j) F (J (aW i) V))
theorem I'(p)(i:mC c a e n o f x):aN c a e n (.BoolOp o f p) x:=λQ b s h k l v m g F j q=>i p Q b s h k l v m g F j q
theorem XS(k:aH c)(m)(p):aN c a e n (.Dict [] [] p) (pf c.a m):=
 λQ b s r x v w y g F l q=>wpAny_Dict_empty (wq k g F l (λt o=>⟨A,(fQ (#[]) (fl _ A) A ⟨λj h=>ak h cI,λj h=>ak h cI,mr⟩ (ek _))⟩) λu T i f V=>q _ _ _ _ T i f V)
end
section
variable{p:Program}{w:World}{a:Around}{b:Value->Shared->Prop}{s:Shared}
theorem Ou{c:Array Value}{i}(h):c.toList.drop i=c[i]::c.toList.drop (i+1):=List.drop_eq_getElem_cons h
theorem Os{f}(q:t≠i):∀n c s Q,s.heap.IsListIter i t c->s.heap.IsList t f->c+n<=f.size->
  (∀h,h.IsListIter i t (c+n)->kt i s.heap h->Q ((f.toList.drop c).take n) {s with heap:=h})->wpAny (model p w) a (draw (.ref i) n) Q b s:=λn=>by
 induction n with|zero=>exactλc s Q e x x d=>wpAny_pure (d _ e (Z5 ..))|succ n v=>exactλc s Q e l g d=>by have j:=cO (px (lq n)) g;refine wpAny_bind (wpAny_pyNext_list_item e l (xP j) λy m k=>?_);refine wpAny_bind (wpAny_holding (v _ _ _ m (l.extBut k.extBut q) (by rw[gX,kr 1];exact g) λu o r=>wpAny_pure ?_));have z:=d u (by rw[kr n 1,←gX];exact o) (k.trans r);rw[Ou j]at z;exact z
theorem D6{i}(n:a.handled=N)(h:s.heap.IsList t i)
  (l:∀e,LH s.heap.objs.size s.heap e->c i.toList {s with heap:=e}):wpAny (model p w) a (unpackItems (.ref t) i.size N) c b s:=by
 have g:t≠s.heap.objs.size:=h.elim λo r=>bw (ig r.1)
 refine wpAny_bind ?_;refine wpAny_bind (wpAny_specialOf h.typeIs slot_list_iter.lookup ?_);refine wpAny_pure ?_;refine wpAny_bind (wpAny_holding (wpAny_pyIter_list h ?_));exact wpAny_bind (wpAny_holding (Os g _ 0 _ _ (bi _ (fl _ A) A A) (h.push _) (pv (ie _)) λv q j=>(C O9 (C (Lv (bd _)) (C (if_neg (CX _)) (wpAny_bind (wpAny_holding (wpAny_pyNext_list_end n q ((h.push _).extBut j.extBut g) (L4 (pv (ie _).symm)) λu m=>(wpAny_pure (l u λd o f k=>m d o f (j.extBut d o f (jE _ k))))))))))))
end
section
variable{k:Type}{h:bg k}{i:Around}{j:Value->Shared->Prop}{s:Shared}{g:Env}{n l:Nat->Option Str}
theorem BR(y:i.handled=N)(p:ay h a c s.heap){v}(o:ov h.a c.b x=B v)(e:ao h.e a x u)
  (z:∀d m,gY s.heap d->aE h.e a v m->b m {s with heap:=d}):wpAny (model h.c h.b) i (unpackItems u v.length N) b j s:=by
 have t:∀{d},LH _ _ d->gY s.heap d:=λf E K r=>f E K (bw (ig r)) r
 cases x with|d L=>exact aq e λq m e=>by exact C e.1 (J (R o) (J (e.2.2.h) (wpAny_unpackItems_tuple y (p.3 q m e.2.1) λd f=>z d _ (t f) (J (R o) e.2.2))))|b S=>exact e.elim λq w=>p.a (jm o) w.2 λm Q F G H P=>by exact C w.1 (J H (D6 y (bi _ F A ⟨_,A⟩) λd f=>z d _ (t f) G))|_=>exact X o
noncomputable def hF(n:Nat->Option Str)(b:List Nat):Nat->Option Str:=λa=>bif b.any (M a)then N else n a
theorem yG{c:List Nat}{b:Nat}:c.any (M b)=D↔b∈c:=xW.trans ⟨λa=>a.elim λd a=>C (cb.mp a.2) a.1,λa=>(ag b a (gj b))⟩
theorem of(c:hF n a b=B y):n b=B y/\b∉a:=by have c:(bif a.any _ then N else n b)=B y:=c;cases p:a.any _ with|true=>rw[p]at c;exact X c|false=>rw[p]at c;exact⟨c,λd=>ck ((yG.mpr d).symm.trans p)⟩
theorem pS(c:n a=B y)(d:a∉b):hF n b a=B y:=by
 show(bif b.any _ then N else n a)=B y
 exact C (KX.mpr λe=>d (yG.mp e)) c
theorem aT.d(F:aT h g n m o p)(v:∀q y,l q=B y->n q=B y):aT h g l m o p:=⟨F.1.imp λz x=>⟨x.1,λq w y r t u=>x.2 q w y r t (v q y u)⟩,F.2,F.3,F.4,F.5⟩
theorem aT.f(F:aT h g n m o p)(r):aT h g (hF n r) m o p:=F.d λz z q=>(of q).1
theorem T'{b:aC}{v}(c:a<b.length):Z (b.set a v) a=B v:=(gP _ _).trans (List.getElem?_set_self c)
theorem Hy{v:E}(d:a≠b):Z (c.set b v) a=Z c a:=by rw[gP,gP,List.getElem?_set_ne (rJ d)]
abbrev pM(h:bg k)(g)(n:Nat->Option Str)(a)(s:Shared)(d:S k)(c)(Q:Unit->Shared->Prop):=∀b t,bk g.locals a s.heap a b->ay h a d b->aT h g n a b c->Q () {s with heap:=b,toks:=t}
theorem tR(V:eH g n){y}(W:n b=B y)(X:g.kindOf y=B .local)(a0:ay h a e s.heap)(F:aT h g (hF n (b::f)) a s.heap m)(a8:ao h.e a v u)(a6:fc m b v=B d)(w:pM h g (hF n f) a s e d c):wpAny (model h.c h.b) i (storeName g y u) c j s:=
 Bp (P:=λd=>pM h g _ a s e d c->wpAny _ i _ c j s) a6 (λa3 w=>F.1.elim λb2 Y=>wpAny_storeName_local X Y.1 (λL Z a7=>by
  have G:∀x p,x≠g.locals->s.heap.get? x=B p->L.get? x=B p:=λx p a4 o=>(a7.2 x a4).trans o
  have U:bk _ a _ a L:=⟨λz z z o=>o,λz z o=>o,λz z z o=>.inl o,λz z o=>.inl o,λq p o=>(di (q=g.locals)).elim (λP=>C P (cf Z λa9 z z S=>⟨a9,S.1⟩)) λP=>⟨p,G q p P o⟩,λq p o z a5=>G q p a5 o⟩
  refine w L _ U (a0.d ⟨F.2,F.3,F.4,(py _).symm⟩ G) ⟨(ag _ Z (λQ S T H a2 K=>(di (Q=b)).elim (λE=>?_) λE=>?_)),F.2,F.3,F.4,λy w o=>(F.5 y w o).elim λp a1=>U.5 w p a1⟩
  ·rw[E]at H K;have r:=R ((of K).1.symm.trans W);exact .inl ⟨(C r X),(ag u (if_pos r) (J (R ((T' a3).symm.trans H)) a8))⟩
  ·have r:=of K;exact(Y.2 Q S T ((Hy E).symm.trans H) a2 (pS r.1 λb1=>(cB.mp b1).elim E r.2)).imp
    (λt=>⟨t.1,t.2.imp λb0 t=>⟨(if_neg λo:T=y=>E (V.4 Q b T r.1 (C o W))).trans t.1,t.2⟩⟩)
    λt=>⟨t.1,c' t.2 λq b0 t=>(da t.1 (sX t.2.1 λp o=>G q p t.2.2.1.4 o) t.2.2.1 t.2.2.2)⟩) (by exact C V.1 A)) w
mutual
def kz(n:Nat->Option Str)(g:Env):dN->Expr->Prop
 |.a c,e=>∃y p,e=.Name y p/\n c=B y/\g.kindOf y=B .local
 |.e b,e=>∃a d p,e=.Tuple a d p/\si n g b a
termination_by structural t=>t
def si(n:Nat->Option Str)(g:Env):List dN->List Expr->Prop
 |[],a=>a=[]
 |t::b,a=>∃e r,a=e::r/\kz n g t e/\si n g b r
termination_by structural t=>t
end
mutual
noncomputable def kk:dN->List Nat
 |.a a=>[a]
 |.e b=>oZ b
termination_by structural t=>t
noncomputable def oZ:List dN->List Nat
 |[]=>[]
 |t::r=>kk t++oZ r
termination_by structural t=>t
end
theorem yJ(a:kz n g t e):assignEach (e::r) g=(I,assign e g)::assignEach r g:=by cases t with|a c=>exact aq a λy p a=>C a.1 A|e f=>exact cf a λb d p a=>C a.1 A
inductive Du(g)(a)(e) where
 |mk (c:e.length=a)
  (b:(assignEach e g).length=e.length)
  (d:(assignEach e g).findIdx? (·.1)=N)
theorem G6:∀{t}{e},si n g t e->Du g t.length e:=λ{t}=>by
 induction t with
 |nil=>exact @λe a=>C a ⟨A,A,A⟩
 |cons d t b=>
  exact @λe a=>aq a λc r a=>have z:=b a.2.2
    C a.1 ⟨O (· +1) z.1,by exact C (yJ a.2.1) (O (· +1) z.2),by exact C (yJ a.2.1) (C P0 (O (lr (· +1)) z.3))⟩
theorem M':∀{t}{v}{c d},mJ a t v b c=B d->v.length=t.length:=λ{t}=>by
 induction t with
 |nil=>exact @λm=>by cases m with|nil=>exact @λz z z=>A|cons _ _=>exact @λz z e=>X e
 |cons q t f=>exact @λo=>by cases o with|nil=>exact @λz z e=>X e|cons r v=>exact @λc d e=>aj e λp z e=>O _ (f e)
section
variable(c:i.handled=N)(f:eH g n){a:aM}{b:S k}
include c f
mutual
theorem DN:∀r {y} (_:kz n g r y) {m} {s} {o p} (_:ay h a b s.heap) (_:aT h g (hF n (kk r++m)) a s.heap o) {G} {E} (_:ao h.e a G E)
  (_:lA h.a r G b.b o=B p) {Q} (_:pM h g (hF n m) a s b p Q),wpAny (model h.c h.b) i (assign y g E) Q j s
 |.a a7,y,d,m,s,o,p,q,F,G,E,u,e,Q,w=>aq d λb2 a4 d=>C d.1 (wpAny_assign_Name (tR f d.2.1 d.2.2 q F u e w))
 |.e t,y,d,m,s,o,p,q,F,G,E,u,e,Q,w=>cf d λz a8 a4 d=>aj e λv a3 e=>by have V:=G6 d.2;rw[d.1];refine wpAny_bind (wpAny_standAt ?_);unfold unpack;exact C V.2 (C V.3 (C V.1 (J (M' e) (wpAny_bind (wpAny_holding (BR c q a3 u λL x S a0=>JC t d.2 (s:={s with heap:=L}) (q.c S) (F.c S) a0 e λP U T K H=>w P U ((bk.c S).a T) K H))))))
termination_by structural r=>r
theorem JC:∀t {z} (_:si n g t z) {m} {s} {o p} {v} {x} (_:ay h a b s.heap) (_:aT h g (hF n (oZ t++m)) a s.heap o) (_:aE h.e a v x)
  (_:mJ h.a t v b.b o=B p) {Q} (_:pM h g (hF n m) a s b p Q),wpAny (model h.c h.b) i (assignInOrder ((assignEach z g).map (·.2)) x) Q j s
 |[],z,d,m,s,o,p,v,x,q,F,u,e,Q,w=>by subst d;cases v with|nil=>exact u.f (P:=λx=>wpAny _ i _ Q j s) (wpAny_pure (w _ _ (.b _ _ _) q (J (R e) F)))|cons=>exact X e
 |r::t,z,d,m,s,o,p,v,x,q,F,u,e,Q,w=>by cases v with|nil=>exact X e|cons G v=>exact aq d λy b0 d=>aj e λa9 a5 e=>u.b (P:=λx=>wpAny _ i _ Q j s) λE b1 a1 a2=>by exact C d.1 (C (yJ d.2.1) (wpAny_bind (wpAny_holding (DN r d.2.1 (m:=oZ t++m) q (J (kp (kk r) (oZ t) m) F) a1 a5 λL U T K H=>JC t d.2.2 (s:={s with heap:=L,toks:=U}) K H a2 e λP a6 Z Y W=>w P a6 (T.a Z) Y W))))
termination_by structural t=>t
end
theorem DO(y:kz n g t e)(q:ay h a b s.heap)(F:aT h g (hF n (kk t)) a s.heap m)(z:ao h.e a v u)
  (x:lA h.a t v b.b m=B o) (C:pM h g n a s b o d):wpAny (model h.c h.b) i (assign e g u) d j s:=
 DN c f t y q (by rw[ln];exact F) z x λw E T r p=>C w E T r (p.d λG H e=>pS e cI)
end
end
section
variable{k:Type}{g:bg k}{i:Around}{j:Value->Shared->Prop}{s:Shared}{h:Env}{n:Nat->Option Str}
def uB(g:bg k)(c:aM)(L:Addr)(u d:Heap)(b:Addr)(a:Nat):gG->Prop
 |.g e=>∃l,c.a e I=B l/\d.IsListIter b l a
 |.b e w r=>∃p,c.a e I=B p/\d.IsKeyIter b p a w r
 |.d m=>(∃t v,c.e t=B v/\aE g.e c m v/\d.IsTupleIter b t a)∨(∃x o,IsRangeIter d b (x+a*o) (m.length-a) o/\(∀(q:Nat) y,m[q]?=B y->y=.a (.a (x+q*o)))/\a<=m.length)
 |.a e=>∃l f z,c.a e I=B l/\IsEnum d b f a z/\d.IsListIter f l a/\dU g c L f/\u.get? f=N/\b≠f
inductive jK(g:bg k)(b)(L)(c d)(t)(a)(e) where
 |mk (l:dU g b L a)
  (f:c.get? a=N)
  (m:uB g b L c d a e t)
theorem jK.a{L}{r}{v}(x:jK g e L l c r b v)(T:bk L e c f d):jK g f L l d r b v:=by
 have p:∀o,c.get? b=B o->d.get? b=B o:=λo m=>x.1.c T m
 have t:=x.3;cases r with|g u=>exact t.elim λq y=>y.2.elim λo m=>⟨x.1.a T m.1,x.2,q,T.1 _ _ _ y.1,o,p o m.1,m.2⟩|b u P m=>exact t.elim λw y=>y.2.elim λo m=>⟨x.1.a T m.1,x.2,w,T.1 _ _ _ y.1,o,p o m.1,m.2⟩|d K=>exact t.elim (λy=>aq y λG H y=>y.2.2.elim λo m=>⟨x.1.a T m.1,x.2,.inl (an G H (T.2 _ _ y.1) (T.e y.2.1) (ag o (p o m.1) m.2))⟩) λy=>aq y λJ F y=>⟨x.1.a T y.1,x.2,.inr (dE J F (p _ y.1) y.2)⟩|a u=>exact cf t λq z E y=>y.2.2.1.elim λC m=>⟨x.1.a T y.2.1,x.2,q,z,E,T.1 _ _ _ y.1,p _ y.2.1,(ag C (y.2.2.2.1.c T m.1) m.2),y.2.2.2.1.a T m.1,y.2.2.2.2⟩
theorem kM(m:ay g b d c)(F:aT g h n b c l)(f:c.get? a=N):dU g b h.locals a:=
 ⟨(λr p e=>(m.h e).elim λo q=>bZ f q),
  (by
  cases q:b.e a with
  |none=>rfl
  |some v=>exact(m.j q).elim λo e=>bZ f e),
  (by
  cases q:g.d.get? a with
  |none=>rfl
  |some o=>exact bZ f (m.4 a o q)),
  (λe=>F.b.elim λo q=>bZ f (C e q))⟩
theorem RA(m:ay g a b s.heap)(G:aT g h n a s.heap l)(d:ta g.a b.b v=B t)(e:ao g.e a v u)
  (q:∀x E,jK g a h.locals s.heap (s.heap.push E) t x 0->c (.ref x) {s with heap:=s.heap.push E}):wpAny (model g.c g.b) i (pyIter u) c j s:=by
 have r:=kM m G en;cases v with
 |d J=>have d:=R d;subst d;exact aq e λo F e=>C e.1 (wpAny_pyIter_tuple (m.3 o F e.2.1) (q _ _ ⟨r,en,.inl (an o F e.2.1 e.2.2 (bi _ (fl _ A) A A))⟩))
 |b y=>
  refine e.elim λo f=>C f.1 (?_)
  have d:ow y _=B t:=d;cases p:g.a.a b.b y with|a J=>rw[p]at d;have d:=R d;subst d;exact m.a p f.2 λS Q H z z z=>wpAny_pyIter_list (bi _ H A ⟨_,A⟩) (q _ _ ⟨r,en,o,f.2,_,fl _ A,A,A⟩)|b P L=>rw[p]at d;exact aY d λz d=>by have d:=R d;subst d;exact m.b p f.2 λK z w=>Il (m.i f.2) w.1 (q _ _ ⟨r,en,o,f.2,C w.b ⟨_,fl _ A,A,A⟩⟩)|_=>rw[p]at d;exact X d
 |_=>exact X d
def uD(e:Expr):=(∃y p,e=.Name y p)∨∃a b p,e=.Tuple a b p
theorem ti{o}(m:s.heap.get? c=B o)(e:o.cls=.type b)(f:o.data=.fields v)(l:["enumerate","zip","dict_itemiterator","dict_reverseitemiterator","odict_iterator","itertools.zip_longest","itertools.pairwise"].contains b=I)
  (p:uD t) (q:a () s):wpAny (model g.c g.b) i (letOwnedTupleGo t (.ref c) u) a j s:=
 p.elim (λd=>aq d λz r d=>C d (wpAny_pure q)) λd=>cf d λx y r d=>by
  refine C d ?_;cases u with
  |ref w=>
   refine wpAny_bind (wpAny_load m ?_);refine C e (C f ?_);show wpAny _ _ (if(["enumerate","zip","dict_itemiterator","dict_reverseitemiterator","odict_iterator","itertools.zip_longest","itertools.pairwise"].contains b&&_)=D then _ else _) a j s
   exact C l (wpAny_pure q)
  |_=>exact wpAny_pure q
inductive cR(g)(h)(n)(d)(c)(a)(b)(e:S k)(l) where
 |mk (T:bk h.locals d c a b)
  (f:ay g a e b)
  (F:aT g h n a b l)
  (m:∀y q,h.cells.lookup y=B q->∃o,c.get? q=B o)
theorem cR.c(y:cR g h n q t p r x w)(T:bk h.locals p r m o)(z:ay g m v o)(F:aT g h n m o u):cR g h n q t m o v u:=⟨y.1.a T,z,F,y.4⟩
theorem cR.f(r:ay g m q o)(F:aT g h n m o p):cR g h n m o m o q p:=⟨.b _ _ _,r,F,F.5⟩
section
variable{q m:aM}{o p u:Heap}{t:S k}{r:aC}
theorem cR.e(z:cR g h n q o m p t r)(P:Addr->Prop)(K:∀H,P H->dU g m h.locals H/\o.get? H=N)(F:∀x v,¬P x->p.get? x=B v->u.get? x=B v):cR g h n q o m u t r:=
 have L:∀x v,o.get? x=B v->¬P x:=λx v w E=>bZ (K x E).2 w
 have Q:=λy C w=>(z.4 y C w).elim λv J=>L C v J
 ⟨⟨z.1.1,z.1.2,z.1.3,z.1.4,λx v w=>(z.1.5 x v w).imp λY J=>F x Y (L x v w) J,λx v w W V=>F x v (L x v w) (z.1.6 x v w W V)⟩,
  ⟨z.2.1,λS=>(z.2.2 S).d λx y Z w C=>F y Z (λE=>(K y E).1.1 S x w) C,λy a1 w=>qq (z.2.3 y a1 w) λv C=>F y v (λE=>bZ (K y E).1.2 w) C,λy v w=>F y v (λE=>bZ (K y E).1.3 w) (z.2.4 y v w)⟩,
  ⟨z.3.1.imp λa5 y=>⟨mi y.1 λv a4 a3 E=>⟨F _ _ (λa2=>(K _ a2).1.4 A) E.1,E.2⟩,λX a0 T H x U=>(y.2 X a0 T H x U).imp id λG=>⟨G.1,c' G.2 λC a6 G=>(aK G.1 (sX G.2.1 λv w=>F C v (Q T C G.1) w) G.2.2)⟩⟩,
   z.3.2,z.3.3,z.3.4,λy C w=>(z.3.5 y C w).imp λv J=>F _ _ (Q y C w) J⟩,z.4⟩
theorem cR.b(G:cR g h n q o m p t r)(F:dU g m h.locals v)(E:o.get? v=N)(z:∀w x,w≠v->p.get? w=B x->u.get? w=B x):cR g h n q o m u t r:=G.e (· =v) (λH y=>C y ⟨F,E⟩) z
theorem Kl(d:m.e a=N)(b)(c)(e:m.e b=B c):(m.d a v).e b=B c:=(aM.g λz=>bZ d (z▸e)).trans e
theorem dU.d{L}(e:dU g m L z)(f:z≠b):dU g (m.d b v) L z:=⟨e.1,(aM.g f).trans e.2,e.3,e.4⟩
theorem cR.l(x:cR g h n q o m p t r)(Q:dU g m h.locals v)(S:o.get? v=N)(X:p.IsTuple v w.toArray):cR g h n q o (m.d v w) p t r:=
 have L:=Kl Q.2
 ⟨⟨x.1.1,λK G y=>L K G (x.1.2 K G y),x.1.3,λE G y=>(xt y).elim (λF=>.inr (C F.1 S)) λF=>x.1.4 E G F.2,x.1.5,x.1.6⟩,
  ⟨⟨x.2.1.1,x.2.1.2,x.2.1.3,λP K E y=>(aM.g λF:E=v=>Q.1 P K (J F y)).trans (x.2.1.4 P K E y),x.2.1.5,λE G y=>L E G (x.2.1.6 E G y)⟩,
   λP=>ec.e (x.2.2 P) (λH H H y=>y) (λH y=>y) L,λE G y=>(xt y).elim (λF=>C F.1 (F.2▸X)) λF=>x.2.3 E G F.2,x.2.4⟩,
  ⟨x.3.1.imp λa2 E=>⟨E.1,λY a1 T U V W=>(E.2 Y a1 T U V W).imp (λz=>⟨z.1,z.2.imp λa0 z=>⟨z.1,ao.e (t:=m) (u:=m.d v w) (λH H H y=>y) L _ _ z.2⟩⟩)
    λz=>⟨z.1,c' z.2 λZ a0 z=>(da z.1 z.2.1 (z.2.2.1.d λF=>(x.4 T Z z.1).elim λa3 y=>bZ S (J F y)) (ao.e (t:=m) (u:=m.d v w) (λH H H y=>y) L _ _ z.2.2.2))⟩⟩,
   x.3.2,(aM.g (rJ Q.4)).trans x.3.3,x.3.4,x.3.5⟩,x.4⟩
end
def Mh(g)(i:Around)(h)(n:Nat->Option Str)(f)(d)(q:S k)(m)(t)(c)(l)(o)(v)(u:Value)(e:Shared):=
 ∀P E,(∀a b p,cR g h n f d a b q m->jK g a h.locals d b t c (l+1)->ao g.e a v u->P () {e with heap:=b,toks:=p})->wpAny (model g.c g.b) i (letOwnedTupleGo o (.ref c) u) P E e
inductive pG(g)(i)(h)(n)(b)(c)(s:Shared)(m)(e:S k)(l)(o)(f)(d)(p)(r)(Q:Option _->Shared->Prop) where
 |mk (q:r=N->∀a,cR g h n b c m a e l->Q N {s with heap:=a})
  (d:∀v,r=B v->∀u a t,Mh g i h n b c e l o f d p v u {s with heap:=a,toks:=t}->Q (B u) {s with heap:=a,toks:=t})
section
variable(o:i.handled=N){m c:aM}{f:Heap}{l:S k}{p:aC}{b:Addr}{a:Nat}{r:Option E}(x:cR g h n m f c s.heap l p)(t:dU g c h.locals b)(d:f.get? b=N){u:Expr}(q:uD u){e:Option Value->Shared->Prop}
include o x t d
section
include q
theorem TI(w:jl g.a (.g v) a l.b=B r)(T:uB g c h.locals f s.heap b a (.g v))(J:pG g i h n m f s c l p (.g v) b a u r e):wpAny (model g.c g.b) i (pyNext (.ref b)) e j s:=
 T.elim λQ y=>aj w λa2 S w=>x.2.a (jm S) y.1 λa1 Z G H Y a3=>by have w:=R w;cases r with|none=>exact wpAny_pyNext_list_end o y.2 (bi _ G A ⟨_,A⟩) (gW.symm.trans (H.g w)) λz L=>J.1 A z (x.b t d L)|some V=>exact(H.c w).elim λU E=>wpAny_pyNext_list_item y.2 (bi _ G A ⟨_,A⟩) (gW.symm.trans E.1) λz F P=>J.2 V A U z _ λX W K=>F.elim λa0 C=>ti C.1 C.2.1 C.2.2 A q (K c z _ (x.b t d P.extBut) ⟨t,d,Q,y.1,F⟩ E.2)
theorem TG(z:jl g.a (.b v y w) a l.b=B r)(a5:uB g c h.locals f s.heap b a (.b v y w))(X:pG g i h n m f s c l p (.b v y w) b a u r e):wpAny (model g.c g.b) i (pyNext (.ref b)) e j s:=
 a5.elim λP H=>aj z λW a3 z=>aY z λJ z=>V J λJ T=>V J λa6 S=>x.2.b (wF a3) H.1 λY a6 E=>by
  have z:=R z;have U:s.heap.IsKeyIter b P a Y.size W.2:=by exact C E.b (C (cb.mp S) (C (cb.mp T) H.2))
  cases G:Z W.1 a with|none=>rw[G]at z;exact Hj o U E.1 (C E.b (CN.mp ((gP _ _).symm.trans G))) λF a2=>X.1 z.symm F (x.b t d a2)|some a0=>rw[G]at z;exact(E.2.c ((gP _ _).symm.trans G)).elim λa9 Q=>Hk U E.1 (gW.symm.trans Q.1) λF L a4=>X.2 a0.1 z.symm _ F _ λa8 a7 a1=>L.elim λb0 K=>ti K.1 K.2.1 K.2.2 A q (a1 c F _ (x.b t d a4.extBut) ⟨t,d,P,H.1,by rw[E.b,cb.mp S,cb.mp T]at L;exact L⟩ Q.2.2)
theorem TL(H:Z w a=r){y}(E:c.e v=B y)(F:aE g.e c w y)(K:s.heap.IsTupleIter b v a)(P:pG g i h n m f s c l p (.d w) b a u r e):wpAny (model g.c g.b) i (pyNext (.ref b)) e j s:=by cases r with|none=>exact wpAny_pyNext_tuple_end o K (x.2.3 v y E) (by exact C P5 (F.g H)) λz S=>P.1 A z (x.b t d S)|some V=>exact(F.c H).elim λU J=>wpAny_pyNext_tuple_item K (x.2.3 v y E) (BN J.1) λz L T=>P.2 V A U z _ λX W Q=>L.elim λY G=>ti G.1 G.2.1 G.2.2 A q (Q c z _ (x.b t d T.extBut) ⟨t,d,.inl (an v y E F L)⟩ J.2)
theorem TJ(E:Z v a=r){y w}(H:IsRangeIter s.heap b (y+a*w) (v.length-a) w)(G:∀(J:Nat) P,v[J]?=B P->P=.a (.a (y+J*w)))(a1:a<=v.length)(K:pG g i h n m f s c l p (.d v) b a u r e):wpAny (model g.c g.b) i (pyNext (.ref b)) e j s:=by
 rw[gP]at E;cases r with
 |none=>have a0:=CN.mp E;exact wpAny_pyNext_range_end o H (by omega) λz U=>K.1 A z (x.b t d U)
 |some L=>
  have V:=qB E;refine wpAny_pyNext_range_item H (by omega) λz F W=>K.2 L A _ z _ λY X T=>?_
  have Q:y+a*w+w=y+(a+1:Nat)*w:=by rw[CE,M1,M8,rA]
  have S:v.length-a-1=v.length-((a+1:Nat):Int):=by rw[CE,Int.sub_sub]
  rw[Q,S]at F;exact ti F A A A q (T c z _ (x.b t d W.extBut) ⟨t,d,.inr (an y w F G V)⟩ (C (G a L E) ⟨_,A⟩))
end
theorem TH(G:jl g.a (.a v) a l.b=B r)(b3:uB g c h.locals f s.heap b a (.a v))(a3:pG g i h n m f s c l p (.a v) b a (.Tuple w y z) r e):wpAny (model g.c g.b) i (pyNext (.ref b)) e j s:=
 cf b3 λb1 U c2 F=>aj G λb5 b2 G=>x.2.a (jm b2) F.1 λc3 c1 a1 a2 c0 X=>by
  have G:=R G;have W:=F.2.2.2.1;have V:=F.2.2.2.2.1;have S:=F.2.2.2.2.2;cases P:Z b5 a with
  |none=>rw[P]at G;exact wpAny_pyNext_enum_end o F.2.1 F.2.2.1 (bi _ a1 A ⟨_,A⟩) (gW.symm.trans (a2.g P)) λQ a5=>a3.1 G.symm Q (x.b W V a5)
  |some c4=>
   rw[P]at G;refine(a2.c P).elim λb4 a0=>wpAny_pyNext_enum_item F.2.1 F.2.2.1 (bi _ a1 A ⟨_,A⟩) (gW.symm.trans a0.1) S λQ a8 a7 a9 b9 b0=>a3.2 _ G.symm _ Q _ λb7 b6 a4=>wpAny_letOwnedTupleGo_enum a8 λb8 a6 T=>?_
   have Y:=kM x.2 x.3 en;exact a4 _ _ _ ((x.e (λH=>H=b∨H=U) (λH J=>J.elim (λE=>C E ⟨t,d⟩) λE=>C E ⟨W,V⟩) λH L J E=>(T.2 H λK=>J (.inl K)).trans (b0 H L (λK=>J (.inl K)) (λK=>J (.inr K)) E)).l Y (wC x.1.5 en) (bi _ ((T.2 _ (rJ (bw (ig F.2.1)))).trans a9) A ⟨0,A⟩)) ⟨t.d (bw (ig F.2.1)),d,b1,U,b4,F.1,C (CE a) a6,(a7.elim λL E=>(ag L ((T.2 U (rJ S)).trans E.1) E.2)),W.d (F.2.2.1.elim λL E=>bw (ig E.1)),V,S⟩
    (an _ _ A aM.i (an _ _ A ⟨_,A⟩ (an _ _ A (ao.e (t:=c) (u:=c.d _ _) (λX X X E=>E) (Kl Y.2) _ _ a0.2) A)))
end
theorem TK(q:i.handled=N)(u:jl g.a t d f.b=B r)(x:cR g h n m c b s.heap f o)(y:jK g b h.locals c s.heap t a d)
  (w:uD e) (H:∀p,t=.a p->∃C E F,e=.Tuple C E F) (v:pG g i h n m c s b f o t a d e r l):wpAny (model g.c g.b) i (pyNext (.ref a)) l j s:=by
 cases t with|g p=>exact TI q x y.1 y.2 w u y.3 v|b p L K=>exact TG q x y.1 y.2 w u y.3 v|d U=>exact y.3.elim (λz=>aq z λQ S z=>TL q x y.1 y.2 w (R u) z.1 z.2.1 z.2.2 v) λz=>aq z λT P z=>TJ q x y.1 y.2 w (R u) z.1 z.2.1 z.2.2 v|a p=>exact cf (H p A) λC E F G=>TH q x y.1 y.2 u y.3 (J G v)
end
def nZ(a:gZ)(g:aM):cQ->Flow->Prop
 |.a,f=>f=.next
 |.c,f=>f=.cont
 |.b v,f=>∃u,f=.ret u/\ao a g v u
section
variable{a:Type}(c:bg a)(b:Around)(e:Env)(n:Nat->Option Str)
abbrev my(i)(s:Shared)(l)(j:S a)(d)(Q:Flow->Shared->Prop):=∀g h t f,bk e.locals i s.heap g h->ay c g j h->aT c e n g h l->nZ c.e g d f->Q f {s with heap:=h,toks:=t}
def eU(j:Stmt)(y:dv a):=∀Q E s g h l f d i,
 ay c g h s.heap->aT c e n g s.heap l->y l h=B ((f,d),i)->my c e n g s d i f Q->wpAny (model c.c c.b) b (exec j e) Q E s
def mz(j:List Stmt)(y:dv a):=∀Q E s g h l f d i,
 ay c g h s.heap->aT c e n g s.heap l->y l h=B ((f,d),i)->my c e n g s d i f Q->wpAny (model c.c c.b) b (execs j e) Q E s
end
section
variable{k:Type}{g:bg k}{i:Around}{j:Value->Shared->Prop}{s:Shared}{h:Env}{n:Nat->Option Str}
theorem nh{r l c:aC}{d e}{f}{Q}(a:gz l d=B ((f,c),e)){b}(q:my g h n b s c e f Q){P:Prop}(p:my g h n b s l d .a Q->P):P:=
 p (by
  have m:=(dd (aW a)).1;have o:=(dd (aW a)).2;subst m;subst o
  exact C (bo a) q)
theorem Xw:mz g i h n [] gz:=λQ j s b e l f d m a F c q=>nh (r:=l) c q λq=>wpAny_execs_nil (q b _ _ _ (.b _ _ _) a F A)
theorem Xv{o}(E:eU g i h n o a)(H:mz g i h n r b):mz g i h n (o::r) (dS a b):=
 λQ j s U a1 W S X a2 v u c q=>aO c λp Z J c=>wpAny_execs_cons (E _ _ _ _ _ _ p.1 p.2 _ v u J λf m t P T d F V=>by
  obtain⟨x,Y⟩:=p;cases x with
  |a=>exact C V (H _ _ _ _ _ _ _ _ _ d F c λz G K y w=>q z G K y (T.a w))
  |c=>have e:=(dd (aW c)).1;subst e;exact C V (q f m t _ T (bo c▸d) ((dd (aW c)).2▸F) A)
  |b a0=>
   have e:=(dd (aW c)).1;subst e
   exact V.elim λL l=>l.1▸q f m t _ T (bo c▸d) ((dd (aW c)).2▸F) (ag L A l.2))
def iL(e):=∀t l h,swapsWith e t l h=pure I
theorem iL.a(b:iL e)(t)(l)(h):swapsWithSole [t] e l h=pure I:=b _ l h
theorem XG(r:eH h n)(G H)(w:n a=B y)(z:h.kindOf y=B .local)(C:iL e)(u:aN g i h n e x):eU g i h n (.Assign [.Name y G] e H) (iE a x):=
 λQ j s P a1 E L U a2 f F b q=>aO b λa0 X p b=>aj b λW J b=>nh (r:=E) b q λq=>wpAny_Assign_stores (u _ _ _ _ _ _ _ _ f F p λt S Y Z o m d V=>wpAny_assign_Name (tR r w z m (d.f _) V J (λv K T l c=>q t v K _ (o.a T) l (c.d λa y e=>pS e cI) A))) (C.a _ _ _) A
theorem IU(P:aH g)(U:c=g.e.b f)(S:aN g i h n o x){y}(E:ay g a d s.heap)(F:aT g h n a s.heap l)(W:ao g.e a v y)(K:x l d=B (w,m))(L:kg g.a w f v m=B (u,e))(X:∀r q t,bk h.locals a s.heap r q->ay g r e q->aT g h n r q l->b () {s with heap:=q,toks:=t}):wpAny (model g.c g.b) i (assign (.Attribute o c p) h y) b j s:=by
 rw[U];exact wpAny_bind (wpAny_holding (S _ _ _ _ _ _ _ _ E F K λQ Y Z a0 T H C V=>wpAny_bind (wpAny_standAt (wpAny_bind (wpAny_holding
  (IV P H C L V (T.d W) λq t J G z=>wpAny_release (X Q q t (T.a J) G z)))))))
theorem XE(w:aH g)(L P)(E:a=g.e.b f)(G:iL e)(C:aN g i h n o x)(J:aN g i h n e y):eU g i h n (.Assign [.Attribute o a L] e P) (pl g.a x f y):=
 λS j s W a8 K U Z a9 l F b q=>aO b λa6 a0 t b=>aO b λa7 a1 u b=>aO b λa4 a2 v b=>nh (r:=K) b q λq=>wpAny_Assign_stores (J _ _ _ _ _ _ _ _ l F t λX Y a3 a5 T m c V=>IU w E C m c V u v λz H Q r p d=>q z H Q _ (T.a r) p d A) (G.a _ _ _) A
theorem XF(P:aH g)(X:i.units+30<cLine)(a2 a3)(Y:iL e)(S:aN g i h n o x)(W:aN g i h n a z)(a0:aN g i h n e y):eU g i h n (.Assign [.Subscript o a a2] e a3) (pm g.a x z y):=
 λa6 j s a8 c7 a1 a7 b4 c8 p F b q=>aO b λc5 b5 H b=>aO b λc6 b6 J b=>aO b λb3 b7 K b=>aO b λc1 b8 L b=>nh (r:=a1) b q λq=>wpAny_Assign_Subscript (a0 _ _ _ _ _ _ _ _ p F H λa9 b1 b9 c2 C t f V=>S _ _ _ _ _ _ _ _ t f J λb0 b2 c0 c3 c u l E=>W _ _ _ _ _ _ _ _ u l K λQ Z a5 c4 T v m G=>IX (s:={s with heap:=Z,toks:=a5}) P X v m L (T.d E) G (T.d (c.d V)) λU a4 w r d=>q Q U a4 _ (((C.a c).a T).a w) r d A) (Y _ _ _)
theorem FV(x:aH g)(l:sP g.a v w e=B (r,f))(m:ao g.e a v b)(o:ao g.e a w c)(y:∀u z,f=e->ao g.e a r u->d u {s with toks:=z}):
  wpAny (model g.c g.b) i (inplaceOp .Add b c) d j s:=
 aj l λC p l=>aj l λE q l=>aj l λH t l=>(show ao g.e a (.a C) b from J (fZ p) m).elim λF m=>(show ao g.e a (.a E) c from J (fZ q) o).elim λG o=>m▸o▸
  P.iadd_int (y _ _ (bo l).symm (aW l▸⟨_,O (V5 · _) (R (KR (o:=.b) (x.2▸t)))⟩))
theorem XV(c:aH g)(a1 a2)(d:a=g.e.b f)(Q:aN g i h n o x)(Z:aN g i h n e y):eU g i h n (.AugAssign (.Attribute o a a1) .Add e a2) (rt g.a x f y):=
 λa7 j s a9 c7 a0 a8 b1 c8 u F b q=>d▸aO b λc6 b5 G b=>aO b λc1 b6 H b=>aO b λc5 b7 J b=>aO b λb4 b8 K b=>aO b λc2 b9 L b=>nh (r:=a0) b q λq=>wpAny_AugAssign_AttributeAny (Q _ _ _ _ _ _ _ _ u F G λb0 Y c0 c3 C l r V=>FD c l H V λb3 a3 W U=>Z _ _ {s with heap:=Y,toks:=a3} _ _ _ _ _ (W▸l) r J λP m a6 c4 T w t E=>FV (s:={s with heap:=m,toks:=a6}) c K (T.d U) E λb2 a4 X d=>IV (s:={s with heap:=m,toks:=a4}) c (X▸w) t L (T.d V) d λS a5 z v p=>q P S a5 _ ((C.a T).a z) v p A)
def uE(c:Expr):=∀o a b,augStore c o a b=(do holding [b,o,a] (setItem o a b);release [b,o,a] [];pure .next)
theorem XW(d:aH g)(p:i.units+30<cLine)(b1 b2)(a2:uE a)(Z:aN g i h n o x)(a1:aN g i h n a z)(a9:aN g i h n e y):eU g i h n (.AugAssign (.Subscript o a b1) .Add e b2) (ru g.a x z y):=
 λb7 j s b9 e3 b0 b8 c4 e4 C F b q=>aO b λe2 c8 P b=>aO b λc3 c9 Q b=>aO b λd6 d0 S b=>aO b λe1 d1 U b=>aO b λc7 d2 W b=>aO b λd7 d3 X b=>nh (r:=b0) b q λq=>wpAny_AugAssign_Subscript_any (Z _ _ _ _ _ _ _ _ C F P λc0 c2 d4 d8 K G u V=>a1 _ _ _ _ _ _ _ _ G u Q λc1 a8 d5 d9 c l v m=>F' d p l S (c.d V) m (λc6 b3 a5 a4=>a9 _ _ {s with heap:=a8,toks:=b3} _ _ _ _ _ (a5▸l) v U λY r b6 e0 T H w L=>FV (s:={s with heap:=r,toks:=b6}) d W (T.d a4) L λc5 b4 a6 a3=>IX (s:={s with heap:=r,toks:=b4}) d p (a6▸H) w X (T.d (c.d V)) (T.d m) a3 λa0 b5 J E t=>q Y a0 b5 _ (((K.a c).a T).a J) E t A) λf f f f a7=>a7) a2
theorem XT(u)(o:interactive h=I)(p:iL e)(m:aN g i h n e x):eU g i h n (.Expr e u) (pn x):=
 λQ j s y H t w z J c F a q=>aO a λG C f a=>nh (r:=t) a q λq=>wpAny_Expr_any (m _ _ _ _ _ _ _ _ c F f λl r v E T d b V=>q l r v _ T d b A) o (p _ _ _)
theorem XY(E)(v:fJ g i h n t (bc g.a x))(w:mz g i h n a y)(C:mz g i h n b z):eU g i h n (.If t a b E) (iF g.a x y z):=
 λQ j s J W P H S X r p c q=>aO c λG U u c=>wpAny_If (v _ _ _ _ _ _ _ _ r p u λK L V o m F=>by
  cases G with
  |true=>exact w _ _ _ _ _ _ _ _ _ m F c λd e l f T=>q d e l f (o.a T)
  |false=>exact C _ _ _ _ _ _ _ _ _ m F c λd e l f T=>q d e l f (o.a T))
theorem op{m o}(f:B ((o,l),d)=B ((m,c),e))(t:my g h n b s c e m a){P:Prop}(r:my g h n b s l d o a->P):P:=
 r (by
  have p:=(dd (aW f)).1;have q:=(dd (aW f)).2;subst p;subst q
  exact bo f▸t)
theorem Yg(p)(m:aN g i h n e x):eU g i h n (.Return (B e) p) (nK x):=
 λQ j s v E w r y G c F a q=>aO a λC z f a=>op a q λq=>wpAny_Return_some (m _ _ _ _ _ _ _ _ c F f λl o t u T d b V=>q l o t _ T d b (ag u A V))
theorem Yh(p):eU g i h n (.Return N p) (nK (cr .g)):=λQ j s b e l f d m a F c q=>op c q λq=>wpAny_Return_none (q b _ _ _ (.b _ _ _) a F (ag _ A A))
theorem XQ(p):eU g i h n (.Continue p) rs:=λQ j s b e l f d m a F c q=>op c q λq=>wpAny_Continue (q b _ _ _ (.b _ _ _) a F A)
theorem H5{b:dv k}{l}{s}:nB t b (a+1) l s=aB (t l s) λc s=>a' (B ((.a,l),s)) (aB (b l s) λp s=>match p.1 with
  |.b _=>B (p,s)
  |_=>nB t b a p.2 s) c:=A
theorem zq{e:Type}{c:e->Nat->Prop}{d:e->Shared}{T:Nat->Shared->Prop}(z:∀a,c a 0->False)(f:∀a b,c a (b+1)->T (b+1) (d a)):∀b s,(∃a,d a=s/\c a b)->T b s:=λb=>by
 induction b with|zero=>exactλm x=>(x.elim λa y=>z a y.2).elim|succ b l=>exactλs x=>x.elim λa y=>J y.1 (f a b y.2)
theorem Rv{e:Type}{X Y}{r:e}{P Q:Prop}(a:a' X Y b=B r)(c:X=B r->Q)(d:Y=B r->P):if b=D then P else Q:=by cases b with|false=>exact c a|true=>exact d a
theorem qR{b c:Type}{X}{Y}{o:Option b}{r:c}(e:o=N)(a:dc X Y o=B r):X=B r:=by subst e;exact a
theorem tD{b c:Type}{X}{Y}{o}{v:b}{r:c}(e:o=B v)(a:dc X Y o=B r):Y v=B r:=by subst e;exact a
theorem GO{s b}{X:av k (cQ×aC)}{P:Prop}(a:(match p.1 with
  |.b _=>B (p,s)
  |_=>X)=B (r,b)) (c:(∀v,p.1≠ .b v)->X=B (r,b)->P) (d:∀v,p.1=.b v->B (p,s)=B (r,b)->P):P:=by
 obtain⟨f,l⟩:=p;cases f with|a=>exact c (λv e=>nomatch e) a|c=>exact c (λv e=>nomatch e) a|b v=>exact d v A a
theorem nZ.a{e}(V:nZ b d e f)(l:∀v,e≠ .b v):f=.next∨f=.cont:=by cases e with|a=>exact .inl V|c=>exact .inr V|b v=>exact ak A (l v)
theorem nZ.c{d}{e}(V:nZ d e f b)(m:f=.b v):∃u,b=.ret u/\nZ d e f (.ret u):=by subst m;exact V.elim λu l=>(ag u l.1 (ag u A l.2))
structure uC(k) where
 c:aM
 f:S k
 a:aC
 d:Nat
 e:Nat
 b:Heap
theorem HS{m o q:Type}{p}{a}{b}{s d}(c:B (p,s)=B ((a,b),d)){P:m->o->q->Prop}(l:P p.1 p.2 s):P a b d:=by have e:=aW c;have f:=bo c;subst e;subst f;exact l
theorem Yp(a4)(W:fJ g i h n t (bc g.a x))(a1:mz g i h n b y):eU g i h n (.While t b [] a4) (rv g.a x y):=λQ j s f a7 a2 C E G K H Z q=>wpAny_While (codeAny_whileLoop _ (zq (c:=λ(c:uC k) d=>cR g h n f _ c.c c.b c.f c.a/\nB _ y d c.a c.f=B _) (d:=λc=>{s with heap:=c.b,toks:=c.e}) (λc J=>X J.2) λc d J=>aO (H5.symm.trans J.2) λa8 b0 a5 a=>W _ _ _ _ _ _ _ _ J.1.2 J.1.3 a5 λU a0 a6 T v F=>Rv a (λa=>op a q λq=>wpAny_execs_nil (q U a0 a6 _ (J.1.1.a T) v F A))
   λa=>aO a λp o a3 a=>a1 _ _ _ _ _ _ p.1 p.2 _ v F a3 λl m r a9 P w u z=>
     have L:cR g h n f _ l m o p.2:=⟨(J.1.1.a T).a P,w,u,J.1.4⟩
     GO a (λY a=>(z.a Y).elim (λe=>by subst e;exact(ag d (fi d) (bi ⟨l,o,p.2,0,r,m⟩ A L a))) λe=>by subst e;exact(ag d (fi d) (bi ⟨l,o,p.2,0,r,m⟩ A L a))) λb2 e a=>(z.c e).elim λb1 V=>by
      have S:=V.1;subst S
      exact HS (P:=λC E G=>my g h n f s E G C Q->Q _ _) a (λq=>q l m r _ L.1 w u V.2) q) _ (bi ⟨f,a7,a2,0,s.toks,s.heap⟩ A (cR.f K H) Z))
end
section
variable{m:Type}{g:bg m}{j:Around}{k:Value->Shared->Prop}{i:Shared}{h:Env}{n:Nat->Option Str}
def oa(g)(j)(h)(n)(p)(x:aA m gG):=∀Q k i d f l t o,
 ay g d f i.heap->aT g h n d i.heap l->x l f=B (t,o)->
 (∀a c b q e,bk h.locals d i.heap a c->cR g h n a c a b o l->gY c b->jK g a h.locals c b t e 0->Q (.ref e) {i with heap:=b,toks:=q})->
 wpAny (model g.c g.b) j (eval p h) (λv s=>wpAny (model g.c g.b) j (pyIter v) Q k s) k i
theorem cR.a(u:ay g o s p)(F:aT g h n o p r)(t:gY p q):cR g h n o p o q s r:=⟨.c t,u.c t,F.c t,F.5⟩
theorem Xt(q:aN g j h n e x):oa g j h n e (pg g.a x):=
 λQ k i w K y E L f c a u=>aO a λH C l a=>qw a λt o=>q _ _ _ _ _ _ _ _ f c l λp s v G T b F V=>RA b F t V λd z r=>u p s _ v d T (.a (J o b) F (eu _ _)) (eu _ _) r
theorem Xu(u:aH g)(t:eH h n)(P Q)(z:jI g h "range" (.type "range"))(l:fG e)(w:g' g j h n e (bs y)):oa g j h n (.Call (.Name "range" P) e [] Q) (uh y):=
 λa0 k i a1 b0 a2 W b1 d o a U=>aO a λa8 a4 r a=>aj a λY S a=>Call_ (nf u t z d (yg (l.1 _ _) (oe l w d o r λv K a5 a7 T f F V=>Es S V λa3 X b p s W a6 a9 G H x E=>wpAny_pyIter_range E G (by
   have q:=aW a;subst q
   exact U v K _ X _ T (.a (J (bo a) f) F (λZ L c=>eu _ _ _ _ (eu _ _ _ _ c))) (λZ L c=>eu _ _ _ _ (eu _ _ _ _ c)) ⟨kM f F (by rw[ye];exact ql),(by rw[ye];exact ql),.inr (an b s (C (show b+(0:Nat)*s=b from by rw[M5,CI,rC]) (C (show Y.length-(0:Nat)=LF b p s from by rw[H,M5,O0]) (fl _ A))) x (ek _))⟩))))
theorem Xs(E:aH g)(C:eH h n)(S W)(H:jI g h "enumerate" (.type "enumerate"))(f:pK e)(G:aN g j h n e y):oa g j h n (.Call (.Name "enumerate" S) [e] [] W) (uf g.a y):=
 λZ k i a0 b1 a2 a7 b2 l s b X=>aO b λa9 a5 w b=>aO b λa4 a6 a b=>aj a λQ x a=>aj a λb0 U a=>Call_ (nf E C H l (yg ((fG.a.d f (by decide)).1 _ _) ((fG.a.d f (by decide)).2 (by
  rw[f];refine spliced_cons (G _ _ _ _ _ _ _ _ l s w λo L t Y T c F V=>spliced_nil ((show ao g.e o (.b Q) Y from J (mH x) V).elim λu d=>d.1▸c.a (jm U) d.2 λa8 a3 P z z z=>?_));refine call_enumerate_1 P λp q K a1 r=>wpAny_pyIter_enum (s:={i with heap:=p,toks:=t}) q ?_
  have v:=(O _ (aW a)).trans (aW b);subst v
  exact X o L p t _ T (.a (J (bo b) (bo a▸c)) F r) r ⟨kM c F ql,ql,u,_,.none,d.2,q,K,kM c F en,en,py _⟩))))
theorem kz.s(a:kz n h t e):uD e:=by cases t with|a c=>exact .inl (c' a λy p a=>a.1)|e f=>exact .inr (mi a λb d p a=>a.1)
theorem Qr{i:S m}:ed a d b (e+1) c l i=Y (jl a d c i.b) λo=>dc (B ((.a,l),i)) (λv=>aB (b v l i) λp i=>match p.1 with
  |.b _=>B (p,i)
  |_=>ed a d b e (c+1) p.2 i) o:=A
def pH(a)(h):=∀v,foldedSetIterable a h v=pure v
theorem XU(a1:j.handled=N)(W:eH h n){C y}{F}(d2)(a0:kz n h t C)
  (c7:pH y h) (c4:∀l i a d4,x l i=B (.a a,d4)->∃b8 z p,C=.Tuple b8 z p) (c0:oa g j h n y x) (z:mz g j h n b F):eU g j h n (.For C y b [] d2) (jy g.a t x F):=
 λQ k i b9 d9 l Y a5 a9 b4 b0 v q=>aO v λa4 a7 U v=>wpAny_For (c0 _ _ _ _ _ _ _ _ b4 b0 U λZ a2 c8 d5 b2 P b3 e1 c2=>codeAny_forLoop_any _ (zq (c:=λ(a:uC m) d=>cR g h n Z a2 a.c a.b a.f a.a/\jK g a.c _ a2 a.b a4 b2 a.d/\ed g.a a4 (dK g.a t F) d a.d a.a a.f=B _) (d:=λa=>{i with heap:=a.b,toks:=a.e}) (λa f=>X f.2.2) λa d f=>aj (Qr.symm.trans f.2.2) λe3 d1 c=>TK a1 d1 f.1 f.2.1 a0.s (λa e=>c4 l d9 a a7 (J e U))
    ⟨λe c1 L=>op (qR e c) q λq=>wpAny_execs_nil (q a.c c1 a.e _ (P.a L.1) L.2 L.3 A),
     λd8 e d7 a3 a8 c5=>
      have c:=tD e c
      aO c λp a6 c3 c=>aj c3 λe2 d0 d3=>c5 _ _ λe0 a3 a8 o H b6=>DO (s:={i with heap:=a3,toks:=a8}) a1 W a0 o.2 (o.3.f _) b6 d0 λc9 d6 T b5 b1=>z _ _ {i with heap:=c9,toks:=d6} _ _ _ p.1 p.2 _ b5 b1 d3 λu w E W s K G S=>
       have r:=o.c (T.a s) K G
       GO c (λc6 c=>(S.a c6).elim (λe=>by subst e;exact(ag d (fi d) (fQ ⟨u,a6,p.2,a.d+1,E,w⟩ A r (H.a (T.a s)) c))) λe=>by subst e;exact(ag d (fi d) (fQ ⟨u,a6,p.2,a.d+1,E,w⟩ A r (H.a (T.a s)) c))) λd8 e c=>(S.c e).elim λd7 V=>by
        have b7:=V.1;subst b7
        exact HS (P:=λY a5 a9=>my g h n b9 i a5 a9 Y Q->Q _ _) c (λq=>q u w E _ (P.a r.1) K G V.2) q⟩)
   _ (fQ ⟨Z,a7,l,0,d5,c8⟩ A b3 c2 v)) c7
end
noncomputable def Js:Expr->Bool
 |.Starred ..=>D
 |_=>I
noncomputable def lS(k:Str->Option NameKind)(l:Nat):Expr->Option Str
 |.Name i p=>if(k i==B .local&&p.line==l)=D then B i else N
 |_=>N
def Za(k)(t v:List Expr):=
 if(!(t.length==2||t.length==3)||v.length !=t.length||false)=D then B N
 else if(v.any Js)=D then B N
 else if((t.filterMap (lS k ((t.head?.map (·.pos.line)).getD 0))).length !=t.length||(t.filterMap (lS k ((t.head?.map (·.pos.line)).getD 0))).eraseDups.length !=(t.filterMap (lS k ((t.head?.map (·.pos.line)).getD 0))).length)=D then B N
  else if v.all (foldedForSure 8)=D then B N
  else if v.all (constantsAlone 8)=D then N
  else B (B (t.filterMap (lS k ((t.head?.map (·.pos.line)).getD 0))))
def rh(k)(t)(v:Expr):=match v with
 |.Tuple a _ _=>Za k t a
 |_=>B N
theorem X2(k)(l):(λx=>match x with
  |.Name i p=>if(k i==B .local&&p.line==l)=D then B i else N
  |_=>N)=lS k l:=A
theorem Y':swappedStores [.Tuple t k p] (.Tuple v a b) e=
  (if(!(t.length==2||t.length==3)||v.length !=t.length||e.blockKind !=.function)=D then pure N
  else if(v.any Js)=D then pure N
  else if((t.filterMap (lS e.kindOf ((t.head?.map (·.pos.line)).getD 0))).length !=t.length||(t.filterMap (lS e.kindOf ((t.head?.map (·.pos.line)).getD 0))).eraseDups.length !=(t.filterMap (lS e.kindOf ((t.head?.map (·.pos.line)).getD 0))).length)=D then pure N
  else if v.all (foldedForSure 8)=D then pure N
  else if v.all (constantsAlone 8)=D then unsupported "assign.tuple-of-constant-expressions:order-of-the-stores"
  else pure (B (t.filterMap (lS e.kindOf ((t.head?.map (·.pos.line)).getD 0))))):=by
 rfl
theorem s' [Decidable a]{x y}{m n:Sem b}(c:x=B r->m=pure r)(d:y=B r->n=pure r)(h:(if a then x else y)=B r):(if a then m else n)=pure r:=by
 by_cases q:a
 ·rw[if_pos q]at h⊢;exact c h
 ·rw[if_neg q]at h⊢;exact d h
theorem qV{b r}(h:B b=B r):(pure b:Sem a)=pure r:=O pure (R h)
theorem JM(b:e.scope.kind=.function){t}{k}{p}(h:rh e.kindOf t v=B r):swappedStores [.Tuple t k p] v e=pure r:=by
 have a:(e.blockKind !=LP)=I:=by unfold T1;refine C b ?_;rfl
 cases v with|Tuple f c d=>exact C Y' (C a (s' qV (s' qV (s' qV (s' qV (s' X qV)))) h))|_=>exact qV h
section
variable{i:Type}{c:bg i}{b:Around}{f:Value->Shared->Prop}{s:Shared}{e:Env}{n:Nat->Option Str}{d:Nat->List E->S i->av i E}
def yv(c:bg i)(b:Around)(e)(n:Nat->Option Str)(d:Nat->List E->S i->av i E)(t)(a:Expr):=(∀r,assignEach (a::r) e=(I,assign a e)::assignEach r e)/\
 ∀f s g m o l k v u Q,ay c g m s.heap->aT c e n g s.heap l->ao c.e g v u->rf c.a d t v l m=B (k,o)->
  (∀j h p,bk e.locals g s.heap j h->ay c j o h->aT c e n j h k->Q () {s with heap:=h,toks:=p})->wpAny (model c.c c.b) b (assign a e u) Q f s
theorem XD(m:eH e n){y}(r:n a=B y)(t:e.kindOf y=B .local):yv c b e n d (.a a) (.Name y p):=
 ⟨λK=>A,λf s o L P z C H G Q j F u h w=>aj h λE v h=>wpAny_assign_Name (tR m r t j (F.f _) u v λq x T k g=>w o q x T (J (bo h) k) (J (aW h) (g.d λa y l=>pS l cI)))⟩
theorem YS{s}:rf a d (.c o g) v l s=aB (K a d o l s) λx s=>aB (kg a x g v s) λz s=>B (l,s):=A
theorem XC(u:aH c)(x:g=c.e.b a)(v:aN c b e n h (K c.a d o)):yv c b e n d (.c o a) (.Attribute h g p):=
 ⟨λX=>A,λf s E Y Z G H V S Q l F y j z=>aO (YS.symm.trans j) λW L q j=>aO j λU P r j=>IU u x v l F y q r λt w C T m k=>z t w C T (J (bo j) m) (J (aW j) k)⟩
def pO(c:bg i)(b:Around)(e:Env)(n:Nat->Option Str)(d:Nat->List E->S i->av i E):List kx->List Expr->Prop
 |[],a=>a=[]
 |t::h,a=>∃g r,a=g::r/\yv c b e n d t g/\pO c b e n d h r
theorem pO.a:∀{t}{g},pO c b e n d t g->Du e t.length g:=λ{t}=>by
 induction t with
 |nil=>exact @λg h=>C h ⟨A,A,A⟩
 |cons l t j=>
  exact @λg h=>aq h λk r h=>have z:=j h.2.2
    h.1▸⟨O (· +1) z.1,by rw[h.2.1.1];exact O (· +1) z.2,by rw[h.2.1.1,P0];exact O (lr _) z.3⟩
theorem By:kh a d (t::g) (v::h) l j=aB (rf a d t v l j) λl s=>kh a d g h l s:=A
theorem JA:∀{t}{v}{l k}{o p},kh a d t v l o=B (k,p)->v.length=t.length:=λ{t}=>by
 induction t with
 |nil=>exact @λv z z z z g=>aY g λh z=>O _ (ej.mp h)
 |cons q t j=>exact @λm=>by cases m with|nil=>exact @λz z z z g=>X g|cons r v=>exact @λz z z z g=>aO (By.symm.trans g) λz z z g=>O _ (j g)
theorem VD:∀{t}{o}(_:pO c b e n d t o){g}{k x}{s}{l r}{w}{u}(_:ay c g k s.heap)(_:aT c e n g s.heap l)(_:aE c.e g w u)
  (_:kh c.a d t w l k=B (r,x)) {Q} (_:∀p j z,bk e.locals g s.heap p j->ay c p x j->aT c e n p j r->Q () {s with heap:=j,toks:=z}),
  wpAny (model c.c c.b) b (assignInOrder ((assignEach o e).map (·.2)) u) Q f s:=λ{t}=>by
 induction t with
 |nil=>
  exact @λo a g k x s l r w u m F q h Q v=>aY h λy h=>(show aE c.e g [] u from J (ej.mp y) q).f (P:=λu=>wpAny _ b _ Q f s)
    (a▸wpAny_pure (v g _ _ (.b _ _ _) (bo h▸m) (aW h▸F)))
 |cons a5 t W=>exact @λo a g k x s l r a3=>by cases a3 with|nil=>exact @λu m F q h Q v=>X h|cons a2 w=>exact @λu m F q h Q v=>aq a λy a4 a=>aO (By.symm.trans h) λY Z L h=>q.b (P:=λu=>wpAny _ b _ Q f s) λa1 a6 U V=>by rw[a.1,a.2.1.1];exact wpAny_bind (wpAny_holding (a.2.1.2 f s g k Z l Y a2 a1 _ m F U L λp j z T G C=>W a.2.2 G C (T.e V) h λP S a0 K H E=>v P S a0 (T.a K) H E))
theorem Yn(L:b.handled=N)(z:eH e n)(W)(X Z)(j:pO c b e n d t g)(P:rh e.kindOf g a=B N)(S:iL a)(G:aN c b e n a x):eU c b e n (.Assign [.Tuple g W X] a Z) (nL c.a d t x):=
 λa2 f s a4 b4 a6 a3 a7 b5 u F h q=>aO h λb2 a9 y h=>aj h λb3 Y h=>aO h λa8 b0 m h=>op h q λq=>wpAny_Assign_stores (G _ _ _ _ _ _ _ _ u F y λa5 U o a1 w l r V=>by
  show wpAny _ _ (assign _ e a1) _ _ _
  refine wpAny_bind (wpAny_standAt ?_);unfold unpack
  exact C j.a.2 (C j.a.3 (C j.a.1 (J (JA m) (wpAny_bind (wpAny_holding (BR (s:={s with heap:=U,toks:=o}) L l Y V λH b1 k Q=>VD j (s:={s with heap:=H,toks:=o}) (l.c k) (r.c k) Q m λE K a0 T v p=>q E K a0 _ (w.a ((bk.c k).a T)) v p A)))))))
  (S.a _ _ _) (JM z.1 P)
def lB:List Nat->List E->aC->Option aC
 |[],v,l=>aI v.isEmpty (B l)
 |a::g,v,l=>match v with|[]=>.none|h::v=>Y (fc l a h) λl=>lB g v l
theorem Bq:∀{l k:aC}{a}{v},fc l a v=B k->a<l.length/\k=l.set a v:=λ{l}=>by
 induction l with
 |nil=>exact @λz z z h=>X h
 |cons o r j=>exact @λz m=>by cases m with|zero=>exact @λz h=>⟨lq _,(R h).symm⟩|succ a=>exact @λz h=>aj h λp g h=>⟨uq (j g).1,(R h).symm.trans (O _ (j g).2)⟩
theorem IY:∀{l:aC}{a}{v},a<l.length->fc l a v=B (l.set a v):=λ{l}=>by
 induction l with
 |nil=>exact @λz z h=>ak h (yc _)
 |cons k r g=>exact @λj=>by cases j with|zero=>exact @λz z=>A|succ a=>exact @λv h=>O (λx=>Y x _) (g (CY h))
theorem Xl{v w:E}(r:a≠j)(p:fc l a v=B g)(q:fc g j w=B h):∃o,fc l j w=B o/\fc o a v=B h:=by have m:=Bq p;have k:=Bq q;rw[m.2,Lo]at k;exact(ag _ (IY k.1) (C (IY (by rw[Lo];exact m.1)) (C k.2 (C (List.set_comm v w r) A))))
theorem Ng:∀{g}{o}{l k m:aC},a∉g->fc l a v=B k->lB g o k=B m->∃q,lB g o l=B q/\fc q a v=B m:=λ{g}=>by
 induction g with
 |nil=>exact @λo l k m z p h=>aY h λj h=>(ag l (by show aI _ _=B l;refine C j ?_;rfl) (J (R h) p))
 |cons w g u=>exact @λE=>by cases E with|nil=>exact @λz z z z z h=>X h|cons H o=>exact @λl k m r p h=>aj h λF j h=>(Xl (λj:a=w=>r (C j bn)) p j).elim λG t=>(u (λx=>r (bT _ x)) t.2 h).imp λq y=>⟨(O _ t.1).trans y.1,y.2⟩
theorem Nc:∀{g}{m}{k l j:aC},lB g m k=B l->fc l a v=B j->lB (g++[a]) (m++[v]) k=B j:=λ{g}=>by
 induction g with
 |nil=>
  exact @λm k l j h p=>aY h λo h=>by
   refine C (ej.mp o) (C (R h) ?_);show(Y (fc l a v) B)=B j
   refine C p ?_;rfl
 |cons t g q=>exact @λr=>by cases r with|nil=>exact @λz z z h z=>X h|cons w m=>exact @λk l j h p=>aj h λu o h=>(O _ o).trans (q h p)
theorem Nd:∀{a}{v}{l g},a.Nodup->lB a v l=B g->lB a.reverse v.reverse l=B g:=λ{a}=>by
 induction a with
 |nil=>exact @λv l g z h=>aY h λj h=>by exact C (ej.mp j) h
 |cons q a o=>exact @λp=>by cases p with|nil=>exact @λz z z h=>X h|cons u v=>exact @λl g k h=>aj h λr j h=>(Ng (fF.mp k).1 j h).elim λt m=>by exact C uo (C uo (Nc (o (fF.mp k).2 m.1) m.2))
theorem JB:∀{j}{v}{k l}{m o},kh a d (j.map .a) v k m=B (l,o)->lB j v k=B l/\m=o:=λ{j}=>by
 induction j with
 |nil=>exact @λv k l m o h=>aY h λg h=>⟨by show aI _ _=B l;refine C g (C (aW h) ?_);rfl,bo h⟩
 |cons t j p=>exact @λr=>by cases r with|nil=>exact @λz z z z h=>X h|cons y v=>exact @λk l m o h=>aO (By.symm.trans h) λu x g h=>aj g λw q g=>⟨(O _ (q.trans (O B (aW g)))).trans (p h).1,(bo g).trans (p h).2⟩
def iK(e:Env)(n:Nat->Option Str):List Nat->List Str->Prop
 |[],a=>a=[]
 |g::h,a=>∃y r,a=y::r/\n g=B y/\e.kindOf y=B .local/\iK e n h r
theorem iK.h:∀{j}{y},iK e n j y->y.length=j.length
 |[],y,a=>O _ a
 |k::j,y,a=>aq a λl r a=>C a.1 (O _ a.2.2.2.h)
theorem iK.g(m:n a=B y)(o:e.kindOf y=B .local):∀{k}{l},iK e n k l->iK e n (k++[a]) (l++[y]):=λ{k}=>by
 induction k with|nil=>exact @λl j=>by exact C j (dR y [] A m o A)|cons t k q=>exact @λl j=>aq j λz r j=>j.1▸(dR z (r++[y]) A j.2.1 j.2.2.1 (q j.2.2.2))
theorem iK.p:∀{j}{y},iK e n j y->iK e n j.reverse y.reverse:=λ{j}=>by
 induction j with|nil=>exact @λy a=>a▸A|cons l j k=>exact @λy a=>aq a λm r a=>by exact C a.1 (C uo (C uo ((k a.2.2.2).g a.2.1 a.2.2.1)))
theorem Nf(H:eH e n):∀{k}{y}(_:iK e n k y){s}{o p}{v}{u}(_:ay c g a s.heap)(_:aT c e n g s.heap o)(_:aE c.e g v u)
  (_:lB k v o=B p) {Q} (_:pM c e n g s a p Q),wpAny (model c.c c.b) b (assignInOrder (y.map λW=>bindName e W) u) Q f s:=λ{k}=>by
 induction k with
 |nil=>
  exact @λy j s o p v u l F m h Q q=>aY h λr h=>(show aE c.e g [] u from J (ej.mp r) m).f (P:=λu=>wpAny _ b _ Q f s)
    (C j (wpAny_pure (q _ _ (.b _ _ _) l (R h▸F))))
 |cons U k V=>exact @λy j s o p a0=>by cases a0 with|nil=>exact @λu l F m h Q q=>X h|cons a6 v=>exact @λu l F m h Q q=>aq j λa1 a3 j=>aj h λa2 G h=>m.b (P:=λu=>wpAny _ b _ Q f s) λa4 a5 P S=>by exact C j.1 (wpAny_bind (wpAny_holding (wpAny_bindName (tR (f:=[]) H j.2.1 j.2.2.1 l (F.f _) P G λK Y T x t=>V j.2.2.2 (s:={s with heap:=K,toks:=Y}) x (t.d λU a1 r=>pS r cI) S h λL Z E z w=>q L Z (T.a E) z w))))
theorem Ym(Q:b.handled=N)(o:eH e n)(Y)(Z a1)(S:rh e.kindOf h a=B (B y))(p:iK e n g y)(P:g.Nodup)
  (W:iL a) (H:aN c b e n a x):eU c b e n (.Assign [.Tuple h Y Z] a a1) (nL c.a d (g.map .a) x):=
 λa3 f s a5 b5 a6 a4 a7 b6 v F j q=>aO j λb3 a9 E j=>aj j λb4 a0 j=>aO j λa8 b0 k j=>op j q λq=>Assign_Tuple_swapped (H _ _ _ _ _ _ _ _ v F E λG X t b2 z m u V=>by
  exact C p.h (J ((JA k).trans (ea _)) (BR (s:={s with heap:=X,toks:=t}) Q m a0 V λK b1 l U=>Nf (s:={s with heap:=K,toks:=t}) o p.p (m.c l) (u.c l) U.p (Nd P (JB k).1) λL a2 T w r=>q G L a2 _ (z.a ((bk.c l).a T)) (J ((JB k).2) w) r A))) (W.a _ _ _) (JM o.1 S)
end
def iV(a:List (Str×Addr)):List (Str×NameKind)->List (Str×Addr)->Option (List (Str×Addr))
 |[],c=>B c
 |(n,k)::r,c=>bif k==.free then Y (a.lookup n) λb=>iV a r ((n,b)::c)else iV a r c
theorem NN:∀{n}{a c},iV e.cells n a=B c->(forIn n a λx r=>(do
   let f:=r
   if(x.2==nT)=D then do
    let b ←cellOf e x.1
    pure (pq ((x.1,b)::f))
   else pure (pq f):Sem _))=pure c:=λ{n}=>by
 induction n with
 |nil=>exact @λa c h=>C (R h) A
 |cons j r i=>
  obtain⟨g,k⟩:=j;exact @λa c h=>by
   have h:(bif k==.free then Y _ _ else iV _ r a)=B c:=h;rw[Lk];cases p:(k==nT)with
   |true=>
    rw[p]at h;exact aj h λb d h=>by
     have d:cellOf e g=pure b:=by unfold cellOf;exact C d A
     refine C (if_pos A) ?_;rw[d,pure_bind];exact i h
   |false=>rw[p]at h;exact i h
theorem NO(h:iV e.cells s.names []=B c):closureFor s e=pure c:=by exact Eq.trans (O (λm=>m>>=pure) (Eq.trans A (NN h))) (pure_bind _ _)
section
variable{p:Program}{w:World}{a:Around}{c:Value->Shared->Prop}{b:Result->Shared->Prop}{s:Shared}
theorem NV{C v W}(m:Nat->Shared->Prop)
  (X:∀n s,m n s->wpAny (model p w) a (pyNext i) (λr t=>match r with
   |none=>b (.ok .next) t
   |some x=>wpAny (model p w) a (letOwnedTupleGo v i x) (λz G=>wpAny (model p w) a (assign v e x) (λz H=>
     wpAny (model p w) a (forIn f D λy r=>if r=D then do let q ←Dc y e (eval y e);pure (pq q)else pure (pq r)) (λq u=>if q=D then wpAny (model p w) a (eval C e) (λL J=>wpAny (model p w) a (call (.builtin "list.append") [d,L]) (λz K=>∃o,o<n/\m o K) (notedBy (model p w) a e λj l=>b (.error j) l) J) (notedBy (model p w) a e λj l=>b (.error j) l) u
      else∃o,o<n/\m o u) (notedBy (model p w) a e λj l=>b (.error j) l) H) (notedBy (model p w) a e λj l=>b (.error j) l) G) (notedBy (model p w) a e λj l=>b (.error j) l) t) (notedBy (model p w) a e λj l=>b (.error j) l) s)
  (n) (P:m n s):codeAny (model p w) a (.compLoop (.ListComp C [⟨v,W,f,0⟩] h g) 0 i d e) b s:=by
 refine codeAny_loop A m (λn s Q=>?_) n P;show wpAny _ a _ _ _ s
 refine wpAny_noted ?_;rw[compTurn_list];refine wpAny_bind (wpAny_standAt (wpAny_bind (wpAny_mono (X n s Q) (λr t E=>?_) λz z k=>k)));cases r with
 |none=>exact wpAny_pure E
 |some x=>refine wpAny_bind (wpAny_mono E (λz G S=>?_) λz z k=>k);refine wpAny_bind (wpAny_mono S (λz H T=>wpAny_bind (wpAny_mono T (λq u F=>?_) λz z k=>k)) λz z k=>k);cases q with|false=>exact wpAny_pure ⟨A,F⟩|true=>exact wpAny_bind (wpAny_bind (wpAny_mono F (λL J U=>wpAny_bind (wpAny_mono U (λz K V=>wpAny_pure (wpAny_pure ⟨A,V⟩)) λz z k=>k)) λz z k=>k))
end
section
variable{i:Type}{g:bg i}{k:Around}{m:Value->Shared->Prop}{s:Shared}{h:Env}{n j:Nat->Option Str}
theorem lU{o:aM}{f}(l:(o.b c d N).a a f=B b):(a=c/\f=I/\b=d)∨(a≠c/\o.a a f=B b):=
 (di _).elim (λe=>.inl ⟨e,by
  rw[e]at l;cases f with
  |false=>exact⟨A,(R (aM.c.symm.trans l)).symm⟩
  |true=>exact bZ aM.f l⟩) λe=>.inr ⟨e,(aM.h e).symm.trans l⟩
theorem cR.d(b2:aH g)(G:cR g h n u t p r x v)(b5:fL g.a z q x=B (w,y))(U:dU g p h.locals o)(a3:t.get? o=N)
  (b9:∀W,(∀H K Z,p.a H K=B Z->(p.b W o N).a H K=B Z)->ey g (p.b W o N) r o N q) {a2:Prop} (Q:∀a0,cR g h n u t a0 r y v->ao g.e a0 w (.ref o)->(∀P,dU g p h.locals P->P≠o->dU g a0 h.locals P)->a2):a2:=
 wB b5 λW b0 b4 b8 Y b1=>
  have T:=λH K Z F=>(aM.h λV=>bZ (G.2.k b4 K) (V▸F)).trans F
  have a4:=λP L b3=>⟨λH K F=>(lU F).elim (λE=>b3 E.2.2) λE=>L.1 _ _ E.2,L.2,L.3,L.4⟩
  Q (p.b W o N) ⟨⟨λH K P F=>T H K P (G.1.1 H K P F),G.1.2,λH K P F=>(lU F).elim (λE=>.inr (C E.2.2 a3)) λE=>G.1.3 _ _ _ E.2,G.1.4,G.1.5,G.1.6⟩,
   J b1 ⟨⟨λH K b7 a6 P F X Y=>(lU F).elim (λE=>(lU X).elim (λS=>⟨E.1.trans S.1.symm,E.2.1.trans S.2.1.symm⟩) λS=>(U.1 b7 a6 (E.2.2▸S.2)).elim) λE=>(lU X).elim (λS=>(U.1 H K (S.2.2▸E.2)).elim) λS=>G.2.1.1 _ _ _ _ _ E.2 S.2 Y,
     λH K P F Y=>(lU F).elim (λE=>E.2.2▸U.3) λE=>G.2.1.2 _ _ _ E.2 Y,λH K F=>(lU F).elim (λE=>b2.5.elim λq Q=>bZ U.3 (E.2.2▸Q)) λE=>G.2.1.3 _ _ E.2,
     λH K P F=>(lU F).elim (λE=>E.2.2▸U.2) λE=>G.2.1.4 _ _ _ E.2,λH K P F=>T H K P (G.2.1.5 H K P F),G.2.1.6⟩,
    λH=>zC g.a b8 (λV=>by exact C V (.inr (an o N aM.c aM.f (b9 W T)))) λV=>ec.e (G.2.2 H) T (λK Q=>(aM.h V).trans Q) λP c2 Q=>Q,G.2.3,G.2.4⟩,
   ⟨G.3.1.imp λH E=>⟨E.1,λb6 c1 a5 a7 a8 a9=>(E.2 b6 c1 a5 a7 a8 a9).imp (λL=>⟨L.1,L.2.imp λc0 L=>⟨L.1,ao.e T (λa1 a1 F=>F) _ _ L.2⟩⟩)
     λL=>⟨L.1,c' L.2 λQ c0 L=>(da L.1 L.2.1 (a4 Q L.2.2.1 λS=>(G.4 a5 Q L.1).elim λq X=>bZ a3 (J S X)) (ao.e T (λa1 a1 F=>F) _ _ L.2.2.2))⟩⟩,
    λH K F=>(lU F).elim (λE=>U.4 E.2.2.symm) λE=>G.3.2 _ _ E.2,G.3.3,G.3.4,G.3.5⟩,G.4⟩ (J b0 (ag o A aM.c)) a4
inductive Dg(g)(h)(n)(e)(d)(p:S i)(l)(x)(a C)(b)(c) where
 |mk (q:cR g h n e d b c p l)
  (E:dU g b h.locals a)
  (t:d.get? a=N)
  (y:∃u f,c.get? a=B (et u f)/\aE g.e b x u.toList)
  (z:dU g b h.locals C)
  (r:d.get? C=N)
  (v:a≠C)
  (w:∃o,c.Ns C o)
def mA(g:bg i)(k:Around)(h)(n:Nat->Option Str)(a:List Expr)(q:Option _):=(a=[]/\q=N)∨∃e x,a=[e]/\q=B x/\fJ g k h n e (bc g.a x)
theorem ZZ{p}(S:mA g k h n b q){o}{u w}{l}(G:ay g o u s.heap)(F:aT g h n o s.heap l)(d:km g.a q p l u=B (r,w))
  (V:r=N->∀e c t,bk h.locals o s.heap e c->ay g e w c->aT g h n e c l->a I {s with heap:=c,toks:=t})
  (K:∀P v,r=B v->p l P=B (v,w)->∀e c t,bk h.locals o s.heap e c->ay g e P c->aT g h n e c l->a D {s with heap:=c,toks:=t}):
  wpAny (model g.c g.b) k (forIn b D λg r=>if r=D then do let U ←Dc g h (eval g h);pure (pq U)else pure (pq r)) a m s:=
 S.elim (λf=>by
  have z:=f.2;subst z
  exact C f.1 (aO (show aB (p l u) (λx s=>B (B x,s))=B (r,w) from d) λv L y d=>wpAny_tests_nil (K u v (aW d).symm (J (bo d) y) o s.heap s.toks (.b _ _ _) G F))) λf=>aq f λX x f=>by
  have z:=f.2.1;subst z;refine C f.1 ?_;refine aO (show aB _ (λg s=>a' (B (.none,s)) (aB (p l s) λx s=>B (B x,s)) g)=B _ from d) λW L y d=>wpAny_tests_one (f.2.2 _ _ _ _ _ _ _ _ G F y λe c t T H E=>?_)
  cases W with|false=>exact V (aW d).symm e c t T (J (bo d) H) E|true=>exact aO d λv Y Q d=>K L v (aW d).symm (J (bo d) Q) e c t T H E
theorem aT.e{u v:aC}(F:aT g h n l o v)(t:∀p y,j p=B y->n p=B y/\Z v p=Z u p):aT g h j l o u:=⟨F.1.imp λC y=>⟨y.1,λp z q w x r=>y.2 p z q ((t p q r).2.trans w) x (t p q r).1⟩,F.2,F.3,F.4,F.5⟩
theorem Ec:(∀q {v} {e:i} {l d} (_:lA a q v e l=B d) b (_:b∉kk q),Z d b=Z l b)/\∀t {r} {e:i} {l d} (_:mJ a t r e l=B d) b (_:b∉oZ t),Z d b=Z l b:=by
 refine dN.i ?_ ?_ ?_ ?_
 ·intro E;exact @λv e l d c b f=>(O (Z · b) (Bq c).2).trans (Hy λo=>f (J o bn))
 ·intro t x;exact @λv e l d c b f=>aj c λr G c=>x c b f
 ·exact @λz=>by cases z with|nil=>exact @λe l d o b _=>O (Z · b) (R o).symm|cons _ _=>exact @λe l d o b _=>X o
 ·intro q t u w;exact @λC=>by cases C with|nil=>exact @λe l d c b f=>X c|cons v r=>exact @λe l d c b f=>aj c λF y c=>(w c b λp=>f (iH _ p)).trans (u y b λp=>f (mq _ p))
theorem MZ:∀t {v} {d:i} {l c} (_:lA a t v d l=B c) b (_:b∉kk t),Z c b=Z l b:=(Ec).1
theorem W3:∀t {v} {d:i} {l c} (_:mJ a t v d l=B c) b (_:b∉oZ t),Z c b=Z l b:=(Ec).2
theorem EI{s:S i}:fu a t e (d+1) c b l s=Y (jl a t c s.b) λo=>dc (B (b,s)) (λv=>aB (e v l s) λx s=>dc (fu a t e d (c+1) b l s) (λx=>aI (ar b.length a.f) (fu a t e d (c+1) (b++[x]) l s)) x) o:=A
inductive LV(g)(h)(n)(f)(c)(o)(t)(d b)(a:uC i)(e)(u)(l) where
 |mk (L:cR g h n f c a.c a.b a.f o)
  (p:jK g a.c h.locals c a.b t d a.d)
  (v:dU g a.c h.locals b)
  (q:a.b.get? b=B (et u l))
  (r:aE g.e a.c e u.toList)
theorem Ax{c:Type}{o:Option c}{P:Prop}(a:o=N->P)(b:∀v,o=B v->P):P:=by cases o with|none=>exact a A|some v=>exact b v A
theorem NY(d9:aH g)(b3:k.handled=N)(d8:eH c j){c2 f2 a9}(b1:kz j c t c2)(e2:aN g k c j a9 e)(e7:mA g k c j f q){H}{y K}{a7}(a2:y≠K)(f8:H.get? y=N)
  (e1:∀G z g3 c4 f4,cR g c (hF j (kk t)) b H G z d l->dU g G c.locals y->z.get? y=B (et c4 f4)->aE g.e G x c4.toList->a7 (.ok .next) {s with heap:=z,toks:=g3})
  {F} {a6} {G:aM} (d1:cR g c (hF j (kk t)) b H G s.heap a6 l) (d0:jK g G c.locals H s.heap (.g a) K 0) (g2:dU g G c.locals y) (f9:s.heap.get? y=B (et #[] 0))
  (e8:fu g.a (.g a) (dK g.a t (km g.a q e)) F 0 [] l a6=B (x,d)):
  codeAny (model g.c g.b) k (.compLoop (.ListComp a9 [⟨c2,f2,f,0⟩] o p) 0 (.ref K) (.ref y) c) a7 s:=
 NV _ (zq (c:=λ(u:uC i×List E×Array Value×Nat) F=>LV g c _ b H l (.g a) K y u.1 _ u.2.2.1 _/\fu g.a (.g a) _ F _ u.2.1 l _=B (x,d)) (d:=λa=>{s with heap:=a.1.b,toks:=a.1.e}) (λa r=>X r.2) λu F r=>aj (EI.symm.trans r.2) λh2 Y w=>aj Y λh7 g0 Y=>r.1.2.3.elim λf6 U=>r.1.1.2.a (jm g0) U.1 λh6 g9 b9 c0 g7 h8=>Ax
   (λv=>wpAny_pyNext_list_end b3 U.2 (bi _ b9 A ⟨_,A⟩) (gW.symm.trans (c0.g ((R Y).trans v))) λz b2=>e1 u.1.c z u.1.e _ u.2.2.2 (J (bo (qR v w)) (r.1.1.b r.1.2.1 r.1.2.2 b2)) r.1.3 (b2 y _ a2 r.1.4) (J (aW (qR v w)) r.1.5))
   λh5 v=>(c0.c ((R Y).trans v)).elim λh4 b6=>wpAny_pyNext_list_item U.2 (bi _ b9 A ⟨_,A⟩) (gW.symm.trans b6.1) λz b7 b4=>
    have S:=r.1.1.b r.1.2.1 r.1.2.2 b4.extBut;have Q:jK g _ _ H z (.g a) K _:=⟨r.1.2.1,r.1.2.2,f6,U.1,b7⟩
    have P:=(b4.2 y a2).trans r.1.4
    b7.elim λh0 a3=>ti (s:={s with heap:=z,toks:=u.1.e}) a3.1 a3.2.1 a3.2.2 A b1.s (have w:=tD v w
     aO w λh3 c6 e3 w=>aj e3 λf7 c1 g1=>DO b3 d8 b1 S.2 S.3 b6.2 c1 λe9 g4 a8 d3 c8=>
     have b8:∀{V:aM}{W}{c5},bk _ u.1.c z V W->ay g V c5 W->aT g c j V W f7->cR g c (hF j _) b H V W c5 l:=λT d2 c7=>⟨S.1.a T,d2,c7.e λf3 L v=>⟨(of v).1,MZ t c1 f3 (of v).2⟩,S.4⟩
     ZZ (s:={s with heap:=e9,toks:=g4}) e7 d3 c8 g1 (λv b0 a4 a5 a1 a0 Z=>
       have T:=a8.a a1
       (ag F (fi F) (bi (⟨b0,c6,l,u.1.d+1,a5,a4⟩,u.2) A ⟨b8 T a0 Z,Q.a T,r.1.3.a T P,r.1.3.c T P,T.e r.1.5⟩ (qR v w))))
      λh9 g6 v d7 b0 a4 a5 a1 a0 Z=>have w:=tD v w
       aY w λe5 w=>e2 _ _ {s with heap:=a4,toks:=a5} _ _ _ _ _ a0 Z d7 λe0 f0 c3 g5 d5 d4 c9 d6=>
       have T:=(a8.a a1).a d5
       wpAny_list_append_plain (s:={s with heap:=f0,toks:=c3}) (hsz:=C (show u.2.2.1.size=u.2.1.length from r.1.5.h) (lN (fh (d9.e (bH e5))))) ⟨_,(r.1.3.c T P)⟩ λf1 e4 b5=>e4.elim λf5 e6=>(ag F (fi F) (bi (⟨e0,c6,l,u.1.d+1,c3,f1⟩,u.2.1++[g6],u.2.2.1.push g5,f5) A ⟨(b8 T d4 c9).b (r.1.3.a T P) f8 b5.extBut,⟨(Q.a T).1,(Q.a T).2,(Q.a T).3.imp λg8 L=>⟨L.1,L.2.imp λh1 L=>⟨(b5.2 K (rJ a2)).trans L.1,L.2⟩⟩⟩,(r.1.3.a T P),e6,
         C Cy ((T.e r.1.5).n (aE.k d6))⟩ w)))) F (bi (⟨G,a6,l,0,s.toks,s.heap⟩,[],#[],0) A ⟨d1,d0,g2,f9,A⟩ e8)
end
section
variable{g:Type}{c:bg g}{a:Around}{f:Value->Shared->Prop}{s:Shared}{e:Env}{n d:Nat->Option Str}
inductive mu(e)(n d:Nat->Option Str)(b)(h)(t)(k j) where
 |mk (q:b.kind=.function)
  (l:∀x∈b.names,x.2≠ .cell)
  (r:∀x∈b.names,x.2=.local->b.names.lookup x.1=B .local)
  (p:iV e.cells b.names []=B h)
  (m:∀C,eH (compEnvC b h C e) d)
  (v:∀C,kz d (compEnvC b h C e) t k)
  (o:∀C i y,hF d (kk t) i=B y->n i=B y/\((compEnvC b h C e).kindOf y=B .cell∨(compEnvC b h C e).kindOf y=B .free)/\h.lookup y=e.cells.lookup y/\e.kindOf y≠B .local)
  (u:pH j e)
theorem NI:∀{m}{k j},iV b m k=B j->(∀y,k.lookup y=B q->∃z,b.lookup z=B q)->j.lookup y=B q->∃z,b.lookup z=B q:=λ{m}=>by
 induction m with
 |nil=>exact @λk j i l h=>l y (C (R i) h)
 |cons v w o=>
  obtain⟨r,p⟩:=v;exact @λk j i l h=>by
   have i:(bif p==.free then Y _ _ else iV _ w k)=B j:=i;cases t:(p==nT)with
   |true=>
    rw[t]at i;exact aj i λx u i=>o i (λy h=>by
     rw[mp]at h;cases z:y==r with
     |true=>rw[z]at h;exact⟨r,u.trans h⟩
     |false=>rw[z]at h;exact l y h) h
   |false=>rw[t]at i;exact o i l h
theorem mu.b{v o}(u:mu e n d i h t v o){l}{k}{p}(F:aT c e n l k p)(y)(q)(j:h.lookup y=B q):∃r,k.get? q=B r:=
 (NI u.4 (λy j=>X j) j).elim λz m=>F.5 z q m
inductive Mg(i:Heap)(h b C) where
 |mk (p:i.get? h=N)
  (o:i.get? b=N)
  (m:i.get? C=N)
  (k:b≠h)
  (j:b≠C)
  (l:h≠C)
theorem SY{h b j}{p q}(l:b=h.push p)(m:j=b.push q):Mg h h.objs.size b.objs.size j.objs.size:=by
 have z:b.objs.size=h.objs.size+1:=C l (ye ..);have t:j.objs.size=h.objs.size+2:=(C m (ye ..):j.objs.size=b.objs.size+1).trans (O _ z);have r:∀i,h.objs.size<=i->h.get? i=N:=λi o=>by cases k:h.get? i with|none=>rfl|some u=>exact ak (ig k) (hu.mpr o)
 exact C z (C t ⟨en,ql,r _ (bX _ _),py _,bw (fi _),bw (px (by decide))⟩)
theorem NX(c9:aH c)(d4:a.handled=N){a9 a6 a3}(E:mu e n d k l t a9 a6)(d3:∀G,aN c a (compEnvC k l G e) d a3 h)(d6:∀G,mA c a (compEnvC k l G e) d o q){a1:Value->Addr->Result->Shared->Prop}
  {Z} (S:ay c i p j) (F:aT c e n i j m) (d2:i.a b I=B Z)
  (d7:fu c.a (.g b) (dK c.a t (km c.a q h)) (hG c.a (.g b) p.b+1) 0 [] m p=B (x,u))
  (d1:∀b1 G U K P,Dg c e n i j u m x b1 G U K->a1 (.ref b1) G (.ok .next) {s with heap:=K,toks:=P}):
  wpAny (model c.c c.b) a (newList []) (λb3 e1=>wpAny (model c.c c.b) a (newFunctionEnv k e.globals l [] e.qual N .none (B e)) (λb4 e2=>codeAny (model c.c c.b) a (.compStart (.ListComp a3 [⟨a9,a6,o,0⟩] k r) 0 (.ref j.objs.size) b3 {b4 with scope:=relabel k e}) (a1 b3 b4.locals) e2) f e1) f
   {s with heap:=j.push {cls:=.type "list_iterator",data:=.fields #[.ref Z,.int 0 0]},toks:=P}:=by
 refine wpAny_newObj_type (wpAny_newFunctionEnv E.2 (λC d8=>ak d8 cI) (λX V W=>?_) E.1);dsimp only at V W⊢;generalize a4:j.push _=c3 at V W⊢;generalize a5:c3.push _=H at V W⊢;have w:=SY a4.symm a5.symm;have b8:=λh y v=>W.extBut h y (bw (ig v)) (eu _ _ _ _ v)
 have b7:=λh y v=>b8 h y (a5▸eu _ _ _ _ v)
 have Y:gY j X:=λh y v=>b7 h y (J a4 (eu _ _ _ _ v))
 have a0:=kM S F w.3;have c0:=kM S F w.2;have b0:∀{b},dU c i e.locals b->b≠H.objs.size->dU c i _ b:=λt d0=>⟨t.1,t.2,t.3,d0⟩
 have c2:aT c (compEnvC _ l H.objs.size e) _ i X m:=⟨F.1.elim λe7 C=>(ag _ V (λb5 e5 c1 c5 c6 c7=>have T:=E.7 _ b5 c1 c7
   (C.2 b5 e5 c1 c5 c6 T.1).elim (λz=>ak z.1 T.2.2.2) λz=>aq z.2 λq e3 z=>.inr ⟨T.2.1,(dR q e3 (T.2.2.1.trans z.1) (sX z.2.1 λy v=>Y q y v) (b0 z.2.2.1 λQ=>z.2.1.elim λe8 c8=>bZ w.3 (J Q c8.1)) z.2.2.2)⟩)),
  a0.1,a0.2,a0.3,λC q v=>(E.b F C q v).imp λy c4=>Y q y c4⟩
 have b6:X.IsListIter _ Z 0:=(bi _ (b7 _ _ (J a4 (fl _ A))) A A)
 have a7:=b8 _ _ (J a5 (fl _ A));have b9:codeAny _ a (.compLoop (.ListComp a3 [⟨a9,a6,o,0⟩] k r) 0 _ _ (compEnvC _ l H.objs.size e)) (a1 _ H.objs.size) {s with heap:=X,toks:=P+([]:List (Str×Value)).length}:=
  NY c9 d4 (E.5 _) (E.6 _) (d3 _) (d6 _) w.4 w.2 (λU K P e4 d9 L a8 a7 e0=>
    have a2:∀b2,bk b2 i j U K:=λb2=>⟨L.1.1,L.1.2,L.1.3,L.1.4,L.1.5,λb y v d5 e6=>L.1.6 b y v d5 λQ=>bZ w.3 (J (show b=H.objs.size from Q) v)⟩
    d1 _ _ U K P ⟨⟨a2 _,L.2,(F.a (a2 _) λy v=>(a2 _).6 _ y v F.2 λQ=>bZ w.3 (Q▸v)),F.5⟩,⟨a8.1,a8.2,a8.3,c0.4⟩,w.2,(dE e4 d9 a7 e0),⟨L.3.2,L.3.3,L.3.4,a0.4⟩,w.3,w.5,L.3.1.imp λe6 C=>C.1⟩)
   ⟨.c Y,S.c Y,c2,λC q v=>E.b F C q v⟩ ⟨b0 (kM S F w.1) w.6,w.1,Z,d2,b6⟩ (b0 c0 w.5) a7 d7
 exact codeAny_compStart_list b9 (wpAny_pyIter_listiter b6 b9)
theorem NS(w:b.f<=k):∀{l p}{m}{r}{u v:S g}{x},fu b t h l p m r u=B (x,v)->m.length<=k->x.length<=k:=λ{l}=>by
 induction l with
 |zero=>exact @λz z z z z z i z=>X i
 |succ l q=>
  exact @λp m r u v x i o=>aj (EI.symm.trans i) λF z i=>Ax (λj=>aW (qR j i)▸o) λG j=>
    have i:=tD j i
    aO i λE s z i=>Ax (λj=>q (qR j i) o) λH j=>
     have i:=tD j i
     aY i λy i=>q i (by exact C dr (cO (bH y) w))
theorem EJ(X:aH c)(b3:a.handled=N){Y P W}(F:mu e n d b h t Y P)(b2:∀C,aN c a (compEnvC b h C e) d W k)(b4:∀C,mA c a (compEnvC b h C e) d m q)(b0:aN c a e n P x)
  (a3:ay c i o s.heap) (a1:aT c e n i s.heap l) (E:ia c.a k t x q l o=B (v,p))
  (b1:∀z K a0 G H C Q L T,bk e.locals i s.heap z K->G.length<=ef->fL c.a N (.a G) a0=B (v,p)->Dg c e n z K a0 l G H C Q L->compPost (model c.c c.b) a f u j (.ref H) C (.ok .next) {s with heap:=L,toks:=T}):
  wpAny (model c.c c.b) a (comprehension (.ListComp W [⟨Y,P,m,0⟩] b r) b e w (newList []) I (eval P e) u) j f s:=
 aO E λc7 c3 a8 E=>aO E λc0 c4 y E=>aO E λG b8 V b5=>aj y λa6 a9 y=>aj y λc8 b7 y=>wpAny_comprehension_free A F.8 (NO F.4) F.1 F.3 (b0 _ _ _ _ _ _ _ _ a3 a1 a8 λz K c5 b9 a4 U a2 a5=>(show ao c.e z (.b a6) b9 from J (mH a9) a5).elim λc1 S=>S.1▸U.a (jm b7) S.2 λc6 c2 b6 Z Z Z=>wpAny_pyIter_list (bi _ b6 A ⟨_,A⟩) (NX X b3 F b2 b4 (bo y▸U) a2 (aW y▸S.2) V λH C Q L T a7=>b1 z K b8 G H C Q L T a4 (NS X.1 V (ek _)) b5 a7))
theorem X'(r:aH c)(Q:a.handled=N){u}{v l m}(a2:mu e n d b h u v l)(P:∀C,aN c a (compEnvC b h C e) d m i)(W:∀C,mA c a (compEnvC b h C e) d j q)(H:aN c a e n l x):aN c a e n (.ListComp m [⟨v,l,j,0⟩] b p) (ia c.a i u x q):=
 λa5 f s a6 b5 b1 b3 b6 y F X Z=>by exact EJ r Q a2 P W H y F X λa7 a9 b7 b4 w C a8 b0 a3 T S U k=>k.8.elim λa1 J=>(ag a1 J (λY t=>k.4.elim λa4 o=>o.elim λa0 o=>(k.1.b k.5 k.6 t.extBut).d r U k.2 k.3 (λb2 K=>⟨A,(an a4 a0 ((t.2 w k.7).trans o.1) (aE.e K (λz z E=>E) _ _ o.2) S)⟩) λG L V z=>Z G Y a3 _ (T.a L.1) L.2 L.3 V))
noncomputable def wA(h:Scope)(y)(b p:Pos):=b.line==p.line&&!(h.names.any λx=>x.1==y&&(x.2==.local||x.2==.cell))
theorem Zb{y}(t:e.scope.kind=.function)(u:e.kindOf y=B .local)(m:wA h y b p=D):
  swapsWith (.ListComp i j h p) (B (.Name y b)) l e=pure D:=V m λo q=>by
 have r:(e.blockKind==LP)=D:=by unfold T1;refine C t ?_;rfl
 show pure (e.blockKind==.function&&e.kindOf y==B _&&b.line==p.line&&!(h.names.any λ(v,k)=>v==y&&(k==.local||k==.cell)))=_
 refine C r (C u (C o (C q ?_)));rfl
theorem XH(J:aH c)(a9:a.handled=N)(H:eH e n){o}{S}{V E G}(c1:mu e n d o b S V E){P}{w}{y}(b0:n w=B y)(K:e.kindOf y=B .local)(b3:wA o y i p=D)(a8:∀l,aN c a (compEnvC o b l e) d G h)(t:∀l,mA c a (compEnvC o b l e) d P q)(a5:aN c a e n E x):
  eU c a e n (.Assign [.Name y i] (.ListComp G [⟨V,E,P,0⟩] o p) j) (iE w (ia c.a h S x q)):=
 λc8 f s d0 e2 b8 c9 d5 e3 Y W u F=>aO u λe0 d9 u v=>aj v λd6 c2 v=>nh (r:=b8) v F λF=>by
  exact C (exec_Assign_Name_used _ _ _ _ (Zb H.1 K b3)) (wpAny_bind (wpAny_standAt (wpAny_bind (wpAny_bind (wpAny_mono (EJ J a9 c1 a8 t a5 Y W u λd1 d3 e4 e1 c7 l d2 b5 c3 a0 b1 b2 k=>(k.8.elim λb9 a6=>aq k.4 λc6 b7 Q=>k.1.d J b2 k.2 k.3 (λd7 a7=>⟨A,(an c6 b7 Q.1 (aE.e a7 (λz z m=>m) _ _ Q.2) b1)⟩) λa4 L a1 c4=>
   have U:=c4 l k.5 (rJ k.7)
   wpAny_assign_Name (tR (f:=[]) (s:={s with heap:=b5,toks:=c3}) H b0 K L.2 (L.3.f _) a1 c2 λd4 c5 T Z X=>cf a6 λc0 a3 a2 y=>(ag b9 (ml c0 a3 a2 (U.c T y.1) y.2) (λb6 b4=>
    have r:=(L.c T Z (X.d λw y m=>pS m cI)).b U k.6 b4.extBut
    F a4 b6 c5 _ (a0.a r.1) r.2 r.3 A))))) (λz d8 t=>wpAny_pure (wpAny_pure t)) λz z m=>m)))))
end
section
variable{d:Type}{c:bg d}{a:Around}{b:Value->Shared->Prop}{s:Shared}{e:Env}{n f:Nat->Option Str}
theorem Yj(m:aH c)(W:kdsCode c.f e.code=D)(X:pK g)(h:aN c a e n g x):aN c a e n (.Set [g] 0 p) (pj c.a x):=
 λa5 b s l a4 a1 v b4 k F i a2=>aO i λb3 b0 K i=>aj i λu P i=>by
  refine wpAny_bind (wpAny_standAt ?_);refine wpAny_bind (kds_main (k.g m) W λa6=>?_);rw[X];refine kds_core (ts:=[do let v ←eval g e;standAt p;pure v]) A A (by show 1<=30;decide) A λo=>?_
  have L:cR c e n l _ l (s.heap.push {cls:=.type "set",dict:=N,data:=.set #[] 0 (.fresh 0 0 o)}) a4 a1:=.a k F (eu _ _);have t:=kM k F en;refine wpAny_bind (wpAny_bind (h _ _ _ _ _ _ _ _ L.2 L.3 K λQ a7 b2 a3 T G w V=>?_));refine wpAny_bind (wpAny_standAt (wpAny_pure (wpAny_bind (wpAny_holding (wpAny_pure (wpAny_pure ?_))))));refine(show ao c.e Q (.a u) a3 from J (fZ P) V).elim λb1 Z=>?_
  refine C Z ?_;refine kds_fill_cons ?_;refine wpAny_holding (wpAny_bind ((intKind _ c.b).pyHash (beq_self_eq_true _) ?_));refine wpAny_setAddHashed_of (beq_self_eq_true _) A ((setObjOf_fresh o).setOf (t.c T (fl _ A)) (by decide)) (by decide) λa0 Y U=>?_
  have r:=t.a T (fl _ A);exact((L.c T G w).b r en Y.extBut).d m i r en (λa9 z=>U.elim λq y=>⟨A,(xK q _ _ (cf y λz z z y=>y.1) (cf y λz z z y=>y.2.1.1) ⟨q,y⟩ (bd 1) (λa8=>by
   rw[L9,decide_eq_true_eq]
   exact⟨λh=>h.elim az λh=>(ag u bn h.symm),λh=>h.elim λy h=>.inr (h.2.symm.trans (O _ (E.j (fR.mp h.1))))⟩))⟩) λS j H z=>a2 S a0 _ _ j.1 j.2 j.3 H
end
theorem RE{c}(h:c 1 0 (λd b=>bif d then a #[1,0] b else a #[0,1] b) s):(kas_sort 2).kasWp c a s:=by
 have f:(kas_sort 2).kasWp c a s=c 1 0 (λd b=>bif d then a #[1,0] b else a #[0,1] b) s:=by
  show c 1 0 _ s=_
  congr 1;funext e b;cases e<;>rfl
 exact C f h
noncomputable def Mw(h:Heap)(L:Addr):List (Addr×Obj):=(bv h.objs.size).filterMap λa=>bif M a L then N else(h.get? a).map λo=>(a,o)
theorem qF{L b}:(b,o)∈Mw h L↔h.get? b=B o/\b≠L:=List.mem_filterMap.trans
 ⟨λx=>x.elim λc x=>by
  have a:=x.2;cases e:M c L with
  |true=>rw[e]at a;exact X a
  |false=>rw[e]at a;cases p:h.get? c with|none=>rw[p]at a;exact X a|some g=>rw[p]at a;have q:=R a;have d:=(dd q).1;have f:=(dd q).2;subst d;subst f;exact⟨p,λz=>ck ((cb.mpr z).symm.trans e)⟩,
  λx=>(ag b (pt.mpr (ig x.1)) (by refine C (oF x.2) (C x.1 ?_);rfl))⟩
def TU:Heap:={}
section
variable{p:Program}{w:World}{a:Around}{b:Value->Shared->Prop}{s:Shared}
theorem Yz{d}(h:v.length<2)(f:s.heap.get? d=B (seqObj "list" v.toArray n))(i:c (.done (.ret .none)) {s with heap:=sortedHeap s.heap d v v.toArray}):
  wpAny (model p w) a (Builtin.«list.sort» ⟨[.ref d],[]⟩) c b s:=by
 have g:v.length<=sizeLine:=by exact aV (fh h) (by decide)
 rw[list_sort_plain];refine wpAny_bind (listItems_at f A (wpAny_bind (listUpdate_at f A ?_ g (ek _))));obtain⟨k,e⟩:∃k,(s.heap.update d _).get? d=B (seqObj _ #[] k):=⟨_,get?_update_seq f (λz=>#[])⟩
 refine wpAny_bind (seqEpoch_at e A (wpAny_bind (wpAny_newTuple ?_ g)));refine wpAny_bind (wpAny_newList ?_ (ek _));refine wpAny_holding ?_;show wpAny _ a _ c b {s with heap:=((s.heap.update d _).push (seqObj _ v.toArray 0)).push _}
 refine C (if_pos h) (C (if_pos h) ?_);refine wpAny_bind (wpAny_pure ?_);refine wpAny_bind (wpAny_pure ?_);dsimp only;have j:=by
  show(v.toArray.zip v.toArray).map (·.2)=v.toArray
  apply KW.mp;exact C Array.toList_map (C Array.toList_zip (C (List.map_snd_zip (bd _)) A))
 refine wpAny_bind (seqEpoch_at (jE _ (jE _ e)) A ?_);refine C j ?_;refine wpAny_bind (listUpdate_at (jE _ (jE _ e)) A ?_ (ek _) (aV (fh h) (by decide)));rw[bne_self_eq_false];exact wpAny_pure i
theorem YA(h:v.length<2)(f:s.heap.IsList l v.toArray)(e:c (.ref (s.heap.objs.size+1)) {s with heap:=sortedAll s.heap v v.toArray}):
  wpAny (model p w) a (call (.builtin "sorted") [.ref l]) c b s:=by
 have d:v.length<=sizeLine:=by exact aV (fh h) (by decide)
 refine Calls.call_function_entry kind_sorted plain_sorted entry_sorted (args_sorted1 _) ?_;refine wpAny_bind (wpAny_pure (wpAny_bind (collect_list f ?_ d)));refine wpAny_bind (wpAny_newList ?_ d);have z:((s.heap.push (seqObj "list" #[] 0)).update s.heap.objs.size (LM (· ++v.toArray))).objs.size=s.heap.objs.size+1:=by rw[U7,size_push']
 exact C z (wpAny_bind (wpAny_holding (wpAny_call_entry slot_list_sort (ag _ (by
  exact J z (fl _ A)) A) entry_list_sort (Yz h (by
  exact J z (fl _ A)) (ag _ A (wpAny_pure (ag _ A e)))) (args_list_sort _))))
theorem Fe{v}:(∃k,(sortedAll h v v.toArray).get? (h.objs.size+1)=B (seqObj "list" v.toArray k))/\∀c o,h.get? c=B o->(sortedAll h v v.toArray).get? c=B o:=by
 have z:((h.push (seqObj "list" #[] 0)).update h.objs.size (LM (· ++v.toArray))).objs.size=h.objs.size+1:=by rw[U7,size_push']
 unfold sortedAll;generalize d:(h.push _).update _ _=X at z;have f:(X.push (seqObj "list" v.toArray 0)).get? (h.objs.size+1)=B (seqObj "list" v.toArray 0):=by exact J z (fl _ A)
 obtain⟨k,g⟩:∃k,((X.push (seqObj _ _ 0)).update (h.objs.size+1) _).get? (h.objs.size+1)=B (seqObj _ #[] k):=⟨_,get?_update_seq f (λi=>#[])⟩
 refine⟨⟨_,get?_update_seq (jE _ (jE _ g)) _⟩,λc o e=>?_⟩;have l:c≠h.objs.size+1:=bw (eb (ig e));refine C (LI _ _ _ _ l) ?_;exact jE _ (jE _ (C (LI _ _ _ _ l) (jE _ ((λc o e=>by
  exact J d (C (LI _ _ _ _ (bw (ig e))) (jE _ e))) c o e))))
end
section
variable{d:Type}{c:bg d}{a:Around}{b:Value->Shared->Prop}{s:Shared}{e:Env}{n f:Nat->Option Str}
theorem SQ:kT g h (x::i) (y::j)=aI (lG x&&lG y) (Y (eL g x y) λt=>a' (lP g h x y) (kT g h i j) t):=A
theorem GF{r}(k:r=D->KatLex p w a D h g l (i+1) s)(m:r=I->wpAny (model p w) a (oneLt' (D&&i==0) j q) g (λz z=>False) s):KatGo p w a D h g j q l i r s:=by cases r with|true=>exact kat_yes (k A)|false=>exact kat_no (m A)
section
variable(g:aH c){h:aM}{k:S d}(i:ay c h k s.heap)(j:a.units+5<cLine)
include g i j
theorem Sn:∀{x y}{p}{u v}{r}{Q},kT c.a.b c.a.c.n x y=B p->aE c.e h x u->aE c.e h y v->Q p s->KatLex c.c c.b a D (decide (u.length<v.length)) Q (u.zip v) (r+1) s:=λ{x}=>by
 induction x with
 |nil=>exact @λT=>by cases T with|nil=>exact @λp u v r Q l o m q=>o.f (P:=λu=>KatLex _ c.b a D (decide (u.length<v.length)) Q (u.zip v) _ s) (m.f (P:=λv=>KatLex _ c.b a D (decide ([].length<v.length)) Q _ _ s) (kat_nil (C (show decide ([].length<[].length)=p from R l) q)))|cons y W=>exact @λp u v r Q l o m q=>o.f (P:=λu=>KatLex _ c.b a D (decide (u.length<v.length)) Q (u.zip v) _ s) (m.b (P:=λv=>KatLex _ c.b a D (decide ([].length<v.length)) Q _ _ s) λz P X X=>kat_nil (C ((decide_eq_true (lq _)).trans (R l)) q))
 |cons x Z K=>
  exact @λU=>by
   cases U with
   |nil=>exact @λp u v r Q l o m q=>m.f (P:=λv=>KatLex _ c.b a D (decide (u.length<v.length)) Q _ _ s) (by exact C Lw (kat_nil (C ((decide_eq_false (yc _)).trans (R l)) q)))
   |cons y W=>
    exact @λp u v r Q l o m q=>o.b (P:=λu=>KatLex _ c.b a D (decide (u.length<v.length)) Q (u.zip v) _ s) λw S o H=>m.b (P:=λv=>KatLex _ c.b a D (decide ((w::S).length<v.length)) Q _ _ s) λz Y m J=>aY l λG l=>aj l λP L l=>V G λE F=>kat_cons (zb g i E F L o m j (GF (λt=>(show decide _=decide _ from decide_eq_decide.mpr ⟨CY,uq⟩).symm▸
      K (by rw[t]at l;exact l) H J q) λt=>kat_one w z (Ab g (by rw[t]at l;exact l) o m q)))
theorem Sm{t w}{y z}{q}(m:kT c.a.b c.a.c.n (.e t::y) (.e w::z)=B q)(o:aE c.e h (.e t::y) u)(p:aE c.e h (.e w::z) v)(x:l q s):KatLex c.c c.b a D (decide (u.length<v.length)) l (u.zip v) 0 s:=
 o.b (P:=λu=>KatLex _ c.b a D (decide (u.length<v.length)) l (u.zip v) 0 s) λL P o H=>p.b (P:=λv=>KatLex _ c.b a D (decide ((L::P).length<v.length)) l _ 0 s) λU W p J=>aY (SQ.symm.trans m) λG m=>aj m λQ K m=>V G λE F=>kat_cons (zb g i E F K o p j (GF (λr=>(show decide _=decide _ from decide_eq_decide.mpr ⟨CY,uq⟩).symm▸
   Sn g i j (by rw[r]at m;exact m) H J x) λr=>o.elim λS o=>p.elim λT p=>C o (p▸oneLt_str (g.8 t w q (by rw[r]at m;exact m)▸x))))
end
theorem JX(h:oT x=D){P:Prop}(k:∀i r,x=.d (.e i::r)->P):P:=by
 cases x with
 |d l=>cases l with
  |nil=>exact az h
  |cons g r=>cases g<;>first|exact az h|exact k _ _ rfl
 |_=>exact az h
theorem YB(c9:aH c){d4}(d6:dM a d4){x}{e2}{a4}(U:ay c x e2 s.heap)(F:aT c e n x s.heap a4){Q b4}{b9 c0}{r}(d1:lQ c.a.b c.a.c.n (.d (.e b4::c0)) (.d (.e Q::b9))=B r){H S}(b1:s.heap.IsList l #[H,S])
  (k:ao c.e x (.d (.e Q::b9)) H) (m:ao c.e x (.d (.e b4::c0)) S)
  (G:∀j t d3,s.heap.get? j=N->(∀i o,s.heap.get? i=B o->i≠e.locals->t.get? i=B o)->t.get? j=B (et (bif r then #[S,H]else #[H,S]) d3)->aT c e n x t a4->g (.ref j) {s with heap:=t}):
  wpAny (model c.c c.b) a (call (.builtin "sorted") [.ref l]) g b s:=by
 refine F.1.elim λa5 b2=>aq k λv b7 k=>aq m λw b8 m=>(U.3 v b7 k.2.1).elim λe5 h=>(U.3 w b8 m.2.1).elim λe6 L=>h.2.2.elim λe3 y=>L.2.2.elim λe4 a0=>?_
 rw[k.1,m.1]at b1;have b5:v≠e.locals:=λz=>bZ F.3 (z▸k.2.1)
 have b6:w≠e.locals:=λz=>bZ F.3 (J z m.2.1)
 have c3:∀u,u.Ns e.locals a5->(∀i o,s.heap.get? i=B o->i≠e.locals->u.get? i=B o)->aT c e n x u a4:=λu b3 q=>⟨(ag a5 b3 (λQ e1 a7 c6 c7 y=>(b2.2 Q e1 a7 c6 c7 y).imp id λp=>⟨p.1,c' p.2 λG H p=>(aK p.1 (sX p.2.1 λo h=>q _ _ h p.2.2.1.4) p.2.2)⟩)),
  F.2,F.3,F.4,λa7 G h=>(F.5 a7 G h).elim λo c5=>(di (G=e.locals)).elim (λa1=>cf b3 λd5 a8 a8 z=>⟨d5,C a1 z.1⟩) λa1=>⟨o,q _ _ c5 a1⟩⟩
 refine kat_sorted (h₀:=TU) ⟨b2.1,λr o h=>X h,ek _⟩ (λp P=>(aK ((qF.mp P).1) ((qF.mp P).2) A)) b1 (bd 2) (bH A) λj c8 t c1 K b0=>?_
 have q:∀i o,s.heap.get? i=B o->i≠e.locals->t.get? i=B o:=λi o h E=>(K _ (.tail _ (qF.mpr ⟨h,E⟩))).1
 have a9:∀a6,a6.toArray=(bif r then #[.ref w,.ref v]else #[.ref v,.ref w])->KasFin _ _ a5 j c8 a6 _ {s with heap:=t}:=λa6 d2=>KasFin.intro c1 K (.head λp P=>bw (b0 p P)) λu c4 c2 T=>G j u c4 (by
  cases z:s.heap.get? j with
  |none=>rfl
  |some o=>exact(di (j=e.locals)).elim (λa3=>ak a3 (K _ (.head _)).2.1) λa3=>ak (b0 _ (qF.mpr ⟨z,a3⟩)) (CX _)) (λi o h E=>(T _ (.tail _ (qF.mpr ⟨h,E⟩))).1) (C k.1 (m.1▸d2▸(T _ (.head _)).1)) (c3 u c2.ns λi o h E=>(T _ (.tail _ (qF.mpr ⟨h,E⟩))).1)
 refine k.2.2.b (P:=λd9=>b7=d9->_) (λf0 e7 V a8 Y=>m.2.2.b (P:=λe0=>b8=e0->_) (λf1 e8 W a8 Z=>V.elim λd7 V=>W.elim λd8 W=>?_) A) A;rw[V]at Y;rw[W]at Z;rw[Y]at y;rw[Z]at a0;refine kat_kind (fs:=[.str _ d7,.str _ d8]) (.cons (q _ _ h.1 b5) h.2.1 y A (.cons (q _ _ L.1 b6) L.2.1 a0 A .nil)) (bH A) (λe9 a2=>(cB.mp a2).elim (λz=>C z .now) λa2=>fR.mp a2▸.now) A ?_;refine RE ?_;refine kat_lt (q _ _ L.1 b6) a0 (q _ _ h.1 b5) y ?_;refine J Z (J Y ?_);refine Sm c9 (U.d (Q:=j) ⟨F.2,F.3,F.4,λz=>(K _ (.head _)).2.1 z.symm⟩ λr o d0 h=>q r o h d0) (d6.e (m:=7) (by decide)) d1 m.2.2 k.2.2 ?_;cases r with|true=>exact a9 [.ref w,.ref v] A|false=>exact a9 [.ref v,.ref w] A
theorem Yx(j:xo g x=B y){P:Prop}(l:x.length<2->x=y->P)(u:∀h i t,x=[h,i]->oT h=D->oT i=D->lQ g.b g.c.n i h=B t->y=(bif t then[i,h]else[h,i])->P):P:=by
 cases x with
 |nil=>exact l (by decide) (R j)
 |cons h r=>cases r with|nil=>exact l (fi 1) (R j)|cons i r=>exact aY j λk j=>V k λk q=>V k λo p=>aj j λt m j=>u h i t (C (ej.mp o) A) p q m ((R j).symm.trans (by cases t<;>rfl))
theorem MO(m:aH c)(d0:dM a g):uw c a 3:=λb s e n v d5 e8 c2 d3 d1 e2 d6 i F b7 l V=>aj l λe3 b5 l=>qj b5 λc9 a7 c6=>aj l λe6 c8 l=>oG l λp Q=>(show ao c.e v (.b c9) d1 from J a7 b7).elim λj P=>P.1▸i.a c6 P.2 λy e0 T U c3 d9=>
  have p:=fh (m.e p)
  Yx c8 (λb6 c0=>YA (by exact C Array.length_toList (C c3 b6)) (bi _ T A ⟨_,A⟩) (Fe.1.elim λS b0=>tm m i F Q (U6 (gk _)) Fe.2 b0 (J c0 U) p λb1 a1 a0 Y a2=>V b1 _ _ _ a1 a0 Y a2))
   λd3 e5 r a8 b9 c1 c7 a9=>JX b9 λd7 e4 a5=>JX c1 λd8 e7 a6=>by
    subst a8;subst a5;subst a6;refine U.b (P:=λd2=>y.toList=d2->_) (λu W E b8 t=>b8.j (P:=λW=>y.toList=u::W->_) (λq G t=>?_) t) A;refine YB m d0 i F c7 (J (KW.mp (show y.toList=#[u,q].toList from t)) (bi _ T A ⟨_,A⟩)) E G λX K S x w c5 H=>?_
    have c4:X≠e.locals:=λd4=>F.b.elim λo h=>bZ x (C d4 h)
    have Z:cR c e n v _ v K d5 c2:=⟨⟨λz z z h=>h,λz z h=>h,λz z z h=>.inl h,λz z h=>.inl h,λj o h=>(di (j=e.locals)).elim (λk=>H.b.imp λe1 a4=>C k a4) λk=>⟨o,w j o h k⟩,λj o h z k=>w j o h k⟩,
     i.d ⟨F.2,F.3,F.4,rJ c4⟩ λr o b4 h=>w r o h b4,H,F.5⟩
    exact Z.d m Q (kM i F x) x (λg b3=>⟨A,(an _ S c5 (aE.e b3 (λz z h=>h) _ _ (C a9 (by
     cases r with
     |true=>exact(an q [u] A G (an u [] A E A))
     |false=>exact(an u [q] A E (an q [] A G A))))) p)⟩) λb2 L a3 z=>V b2 K _ _ L.1 L.2 L.3 a3
end
structure iP where
 e:Nat
 a:List Expr
 c:List Expr
 f:List Expr
 d:Str
 i:Const
 g:Operator
 b:CmpOp
 h:Option (Scope×Pos)
noncomputable def jt:iP:=⟨0,[],[],[],"",.none,.Add,.Eq,N⟩
noncomputable def ju(t:Nat)(x:List Expr):iP:=⟨t,x,[],[],"",.none,.Add,.Eq,N⟩
noncomputable def vJ:Expr->Bool
 |.UnaryOp .USub (.Constant (.int i) _ _) _=>i==1
 |_=>I
def G3(a:Expr)(l h s:Option Expr):iP:=match s with
 |none=>⟨5,[a],l.toList,h.toList,"",.none,.Add,.Eq,N⟩
 |some e=>bif l.isNone&&h.isNone&&vJ e then ju 6 [a]else jt
def BV(a b:Expr):=match b with
 |.Slice l h s _=>G3 a l h s
 |_=>ju 4 [a,b]
def G5(o:UnaryOp)(a:Expr):=match o with
 |.USub=>ju 8 [a]
 |.Not=>ju 9 [a]
 |_=>jt
def D9(o:BoolOp)(u:List Expr):=match o with
 |.And=>ju 10 u
 |.Or=>ju 11 u
def xx(a:Expr)(b:List CmpOp)(u:List Expr):iP:=match b with
 |o::r=>bif r.isEmpty&&M u.length 1 then⟨12,a::u,[],[],"",.none,.Add,o,N⟩else jt
 |[]=>jt
def ub(f:Expr)(u:List Expr)(k:List Keyword)(p:Pos):=bif k.isEmpty then(match f with
 |.Name x _=>⟨18,u,[],[],x,.none,.Add,.Eq,N⟩
 |.Attribute o x a=>bif a.endLine==p.line then⟨19,u,[o],[],x,.none,.Add,.Eq,N⟩else jt
 |_=>jt)else jt
def BU(e:Expr)(a:List Comprehension)(s:Scope)(p:Pos):iP:=match a with
 |g::r=>bif r.isEmpty&&g.is_async==0 then⟨20,g.ifs,[e,g.target,g.iter],[],"",.none,.Add,.Eq,B (s,p)⟩else jt
 |[]=>jt
def aR(x:Expr):iP:=match x with
 |.Constant c _ _=>⟨1,[],[],[],"",c,.Add,.Eq,N⟩
 |.Name y _=>⟨2,[],[],[],y,.none,.Add,.Eq,N⟩
 |.Attribute a y _=>⟨3,[a],[],[],y,.none,.Add,.Eq,N⟩
 |.Subscript a b _=>BV a b
 |.BinOp c o v _=>⟨7,[c,v],[],[],"",.none,o,.Eq,N⟩
 |.UnaryOp o a _=>G5 o a
 |.BoolOp o u _=>D9 o u
 |.Compare a h u _=>xx a h u
 |.IfExp t a b _=>ju 13 [t,a,b]
 |.Tuple u _ _=>ju 14 u
 |.List u _=>ju 15 u
 |.Dict k u _=>bif k.isEmpty&&u.isEmpty then ju 16 []else jt
 |.Set u d _=>bif M d 0&&M u.length 1 then ju 17 u else jt
 |.Call f u k p=>ub f u k p
 |.ListComp e g s p=>BU e g s p
 |_=>jt
def Dm(x:Expr)(v:iP):Nat->Prop
 |1=>∃k p,x=.Constant v.i k p
 |2=>∃p,x=.Name v.d p
 |3=>∃a p,x=.Attribute a v.d p/\v.a=[a]
 |4=>∃a b p,x=.Subscript a b p/\v.a=[a,b]
 |5=>∃a l h q p,x=.Subscript a (.Slice l h N q) p/\v.a=[a]/\v.c=l.toList/\v.f=h.toList
 |6=>∃a k d f q p,x=.Subscript a (.Slice N N (B (.UnaryOp .USub (.Constant (.int 1) k d) f)) q) p/\v.a=[a]
 |7=>∃a b p,x=.BinOp a v.g b p/\v.a=[a,b]
 |8=>∃a p,x=.UnaryOp .USub a p/\v.a=[a]
 |9=>∃a p,x=.UnaryOp .Not a p/\v.a=[a]
 |10=>∃p,x=.BoolOp .And v.a p
 |11=>∃p,x=.BoolOp .Or v.a p
 |12=>∃a b p,x=.Compare a [v.b] [b] p/\v.a=[a,b]
 |13=>∃t a b p,x=.IfExp t a b p/\v.a=[t,a,b]
 |14=>∃k p,x=.Tuple v.a k p
 |15=>∃p,x=.List v.a p
 |16=>∃p,x=.Dict [] [] p
 |17=>∃a p,x=.Set [a] 0 p/\v.a=[a]
 |18=>∃q p,x=.Call (.Name v.d q) v.a [] p
 |19=>∃o q p,x=.Call (.Attribute o v.d q) v.a [] p/\v.c=[o]/\(q.endLine==p.line)=D
 |20=>∃e c i s p,x=.ListComp e [⟨c,i,v.a,0⟩] s p/\v.c=[e,c,i]/\v.h=B (s,p)
 |_=>True
theorem gK{c:Type}{x y}{P:c->Prop}(k:b=D->P x)(a:P y):P (bif b then x else y):=by cases b with|false=>exact a|true=>exact k A
theorem zT{b:Type}{l:List b}(h:M l.length 1=D):∃a,l=[a]:=P7.mp (cb.mp h)
theorem Rp{p a}(h:vJ (.UnaryOp .USub (.Constant u k p) a)=D):u=.int 1:=by cases u<;>first|exact az h|exact congrArg _ (beq_iff_eq.mp h)
theorem Rr{a}(h:vJ (.UnaryOp .USub a p)=D):∃k b,a=.Constant (.int 1) k b:=by cases a<;>first|exact az h|exact(dQ _ _ (C (Rp h) rfl))
theorem Rq(h:vJ e=D):∃k p a,e=.UnaryOp .USub (.Constant (.int 1) k p) a:=by
 cases e with
 |UnaryOp o b a=>cases o<;>first|exact az h|exact aq (Rr h) λk p y=>(nJ k p a (J y A))
 |_=>exact az h
abbrev yl(x)(v):=Dm x v v.e
theorem Yt(b):(∀a,BV a b=ju 4 [a,b])∨∃l h s q,b=.Slice l h s q:=by cases b<;>first|exact .inr (ko _ _ _ _ rfl)|exact .inl λz=>A
theorem G4:yl (.Subscript a b p) (BV a b):=(Yt b).elim (λe=>by rw[e];exact(ml a b p A A)) λe=>mh e λl h s q e=>by refine C e ?_;cases s with|none=>exact(mm a l h q p (da A A A A))|some e=>exact gK (λc=>V c λc g=>V c λd f=>cf (Rq g) λk i j y=>(C (ks.mp d) (C (ks.mp f) (C y (Cn a k i j q p ⟨A,A⟩))))) trivial
theorem F8{u}{k}{p}:yl (.Call f u k p) (ub f u k p):=by refine gK (λc=>?_) trivial;refine C (ej.mp c) ?_;cases f with|Name x q=>exact(dQ q p A)|Attribute o x q=>exact gK (λc=>(Cm o q p A A c)) trivial|_=>exact trivial
theorem G8(x):yl x (aR x):=by
 cases x with
 |Constant f k p=>exact(dQ k p A)
 |Name z p=>exact⟨p,A⟩
 |Attribute a z p=>exact(dE a p A A)
 |Subscript a e p=>exact G4
 |BinOp f o y p=>exact(ml f y p A A)
 |UnaryOp o a p=>cases o<;>first|exact trivial|exact(dE a p rfl rfl)
 |BoolOp o u p=>cases o<;>exact⟨p,A⟩
 |Compare a r u p=>cases r with|nil=>exact trivial|cons o s=>exact gK (λb=>V b λd c=>(zT c).elim λe l=>C (ej.mp d) (C l (ml a e p A A))) trivial
 |IfExp v a e p=>exact(ko v a e p ⟨A,A⟩)
 |Tuple u k p=>exact(dQ k p A)
 |List u p=>exact⟨p,A⟩
 |Dict n u p=>exact gK (λb=>V b λd c=>C (ej.mp d) (C (ej.mp c) ⟨p,A⟩)) trivial
 |Set u k p=>exact gK (λb=>V b λd c=>(zT c).elim λa j=>C (cb.mp d) (C j (dE a p A A))) trivial
 |Call E u n p=>exact F8
 |ListComp g i t p=>
  cases i with
  |nil=>exact trivial
  |cons h s=>exact gK (λb=>V b λd c=>by
    obtain⟨w,m,F,q⟩:=h;have c:q=0:=beq_iff_eq.mp c
    exact C (ej.mp d) (C c (mm g w m t p (aK A A A)))) trivial
 |_=>exact trivial
theorem dz{t:Nat}(h:M (aR x).e t=D):Dm x (aR x) t:=J (cb.mp h) (G8 x)
def j'(x):=!(M (aR x).e 0)
theorem F9(f)(u)(k)(p):(ub f u k p).e=0∨(ub f u k p).e=18∨(ub f u k p).e=19:=by refine gK (P:=λv:iP=>v.e=0∨v.e=18∨v.e=19) (λz=>?_) (.inl A);cases f with|Name=>exact .inr (.inl A)|Attribute=>exact gK (P:=λv:iP=>v.e=0∨v.e=18∨v.e=19) (λz=>.inr (.inr A)) (.inl A)|_=>exact .inl A
theorem G1(e)(g)(s)(p):(BU e g s p).e=0∨(BU e g s p).e=20:=by cases g with|nil=>exact .inl A|cons a r=>exact gK (P:=λv:iP=>v.e=0∨v.e=20) (λz=>.inr A) (.inl A)
theorem G0(a)(o)(u):(xx a o u).e=0∨(ar (xx a o u).e 9||ar 13 (xx a o u).e)=I:=by cases o with|nil=>exact .inl A|cons b r=>exact gK (P:=λv:iP=>v.e=0∨(ar v.e 9||ar 13 v.e)=I) (λz=>.inr A) (.inl A)
theorem G2(u)(k)(p):(aR (.Set u k p)).e=0∨(aR (.Set u k p)).e=17:=gK (P:=λv:iP=>v.e=0∨v.e=17) (λz=>.inr A) (.inl A)
inductive Mk(x) where
 |mk (p:pK x∨(aR x).e=0)
  (s:uE x∨(aR x).e=0)
  (a:iL x∨(aR x).e=0∨(aR x).e=20)
  (o:pJ x∨(aR x).e=0∨(aR x).e=18∨(aR x).e=19)
  (f:(∀e,pH x e)∨(aR x).e=0∨(aR x).e=17)
  (t:yx x∨(aR x).e=0∨(ar (aR x).e 9||ar 13 (aR x).e)=I)
theorem rc(x):Mk x:=by cases x with|UnaryOp o a p=>cases o<;>exact⟨.inl λz z=>A,.inl λz z z=>A,.inl λz z z=>A,.inl λz z z=>A,.inl λz z=>A,by first|exact .inl λz z=>A|exact .inr (.inr rfl)⟩|BoolOp o u p=>exact⟨.inl λz z=>A,.inl λz z z=>A,.inl λz z z=>A,.inl λz z z=>A,.inl λz z=>A,.inr (.inr (by cases o<;>rfl))⟩|Compare a c u p=>exact⟨.inl λz z=>A,.inl λz z z=>A,.inl λz z z=>A,.inl λz z z=>A,.inl λz z=>A,.inr (G0 a c u)⟩|IfExp=>exact⟨.inl λz z=>A,.inl λz z z=>A,.inl λz z z=>A,.inl λz z z=>A,.inl λz z=>A,.inr (.inr A)⟩|ListComp e g s p=>exact⟨.inl λz z=>A,.inl λz z z=>A,.inr (G1 e g s p),.inl λz z z=>A,.inl λz z=>A,.inl λz z=>A⟩|SetComp=>exact⟨.inl λz z=>A,.inl λz z z=>A,.inr (.inl A),.inl λz z z=>A,.inl λz z=>A,.inl λz z=>A⟩|DictComp=>exact⟨.inl λz z=>A,.inl λz z z=>A,.inr (.inl A),.inl λz z z=>A,.inl λz z=>A,.inl λz z=>A⟩|Call f u b p=>exact⟨.inl λz z=>A,.inl λz z z=>A,.inl λz z z=>A,.inr (F9 f u b p),.inl λz z=>A,.inl λz z=>A⟩|Set u k p=>exact⟨.inl λz z=>A,.inl λz z z=>A,.inl λz z z=>A,.inl λz z z=>A,.inr (G2 u k p),.inl λz z=>A⟩|Starred=>exact⟨.inr A,.inl λz z z=>A,.inl λz z z=>A,.inl λz z z=>A,.inl λz z=>A,.inl λz z=>A⟩|Slice=>exact⟨.inl λz z=>A,.inr A,.inl λz z z=>A,.inl λz z z=>A,.inl λz z=>A,.inl λz z=>A⟩|_=>exact⟨.inl λz z=>A,.inl λz z z=>A,.inl λz z z=>A,.inl λz z z=>A,.inl λz z=>A,.inl λz z=>A⟩
section
variable{x:Expr}
theorem kV{t:Nat}{P:Prop}(h:M (aR x).e t=I)(e:(aR x).e=t):P:=ck ((cb.mpr e).symm.trans h)
theorem vY(h:j' x=D):pK x:=(rc x).1.elim id (kV (cq h))
theorem RQ(h:j' x=D):uE x:=(rc x).2.elim id (kV (cq h))
theorem RR(h:j' x=D)(a:M (aR x).e 20=I):iL x:=(rc x).3.elim id λz=>z.elim (kV (cq h)) (kV a)
theorem RP(h:j' x=D)(a:M (aR x).e 18=I)(b:M (aR x).e 19=I):pJ x:=(rc x).4.elim id λz=>z.elim (kV (cq h)) λz=>z.elim (kV a) (kV b)
theorem vX(h:j' x=D)(a:M (aR x).e 17=I)(e):pH x e:=(rc x).5.elim (λz=>z e) λz=>z.elim (kV (cq h)) (kV a)
theorem RS(h:j' x=D)(a:(ar (aR x).e 9||ar 13 (aR x).e)=D):yx x:=(rc x).6.elim id λz=>z.elim (kV (cq h)) λe=>ck (a.symm.trans e)
end
structure cK where
 k:List (Str×NameKind)
 i:List (Nat×Str)
 g:Bool
noncomputable def cK.b(m:cK)(y):=m.k.lookup y
noncomputable def cK.a(m:cK)(n):=m.i.lookup n
def cK.f(m:cK)(y):=m.b y==B .local
def cK.j(m:cK)(y):=m.b y==B .globalImplicit&&!(y=="__debug__")
def cK.h(m:cK)(y):=m.b y==B .cell||m.b y==B .free
noncomputable def Ug(l:List (Nat×Str)):=l.all λp=>!(p.2=="__debug__")&&!(p.2=="__classdict__")
noncomputable def jj{a:Type} [BEq a]:List a->Bool
 |[]=>D
 |b::r=>!(r.any λc=>c==b)&&jj r
def cK.e(m:cK):=jj (m.i.map (·.1))&&(jj (m.i.map (·.2))&&Ug m.i)
section
variable{a b:Type} [BEq a] [LawfulBEq a]
theorem qK:∀{l:List a},jj l=D->l.Nodup:=λ{l}=>by
 induction l with|nil=>exactλz=>mr|cons c r i=>exactλh=>V h λe f=>fF.mpr ⟨λg=>ck ((show(r.any λd=>d==c)=D from xW.mpr (ag c g (beq_self_eq_true c))).symm.trans (cq e)),i f⟩
theorem hP:∀{l:List _}{c:a}{d:b},l.lookup c=B d->(c,d)∈l:=λ{l}=>by
 induction l with
 |nil=>exact @λz z h=>X h
 |cons e r i=>obtain⟨x,y⟩:=e;exact @λc d h=>by rw[mp]at h;cases p:c==x with|true=>rw[p]at h;exact C (beq_iff_eq.mp p) (J (R h) bn)|false=>rw[p]at h;exact bT _ (i h)
theorem SL:∀{l:List _}{c:a}{e:b},(l.map (·.1)).Nodup->(c,e)∈l->l.lookup c=B e:=λ{l}=>by
 induction l with
 |nil=>exact @λz z z h=>ak h cI
 |cons f r i=>obtain⟨x,y⟩:=f;exact @λc e d h=>by have d:=fF.mp d;refine C mp ?_;cases p:c==x with|true=>exact(cB.mp h).elim (λh=>O B (dd h).2.symm) λh=>ak (hr.mpr ⟨_,h,beq_iff_eq.mp p⟩) d.1|false=>exact(cB.mp h).elim (λh=>ak ((dd h).1▸p) (by rw[beq_self_eq_true];exact xR)) λh=>i d.2 h
end
theorem Yw{y}:∀{l:List (Nat×Str)},(l.map (·.2)).Nodup->(i,y)∈l->(j,y)∈l->i=j:=λ{l}=>by
 induction l with
 |nil=>exactλz d z=>ak d cI
 |cons p r g=>
  exactλh f b=>have h:=fF.mp h
    (cB.mp f).elim (λa=>(cB.mp b).elim (λe=>(dd (a.trans e.symm)).1) λm=>ak (hr.mpr ⟨_,m,by exact J a A⟩) h.1)
     λc=>(cB.mp b).elim (λe=>ak (hr.mpr ⟨_,c,by exact J e A⟩) h.1) λm=>g h.2 c m
def BI(n:Nat->Option Str)(l:Str->Bool):dN->Expr->Bool:=λt=>dN.rec (motive_2:=λz=>List Expr->Bool)
 (λi e=>M (aR e).e 2&&(n i==B (aR e).d&&l (aR e).d)) (λz d e=>M (aR e).e 14&&d (aR e).a) (λa=>a.isEmpty) (λz z b c a=>ds I (λe r z=>b e&&c r) a) t
def J'(t:dN):Expr->List (Nat×Str):=dN.rec (motive_2:=λz=>List Expr->List _)
 (λi e=>[(i,(aR e).d)]) (λz d e=>d (aR e).a) (λz=>[]) (λz z a b c=>ds [] (λe r z=>a e++b r) c) t
mutual
theorem BJ{l}{b}(d:∀y,l y=D->b.kindOf y=B .local):∀f e,BI n l f e=D->kz n b f e
 |.a j,e,h=>V h λc h=>V h λi o=>(dz c).elim λp g=>(an _ p g (beq_iff_eq.mp i) (d _ o))
 |.e t,e,h=>V h λc h=>aq (dz c) λr p g=>(ml _ r p g (JZ d t _ h))
theorem JZ{l:Str->Bool}{b}(d:∀y,l y=D->b.kindOf y=B .local):∀t a,dN.rec_1 (motive_1:=λz=>Expr->Bool)
  (λj e=>M (aR e).e 2&&(n j==B (aR e).d&&l (aR e).d)) (λz q e=>M (aR e).e 14&&q (aR e).a) (λa=>a.isEmpty) (λz z k m a=>ds I (λe s z=>k e&&m s) a) t a=D->si n b t a
 |[],a,h=>ej.mp h
 |f::t,[],h=>az h
 |f::t,e::a,h=>V h λc i=>(an e a A (BJ d f e c) (JZ d t a i))
end
section
variable{o:Type}{n:bg o}{m:Env}
inductive cF(n:bg o)(m:Env)(f:cK) where
 |mk (k:m.scope.kind=.function)
  (g:m.globals=mainGlobals)
  (b:m.builtins=builtinsNs)
  (e:m.scope.names=f.k)
  (h:f.e=D)
  (c:∀y,f.h y=D->∃a,m.cells.lookup y=B a)
  (d:f.g=D->kdsCode n.f m.code=D)
section
variable{e:cK}
theorem cF.b(x:cF n m e)(y):m.kindOf y=e.b y:=by unfold Env.kindOf cK.b;exact C x.4 A
theorem cF.a(x:cF n m e):eH m e.a:=V x.5 λj q=>V q λr h=>
 have k:∀i y,e.a i=B y->(y=="__debug__")=I/\(y=="__classdict__")=I:=λi y g=>V (bu.mp h _ (hP g)) λl p=>⟨cq l,cq p⟩
 ⟨x.1,x.2,x.3,λi s y j h=>Yw (qK r) (hP j) (hP h),λi y g=>(k i y g).1,λi y g=>(k i y g).2⟩
theorem cF.f(x:cF n m e)(y)(h:e.f y=D):m.kindOf y=B .local:=(x.b y).trans (beq_iff_eq.mp h)
theorem cF.d(x:cF n m e)(j:e.j y=D)(i:n.e.j y=B v):jI n m y v:=V j λg h=>⟨i,(x.b y).trans (beq_iff_eq.mp g),cq h⟩
end
noncomputable def AU(k:Str->Option NameKind)(l:List (Str×NameKind)):=l.map λp=>bif p.2==.free&&k p.1==B .cell then(p.1,.cell)else p
noncomputable def FZ(i:Nat)(l:List Nat):=l.any (M i)
def cK.d(q:cK)(s:Scope)(t):=q.i.filter λp=>s.names.lookup p.2==B .free&&!(FZ p.1 (kk t))
def cK.c(p:cK)(s:Scope)(t:dN)(q:Expr):cK:=⟨AU p.b s.names,J' t q++p.d s t,p.g⟩
noncomputable def NW(s:Scope):=s.kind==.function&&s.names.all λp=>!(p.2==.cell)&&(!(p.2==.local)||s.names.lookup p.1==B .local)
def cK.l(p:cK)(s:Scope)(t)(r):=NW s&&((p.c s t r).e&&(BI (p.c s t r).a (p.c s t r).f t r&&((J' t r).all (λq=>FZ q.1 (kk t))&&
 ((p.d s t).all (λq=>(p.c s t r).h q.2&&p.h q.2)&&s.names.all λq=>!(q.2==.free)||p.h q.1))))
theorem wN{P:Prop}(h:(a||b)=D)(k:a=D->P)(c:b=D->P):P:=by cases a with|true=>exact k A|false=>exact c h
theorem vH{f:cK}(h:f.h y=D):f.b y=B .cell∨f.b y=B .free:=wN h (λh=>.inl (beq_iff_eq.mp h)) λh=>.inr (beq_iff_eq.mp h)
theorem NL:iV c ((b,k)::r) a=bif k==.free then Y (c.lookup b) λd=>iV c r ((b,d)::a)else iV c r a:=A
theorem NM:∀b a,(∀p∈b,p.2=.free->∃k,c.lookup p.1=B k)->
  ∃d,iV c b a=B d/\(∀y,(y,nT)∈b->d.lookup y=c.lookup y)/\∀y,(y,nT)∉b->d.lookup y=a.lookup y:=λb=>by
 induction b with
 |nil=>exactλa z=>(bi a A (λy e=>ak e cI) (λz z=>A))
 |cons v E r=>
  obtain⟨u,t⟩:=v;exactλa e=>by
   have q:=λp s=>e p (bT _ s)
   refine C NL ?_;cases f:t==nT with
   |true=>
    have f:=beq_iff_eq.mp f;subst f;exact(e _ bn A).elim λk l=>(r _ q).imp λd x=>(aK (by exact C l x.1) (λy h=>(di _).elim (x.2.1 y) λi=>(cB.mp h).elim (λg=>by rw[(dd g).1]at i⊢;rw[x.2.2 _ i,mp,beq_self_eq_true,l]) λj=>ak j i) (λy h=>by
      refine C (x.2.2 y λj=>h (bT _ j)) (C mp ?_);cases p:y==u with
      |false=>rfl
      |true=>exact ak (C (beq_iff_eq.mp p) bn) h))
   |false=>exact(r a q).imp λd x=>(aK x.1 (λy h=>(cB.mp h).elim (λg=>ak (beq_iff_eq.mpr (dd g).2.symm) (by exact C f xR)) (x.2.1 y)) (λy h=>x.2.2 y λw=>h (bT _ w)))
theorem Vq(x:cF n m f):(relabel s m).names=AU f.b s.names:=by
 refine Lq λp z=>?_
 show(if(p.2==.free&&m.scope.kind==.function&&m.kindOf p.1==B _)=D then(p.1,LK)else(p.1,p.2))=_
 rw[show(m.scope.kind==LP)=D from by rw[x.1];rfl,x.b,Bool.and_true];cases(p.2==nT&&f.b p.1==B _)<;>rfl
theorem Iw(c:∀p∈l,p.2≠ .cell)(h:(AU a l).lookup y=B k)(d:k=.cell∨k=.free):(y,nT)∈l:=
 (hr.mp (hP h)).elim λp b=>by have e:=b.2;cases z:(p.2==nT&&a p.1==B _)with|true=>rw[z]at e;exact V z λf g=>by exact J ((dd e).1) (J (beq_iff_eq.mp f) b.1)|false=>rw[z]at e;have e:p=(y,k):=e;rw[e]at b;exact d.elim (λh=>ak h (c _ b.1)) λh=>J h b.1
theorem cF.c(x:cF n m e){g G}(W:pH G m)(h:e.l s t g=D):∃l,mu m e.a (e.c s t g).a s l t g G/\∀C,cF n (compEnvC s l C m) (e.c s t g):=
 V h λJ h=>V h λK h=>V h λL h=>V h λP h=>V h λQ S=>V J λE U=>by
  have u:∀p∈s.names,p.2≠ .cell/\(p.2=.local->s.names.lookup p.1=B _):=λp i=>V (bu.mp U p i) λw j=>⟨λg=>ck ((beq_iff_eq.mpr g).symm.trans (cq w)),λg=>wN j (λj=>ck ((beq_iff_eq.mpr g).symm.trans (cq j))) beq_iff_eq.mp⟩
  have z:=λp i g=>wN (bu.mp S p i) (λj=>ck ((beq_iff_eq.mpr g).symm.trans (cq j))) (x.6 p.1)
  refine(NM _ [] z).imp λl v=>?_
  have k:∀C,cF n (compEnvC s l C m) (e.c s t g):=λC=>⟨beq_iff_eq.mp E,x.2,x.3,Vq x,K,λy r=>by
   have q:=(vH r).elim (λh=>Iw (λp i=>(u p i).1) h (.inl A)) λh=>Iw (λp i=>(u p i).1) h (.inr A)
   exact(z _ q A).imp λw T=>(v.2.1 y q).trans T,x.7⟩
  refine⟨⟨beq_iff_eq.mp E,λp i=>(u p i).1,λp i=>(u p i).2,v.1,λC=>(k C).a,λC=>BJ (k C).f t g L,λC a2 y r=>?_,W⟩,k⟩;have F:=(hq.mp (hP (of r).1)).elim (λq=>ak (yG.mp (bu.mp P _ q)) (of r).2) id;have H:=Q1.mp F;exact V (bu.mp Q _ F) λX Y=>V H.2 λZ a1=>V x.5 λa0 a1=>(da (SL (qK a0) H.1) ((vH X).imp ((k C).b y).trans ((k C).b y).trans) (v.2.1 y (hP (beq_iff_eq.mp Z))) (λg=>(vH Y).elim (λh=>ak (R (h.symm.trans ((x.b y).symm.trans g))) LL) λh=>ak (R (h.symm.trans ((x.b y).symm.trans g))) LL))
end
structure ky where
 d:List Str
 b:List Str
 c:List (Nat×Str)
 a:List Str
 j:List Str
 e:List (Nat×Str)
inductive mD(c:bg a)(T:ky) where
 |mk (w:∀(k) t,T.d[k]?=B t->c.e.c k=t)
  (h:∀(k) t,T.b[k]?=B t->c.e.b k=t)
  (l:∀(i) x,T.c.lookup i=B x->c.e.j x=B (.ref (c.e.k i))/\keepIn c.f (.ref (c.e.k i))=D)
  (e:∀(i) x,T.a[i]?=B x->c.e.j x=B (.ref (c.e.a i)))
  (n:∀(j) x,T.j[j]?=B x->c.e.d j=x/\aF (c.a.c.b j)=I)
  (o:∀(m) x,T.e.lookup m=B x->x=tp c.e m)
  (d:∀b,b<7->b≠2->c.e.j (mK b)=B (kE b))
  (r:c.e.j "range"=B (.type "range"))
  (g:c.e.j "enumerate"=B (.type "enumerate"))
  (p:∀i m f,c.a.c.h i m=B f->oD m=N)
abbrev co:=cK->Expr->Bool
def cT(x:Expr)(t:Nat):=M (aR x).e t
noncomputable def NA(T:ky)(v:E)(u:Const):Bool:=match v with
 |.g=>u==.none
 |.c b=>u==.bool b
 |.a z=>match z with|.a i=>u==.int i|.b _ _=>I
 |.e k=>match T.d[k]? with|some t=>u==.str t|none=>I
 |_=>I
noncomputable def dm(b:List co):cK->List Expr->Bool:=ds (λz e=>e.isEmpty) (λk z i f e=>ds I (λa r z=>k f a&&i f r) e) b
noncomputable def wR(n:Bool)(k:co)(f:cK)(a:List Expr):Bool:=ds n (λe r z=>r.isEmpty&&k f e) a
noncomputable def mX:aJ->Bool
 |.b v=>(match v with|.g=>D|_=>I)
 |_=>I
def Az(k:co):co:=λf x=>k f x&&(!(cT x 18)&&!(cT x 19))
noncomputable def zs(e:List Expr):=ar e.length 20
section
variable(a:ky)
def vM(v:E):co:=λz x=>cT x 1&&NA a v (aR x).i
def vP(i:Nat):co:=λf x=>cT x 2&&f.a i==B (aR x).d
def vO(j:Nat):co:=λf x=>cT x 2&&(a.j[j]?==B (aR x).d&&f.j (aR x).d)
def vK(i:Nat)(k:co):co:=λf x=>cT x 3&&(a.b[i]?==B (aR x).d&&dm [Az k] f (aR x).a)
def dp(t:Nat)(k:List co):co:=λf x=>cT x t&&dm k f (aR x).a
def vS(n m:Bool)(k l h:co):co:=λf x=>cT x 5&&(dm [k] f (aR x).a&&(wR n l f (aR x).c&&wR m h f (aR x).f))
def vL(o:ls)(b c:co):co:=λf x=>cT x 7&&((aR x).g==ss o&&dm [b,c] f (aR x).a)
def vN(o:nV)(b c:co):co:=λf x=>cT x 12&&((aR x).b==lC o&&dm [b,λf v=>!(behindInMarks (lC o) v)&&c f v] f (aR x).a)
def mZ(t:Nat)(k:List co):co:=λf x=>cT x t&&(cV (aR x).a.length 1000&&dm k f (aR x).a)
def vR(k:co):co:=λf x=>cT x 17&&(f.g&&dm [k] f (aR x).a)
def gc(n:Option Str)(k:List co):co:=λf x=>cT x 18&&(n==B (aR x).d&&(f.j (aR x).d&&(zs (aR x).a&&dm k f (aR x).a)))
def tc(k:List co):co:=λf x=>cT x 18&&((aR x).d=="list"&&(f.j (aR x).d&&dm [gc (B "range") k] f (aR x).a))
def vQ(m:Nat)(k:co)(b:List co):co:=λf x=>cT x 19&&(a.e.lookup m==B (aR x).d&&(dm [Az k] f (aR x).c&&(zs (aR x).a&&dm b f (aR x).a)))
def tb(t:dN)(c d:co)(q:Option co):co:=λf x=>cT x 20&&match(aR x).h with
 |some p=>match(aR x).c with|[e,b,i]=>f.l p.1 t b&&(c (f.c p.1 t b) e&&(d f i&&(!(cT i 17)&&dm q.toList (f.c p.1 t b) (aR x).a)))|_=>I
 |none=>I
def e'(e:aJ):co:=aJ.rec
 (vM a) vP (vO a) (λz f e=>vK a f e) (λz z e i=>dp 4 [e,i]) (λz k j e l h=>vS (mX k) (mX j) e l h) (λz e=>dp 6 [e]) (λo z z d c=>vL o d c) (λz d=>dp 8 [d]) (λz d=>dp 9 [d])
 (λz b=>dp 10 b) (λz b=>dp 11 b) (λo z z d c=>vN o d c) (λz z z t d c=>dp 13 [t,d,c]) (λz b=>mZ 14 b) (λz z b=>mZ 15 b) (λz=>dp 16 []) (λz e=>vR e)
 (λf z b=>gc (a.c.lookup f) b) (λg z z b=>gc (a.a[g]?) b) (λc z b=>bif M c 2 then tc b else gc (bif ar c 7 then B (mK c)else N) b) (λz m z e b=>vQ a m e b) (λz t z z c i q=>tb t c i q)
 [] (λz z e r=>e::r) N (λz e=>B e) e
def Ez(e:List aJ):List co:=aJ.rec_1
 (vM a) vP (vO a) (λz f b=>vK a f b) (λz z b i=>dp 4 [b,i]) (λz k j b l h=>vS (mX k) (mX j) b l h) (λz b=>dp 6 [b]) (λo z z d c=>vL o d c) (λz d=>dp 8 [d]) (λz d=>dp 9 [d])
 (λz e=>dp 10 e) (λz e=>dp 11 e) (λo z z d c=>vN o d c) (λz z z t d c=>dp 13 [t,d,c]) (λz e=>mZ 14 e) (λz z e=>mZ 15 e) (λz=>dp 16 []) (λz b=>vR b)
 (λf z e=>gc (a.c.lookup f) e) (λg z z e=>gc (a.a[g]?) e) (λc z e=>bif M c 2 then tc e else gc (bif ar c 7 then B (mK c)else N) e) (λz m z b e=>vQ a m b e) (λz t z z c i q=>tb t c i q)
 [] (λz z b r=>b::r) N (λz b=>B b) e
def Ey(q:Option aJ):Option co:=aJ.rec_2
 (vM a) vP (vO a) (λz f b=>vK a f b) (λz z b i=>dp 4 [b,i]) (λz k j b l h=>vS (mX k) (mX j) b l h) (λz b=>dp 6 [b]) (λo z z d c=>vL o d c) (λz d=>dp 8 [d]) (λz d=>dp 9 [d])
 (λz e=>dp 10 e) (λz e=>dp 11 e) (λo z z d c=>vN o d c) (λz z z t d c=>dp 13 [t,d,c]) (λz e=>mZ 14 e) (λz z e=>mZ 15 e) (λz=>dp 16 []) (λz b=>vR b)
 (λf z e=>gc (a.c.lookup f) e) (λg z z e=>gc (a.a[g]?) e) (λc z e=>bif M c 2 then tc e else gc (bif ar c 7 then B (mK c)else N) e) (λz m z b e=>vQ a m b e) (λz t z z c i q=>tb t c i q)
 [] (λz z b r=>b::r) N (λz b=>B b) q
end
theorem kC{b}{a}{P:Prop}(h:dm (k::b) f a=D)(q:∀e r,a=e::r->k f e=D->dm b f r=D->P):P:=by cases a with|nil=>exact az h|cons e r=>exact V h λc d=>q e r A c d
theorem pP{e}(h:dm [] f e=D):e=[]:=ej.mp h
theorem gp{k}{f}{P:Prop}(h:dm [k] f e=D)(q:∀a,e=[a]->k f a=D->P):P:=kC h λa r d b c=>q a (d.trans (O _ (pP c))) b
theorem sl{d}{P:Prop}(j:dm [k,a] f d=D)(q:∀e b,d=[e,b]->k f e=D->a f b=D->P):P:=kC j λe r h g c=>gp c λb i c=>q e b (h.trans (O _ i)) g c
section
variable{b:Type}{c:bg b}{a:Around}
def bL(c:bg b)(a:Around)(k:co)(x:aA b E):=∀f e,k f e=D->j' e=D/\∀d,cF c d f->aN c a d f.a e x/\fJ c a d f.a e (bc c.a x)
def fp(c:bg b)(a:Around):List co->List (aA b E)->Prop
 |[],x=>x=[]
 |k::e,x=>∃d r,x=d::r/\bL c a k d/\fp c a e r
theorem zK(h:cT x t=D):(aR x).e=t:=cb.mp h
theorem ou(h:cT x t=D)(d:M t 0=I):j' x=D:=by unfold j';exact C (zK h) (C d A)
theorem gE(i:aH c)(h:cT e t=D)(s:∀d,cF c d f->aN c a d f.a e x)(j:M t 0=I:=by rfl)(l:(ar t 9||ar 13 t)=D:=by rfl):j' e=D/\∀d,cF c d f->aN c a d f.a e x/\fJ c a d f.a e (bc c.a x):=
 have k:=ou h j
 ⟨k,λd g=>⟨s d g,Xp i (RS k (by exact C (zK h) l)) (s d g)⟩⟩
theorem mF:∀{k}{x}{f}{d},fp c a k x->dm k f d=D->(d.length<20->fG d)/\∀e,cF c e f->g' c a e f.a d (bs x):=λ{k}=>by
 induction k with|nil=>exact @λx f d h i=>by exact C (pP i) (C h ⟨λz=>.a,λe g=>Ye⟩)|cons r k m=>exact @λx f d h i=>aq h λu t h=>kC i λo q p n j=>by have s:=h.2.1 f o n;exact C p (C h.1 ⟨λl=>.d (vY s.1) ((m h.2.2 j).1 (R5 l)) l,λe g=>XR (vY s.1) (s.2 e g).1 ((m h.2.2 j).2 e g)⟩)
theorem vs(h:zs e=D):e.length<20:=bH h
section
variable(g:aH c){d:ky}(t:mD c d)
include g
omit g in
theorem Je(k:aN c a f n e (pe v)):aN c a f n e (cr v):=λQ E s j o l m p i F h q=>aY h λz h=>k Q E s j o l m p i F h q
theorem VX(t:mD c d)(v):bL c a (vM d v) (cr v):=λr l m=>V m λf h=>gE g f λo s=>aq (dz f) λk p z=>by
 refine C z ?_;refine Je ?_;cases v with
 |g=>exact C (beq_iff_eq.mp h) (Yf k p)
 |c i=>exact C (beq_iff_eq.mp h) (XK i k p)
 |a z=>cases z with|a n=>exact C (beq_iff_eq.mp h) (Jf n k p)|b=>exact az h
 |e j=>have h:(match d.d[j]? with|some e=>(aR l).i==.str e|none=>I)=D:=h;cases q:d.d[j]? with|none=>rw[q]at h;exact az h|some e=>rw[q]at h;exact C (beq_iff_eq.mp h) (Yl j e k p (t.1 j e q))
 |_=>exact az h
theorem Wg(i):bL c a (vP i) (ca i):=λm k e=>V e λh j=>gE g h λl f=>(dz h).elim λp z=>by exact C z (Yb f.a i _ p (beq_iff_eq.mp j))
theorem Wd(t:mD c d)(j):bL c a (vO d j) (cr (c.a.c.b j)):=λo m k=>V k λi h=>V h λh e=>V e λe l=>gE g i λn f=>(dz i).elim λp z=>have w:=t.5 j _ (beq_iff_eq.mp h)
 C z (Je (XX g f.a j p w.1.symm w.2 ((f.b _).trans (beq_iff_eq.mp e)) (cq l)))
theorem AA(s:bL c a k x)(m:Az k f e=D):pJ e/\∀h,cF c h f->aN c a h f.a e x:=V m λj i=>V i λi n=>⟨RP (s f e j).1 (cq i) (cq n),λh l=>((s f e j).2 h l).1⟩
theorem VV(t:mD c d)(s:bL c a k x):bL c a (vK d i k) (nE c.a x i):=λu r h=>V h λe h=>V h λn h=>gp h λo j h=>gE g e λl m=>aq (dz e) λq p z=>by have f:=(kq (z.2.symm.trans j)).1;subst f;exact C z.1 (XI g p (t.2 i _ (beq_iff_eq.mp n)).symm (AA g s h).1 ((AA g s h).2 l m))
end
end
theorem kW{c:Type}{x}{a b:c}(h:x=[a])(k:x=[b]):a=b:=(kq (h.symm.trans k)).1
theorem lc{e:Type}{x}{a c b d:e}(h:x=[a,c])(k:x=[b,d]):a=b/\c=d:=have z:=kq (h.symm.trans k)
 ⟨z.1,(kq z.2).1⟩
section
variable{g:Type}{c:bg g}{a:Around}{n:Nat}{j:Nat->List E->S g->av g E}{l:ky}{k f i:co}{b e h:aA g E}{d:List co}{x:List (aA g E)}
section
variable(m:aH c)
include m
theorem Wf(F:a.units+30<cLine)(H:bL c a k b)(J:bL c a f e):bL c a (dp 4 [k,f]) (gV c.a b e):=λq P o=>V o λs o=>sl o λu v w y E=>gE m s λp r=>cf (dz s) λK L G z=>by have t:=lc z.2 w;exact C z.1 (C t.1 (C t.2 (XZ m F G ((H q u y).2 p r).1 ((J q v E).2 p r).1)))
theorem HV(y:s=D->b=cr .g)(z:bL c a k b)(t:wR s k o r=D)(v:r=q.toList)(w:cF c p o):se c a p o.a q b:=by subst v;cases q with|none=>exact C (y t) Xx|some u=>exact V (show(([]:List Expr).isEmpty&&k o u)=D from t) λE t=>Ja ((z o u t).2 p w).1
theorem Wq(G:o=D->e=cr .g)(H:p=D->h=cr .g)(L:bL c a k b)(P:bL c a f e)(Q:bL c a i h):bL c a (vS o p k f i) (kn c.a b e h):=λy T q=>V q λt q=>V q λq s=>V s λs E=>gp q λu v F=>gE m t λw r=>gR (dz t) λS U W K J z=>by exact C z.1 (C (kW z.2.1 v) (Yk m K J ((L y u F).2 w r).1 (HV m G P s z.2.2.1 r) (HV m H Q E z.2.2.2 r)))
theorem Wo(H:bL c a k b):bL c a (dp 6 [k]) (pi c.a b):=λt K o=>V o λp o=>gp o λq r v=>gE m p λs u=>ro (dz p) λJ w E F G y z=>by exact C z.1 (C (kW z.2 r) (Yi m w E F G y ((H t q v).2 s u).1))
theorem VW(J:bL c a k b)(K:bL c a f e):bL c a (vL o k f) (fC c.a o b e):=λr Q p=>V p λt p=>V p λE p=>sl p λv w y F G=>gE m t λq s=>cf (dz t) λL P H z=>by have u:=lc z.2 y;exact C z.1 (C u.1 (C u.2 (C (beq_iff_eq.mp E) (XJ m H ((J r v F).2 q s).1 ((K r w G).2 q s).1))))
theorem Wk(y:bL c a k b):bL c a (dp 8 [k]) (ph b):=λt F o=>V o λp o=>gp o λq r v=>gE m p λs u=>aq (dz p) λE w z=>by exact C z.1 (C (kW z.2 r) (Jg w ((y t q v).2 s u).1))
theorem Wl(E:bL c a k b):bL c a (dp 9 [k]) (lj c.a b):=λu G o=>V o λp o=>gp o λr s y=>⟨ou p A,λt v=>aq (dz p) λF q z=>by
 have w:=(E u r y).2 t v
 exact C z.1 (C (kW z.2 s) ⟨Xr m q w.1,Xo q w.2⟩)⟩
theorem Ev:∀{d}{x}{p}{r}{q},fp c a d x->dm d p r=D->cF c q p->r≠[]->mC c a q p.a .And r (gU (gS c.a) x)/\mB c a q p.a .And r (bc c.a (gU (gS c.a) x))
 |[],x,p,r,q,o,u,t,F=>ak (pP u) F
 |[k],x,p,r,q,o,u,t,F=>aq o λb J o=>gp u λs E y=>by refine C E (C o.1 (C (o.2.2) ?_));have w:=(o.2.1 p s y).2 q t;exact⟨Jc _ w.1,Jb _ w.2⟩
 |k::f::d,x,p,r,q,o,u,t,F=>aq o λb J o=>kC u λs P E y v=>by
  have w:=(o.2.1 p s y).2 q t;have z:=Ev o.2.2 v t (λs=>by rw[s]at v;exact az v);refine kC v λL Q G K K=>aq o.2.2 λe S H=>?_
  refine C E (C o.1 ?_);rw[H.1]at z⊢;rw[G]at z⊢;exact⟨XA m w.1 z.1,Xy w.2 z.2⟩
theorem Ex:∀{d}{x}{p}{r}{q},fp c a d x->dm d p r=D->cF c q p->r≠[]->mC c a q p.a .Or r (gU (gh c.a) x)/\mB c a q p.a .Or r (bc c.a (gU (gh c.a) x))
 |[],x,p,r,q,o,u,t,F=>ak (pP u) F
 |[k],x,p,r,q,o,u,t,F=>aq o λb J o=>gp u λs E y=>by refine C E (C o.1 (C (o.2.2) ?_));have w:=(o.2.1 p s y).2 q t;exact⟨Jc _ w.1,Jb _ w.2⟩
 |k::f::d,x,p,r,q,o,u,t,F=>aq o λb J o=>kC u λs P E y v=>by
  have w:=(o.2.1 p s y).2 q t;have z:=Ex o.2.2 v t (λs=>by rw[s]at v;exact az v);refine kC v λL Q G K K=>aq o.2.2 λe S H=>?_
  refine C E (C o.1 ?_);rw[H.1]at z⊢;rw[G]at z⊢;exact⟨XB m w.1 z.1,Xz w.2 z.2⟩
theorem Ew{x}{o}{r:aA g E->aA g E->aA g E}(q:fp c a d x)(p:dm d o []=D):x=[]:=by cases d with|nil=>exact q|cons=>exact az p
theorem Hs{q}{s}{r}:aN c a q s o (gU r [])/\fJ c a q s o (bc c.a (gU r [])):=⟨λQ E w u z v y C t F p=>X p,λQ E w u z v y C t F p=>X p⟩
theorem VU(s:fp c a d x):bL c a (dp 10 d) (gU (gS c.a) x):=λy t o=>V o λp o=>⟨ou p A,λv u=>(dz p).elim λr z=>(di ((aR t).a=[])).elim (λq=>by rw[q]at o;exact C (Ew (r:=gS c.a) m s o) (Hs m)) λq=>by
 have w:=Ev m s o u q
 exact C z ⟨I' r w.1,IZ r w.2⟩⟩
theorem Wm(s:fp c a d x):bL c a (dp 11 d) (gU (gh c.a) x):=λy t o=>V o λp o=>⟨ou p A,λv u=>(dz p).elim λr z=>(di ((aR t).a=[])).elim (λq=>by rw[q]at o;exact C (Ew (r:=gh c.a) m s o) (Hs m)) λq=>by
 have w:=Ex m s o u q
 exact C z ⟨I' r w.1,IZ r w.2⟩⟩
theorem Wb(G:dM a n)(H:bL c a k b)(J:bL c a f e):bL c a (vN o k f) (ei c.a o b e):=λr T p=>V p λw p=>V p λP p=>sl p λu v L y t=>V t λz t=>⟨ou w A,λq s=>cf (dz w) λQ S E K=>by
 have F:=lc K.2 L
 exact C K.1 (C F.1 (C F.2 (C (beq_iff_eq.mp P) ⟨XP m G E (cq z) ((H r u y).2 q s).1 ((J r v t).2 q s).1,Xm m G E (cq z) ((H r u y).2 q s).1 ((J r v t).2 q s).1⟩)))⟩
theorem We(G:bL c a k b)(H:bL c a f e)(J:bL c a i h):bL c a (dp 13 [k,f,i]) (lh c.a b e h):=λp U r=>V r λu r=>kC r λK W Q y r=>sl r λs t P v w=>⟨ou u A,λo q=>mh (dz u) λX S T z L=>by
 have E:=kq (L.2.symm.trans Q);have F:=lc A (E.2.trans P)
 exact C L.1 (C E.1 (C F.1 (C F.2 ⟨Xq z ((G p K y).2 o q).2 ((H p s v).2 o q).1 ((J p t w).2 o q).1,Xn z ((G p K y).2 o q).2 ((H p s v).2 o q).2 ((J p t w).2 o q).2⟩)))⟩
theorem Wr(v:fp c a d x):bL c a (mZ 14 d) (iC x):=λy w o=>V o λp o=>V o λs o=>gE m p λq r=>aq (dz p) λt u z=>by exact C z (Yo t u (bH s) ((mF v o).2 q r))
theorem Wi(q)(v:fp c a d x):bL c a (mZ 15 d) (iB c.a q x):=λy w o=>V o λp o=>V o λt o=>gE m p λr s=>(dz p).elim λu z=>by exact C z (Ya m q u (bH t) ((mF v o).2 r s))
theorem Wc(q):bL c a (dp 16 []) (pf c.a q):=λu s o=>V o λp o=>gE m p λt v=>(dz p).elim λr z=>C z (XS m q r)
theorem Wp(u:bL c a k b):bL c a (vR k) (pj c.a b):=λq F o=>V o λs o=>V o λy o=>gp o λp v t=>gE m s λw r=>aq (dz s) λE G z=>by exact C z.1 (C (kW z.2 v) (Yj m (r.7 y) (vY (u q p t).1) ((u q p t).2 w r).1))
theorem Bf(K:∀z,o=B z->c.e.j z=B v)(Q:fp c a d x)
  (S:(∃z,o=B z)->∀q r u L G s,cF c q r->jI c q G v->fG s->g' c a q r.a s (bs x)->aN c a q r.a (.Call (.Name G u) s [] L) y):bL c a (gc o d) y:=λr T p=>V p λw p=>V p λE p=>V p λH p=>V p λJ p=>gE m w λq t=>aq (dz w) λP u z=>by
 have F:=mF Q p;exact C z (S ⟨_,beq_iff_eq.mp E⟩ q r P u _ _ t (t.d H (K _ (beq_iff_eq.mp E))) (F.1 (vs J)) (F.2 q t))
end
end
section
variable{l:Type}{c:bg l}{d:Around}{n:Nat}{f:Nat->List E->S l->av l E}{m:ky}{g j o:co}{h i p:aA l E}{k:List co}{x:List (aA l E)}
inductive rQ(c:bg l)(d)(n)(f)(m) where
 |mk (a:aH c)
  (r:dM d (n+1))
  (b:n' c n f)
  (t:mD c m)
theorem dM.b(r:dM d (n+1)):dM d n:=⟨r.1,dA (ap [_,_] .b (.c (.c (.a 0) (.f 10 (.a 1))) (.b 20)) (.c (.c (.a 0) (.f 10 (.c (.a 1) (.b 1)))) (.b 20)) A) r.2,dA (ap [_,_] .b (.c (.c (.a 0) (.f 100 (.a 1))) (.b 200)) (.c (.c (.a 0) (.f 100 (.c (.a 1) (.b 1)))) (.b 200)) A) r.3⟩
section
variable(v:rQ c d n f m)
include v
theorem V'(a)(y:fp c d k x):bL c d (gc (m.c.lookup a) k) (gg f a x):=
 Bf v.1 (λz e=>(v.4.3 a z e).1) y λq C F u w G E b r t s=>q.elim λz q=>XN v.1 b.a v.2.b v.3 a u w r (v.4.3 a z q).2 t s
theorem Wa(a)(b)(w:fp c d k x):bL c d (gc (m.a[a]?) k) (kl c.a f a b x):=
 Bf v.1 (v.4.4 a) w λF y C t u E z e q s r=>XO v.1 e.a v.2 v.3 a b t u q s r
theorem VZ(b:Nat)(q:M b 2=I)(y:fp c d k x):bL c d (gc (bif ar b 7 then B (mK b)else N) k) (gT c.a b x):=
 Bf v.1 (λG e=>ga e λa e=>J (R e) (v.4.7 b (bH a) λe=>ck ((cb.mpr e).symm.trans q))) y λH z E u w F C r s t a=>XM v.1 r.a b u w (Nk v.1 v.2 (MO v.1 v.2) b) q s t a
theorem Wn(u:fp c d k x):bL c d (tc k) (gT c.a 2 x):=λU S a=>V a λs a=>V a λH a=>V a λt a=>gp a λT w a=>V a λE a=>V a λF a=>V a λr a=>V a λG a=>gE v.1 s λy b=>aq (dz s) λL J Q=>aq (dz E) λP K z=>by have q:=(R (beq_iff_eq.mp F)).symm;have e:=beq_iff_eq.mp H;rw[e]at t;rw[q]at r;rw[q]at z;exact C Q (C e (C w (C z (Yc v.1 b.a v.2 L P J K (b.d t (v.4.7 1 (by decide) (by decide))) (b.d r v.4.8) ((mF u a).1 (vs G)) ((mF u a).2 y b)))))
theorem VY(b:Nat)(s:fp c d k x):bL c d (bif M b 2 then tc k else gc (bif ar b 7 then B (mK b)else N) k) (gT c.a b x):=by cases a:M b 2 with|true=>exact C (cb.mp a) (Wn v s)|false=>exact VZ v b a s
theorem Wj(b)(L:bL c d g h)(t:fp c d k x):bL c d (vQ m b g k) (li c.a f h b x):=λq P a=>V a λs a=>V a λy a=>V a λE a=>V a λF a=>gp E λQ u G=>gE v.1 s λe r=>cf (dz s) λS K J z=>by have w:=AA v.1 L G;exact C z.1 (C (kW z.2.1 u) (Yd v.1 v.2.b v.3 b K J (v.4.6 b _ (beq_iff_eq.mp y)) (λH q=>v.4.10 H b q) w.1 ((mF t a).1 (vs F)) z.2.2 (w.2 e r) ((mF t a).2 e r)))
def sg(c)(d:Around)(g:Option co)(h:Option (aA l E)):=(g=N/\h=N)∨∃j i,g=B j/\h=B i/\bL c d j i
theorem Yv(s:sg c d q y)(r:dm q.toList a b=D)(w:cF c e a):mA c d e a.a b y:=
 s.elim (λs=>.inl ⟨by rw[s.1]at r;exact pP r,s.2⟩) λs=>aq s λj i s=>by rw[s.1]at r;exact gp r λt u z=>.inr (an t i u s.2.1 (((s.2.2 a t z).2 e w).2))
theorem Gx(a0:bL c d g h)(S:bL c d j i)(a1:sg c d q y){G}(b:tb t g j q a G=D)(K:cF c e a){P:Expr->Prop}
  (Z:∀w E r Q s z H u,(aR G).h=B (s,z)->mu e a.a H s u t E r->(∀f,aN c d (compEnvC s u f e) H w h)->(∀f,mA c d (compEnvC s u f e) H Q y)->aN c d e a.a r i->P (.ListComp w [⟨E,r,Q,0⟩] s z)):P G:=
 V b λY b=>gR (dz Y) λw E r s z F=>by rw[F.2.2,F.2.1]at b;exact V b λT b=>V b λU b=>V b λL b=>V b λW X=>(K.c (vX (S a r L).1 (cq W) e) T).elim λu J=>by exact C F.1 (Z w E r _ s z _ u F.2.2 J.1 (λf=>((a0 _ w U).2 _ (J.2 f)).1) (λf=>Yv v a1 X (J.2 f)) ((S a r L).2 e K).1)
theorem Wh(t)(F:bL c d g h)(G:bL c d j i)(H:sg c d q y):bL c d (tb t g j q) (ia c.a h t i y):=λr e a=>gE v.1 (V a λu J=>u) λb s=>Gx v F G H a s (P:=λe=>aN c d b r.a e _) λL W Q P U T S K J E w C z=>X' v.1 v.2.1 E w C z
end
end
theorem Ar{C}{e}(h:mX e=D):K a C e=cr .g:=by
 cases e with
 |b v=>cases v<;>first|rfl|exact az h
 |_=>exact az h
theorem il{H}{d:bg H}{C}(v:rQ d a n C b)(e):bL d a (e' b e) (K d.a C e):=
 have g:=v.1
 aJ.rec (motive_2:=λh=>fp d a (Ez b h) (eM d.a C h)) (motive_3:=λq=>sg d a (Ey b q) (vi d.a C q))
  (VX g v.4) (Wg g) (Wd g v.4) (λz w s=>VV g v.4 s) (λz z s c=>Wf g (v.2.e (by decide)) s c) (λz y x s c f=>Wq g Ar Ar s c f) (λz s=>Wo g s) (λo z z s c=>VW g s c) (λz s=>Wk g s) (λz s=>Wl g s)
  (λz s=>VU g s) (λz s=>Wm g s) (λo z z s c=>Wb g v.2 s c) (λz z z s c f=>We g s c f) (λz s=>Wr g s) (λi z s=>Wi g i s) (Wc g) (λz s=>Wp g s)
  (λi z s=>V' v i s) (λi k z s=>Wa v i k s) (λj z s=>VY v j s) (λz m z c s=>Wj v m c s) (λz u z z l p t=>Wh v u l p t)
  A (λz z s r=>(an _ _ A s r)) (.inl ⟨A,A⟩) (λz s=>.inr (an _ _ A A s)) e
theorem W5{H}{c:bg H}{C}{T}(v:rQ c a n C T):∀e,fp c a (Ez T e) (sD c.a C e):=λe=>by
 induction e with|nil=>exact A|cons b e i=>exact(an _ _ A (il v b) i)
structure Dz where
 e:Nat
 a:List Expr
 c:List Stmt
 g:List Stmt
noncomputable def Rn(o:Operator):=o==.Add
def hm(s:Stmt):Dz:=match s with
 |.Assign c x _=>bif M c.length 1 then⟨1,c++[x],[],[]⟩else⟨0,[],[],[]⟩
 |.AugAssign t o x _=>bif Rn o then⟨2,[t,x],[],[]⟩else⟨0,[],[],[]⟩
 |.Expr x _=>⟨3,[x],[],[]⟩
 |.If t a b _=>⟨4,[t],a,b⟩
 |.While t a b _=>bif b.isEmpty then⟨5,[t],a,[]⟩else⟨0,[],[],[]⟩
 |.For t i a b _=>bif b.isEmpty then⟨6,[t,i],a,[]⟩else⟨0,[],[],[]⟩
 |.Return x _=>⟨7,x.toList,[],[]⟩
 |.Continue _=>⟨8,[],[],[]⟩
 |_=>⟨0,[],[],[]⟩
def Dn(s:Stmt)(v:Dz):Nat->Prop
 |1=>∃t x p,s=.Assign [t] x p/\v.a=[t,x]
 |2=>∃t x p,s=.AugAssign t .Add x p/\v.a=[t,x]
 |3=>∃x p,s=.Expr x p/\v.a=[x]
 |4=>∃t p,s=.If t v.c v.g p/\v.a=[t]
 |5=>∃t p,s=.While t v.c [] p/\v.a=[t]
 |6=>∃t i p,s=.For t i v.c [] p/\v.a=[t,i]
 |7=>∃x p,s=.Return x p/\v.a=x.toList
 |8=>∃p,s=.Continue p
 |_=>True
abbrev Ma(s)(v):=Dn s v v.e
theorem G7(s):Ma s (hm s):=by cases s with|Assign d x p=>exact gK (λc=>(zT c).elim λt h=>by exact C h (ml t x p A A)) trivial|AugAssign t o x p=>exact gK (λc=>by exact C (beq_iff_eq.mp c) (ml t x p A A)) trivial|Expr x p=>exact(dE x p A A)|If t a b p=>exact(dE t p A A)|While t a b p=>exact gK (λc=>by exact C (ej.mp c) (dE t p A A)) trivial|For t i a b p=>exact gK (λc=>by exact C (ej.mp c) (ml t i p A A)) trivial|Return x p=>exact(dE x p A A)|Continue p=>exact⟨p,A⟩|_=>exact trivial
def jb(s:Stmt)(t:Nat):=M (hm s).e t
theorem le(h:jb s t=D):Dn s (hm s) t:=J (cb.mp h) (G7 s)
abbrev jG:=cK->Stmt->Bool
abbrev rO:=cK->List Stmt->Bool
def Ap(i)(f:cK)(t:Expr):=cT t 2&&(f.a i==B (aR t).d&&f.f (aR t).d)
noncomputable def Ga:aJ->Bool
 |.u _ _ _ _=>D
 |_=>I
def TC(t x:Expr):Bool:=match(aR x).h with
 |some p=>wA p.1 (aR t).d t.pos p.2
 |none=>I
def qJ:List kx->Option (List Nat)
 |[]=>B []
 |t::r=>match t with|.a i=>Y (qJ r) λl=>B (i::l)|.c _ _=>N
def uj(f:cK):List Nat->List Str->Bool
 |[],y=>y.isEmpty
 |i::b,y=>match y with|[]=>I|a::y=>f.a i==B a&&(f.f a&&uj f b y)
section
variable(a:ky)
def Gl(t:kx):co:=λf e=>match t with
 |.a i=>Ap i f e
 |.c o j=>cT e 3&&(a.b[j]?==B (aR e).d&&dm [e' a o] f (aR e).a)
def RD(t:List kx)(f:cK)(e:List Expr)(x:Expr):Bool:=match rh f.b e x with
 |some r=>(match r with
  |none=>dm (t.map (Gl a)) f e
  |some y=>match qJ t with
   |some i=>uj f i y&&jj i
   |none=>I)
 |none=>I
noncomputable def tx(q:cK->Expr->Expr->Bool)(f)(x:List Expr):=match x with
 |[b,c]=>q f b c
 |_=>I
def Cp(i:Nat)(e:aJ):jG:=λf s=>jb s 1&&tx (λf t x=>Ap i f t&&(e' a e f x&&bif cT x 20 then Ga e&&TC t x else D)) f (hm s).a
def ib(t:Nat)(q:cK->Expr->Bool)(e:aJ):jG:=λf s=>jb s t&&tx (λf b x=>q f b&&(e' a e f x&&!(cT x 20))) f (hm s).a
def oU(o)(j:Nat)(f)(t:Expr):=cT t 3&&(a.b[j]?==B (aR t).d&&dm [e' a o] f (aR t).a)
def oV(o i)(f)(t:Expr):=cT t 4&&dm [e' a o,e' a i] f (aR t).a
def Cu(b:List kx)(e:aJ):jG:=λf s=>jb s 1&&tx (λf t x=>cT t 14&&(RD a b f (aR t).a x&&(e' a e f x&&!(cT x 20)))) f (hm s).a
def Cq(e:aJ):jG:=λf s=>jb s 3&&dm [λf x=>e' a e f x&&!(cT x 20)] f (hm s).a
def Cs(t:aJ)(b c:rO):jG:=λf s=>jb s 4&&(dm [e' a t] f (hm s).a&&(b f (hm s).c&&c f (hm s).g))
def Cv(t:aJ)(b:rO):jG:=λf s=>jb s 5&&(dm [e' a t] f (hm s).a&&b f (hm s).c)
def Gk(r:sh)(f:cK)(t x:Expr):=match r with
 |.d e=>e' a e f x&&!(cT x 17)
 |.b b=>gc (B "range") (b.map (e' a)) f x
 |.a e=>cT t 14&&gc (B "enumerate") [e' a e] f x
def Cr(c:dN)(r:sh)(b:rO):jG:=λf s=>jb s 6&&(tx (λf t x=>BI f.a f.f c t&&Gk a r f t x) f (hm s).a&&b f (hm s).c)
def Ct(e:aJ):jG:=λf s=>jb s 7&&wR (mX e) (e' a e) f (hm s).a
def uY(b:List de):rO:=de.rec_1 (motive_1:=λz=>jG)
 (λi e=>Cp a i e) (λo j e=>ib a 1 (oU a o j) e) (λo i e=>ib a 1 (oV a o i) e) (λt e=>Cu a t e) (λo j e=>ib a 2 (oU a o j) e) (λo i e=>ib a 2 (oV a o i) e) (λe=>Cq a e) (λt z z c b=>Cs a t c b) (λt z b=>Cv a t b)
 (λt r z b=>Cr a t r b) (λe=>Ct a e) (λz s=>jb s 8) (λz d=>d.isEmpty) (λz z c r f d=>ds I (λs g z=>c f s&&r f g) d) b
def NB(s:de):jG:=de.rec
 (λi e=>Cp a i e) (λo j e=>ib a 1 (oU a o j) e) (λo i e=>ib a 1 (oV a o i) e) (λt e=>Cu a t e) (λo j e=>ib a 2 (oU a o j) e) (λo i e=>ib a 2 (oV a o i) e) (λe=>Cq a e) (λt z z c b=>Cs a t c b) (λt z b=>Cv a t b)
 (λt r z b=>Cr a t r b) (λe=>Ct a e) (λz s=>jb s 8) (λz d=>d.isEmpty) (λz z c r f d=>ds I (λs g z=>c f s&&r f g) d) s
end
theorem Ro{P:aJ->Prop}(h:Ga e=D)(k:∀b t i q,P (.u b t i q)):P e:=by cases e<;>first|exact k _ _ _ _|exact az h
theorem ty{x}{P:Prop}(h:tx q f x=D)(k:∀a b,x=[a,b]->q f a b=D->P):P:=by
 cases x with
 |nil=>exact az h
 |cons a r=>cases r with
  |nil=>exact az h
  |cons b r=>cases r with|nil=>exact k a b A h|cons=>exact az h
theorem Ho{P:Prop}(h:Ap i f t=D)(k:∀p,t=.Name (aR t).d p->f.a i=B (aR t).d->f.f (aR t).d=D->P):P:=V h λa h=>V h λb c=>(dz a).elim λp z=>k p z (beq_iff_eq.mp b) c
section
variable{d:Type}{c:bg d}{a:Around}{n:Nat}{e:Nat->List E->S d->av d E}{b:ky}
def ha(c)(a:Around)(k:jG)(y:dv d):=∀f s,k f s=D->∀g,cF c g f->eU c a g f.a s y
def sf(c)(a:Around)(k:rO)(y:dv d):=∀f s,k f s=D->∀g,cF c g f->mz c a g f.a s y
section
variable(v:rQ c a n e b)
include v
theorem i'(i:cF c h f)(j:e' b g f x=D):aN c a h f.a x (K c.a e g):=((il v g f x j).2 h i).1
theorem tS(h:e' b f g x=D)(i:(!(cT x 20))=D):iL x:=RR (il v f g x h).1 (cq i)
theorem J2(k)(f):ha c a (Cp b k f) (iE k (K c.a e f)):=λj a4 h q g=>V h λG h=>ty h λW x F h=>V h λH h=>V h λi t=>cf (le G) λa8 a9 p z=>by
 have u:=lc z.2 F;refine C z.1 (C u.1 (C u.2 ?_));refine Ho H λX s m o=>?_
 cases w:cT x 20 with
 |false=>exact C s (XG g.a X p m (g.f _ o) (tS v i (by refine C w ?_;rfl)) (i' v g i))
 |true=>
  rw[w]at t;refine V t λS l=>?_
  refine Ro (P:=λf=>e' b f j x=D->eU c a q j.a _ (iE k _)) S (λy a6 Q r i=>?_) i;have U:sg c a (Ey b r) (vi c.a e r):=by cases r with|none=>exact .inl ⟨A,A⟩|some f=>exact .inr (an _ _ A A (il v f))
  have l:(match(aR x).h with|some p=>wA p.1 _ _ p.2|none=>I)=D:=l;refine Gx v (il v y) (il v Q) U i g (P:=λx=>eU c a q j.a (.Assign [W] x p) _) λZ a7 a1 a0 a5 a3 a2 Y E T J P L=>?_
  rw[E]at l;rw[s]at l⊢;exact XH v.1 v.2.1 g.a T m (g.f _ o) l J P L
end
end
section
variable{e:Type}{c:bg e}{a:Around}{n:Nat}{b:Nat->List E->S e->av e E}{d:ky}
theorem Hp:∀{t}{i},qJ t=B i->t=i.map .a
 |[],i,h=>J (R h) A
 |.a g::r,i,h=>aj h λl f h=>J (R h) (O _ (Hp f))
 |.c _ _::_,i,h=>X h
theorem K4(k:cF c g f):∀{i}{y},uj f i y=D->iK g f.a i y:=λ{i}=>by
 induction i with
 |nil=>exact @λy h=>ej.mp h
 |cons q i p=>exact @λv=>by cases v with|nil=>exactλh=>az h|cons j y=>exactλh=>V h λl h=>V h λm o=>(dR j y A (beq_iff_eq.mp l) (k.f j m) (p o))
section
variable(v:rQ c a n b d)
include v
theorem BO(l:cF c g f)(h:oU d o j f t=D){P:Prop}(r:∀i p,t=.Attribute i (aR t).d p->(aR t).d=c.e.b j->aN c a g f.a i (K c.a b o)->P):P:=
 V h λm h=>V h λq h=>gp h λi k h=>aq (dz m) λs p z=>r i p (J (kW z.2 k) z.1) (v.4.2 j _ (beq_iff_eq.mp q)).symm (i' v l h)
theorem Ki{h}(l:cF c f h)(k:oV d o i h t=D){P:Prop}(w:∀j g p,t=.Subscript j g p->uE g->aN c a f h.a j (K c.a b o)->aN c a f h.a g (K c.a b i)->P):P:=
 V k λs k=>sl k λj g r u m=>cf (dz s) λx y p z=>have q:=lc z.2 r
  w j g p (J q.1 (q.2▸z.1)) (RQ (il v i h g m).1) (i' v l u) (i' v l m)
theorem KI(w:∀g t x p i,cF c i g->q g t=D->iL x->aN c a i g.a x (K c.a b f)->eU c a i g.a (.Assign [t] x p) y):ha c a (ib d 1 q f) y:=λg u h i j=>V h λm h=>ty h λt x l h=>V h λo h=>V h λk s=>cf (le m) λE F p z=>by have r:=lc z.2 l;exact C z.1 (C r.1 (C r.2 (w g t x p i j o (tS v k s) (i' v j k))))
theorem KJ(w:∀g t x p i,cF c i g->q g t=D->aN c a i g.a x (K c.a b f)->eU c a i g.a (.AugAssign t .Add x p) y):ha c a (ib d 2 q f) y:=λg u h i j=>V h λl h=>ty h λt x k h=>V h λm h=>V h λo s=>cf (le l) λE F p z=>by have r:=lc z.2 k;exact C z.1 (C r.1 (C r.2 (w g t x p i j m (i' v j o))))
theorem J0(o)(j)(f):ha c a (ib d 1 (oU d o j) f) (pl c.a (K c.a b o) j (K c.a b f)):=KI v λu w x p t i k m s=>BO v i k λr q h g l=>by exact C h (XE v.1 q p g m l s)
theorem J1(o i f):ha c a (ib d 1 (oV d o i) f) (pm c.a (K c.a b o) (K c.a b i) (K c.a b f)):=KI v λw x y p u h j m s=>Ki v h j λr t q g z k l=>by exact C g (XF v.1 (v.2.e (by decide)) q p m k l s)
theorem J6(o)(j)(f):ha c a (ib d 2 (oU d o j) f) (rt c.a (K c.a b o) j (K c.a b f)):=KJ v λt u x p r i k s=>BO v i k λm q h g l=>by exact C h (XV v.1 q p g l s)
theorem J7(o i f):ha c a (ib d 2 (oV d o i) f) (ru c.a (K c.a b o) (K c.a b i) (K c.a b f)):=KJ v λw x y p u h j s=>Ki v h j λr t q g m k l=>by exact C g (XW v.1 (v.2.e (by decide)) q p m k l s)
theorem BG(i:cF c g f):∀{t}{h},dm (t.map (Gl d)) f h=D->pO c a g f.a b t h
 |[],h,j=>pP j
 |.a z::t,h,j=>kC j λm r o k l=>(an m r o (Ho k λw p q s=>by exact C p (XD i.a q (i.f _ s))) (BG i l))
 |.c F E::t,h,j=>kC j λm r o k l=>(an m r o (BO v i k λy w p u x=>by exact C p (XC v.1 u x)) (BG i l))
theorem K0(t)(o):ha c a (Cu d t o) (nL c.a b t (K c.a b o)):=λj S f Q g=>V f λJ f=>ty f λT x H f=>V f λL f=>V f λh f=>V f λk p=>cf (le J) λU W u z=>aq (dz L) λq w y=>by
 have r:=lc z.2 H;refine C z.1 (C r.1 (C r.2 (C y ?_)));have G:=funext λy=>(g.b y).symm
 have h:(match rh j.b _ x with|some r=>(match r with|none=>dm _ j _|some m=>match qJ t with|some i=>uj j i m&&jj i|none=>I)|none=>I)=D:=h;cases s:rh j.b _ x with
 |none=>rw[s]at h;exact az h
 |some P=>
  rw[s]at h;rw[G]at s;cases P with
  |none=>exact Yn v.2.1 g.a q w u (BG v g h) s (tS v k p) (i' v g k)
  |some m=>have h:(match qJ t with|some i=>uj j i m&&jj i|none=>I)=D:=h;cases l:qJ t with|none=>rw[l]at h;exact az h|some i=>rw[l]at h;exact C (Hp l) (V h λE F=>Ym v.2.1 g.a q w u s (K4 g E) (qK F) (tS v k p) (i' v g k))
theorem J4(f):ha c a (Cq d f) (pn (K c.a b f)):=λo s h m g=>V h λk h=>gp h λx j h=>V h λi l=>aq (le k) λq p z=>by exact C z.1 (C (kW z.2 j) (XT p (by unfold interactive;refine C g.1 ?_;rfl) (tS v i l) (i' v g i)))
theorem J8(w:sf c a f y)(x:sf c a g h):ha c a (Cs d t f g) (iF c.a (K c.a b t) y h):=λk F i j l=>V i λo i=>V i λp i=>V i λq r=>gp p λE m s=>aq (le o) λG u z=>by exact C z.1 (C (kW z.2 m) (XY u ((il v t k E s).2 j l).2 (w k _ q j l) (x k _ r j l)))
theorem K1(s:sf c a f y):ha c a (Cv d t f) (rv c.a (K c.a b t) y):=λi r h g j=>V h λl h=>V h λm o=>gp m λx k p=>aq (le l) λu q z=>by exact C z.1 (C (kW z.2 k) (Yp q ((il v t i x p).2 g j).2 (s i _ o g j)))
theorem J9(f):ha c a (Ct d f) (nK (K c.a b f)):=λg s h k i=>V h λj h=>aq (le j) λx p z=>by refine C z.1 ?_;rw[z.2]at h;cases x with|none=>exact C (Ar h) (Yh p)|some u=>exact V (show(([]:List Expr).isEmpty&&e' d f g u)=D from h) λl h=>Yg p (i' v i h)
theorem J3:ha c a (λj s=>jb s 8) rs:=λg s h f i=>(le h).elim λp z=>C z (XQ p)
theorem Yu:∀f,fp c a (f.map (e' d)) (sD c.a b f):=λf=>by
 induction f with|nil=>exact A|cons g f i=>exact(an _ _ A (il v g) i)
theorem Rz{h:e}{i}{P:Prop}(g:ta f h u=B (.a i)):P:=by
 cases u with
 |d l=>exact ak (R g) (λg=>nomatch g)
 |b n=>have g:ow n _=B _:=g;cases p:f.a h n with|a l=>rw[p]at g;exact ak (R g) (λg=>nomatch g)|b k j=>rw[p]at g;exact aY g λz g=>ak (R g) (λg=>nomatch g)|_=>rw[p]at g;exact X g
 |_=>exact X g
theorem Gj(G:fp c a k x)(o:cF c g h)(E:c.e.j y=B w)(i:gc (B y) k h f=D){P:Expr->Prop}
  (F:∀q p j,jI c g y w->fG j->dm k h j=D->g' c a g h.a j (bs x)->P (.Call (.Name y q) j [] p)):j' f=D/\cT f 17=I/\P f:=V i λl i=>V i λs i=>V i λr i=>V i λt i=>(aK (ou l A) (by unfold cT;exact C (zK l) A) (aq (dz l) λq p z=>by
 have u:=mF G i;have m:=(R (beq_iff_eq.mp s)).symm;rw[m]at r;rw[m]at z
 exact C z (F q p _ (o.d r E) (u.1 (vs t)) i (u.2 g o))))
theorem RC(i:cF c f g)(j:Gk d r g t x=D):pH x f/\oa c a f g.a x (lD c.a b r)/\∀l s o E,lD c.a b r l s=B (.a o,E)->∃k u p,t=.Tuple k u p:=by
 cases r with
 |d h=>exact V j λm L=>(aK (vX (il v h g x m).1 (cq L) f) (Xt (i' v i m)) (λl s o E h=>aO h λF Q z h=>qw h λh z=>Rz v h))
 |b k=>
  have w:=Gj v (Yu v k) i v.4.8 j (P:=λx=>oa c a f g.a x (lD c.a b (.b k))) λy p S q G z H=>Xu v.1 i.a y p q G H
  exact(aK (vX w.1 w.2.1 f) w.2.2 (λl s o E h=>aO (show aB _ (λT s=>Y (oM T) λl=>B (gG.d l,s))=B _ from h) λF Q z h=>aj h λW z h=>ak (aW h) (λh=>nomatch h)))
 |a h=>
  exact V j λm j=>by
   have w:=Gj v (k:=[e' d h]) (an _ _ A (il v h) A) i v.4.9 j (P:=λx=>oa c a f g.a x (lD c.a b (.a h))) λy p S q G P H=>gp P λF K J=>by exact C K (Xs v.1 i.a y p q (vY (il v h g F J).1) (i' v i J))
   exact(aK (vX w.1 w.2.1 f) w.2.2 (λz z z z z=>aq (dz m) λu p U=>(nJ _ u p U)))
theorem J5(u:sf c a f y):ha c a (Cr d t r f) (jy c.a t (lD c.a b r) y):=λk E h i g=>V h λl h=>V h λm o=>ty m λx G j h=>V h λp q=>cf (le l) λF H s z=>by have w:=RC v g q;have r:=lc z.2 j;exact C z.1 (C r.1 (C r.2 (XU v.2.1 g.a s (BJ g.f t x p) w.1 w.2.2 w.2.1 (u k _ o i g))))
theorem EA(j):sf c a (uY d j) (as c.a b j):=
 de.rec_1 (motive_1:=λs=>ha c a (NB d s) (zp c.a b s))
  (λi f=>J2 v i f) (λo p f=>J0 v o p f) (λo i f=>J1 v o i f) (λt f=>K0 v t f) (λo p f=>J6 v o p f) (λo i f=>J7 v o i f) (J4 v) (λt z z s x=>J8 v s x) (λt z s=>K1 v s) (λt r z s=>J5 v s) (J9 v) (J3 v)
  (λl g h k m=>C (ej.mp h) Xw) (λz z s r l g h k m=>by
   cases g with
   |nil=>exact az h
   |cons q g=>exact V h λu w=>Xv (s l q u k m) (r l g w k m)) j
end
end
theorem Qj{b e:Type}{f g:b->Option e}:∀{l:List b},(∀a∈l,f a=g a)->l.filterMap f=l.filterMap g:=λ{l}=>by
 induction l with|nil=>exactλz=>A|cons a r i=>exactλh=>C Li (C Li (C (h a bn) (C (i λc d=>h c (bT _ d)) A)))
theorem K5:∀{y:List Str}{v:List Value},y.Nodup->v.length=y.length->y.filterMap (λn=>((y.zip v).lookup n).map (n,·))=y.zip v/\y.filter (λn=>((y.zip v).lookup n).isNone)=[]:=λ{y}=>by
 induction y with
 |nil=>exact @λg=>by cases g with|nil=>exactλz z=>⟨A,A⟩|cons _ _=>exactλz h=>ak h (ur _)
 |cons c y d=>
  exact @λj=>by
   cases j with
   |nil=>exactλz h=>ak h.symm (ur _)
   |cons f v=>
    exactλb h=>by
     have b:=fF.mp b;have i:=d b.2 (nS h);have e:∀n∈y,((c,f)::y.zip v).lookup n=(y.zip v).lookup n:=λn a=>C mp (C (show(n==c)=I from beq_eq_false_iff_ne.mpr λe=>b.1 (J e a)) A)
     rw[Q7,Li,Lj,mp,beq_self_eq_true];exact⟨O _ ((Qj λn a=>by exact C (e n a) A).trans i.1),(List.filter_congr λn a=>by exact C (e n a) A).trans i.2⟩
noncomputable def wW(p:Arguments):=p.posonlyargs.isEmpty&&p.vararg.isNone&&p.kwonlyargs.isEmpty&&p.kwarg.isNone
theorem Nb{a}{k d}(g:f.params=⟨[],a,N,[],k,N,d⟩)(h:f.defaults=.none){v}(c:v.length=a.length)
  (z:(a.map (·.arg)).filterMap (λn=>(((a.map (·.arg)).zip v).lookup n).map (n,·))=(a.map (·.arg)).zip v) (i:(a.map (·.arg)).filter (λn=>(((a.map (·.arg)).zip v).lookup n).isNone)=[]):
  bindArgs f ⟨v,[]⟩=pure ((a.map (·.arg)).zip v):=by
 unfold bindArgs;refine C g (C h ?_);have b:¬((decide (v.length>(a.map (·.arg)).length)&&D)=D):=by rw[ea,c,decide_eq_false (CX _)];exact nO
 have e:¬((!(((a.map (·.arg)).take ((a.map (·.arg)).length -(List.drop (([]:List Value).length -(a.map (·.arg)).length) ([]:List Value)).length)).filter λn=>(((a.map (·.arg)).zip v).lookup n).isNone).isEmpty)=D):=by rw[xX,P9,Nat.sub_zero,up,i];exact nO
 refine(if_neg b).trans ?_;refine(if_neg e).trans ?_;show(forIn _ _ _>>=_)=_
 refine C xX (C Lw ?_);show(pure (((a.map _)++[]).filterMap λn=>(((a.map _).zip v).lookup n).map _):Sem _)=_
 rw[ln];exact O pure z
theorem Uu(h:wW p=D):p=⟨[],p.args,N,[],p.kw_defaults,N,p.defaults⟩:=by obtain⟨a,j,b,c,k,d,l⟩:=p;exact V h λh i=>V h λh g=>V h λe f=>C (show a=[] from ej.mp e) (C (show b=N from ks.mp f) (C (show c=[] from ej.mp g) (C (show d=N from ks.mp i) A)))
theorem Na(c:wW f.params=D)(a:f.defaults=.none)(b:(f.params.args.map (·.arg)).Nodup){v}(h:v.length=f.params.args.length):
  bindArgs f ⟨v,[]⟩=pure ((f.params.args.map (·.arg)).zip v):=
 have z:=K5 b (h.trans (ea _).symm)
 Nb (Uu c) a h z.1 z.2
theorem Nz:∀c n b y,((∃a,b.lookup y=B a)∨(y,LK)∈c)->∃a,(cellsFrom n c b).lookup y=B a:=λc=>by
 induction c with
 |nil=>exactλn b y h=>h.elim id λh=>ak h cI
 |cons p r i=>
  obtain⟨x,k⟩:=p;exactλn b y h=>by
   unfold cellsFrom;cases d:k==LK with
   |true=>
    refine i _ _ y (h.elim (λh=>h.elim λa h=>.inl (by
     refine C mp ?_;cases e:y==x with
     |true=>exact⟨_,A⟩
     |false=>exact⟨a,h⟩)) λh=>(cB.mp h).elim (λh=>.inl ⟨n,by rw[mp,(dd h).1,beq_self_eq_true]⟩) .inr)
   |false=>exact i _ _ y (h.imp id λh=>(cB.mp h).elim (λh=>ak (beq_iff_eq.mpr (dd h).2.symm) (C d xR)) id)
section
variable{k:Str->Option NameKind}
theorem MY:∀{r}{m}{y},(∀p∈r,p.1≠y)->bindL k r m y=m y:=λ{r}=>by
 induction r with
 |nil=>exact @λm y c=>A
 |cons b r i=>
  exact @λm y h=>by
   refine C (i λp a=>h p (bT _ a)) ?_;split
   ·exact if_neg λz=>h _ bn z.symm
   ·rfl
theorem MX:∀{r}{m}{y},(∀p∈r,p.1≠y)->bindC k r m y=m y:=λ{r}=>by
 induction r with
 |nil=>exact @λm y c=>A
 |cons b r i=>
  exact @λm y h=>by
   refine C (i λp a=>h p (bT _ a)) ?_;split
   ·rfl
   ·exact if_neg λz=>h _ bn z.symm
theorem DZ{v}(b:k y=B .local):∀{r}{m},(r.map (·.1)).Nodup->(y,v)∈r->bindL k r m y=B v
 |(n,u)::r,m,a,h=>by
  have a:=fF.mp a;unfold bindL;refine(cB.mp h).elim (λh=>?_) λh=>DZ b a.2 h
  have e:=(dd h).1;subst e;exact C (MY λp c z=>a.1 (hr.mpr (ag p c z))) (C (if_pos b) ((if_pos A).trans (O B (dd h).2.symm)))
theorem DY{v}(b:k y≠B .local):∀{r}{m},(r.map (·.1)).Nodup->(y,v)∈r->bindC k r m y=B v
 |(n,u)::r,m,a,h=>by
  have a:=fF.mp a;unfold bindC;refine(cB.mp h).elim (λh=>?_) λh=>DY b a.2 h
  have e:=(dd h).1;subst e;exact C (MX λp c z=>a.1 (hr.mpr (ag p c z))) (C (if_neg b) ((if_pos A).trans (O B (dd h).2.symm)))
end
noncomputable def vf:Nat->List Str->List (Nat×Str)
 |_,[]=>[]
 |n,y::r=>(n,y)::vf (n+1) r
theorem EV:∀{a}{n i}{y},(i,y)∈vf n a->∃j,i=n+j/\a[j]?=B y
 |y::r,n,i,z,h=>(cB.mp h).elim (λh=>(ag 0 ((dd h).1) (O B (dd h).2.symm))) λh=>(EV h).elim λj x=>(ag _ (x.1.trans (by rw[gX,kr 1])) x.2)
noncomputable def Gb:Value->Bool
 |.none=>D
 |_=>I
def jU(s:Scope)(y:List Str):cK:=⟨s.names,vf 0 y,D⟩
noncomputable def iU(p:Arguments):=p.args.map (·.arg)
noncomputable def Bx(b:FuncBody):=match b with
 |.stmts a=>B a
 |_=>N
noncomputable def qi(d:Data):=match d with
 |.func f=>B f
 |_=>N
inductive LW(K)(T)(d:bx)(y)(f:FuncData) where
 |mk (i:codeIn K f.code f.qualname=D)
  (o:kdsCode K f.code=D)
  (v:wW f.params=D)
  (k:Gb f.defaults=D)
  (h:f.closure.isEmpty=D)
  (n:(f.globals==mainGlobals)=D)
  (e:(f.builtins==builtinsNs)=D)
  (q:(f.scope.kind==.function)=D)
  (m:f.scope.isGenerator=I)
  (j:f.scope.isCoroutine=I)
  (c:(iU f.params==y.take d.b)=D)
  (s:M f.params.args.length d.b=D)
  (t:jj (iU f.params)=D)
  (r:((iU f.params).all λa=>(jU f.scope y).f a||(jU f.scope y).b a==B .cell)=D)
  (l:(f.scope.names.all λp=>!(p.2==.free))=D)
  (u:(jU f.scope y).e=D)
  (g:∃b,Bx f.body=B b/\uY T d.a (jU f.scope y) b=D)
noncomputable def FH(K)(f:FuncData):=codeIn K f.code f.qualname&&(kdsCode K f.code&&(Gb f.defaults&&(f.closure.isEmpty&&(f.globals==mainGlobals&&f.builtins==builtinsNs))))
def JT(T)(d:bx)(y)(p:Arguments)(b:FuncBody)(s:Scope):=
 wW p&&(s.kind==.function&&(!s.isGenerator&&(!s.isCoroutine&&(iU p==y.take d.b&&(M p.args.length d.b&&(jj (iU p)&&((iU p).all (λa=>(jU s y).f a||(jU s y).b a==B .cell)&&
 (s.names.all (λp=>!(p.2==.free))&&((jU s y).e&&(Bx b).any λb=>uY T d.a (jU s y) b)))))))))
def Fd(K)(T)(d:bx)(y)(f):=FH K f&&JT T d y f.params f.body f.scope
def qg(K:Frag)(T)(a)(d)(y):=(K.lookup a).any λo=>(qi o.data).any λf=>Fd K T d y f
theorem PM{K}{T}{d}{f}(h:Fd K T d y f=D):LW K T d y f:=
 V h λh a=>V h λc h=>V h λp h=>V h λr h=>V h λs h=>V h λt u=>V a λq h=>V h λv h=>V h λw h=>V h λg h=>V h λi h=>V h λj h=>V h λk h=>V h λl h=>V h λm h=>V h λn o=>⟨c,p,q,r,s,t,u,v,cq w,cq g,i,j,k,l,m,n,ik o λb e x=>(ag b e x)⟩
theorem YR{b}(h:Bx b=B s):b=.stmts s:=by cases b<;>first|exact X h|exact congrArg _ (R h)
theorem Qy{d}(h:qi d=B f):d=.func f:=by cases d<;>first|exact X h|exact congrArg _ (R h)
theorem Hw:∀n i x,Z (bG n) i=B x->x=.f:=λn=>by
 induction n with
 |zero=>exactλz z h=>X h
 |succ n a=>exactλv=>by cases v with|zero=>exactλx h=>(R h).symm|succ i=>exactλx h=>a i x h
theorem TY:∀{b c}{i}{x:a},Z (b++c) i=B x->Z b i=B x∨∃j,Z c j=B x:=λ{b}=>by
 induction b with
 |nil=>exact @λc i x h=>.inr ⟨i,h⟩
 |cons y b d=>exact @λc v=>by cases v with|zero=>exact @λx h=>.inl h|succ i=>exact @λx h=>d h
section
variable{a:Type}{c:bg a}
theorem MR{d:S a}(h:uS x=B (v,d)){P:Prop}(k:∀b l,x=B ((b,l),d)->(∀g f,nZ c.e g b f->(∃u,f=.ret u/\ao c.e g v u)∨(ao c.e g v .none/\(f=.next∨f=.cont)))->P):P:=aO h λp s e h=>by obtain⟨b,l⟩:=p;cases b with|b w=>exact k (.b w) l (J (bo h) e) λg f r=>.inl (r.imp λu r=>⟨r.1,J (aW h) r.2⟩)|a=>exact k .a l (J (bo h) e) λg f r=>.inr ⟨J (aW h) A,.inl r⟩|c=>exact k .c l (J (bo h) e) λg f r=>.inr ⟨J (aW h) A,.inr r⟩
theorem Fu(e:ay c g d h)(f:h.get? b=N):(∀n i,g.a n i≠B b)/\g.e b=N/\c.d.get? b=N:=
 (aK (λn i j=>(e.h j).elim λo q=>bZ f q) (by
  cases z:g.e b with
  |none=>rfl
  |some v=>exact(e.j z).elim λo q=>bZ f q) (by
  cases z:c.d.get? b with
  |none=>rfl
  |some o=>exact bZ f (e.4 _ _ z)))
theorem Qn(E:aH c)(c3:mD c b)(b4:n' c n e)(u:qg c.f b (c.e.k f) d y=D):Dw c (n+2) f (sC c.a e d):=λa9 c6 a7 c8 d5 d4 T d3 d6 F q a3 o v=>ik u λb9 c1 u=>ik u λi c0 u=>aY o λa0 o=>by
  have g:=PM u;refine g.17.elim λb1 W=>MR (c:=c) o λc7 d0 o b5=>?_
  have a1:=(a3.h.trans (cb.mp a0)).trans (cb.mp g.12).symm;have Z:∀h∈iU i.params,(jU i.scope y).b h=B _∨(jU i.scope y).b h=B _:=λh p=>wN (bu.mp g.14 h p) (λz=>.inl (beq_iff_eq.mp z)) λz=>.inr (beq_iff_eq.mp z)
  have K:∀h,(jU i.scope y).b h=B _->∃r,(cellsFrom (a7.heap.objs.size+1) i.scope.names []).lookup h=B r:=λh p=>Nz _ _ _ _ (.inr (hP p))
  refine codeAny_call_cells (binds:=(iU i.params).zip T) (dA (ap [_,_] .b (.a 0) (.c (.c (.a 0) (.f 10 (.c (.a 1) (.b 2)))) (.b 20)) A) F.2) (q.g E _ _ c1) (Qy c0) (E.4.keeps q.4) (codeRec_of (q.g E) g.1) (YR W.1) (Na g.3 (by
   have z:=g.4
   revert z
   cases i.defaults<;>first|exactλc4=>A|exact az) (qK g.13) a1) (ej.mp g.5)
   (λa8 o=>(Z a8.1 (List.of_mem_zip o).1).imp id λk=>⟨k,(K _ k).elim λr t=>C t A⟩) (λd1 m=>?_) g.10 g.9 (beq_iff_eq.mp g.8)
  have L:=Fu q en;refine aq m.toInCall.same λc9 d2 b6=>?_
  have c2:dM (a9.deeper (callEnvC i a7.heap.objs.size (c.e.k f))) (n+1):=⟨F.1,by have:=F.2;exact ap [_,_,_] (.a 1 (.c (.c (.c (.a 0) (.f 10 (.c (.a 1) (.b 2)))) (.b 20)) (.b 1)) (.a 2) .b) (.c (.c (.c (.c (.a 0) (.b 1)) (.f 10 (.c (.a 1) (.b 1)))) (.b 20)) (.b 1)) (.a 2) A this,by have:=F.3;exact ap [_,_,_] (.a 1 (.c (.c (.c (.a 0) (.f 100 (.c (.a 1) (.b 2)))) (.b 200)) (.b 1)) (.a 2) .b) (.c (.c (.c (.c (.a 0) (.b 3)) (.f 100 (.c (.a 1) (.b 1)))) (.b 200)) (.b 1)) (.a 2) A this⟩
  exact EA ⟨E,c2,b4,c3⟩ d.a _ b1 W.2 _ ⟨beq_iff_eq.mp g.8,beq_iff_eq.mp g.6,beq_iff_eq.mp g.7,A,g.16,λh p=>(vH p).elim (K h) λp=>ck ((beq_iff_eq.mpr A).symm.trans (cq (bu.mp g.15 _ (hP p)))),λc4=>g.2⟩ _ _ _ _ _ _ _ _ _ (q.c m.toInCall.keep) (by
   refine⟨(ag _ m.toInCall.ns (λb7 a8 h w U b2=>(TY w).elim (λw=>(EV (hP b2)).elim λa6 Y=>?_) λz=>z.elim λa6 z=>by rw[Hw _ _ _ z]at U;exact ck U)),
    L.1,L.2.1,L.2.2,λh v j=>(m.cell h v j).imp λb9 z=>z.1⟩
   ·have b8:=Y.1.trans (ie a6);subst b8;refine(a3.c w).elim λG l=>?_
    have a4:(iU i.params)[b7]?=B h:=C (beq_iff_eq.mp g.11) (C CO (C (if_pos (J (cb.mp a0) (qB ((gP _ _).symm.trans w)))) Y.2));have a5:(h,G)∈(iU i.params).zip T:=fE (CP.mpr ⟨a4,l.1⟩);have a2:(((iU i.params).zip T).map _).Nodup:=C (List.map_fst_zip (by rw[iU,ea,a1];exact bd _)) (qK g.13);refine(Z h (fE a4)).elim (λk=>.inl ⟨k,(ag G (DZ k a2 a5) l.2)⟩) λk=>(K h k).elim λr t=>?_
    have X:=m.cell h r t;rw[DY (k:=(callEnvC i _ _).kindOf) (λj=>ak (R (k.symm.trans j)) LL) a2 a5]at X;have V:=m.above h r (hP t);have P:=Fu q (U6 (fh V))
    exact .inr ⟨(.inl k),(dR r G t X ⟨P.1,P.2.1,P.2.2,cC V⟩ l.2)⟩) o λx Q S b3 b H c5 b0=>by
   have s:=bk.g m.toInCall.keep en b;refine C b6 ?_;rcases b5 x b3 b0 with⟨G,j,l⟩|⟨l,j|j⟩
   ·subst j;exact v x Q S _ s.1 s.2 H l
   ·subst j;exact v x Q S _ s.1 s.2 H l
   ·subst j;exact v x Q S _ s.1 s.2 H l
end
theorem Nu(m:aH c)(x:mD c a)(o:∀f d,c.a.c.c f=B d->∃y,qg c.f a (c.e.k f) d y=D):∀n,n' c (2*n) (ah c.a n):=λn=>by
 induction n with|zero=>exactλf e T s i b v u k l r g j h q=>X h|succ n t=>exactλf e T s i b v u k l r g j h q=>aj (show(Y _ λd=>sC c.a (ah c.a n) d v b)=B _ from h) λd w h=>(o f d w).elim λy p=>Qn m x t p e T s i b v u k l r g j h q
noncomputable def lF:=[21,35,56,77,91,96,103,110,117,124,129,146,153,160,167,174,181,188,195,209,230,237,244,251,258,265,272,279,286,293,300,307,314,321,328,335,342,349,356,363,370,377,384,398,405,412,434,441,446,453,460,467,474,479,486,491]
def jv:=H8.map ih
def ja:=PS.map ih
def eW:ky where
 d:=jv
 b:=ja
 c:=Ql.map λp=>(p.1,ih p.2)
 a:=NH.map ih
 j:=QB.map ih
 e:=Td.map λp=>(p.1,ih p.2)
noncomputable def kG:Nat->Addr
 |0=>38
 |1=>59
 |2=>80
 |3=>212
 |_=>387
noncomputable def oc:=[130,131,133,134,135,416,418,420,423,428]
noncomputable def Ca:Option Str->Nat->Str
 |some t,_=>t
 |none,k=>⟨KV (k+1) 200⟩
def d'(k:Nat):=Ca jv[k]? k
def gL(K)(x):=Y (nsIn K mainGlobals x) λo=>dc (bif x=="__name__" then N else bootBuiltins x) B o
def cU(K:Frag):gZ where
 c:=d'
 b:=λk=>(ja[k]?).getD ""
 a:=kG
 k:=λi=>(lF[i]?).getD 0
 e:=λm=>(eW.e.lookup m).getD ""
 j:=gL K
 d:=λj=>(eW.j[j]?).getD ""
noncomputable def zM(v:Value)(n:String):=match v with
 |.type m=>m==n
 |_=>I
noncomputable def Bl(d:Data):=match d with
 |.seq v k=>B (v,k)
 |_=>N
noncomputable def vb(d:Data):=match d with
 |.dict e k=>B (e,k)
 |_=>N
def yM(o:Obj)(n:String):=zM o.cls n&&(o.dict.isNone&&o.slots.isEmpty)
def mb(K:Frag)(a):=Y (K.lookup a) λo=>aI (zM o.cls "tuple") (Y (Bl o.data) λp=>B p.1.toList)
def fv(K:Frag):aM where
 a:=λn b=>match n with|.d i=>bif b then N else oc[i]?|.c _=>N
 e:=mb K
def im(K:Frag)(b:eT a)(w:World)(h:Heap):bg a:=⟨b,cU K,rK.row.prog,w,h,fv K,K⟩
section
variable(a:gZ)(g:aM)
noncomputable def Vn(n)(v:Value):=match v with
 |.ref b=>g.a n I==B b
 |_=>I
noncomputable def Km(v:Value):=match v with
 |.ref b=>g.e b
 |_=>N
noncomputable def Rg(i)(v:Value):=match v with
 |.int j _=>j==i
 |_=>I
noncomputable def YW(s)(v:Value):=match v with
 |.str t _=>t==s
 |_=>I
mutual
def lZ:E->Value->Bool
 |.f,_=>I
 |.g,v=>v==.none
 |.c c,v=>v==.bool c
 |.a z,v=>Rg z.c v
 |.e k,v=>YW (a.c k) v
 |.d l,v=>dc I (tI l) (Km g v)
 |.h _,_=>I
 |.b n,v=>Vn g n v
termination_by structural x=>x
def tI:List E->List Value->Bool
 |[],b=>b.isEmpty
 |x::d,b=>ds I (λv r e=>lZ x v&&tI d r) b
termination_by structural x=>x
end
def Ix(b:List (E×E)):List DictEntry->Bool:=ds (λq=>q.isEmpty) (λe z i q=>ds I (λd r z=>lZ a g e.1 d.key&&(lZ a g e.2 d.val&&i r)) q) b
end
def HF(K:Frag)(o:bq)(b:Obj):Bool:=match o with
 |.a l=>yM b "list"&&(Bl b.data).any λp=>tI (cU K) (fv K) l p.1.toList
 |.b a e=>yM b "dict"&&(vb b.data).any λp=>Ix (cU K) (fv K) a p.1.toList&&M e p.2
 |_=>I
noncomputable def Qm(a:Stmt):List (Arguments×FuncBody×Scope):=match a with
 |.FunctionDef _ p b _ _ _ s _ _ _=>[(p,.stmts b,s)]
 |.ClassDef _ _ _ b _ _ _ _ _ _ _=>b.flatMap λ
  |.FunctionDef _ p b _ _ _ s _ _ _=>[(p,.stmts b,s)]
  |_=>[]
 |_=>[]
def ki:=eG.main.body.flatMap Qm
noncomputable def sz(K:Frag)(a):=Y (K.lookup a) λo=>Y (qi o.data) λf=>B (f.params,f.body,f.scope)
def FJ(K:Frag)(a):=(K.lookup a).any λo=>(qi o.data).any (FH K)
inductive pE(K) where
 |mk (d:lF.all (λa=>FJ K a&&keepIn K (.ref a))=D)
  (j:eW.c.all (λp=>gL K p.2==B (.ref ((cU K).k p.1))&&keepIn K (.ref ((cU K).k p.1)))=D)
  (h:((bv 5).zip eW.a).all (λp=>gL K p.2==B (.ref (kG p.1)))=D)
  (g:[0,1,3,4,5,6].all (λb=>gL K (mK b)==B (kE b))=D)
  (r:(gL K "range"==B (.type "range"))=D)
  (e:(gL K "enumerate"==B (.type "enumerate"))=D)
  (c:(bv 5).all (λi=>((bv 32).zip ja).all λf=>!(dD.a i f.1)||qQ K (kG i) f.2)=D)
  (m:tn.all (λp=>tv K 387 ((cU K).e p.1) ((cU K).k p.2))=D)
  (l:((bv 5).zip vF).all (λp=>tu K (kG p.1) ((cU K).k p.2))=D)
  (k:((bv 14).zip (mU.zip eW.j)).all (λp=>(gL K p.2.2).any λv=>lZ (cU K) (fv K) p.2.1 v)=D)
  (o:(oc.zip cZ).all (λp=>(K.lookup p.1).any λb=>HF K p.2 b)=D)
  (s:oc.all (λa=>(mb K a).isNone)=D)
  (t:lF.map (sz K)=ki.map B)
def EB(K:Frag):=
 lF.all (λa=>FJ K a&&keepIn K (.ref a))&&(eW.c.all (λp=>gL K p.2==B (.ref ((cU K).k p.1))&&keepIn K (.ref ((cU K).k p.1)))&&
 (((bv 5).zip eW.a).all (λp=>gL K p.2==B (.ref (kG p.1)))&&([0,1,3,4,5,6].all (λb=>gL K (mK b)==B (kE b))&&(gL K "range"==B (.type "range")&&(gL K "enumerate"==B (.type "enumerate")&&
 ((bv 5).all (λi=>((bv 32).zip ja).all λf=>!(dD.a i f.1)||qQ K (kG i) f.2)&&(tn.all (λp=>tv K 387 ((cU K).e p.1) ((cU K).k p.2))&&
 (((bv 5).zip vF).all (λp=>tu K (kG p.1) ((cU K).k p.2))&&(((bv 14).zip (mU.zip eW.j)).all (λp=>(gL K p.2.2).any λv=>lZ (cU K) (fv K) p.2.1 v)&&
 ((oc.zip cZ).all (λp=>(K.lookup p.1).any λb=>HF K p.2 b)&&oc.all (λa=>(mb K a).isNone)))))))))))
theorem NG{K}(h:EB K=D)(x:lF.map (sz K)=ki.map B):pE K:=V h λa h=>V h λe h=>V h λf h=>V h λg h=>V h λi h=>V h λj h=>V h λk h=>V h λl h=>V h λm h=>V h λb h=>V h λc d=>⟨a,e,f,g,i,j,k,l,m,b,c,d,x⟩
def sO(K:Frag):=(oc.take 5).map λa=>Y (K.lookup a) λb=>Y (vb b.data) λp=>B (p.1.toList.map (·.hash))
def RL(w:World)(v:E):Int:=dc 0 (hN w) (cp (cU []) v)
def kN(w):=(cZ.take 5).map λo=>Y (dy o) λp=>B (p.1.map λe=>RL w e.1)
noncomputable def sY(d:Data):=match d with
 |.freed=>D
 |_=>I
noncomputable def MI:=[3,20,21,34,35,37,38,55,56,58,59,76,77,79,80,90,91,95,96,102,103,109,110,116,117,123,124,128,129,130,131,133,134,135,136,137,138,139,145,146,152,153,159,160,166,167,173,174,180,181,187,188,194,195,208,209,211,212,229,230,236,237,243,244,250,251,257,258,264,265,271,272,278,279,285,286,292,293,299,300,306,307,313,314,320,321,327,328,334,335,341,342,348,349,355,356,362,363,369,370,376,377,383,384,386,387,397,398,404,405,411,412,413,414,415,416,417,418,419,420,421,422,423,424,425,426,427,428,429,433,434,440,441,445,446,452,453,459,460,466,467,473,474,478,479,485,486,490,491]
def qb:List Nat->Nat->List Obj->Frag:=λa n l=>ds (λz z=>[]) (λo z i a n=>ds [] (λb r z=>bif M b n&&!(sY o.data)then(n,o)::i r (n+1)else i a (n+1)) a) l a n
def vv(h:Heap):=qb MI 0 h.objs.toList
def sc(w:World)(h:Heap):=∃K,pE K/\sO K=kN w/\K.In h
def xj(s:Shared):=(EB (vv s.heap),sO (vv s.heap),lF.map (sz (vv s.heap)))
theorem Oz{a}:∀{l}{b n},(qb b n l).lookup a=B o->∃i,a=n+i/\l[i]?=B o/\sY o.data=I:=λ{l}=>by
 induction l with
 |nil=>exactλh=>X h
 |cons x l d=>
  intro b n h;have u:∀{b},(qb b (n+1) l).lookup a=B o->∃i,a=n+i/\(x::l)[i]?=B o/\sY _=I:=λh=>(d h).elim λi z=>(ag _ (by rw[z.1,gX,kr 1]) z.2)
  cases b with
  |nil=>exact X h
  |cons c r=>
   have h:(bif M c n&&!(sY x.data)then(n,x)::qb r _ l else qb (c::r) _ l).lookup a=B o:=h;cases q:M c n&&!(sY x.data)with
   |false=>rw[q]at h;exact u h
   |true=>rw[q]at h;have h:((n,x)::qb r _ l).lookup a=B o:=h;rw[mp]at h;cases p:a==n with|true=>rw[p]at h;exact(bi 0 (beq_iff_eq.mp p) h (J (R h) (V q λe z=>cq z)))|false=>rw[p]at h;exact u h
theorem Qv(h):(vv h).In h:=λa o e=>(Oz e).elim λi z=>by
 have b:h.objs[a]?=B o:=by rw[z.1,ie,←gW];exact z.2.1
 unfold Heap.get?;refine C b ?_;obtain⟨c,f,d,s⟩:=o;cases d with|freed=>exact ck z.2.2|_=>rfl
theorem Wx(w)(s)(e:xj s=(D,kN w,ki.map B)):sc w s.heap:=(bi _ (NG (dd e).1 (dd (dd e).2).2) (dd (dd e).2).1 (Qv _))
theorem Ww(w)(h c)(x:sc w h)(k:∀b o,h.get? b=B o->c.get? b=B o):sc w c:=x.imp λK x=>(aK x.1 x.2.1 (λa o e=>k a o (x.2.2 a o e)))
noncomputable def nz:Program:={eG with main:={eG.main with body:=eG.main.body.drop 51}}
def qz:List Str:=eG.boundNames.filter λn=>n !=("law":Str)
def yy(s:Shared):Bool:=xlAt nz [] s&&recOk (RowW.records IH.row.toRowW) s
noncomputable def YE:=aag
noncomputable def Of:=aah
noncomputable def ZV:=aai
noncomputable def Uh:=aaj
def xi(w:World)(o:OsState):Option SharedT:=t' (YE (Of ZV) eG w) (Uh 11 (B (.ref 6))) 4000 (yt w o) (topStub eG)
theorem VP:tJ=xi:=by unfold tJ xi;rw[aac,aad,aae,aaf];rfl
def z'(w:World)(S:SharedT):=((staticsOk (importedModules eG.main.body) (boot_heap w.params) S.abs.heap&&namesBound eG S.abs.heap&&gensDone S.abs&&laidKept (boot_heap w.params) S.abs.heap),openSeen nz qz (importedModules eG.main.body) yy D S.abs,xj S.abs)
theorem SJ(w:World)(o:OsState):(xi (w.withFollow "special-get-raises" I) o).map (z' (w.withFollow "special-get-raises" I))=B (D,openGood nz qz,D,kN (w.withFollow "special-get-raises" I),ki.map B):=by kernel_rfl
theorem SK(w:World)(o:OsState):(xi (w.withFollow "special-get-raises" D) o).map (z' (w.withFollow "special-get-raises" D))=B (D,openGood nz qz,D,kN (w.withFollow "special-get-raises" D),ki.map B):=by kernel_rfl
theorem SI(w:World)(o:OsState):(tJ w o).map (z' w)=B (D,openGood nz qz,D,kN w,ki.map B):=by rw[VP];have e:=World.withFollow_self w "special-get-raises";cases h:w.params.followText "special-get-raises" with|false=>have z:=SJ w o;rw[h]at e;rw[e]at z;exact z|true=>have z:=SK w o;rw[h]at e;rw[e]at z;exact z
theorem Sf:LeftO eG nz qz yy xj (λw=>(D,kN w,ki.map B)) 4000:=Sh SI
theorem nN{e g:Type}{l:List e}{m}{f}{i:Nat}{a}{b:g}(h:(l.zip m).all f=D)(c:l[i]?=B a)(d:m[i]?=B b):f (a,b)=D:=
 bu.mp h _ (fE (CP.mpr ⟨c,d⟩))
theorem xa{n i}(h:i<n):(bv n)[i]?=B i:=rD h
theorem mT{a:Type}{l:List a}{x}(h:l[i]?=B x):i<l.length:=(xY.mp h).1
theorem mI{a:Type}{l:List a}{i}(h:i<l.length):∃x,l[i]?=B x:=⟨_,Ll h⟩
theorem Hu(a:jj l=D){i j:Nat}{x:Str}(h:l[i]?=B x)(k:l[j]?=B x):i=j:=
 (P3 (mT h) (qK a)).mp (h.trans k.symm)
theorem SM:jv.all (λt=>t.cps.all λx=>ar x 128)=D:=by decide+kernel
theorem H0:jj jv=D:=by decide+kernel
theorem GP{k:Nat}{t}(h:jv[k]?=B t):∀x∈t.cps,x<128:=λx a=>bH (L1.mp (bu.mp SM t (fE h)) x a)
theorem ud(h:jv[k]?=B t):d' k=t:=O (Ca · k) h
theorem xC(h:jv[k]?=N):d' k=⟨KV (k+1) 200⟩:=O (Ca · k) h
theorem HW{k j:Nat}(h:jv[k]?=B t)(e:t=⟨KV (j+1) 200⟩):False:=ak (GP h 200 (by exact C e (L6.mpr ⟨ur j,A⟩))) (by decide)
theorem Ky(e:d' a=d' b):a=b:=by
 cases c:jv[a]? with
 |some t=>rw[ud c]at e;cases p:jv[b]? with|some u=>rw[ud p]at e;exact Hu H0 c (C e p)|none=>rw[xC p]at e;exact(HW c e).elim
 |none=>rw[xC c]at e;cases p:jv[b]? with|some u=>rw[ud p]at e;exact(HW p e.symm).elim|none=>rw[xC p]at e;have:=O (λs=>s.cps.size) e;exact nS (L7.symm.trans (this.trans L7))
theorem H7(k):V3 (d' k)=D:=L1.mpr λx h=>by
 have:x<201:=by cases p:jv[k]? with|some t=>rw[ud p]at h;exact dt (GP p x h) (by decide)|none=>rw[xC p]at h;exact C ((L6.mp h).2) (by decide)
 exact decide_eq_true (aP this A)
theorem HU:∀{l},oH k j l=B r->(k,j,r)∈l:=λ{l}=>by
 induction l with
 |nil=>exact X
 |cons p l i=>intro h;have h:(bif M p.1 k&&M p.2.1 j then B p.2.2 else oH k j l)=B r:=h;cases q:M p.1 k&&M _ j with|true=>rw[q]at h;exact V q λa b=>J (cb.mp a) (cb.mp b▸R h▸bn)|false=>rw[q]at h;exact bT _ (i h)
theorem Nw:yQ.all (λp=>d' p.1++d' p.2.1==d' p.2.2&&cV ((d' p.1).length+(d' p.2.1).length) 100)=D:=A
theorem Nx(h:dD.d a b=B r):d' a++d' b=d' r/\(d' a).length+(d' b).length<=sizeLine:=
 V (bu.mp Nw _ (HU h)) λc d=>⟨beq_iff_eq.mp c,aV (bH d) (by decide)⟩
theorem NC:yR.all (λp=>(d' p.2.2).cps.toList==((d' p.1).cps.toList[p.2.1]?).toList&&(ar p.2.1 1000&&((d' p.1).cps.toList[p.2.1]?).isSome))=D:=A
theorem ND(c:dD.f a n=B b):∃x,(d' a).cps[n]?=B x/\(d' b).cps=#[x]/\n<1000:=
 V (bu.mp NC _ (HU c)) λd h=>V h λh f=>(C'.mp f).elim λx e=>(bi x (gW.symm.trans e) (KW.mp ((beq_iff_eq.mp d).trans (by exact C e A))) (bH h))
theorem Yr:([0,1,2].all λa=>[0,1,2].all λb=>zV a b==B (decide ((d' a).cps.toList<(d' b).cps.toList)))=D:=A
theorem GB(h:zV a b=B r):a∈[0,1,2]/\b∈[0,1,2]:=ga h λq z=>V q λc d=>⟨(by decide:∀a,a<3->a∈[0,1,2]) a (bH c),(by decide:∀a,a<3->a∈[0,1,2]) b (bH d)⟩
theorem Ys(h:dD.n a b=B r):decide ((d' a).cps.toList<(d' b).cps.toList)=r:=
 R ((beq_iff_eq.mp (bu.mp (bu.mp Yr a (GB h).1) b (GB h).2)).symm.trans h)
theorem Oi:([(8,20),(16,21),(32,22)].all λp:Int×Nat=>ih (toString p.1)==d' p.2)=D:=A
theorem Ok(h:dD.e i=B b):0<=i/\i<1000/\ih (toString i)=d' b:=by
 have k:(i,b)∈[(8,20),(16,21),(32,22)]/\0<=i/\i<1000:=by
  have h:(bif i==8 then B 20 else bif i==16 then B 21 else bif i==32 then B 22 else N)=B b:=h;cases p:i==8 with
  |true=>rw[p]at h;refine C (beq_iff_eq.mp p) (J (R h) ?_);decide
  |false=>rw[p]at h;cases q:i==16 with|true=>rw[q]at h;refine C (beq_iff_eq.mp q) (J (R h) ?_);decide|false=>rw[q]at h;exact ga h λr h=>by refine C (beq_iff_eq.mp r) (J (R h) ?_);decide
 exact(aK k.2.1 k.2.2 (beq_iff_eq.mp (bu.mp Oi _ k.1)))
theorem PO:jj ja=D:=by decide+kernel
theorem sN(h:dD.a i f=D):f<32:=by
 have l:∀{n},cV f n=D->n<32->f<32:=λh k=>dA (bH h) k
 match i,h with|0,h=>exact l h (by decide)|1,h=>exact V h λz h=>l h (by decide)|2,h=>exact V h λz h=>l h (by decide)|3,h=>exact V h λz h=>l h (by decide)|_+4,h=>exact V h λz h=>l h (by decide)
theorem vq(h:f<32):∃x,ja[f]?=B x:=mI h
theorem Tj:∀{l},wl m l=B f->(m,f)∈l:=λ{l}=>by
 induction l with
 |nil=>exact X
 |cons p l i=>intro h;have h:(bif M p.1 m then B p.2 else wl m l)=B f:=h;cases q:M p.1 m with|true=>rw[q]at h;exact J (cb.mp q) (R h▸bn)|false=>rw[q]at h;exact bT _ (i h)
theorem G'(h:dD.h i m=B f):i=4/\(m,f)∈tn:=ga h λq h=>⟨cb.mp q,Tj h⟩
theorem GZ:tn.all (λp=>(oD p.1).isNone&&!(ja.any λt=>t==(eW.e.lookup p.1).getD ""))=D:=by decide+kernel
theorem Te:eW.e.all (λp=>p.2==(oD p.1).getD p.2)=D:=by decide+kernel
theorem D5:((ki.zip zw).zip Aq).all (λp=>JT eW p.1.2 (p.2.map ih) p.1.1.1 p.1.1.2.1 p.1.1.2.2)=D:=by kernel_rfl
section
variable{c:Type}{b:eT c}{w:World}{d:Heap}{a:Frag}(k:pE a)(h:b.c=dD)
include k h
theorem FG{j:Nat}(e:mU[j]?=B v):∃u,gL a ((eW.j[j]?).getD "")=B u/\lZ (cU a) (fv a) v u=D:=
 have f:j<14:=mT e
 (mI f).elim λx g=>ik (show((gL a x).any λu=>lZ _ _ v u)=D from nN (b:=(v,x)) k.10 (xa f) (CP.mpr ⟨e,g⟩)) λu i r=>(ag u (by exact C g i) r)
theorem Fm(i:b.c.c f=B e):∃y,qg a eW ((cU a).k f) e y=D/\keepIn a (.ref ((cU a).k f))=D:=by
 rw[h]at i;have i:=(gP zw f).symm.trans i;have n:f<56:=mT i;refine(mI (l:=lF) n).elim λl m=>(mI (l:=Aq) n).elim λy u=>V (bu.mp k.1 l (fE m)) λj s=>ik j λo r j=>ik j λv p j=>⟨y.map ih,?_⟩
 show qg a eW ((lF[f]?).getD 0) e _=D/\keepIn a (.ref ((lF[f]?).getD 0))=D
 have g:_=(ki.map B)[f]?:=O (·[f]?) k.13;rw[jA,jA,m]at g;cases q:ki[f]? with
 |none=>rw[q]at g;exact X g.symm
 |some t=>
  rw[q]at g;have g:sz a l=B t:=R g;unfold sz at g;rw[r]at g;have g:Y (qi o.data) _=B t:=g;rw[p]at g;refine C m ⟨?_,s⟩;show qg a eW l e _=D
  unfold qg;rw[r];show(qi o.data).any _=D
  rw[p];have g:_=t:=R g;subst g;exact ho.mpr ⟨j,nN (a:=(_,e)) D5 (CP.mpr ⟨q,i⟩) u⟩
theorem JU:mD (im a b w d) eW:=
 ⟨(λz z e=>ud e),
  (λz z e=>O (λo=>o.getD "") e),
  (λl x e=>V (bu.mp k.2 _ (hP e)) λg f=>⟨beq_iff_eq.mp g,f⟩),
  (λl x e=>beq_iff_eq.mp (nN k.3 (xa (mT e)) e)),
  (λj x e=>⟨O (λo=>o.getD "") e,by
  show aF (b.c.b j)=I
  rw[h];have q:j<14:=mT e;refine(mI q).elim λv i=>(FG k h i).elim λu r=>?_
  show aF ((Z mU j).getD .f)=I
  rw[gP,i];cases v with
  |f=>exact az r.2
  |_=>rfl⟩),
  (λm x e=>by
  show x=(oD m).getD ((eW.e.lookup m).getD "")
  exact C e (beq_iff_eq.mp (bu.mp Te _ (hP e)))),
  (λf n p=>beq_iff_eq.mp (bu.mp k.4 f ((by decide:∀f,f<7->f≠2->f∈[0,1,3,4,5,6]) f n p))),
  beq_iff_eq.mp k.5,
  beq_iff_eq.mp k.6,
  (λl m s e=>V (bu.mp GZ _ (G' (by exact J h e)).2) λg z=>ks.mp g)⟩
theorem Mo(e:dD.a i f=D):qQ a (kG i) ((ja[f]?).getD "")=D:=by
 have g:∀{i},i<5->dD.a i f=D->qQ a _ ((ja[f]?).getD "")=D:=λ{i} l e=>(vq (sN e)).elim λx j=>by have z:=nN (bu.mp k.7 i (pt.mpr l)) (xa (sN e)) j;exact C j ((gi.mp z).elim (λz=>by rw[e]at z;exact az z) id)
 match i,e with|0,e=>exact g (by decide) e|1,e=>exact g (by decide) e|2,e=>exact g (by decide) e|3,e=>exact g (by decide) e|_+4,e=>exact g (i:=4) (by decide) e
theorem SZ(e:dD.g i=B f):tu a (kG i) ((cU a).k f)=D:=
 have e:=(gP vF i).symm.trans e
 nN k.9 (xa (mT e)) e
omit h in
theorem Tu(l:dD.h i m=B f):tv a (kG i) ((cU a).e m) ((cU a).k f)=D/\∀g,dD.a i g=D->(cU a).b g≠(cU a).e m:=by have w:=G' l;refine⟨C w.1 (bu.mp k.8 _ w.2),λg o e=>(vq (sN o)).elim λx j=>V (bu.mp GZ _ w.2) λz n=>?_⟩;have e:(ja[g]?).getD ""=(eW.e.lookup m).getD "":=e;rw[j]at e;exact ck (((xW (p:=λt=>t==(eW.e.lookup m).getD "")).mpr (ag x (fE j) (beq_iff_eq.mpr e))).symm.trans (cq n))
end
theorem PN(c:dD.a i f=D)(d:dD.a i a=D)(e:(ja[f]?).getD ""=(ja[a]?).getD ""):f=a:=(vq (sN c)).elim λx h=>(vq (sN d)).elim λy b=>by rw[h,b]at e;have e:x=y:=e;exact Hu PO h (C e b)
theorem Em:(∀x v,lZ a g x v=D->ao a g x v)/\∀x v,tI a g x v=D->aE a g x v:=by
 refine E.i ?_ ?_ ?_ ?_ ?_ ?_ ?_ ?_ ?_ ?_
 ·exact @λ_ h=>az h
 ·exact @λv h=>beq_iff_eq.mp h
 ·intro d;exact @λv h=>beq_iff_eq.mp h
 ·intro u;exact @λv h=>by cases v with|int l t=>exact⟨t,J (beq_iff_eq.mp h) A⟩|_=>exact az h
 ·intro m;exact @λv h=>by cases v with|str s t=>exact⟨t,J (beq_iff_eq.mp h) A⟩|_=>exact az h
 ·intro n j;exact @λv h=>by
   have c:dc _ _ _=D:=h;cases q:Km g v with
   |none=>rw[q]at c;exact az c
   |some e=>rw[q]at c;cases v with|ref b=>exact(an b e A q (j e c))|_=>exact X q
 ·intro z z;exact @λ_ h=>az h
 ·intro o;exact @λv h=>by cases v with|ref b=>exact(ag b A (beq_iff_eq.mp h))|_=>exact az h
 ·exact @λv h=>ej.mp h
 ·intro x p i f;exact @λk=>by cases k with|nil=>exact @λh=>az h|cons v r=>exact @λh=>V h λb d=>(an v r A (i v b) (f r d))
theorem AW:∀x v,lZ a g x v=D->ao a g x v:=(Em).1
theorem Vs:∀x v,tI a g x v=D->aE a g x v:=(Em).2
section
variable{c:Type}{b:eT c}{w:World}{h:Heap}{a:Frag}
theorem FA(k:pE a)(g:b.c=dD)(Q:b.b=F)(W:b.f<=ef)(K:a.In h)(T:Top p l d e m h)(V:importsNone p=D):aH (im a b w h):=
 ⟨W,
  Q,
  (λt t i=>Ky i),
  T.nolimit,
  ((T.seer V).mods.elim λa5 z=>cf z.1 λo t t z=>⟨o,z.1⟩),
  (λy u Y f=>Nx (by exact J g f)),
  H7,
  (λy u Y f=>Ys (by exact J g f)),
  (λy s u f=>ND (by exact J g f)),
  (λr u f=>Ok (by exact J g f)),
  K,
  (λj f=>by
  show∃v,gL a ((eW.j[j]?).getD "")=B v/\ao (cU a) (fv a) (b.c.b j) v
  have f:aF (b.c.b j)=I:=f;rw[g]at f⊢;have i:dD.b j=(mU[j]?).getD .f:=O (λo=>o.getD .f) (gP mU j);cases q:mU[j]? with
  |none=>rw[i,q]at f;exact ck f
  |some v=>exact C i (C q ((FG k g q).imp λH z=>⟨z.1,AW v H z.2⟩))),
  (λr n f=>Mo k g (by exact J g f)),
  (λr n E f P i=>PN (by exact J g f) (by exact J g P) i),
  (λr a4 n f=>by
  have z:=Tu k (by exact J g f)
  exact⟨z.1,λE U=>z.2 E (by exact J g U)⟩),
  (λr n f=>SZ k g (by exact J g f)),
  (λn a2 f=>(Fm k g f).elim λt z=>z.2),
  (λL v f Z a3 a1 a0 a6 G S x q=>aj f λo i f=>by
  cases o with
  |some H=>exact loadGlobal_global (C G (T.g.keeps x)) (mg_of K T.g i) (by exact C (R f) q)
  |none=>
   cases s:L=="__name__" with
   |true=>rw[s]at f;exact X f
   |false=>rw[s]at f;exact loadGlobal_builtin (C G (T.g.keeps x)) (mg_none_of K T.g i) (C S (T.b.keeps x)) ((T.builtins L (beq_eq_false_iff_ne.mp s)).trans f) q)⟩
end
theorem Kr{v}(h:zM v n=D):v=.type n:=by cases v with|type m=>exact O _ (beq_iff_eq.mp h)|_=>exact az h
theorem IS{v}{k}(h:Bl d=B (v,k)):d=.seq v k:=by cases d with|seq=>exact C (aW h) (bo h▸A)|_=>exact X h
theorem Oc{e}{k}(h:vb d=B (e,k)):d=.dict e k:=by cases d with|dict=>exact C (aW h) (bo h▸A)|_=>exact X h
theorem DT{o}(h:yM o n=D)(e:o.data=d):o={cls:=.type n,data:=d}:=by obtain⟨c,a,x,s⟩:=o;exact V h λb h=>V h λf g=>C (show c=_ from Kr b) (C (show a=N from ks.mp f) (C (show s=#[] from L5.mp g) (C (show x=d from e) A)))
def vW(w:World)(a:gZ)(v:E):Int:=dc 0 (hN w) (cp a v)
theorem QJ(w)(K):kN w=(cZ.take 5).map λo=>Y (dy o) λp=>B (p.1.map λe=>vW w (cU K) e.1):=by kernel_rfl
theorem Vr{c:bg a}:∀{e}{d},Ix c.e g e d=D->d.map (·.hash)=e.map (λb=>vW c.b c.e b.1)->(∀b∈e,(cp c.e b.1).isSome=D)->cm c g e d:=λ{e}=>by
 induction e with
 |nil=>exactλh q q=>ej.mp h
 |cons b e n=>
  intro d h m i;cases d with
  |nil=>exact az h
  |cons s r=>
   refine V h λj h=>V h λk l=>(C'.mp (i b bn)).elim λo f=>?_
   have z:=kq m;exact(mm _ _ _ o r (jx A f (z.1.trans (show vW c.b c.e b.1=_ by unfold vW;exact C f A)) (AW _ _ j) (AW _ _ k) (n l z.2 λx p=>i x (bT _ p))))
theorem wv{e:List (E×E)}{l:List Nat}(b:e.map (·.1)=l.map E.e){a}(h:a∈e):∃k,a.1=.e k:=(hr.mp (J b (un h))).imp λc z=>z.2.symm
theorem RK{K}{l:List Nat}(a:e.map (·.1)=l.map E.e)(g:l.Nodup):fm (cU K) e:=
 ⟨(λb h c f=>(wv a h).elim λk x=>(wv a f).elim λj y=>by exact C x (C y A)),
  (λb h=>(wv a h).elim λk x=>by exact C x ⟨A,ur 1⟩),
  (by
  have q:=by have:=O (List.map (cp (cU K))) a;rw[um,um]at this;exact this
  exact C q (Y3 _ (λb c d a=>d (Ky (Da (R a)))) g))⟩
theorem RJ(K):∀{i}{e}{c},Z cZ i=B (.b e c)->i<5/\fm (cU K) e/\e.length<=ef/\(∀a∈e,(cp (cU K) a.1).isSome=D):=λ{i e c} h=>by
 have s:∀{e}{l:List Nat},e.map (·.1)=l.map _->l.Nodup->l.length<=100->fm (cU K) e/\e.length<=ef/\(∀a∈e,(cp (cU K) a.1).isSome=D):=λ{e l} a j k=>(aK (RK a j) (by
  have:=O CQ a;rw[ea,ea]at this
  exact C this (aV k (by decide))) (λn g=>(wv a g).elim λp x=>by exact C x A))
 have b:∀{d f},B (bq.b d f)=B (.b e c)->d=e:=λa=>aW (O (λo=>Y o dy) a)
 match i,h with
 |0,h=>exact⟨by decide,J (b h) (s (l:=[5,33,34,35,36,37,38]) A (by decide) (by decide))⟩
 |1,h=>exact⟨by decide,J (b h) (s (l:=[5,39,33,40,41,42,43,34,35,36,44,45,46,47,48,37,38,49,50,14,15,16,17,4,3]) A (by decide) (by decide))⟩
 |2,h=>exact⟨by decide,J (b h) (s (l:=[8,9,10]) A (by decide) (by decide))⟩
 |3,h=>exact⟨by decide,J (b h) (s (l:=[7,6]) A (by decide) (by decide))⟩
 |4,h=>
  exact J (b h) (da (by decide) ⟨by decide,by decide,by
   show([B (ut [.int 1,.int 1]),B (ut [.int 1,.int 0]),B (ut [.int 2,.int 1]),B (ut [.int 2,.int 0])]:List (Option PyData)).Nodup
   simp⟩ (by decide) (λa m=>by
   have q:[E.d [G 1,.c D],.d [G 1,.c I],.d [G 2,.c D],.d [G 2,.c I]].all (λv=>(cp (cU K) v).isSome)=D:=A
   exact bu.mp q _ (un (f:=(·.1)) m)))
 |5,h=>exact X (O (λo=>Y o dy) h)
 |6,h=>exact X (O (λo=>Y o dy) h)
 |7,h=>exact X (O (λo=>Y o dy) h)
 |8,h=>exact X (O (λo=>Y o dy) h)
 |9,h=>exact X (O (λo=>Y o dy) h)
 |_+10,h=>exact X h
theorem Sp:∀{i}{l},Z cZ i=B (.a l)->l.length<=ef:=λ{i l} h=>by have q:cZ.all (λo=>match o with|.a l=>cV l.length 100|_=>D)=D:=A;exact aV (bH (bu.mp q _ (fE ((gP _ _).symm.trans h)))) (by decide)
section
variable{e:Type}{b:eT e}{w:World}{c h:Heap}{a:Frag}(k:pE a)(d:sO a=kN w)
theorem od{n}(j:(fv a).a n f=B g):∃i,i<10/\n=.d i/\f=I/\oc[i]?=B g:=by
 cases n with
 |c=>exact X j
 |d i=>cases f with|true=>exact X j|false=>exact(fQ i (mT j) A A j)
include k d
theorem Uc(K:a.In h){s}(q:Z cZ i=B s):ec (im a b w c) (fv a) h (.d i) s:=by
 have r:=(gP _ _).symm.trans q;have x:i<10:=mT r;refine(mI x).elim λv n=>ik (nN k.11 n r) λF j o=>.inr (an v N n A ?_)
 cases s with
 |a u=>exact V o λl m=>ik m λp f t=>⟨A,(an p.1 p.2 ((K _ _ j).trans (O B (DT l (IS f)))) (Vs _ _ t) (Sp q))⟩
 |b H G=>
  refine V o λl m=>ik m λp f t=>V t λC E=>?_
  have g:=RJ a q;refine⟨A,(fQ p.1 ((K _ _ j).trans (O B (cb.mp E▸DT l (Oc f)))) (Vr C ?_ g.2.2.2) g.2.1 g.2.2.1)⟩;have y:=g.1;have z:=O (λu=>u[i]?) (d.trans (QJ w a));simp only[sO,jA,CO,y,if_true,n,r,Option.map_some]at z;have z:=R z;rw[j]at z;have z:Y (vb _) _=_:=z;rw[f]at z;exact R z
 |_=>exact az o
theorem HG(K:a.In h)(n):ec (im a b w c) (fv a) h n (fA n):=by
 cases n with
 |c j=>exact .inl ⟨A,λz=>A⟩
 |d i=>
  show ec _ _ _ _ ((Z cZ i).getD _)
  cases q:Z cZ i with
  |some o=>exact Uc k d K q
  |none=>exact .inl ⟨A,λf=>by
    cases f with
    |true=>rfl
    |false=>
     have:=(gP cZ i).symm.trans q
     exact CN.mpr (show 10<=i from CN.mp this)⟩
omit k d in
theorem xs(K:a.In h){g}{v}(f:mb a g=B v):h.IsTuple g v.toArray:=aj f λo i f=>aY f λj f=>aj f λp l f=>(bi o (K _ _ i) (Kr j) ⟨p.2,(C (IS l) (J (R f) A))⟩)
omit d in
theorem wV(q:a.In c):yj (im a b w c) (fv a):=
 ⟨(λn l r o j f p g=>(od f).elim λm z=>by rw[z.2.1]at g;exact ak (bH g) (rI (ap [_] (.a 1 (.c (.a 0) (.b 1)) (.b 10) .b) (.c (.a 0) (.b 1)) (.b 16) A (z.1)))),
  (λn l j f g=>(od f).elim λm z=>by rw[z.2.1]at g;exact ak (bH g) (rI (ap [_] (.a 1 (.c (.a 0) (.b 1)) (.b 10) .b) (.c (.a 0) (.b 1)) (.b 16) A (z.1)))),
  (λn l f=>(od f).elim λm z=>ak (fE z.2.2.2) (by decide)),
  (λn l j f=>(od f).elim λm z=>ks.mp (bu.mp k.12 j (fE z.2.2.2))),
  (λi i i f=>f),
  (λi i f=>f)⟩
theorem Vp(l:∀n,b.a f.b n=fA n)(K:a.In c)(j:∀g o,c.get? g=B o->h.get? g=B o):ay (im a b w c) (fv a) f h:=
 ⟨wV k K,
  (λn=>by
  show ec _ _ _ _ (b.a f.b n)
  rw[l]
  exact HG k d (λg o i=>j _ _ (K g o i)) n),
  (λg v i=>xs (λg o i=>j _ _ (K g o i)) i),
  j⟩
theorem Xb(q:aH (im a b w c))(F:b.c=dD)(Q:∀n,b.a i.b n=fA n){n p}{x}(P:ah b n p x i=B (.c D,j)){s}(U:dM f (2*n))(L:aE (cU a) (fv a) x u)
  (G:∀l o,c.get? l=B o->s.heap.get? l=B o) (T:∀r v,(∀l o,s.heap.get? l=B o->r.get? l=B o)->g (.ok (.ret (.bool D))) {s with heap:=r,toks:=v}):
  codeAny (model rK.row.prog w) f (.call (.ref ((cU a).k p)) ⟨u,[]⟩) g s:=
 Nu q (JU k F) (λp X h=>(Fm k F h).imp λH z=>z.1) n p f g s _ i x u _ j U (Vp k d Q q.11 G) L P λY r v a1 H S J V=>V▸T r v λl o y=>by
  by_cases t:∃n m,(fv a).a n m=B l
  ·refine aq t λn m t=>(od t).elim λZ z=>?_
   refine(mI z.1).elim λa0 K=>ik (nN k.11 z.2.2.2 K) λW C H=>?_
   have E:=G _ _ (q.11 _ _ C);rw[y]at E;exact(J.4 _ _ (q.11 _ _ C)).trans E.symm
  ·exact S l o y λn m z=>t (dQ n m z)
end
end
noncomputable def zL(x:av ly E):Bool:=match x with
 |some (.c b,_)=>b
 |_=>I
theorem Rt{x:av ly E}(h:zL x=D):∃s,x=B (.c D,s):=by
 unfold zL at h;split at h
 ·subst h;exact⟨_,A⟩
 ·cases h
structure Dh where
 a:bM
 f:Int
 e:Int
 b:List (Int×Nat)
noncomputable def pV(c:Nat):Dh:=match c with
 |0=>⟨.a 0,0,24,[(0,5)]⟩
 |1=>⟨.b 6 0,2,16,[(2,33),(7,34),(8,35),(9,36),(15,37),(16,38)]⟩
 |2=>⟨.b 6 0,1,14,[(1,39),(3,40),(4,41),(5,42),(6,43),(10,44),(11,45),(12,46),(13,47),(14,48)]⟩
 |3=>⟨.b 6 0,17,22,[(17,49),(18,50),(19,14),(20,15),(21,16),(22,17)]⟩
 |4=>⟨.a 23,0,24,[(23,4)]⟩
 |_=>⟨.a 24,0,24,[(24,3)]⟩
noncomputable def HY(c:Dh)(b:bM)(t w:Int):cl:=⟨λk=>bif ar k 1000 then[k]else c.b.map (·.2),λk=>match k with|6=>c.f|_=>0,λk=>match k with|4=>4|6=>c.e|_=>2147483646,λz z=>.none,
 [(1,.b 0 0,.a 25,c.a),(0,.b 0 0,.a 25,.b 2 0),(1,.b 2 0,.a 2,b),(1,.b 1 0,.a 2,.a t),(0,.b 1 0,.a 2,.b 3 0),(1,.b 3 0,.a 5,.b 4 0),(0,.b 1 0,.a 16,.b 5 0),(1,.b 5 0,.a 4,.a w),(1,.b 4 3,.a 4294967296,.b 4 3)],[(6,1000,c.b)]⟩
noncomputable def Uy(a:Int)(j:bM):cl:=⟨λk=>bif ar k 1000 then[k]else[0],λk=>match k with|3=>1|_=>0,λk=>match k with|3=>2|4=>999|_=>2147483646,λz z=>.none,
 [(1,.b 0 0,.a 5,.a a),(0,.b 0 0,.a 5,.b 2 0),(1,.b 2 0,.a 3,j),(1,.b 1 0,.a 1000,.b 4 0)],[]⟩
noncomputable def Ux(j:Int)(z:bM):cl:=⟨λk=>bif ar k 1000 then[k]else[0],λk=>match k with|2=>1|_=>0,λk=>match k with|2=>4999|_=>2147483646,λa a=>.none,
 [(1,.b 0 0,.a 2,.a j),(1,.b 1 0,.a 5000,z)],[]⟩
def w'(F:cl)(f:Nat):Bool:=zL (ah (Kp F) 12 f [.a (.b 0 0),.a (.b 1 0)] Jt)
noncomputable def Cw(k j:Nat):bM:=bf (.a 0) (λz z=>.b k 0) j
noncomputable def KL(b:Nat):bM:=bf (.a 0) (λb z=>bf (.a 1) (λz z=>.b 7 0) b) b
def IG(c b t w:Nat):Bool:=w' (HY (pV c) (KL b) t w) 52
def It(k j:Nat):Bool:=w' (Uy k (Cw 3 j)) 53
def Vk(j z:Nat):Bool:=w' (Ux j (Cw 2 z)) 54
noncomputable def uV(c:Nat):List Nat:=bif ar c 3 then[0,1]else[2]
theorem Mv{p:Nat->Nat->Bool}(h:p 0 0=D)(a:p 0 1=D)(b:p 1 0=D)(d:p 1 1=D)(e:p 2 0=D)(f:p 2 1=D)(g:p 3 2=D)(i:p 4 2=D)(j:p 5 2=D):((bv 6).all λc=>(uV c).all (p c))=D:=
 show((p 0 0&&(p 0 1&&D))&&((p 1 0&&(p 1 1&&D))&&((p 2 0&&(p 2 1&&D))&&((p 3 2&&D)&&((p 4 2&&D)&&((p 5 2&&D)&&D))))))=D by rw[h,a,b,d,e,f,g,i,j];rfl
theorem Mu{p:Nat->Bool}(h:p 0=D)(a:p 1=D)(b:p 2=D)(c:p 3=D)(d:p 4=D):(bv 5).all p=D:=
 show(p 0&&(p 1&&(p 2&&(p 3&&(p 4&&D)))))=D by rw[h,a,b,c,d];rfl
def tH(k:Nat):=[0,1].all λj=>It k j
theorem Vc:tH 0=D:=by decide+kernel
theorem Vd:tH 1=D:=by decide+kernel
theorem Ve:tH 2=D:=by decide+kernel
theorem Vf:tH 3=D:=by decide+kernel
theorem Vg:tH 4=D:=by decide+kernel
theorem Vh:((bv 5).all λk=>[0,1].all λj=>It k j)=D:=Mu Vc Vd Ve Vf Vg
theorem Vb:([0,1].all λk=>[0,1].all λj=>Vk k j)=D:=by decide+kernel
def lW(c b:Nat):=[0,1].all λt=>(bv 4).all λw=>IG c b t w
theorem UT:lW 0 0=D:=by decide+kernel
theorem UU:lW 0 1=D:=by decide+kernel
theorem UV:lW 1 0=D:=by decide+kernel
theorem UW:lW 1 1=D:=by decide+kernel
theorem UX:lW 2 0=D:=by decide+kernel
theorem UY:lW 2 1=D:=by decide+kernel
theorem UZ:lW 3 2=D:=by decide+kernel
theorem U':lW 4 2=D:=by decide+kernel
theorem Va:lW 5 2=D:=by decide+kernel
theorem Vi:((bv 6).all λc=>(uV c).all λb=>[0,1].all λt=>(bv 4).all λw=>IG c b t w)=D:=Mv UT UU UV UW UX UY UZ U' Va
def BC(F:cl)(z:Nat->Int)(w:Nat->Nat):dk ly U:=⟨Kp F,aZ,100000,rm z w,fA⟩
theorem JP(p:cM (rm z w) a):go (BC a z w):=⟨p,AH p.1,λb b e=>e,λb=>A,λn=>⟨n,A⟩,λb=>A,bd _⟩
theorem Xk:∀l k t j,k+l.length<4000->k+l.length<=j->(tO l k t).a j=t.a j:=λl=>by
 induction l with|nil=>exactλz z z z z=>A|cons o l i=>intro k t j a h;exact(i (k+1) _ j (ap [_,_] (.a 1 (.c (.c (.a 0) (.c (.a 1) (.b 1))) (.b 1)) (.b 4000) .b) (.c (.c (.c (.a 0) (.b 1)) (.a 1)) (.b 1)) (.b 4000) A a) (ap [_,_,_] (.a 1 (.c (.a 0) (.c (.a 1) (.b 1))) (.a 2) .b) (.c (.c (.a 0) (.b 1)) (.a 1)) (.a 2) A h)).trans (C (bj.k 12 _ _ _ _ (by omega)) (C (if_neg (cC (ap [_,_,_] (.a 1 (.c (.a 0) (.c (.a 1) (.b 1))) (.a 2) .b) (.c (.a 0) (.b 1)) (.a 2) A h))) A))
theorem YJ(i):(tO cZ 0 .c).a i=(Z cZ i).getD .f:=by
 match i with|0=>rfl|1=>rfl|2=>rfl|3=>rfl|4=>rfl|5=>rfl|6=>rfl|7=>rfl|8=>rfl|9=>rfl|n+10=>exact Xk cZ 0 .c _ (by decide) (Lx 10 n)
theorem Vv(o:go (BC a z w)):bD (BC a z w) Jt ⟨fA,0⟩:=
 ⟨(λb=>by
  cases b with
  |c n=>exact⟨A,A⟩
  |d i=>
   show bR _ 0 _ ((tO cZ 0 .c).a i) ((Z cZ i).getD _)
   rw[YJ];cases q:Z cZ i with
   |none=>exact⟨A,A⟩
   |some d=>exact Kk o A q),
  (λj=>by rfl),
  (λ_=>A),
  bd _,
  (λc h=>ak A (h c))⟩
def pN(f)(i:List Int):=∃s,ah (H F) 12 f (i.map G) ⟨fA,0⟩=B (.c D,s)
theorem Be{z}(p:cM (rm z w) a)(h:w' a f=D):pN f [z 0,z 1]:=(Rt h).elim λs e=>(jR (JP p) 12 f _ _ _ (Vv (JP p)) _ _ e).elim λt b=>⟨t,by
 exact C e b.1⟩
theorem vr(b:0<n)(h:0<=a/\a<=2147483646):0<=fD a n/\fD a n<=2147483646:=by exact C (Int.fdiv_eq_ediv_of_nonneg a (La b)) ⟨Int.ediv_nonneg h.1 (La b),dj (Int.ediv_le_self n h.1) h.2⟩
theorem Af(a)(h:0<n)(b:n<=m+1):0<=cs a n/\cs a n<=m:=⟨(mO a n h).1,aG [_,_,_] (.a 1 (.a 0) (.c (.a 1) (.b 1)) (.a 1 (.c (.a 2) (.b 1)) (.a 0) .b)) (.a 2) (.a 1) A b ((mO a n h).2)⟩
theorem Jl(a:0<n)(h:2<=n):1<=(bif cs x n==0 then 1 else cs x n)/\(bif cs x n==0 then 1 else cs x n)<=n-1:=by have w:=mO x n a;cases e:cs x n==0 with|true=>exact⟨(by decide:(1:Int)<=1),by exact aG [_] (.a 1 (.b 2) (.a 0) .b) (.b 1) (.d (.a 0) (.b 1)) A h⟩|false=>have:=beq_eq_false_iff_ne.mp e;exact⟨by show 1<=cs x n;omega,by exact aG [_,_] (.a 1 (.c (.a 0) (.b 1)) (.a 1) .b) (.a 0) (.d (.a 1) (.b 1)) A w.2⟩
theorem ER{r:eX}(h:r.c k=bif x==0 then 1 else x):∃j∈[0,1],x=r.a (Cw k j):=by cases e:x==0 with|true=>exact(ag 0 (by decide) (beq_iff_eq.mp e))|false=>rw[e]at h;exact(ag 1 (by decide) h.symm)
noncomputable def K2(a b)
 |0=>a
 |1=>b
 |2=>fD a 5
 |3=>bif cs (fD a 5) 3==0 then 1 else cs (fD a 5) 3
 |4=>cs b 1000
 |_=>0
noncomputable def KM(a b)
 |0=>a
 |1=>b
 |2=>bif cs b 5000==0 then 1 else cs b 5000
 |_=>0
noncomputable def KN(a b)
 |0=>a
 |1=>b
 |2=>fD a 25
 |3=>fD b 2
 |4=>cs (fD b 2) 5
 |5=>fD b 16
 |6=>cs a 25
 |7=>cs (fD a 25) 2
 |_=>0
noncomputable def kH(p):=([(0,0,5),(2,1,33),(7,1,34),(8,1,35),(9,1,36),(15,1,37),(16,1,38),(1,2,39),(3,2,40),(4,2,41),(5,2,42),(6,2,43),(10,2,44),(11,2,45),(12,2,46),(13,2,47),(14,2,48),(17,3,49),(18,3,50),(19,3,14),(20,3,15),(21,3,16),(22,3,17),(23,4,4),(24,5,3)].lookup p).getD (0,0)
noncomputable def Uz(p:Nat)(z:bM):=match z with
 |.a i=>i==p
 |.b k c=>M k 6&&c==0
theorem NJ:((bv 25).all λp=>ar (kH p).1 6&&(decide ((pV (kH p).1).f<=p)&&(decide (p<=(pV (kH p).1).e)&&((pV (kH p).1).b.contains (p,(kH p).2)&&(ar (kH p).2 1000&&Uz p (pV (kH p).1).a)))))=D:=A
section
variable{a b:Int}(h:0<=a/\a<=2147483646)(c:0<=b/\b<=2147483646)
include h c
theorem VS:pN 53 [a,b]:=(oq a 5 (by decide)).elim λk e=>(ER A).elim λj d=>Be (z:=K2 a b) (wS (BZ 0) (λk=>BY bn) (λk=>by
  match k with
  |0=>exact h
  |1=>exact c
  |2=>exact vr (by decide) h
  |3=>exact Jl (by decide) (by decide)
  |4=>exact Af b (m:=999) (by decide) (by decide)
  |k+5=>exact⟨bt _,(by decide:(0:Int)<=2147483646)⟩) (λz z z f=>X f)
  (T (ge (by decide) e.2) (T (ve (by decide) A) (T (ge (by decide) d.2) (T (ge (by decide) A) ae)))) ae)
 (bu.mp (bu.mp Vh k (pt.mpr e.1)) j d.1)
theorem VR:pN 54 [a,b]:=(oq a 2 (by decide)).elim λk e=>(ER (r:=rm (KM a b) _) (k:=2) A).elim λj d=>Be (z:=KM a b) (wS (BZ 0) (λk=>BY bn) (λk=>by
  match k with
  |0=>exact h
  |1=>exact c
  |2=>exact Jl (by decide) (by decide)
  |k+3=>exact⟨bt _,(by decide:(0:Int)<=2147483646)⟩) (λz z z f=>X f)
  (T (ge (by decide) e.2) (T (ge (by decide) d.2) ae)) ae)
 (bu.mp (bu.mp Vb k (mc e.1)) j d.1)
theorem VT:pN 52 [a,b]:=(oq a 25 (by decide)).elim λp f=>(oq b 2 (by decide)).elim λv o=>(oq (fD b 16) 4 (by decide)).elim λw r=>by
 have q:=bu.mp NJ p (pt.mpr f.1);refine V q λj q=>V q λs q=>V q λt q=>V q λe q=>V q λu g=>?_
 have j:(kH p).1<6:=bH j;have e:=O6.mp e;generalize(kH p).1=i at j s t e g;generalize(kH p).2=x at e u;have H:∃l∈uV i,cs (fD a 25) 2=(rm (KN a b) (xA x)).a (KL l):=by
  unfold uV;cases ar i 3 with
  |true=>
    refine(oq (fD a 25) 2 (by decide)).elim λn d=>?_
    match n,d with|0,d=>exact(ag 0 (by decide) d.2)|1,d=>exact(ag 1 (by decide) d.2)|n+2,d=>exact ak d.1 (hu.mpr (Lx 2 n))
  |false=>exact(ag 2 (by decide) A)
 refine H.elim λl m=>Be (a:=HY _ _ v w) (z:=KN a b) (wS (BZ x) (λk=>BY (hr.mpr (ag _ e A))) (λk=>?_) (λy y y G=>X G) ?_ ?_)
  (bu.mp (bu.mp (bu.mp (bu.mp Vi i (pt.mpr j)) l m.1) v (mc o.1)) w (pt.mpr r.1))
 ·match k with|0=>exact h|1=>exact c|2=>exact vr (by decide) h|3=>exact vr (by decide) c|4=>exact Af _ (m:=4) (by decide) (by decide)|5=>exact vr (by decide) c|6=>exact⟨dj (of_decide_eq_true s) (xU f.2.symm),dj (xU f.2) (of_decide_eq_true t)⟩|7=>exact⟨(mO _ 2 (by decide)).1,by have:=(mO (fD a 25) 2 (by decide)).2;exact aG [_] (.a 1 (.c (.a 0) (.b 1)) (.b 2) .b) (.a 0) (.b _) A this⟩|k+8=>exact⟨bt _,(by decide:(0:Int)<=2147483646)⟩
 ·refine T (ge (by decide) (by
   cases z:(pV i).a with
   |a K=>rw[z]at g;exact f.2.trans (beq_iff_eq.mp g).symm
   |b k J=>
    rw[z]at g;exact V g λE F=>by
     exact C (bW E) (C (beq_iff_eq.mp F) A))) (T (ve (by decide) A) (T (ge (by decide) m.2) (T (ge (by decide) o.2) (T (ve (by decide) A) (T (ge (by decide) A) (T (ve (by decide) A) (T (ge (by decide) r.2) (T (wr (by decide) ?_) ae))))))))
  have w:=Af (fD b 2) (n:=5) (m:=4) (by decide) (by decide);exact K' (aG [_] (.a 1 (.b 0) (.a 0) .b) (.b 0) (.c (.a 0) (.b 3)) A w.1) (aG [_] (.a 1 (.a 0) (.b 4) .b) (.c (.c (.a 0) (.b 3)) (.b 1)) (.b _) A w.2)
 ·exact T (fQ _ e f.2 (by rfl) (bH u)) ae
end
section
open PySem PySem.W PySem.Calls PyProof.Rows
theorem H4{h}{b}(x:Well a h (.ref b) d)(e:d=.list y):∃v k,h.get? b=B (et v k):=by
 cases x<;>first|(cases e;done)|skip
 rename_i h;exact(dQ _ _ h)
theorem zU{l:List Int}(h:l.length=n+1):∃a r,l=a::r/\r.length=n:=by cases l with|nil=>exact ak h.symm (ur n)|cons a r=>exact dE a r A (nS h)
theorem Gz{l:List Int}(h:l.length=2):∃a b,l=[a,b]:=mf (zU h) λa r e h=>mf (zU h) λb t c h=>dQ a b (e.trans (O _ (c.trans (O _ (CR.mp h)))))
theorem Si{l:List Int}(h:l.length=3):∃a b c,l=[a,b,c]:=mf (zU h) λa r e h=>aq (Gz h) λb c d=>nJ a b c (e.trans (O _ d))
def uv:=∀a b c,(0<=a/\a<=2147483646)->(0<=b/\b<=2147483646)->(0<=c/\c<=2147483646)->pN 50 [a,b,c]
theorem Rb(h:sU F v=D):∃i,(0<=i/\i<=2147483646)/\∀a g e u,ao a g v u->ao a e (G i) u:=by
 cases v with
 |a z=>cases z with|a i=>exact(ag i (V h λb c=>⟨of_decide_eq_true b,of_decide_eq_true c⟩) (λa g e u r=>r))|b k d=>exact(ag d (V h λb c=>⟨J (nQ d) (of_decide_eq_true b),J (nQ d) (of_decide_eq_true c)⟩) (λa g e u r=>r))
 |_=>exact az h
theorem Rl:∀{v},(∀e∈v,sU F e=D)->∃i:List Int,i.length=v.length/\(∀c∈i,0<=c/\c<=2147483646)/\∀a g b d,aE a g v d->aE a b (i.map G) d:=λ{v}=>by
 induction v with|nil=>exactλz=>(bi [] A (λz m=>ak m cI) (λz z z z h=>h))|cons e v l=>exactλh=>(Rb (h e bn)).elim λc j=>(l λu m=>h u (bT _ m)).elim λi f=>(bi _ (O _ f.1) (λn m=>(cB.mp m).elim (λk=>C k j.1) (f.2.1 n)) (λa g b d r=>c' r λu o r=>(aK r.1 (j.2 a g b u r.2.1) (f.2.2 a g b o r.2.2))))
theorem Rm:∀{v}{i},IntsAre v i->aE a g (i.map G) v:=λ{v i} h=>by
 induction h with|nil=>rfl|cons n t h b=>exact(an _ _ A ⟨t,A⟩ b)
def vx(K:Frag)(a:Addr):aM where
 a:=λn b=>bif af.e n (.d 10)then(bif b then N else B a)else(fv K).a n b
 e:=mb K
theorem sK{K}{n}{b}(e:(vx K a).a n b=B x):(n=.d 10/\b=I/\x=a)∨(af.e n (.d 10)=I/\(fv K).a n b=B x):=by
 have e:(bif af.e n _ then(bif b then N else B a)else(fv K).a n b)=B x:=e;cases q:af.e n _ with
 |true=>rw[q]at e;cases b with|true=>exact X e|false=>exact .inl (aK (af.b.mp q) A ((R e).symm))
 |false=>rw[q]at e;exact .inr ⟨A,e⟩
theorem Fz{K}{n}(e:(fv K).a n b=B x):(vx K a).a n b=B x:=by
 show(bif af.e n _ then(bif b then N else B a)else(fv K).a n b)=B x
 cases q:af.e n _ with
 |true=>rw[af.b.mp q]at e;cases b with|true=>exact X e|false=>exact X e
 |false=>exact e
section
variable{w:World}{h d:Heap}{a:Frag}(k:pE a)(c:sO a=kN w)(b:a.In h)
include k c b
theorem Un(K:uv)(P:aH (im a (H F) w h)):n' (im a (H F) w h) 24 (tC F):=λg G T a2 L a6 y a4 a5 a7 a0 t p o Y=>aY o λl o=>V l λl j=>by
 have a1:∀{x},pN g x->aE _ _ _ a4->codeAny (model (im a (H F) w h).c w) G _ T a2:=λZ p=>Z.elim λa8 W=>Xb k c P A (λE=>A) W a0 p t.4 λQ a3 q=>Y L Q a3 _ (λE=>.c q) (λi X f E=>q i X f) (J (bo o) (t.c q)) (J (aW o) A)
 have l:=bu.mp l;have u:(g=50/\y.length=3)∨((g=52∨g=53∨g=54)/\y.length=2):=by have j:(bif M g 50 then M _ 3 else(M g 52||M g 53||M g 54)&&M _ 2)=D:=j;cases f:M g 50 with|true=>rw[f]at j;exact .inl ⟨cb.mp f,cb.mp j⟩|false=>rw[f]at j;exact .inr (V j λS U=>⟨(gi.mp S).elim (λe=>(gi.mp e).elim (λe=>.inl (cb.mp e)) λe=>.inr (.inl (cb.mp e))) λe=>.inr (.inr (cb.mp e)),cb.mp U⟩)
 refine(Rl l).elim λx z=>?_
 rw[←z.1]at u;exact a1 (by
  have m:=z.2.1;exact u.elim (λe=>cf (Si e.2) λi n v f=>C e.1 (f▸K i n v (m i (f▸bn)) (m n (f▸bT _ bn)) (m v (f▸bT _ (bT _ bn)))))
   λe=>aq (Gz e.2) λi n f=>
    have r:=m i (C f bn);have s:=m n (C f (bT _ bn))
    C f (e.1.elim (λe=>e▸VT r s) λe=>e.elim (λe=>e▸VS r s) λe=>e▸VR r s)) (z.2.2 _ _ _ _ p)
omit c in
theorem RX{v}(m:h.get? f=B (et v e))(o:f≠sysModules):yj (im a (H F) w h) (vx a f):=
 ⟨(λn i t p x e r g=>(sK e).elim (λz=>by rw[z.1]at g;exact ck g.symm) λz=>(od z.2).elim λs y=>by
  rw[y.2.1]at g
  exact ak (bH g) (rI (ap [_] (.a 1 (.c (.a 0) (.b 1)) (.b 10) .b) (.c (.a 0) (.b 1)) (.b 16) A (y.1)))),
  (λn i x e g=>(sK e).elim (λz=>by rw[z.1]at g;exact ck g.symm) λz=>(wV k b).2 n i x z.2 g),
  (λn i e=>(sK e).elim (λz=>o z.2.2.symm) λz=>(wV (b:=H F) (w:=w) k b).3 n i z.2),
  (λn i x e=>(sK e).elim (λz=>by
  show mb a x=N
  cases q:mb a x with
  |none=>rfl
  |some E=>
   refine(xs b q).elim λu y=>?_
   have:=y.1.symm.trans (C z.2.2 m);have l:=y.2.1;rw[R this]at l
   exact ak (aab l) (by decide)) λz=>(wV (b:=H F) (w:=w) k b).4 n i x z.2),
  (λj j j e=>Fz e),
  (λj j e=>e)⟩
theorem Vo{v}(l:h.get? f=B (et v.toArray e))(r:f≠sysModules)(m:IntsAre v i)(p:i.length<=63)(j:∀g o,h.get? g=B o->d.get? g=B o):
  ay (im a (H F) w h) (vx a f) ⟨mV i,0⟩ d:=
 ⟨RX k b l r,
  (λn=>by
  show ec _ _ _ _ (bif af.e n _ then .a _ else fA n)
  cases q:af.e n _ with
  |true=>exact C (af.b.mp q) (.inr (dR f N A A A (an v.toArray e (j _ _ l) (Rm m) (by rw[ea];exact aV p (by decide)))))
  |false=>
   refine(HG k c (λf o e=>j _ _ (b f o e)) n).e (λz z z e=>Fz e) (λg e=>?_) λz z e=>e
   show(bif af.e n _ then(bif g then N else B f)else(fv a).a n g)=N
   exact C q e),
  (λx v e=>xs (λf o e=>j _ _ (b f o e)) e),
  j⟩
end
def RV:=vf 0 ((Aq[55]?.getD []).map ih)
def tg(s:Scope):cK:=⟨s.names,RV,I⟩
def RW(s:Scope):=(tg s).e&&(s.names.all (λp=>!(p.2==.cell)&&!(p.2==.free))&&(tg s).b (ih "script")==B .local)
theorem RY:(tg s).a 0=B (ih "script"):=A
theorem TV(i)(e:Z [E.f,.f,.f,.f,.f,.f,.f] i=B x):x=.f:=Hw 7 i x e
theorem Sa{E}{i a5}(Y:sc E i)(b3:uv)(T:Top p l g h e i)(S:importsNone p=D){a7}{W}{a2}
  (b8:Well E.params i (.ref a) a2) (c0:a2=.list y) (b7:i.IsList a a7.toArray) (b6:IntsAre a7 W) (c2:W.length<=63) (G:Fr i i.objs.size a5 m) (c3:m (ih "script")=B (.ref a)) {k}
  (c1:k.kind=.function) (U:RW k=D) (b9:uY eW sG.a (tg k) b=D) {a9} (c5:s.heap=a5) (d3:∀u Z a1,Fr i i.objs.size u Z->d (.ret (.bool D)) {s with heap:=u,toks:=a1}):
  wpAny (model rK.row.prog E) (callerA.deeper (envOf n k i.objs.size f c)) (execs b (envOf n k i.objs.size f c)) d a9 s:=Y.elim λL Y=>by
 subst c5;have o:=Y.1;have K:=Y.2.2;refine aq (H4 b8 c0) λd4 r v=>?_
 have c6:=b7.elim λa0 z=>z.2.2.elim λc9 j=>by have:=z.1.symm.trans v;rw[R this]at j;exact(Data.seq.inj j).1
 subst c6;have x:i.get? _=N:=en;refine V U λd1 U=>V U λa6 d2=>aq (R' W) λe2 e6 c7=>?_
 have d0:∀j,(tg k).h j=D->False:=λj q=>(gi.mp q).elim
  (λq=>V (bu.mp a6 _ (hP (beq_iff_eq.mp q))) λQ a8=>ck ((beq_iff_eq.mpr A).symm.trans (cq Q)))
  λq=>V (bu.mp a6 _ (hP (beq_iff_eq.mp q))) λa8 Q=>ck ((beq_iff_eq.mpr A).symm.trans (cq Q))
 have a4:cF (im L (H F) E i) (envOf n k i.objs.size f c) _:=⟨c1,A,A,A,d1,λj c8=>(d0 j c8).elim,az⟩
 exact EA ⟨(FA o A A (bd _) K T S),(⟨A,by show 1+claimMargin+1+10*25+20<recursionLimit;decide,by show 4+3+100*25+200<cLine;decide⟩),Un o Y.2.1 K b3 (FA o A A (bd _) K T S),JU o A⟩ _ _ b b9 _ a4 _ _ _ _ _ _ _ _ _ (Vo o Y.2.1 K v (λb4=>(T.seer S).mods.elim λe3 z=>cf z.1 λa0 d9 d8 z=>by
  have:=z.1.symm.trans (J b4 v);have j:=z.2.1;rw[R this]at j
  exact Data.noConfusion j) b6 c2 G.keep) (by
  refine⟨(ag m G.ns (λw e5 j t a3 P=>?_)),λc9 d6 r=>?_,?_,x,λj p r=>X r⟩
  ·cases w with|zero=>have t:=R t;have P:=R (RY.symm.trans P);subst t P;exact .inl ⟨((cF.b a4 _).trans (beq_iff_eq.mp d2)),(ag _ c3 (ag a A A))⟩|succ w=>rw[TV w t]at a3;exact ck a3
  ·exact(sK r).elim (λz=>bZ x (z.2.2▸v)) λz=>(od z.2).elim λw z=>(mI z.1).elim λa0 c4=>ik (nN o.11 z.2.2.2 c4) λd7 b5 a8=>bZ x (K _ _ b5)
  ·show mb L i.objs.size=N
   cases z:mb L _ with
   |none=>rfl
   |some d4=>exact(xs K z).elim λa0 j=>bZ x j.1) c7 λe1 u a1 e0 d5 b1 b0 b2=>b2.elim λe4 z=>by
  exact C z.1 (C (z.2) (b0.1.elim λZ z=>d3 u Z a1 ⟨z.1,b1.4,G.above⟩))
local macro_rules | `(tactic| k_qdec) => `(tactic| kernel_rfl)
theorem ent(a:uv):IH.Holds:=by
 w_on
 refine holds_law I0 λH=>?_
 refine holds_open (q:=nz) (loose:=qz) (Xt:=yy) (XP:=XL nz []) (Yf:=xj) (Ya:=λw=>(D,kN w,ki.map B)) (YP:=sc) (N:=4000) Sf Wx Ww (λs e=>xl_of s (ho.mp e).1) XL.keeps (by rfl) (by rfl) (by rfl) (λs e=>recFacts_of (ho.mp e).2) (by rfl) (by first|assumption|decide+kernel) (by decide+kernel) ⟨rfl,rfl,rfl,rfl,rfl,by decide+kernel⟩ ?hw ?hc
 case hw=>w_witness2
 intro w J K z y G Y r C E c q p v j d b h i u n P o k f l m g
 k_behind G j d b h i k f l m g c
 refine Sa Y a (by assumption) (by decide+kernel) (by assumption) (by rfl) (by assumption) (by assumption) (by omega) (by assumption) (by rfl) (by rfl) (by with_unfolding_all rfl) (by with_unfolding_all rfl) A λt x L F=>?_
 refine goodW_bool F (by assumption) (raisesW_false ?_) ?_
 ·wrow_none_raised
 ·wrow_post
end
theorem asked_all:uv:=λc d e h a b=>Ts h.1 a.1 b.1
end Mine
end
open PySem PySem.W PyProof.Rows
theorem PySem.Challenge.cw_nm0051_01_holds : PySem.Challenge.rw_nm0051_01.Holds := by
 exact Mine.ent Mine.asked_all
