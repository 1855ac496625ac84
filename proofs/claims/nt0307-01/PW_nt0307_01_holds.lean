import PyProof.Rows.All
import Wide.All
import OpenK.AllK
import Wide.FinOn
import OpenK.ZHead
import Lean
import PySem.Challenge.RW_nt0307_01
set_option linter.all false
set_option Elab.async false
set_option genSizeOf false
set_option genCtorIdx false
set_option genInjectivity false
set_option maxRecDepth 100000
set_option maxHeartbeats 1000000
set_option tactic.hygienic false
set_option backward.match.sparseCases false
set_option bootstrap.genMatcherCode false
open Array renaming any_toList->mH,getElem?_eq_getElem->pB,getElem?_eq_none->Fd,getElem?_eq_some_iff->jI,getElem?_toList->cV,length_toList->iV,mem_def->Ur,mem_push->TV,toArray_toList->m8,toList->lH,toList_append->HS,toList_eraseIdxIfInBounds->wO,toList_push->lI
open Bool renaming and_eq_true->fg,and_eq_true_iff->nj,and_false->tP,eq_false_iff->wM,eq_iff_iff->rP,false->au,false->X,false_and->tT,false_eq_true->Mn,false_ne_true->aD,false_or->Xw,not_eq_true'->Oo,or_eq_false_iff->tR,or_eq_true->TY,or_eq_true_iff->Kf,true->aB,true->J,true_and->Xx
open Classical renaming byContradiction->yF,choose_spec->BI
open False renaming elim->kq
open Int renaming add_comm->HJ,add_le_add_right->uf,add_nonneg->Cy,add_sub_cancel->wo,eq_ofNat_of_zero_le->Ft,fdiv_eq_zero_of_lt->HD,fmod_eq_emod_of_nonneg->Cw,le_antisymm->Uw,le_of_lt->lV,le_refl->acV,le_trans->gm,lt_of_le_of_lt->gJ,lt_of_lt_of_le->f9,lt_trans->fM,max_eq_right->TX,mul_le_mul->XE,mul_nonneg->XD,natCast_add->Uq,natCast_nonneg->bj,ne_of_gt->rO,not_le->m7,not_lt->gK,ofNat_le->gM,ofNat_lt->fD,sub_le_self->Ux,sub_zero->acm,toNat_le->acg,toNat_lt->rR,toNat_natCast->gZ,toNat_of_nonneg->nZ,zero_add->aco
open Int.ofNat renaming inj->jf
open List renaming Nodup->Mi,all_eq_true->cQ,any_cons->iU,any_eq_false->lK,any_eq_true->yG,append_assoc->aJ,append_cons->OT,append_eq_append_iff->Cv,append_eq_nil_iff->jj,append_inj'->yL,append_ne_nil_of_right_ne_nil->dS,append_nil->aY,append_of_mem->pn,append_toArray->jY,casesOn->nY,concat_eq_append->HH,cons_append->cT,cons_ne_nil->fL,contains_iff_mem->HB,dropWhile_cons->uy,dropWhile_sublist->Fv,drop_eq_getElem_cons->gA,drop_eq_nil_of_le->Fw,drop_left->BK,drop_length->yH,drop_zero->oX,eq_nil_or_concat->HG,eraseIdx_eq_take_drop_succ->mj,exists_cons_of_ne_nil->BL,extract_toArray->HX,filterMap_cons_some->qc,filter_append->pg,filter_cons->jc,filter_eq_nil_iff->jk,filter_eq_self->Ko,find?->ac1,find?_append->wU,find?_cons->gu,find?_eq_none->uV,find?_some->TS,flatMap_append->uz,flatMap_cons->iN,flatten->Zo,flatten_append->eG,flatten_cons->fT,flatten_nil->OU,flatten_singleton->lP,foldl_append->Oj,foldl_cons->gv,forIn_cons->fG,forall_mem_cons->bU,getElem?_append_left->bM,getElem?_append_right->bN,getElem?_concat_length->jz,getElem?_drop->uW,getElem?_eq_getElem->bD,getElem?_eq_some_iff->aR,getElem?_map->cj,getElem?_range->nN,getElem?_replicate->qF,getElem?_set_ne->dw,getElem?_set_self->ik,getElem?_take->oW,getElem_idxOf->Mq,getLast?_concat->HW,idxOf_append->wR,idxOf_eq_length->tX,idxOf_lt_length_of_mem->n9,isEmpty_iff->jS,length_append->aj,length_cons->aX,length_drop->qH,length_eq_zero_iff->gX,length_erase_of_mem->qd,length_filter_le->fk,length_map->ay,length_nil->kr,length_pos_iff->jZ,length_pos_of_mem->Fy,length_range->cA,length_replicate->mG,length_reverse->i6,length_set->cD,length_singleton->fV,length_take->qG,length_take_le->Kl,length_zip->TZ,lookup_cons->eK,map_append->aO,map_congr_left->cL,map_cons->bK,map_eq_flatMap->Km,map_eq_nil_iff->nO,map_fst_zip->yK,map_id->p8,map_map->bw,map_nil->wN,map_reverse->gF,map_singleton->dR,map_snd_zip->yJ,map_take->XF,mem_append->aM,mem_append_left->aU,mem_append_right->aG,mem_cons->aC,mem_cons_of_mem->tU,mem_filter->jo,mem_filterMap->oY,mem_iff_getElem?->mF,mem_map->dD,mem_map_of_mem->fQ,mem_of_find?_eq_some->Cr,mem_of_getElem?->dM,mem_of_mem_head?->HA,mem_of_mem_take->tV,mem_range->cY,mem_reverse->cR,mem_singleton->ah,nil_append->jq,nodup_append->bA,nodup_cons->bX,nodup_nil->bV,not_mem_nil->ai,pairwise_cons->pe,pairwise_map->gV,pairwise_reverse->rX,prefix_append->kM,prefix_refl->bH,range'->ack,range'_succ->yI,range_succ->T9,replicate->eJ,reverse_append->Kn,reverse_cons->lJ,reverse_reverse->HY,size_toArray->gW,sum_cons->iz,take_add_one->Oh,take_left->jK,take_length->qI,take_of_length_le->Fx,take_sublist->wQ,take_zero->Uy,toArray->wL,zipIdx_cons->OM,zip_cons_cons->Mm
open List.Perm renaming refl->Kh
open List.Sublist renaming length_le->oZ,refl->Cz
open List.cons renaming inj->zh
open Nat renaming add_assoc->eE,add_comm->iy,add_le_add->gP,add_le_add_left->j5,add_le_add_right->fH,add_left_cancel->fS,add_lt_add_left->uU,add_right_comm->pD,add_sub_cancel->kX,add_sub_cancel'->j7,add_sub_cancel_left->dW,beq->gB,beq_refl->oU,ble->iG,blt->acn,eq_of_beq_eq_true->gC,exists_eq_add_of_le->rq,exists_eq_succ_of_ne_zero->zV,le_add_right->bg,le_add_right_of_le->iA,le_antisymm->di,le_of_add_le_add_left->Dk,le_of_add_right_le->fN,le_of_ble_eq_true->bZ,le_of_eq->ak,le_of_lt->fO,le_of_lt_succ->gn,le_of_not_lt->m6,le_of_succ_le->OL,le_refl->aE,le_succ->eV,le_succ_of_le->dP,le_trans->av,lt_add_of_pos_right->jd,lt_irrefl->cP,lt_of_le_of_lt->aI,lt_of_lt_of_eq->wu,lt_of_lt_of_le->aH,lt_or_ge->ace,lt_succ_of_le->qe,lt_succ_of_lt->iS,lt_succ_self->bE,lt_trans->aW,min_eq_left->iM,min_le_left->Uv,mod_lt->aft,mul_add->zR,mul_le_mul_left->bW,mul_one->zS,ne_of_gt->bT,ne_of_lt->aS,not_le->wq,not_lt->cH,not_lt_zero->fc,not_succ_le_zero->Kg,sub_add_cancel->kW,sub_le->rQ,sub_le_of_le_add->ny,sub_self->jV,sub_sub_right->OO,sub_sub_self->T3,sub_zero->xZ,succ->xY,succ_add_eq_add_succ->Fg,succ_le_succ->cU,succ_lt_succ->jW,succ_ne_zero->TU,succ_pos->iT,zero_add->eY,zero_le->dU,zero_mul->Hz
open Nat.succ renaming inj->ja
open Option renaming bind_eq_some_iff->dB,filter_eq_some_iff->gx,filter_some->fX,isNone_iff_eq_none->jQ,isSome_iff_exists->bQ,join_eq_some_iff->qb,map_eq_some_iff->cB,map_some->ry,ne_none_iff_exists'->zT,none->az,none->A,some->ae,some->I,toList_some->HT
open Option.some renaming inj->aV,injEq->afo
open Prod.mk renaming inj->Fe
open PyProof.Rows renaming IntsAre->kA,add_int->acw,add_str->acH,and_int->acE,bitAnd_comm->acZ,bitAnd_m7->acX,bitAnd_m8->acW,bitAnd_zero->ac0,bitOr_and->acY,floordiv_int->acB,ge_int->acN,getItem_str->acO,getItem_tuple->acP,gt_int->acM,le_int->acL,lshift_int_small->acD,lt_int->acK,mod_int'->acA,mul_int->acz,neg_int->zU,not_of->acQ,or_int->acF,pow_int_small->acG,rshift_int->acC,sub_int->acy,truthy_int->acI,truthy_tuple->acJ
open PySem renaming Around->bC,BindsTo->Zu,Const->wD,DictEntry->cZ,ExcName->Oq,Fin->gD,FuncData->i8,Keeper->rS,Model->ir,OsState->iq,Params->bY,Program->Zp,PyData->CA,Result->fP,Shared->aA,Str->acS,Thread->CC,Value->aq,Walks->HL,World->dY,arm_allTrue_cons->acr,arm_assign_Attribute->Ub,arm_eval_Attribute->XI,arm_eval_Call_Name'->yb,arm_eval_Slice->afu,arm_eval_Tuple->afv,arm_exec_Assign->pF,arm_execs_cons->HN,arm_isTrue_BoolOp->Zs,bm_if_false->fY,bm_if_true->iB,builtinLookup_eq_fast->ck,builtinType_eq_fast->yc,callType_codes->afw,call_meets->HM,call_meetsIn->BE,codeAny_builtin->lQ,codeAny_call_builtin->Uc,codeAny_of_tree->Fi,entryFor_of_tree->ku,entry_typeCall->afz,getMethod_builtin->ni,isSubtype_type->m9,markedBehindIn_of_false->Mr,outcomeOf_ends->afC,pastItsLine_dict->acq,plainId_quiet->oh,refuseLoop_ref->afB,richCompare_gives->Zr,signature?_of->oj,sizeLine_eq->gG,slot_list_getitem->BA,slot_list_setitem->Zt,strValues->zj,typeLookup_type->dJ,wpAny_Constant_int->XH,wpAny_Name->HK,wpAny_askSetting->acp,wpAny_assign_Name->BD,wpAny_bind->ao,wpAny_bindName->afx,wpAny_call->XJ,wpAny_call_entry->nQ,wpAny_comp_letGo->acs,wpAny_field->wF,wpAny_getItem_list_slice->Kp,wpAny_holding->eX,wpAny_isInstance->acu,wpAny_letTemporaryGo->wz,wpAny_list_append_plain->Mt,wpAny_load->j8,wpAny_loadName_local->wB,wpAny_loadPart->wA,wpAny_lookBehind->CB,wpAny_mkBytes->Kq,wpAny_mono->lX,wpAny_newFunctionEnv_cells->HO,wpAny_newList->om,wpAny_newObj_type->jT,wpAny_of_eq->dh,wpAny_point->Ua,wpAny_pure->aF,wpAny_pyIter_list->BC,wpAny_rule->nR,wpAny_seqItems->afA,wpAny_specialOf->iX,wpAny_standAt->rT,wpAny_truthy_bool->Zq,wpAny_typeOf->i9,wpAny_unpackItems_tuple->Ms,wpAt_bind->OQ,wpAt_of_wpAny->HV
open PySem.Around renaming in1_units->Mj,under_plainId->iH
open PySem.AutoIntOps renaming iadd_0->afD
open PySem.AutoSeq1 renaming list_extend_list_list_0->Zm
open PySem.Bind renaming madeBy->aci,madeHere->Xz
open PySem.Builtin renaming bitAnd->dj,bitOr->lZ
open PySem.Builtin.Bytes renaming bindOptional->uT,buffer?->Cs,decodersThatHold->gi,decodersThatHold->gj,exported->Bw,isSpace->fJ,isSpace->p9,occurrences->mZ,occurrences->pR,payload->Us,sameRef->j6,takeBufferQuiet?->Fc,tooLong->uw
open PySem.Builtin.Bytes.exported renaming match_1->wK
open PySem.Builtin.Bytes.joinM renaming match_1->rt
open PySem.Builtin.Dict renaming selfAndRest->acT,updateFrom->acU
open PySem.Builtin.List renaming listSubscript?->acR
open PySem.Builtin.Str renaming glued->afr
open PySem.Calls renaming call_len_list->afs
open PySem.Challenge renaming pw_nt0307_01->XC,rw_nt0307_01->tB
open PySem.Code renaming guards->acj,quiet_builtin->kO
open PySem.Env renaming kindOf->Oe
open PySem.ExcName renaming means->By
open PySem.Expr renaming casesOn->fW
open PySem.F renaming bm_called->Og,bm_newCall->afq,bm_plain->Fb,entry_dict_get->Cu,entry_list_pop->Ct,slot_dict_get->lO,slot_dict_pop->Di,slot_dict_setdefault->ya,slot_list_extend->Bx,slot_list_getattribute->ru,slot_list_pop->lN,type_dict_get->Dj,type_list_pop->Dh
open PySem.Heap renaming DictOf->zg,ExtBut->ach,HeldW->BJ,SameBut->eW,get?_push_ne->Oi,get?_push_of_some->aQ,get?_push_size->br,get?_update_ne->ux,get?_update_other->lM,get?_update_self->iF,lt_size->dF,size_push->jJ
open PySem.Keeper renaming boundFrame->pC,machine->rW
open PySem.Manifest renaming find?->Mk
open PySem.MeetsSeq renaming list_pop_at->Zl,list_pop_last->Zk
open PySem.Obj renaming data_mapFields->Ol,mapSeq->Of
open PySem.PyData renaming keyHash->iW
open PySem.Sem renaming bind_eq_wrap'->OS,wp_bind'->acf,wp_mono->ue,wrap_wrap->Ff
open PySem.SeqAt renaming RcNeAt->ug
open PySem.SeqAt.EqAt renaming int_int->Zi,int_none->Xv
open PySem.Str renaming ofString->cG
open PySem.Value.ref renaming inj->Ml
open PySem.W renaming InstAt->XG,Looks->gb,SharedT->uh,boot_drawn->XK,boot_heap->qf,boot_toks->acv,cellsFrom_some->afy,looks_findIn->qa,looks_pair->j9,looks_subIn->jx,plainGet_of->wC,typeIs_bytes->BB,typeIs_bytes->d8
open PySem.W.FB renaming owner_bytes->Dg,slot_bytes_getitem->tQ
open PySem.W.Fast renaming te10110043849684766642->rA,te14364793385576792824->rB,tw10110043849684766642->gQ,tw14364793385576792824->gR
open PySem.W.KBy renaming buffer_eq->Zj,look_buffer->Ut,picked->afp,special_eq->Xy
open PySem.W.Looks renaming ld->i7,of_pure->p6
open PySem.W.WData renaming layableAll->Om
open PySem.callAny renaming viaDunder->HU
open PySem.pyHashByItsType renaming reduced->nA
open Std.Legacy.Range renaming forIn_eq_forIn_range'->Uu
open UInt8 renaming ofNat->aP,ofNat_toNat->Mp,toNat->pS
set_option compiler.extract_closed false
theorem Mine.Internal.af{b:Sort _}{a:b}:a=a:=Eq.refl a
open Mine.Internal renaming af->B
local macro_rules
 |`(#[$x,$L,*])=>`(⟨$x,$L,*⟩)
local macro_rules
 |`(tactic|show $t)=>`(tactic|refine $t)
namespace Mine.Internal
noncomputable section
open PySem PySem.W PySem.Calls PyProof.Rows
variable{C a:Addr}{kb:Bool}{env:Env}{h h':Heap}{as:List Addr}{L:List Str}{ys:List aq}{i j n:Nat}{o:Obj}{t:Tok}{α β:Type}{s:aA}{v:aq}{Q:aq->aA->Prop}{A:bC}
section
theorem aN{a b:Prop}(x:a)(y:b):a/\b:=#[x,y]
theorem hd{G:Prop}(h:∀Q:Prop,(G->Q)->Q):G:=h G id
universe u
@[elab_as_elim]theorem sB{α:Sort u}{a b:α}{P:α->Prop}(h:a=b)(x:P a):P b:=h▸x
@[elab_as_elim]theorem bS{α:Sort u}{a b:α}{P:α->Prop}(h:b=a)(x:P a):P b:=h▸x
theorem bh{a:α}{P:Prop}(h:az=I a):P:=nomatch h
theorem pO{a:α}{P:Prop}(h:I a=az):P:=nomatch h
theorem gE{P:Prop}(h:X=J):P:=nomatch h
theorem vZ{P:Prop}(h:J=X):P:=nomatch h
theorem IG{a:α}{l:List α}{P:Prop}(h:[]=a::l):P:=nomatch h
theorem zB{a:α}{l:List α}{P:Prop}(h:a::l=[]):P:=nomatch h
theorem cO{a:α}{P:Prop}(h:a∈[]):P:=nomatch h
theorem fB{x:Option α}{f:α->Option β}{b:β}{G:Prop}(h:x.bind f=I b)(k:∀a,x=I a->f a=I b->G):G:=(dB.mp h).elim λa h=>k a h.1 h.2
theorem mS{x:Option α}{f:α->β}{b:β}{G:Prop}(h:x.map f=I b)(k:∀a,x=I a->f a=b->G):G:=(cB.mp h).elim λa h=>k a h.1 h.2
theorem gO{f:α->β}{l:List α}{b:β}{G:Prop}(h:b∈l.map f)(k:∀a,a∈l->f a=b->G):G:=(dD.mp h).elim λa h=>k a h.1 h.2
theorem all1{P:α->Prop}{a:α}(h:P a):∀x∈[a],P x:=λx m=>(ah.mp m).symm▸h
theorem eH{a b:Bool}(h:(a&&b)=J):a=J/\b=J:=nj.mp h
theorem Sn{a b:Bool}(h:(a||b)=J):a=J∨b=J:=Kf.mp h
theorem gH{a:Bool}(h:(!a)=J):a=X:=by induction a<;>first|rfl|show gE h
theorem cI[BEq α][LawfulBEq α]{a b:α}(h:(a==b)=J):a=b:=eq_of_beq h
theorem aZ{a b:Bool}(h:(a&&b)=J){T:Prop}(k:a=J->b=J->T):T:=k (eH h).1 (eH h).2
inductive Ln where
 |v (i:Nat)
 |n (k:Nat)
 |a (x y:Ln)
 |m (k:Nat) (x:Ln)
noncomputable def lAt:List Nat->Nat->Nat
 |[],_=>0
 |x::r,i=>match i with
  |0=>x
  |i+1=>lAt r i
noncomputable def Ln.den(c:List Nat):Ln->Nat
 |.v i=>lAt c i
 |.n k=>k
 |.a x y=>x.den c+y.den c
 |.m k x=>k*x.den c
noncomputable def abu(L ys:List Nat):List Nat:=L.rec (motive:=λz=>List Nat->List Nat) (λys=>ys) (λx L k ys=>ys.rec (x::L) λy ys z=>(x+y)::k ys) ys
noncomputable def vle(L ys:List Nat):Bool:=L.rec (motive:=λz=>List Nat->Bool) (λz=>J) (λx z k ys=>ys.rec (gB x 0&&k []) λy ys z=>iG x y&&k ys) ys
noncomputable def dot(L c:List Nat):Nat:=L.rec (motive:=λz=>List Nat->Nat) (λz=>0) (λx z k c=>c.rec 0 λc b z=>x*c+k b) c
noncomputable def unit(n:Nat):List Nat:=n.rec [1] λz k=>0::k
def Ln.vec(x:Ln):List Nat:=x.rec (λi=>0::unit i) (λk=>[k]) (λz z a b=>abu a b) λk z a=>a.map (k*·)
theorem EW{L:List Nat}:dot L []=0:=by induction L<;>rfl
theorem WD{L:List Nat}:∀{ys c:List Nat},dot (abu L ys) c=dot L c+dot ys c:=by
 induction L with
 |nil=>intro ys c;show(eY _).symm
 |cons x L d=>
  intro ys c;cases c with
  |nil=>rw[EW,EW,EW]
  |cons c b=>
   induction ys with
   |nil=>rfl
   |cons y ys=>change(x+y)*c+dot (abu L ys) b=x*c+dot L b+(y*c+dot ys b);rw[d,Nat.add_mul,Nat.add_add_add_comm]
theorem Wk{k:Nat}{L:List Nat}:∀{c:List Nat},dot (L.map (k*·)) c=k*dot L c:=by
 induction L with
 |nil=>intro c;rfl
 |cons x L d=>
  intro c;induction c with
  |nil=>rfl
  |cons c b=>change k*x*c+dot (L.map _) b=k*(x*c+dot L b);rw[d,zR,Nat.mul_assoc]
theorem Tf:∀{c:List Nat},dot (unit i) c=lAt c i:=by
 induction i with
 |zero=>
  intro c;induction c with
  |nil=>rfl
  |cons c b=>show Nat.one_mul c
 |succ i d=>
  intro c;induction c with
  |nil=>rfl
  |cons c b=>show(congrArg (· + dot (unit i) b)<|Hz c).trans<|(eY _).trans d
theorem Ma{c:List Nat}{x:Ln}:dot x.vec (1::c)=x.den c:=by
 induction x with
 |v i=>show(congrArg (· + dot (unit i) c)<|Hz 1).trans<|(eY _).trans Tf
 |n k=>show(congrArg (· + 0)<|zS k)
 |a x y b d=>show WD.trans (congr (congrArg (· + ·) b) d)
 |m k x h=>show Wk.trans (congrArg (k*·) h)
theorem abb{L:List Nat}:∀{ys c:List Nat},vle L ys=J->dot L c<=dot ys c:=by
 induction L with
 |nil=>show λz=>dU _
 |cons x L b=>
  intro ys c h;cases c with
  |nil=>show dU _
  |cons c d=>
   induction ys with
   |nil=>have h:=nj.mp h;have e:=gC h.1;subst e;change 0*c+dot L d<=_;rw[Hz,eY];show b h.2
   |cons y ys=>have h:=nj.mp h;show gP (Nat.mul_le_mul_right c<|bZ h.1)<|b h.2
noncomputable def lL(l:List<|Ln×Ln):Ln:=l.foldr (λp k=>.a p.1 k)<|.n 0
noncomputable def lR(l:List<|Ln×Ln):Ln:=l.foldr (λp k=>.a p.2 k)<|.n 0
def Ln.le(x y:Ln):Bool:=vle x.vec y.vec
theorem nlP{c:List Nat}{x y:Ln}{ps:List<|Ln×Ln}(b:(Ln.a x<|lR ps).le (.a y<|lL ps)=J)(h:∀p∈ps,p.1.den c<=p.2.den c):x.den c<=y.den c:=by
 have z:=abb (c:=1::c) b;rw[Ma,Ma]at z;show Nat.le_of_add_le_add_right<|av z<|j5 ?_ _;clear z b;induction ps with
 |nil=>show aE _
 |cons p r d=>show gP (h p<|.head _)<|d λq m=>h q<|.tail _ m
instance:Add Ln:=⟨.a⟩
instance (k:Nat):OfNat Ln k:=⟨.n k⟩
noncomputable abbrev lm:=Ln.m
noncomputable abbrev V0:=Ln.v 0
noncomputable abbrev V1:=Ln.v 1
noncomputable abbrev V2:=Ln.v 2
noncomputable abbrev V3:=Ln.v 3
noncomputable abbrev V4:=Ln.v 4
noncomputable abbrev V5:=Ln.v 5
theorem Fo(c:List Nat)(x y:Ln)(b:(Ln.a x<|.n 0).le (.a y<|.n 0)=J):x.den c<=y.den c:=nlP (ps:=[]) b λz m=>(nomatch m)
theorem dO(c:List Nat)(x y a b:Ln)(d:(Ln.a x<|.a b<|.n 0).le (.a y<|.a a<|.n 0)=J)(h:a.den c<=b.den c):x.den c<=y.den c:=nlP (ps:=[(a,b)]) d<|all1 h
theorem fZ(c:List Nat)(x y a b d e:Ln)(f:(Ln.a x<|.a b<|.a e<|.n 0).le (.a y<|.a a<|.a d<|.n 0)=J)(h:a.den c<=b.den c)(g:d.den c<=e.den c):x.den c<=y.den c:=
 nlP (ps:=[(a,b),(d,e)]) f (bU.mpr #[h,all1 g])
theorem rj(c:List Nat)(x y a b d e f g:Ln)(k:(Ln.a x<|.a b<|.a e<|.a g<|.n 0).le (.a y<|.a a<|.a d<|.a f<|.n 0)=J)(h:a.den c<=b.den c)(l:d.den c<=e.den c)(m:f.den c<=g.den c):x.den c<=y.den c:=
 nlP (ps:=[(a,b),(d,e),(f,g)]) k (bU.mpr #[h,bU.mpr #[l,all1 m]])
theorem Um(c:List Nat)(x y a b d e f g i j:Ln)(k:(Ln.a x<|.a b<|.a e<|.a g<|.a j<|.n 0).le (.a y<|.a a<|.a d<|.a f<|.a i<|.n 0)=J)(h:a.den c<=b.den c)(l:d.den c<=e.den c)(m:f.den c<=g.den c)(p:i.den c<=j.den c):x.den c<=y.den c:=
 nlP (ps:=[(a,b),(d,e),(f,g),(i,j)]) k (bU.mpr #[h,bU.mpr #[l,bU.mpr #[m,all1 p]]])
theorem M8(c:List Nat)(x y a b d e f g i j k l:Ln)(m:(Ln.a x<|.a b<|.a e<|.a g<|.a j<|.a l<|.n 0).le (.a y<|.a a<|.a d<|.a f<|.a i<|.a k<|.n 0)=J)(h:a.den c<=b.den c)(p:d.den c<=e.den c)(q:f.den c<=g.den c)(r:i.den c<=j.den c)(w:k.den c<=l.den c):x.den c<=y.den c:=
 nlP (ps:=[(a,b),(d,e),(f,g),(i,j),(k,l)]) m (bU.mpr #[h,bU.mpr #[p,bU.mpr #[q,bU.mpr #[r,all1 w]]]])
theorem oJ(a b:Nat):a<=a-b+b:=Nat.sub_le_iff_le_add.mp<|aE _
theorem k8{a b:Nat}(h:b<=a):a-b+b<=a:=ak<|kW h
theorem jX{P:Prop}(h:1<=0):P:=absurd h<|Kg 0
inductive Zn where
 |n (k:Nat)
 |c (x:Ln)
 |a (x y:Zn)
noncomputable def Zn.den(c:List Nat)(x:Zn):Int:=x.rec (λk=>(k:Nat)) (λx=>(x.den c:Nat)) λz z a b=>a+b
noncomputable def Zn.ln(x:Zn):Ln:=x.rec .n (λx=>x) λz z a b=>.a a b
theorem Zn.eq{c:List Nat}{x:Zn}:x.den c=(x.ln.den c:Nat):=by
 induction x with
 |n k=>rfl
 |c x=>rfl
 |a x y b d=>show(congr (congrArg (· + ·) b) d).trans (Uq ..).symm
theorem zl(c:List Nat)(x y:Zn):x.den c<y.den c ↔ x.ln.den c<y.ln.den c:=by rw[Zn.eq,Zn.eq];show fD
theorem ze(c:List Nat)(x y:Zn):x.den c<=y.den c ↔ x.ln.den c<=y.ln.den c:=by rw[Zn.eq,Zn.eq];show gM
theorem zq(c:List Nat)(x y:Zn):x.den c=y.den c ↔ x.ln.den c=y.ln.den c:=by rw[Zn.eq,Zn.eq];show Int.ofNat_inj
inductive Ky where
 |i (n:Int)
 |b (s:List UInt8)
noncomputable def Ky.ctorIdx(x:Ky):Nat:=x.casesOn (λz=>0) λz=>1
deriving instance DecidableEq for Ky
inductive P where
 |none
 |bool (b:Bool)
 |int (i:Int)
 |str (s:List Nat)
 |bytes (b:List UInt8)
 |tup (L:List P)
 |lst (L:List P)
 |inst (c:Nat) (fs:List P)
 |mw (kb:Bool) (ks:List Ky) (vs:List P)
 |Tj (lo hi:Int)
noncomputable def P.ctorIdx(x:P):Nat:=x.casesOn 0 (λz=>1) (λz=>2) (λz=>3) (λz=>4) (λz=>5) (λz=>6) (λz z=>7) (λz z z=>8) λz z=>9
inductive V where
 |p (x:P)
 |ref (i:Nat)
noncomputable def V.ctorIdx(x:V):Nat:=x.casesOn (λz=>0) λz=>1
inductive O where
 |list (L:List P)
 |dict (kb:Bool) (Z:List<|Ky×V)
 |inst (c:Nat) (fs:List<|Option V)
 |sA (b:List UInt8)
 |aux
 |gone
noncomputable def O.ctorIdx(x:O):Nat:=x.casesOn (λz=>0) (λz z=>1) (λz z=>2) (λz=>3) 4 5
structure St where
 loc:List (Option V)
 U:List O
inductive gT where
 |ok (v:V)
 |exc (c:Nat)
noncomputable def gT.ctorIdx(x:gT):Nat:=x.casesOn (λz=>0) λz=>1
inductive Fl where
 |next
 |cont
 |ret (v:V)
abbrev Spec:=List V->List O->(gT->List O->Prop)->Prop
noncomputable abbrev gI:=Nat->Spec
inductive E where
 |nil
 |cons (e r:E)
 |loc (i:Nat)
 |c (x:P)
 |g (j:Nat)
 |bin (op:Operator) (a b:E)
 |neg (a:E)
 |not (a:E)
 |nK (Z:E)
 |zH (Z:E)
 |cmp (op:CmpOp) (a b:E)
 |ite (t a b:E)
 |attr (o:E) (c k:Nat)
 |prop (o:E) (c f:Nat)
 |sub (o i:E)
 |slice (o lo hi:E)
 |rev (o:E)
 |call (f:Nat) (args:E)
 |eN (o:E) (c f:Nat) (args:E)
 |bi (b:Operator) (args:E)
 |bm (m:Operator) (o args:E)
 |lst (Z:E)
 |tup (Z:E)
 |dict (kb:Bool)
 |comp (m:Nat) (t it gp elt:E)
 |FU (m:Nat) (t1 it1 t2 BU elt:E)
 |fz (e:E)
 |v (e:E)
 |dead
inductive S where
 |nil
 |cons (s r:S)
 |Ug (i:Nat) (r:S)
 |asg (t e:E)
 |yV (i m:Nat) (fz:Bool) (t it gp elt:E)
 |mV (rv:Bool) (ts Z:E)
 |aug (t:E) (op:Operator) (e:E)
 |ifs (t:E) (a b:S)
 |yu (t:E) (b:S)
 |kP (t it:E) (b:S)
 |MY (t a b:E) (c:S)
 |ret (e:E)
 |Px
 |pY (c:Nat)
 |Gv (b:S) (c i:Nat) (p:P)
 |Hu (b:S)
 |ex (e:E)
 |pass
 |cont
 |dead
noncomputable abbrev gr:Nat:=1000000
noncomputable abbrev yj:Int:=2^62
def bO(o:Option α)(k:α->Prop):Prop:=match o with
 |some a=>k a
 |none=>False
theorem qS{o:Option α}{k:α->Prop}(h:bO o k):∃a,o=I a/\k a:=by
 induction o with
 |none=>show h.elim
 |some a=>show#[a,rfl,h]
theorem bq{o:Option α}{k:α->Prop}{a:α}(e:o=I a)(h:k a):bO o k:=by subst e;show h
noncomputable def P.int?:P->Option Int
 |.int i=>I i
 |_=>.none
noncomputable def P.AO:P->Option (List Nat)
 |.str i=>I i
 |_=>.none
noncomputable def P.iQ:P->Option (List UInt8)
 |.bytes i=>I i
 |_=>.none
noncomputable def P.Dv:P->Option (List P)
 |.lst i=>I i
 |_=>.none
noncomputable def P.Vc:P->Option (List P)
 |.tup i=>I i
 |_=>.none
noncomputable def V.p?:V->Option P
 |.p x=>I x
 |_=>az
theorem P.ig{x:P}{i:Int}(h:x.int?=I i):x=.int i:=by induction x using P.casesOn<;>first|show bh h | (cases h;rfl)
theorem P.tC{x:P}{i:List Nat}(h:x.AO=I i):x=.str i:=by induction x using P.casesOn<;>first|show bh h | (cases h;rfl)
theorem P.gS{x:P}{i:List UInt8}(h:x.iQ=I i):x=.bytes i:=by induction x using P.casesOn<;>first|show bh h | (cases h;rfl)
theorem P.tF{x:P}{i:List P}(h:x.Dv=I i):x=.lst i:=by induction x using P.casesOn<;>first|show bh h | (cases h;rfl)
theorem P.DL{x:P}{i:List P}(h:x.Vc=I i):x=.tup i:=by induction x using P.casesOn<;>first|show bh h | (cases h;rfl)
theorem V.ju{v:V}{x:P}(h:v.p?=I x):v=.p x:=by induction v<;>first|show bh h | (cases h;rfl)
noncomputable def jr(f:α->Option β)(l:List α):Option<|List β:=l.foldr (λx k=>(f x).bind λa=>k.map (a::·))<|I []
theorem SO{f:α->Option β}{x:α}{r:List α}:jr f (x::r)=(f x).bind λa=>(jr f r).map (a::·):=rfl
def ZY(c:Operator)(a b:Int)(k:Int->Prop):Prop:=match c with
 |.Add=>k<|a+b
 |.Sub=>k<|a-b
 |.Mult=>(-yj<a/\a<yj)/\k (a*b)
 |.Mod=>b≠0/\k (a.fmod b)
 |.FloorDiv=>(0<b/\b<1073741824)/\k (a.fdiv b)
 |.RShift=>0<=b/\k (a.fdiv<|2^b.toNat)
 |.LShift=>(0<=b/\b<=400/\-yj<a/\a<yj)/\k (a*2^b.toNat)
 |.BitAnd=>k<|dj a b
 |.BitOr=>k<|lZ a b
 |.Pow=>(a=16/\(b=0∨b=1))/\k (a^b.toNat)
 |_=>False
abbrev kC(k:β->Prop)(c:α->β)(z:α):Prop:=k<|c z
abbrev aee(k:List α->Prop)(a b:List α):Prop:=a.length+b.length<=gr/\k (a++b)
abbrev adf(y:Option<|List α)(k:List α->Prop)(a:List α):Prop:=bO y<|aee k a
def abi(x y:Option<|List α)(k:List α->Prop):Prop:=bO x<|adf y k
abbrev kI2(c:Operator)(k:P->Prop)(a b:Int):Prop:=ZY c a b<|kC k P.int
abbrev kI1(b:Operator)(y:P)(k:P->Prop)(a:Int):Prop:=bO y.int?<|kI2 b k a
def aec(op:Operator)(x y:P)(k:P->Prop):Prop:=match op with
 |.Div=>abi x.iQ y.iQ<|kC k P.bytes
 |.MatMult=>abi x.AO y.AO<|kC k P.str
 |.BitXor=>abi x.Dv y.Dv<|kC k P.lst
 |op=>bO x.int?<|kI1 op y k
noncomputable def afQ:P->Option Bool
 |.none=>I X
 |.bool b=>I b
 |.int i=>I<|i != 0
 |.str s=>I !s.isEmpty
 |.bytes s=>I !s.isEmpty
 |.lst s=>I !s.isEmpty
 |.tup s=>I !s.isEmpty
 |_=>.none
noncomputable def adx(b:List O):V->Option Bool
 |.p x=>afQ x
 |.ref i=>b[i]?.bind λo=>match o with
  |.list L=>I !L.isEmpty
  |_=>az
inductive Flat where
 |none
 |int (i:Int)
 |str (s:List Nat)
 |bytes (b:List UInt8)
noncomputable def Flat.eq:Flat->Flat->Option Bool
 |.none,.none=>I J
 |.none,.int _=>I X
 |.int _,.none=>I X
 |.int i,.int j=>I<|i==j
 |.str i,.str j=>I<|i==j
 |.bytes i,.bytes j=>I<|i==j
 |_,_=>.none
noncomputable def P.GN:P->Option Flat
 |.none=>I .none
 |.int i=>I<|.int i
 |.str i=>I<|.str i
 |.bytes i=>I<|.bytes i
 |_=>.none
noncomputable def P.seq?:P->Option (Bool×List P)
 |.tup L=>I (J,L)
 |.lst L=>I (X,L)
 |_=>.none
noncomputable def To(f:P->P->Option Bool)(L ys:List P):Option Bool:=L.foldr (β:=List P->Option Bool) (λx k ys=>ys.rec (I X) λy ys z=>(f x y).bind λa=>(k ys).map (a&&·)) (λys=>I ys.isEmpty) ys
noncomputable def xh(x y:P):Option Bool:=x.GN.bind λa=>y.GN.bind λb=>a.eq b
def CH(n:Nat):P->P->Option Bool:=n.rec xh λz k x y=>x.seq?.elim (xh x y) λa=>y.seq?.bind λb=>bif a.1==b.1 then To k a.2 b.2 else az
noncomputable def g9(b:List O):V->Option (List P)
 |.p (.lst L)=>I L
 |.ref i=>b[i]?.bind λo=>match o with
  |.list L=>I L
  |_=>az
 |_=>az
noncomputable def V.Ue(b:List O)(v:V):Option P:=match v with
 |.p x=>I x
 |.ref _=>(g9 b v).map .lst
noncomputable def P.Rd:P->Option (Option Int)
 |.none=>I .none
 |.int i=>I<|I i
 |_=>.none
noncomputable def P.Ax:Bool->P->Option Ky
 |true,x=>x.iQ.map .b
 |false,x=>x.int?.map .i
noncomputable def mU(b:List O):V->Option (Bool×List (Ky×V))
 |.p (.mw kb c vs)=>I (kb,c.zip<|vs.map .p)
 |.ref i=>b[i]?.bind λo=>match o with
  |.dict kb d=>I (kb,d)
  |_=>az
 |_=>az
noncomputable def fR(b:List<|Ky×α)(k:Ky):Option α:=(b.find? λe=>e.1=k).map (·.2)
noncomputable def kU(l:List<|Ky×α)(k:Ky)(v:α):List<|Ky×α:=l.rec [(k,v)] λe r f=>if e.1=k then (e.1,v)::r else e::f
theorem EL{e:Ky×α}{r:List<|Ky×α}{k:Ky}{v:α}:kU (e::r) k v=if e.1=k then (e.1,v)::r else e::kU r k v:=rfl
noncomputable def B0(l:List<|Ky×α)(k:Ky):List<|Ky×α:=l.rec [] λe r f=>if e.1=k then r else e::f
theorem Ia{e:Ky×α}{r:List<|Ky×α}{k:Ky}:B0 (e::r) k=if e.1=k then r else e::B0 r k:=rfl
def Wm(L:List P)(x:P):Option Bool:=(jr P.int? L).bind λb=>x.Rd.map λi=>b.any λj=>i==I j
noncomputable def Ui(b:List O)(x:P)(y:V):Option Bool:=match mU b y with
 |some d=>(x.Ax d.1).map λk=>(fR d.2 k).isSome
 |none=>match g9 b y with
  |some L=>Wm L x
  |none=>(y.p?.bind P.Vc).bind λL=>Wm L x
noncomputable def Eu(x y:V):Option Bool:=match y with
 |.p .none=>match x with
  |.ref _=>I X
  |.p x=>match x with
   |.none=>I J
   |.bool _=>az
   |.Tj _ _=>az
   |_=>I X
 |_=>az
noncomputable def Rz(x y:V)(f:Int->Int->Bool):Option Bool:=(x.p?.bind P.int?).bind λa=>(y.p?.bind P.int?).map<|f a
noncomputable def Qc(c:List O)(d:CmpOp)(x y:V):Option Bool:=match d with
 |.Eq=>(x.Ue c).bind λa=>(y.Ue c).bind λb=>CH 5 a b
 |.NotEq=>(x.Ue c).bind λa=>(y.Ue c).bind λb=>(CH 5 a b).map (!·)
 |.Lt=>Rz x y λa b=>decide (a<b)
 |.LtE=>Rz x y λa b=>decide (a<=b)
 |.Gt=>Rz x y λa b=>decide (b<a)
 |.GtE=>Rz x y λa b=>decide (b<=a)
 |.Is=>Eu x y
 |.IsNot=>(Eu x y).map (!·)
 |.In=>x.p?.bind λx=>Ui c x y
 |.NotIn=>x.p?.bind λx=>(Ui c x y).map (!·)
@[irreducible]def lq(b:List O)(c:CmpOp)(x y:V):Option Bool:=Qc b c x y
@[irreducible]def AE(b:List O)(x:V):Option Bool:=adx b x
theorem jP(b:List O)(c:CmpOp)(x y:V):lq b c x y=Qc b c x y:=by unfold lq;rfl
theorem zA(b:List O)(x:V):AE b x=adx b x:=by unfold AE;rfl
noncomputable def Ac(L:List α)(i:Int):Option α:=match decide (0<=i)with
 |true=>L[i.toNat]?
 |false=>az
noncomputable def yT(c:List O)(x y:V):Option V:=y.p?.bind λy=>match mU c x with
 |some d=>(y.Ax d.1).bind<|fR d.2
 |none=>y.int?.bind λi=>match g9 c x with
  |some L=>(Ac L i).map .p
  |none=>x.p?.bind λx=>match x with
   |.bytes b=>(Ac b i).map λz=>.p<|.int z.toNat
   |.str b=>(Ac b i).map λz=>.p<|.str [z]
   |.tup b=>(Ac b i).map .p
   |_=>az
noncomputable def yq(n:Nat):Option Int->Nat->Nat
 |none,d=>d
 |some i,_=>if i<0 then (i+n).toNat else min i.toNat n
def cut(L:List α)(b c:Option Int):List α:=(L.drop<|yq L.length b 0).take<|yq L.length c L.length-yq L.length b 0
noncomputable def ixD:V->Option Int
 |.p (.int i)=>if -yj<i/\i<yj then I i else az
 |_=>az
theorem ixS:∃f:V->Option Int,∀x,f x=ixD x:=#[ixD,λz=>rfl]
noncomputable def ixO(x:V):Option Int:=Classical.choose ixS x
theorem Pf(x:V):ixO x=ixD x:=BI ixS x
noncomputable def QK(e:List O)(x:V)(c d:Option Int):Option P:=match g9 e x with
 |some b=>I<|.lst<|cut b c d
 |none=>(x.p?.bind P.iQ).map λb=>.bytes<|cut b c d
def aaC(c:List O)(x:V):Option P:=(g9 c x).map λb=>.lst b.reverse
noncomputable def items(e:List O)(x:V):Option<|List P:=x.p?.bind λx=>match x with
 |.lst L=>I L
 |.tup L=>I L
 |.bytes b=>I<|b.map λx=>.int x.toNat
 |.str b=>I<|b.map λx=>.str [x]
 |.Tj c d=>match decide (0<=c/\c<=1000000/\-1000000<=d/\d<=1000000)with
  |true=>I<|(List.range (d-c).toNat).map λ(i:Nat)=>.int<|c+i
  |false=>az
 |_=>az
noncomputable def F7(c:List O)(x:V):Option Nat:=match g9 c x with
 |some b=>I b.length
 |none=>match x with
  |.p x=>x.iQ.map (·.length)
  |.ref i=>c[i]?.bind λo=>match o with
   |.dict _ b=>I b.length
   |_=>az
noncomputable def iD(x:P):Option UInt8:=x.int?.bind λi=>match decide (0<=i/\i<256)with
 |true=>I<|aP i.toNat
 |false=>az
noncomputable def sN(c:List O)(x:V):Option<|List UInt8:=match g9 c x with
 |some b=>jr iD b
 |none=>match x with
  |.p x=>x.iQ
  |.ref i=>c[i]?.bind λo=>match o with
   |.sA b=>I b
   |_=>az
noncomputable def gq(i:Int):List Nat:=(toString i).toList.map Char.toNat
noncomputable def Oa(x:Int)(l:List Int):List Int:=l.rec [x] λy r k=>if x<=y then x::y::r else y::k
theorem YI{x y:Int}{r:List Int}:Oa x (y::r)=if x<=y then x::y::r else y::Oa x r:=rfl
def lY(l:List Int):List Int:=l.foldr Oa []
noncomputable def xQ:List Int->Int
 |[]=>0
 |x::r=>r.foldl max x
noncomputable def two(L:List α):Option<|α×α:=match L with
 |[x,y]=>I (x,y)
 |_=>az
theorem Sb{vs:List α}{v:α×α}(h:two vs=I v):vs=[v.1,v.2]:=by
 cases vs with
 |nil=>show bh h
 |cons a r=>induction r using nY with
  |nil=>show bh h
  |cons b r=>induction r with
   |nil=>cases h;rfl
   |cons=>show bh h
def Ka(x:P):Option<|Ky×V:=(x.Vc.bind two).bind λq=>q.1.int?.map λk=>(.i k,.p q.2)
noncomputable def St.push(b:St)(o:O):St:=#[b.loc,b.U++[o]]
noncomputable def St.put(b:St)(i:Nat)(o:O):St:=#[b.loc,b.U.set i o]
noncomputable def St.var(b:St)(i:Nat)(v:V):St:=#[b.loc.set i<|I v,b.U]
noncomputable def Pj(d:List O)(x:V):Option<|List Int:=match g9 d x with
 |some L=>jr P.int? L
 |none=>match x with
  |.ref i=>d[i]?.bind λo=>match o with
   |.dict X c=>jr (λe=>match e.1 with | .i n=>I n | .b _=>az) c
   |.dict J c=>match c with
    |[]=>I []
    |_=>az
   |_=>az
  |_=>az
noncomputable def one(L:List α):Option α:=match L with
 |[x]=>I x
 |_=>az
abbrev kV(k:V->St->Prop)(b:St)(z:P):Prop:=k (.p z) b
abbrev kN(k:V->St->Prop)(b:St)(n:Nat):Prop:=k (.p<|.int n) b
abbrev abO(k:V->St->Prop)(b:St)(v:V):Prop:=bO (F7 b.U v)<|kN k b
abbrev aht(k:V->St->Prop)(b:St)(v:V):Prop:=bO (sN b.U v)<|kC (kV k b) P.bytes
abbrev agD(k:V->St->Prop)(b:St)(x:P):Prop:=bO (x.AO.bind one)<|kN k b
abbrev aae(f:Int->Prop)(x:P):Prop:=bO x.int? f
abbrev agA(k:V->St->Prop)(b:St)(i:Int):Prop:=(0<=i/\i<256)/\k (.p<|.str [i.toNat]) b
abbrev agd(k:V->St->Prop)(b:St)(i:Int):Prop:=((-1000000000<i/\i<1000000000)/\(gq i).length<=gr)/\k (.p<|.str<|gq i) b
abbrev ahA(k:V->St->Prop)(b:St)(n:Int):Prop:=(-1000000<=n/\n<=1000000)/\k (.p<|.Tj 0 n) b
abbrev agn(k:V->St->Prop)(c:St)(b:List Int):Prop:=b.length<64/\k (.p<|.lst<|(lY b).map .int) c
abbrev ahy(k:V->St->Prop)(b:St)(v:V):Prop:=bO (Pj b.U v)<|agn k b
abbrev agQ(k:V->St->Prop)(c:St)(b:List Int):Prop:=b≠[]/\k (.p<|.int<|xQ b) c
abbrev afO(k:V->St->Prop)(b:St)(v:V):Prop:=bO ((g9 b.U v).bind<|jr P.int?)<|agQ k b
abbrev adh(k:V->St->Prop)(b:St)(L:List P):Prop:=k (.ref b.U.length)<|b.push<|.list L
abbrev kLi(k:V->St->Prop)(b:St)(v:V):Prop:=match v with
  |.p (.Tj d c)=>(d=0/\0<=c/\c<=1000000)/\k (.ref b.U.length) (b.push<|.list<|(List.range c.toNat).map λ(i:Nat)=>.int i)
  |v=>bO (g9 b.U v)<|adh k b
abbrev afJ(k:V->St->Prop)(b:St)(c:List<|Ky×V):Prop:=k (.ref b.U.length)<|b.push<|.dict X<|c.foldl (λd e=>kU d e.1 e.2) []
abbrev agS(k:V->St->Prop)(b:St)(L:List P):Prop:=bO (jr Ka L)<|afJ k b
abbrev agT(k:V->St->Prop)(b:St)(x:P):Prop:=bO x.Dv<|agS k b
def HP(c:St)(b:Operator)(vs:List V)(k:V->St->Prop):Prop:=match b with
 |.Add=>bO (one vs)<|abO k c
 |.MatMult=>bO (one vs)<|abO k c
 |.FloorDiv=>bO (one vs)<|abO k c
 |.Sub=>bO (one vs)<|aht k c
 |.Div=>vs=[]/\k (.ref c.U.length) (c.push<|.sA [])
 |.LShift=>bO ((one vs).bind V.p?)<|agD k c
 |.BitAnd=>bO ((one vs).bind V.p?)<|aae<|agA k c
 |.Mult=>bO ((one vs).bind V.p?)<|aae<|agd k c
 |.BitOr=>bO ((one vs).bind V.p?)<|aae<|ahA k c
 |.RShift=>bO (one vs)<|ahy k c
 |.BitXor=>bO (one vs)<|afO k c
 |.Mod=>bO (one vs)<|kLi k c
 |.Pow=>bO ((one vs).bind V.p?)<|agT k c
noncomputable def eg(sep:List α)(l:List<|List α):List α:=l.rec (motive:=λz=>List α) [] λx r z=>x++r.flatMap λp=>sep++p
theorem iO{sep x y:List α}{r:List<|List α}:eg sep (x::y::r)=x++sep++eg sep (y::r):=(congrArg (x++·)<|aJ ..).trans (aJ ..).symm
noncomputable def mO(b:List UInt8):List<|List UInt8:=if (!b.isEmpty&&!b.any fJ)=J then [b] else Builtin.Bytes.words (b.length+1) (b.length+1) b
noncomputable def j2(b:List UInt8)(c:UInt8):List<|List UInt8:=if ((mZ b.toArray #[c] 0 b.length).take<|b.length+1).isEmpty=J then [b] else
 (Builtin.Bytes.between b.toArray 1<|(mZ b.toArray #[c] 0 b.length).take<|b.length+1).map lH
noncomputable def Kr(b:List O):V->Option (Nat×List P)
 |.ref i=>b[i]?.bind λo=>match o with
  |.list L=>I (i,L)
  |_=>az
 |_=>az
noncomputable def mdO(b:List O):V->Option (Nat×Bool×List (Ky×V))
 |.ref i=>b[i]?.bind λo=>match o with
  |.dict kb c=>I (i,kb,c)
  |_=>az
 |_=>az
noncomputable def mbO(c:List O):V->Option (Nat×List UInt8)
 |.ref i=>c[i]?.bind λo=>match o with
  |.sA b=>I (i,b)
  |_=>az
 |_=>az
abbrev aaL(k:V->St->Prop)(b:St)(sep:List Nat)(ss:List<|List Nat):Prop:=(sep.length<=1/\(eg sep ss).length<=gr)/\k (.p<|.str<|eg sep ss) b
abbrev ag3(k:V->St->Prop)(b:St)(vs:List V)(sep:List Nat):Prop:=bO (((one vs).bind<|g9 b.U).bind<|jr P.AO)<|aaL k b sep
abbrev ahl(k:V->St->Prop)(b:St)(sep:List UInt8)(ss:List<|List UInt8):Prop:=(eg sep ss).length<=gr/\k (.p<|.bytes<|eg sep ss) b
abbrev ahE(k:V->St->Prop)(b:St)(vs:List V)(sep:List UInt8):Prop:=bO (((one vs).bind<|g9 b.U).bind<|jr P.iQ)<|ahl k b sep
abbrev adi(k:V->St->Prop)(b:St)(y:P)(l:Nat×List P):Prop:=l.2.length<gr/\k (.p .none) (b.put l.1<|.list<|l.2++[y])
abbrev ahG(k:V->St->Prop)(b:St)(x:V)(y:P):Prop:=bO (Kr b.U x)<|adi k b y
abbrev agw(k:V->St->Prop)(b:St)(l:Nat×List UInt8)(c:UInt8):Prop:=l.2.length<gr/\k (.p .none) (b.put l.1<|.sA<|l.2++[c])
abbrev ahv(k:V->St->Prop)(b:St)(y:P)(l:Nat×List UInt8):Prop:=bO (iD y)<|agw k b l
abbrev agK(k:V->St->Prop)(b:St)(x:V)(y:P):Prop:=bO (mbO b.U x)<|ahv k b y
abbrev ag7(k:V->St->Prop)(b:St)(l:Nat×List P)(y:P):Prop:=k (.p y)<|b.put l.1<|.list l.2.dropLast
abbrev ag0(k:V->St->Prop)(b:St)(l:Nat×List P):Prop:=bO l.2.getLast?<|ag7 k b l
abbrev agV(k:V->St->Prop)(b:St)(j:Int)(l:Nat×List P)(y:P):Prop:=k (.p y)<|b.put l.1<|.list<|l.2.eraseIdx j.toNat
abbrev ahh(k:V->St->Prop)(b:St)(j:Int)(l:Nat×List P):Prop:=bO (Ac l.2 j)<|agV k b j l
abbrev agU(k:V->St->Prop)(b:St)(x:V)(j:Int):Prop:=bO (Kr b.U x)<|ahh k b j
abbrev ag5(k:V->St->Prop)(b:St)(d:Nat×Bool×List (Ky×V))(q:Ky)(z:V):Prop:=k z<|b.put d.1<|.dict d.2.1<|B0 d.2.2 q
abbrev agi(k:V->St->Prop)(b:St)(d:Nat×Bool×List (Ky×V))(q:Ky):Prop:=bO (fR d.2.2 q)<|ag5 k b d q
abbrev agB(k:V->St->Prop)(b:St)(y:P)(d:Nat×Bool×List (Ky×V)):Prop:=bO (y.Ax d.2.1)<|agi k b d
abbrev agO(k:V->St->Prop)(b:St)(x:V)(y:P):Prop:=bO (mdO b.U x)<|agB k b y
abbrev afK(k:V->St->Prop)(b:St)(ys:List P)(l:Nat×List P):Prop:=l.2.length+ys.length<=gr/\k (.p .none) (b.put l.1<|.list<|l.2++ys)
abbrev afZ(k:V->St->Prop)(b:St)(x:V)(ys:List P):Prop:=bO (Kr b.U x)<|afK k b ys
abbrev ac2(k:V->St->Prop)(b:St)(z:V)(d:Bool×List (Ky×V))(q:Ky):Prop:=k ((fR d.2 q).getD z) b
abbrev ahJ(k:V->St->Prop)(b:St)(y:P)(z:V)(d:Bool×List (Ky×V)):Prop:=bO (y.Ax d.1)<|ac2 k b z d
abbrev adV(k:V->St->Prop)(b:St)(x z:V)(y:P):Prop:=bO (mU b.U x)<|ahJ k b y z
abbrev afL(k:V->St->Prop)(c:St)(x:V)(b:V×V):Prop:=bO b.1.p?<|adV k c x b.2
abbrev aaY(k:V->St->Prop)(b:St)(z:V)(d:Nat×Bool×List (Ky×V))(q:Ky):Prop:=match fR d.2.2 q with
  |some z=>k z b
  |none=>d.2.2.length<gr/\k z (b.put d.1<|.dict d.2.1<|kU d.2.2 q z)
abbrev af6(k:V->St->Prop)(b:St)(z:V)(y:P)(d:Nat×Bool×List (Ky×V)):Prop:=bO (y.Ax d.2.1)<|aaY k b z d
abbrev agm(k:V->St->Prop)(b:St)(x z:V)(y:P):Prop:=bO (mdO b.U x)<|af6 k b z y
abbrev ag6(k:V->St->Prop)(c:St)(x:V)(b:V×V):Prop:=bO b.1.p?<|agm k c x b.2
abbrev afE(k:V->St->Prop)(c:St)(b:List UInt8):Prop:=b.length+2<=gr/\k (.p<|.lst<|(mO b).map .bytes) c
abbrev ago(k:V->St->Prop)(d:St)(b:List UInt8)(c:UInt8):Prop:=b.length+2<=gr/\k (.p<|.lst<|(j2 b c).map .bytes) d
abbrev ahK(k:V->St->Prop)(c:St)(b d:List UInt8):Prop:=bO (one d)<|ago k c b
abbrev ahB(k:V->St->Prop)(c:St)(vs:List V)(b:List UInt8):Prop:=bO (((one vs).bind V.p?).bind P.iQ)<|ahK k c b
def bmW(b:St)(m:Operator)(x:V)(vs:List V)(k:V->St->Prop):Prop:=match m with
 |.Sub=>bO (x.p?.bind P.AO)<|ag3 k b vs
 |.MatMult=>bO (x.p?.bind P.iQ)<|ahE k b vs
 |.Add=>bO ((one vs).bind V.p?)<|ahG k b x
 |.BitOr=>bO ((one vs).bind V.p?)<|agK k b x
 |.Pow=>vs=[]/\bO (Kr b.U x) (ag0 k b)
 |.LShift=>bO (((one vs).bind V.p?).bind P.int?)<|agU k b x
 |.RShift=>bO ((one vs).bind V.p?)<|agO k b x
 |.FloorDiv=>bO (((one vs).bind V.p?).bind P.Dv)<|afZ k b x
 |.Div=>bO ((one vs).bind V.p?)<|adV k b x<|.p .none
 |.Mod=>bO (two vs)<|afL k b x
 |.Mult=>bO (two vs)<|ag6 k b x
 |.BitXor=>vs=[]/\bO (x.p?.bind P.iQ) (afE k b)
 |.BitAnd=>bO (x.p?.bind P.iQ)<|ahB k b vs
noncomputable def yX(b:List O)(m:Operator)(x:V):Bool:=match m with
 |.Sub=>(x.p?.bind P.AO).isSome
 |.MatMult=>(x.p?.bind P.iQ).isSome
 |.BitXor=>(x.p?.bind P.iQ).isSome
 |.BitAnd=>(x.p?.bind P.iQ).isSome
 |.BitOr=>(mbO b x).isSome
 |.RShift=>(mU b x).isSome
 |.Div=>(mU b x).isSome
 |.Mod=>(mU b x).isSome
 |.Mult=>(mU b x).isSome
 |_=>(g9 b x).isSome
noncomputable def u5(e:List O)(c j:Nat):V->Option V
 |.p (.inst b d)=>match gB b c with
  |true=>d[j]?.map .p
  |false=>az
 |.ref i=>e[i]?.bind λo=>match o with
  |.inst b d=>match gB b c with
   |true=>d[j]?.join
   |false=>az
  |_=>az
 |_=>az
noncomputable def qO(d:List O)(c:Nat):V->Bool
 |.p (.inst b _)=>gB b c
 |.ref i=>match d[i]? with
  |some (.inst b _)=>gB b c
  |_=>X
 |_=>X
abbrev kSA(k:St->Prop)(e:St)(c j:Nat)(v:V)(i:Nat)(o:O):Prop:=match o with
  |.inst b d=>(gB b c=J/\j<d.length)/\k (e.put i<|.inst b<|d.set j<|I v)
  |_=>False
def qt(b:St)(c j:Nat)(v:V)(x:V)(k:St->Prop):Prop:=match x with
 |.ref i=>bO b.U[i]? (kSA k b c j v i)
 |_=>False
abbrev ahI(k:St->Prop)(b:St)(l:Nat×List P)(z:P)(j:Int):Prop:=(0<=j/\j.toNat<l.2.length)/\k (b.put l.1<|.list<|l.2.set j.toNat z)
abbrev ahf(k:St->Prop)(b:St)(y:P)(l:Nat×List P)(z:P):Prop:=bO y.int?<|ahI k b l z
abbrev agJ(k:St->Prop)(b:St)(z:V)(d:Nat×Bool×List (Ky×V))(q:Ky):Prop:=d.2.2.length<gr/\k (b.put d.1<|.dict d.2.1<|kU d.2.2 q z)
abbrev ahL(k:St->Prop)(b:St)(z:V)(y:P)(d:Nat×Bool×List (Ky×V)):Prop:=bO (y.Ax d.2.1)<|agJ k b z d
abbrev kSS(k:St->Prop)(b:St)(z x:V)(y:P):Prop:=match Kr b.U x with
 |some l=>bO z.p?<|ahf k b y l
 |none=>bO (mdO b.U x)<|ahL k b z y
def qN(b:St)(z x y:V)(k:St->Prop):Prop:=bO y.p?<|kSS k b z x
abbrev kFi(k:V->St->Prop)(b:St)(i c:Nat)(L:List P):Prop:=k (.p<|.inst c L)<|b.put i .gone
abbrev kFz(k:V->St->Prop)(b:St)(i:Nat)(o:O):Prop:=match o with
  |.list L=>k (.p<|.lst L)<|b.put i .gone
  |.inst c d=>bO (jr (λv=>v.bind V.p?) d)<|kFi k b i c
  |_=>False
def Yw(b:St)(v:V)(k:V->St->Prop):Prop:=match v with
 |.ref i=>bO b.U[i]? (kFz k b i)
 |.p _=>False
def j0(step:P->List P->St->(List P->St->Prop)->Prop)(l b:List P)(d:St)(k:List P->St->Prop):Prop:=l.foldr (β:=List P->St->(List P->St->Prop)->Prop) (λx c b d k=>step x b d λb e=>c b e k) (λb d k=>k b d) b d k
def Cp(step:P->St->(Fl->St->Prop)->Prop)(l:List P)(b:St)(k:Fl->St->Prop):Prop:=l.foldr (β:=St->(Fl->St->Prop)->Prop) (λx c b k=>step x b λf d=>match f with
  |.ret v=>k (.ret v) d
  |_=>c d k) (λb k=>k .next b) b k
def sy(d:St->(Bool->St->Prop)->Prop)(body:St->(Fl->St->Prop)->Prop)(n:Nat)(e:St)(k:Fl->St->Prop):Prop:=n.rec (motive:=λz=>St->(Fl->St->Prop)->Prop) (λz z=>False) (λz c e k=>d e λb g=>match b with
  |true=>body g λf l=>match f with
   |.ret v=>k (.ret v) l
   |_=>c l k
  |false=>k .next g) e k
noncomputable def RJ:List P:=[
 .str [48,49,50,51,52,53,54,55,56,57,97,98,99,100,101,102],
 .int 128,.int 65536,.bytes [80,65,67,75],.int 2,.tup [.int 2,.int 3],.int 12,.int 6,.int 7,
 .mw J [.b [99,111,109,109,105,116],.b [116,114,101,101],.b [98,108,111,98],.b [116,97,103]] [.int 1,.int 2,.int 3,.int 4],
 .mw X [.i 1,.i 2,.i 3,.i 4] [.bytes [99,111,109,109,105,116],.bytes [116,114,101,101],.bytes [98,108,111,98],.bytes [116,97,103]],
 .int 3,.int 4,.int 16]
noncomputable def zW:List String:=["HEX_SIGNS", "DELTA_COPY_BIT", "DELTA_NOUGHT_LENGTH", "PACK_SIGN", "PACK_VERSION", "PACK_VERSIONS_READ", "PACK_HEAD_SIZE", "OFFSET_DELTA", "ID_DELTA", "KIND_NUMBERS", "NUMBER_KINDS", "DELTA_LENGTH_OCTETS", "DELTA_PLACE_OCTETS", "DELTA_LENGTH_BIT"]
abbrev XX:=Nat->St->Prop
noncomputable abbrev D3:XX:=λz z=>False
noncomputable def St.deep(b:St)(m:Nat):St:=#[b.loc++eJ m az,b.U]
noncomputable def St.jU(b:St)(m:Nat):St:=#[b.loc.take<|b.loc.length-m,b.U]
abbrev ahd(X:XX)(K:V->St->Prop)(b:List<|Option V)(r:gT)(d:List O):Prop:=match r with
 |.ok v=>K v #[b,d]
 |.exc c=>X c #[b,d]
def Kw(c:gI)(X:XX)(f:Nat)(vs:List V)(b:St)(K:V->St->Prop):Prop:=c f vs b.U<|ahd X K b.loc
abbrev kPv(k:List P->Prop)(L:List P):Prop:=L.length<=gr/\k L
def JB(vs:List V)(k:List P->Prop):Prop:=bO (jr V.p? vs)<|kPv k
noncomputable def E.isNil:E->Bool
 |.nil=>J
 |_=>X
noncomputable def E.len(e:E):Nat:=match e with
 |.cons _ r=>r.len+1
 |_=>0
def B7(b:Bool)(x y:Prop):Prop:=match b with
 |true=>x
 |false=>y
abbrev kSo(k:Option Int->St->Prop)(b:St)(l:Int):Prop:=k (I l) b
abbrev kIx(k:Option Int->St->Prop)(l:V)(b:St):Prop:=bO (ixO l)<|kSo k b
def evO(n:Bool)(m:(V->St->Prop)->Prop)(b:St)(k:Option Int->St->Prop):Prop:=B7 n (k az b)<|m<|kIx k
abbrev MV:=St->(V->St->Prop)->Prop
abbrev MB:=St->(Bool->St->Prop)->Prop
abbrev MS:=St->(List V->St->Prop)->Prop
abbrev KV:=V->St->Prop
abbrev KB:=Bool->St->Prop
abbrev kAt(K:KV)(b:St)(v:V):Prop:=K v b
abbrev kB4(b:Operator)(K:KV)(c:St)(x y:P):Prop:=aec b x y<|kV K c
abbrev kB3(b:Operator)(K:KV)(c:St)(y:V)(x:P):Prop:=bO y.p?<|kB4 b K c x
abbrev kB2(b:Operator)(x:V)(K:KV)(y:V)(c:St):Prop:=bO x.p?<|kB3 b K c y
abbrev kB1(b:MV)(c:Operator)(K:KV)(x:V)(d:St):Prop:=b d<|kB2 c x K
abbrev agk(K:KV)(b:St)(i:Int):Prop:=K (.p<|.int<|-i) b
abbrev kNg(K:KV)(x:V)(b:St):Prop:=bO (x.p?.bind P.int?)<|agk K b
abbrev agI(K:KV)(c:St)(b:Bool):Prop:=K (.p<|.bool<|!b) c
abbrev kNo(K:KV)(x:V)(b:St):Prop:=bO (AE b.U x)<|agI K b
abbrev kBv(K:KV)(c:St)(b:Bool):Prop:=K (.p<|.bool b) c
abbrev kC2(c:CmpOp)(x:V)(K:KV)(y:V)(b:St):Prop:=bO (lq b.U c x y)<|kBv K b
abbrev kC1(b:MV)(c:CmpOp)(K:KV)(x:V)(d:St):Prop:=b d<|kC2 c x K
abbrev kIf(a b:MV)(K:KV)(r:Bool)(c:St):Prop:=B7 r (a c K)<|b c K
abbrev aha(c j:Nat)(K:KV)(x:V)(b:St):Prop:=bO (u5 b.U c j x)<|kAt K b
abbrev kPr(d:gI)(c f:Nat)(K:KV)(x:V)(b:St):Prop:=qO b.U c x=J/\Kw d D3 f [x] b K
abbrev agt(x:V)(K:KV)(y:V)(b:St):Prop:=bO (yT b.U x y)<|kAt K b
abbrev ahj(i:MV)(K:KV)(x:V)(b:St):Prop:=i b<|agt x K
abbrev ahz(x:V)(K:KV)(l h:Option Int)(b:St):Prop:=bO (QK b.U x l h)<|kV K b
abbrev afP(nh:Bool)(c:MV)(x:V)(K:KV)(l:Option Int)(b:St):Prop:=evO nh (c b) b<|ahz x K l
abbrev afS(nl:Bool)(c:MV)(nh:Bool)(d:MV)(K:KV)(x:V)(b:St):Prop:=evO nl (c b) b<|afP nh d x K
abbrev kRv(K:KV)(x:V)(b:St):Prop:=bO (aaC b.U x)<|kV K b
abbrev kCa(b:gI)(X:XX)(f:Nat)(K:KV)(vs:List V)(c:St):Prop:=Kw b X f vs c K
abbrev ahC(b:gI)(f:Nat)(x:V)(K:KV)(vs:List V)(c:St):Prop:=Kw b D3 f (x::vs) c K
abbrev ahx(d:gI)(as:MS)(c f:Nat)(K:KV)(x:V)(b:St):Prop:=qO b.U c x=J/\as b (ahC d f x K)
abbrev kBi(b:Operator)(K:KV)(vs:List V)(c:St):Prop:=HP c b vs K
abbrev afY(m:Operator)(x:V)(K:KV)(vs:List V)(b:St):Prop:=bmW b m x vs K
abbrev af4(as:MS)(m:Operator)(K:KV)(x:V)(b:St):Prop:=yX b.U m x=J/\as b (afY m x K)
abbrev kLs(K:KV)(vs:List V)(b:St):Prop:=JB vs<|adh K b
abbrev kTp(K:KV)(vs:List V)(b:St):Prop:=JB vs<|kC (kV K b) P.tup
abbrev kFr(K:KV)(v:V)(b:St):Prop:=Yw b v K
abbrev adu(K:List V->St->Prop)(v:V)(vs:List V)(b:St):Prop:=K (v::vs) b
abbrev YD(r:MS)(K:List V->St->Prop)(v:V)(b:St):Prop:=r b<|adu K v
abbrev kTn(K:KB)(b:Bool)(c:St):Prop:=K (!b) c
abbrev kBt(K:KB)(c:St)(b:Bool):Prop:=K b c
abbrev kT2(c:CmpOp)(x:V)(K:KB)(y:V)(b:St):Prop:=bO (lq b.U c x y)<|kBt K b
abbrev kT1(b:MV)(c:CmpOp)(K:KB)(x:V)(d:St):Prop:=b d<|kT2 c x K
abbrev kTv(K:KB)(x:V)(b:St):Prop:=bO (AE b.U x)<|kBt K b
abbrev aho(r:MB)(K:KB)(b:Bool)(c:St):Prop:=B7 b (r c K)<|K X c
abbrev agj(r:MB)(K:KB)(b:Bool)(c:St):Prop:=B7 b (K J c)<|r c K
abbrev ag4(r:MV)(K:KV)(v:V)(c:St)(b:Bool):Prop:=B7 b (r c K)<|K v c
abbrev agN(n:Bool)(r:MV)(K:KV)(v:V)(b:St):Prop:=B7 n (K v b)<|bO (AE b.U v)<|ag4 r K v b
abbrev ag9(r:MV)(K:KV)(v:V)(c:St)(b:Bool):Prop:=B7 (!b) (r c K)<|K v c
abbrev kOr(n:Bool)(r:MV)(K:KV)(v:V)(b:St):Prop:=B7 n (K v b)<|bO (AE b.U v)<|ag9 r K v b
abbrev af0(b:List P)(k:List P->St->Prop)(c:St)(y:P):Prop:=b.length<gr/\k (b++[y]) c
abbrev aeb(b:List P)(k:List P->St->Prop)(w:V)(c:St):Prop:=bO w.p?<|af0 b k c
abbrev ahH(elt:MV)(c:List P)(k:List P->St->Prop)(b:Bool)(d:St):Prop:=B7 b (elt d<|aeb c k)<|k c d
abbrev ahs(c:MB)(elt:MV)(b:List P)(k:List P->St->Prop)(d:St):Prop:=c d<|ahH elt b k
abbrev aeJ(t:V->St->(St->Prop)->Prop)(c:MB)(elt:MV)(x:P)(b:List P)(d:St)(k:List P->St->Prop):Prop:=t (.p x) d<|ahs c elt b k
abbrev adB(m:Nat)(K:KV)(ys:List P)(b:St):Prop:=K (.ref b.U.length)<|(b.jU m).push<|.list ys
abbrev ae4(step:P->List P->St->(List P->St->Prop)->Prop)(m:Nat)(K:KV)(b:St)(L:List P):Prop:=j0 step L [] (b.deep m)<|adB m K
abbrev aeX(step:P->List P->St->(List P->St->Prop)->Prop)(m:Nat)(K:KV)(x:V)(b:St):Prop:=bO (items b.U x)<|ae4 step m K b
abbrev kD1(elt:MV)(b:List P)(k:List P->St->Prop)(c:St):Prop:=B7 J (elt c<|aeb b k)<|k b c
abbrev adp(t:V->St->(St->Prop)->Prop)(elt:MV)(x:P)(b:List P)(c:St)(k:List P->St->Prop):Prop:=t (.p x) c<|kD1 elt b k
abbrev kD3(step:P->List P->St->(List P->St->Prop)->Prop)(b:List P)(k:List P->St->Prop)(c:St)(L:List P):Prop:=j0 step L b c k
abbrev kD4(step:P->List P->St->(List P->St->Prop)->Prop)(b:List P)(k:List P->St->Prop)(x:V)(c:St):Prop:=bO (items c.U x)<|kD3 step b k c
abbrev kD5(c:MV)(step:P->List P->St->(List P->St->Prop)->Prop)(b:List P)(k:List P->St->Prop)(d:St):Prop:=c d<|kD4 step b k
abbrev ad8(c:V->St->(St->Prop)->Prop)(d:MV)(step:P->List P->St->(List P->St->Prop)->Prop)(x:P)(b:List P)(e:St)(k:List P->St->Prop):Prop:=c (.p x) e<|kD5 d step b k
abbrev kTg(b:List V->St->(St->Prop)->Prop)(vs:List V)(K:St->Prop)(c:St):Prop:=b vs c K
abbrev kTu(b:List V->St->(St->Prop)->Prop)(n:Nat)(c:St)(K:St->Prop)(L:List P):Prop:=L.length=n/\b (L.map V.p) c K
abbrev kSa(c j:Nat)(v:V)(K:St->Prop)(x:V)(b:St):Prop:=qt b c j v x K
abbrev af8(v x:V)(K:St->Prop)(y:V)(b:St):Prop:=qN b v x y K
abbrev agR(i:MV)(v:V)(K:St->Prop)(x:V)(b:St):Prop:=i b<|af8 v x K
mutual
noncomputable def ev(k:gI)(X:XX):E->St->(V->St->Prop)->Prop
 |.loc i,d,K=>bO d.loc[i]?.join<|kAt K d
 |.c x,d,K=>K (.p x) d
 |.g j,d,K=>bO RJ[j]? (kV K d)
 |.bin q a b,d,K=>ev k X a d<|kB1 (ev k X b) q K
 |.neg a,d,K=>ev k X a d<|kNg K
 |.not a,d,K=>ev k X a d<|kNo K
 |.nK l,d,K=>Ii k X l d K
 |.zH l,d,K=>R9 k X l d K
 |.cmp q a b,d,K=>ev k X a d<|kC1 (ev k X b) q K
 |.ite t a b,d,K=>BH k X t d<|kIf (ev k X a) (ev k X b) K
 |.attr o c j,d,K=>ev k X o d<|aha c j K
 |.prop o c f,d,K=>ev k X o d<|kPr k c f K
 |.sub o i,d,K=>ev k X o d<|ahj (ev k X i) K
 |.slice o w y,d,K=>ev k X o d<|afS w.isNil (ev k X w) y.isNil (ev k X y) K
 |.rev o,d,K=>ev k X o d<|kRv K
 |.call f args,d,K=>yt k X args d<|kCa k X f K
 |.eN o c f args,d,K=>ev k X o d<|ahx k (yt k X args) c f K
 |.bi b args,d,K=>yt k X args d<|kBi b K
 |.bm m o args,d,K=>ev k X o d<|af4 (yt k X args) m K
 |.lst l,d,K=>yt k X l d<|kLs K
 |.tup l,d,K=>yt k X l d<|kTp K
 |.dict kb,d,K=>K (.ref d.U.length)<|d.push<|.dict kb []
 |.comp m t z M elt,d,K=>ev k X z d<|aeX (aeJ (asg k D3 t) (Br k D3 M)<|ev k D3 elt) m K
 |.FU m D r F H elt,d,K=>ev k X r d<|aeX (ad8 (asg k D3 D) (ev k D3 H)<|adp (asg k D3 F)<|ev k D3 elt) m K
 |.fz e,d,K=>ev k X e d<|kFr K
 |_,_,_=>False
noncomputable def yt(c:gI)(X:XX):E->St->(List V->St->Prop)->Prop
 |.nil,b,K=>K [] b
 |.cons e r,b,K=>ev c X e b<|YD (yt c X r) K
 |_,_,_=>False
noncomputable def BH(d:gI)(X:XX):E->St->(Bool->St->Prop)->Prop
 |.not a,c,K=>BH d X a c<|kTn K
 |.nK f,c,K=>Br d X f c K
 |.zH f,c,K=>RL d X f c K
 |.cmp g a b,c,K=>ev d X a c<|kT1 (ev d X b) g K
 |.v e,c,K=>ev d X e c<|kTv K
 |_,_,_=>False
noncomputable def Br(c:gI)(X:XX):E->St->(Bool->St->Prop)->Prop
 |.nil,b,K=>K J b
 |.cons e r,b,K=>BH c X e b<|aho (Br c X r) K
 |_,_,_=>False
noncomputable def RL(c:gI)(X:XX):E->St->(Bool->St->Prop)->Prop
 |.nil,b,K=>K au b
 |.cons e r,b,K=>BH c X e b<|agj (RL c X r) K
 |_,_,_=>False
noncomputable def Ii(b:gI)(X:XX):E->St->(V->St->Prop)->Prop
 |.cons e r,c,K=>ev b X e c<|agN r.isNil (Ii b X r) K
 |_,_,_=>False
noncomputable def R9(b:gI)(X:XX):E->St->(V->St->Prop)->Prop
 |.cons e r,c,K=>ev b X e c<|kOr r.isNil (R9 b X r) K
 |_,_,_=>False
noncomputable def asg(d:gI)(X:XX):E->V->St->(St->Prop)->Prop
 |.loc i,v,b,K=>i<b.loc.length/\K (b.var i v)
 |.tup e,v,b,K=>bO (v.p?.bind P.Vc)<|kTu (Kc d X e) e.len b K
 |.attr o c j,v,b,K=>ev d X o b<|kSa c j v K
 |.sub o i,v,b,K=>ev d X o b<|agR (ev d X i) v K
 |_,_,_,_=>False
noncomputable def Kc(c:gI)(X:XX):E->List V->St->(St->Prop)->Prop
 |.nil,vs,b,K=>vs=[]/\K b
 |.cons t d,vs,b,K=>match vs with
  |v::vs=>asg c X t v b<|kTg (Kc c X d) vs K
  |[]=>False
 |_,_,_,_=>False
end
abbrev agf(x:V)(k:KV)(c:St)(l:Nat×List UInt8)(b:List UInt8):Prop:=l.2.length+b.length<=gr/\k x (c.put l.1<|.sA<|l.2++b)
abbrev agC(x y:V)(k:KV)(b:St)(l:Nat×List UInt8):Prop:=bO (y.p?.bind P.iQ)<|agf x k b l
abbrev ahp(k:KV)(c:St)(a b:Int):Prop:=k (.p<|.int<|a+b) c
abbrev agx(y:V)(k:KV)(b:St)(a:Int):Prop:=bO (y.p?.bind P.int?)<|ahp k b a
def aab(b:St)(c:Operator)(x y:V)(k:V->St->Prop):Prop:=match c with
 |.Div=>bO (mbO b.U x)<|agC x y k b
 |.Add=>bO (x.p?.bind P.int?)<|agx y k b
 |_=>False
noncomputable def Lj(c:gI)(X:XX)(b:List E)(vs:List V)(d:St)(K:St->Prop):Prop:=match b,vs with
 |t::b,v::vs=>asg c X t v d<|kTg (Lj c X b) vs K
 |[],[]=>K d
 |_,_=>False
noncomputable def E.list:E->List E
 |.cons e r=>e::r.list
 |_=>[]
abbrev KF:=Fl->St->Prop
abbrev MF:=St->(Fl->St->Prop)->Prop
abbrev aeO(r:MF)(K:KF)(f:Fl)(b:St):Prop:=match f with
 |.next=>r b K
 |f=>K f b
abbrev kNx(K:KF)(b:St):Prop:=K .next b
abbrev ahr(r:MF)(K:KF)(i:Nat)(v:V)(b:St):Prop:=r (b.var i v) K
abbrev ag2(r:MF)(K:KF)(i:Nat)(b:St)(v:V):Prop:=Yw b v<|ahr r K i
abbrev kAs(t:V->St->(St->Prop)->Prop)(K:KF)(v:V)(b:St):Prop:=t v b<|kNx K
abbrev aew(i:Nat)(K:KF)(v:V)(b:St):Prop:=i<b.loc.length/\K .next (b.var i v)
abbrev aeP(n:Nat)(c:Bool)(d t:List V->St->(St->Prop)->Prop)(K:KF)(vs:List V)(b:St):Prop:=vs.length=n/\B7 c (d vs.reverse b<|kNx K) (t vs b<|kNx K)
abbrev ag1(i:Nat)(b:Operator)(x:V)(K:KF)(y:V)(c:St):Prop:=aab c b x y<|aew i K
abbrev agh(e:MV)(i:Nat)(b:Operator)(c:St)(K:KF)(x:V):Prop:=e c<|ag1 i b x K
abbrev afR(c j:Nat)(b:V)(K:KF)(z:V)(d:St):Prop:=qt d c j z b<|kNx K
abbrev agY(b:Operator)(c j:Nat)(d x:V)(K:KF)(y:V)(e:St):Prop:=aab e b x y<|afR c j d K
abbrev ahw(e:MV)(b:Operator)(c j:Nat)(d:V)(K:KF)(f:St)(x:V):Prop:=e f<|agY b c j d x K
abbrev agM(e:MV)(f:Operator)(c j:Nat)(K:KF)(b:V)(d:St):Prop:=bO (u5 d.U c j b)<|ahw e f c j b K d
abbrev agg(a b:MF)(K:KF)(r:Bool)(c:St):Prop:=B7 r (a c K)<|b c K
abbrev X0(t:V->St->(St->Prop)->Prop)(b:MF)(x:P)(c:St)(k:KF):Prop:=t (.p x) c λc=>b c k
abbrev ahc(step:P->St->(Fl->St->Prop)->Prop)(K:KF)(b:St)(L:List P):Prop:=Cp step L b K
abbrev agu(step:P->St->(Fl->St->Prop)->Prop)(K:KF)(x:V)(b:St):Prop:=bO (items b.U x)<|ahc step K b
abbrev kZ4(step:P->St->(Fl->St->Prop)->Prop)(K:KF)(b:St)(L ys:List P):Prop:=Cp step ((L.zip ys).map λz=>.tup [z.1,z.2]) b K
abbrev kZ3(step:P->St->(Fl->St->Prop)->Prop)(K:KF)(b:St)(y:V)(L:List P):Prop:=bO (y.p?.bind P.Dv)<|kZ4 step K b L
abbrev kZ2(step:P->St->(Fl->St->Prop)->Prop)(x:V)(K:KF)(y:V)(b:St):Prop:=bO (x.p?.bind P.Dv)<|kZ3 step K b y
abbrev kZ1(b:MV)(step:P->St->(Fl->St->Prop)->Prop)(K:KF)(x:V)(c:St):Prop:=b c<|kZ2 step x K
abbrev ahD(K:KF)(v:V)(b:St):Prop:=K (.ret v) b
abbrev afM(c i:Nat)(p:P)(K:KF)(d:Nat)(b:St):Prop:=gB d c=J/\i<b.loc.length/\K .next (b.var i<|.p p)
abbrev kEx(K:KF)(_:V)(b:St):Prop:=K .next b
noncomputable def ex(f:gI)(X:XX):S->St->(Fl->St->Prop)->Prop
 |.nil,d,K=>K .next d
 |.cons s r,d,K=>ex f X s d<|aeO (ex f X r) K
 |.Ug i r,d,K=>bO d.loc[i]?.join<|ag2 (ex f X r) K i d
 |.asg t e,d,K=>ev f X e d<|kAs (asg f X t) K
 |.yV i m x t g q elt,d,K=>(λk=>B7 x (ev f X (.fz<|.comp m t g q elt) d k)<|ev f X (.comp m t g q elt) d k)<|aew i K
 |.mV y l z,d,K=>yt f X z d<|aeP l.len y (Lj f X l.list.reverse) (Kc f X l) K
 |.aug t w e,d,K=>match t with
  |.loc i=>bO d.loc[i]?.join<|agh (ev f X e) i w d K
  |.attr o c j=>ev f X o d<|agM (ev f X e) w c j K
  |_=>False
 |.ifs t a b,d,K=>BH f X t d<|agg (ex f X a) (ex f X b) K
 |.yu t b,d,K=>∃n,sy (BH f X t) (ex f X b) n d K
 |.kP t g b,d,K=>ev f X g d<|agu (X0 (asg f X t)<|ex f X b) K
 |.MY t a b c,d,K=>ev f X a d<|kZ1 (ev f X b) (X0 (asg f X t)<|ex f X c) K
 |.ret e,d,K=>ev f X e d<|ahD K
 |.Px,d,K=>K (.ret<|.p .none) d
 |.pY c,d,_=>X c d
 |.Gv b c i p,d,K=>ex f (afM c i p K) b d K
 |.Hu b,d,K=>ex f D3 b d K
 |.ex e,d,K=>ev f X e d<|kEx K
 |.pass,d,K=>K .next d
 |.cont,d,K=>K .cont d
 |.dead,_,_=>False
noncomputable def kJ:Fl->V
 |.ret v=>v
 |_=>.p .none
noncomputable def r9(n:Nat)(vs:List V):List<|Option V:=vs.map I++eJ (n-vs.length) az
abbrev kXb(Q:gT->List O->Prop)(c:Nat)(b:St):Prop:=Q (.exc c) b.U
abbrev kRb(Q:gT->List O->Prop)(f:Fl)(b:St):Prop:=Q (.ok<|kJ f) b.U
def Yj(d:gI)(n:Nat)(body:S):Spec:=λvs e Q=>ex d (λc b=>Q (.exc c) b.U) body #[r9 n vs,e] λf b=>Q (.ok<|kJ f) b.U
noncomputable abbrev qg(ys:Array aq)(n:Nat):Obj:={ cls:=.type "tuple",data:=.seq ys n }
noncomputable abbrev fE(ys:Array aq)(n:Nat):Obj:={ cls:=.type "list",data:=.seq ys n }
noncomputable abbrev J9(a b c:aq):Obj:={ cls:=.type "range",data:=.fields [a,b,c].toArray }
noncomputable abbrev Rv(b:Array UInt8):Obj:={ cls:=.type "bytearray",data:=.bytearray b 0 }
inductive iw where
 |iP
 |led
 |own
 |fz (o:Obj)
 |fix (o:Obj)
 |OD (o:Obj)
noncomputable def iw.ctorIdx(x:iw):Nat:=x.casesOn 0 1 2 (λz=>3) (λz=>4) λz=>5
noncomputable abbrev RM:=Addr->iw
def iw.ok(r:iw)(x:Option Obj):Prop:=match r with
 |.iP=>True
 |.led=>∃o,x=I o
 |.own=>∃o,x=I o
 |.fz o=>x=I o
 |.fix o=>x=I o
 |.OD o=>∃b,x=I { o with slots:=b }
noncomputable def iw.stable:iw->Bool
 |.fz _=>J
 |.fix _=>J
 |.OD _=>J
 |_=>X
noncomputable def iw.lf:iw->Bool
 |.led=>J
 |.fz _=>J
 |_=>X
noncomputable def rV(R:RM)(a:Addr)(r:iw):RM:=λb=>if b=a then r else R b
theorem fu{R:RM}{r:iw}:rV R a r a=r:=if_pos B
theorem eO{R:RM}{b:Addr}{r:iw}(h:b≠a):rV R a r b=R b:=if_neg h
inductive cC {α β:Type} (R:α->β->Prop):List α->List β->Prop
 |nil:cC R [] []
 |cons {x:α}{y:β}{L:List α}{ys:List β}:R x y->cC R L ys->cC R (x::L) (y::ys)
structure Pw where
 prog:Zp
 w:dY
 K:Frag
noncomputable def afI(kb:Bool)(k:Ky)(v:aq):Bool:=match kb,k with
 |true,.b k=>isBytes k v
 |false,.i k=>v.isInt k
 |_,_=>X
def jh(c:Pw)(kb:Bool):KeyKind c.prog c.w Ky where
 is:=afI kb
 hash k:=match kb,k with
  |true,.b k=>(bytesKind c.prog c.w).hash k
  |false,.i k=>(intKind c.prog c.w).hash k
  |_,_=>0
 inj v a b ha hb:=by
  cases kb<;>cases a<;>induction b<;>first|show gE ha|cases ha|show gE hb|skip
  ·show congrArg Ky.i<|(intKind c.prog c.w).inj v _ _ ha hb
  ·show congrArg Ky.b<|(bytesKind c.prog c.w).inj v _ _ ha hb
 byValue a v h:=by
  cases kb<;>induction a<;>first|show gE h|cases h|skip
  ·show(intKind c.prog c.w).byValue _ v h
  ·show(bytesKind c.prog c.w).byValue _ v h
 pyHash:=λ{A E s a v Q} d h=>by
  cases kb<;>induction a<;>first|show gE d|cases d|skip
  ·show(intKind c.prog c.w).pyHash d h
  ·show(bytesKind c.prog c.w).pyHash d h
 eqBool:=λ{A E s a b u v Q} f d h=>by
  cases kb<;>cases a<;>induction b<;>first|show gE f|cases f|show gE d|skip
  ·show(intKind c.prog c.w).eqBool f d<|decide_eq_decide.mpr #[λe=>by injection e,congrArg Ky.i]▸h
  ·show(bytesKind c.prog c.w).eqBool f d<|decide_eq_decide.mpr #[λe=>by injection e,congrArg Ky.b]▸h
 «strs» a x t v h:=by
  cases kb<;>induction a<;>first|show gE h|cases h|skip
def DY(d:Pw)(kb:Bool)(o:Obj)(b:List<|Ky×aq):Prop:=∃c ep,o.ExactDict/\o.data=.dict c ep/\KeysOf (jh d kb) c/\Pairs (jh d kb) c.toList b/\(b.map (·.1)).Nodup
theorem DY.of{c:Pw}{b:List<|Ky×aq}(x:h.DictOf (jh c kb) a b):∃o,h.get? a=I o/\DY c kb o b:=by obtain⟨o,d,e,g,r⟩:=x;show#[o,g,d,e,r]
theorem DY.at{c:Pw}{b:List<|Ky×aq}(x:DY c kb o b)(g:h.get? a=I o):h.DictOf (jh c kb) a b:=by obtain⟨d,e,r⟩:=x;show#[o,d,e,g,r]
noncomputable def nu:Nat->List String
 |198=>["size", "known"]
 |228=>["place", "many", "octets"]
 |278=>["delta", "base_size", "size", "at"]
 |345=>["oid", "kind", "content", "base", "delta"]
 |388=>["hasher", "codec", "by_offset", "pieces", "length", "places"]
 |460=>["at", "number", "size", "base_at", "base_id", "data", "behind"]
 |523=>["most", "held", "length"]
 |586=>["scanned", "hasher", "lookup", "id_of", "kind_of", "depth_of", "place_of", "borrowed", "faults", "by_place", "by_name", "entries"]
 |707=>["octets", "hasher", "codec", "lookup", "scanned", "entries", "cache", "settled"]
 |_=>[]
structure ri(c:Nat)(Z:List cZ)(vs:List (Option aq)):Prop where
 len:vs.length=(nu c).length
 val:∀(i:Nat) nm,(nu c)[i]?=I nm->getL (cG nm) Z=I (vs[i]?).join
 no:∀nm:Str,nm∉(nu c).map cG->getL nm Z=I az
 cnt:Z.length<=vs.countP (·.isSome)
 lim:vs.length<=20
inductive IW (R:RM) (X:Array aq->Nat->Obj) (n:Nat) (T:List aq->Prop) (v:aq):Prop
 |mk (a ys m:_):v=.ref a->R a=.fz (X ys m)->n<=gr->T ys.toList->IW R X n T v
inductive Yd (R:RM) (c:Nat) (T:List aq->Prop) (v:aq):Prop
 |mk (a dx sl Z n vs:_):v=.ref a->R a=.fz #[.ref c,I dx,.plain,sl]->R dx=.fz (dictOf Z n)->ri c Z (vs.map I)->T vs->Yd R c T v
inductive Yp (W:Pw) (R:RM) (kb:Bool) (ks:List Ky) (n:Nat) (T:List aq->Prop) (v:aq):Prop
 |mk (a o kvs:_):v=.ref a->R a=.fz o->a≠sysModules->DY W kb o kvs->ks=kvs.map (·.1)->n<=gr->T (kvs.map (·.2))->Yp W R kb ks n T v
def Ul(d:Pw)(R:RM)(x:P):aq->Prop:=x.rec (motive_1:=λz=>aq->Prop) (motive_2:=λz=>List aq->Prop)
 (· = .none) (λb v=>v=.bool b) (λi v=>∃t,v=.int i t) (λs v=>(∃t,v=.str ⟨s.toArray⟩ t)/\s.length<=gr) (λs v=>(∃t,v=.bytes s.toArray t)/\s.length<=gr)
 (λL T=>IW R qg L.length T) (λL T=>IW R fE L.length T) (λc z T=>Yd R c T) (λkb e L T=>Yp d R kb e L.length T)
 (λf g v=>∃a t u x,v=.ref a/\R a=.fz (J9 (.int f t) (.int g u)<|.int 1 x)) (· = []) λz z a b vs=>vs.rec False λv vs z=>a v/\b vs
@[irreducible]def PR(b:Pw)(R:RM)(x:P)(v:aq):Prop:=Ul b R x v
theorem pr{b:Pw}{R:RM}{x:P}:PR b R x v ↔ Ul b R x v:=by unfold PR;show Iff.rfl
noncomputable abbrev sh(s:aA)(h:Heap)(t:Nat):aA:=#[h,s.gens,s.drawn,t,s.os]
structure G where
 R:RM
 ρ:List Addr
 σ:St
 s:aA
noncomputable abbrev G.U(g:G):List O:=g.σ.U
noncomputable abbrev G.loc(g:G):List<|Option V:=g.σ.loc
noncomputable abbrev G.get(g:G)(a:Addr):Option Obj:=g.s.heap.get? a
structure Cx where
 R0:RM
 gs:Array GenState
 dr:Drawn
 os:iq
 ρ0:List Addr
structure Fm where
 tab:List (Str×Option Nat)
 ds:List Addr
 cs:List (Str×Addr)
noncomputable def Fm.own(f:Fm):List Addr:=f.ds++f.cs.map (·.2)
noncomputable def Fm.nil:Fm:=#[[],[],[]]
structure Bs where
 W:Pw
 c:Cx
 fm:Fm
def VR(b:Pw)(g:G)(x:V)(v:aq):Prop:=match x with
 |.p x=>PR b g.R x v
 |.ref i=>∃a,g.ρ[i]?=I a/\v=.ref a
def OV(b:Pw)(g:G)(x:Option V)(v:Option aq):Prop:=match x,v with
 |none,az=>True
 |some x,I v=>VR b g x v
 |_,_=>False
def DR(b:Pw)(g:G)(p:Ky×V)(q:Ky×aq):Prop:=p.1=q.1/\VR b g p.2 q.2
def iJ(g:G)(i:Nat)(a:Addr)(o:Obj):Prop:=g.ρ[i]?=I a/\g.R a=.led/\g.get a=I o
inductive LO (W:Pw) (g:G) (i:Nat) (L:List P):Prop
 |mk (a ys n:_):iJ g i a (fE ys n)->L.length<=gr->cC (PR W g.R) L ys.toList->LO W g i L
inductive DO (W:Pw) (g:G) (i:Nat) (kb:Bool) (Z:List (Ky×V)):Prop
 |mk (a o kvs:_):iJ g i a o->a≠sysModules->DY W kb o kvs->Z.length<=gr->cC (DR W g) Z kvs->DO W g i kb Z
inductive NO (W:Pw) (g:G) (i:Nat) (c:Nat) (fs:List (Option V)):Prop
 |mk (a dx sl Z n vs:_):iJ g i a #[.ref c,I dx,.plain,sl]->iJ g (i+1) dx (dictOf Z n)->g.U[i+1]?=I .aux->ri c Z vs->cC (OV W g) fs vs->NO W g i c fs
def OR(d:Pw)(g:G)(i:Nat)(o:O):Prop:=match o with
 |.list L=>LO d g i L
 |.dict kb e=>DO d g i kb e
 |.inst c f=>NO d g i c f
 |.sA b=>∃a,iJ g i a (Rv b.toArray)/\b.length<=gr
 |.aux=>True
 |.gone=>True
inductive adI (W:Pw) (fm:Fm) (g:G) (i:Nat) (x:Str) (l:Nat):Prop
 |mk (d m):fm.ds[l]?=I d->g.s.heap.Ns d m->OV W g (g.loc[i]?).join (m x)->adI W fm g i x l
inductive ae2 (W:Pw) (fm:Fm) (g:G) (i:Nat) (x:Str):Prop
 |mk (a ov:_):fm.cs.lookup x=I a->g.s.heap.IsCell a ov->OV W g (g.loc[i]?).join ov->ae2 W fm g i x
structure LR(W:Pw)(fm:Fm)(g:G):Prop where
 len:g.loc.length=fm.tab.length
 ns:∀d∈fm.ds,∃m,g.s.heap.Ns d m
 cl:∀p∈fm.cs,∃ov,g.s.heap.IsCell p.2 ov
 vd:∀(i:Nat) x l,fm.tab[i]?=I (x,I l)->adI W fm g i x l
 vc:∀(i:Nat) x,fm.tab[i]?=I (x,az)->ae2 W fm g i x
structure Inv(b:Bs)(g:G):Prop where
 ok:∀a,(g.R a).ok<|g.get a
 kF:∀a o,b.W.K.lookup a=I o->g.R a=.fz o
 len:g.ρ.length=g.U.length
 nd:g.ρ.Nodup
 yo:∀a∈g.ρ,(g.R a).lf=J
 hr:∀(i:Nat) o,g.U[i]?=I o->OR b.W g i o
 zN:b.fm.own.Nodup
 own:∀a∈b.fm.own,g.R a=.own
 zw:b.fm.tab.Nodup
 lr:LR b.W b.fm g
 base:∀a,(b.c.R0 a).stable=J->g.R a=b.c.R0 a
 gens:g.s.gens=b.c.gs
 drawn:g.s.drawn=b.c.dr
 os:g.s.os=b.c.os
 pre:b.c.ρ0 <+: g.ρ
def u0(R b:RM):Prop:=∀a o,R a=.fz o->b a=.fz o
structure Le(g g':G):Prop where
 F:u0 g.R g'.R
 ρ:g.ρ <+: g'.ρ
theorem Le.refl(g:G):Le g g:=#[λz z h=>h,bH _]
theorem Le.trans{g h k:G}(a:Le g h)(b:Le h k):Le g k:=#[λx o e=>b.F x o<|a.F x o e,a.ρ.trans b.ρ]
section
variable {W:Pw}{R R':RM}{T T':α->β->Prop}
theorem cC.mono(h:∀x y,T x y->T' x y){L:List α}{ys:List β}(a:cC T L ys):cC T' L ys:=by
 induction a with
 |nil=>show .nil
 |cons x _ b=>show .cons (h _ _ x) b
theorem cC.len{L:List α}{ys:List β}(a:cC T L ys):L.length=ys.length:=by
 induction a with
 |nil=>rfl
 |cons _ _ b=>show congrArg xY b
theorem cC.append{L c:List α}{ys vs:List β}(a:cC T L ys)(b:cC T c vs):cC T (L++c)<|ys++vs:=by
 induction a with
 |nil=>show b
 |cons x _ d=>show .cons x d
theorem cC.get{L:List α}{ys:List β}(a:cC T L ys):∀{i:Nat}{x:α},L[i]?=I x->∃y,ys[i]?=I y/\T x y:=by
 induction a with
 |nil=>intro i x e;show bh e
 |cons x _ b=>
  intro i z e;induction i with
  |zero=>obtain rfl:=aV e;show#[_,rfl,x]
  |succ i=>show b e
theorem cC.drop{L:List α}{ys:List β}(a:cC T L ys):∀n,cC T (L.drop n)<|ys.drop n:=by
 induction a with
 |nil=>intro n;induction n<;>show .nil
 |cons x y b=>
  intro n;induction n with
  |zero=>show .cons x y
  |succ n=>show b n
theorem cC.take{L:List α}{ys:List β}(a:cC T L ys):∀n,cC T (L.take n)<|ys.take n:=by
 induction a with
 |nil=>intro n;induction n<;>show .nil
 |cons x y b=>
  intro n;induction n with
  |zero=>show .nil
  |succ n=>show .cons x<|b n
theorem cC.rev{L:List α}{ys:List β}(a:cC T L ys):cC T L.reverse ys.reverse:=by
 induction a with
 |nil=>show .nil
 |cons x y b=>simp only[lJ,lJ];show b.append<|.cons x .nil
theorem cC.set{L:List α}{ys:List β}{u:α}{v:β}(h:T u v)(a:cC T L ys):∀i,cC T (L.set i u)<|ys.set i v:=by
 induction a with
 |nil=>intro n;induction n<;>show .nil
 |cons x y b=>
  intro n;induction n with
  |zero=>show .cons h y
  |succ n=>show .cons x<|b n
theorem cC.erase{L:List α}{ys:List β}(a:cC T L ys):∀i,cC T (L.eraseIdx i)<|ys.eraseIdx i:=by
 induction a with
 |nil=>intro n;induction n<;>show .nil
 |cons x y b=>
  intro n;induction n with
  |zero=>show y
  |succ n=>show .cons x<|b n
theorem cC.map{b c:Type}{U:b->c->Prop}{f:α->b}{f':β->c}(h:∀x y,T x y->U (f x) (f' y)){L:List α}{ys:List β}(a:cC T L ys):cC U (L.map f)<|ys.map f':=by
 induction a with
 |nil=>show .nil
 |cons x _ d=>show .cons (h _ _ x) d
theorem cC.all{c:Type}{f:α->Option c}{U:c->β->Prop}(h:∀x y z,T x y->f x=I z->U z y){L:List α}{ys:List β}(a:cC T L ys):∀{b:List c},jr f L=I b->cC U b ys:=by
 induction a with
 |nil=>intro b e;injection e with e;subst e;show .nil
 |cons x _ d=>intro b e;show fB e λz g k=>?_;show mS k λr l m=>m▸?_;show .cons (h _ _ _ x g)<|d l
abbrev SqR(W:Pw)(R:RM)(X:Array aq->Nat->Obj)(L:List P):=IW R X L.length<|cC (PR W R) L
abbrev InR(W:Pw)(R:RM)(c:Nat)(b:List P):=Yd R c<|cC (PR W R) b
abbrev DiR(W:Pw)(R:RM)(kb:Bool)(b:List Ky)(L:List P):=Yp W R kb b L.length<|cC (PR W R) L
abbrev PT(W:Pw)(R:RM)(L:List P):List aq->Prop:=P.rec_1 (motive_1:=λz=>aq->Prop) (motive_2:=λz=>List aq->Prop)
 (· = .none) (λb v=>v=.bool b) (λi v=>∃t,v=.int i t) (λs v=>(∃t,v=.str ⟨s.toArray⟩ t)/\s.length<=gr) (λs v=>(∃t,v=.bytes s.toArray t)/\s.length<=gr)
 (λL T=>IW R qg L.length T) (λL T=>IW R fE L.length T) (λc z T=>Yd R c T) (λkb d L T=>Yp W R kb d L.length T)
 (λe f v=>∃a t u x,v=.ref a/\R a=.fz (J9 (.int e t) (.int f u)<|.int 1 x)) (· = []) (λz z a b vs=>vs.rec False λv vs z=>a v/\b vs) L
theorem pt{L:List P}:∀{vs:List aq},PT W R L vs ↔ cC (PR W R) L vs:=by
 induction L with
 |nil=>show λ{vs}=>#[λe=>by cases (e:vs=[]);show .nil,λa=>by cases a;show(rfl:[]=[])]
 |cons x L d=>
  intro vs;induction vs with
  |nil=>show#[λh=>(h:False).elim,λa=>nomatch a]
  |cons v vs=>show#[λh=>.cons (pr.mpr (h:Ul W R x v/\PT W R L vs).1)<|d.mp (h:Ul W R x v/\PT W R L vs).2,λa=>by cases a with|cons b c=>show(#[pr.mp b,d.mpr c]:Ul W R x v/\PT W R L vs)]
theorem PR.none:PR W R .none .none:=pr.mpr (rfl:aq.none=_)
theorem PR.bool(b:Bool):PR W R (.bool b)<|.bool b:=pr.mpr (rfl:aq.bool b=_)
theorem PR.int(i:Int)(t:Tok):PR W R (.int i)<|.int i t:=pr.mpr (#[t,rfl]:∃u,aq.int i t=.int i u)
theorem PR.str(s:_)(t:_)(l:s.length<=gr):PR W R (.str s)<|.str ⟨s.toArray⟩ t:=pr.mpr (#[#[t,rfl],l]:(∃u,aq.str ⟨s.toArray⟩ t=.str ⟨s.toArray⟩ u)/\_)
theorem PR.bytes(s:_)(t:_)(l:s.length<=gr):PR W R (.bytes s)<|.bytes s.toArray t:=pr.mpr (#[#[t,rfl],l]:(∃u,aq.bytes s.toArray t=.bytes s.toArray u)/\_)
theorem PR.tup{L:List P}{a:Addr}{ys:Array aq}{n:Nat}(e:R a=.fz (qg ys n))(l:L.length<=gr)(r:cC (PR W R) L ys.toList):PR W R (.tup L)<|.ref a:=pr.mpr<|IW.mk a ys n B e l<|pt.mpr r
theorem PR.lst{L:List P}{ys:Array aq}(e:R a=.fz (fE ys n))(l:L.length<=gr)(r:cC (PR W R) L ys.toList):PR W R (.lst L)<|.ref a:=pr.mpr<|IW.mk a ys n B e l<|pt.mpr r
theorem PR.inst{c:Nat}{k:List P}{b:Addr}{l:Array<|Option aq}{g:List cZ}{vs:List aq}(e:R a=.fz #[.ref c,I b,.plain,l])(d:R b=.fz (dictOf g n))(f:ri c g<|vs.map I)(r:cC (PR W R) k vs):PR W R (.inst c k)<|.ref a:=pr.mpr<|Yd.mk a b l g n vs B e d f<|pt.mpr r
theorem PR.mw{c:List Ky}{L:List P}{b:List<|Ky×aq}(e:R a=.fz o)(n:a≠sysModules)(d:DY W kb o b)(k:c=b.map (·.1))(l:L.length<=gr)(r:cC (PR W R) L (b.map (·.2))):PR W R (.mw kb c L)<|.ref a:=pr.mpr<|Yp.mk a o b B e n d k l<|pt.mpr r
theorem PR.Tj{c d:Int}{u x:Tok}(e:R a=.fz (J9 (.int c t) (.int d u)<|.int 1 x)):PR W R (.Tj c d)<|.ref a:=pr.mpr (#[a,t,u,x,rfl,e]:∃b t u x,aq.ref a=.ref b/\R b=.fz (J9 (.int c t) (.int d u)<|.int 1 x))
theorem IW.mono{X:Array aq->Nat->Obj}{T T':List aq->Prop}(S:u0 R R')(t:∀vs,T vs->T' vs)(h:IW R X n T v):IW R' X n T' v:=by obtain⟨a,ys,m,e,f,l,r⟩:=h;show#[a,ys,m,e,S _ _ f,l,t _ r]
theorem PR.mono(S:u0 R R'){x:P}(h:PR W R x v):PR W R' x v:=by
 show pr.mpr (P.rec (motive_1:=λx=>∀v,Ul W R x v->Ul W R' x v) (motive_2:=λL=>∀vs,PT W R L vs->PT W R' L vs) (λZ h=>h) (λZ Z h=>h) (λZ Z h=>h) (λZ Z h=>h) (λZ Z h=>h)
  (λZ t Z h=>IW.mono S t h) (λZ t Z h=>IW.mono S t h) (λc Z t v h=>?_) (λkb p L t v h=>?_) (λq w v h=>?_) (λZ h=>h) (λx L a b vs h=>?_) x v (pr.mp h))
 ·obtain⟨a,y,z,D,n,vs,e,f,g,l,r⟩:=(h:Yd R c (PT W R _) v);show(#[a,y,z,D,n,vs,e,S _ _ f,S _ _ g,l,t _ r]:Yd R' c (PT W R' _) v)
 ·obtain⟨a,o,m,e,f,n,d,k,l,r⟩:=(h:Yp W R kb p L.length (PT W R L) v);show(#[a,o,m,e,S _ _ f,n,d,k,l,t _ r]:Yp W R' kb p L.length (PT W R' L) v)
 ·obtain⟨a,t,u,x,e,f⟩:=(h:∃b t u x,v=.ref b/\R b=.fz (J9 (.int q t) (.int w u)<|.int 1 x));show(#[a,t,u,x,e,S _ _ f]:∃b t u x,v=.ref b/\R' b=.fz (J9 (.int q t) (.int w u)<|.int 1 x))
 ·induction vs with
  |nil=>show h
  |cons v vs=>show(#[a v (h:Ul W R x v/\PT W R L vs).1,b vs (h:Ul W R x v/\PT W R L vs).2]:Ul W R' x v/\PT W R' L vs)
theorem F5.mono(S:u0 R R'){L:List P}(h:cC (PR W R) L ys):cC (PR W R') L ys:=h.mono λz z h=>h.mono S
theorem PR.none_of(h:PR W R .none v):v=.none:=pr.mp h
theorem PR.zG{b:Bool}(h:PR W R (.bool b) v):v=.bool b:=pr.mp h
theorem PR.fU{b:Int}(h:PR W R (.int b) v):∃t,v=.int b t:=pr.mp h
theorem PR.nq{b:List Nat}(h:PR W R (.str b) v):(∃t,v=.str ⟨b.toArray⟩ t)/\b.length<=gr:=pr.mp h
theorem PR.f7{b:List UInt8}(h:PR W R (.bytes b) v):(∃t,v=.bytes b.toArray t)/\b.length<=gr:=pr.mp h
theorem PR.qM{L:List P}(h:PR W R (.tup L) v):SqR W R qg L v:=IW.mono (λz z h=>h) (λz=>pt.mp)<|pr.mp h
theorem PR.oz{L:List P}(h:PR W R (.lst L) v):SqR W R fE L v:=IW.mono (λz z h=>h) (λz=>pt.mp)<|pr.mp h
theorem PR.EP{c:Nat}{b:List P}(h:PR W R (.inst c b) v):InR W R c b v:=by obtain⟨a,d,k,m,n,vs,e,f,g,l,r⟩:=(pr.mp h:Yd R c (PT W R b) v);show#[a,d,k,m,n,vs,e,f,g,l,pt.mp r]
theorem PR.IX{b:List Ky}{L:List P}(h:PR W R (.mw kb b L) v):DiR W R kb b L v:=by obtain⟨a,o,c,e,f,n,d,k,l,r⟩:=(pr.mp h:Yp W R kb b L.length (PT W R L) v);show#[a,o,c,e,f,n,d,k,l,pt.mp r]
theorem PR.ER{b c:Int}(h:PR W R (.Tj b c) v):∃a t u x,v=.ref a/\R a=.fz (J9 (.int b t) (.int c u)<|.int 1 x):=pr.mp h
theorem PR.vals{C:aq->Prop}{x:P}(h:PR W R x v)(n:C .none)(b:∀b,C<|.bool b)(i:∀i t,C<|.int i t)(s:∀s t,C<|.str s t)(y:∀b t,C<|.bytes b t)(r:∀a,C<|.ref a):C v:=by
 induction x using P.casesOn with
 |none=>show h.none_of▸n
 |bool=>show h.zG▸b _
 |int=>obtain⟨_,rfl⟩:=h.fU;show i ..
 |str=>obtain⟨⟨_,rfl⟩,_⟩:=h.nq;show s ..
 |bytes=>obtain⟨⟨_,rfl⟩,_⟩:=h.f7;show y ..
 |tup=>obtain⟨_,_,_,rfl,_⟩:=h.qM;show r _
 |lst=>obtain⟨_,_,_,rfl,_⟩:=h.oz;show r _
 |inst=>obtain⟨_,_,_,_,_,_,rfl,_⟩:=h.EP;show r _
 |mw=>obtain⟨_,_,_,rfl,_⟩:=h.IX;show r _
 |Tj=>obtain⟨_,_,_,_,rfl,_⟩:=h.ER;show r _
variable {g g':G}
theorem VR.mono(L:Le g g'){x:V}(h:VR W g x v):VR W g' x v:=by
 induction x with
 |p x=>show PR.mono L.F h
 |ref i=>obtain⟨a,e,q⟩:=h;obtain⟨t,b⟩:=L.ρ;show#[a,by show(b)▸(bM (aR.mp e).1).trans e,q]
theorem OV.mono(L:Le g g'){x:Option V}{v:Option aq}(h:OV W g x v):OV W g' x v:=by cases x<;>induction v<;>first|show h|show VR.mono L h
theorem DR.mono(L:Le g g'){x:Ky×V}{v:Ky×aq}(h:DR W g x v):DR W g' x v:=#[h.1,h.2.mono L]
end
theorem ie(h:Heap):h.get? h.objs.size=az:=by
 induction e:h.get? h.objs.size with
 |none=>rfl
 |some o=>show absurd (dF e)<|cP _
theorem iw.Ql{r:iw}(h:r.lf=J):r≠.iP:=λe=>by replace h:=(e)▸h;cases h
theorem iw.zm{r:iw}{x y:Option Obj}(h:r≠.iP->∀o,x=I o->y=I o)(k:r.ok x):r.ok y:=by
 induction r with
 |iP=>trivial
 |led=>obtain⟨o,e⟩:=k;show#[o,h (λh=>by cases h) o e]
 |own=>obtain⟨o,e⟩:=k;show#[o,h (λh=>by cases h) o e]
 |fz o=>show h (λh=>by cases h) o k
 |fix o=>show h (λh=>by cases h) o k
 |OD o=>obtain⟨b,e⟩:=k;show#[b,h (λh=>by cases h) _ e]
abbrev G.to(g:G)(R:RM)(h:Heap)(t:Nat):G:=#[R,g.ρ,g.σ,sh g.s h t]
section
variable {W:Pw}{b:Bs}{g g':G}{t:Nat}
theorem OR.loc{W:Pw}{g:G}{o:O}{p:List<|Option V}(h:OR W g i o):OR W #[g.R,g.ρ,#[p,g.U],g.s] i o:=by
 induction o with
 |list L=>show by obtain⟨a,b,c,d,e,f⟩:=h;show#[a,b,c,d,e,f]
 |dict kb q=>show by obtain⟨a,b,c,d,e,f,j,k⟩:=h;show#[a,b,c,d,e,f,j,k]
 |inst c r=>show by obtain⟨a,b,c,d,e,f,j,k,l,m,n⟩:=h;show#[a,b,c,d,e,f,j,k,l,m,n]
 |_=>show h
theorem OR.congr{o:O}(K:Le g g')(k:∀a e,iJ g i a e->iJ g' i a e)(p:g.U[i+1]?=I .aux->g'.U[i+1]?=I .aux/\∀a e,iJ g (i+1) a e->iJ g' (i+1) a e)(x:OR W g i o):OR W g' i o:=by
 induction o with
 |list L=>obtain⟨a,ys,n,l,h,r⟩:=x;show#[a,ys,n,k _ _ l,h,F5.mono K.F r]
 |dict kb q=>obtain⟨a,o,m,l,n,d,h,r⟩:=x;show#[a,o,m,k _ _ l,n,d,h,r.mono λZ Z h=>h.mono K]
 |inst c H=>obtain⟨a,y,z,q,n,vs,M,D,w,f,r⟩:=x;show#[a,y,z,q,n,vs,k _ _ M,(p w).2 _ _ D,(p w).1,f,r.mono λZ Z h=>h.mono K]
 |sA b=>obtain⟨a,l,h⟩:=x;show#[a,k _ _ l,h]
 |_=>trivial
theorem s6{d:Addr}{m:Str->Option aq}(q:∀o,h.get? d=I o->∃c,h'.get? d=I { o with slots:=c })(x:h.Ns d m):h'.Ns d m:=by obtain⟨o,f,k,e,r⟩:=x;obtain⟨c,l⟩:=q o e;show#[_,f,k,l,r]
theorem oM{d:Addr}{v:Option aq}(q:∀o,h.get? d=I o->∃c,h'.get? d=I { o with slots:=c })(x:h.IsCell d v):h'.IsCell d v:=by obtain⟨o,e,r⟩:=x;show let ⟨c,f⟩:=q o e;#[_,f,r]
theorem mem_lookup{l:List<|Str×Addr}{x:Str}(e:l.lookup x=I a):(x,a)∈l:=by
 induction l with
 |nil=>show bh e
 |cons p r c=>
  rw[eK]at e;cases z:x==p.1 with
  |true=>rw[z]at e;obtain rfl:=eq_of_beq z;injection e with e;subst e;show .head _
  |false=>rw[z]at e;show .tail _<|c e
theorem Fm.sI{f:Fm}{d:Addr}(h:d∈f.ds):d∈f.own:=aU _ h
theorem Fm.zX{f:Fm}{p:Str×Addr}(h:p∈f.cs):p.2∈f.own:=aG _<|fQ h
theorem LR.congr{fm:Fm}(L:Le g g')(f:g'.loc=g.loc)(q:∀a∈fm.own,∀o,g.get a=I o->∃z,g'.get a=I { o with slots:=z })(x:LR W fm g):LR W fm g' where
 len:=(congrArg List.length f).trans x.len
 ns d hd:=let ⟨m,k⟩:=x.ns d hd;#[m,s6 (q d<|Fm.sI hd) k]
 cl p U:=let ⟨m,k⟩:=x.cl p U;#[m,oM (q _<|Fm.zX U) k]
 vd i y l e:=by obtain⟨d,m,c,r,w⟩:=x.vd i y l e;show#[d,m,c,s6 (q d<|Fm.sI<|dM c) r,bS f<|w.mono L]
 vc i y e:=by obtain⟨a,D,c,r,w⟩:=x.vc i y e;show#[a,D,c,oM (q a<|Fm.zX<|mem_lookup c) r,f▸w.mono L]
theorem Inv.free(c:Inv b g)(e:g.get a=az):g.R a=.iP:=by
 have:=c.ok a;replace this:=(e)▸this;induction r:g.R a with
 |iP=>rfl
 |_=>replace this:=(r)▸this;first | (obtain⟨_,z⟩:=this;show bh z) | show bh this
theorem Inv.there(c:Inv b g){a:Addr}(e:g.R a≠.iP):∃o,g.get a=I o:=by
 induction h:g.get a with
 |none=>show absurd (c.free h) e
 |some o=>show#[o,rfl]
theorem Inv.fh(c:Inv b g)(e:g.R a=.fz o):g.get a=I o:=by have:=c.ok a;rw[e]at this;show this
theorem Inv.za(c:Inv b g):b.W.K.In g.s.heap:=λa o e=>c.fh<|c.kF a o e
theorem Inv.gen{d:Cx}{k:RM}(w:Inv b g)(ok:∀a,(k a).ok<|h'.get? a)(q:∀a,g.R a≠.iP->k a=g.R a)(m:∀a o,g.R a=.led->g.get a=I o->h'.get? a=I o)
  (p:∀a o,g.R a=.own->g.get a=I o->∃r,h'.get? a=I { o with slots:=r }) (base:∀a,(d.R0 a).stable=J->k a=d.R0 a) (e:d.gs=b.c.gs/\d.dr=b.c.dr/\d.os=b.c.os/\d.ρ0=b.c.ρ0):Inv #[b.W,d,b.fm]<|g.to k h' t:=by
 have L:Le g<|g.to k h' t:=#[λa o e=>(q a<|by rw[e];nofun).trans e,bH _];have l:∀i a o,iJ g i a o->iJ (g.to k h' t) i a o:=λi a o h=>#[h.1,(q a<|by rw[h.2.1];nofun).trans h.2.1,m a o h.2.1 h.2.2];show{
  ok:=ok
  kF:=λa o e=>L.F a o<|w.kF a o e
  len:=w.len
  nd:=w.nd
  yo:=λa f=>(congrArg iw.lf<|q a<|iw.Ql<|w.yo a f).trans<|w.yo a f
  hr:=λi o e=>(w.hr i o e).congr L (l i) λz=>#[z,l _]
  zN:=w.zN
  own:=λa f=>(q a<|by rw[w.own a f];nofun).trans<|w.own a f
  zw:=w.zw
  lr:=w.lr.congr L B λa f o e=>p a o (w.own a f) e
  base:=base
  gens:=w.gens.trans e.1.symm
  drawn:=w.drawn.trans e.2.1.symm
  os:=w.os.trans e.2.2.1.symm
  pre:=bS (e.2.2.2) w.pre }
theorem Inv.role(k:Inv b g){r:iw}(t:_)(d:g.R a=.iP)(f:r.ok<|h'.get? a)(q:∀b o,g.R b≠.iP->g.get b=I o->h'.get? b=I o):Inv b<|g.to (rV g.R a r) h' t:=by
 have c:∀x,g.R x≠.iP->x≠a:=λx h e=>h<|e▸d;show k.gen (λx=>?_) (λx h=>eO<|c x h) (λx o e=>q x o<|by rw[e];nofun) (λx o e z=>#[o.slots,q x o (by rw[e];nofun) z]) (λx h=>?_) #[rfl,rfl,rfl,rfl]
 ·by_cases e:x=a
  ·subst e;rw[fu];show f
  ·show(eO e)▸iw.zm (λn o z=>q x o n z) (k.ok x)
 ·have:=k.base x h;show(eO (c x λz=>by replace h:=(z)▸(this)▸h;cases h))▸this
theorem Inv.only(c:Inv b g)(t:_)(q:∀b o,g.R b≠.iP->g.get b=I o->h'.get? b=I o):Inv b<|g.to g.R h' t:=
 c.gen (λx=>iw.zm (λn o z=>q x o n z)<|c.ok x) (λy y=>rfl) (λx o e=>q x o<|by rw[e];nofun) (λx o e z=>#[o.slots,q x o (by rw[e];nofun) z]) c.base #[rfl,rfl,rfl,rfl]
theorem Inv.heap(c:Inv b g)(t:Nat)(q:∀b o,g.get b=I o->h'.get? b=I o):Inv b<|g.to g.R h' t:=c.only t λb o z=>q b o
theorem Inv.toks(c:Inv b g)(t:Nat):Inv b #[g.R,g.ρ,g.σ,sh g.s g.s.heap t]:=c.heap t λz z e=>e
theorem Inv.flight(d:Inv b g)(t:_)(q:∀a o,g.R a≠.iP->g.get a=I o->((g.R a=.own∨∃o,g.R a=.OD o)∨h'.get? a=I o)/\∃c,h'.get? a=I { o with slots:=c }):Inv b<|g.to g.R h' t:=by
 show d.gen (λa=>?_) (λy y=>rfl) (λa o e z=>?_) (λa o e z=>(q a o (by rw[e];nofun) z).2) d.base #[rfl,rfl,rfl,rfl]
 ·have k:=d.ok a;have h:=q a;induction r:g.R a with
  |iP=>trivial
  |led=>rw[r]at k h;obtain⟨o,e⟩:=k;obtain⟨_,c,z⟩:=h o nofun e;show#[_,z]
  |own=>rw[r]at k h;obtain⟨o,e⟩:=k;obtain⟨_,c,z⟩:=h o nofun e;show#[_,z]
  |fz o=>rw[r]at k h;rcases(h o nofun k).1 with (z | ⟨_,z⟩) | z<;>first|cases z|show z
  |fix o=>rw[r]at k h;rcases(h o (λh=>by cases h) k).1 with (z | ⟨_,z⟩) | z<;>first|cases z|show z
  |OD o=>rw[r]at k h;obtain⟨c,e⟩:=k;obtain⟨_,c,z⟩:=h _ (λh=>by cases h) e;show#[c,z]
 ·rcases(q a o (by rw[e];nofun) z).1 with (z | ⟨_,z⟩) | z
  ·replace z:=(e)▸z;cases z
  ·replace z:=(e)▸z;cases z
  ·show z
theorem Inv.freeze(k:Inv b g)(t:_)(c:g.get a=az)(d:h'.get? a=I o)(q:∀b o,g.get b=I o->h'.get? b=I o) :
  Le g (g.to (rV g.R a<|.fz o) h' t)/\Inv b (g.to (rV g.R a<|.fz o) h' t):=
 #[#[λx f e=>(eO λz=>by replace e:=(k.free c)▸(z)▸e;cases e).trans e,bH _],k.role t (k.free c) d λb o y=>q b o]
noncomputable def Cx.hold(c:Cx)(a:Addr)(o:Obj):Cx:={ c with R0:=rV c.R0 a (.fix o) }
noncomputable abbrev Bs.hold(b:Bs)(a:Addr)(o:Obj):Bs:=#[b.W,b.c.hold a o,b.fm]
noncomputable abbrev G.hold(g:G)(a:Addr)(o:Obj):G:=#[rV g.R a<|.fix o,g.ρ,g.σ,g.s]
theorem Inv.hold(l:Inv b g)(d:g.R a=.iP)(f:g.get a=I o):Inv (b.hold a o) (g.hold a o)/\Le g (g.hold a o):=by
 have m:=l.role (r:=.fix o) g.s.toks d f λy y y e=>e;show#[{ m with base:=λx h=>?_ },λx k e=>(eO λz=>by replace e:=(d)▸(z)▸e;cases e).trans e,bH _];change rV g.R a (.fix o) x=rV b.c.R0 a (.fix o) x;by_cases e:x=a
 ·subst e;simp only[fu,fu]
 ·rw[eO e,eO e];have h:(rV b.c.R0 a (.fix o) x).stable=J:=h;rw[eO e]at h;show l.base x h
theorem Inv.Zz(w:Inv (b.hold a o) g)(m:(b.c.R0 a).stable=X) :
  g.get a=I o/\Inv b #[rV g.R a .iP,g.ρ,g.σ,g.s]/\Le g #[rV g.R a .iP,g.ρ,g.σ,g.s]:=by
 have k:=by have:=w.base a;rw[show(b.hold a o).c.R0 a=.fix o from fu]at this;show this rfl
 have p:=by have:=w.ok a;rw[k]at this;show this
 have f:∀x,g.R x≠.fix o->x≠a:=λx h e=>h<|e▸k;have L:Le g #[rV g.R a .iP,g.ρ,g.σ,g.s]:=#[λx q e=>(eO<|f x<|by show bS (e) ?_;nofun).trans e,bH _];have l:∀i x o,iJ g i x o->iJ #[rV g.R a .iP,g.ρ,g.σ,g.s] i x o:=λi x o h=>#[h.1,(eO<|f x<|by show bS (h.2.1) ?_;nofun).trans h.2.1,h.2.2];show#[p,?_,L];show{
  ok:=λx=>by
   by_cases e:x=a
   ·subst e;change(rV g.R x .iP x).ok _;rw[fu];trivial
   ·change(rV g.R a .iP x).ok _;show bS (eO e)<|w.ok x
  kF:=λa o e=>L.F a o<|w.kF a o e
  len:=w.len
  nd:=w.nd
  yo:=λx d=>(congrArg iw.lf<|eO (f x λz=>by have:=w.yo x d;replace this:=(z)▸this;show gE this)).trans<|w.yo x d
  hr:=λi o e=>(w.hr i o e).congr L (l i) λz=>#[z,l _]
  zN:=w.zN
  own:=λx d=>(eO<|f x<|by show bS (w.own x d) ?_;nofun).trans<|w.own x d
  zw:=w.zw
  lr:=w.lr.congr L B λa r o e=>#[o.slots,e]
  base:=λx h=>by
   have e:x≠a:=λe=>by replace h:=(m)▸(e)▸h;show gE h
   change rV g.R a .iP x=_
   show(eO e)▸?_
   have:=w.base x
   rw[show(b.hold a o).c.R0 x=b.c.R0 x from eO e]at this
   show this h
  gens:=w.gens
  drawn:=w.drawn
  os:=w.os
  pre:=w.pre }
end
section
variable {W:Pw}{b:Bs}{g g':G}{t:Nat}
theorem oF{l:List α}(n:l.Nodup){x:α}(c:l[i]?=I x)(d:l[j]?=I x):i=j:=
 (List.getElem?_inj (aR.mp c).1 n).mp (c.trans d.symm)
theorem Inv.Lc(D:Inv b g){as:List Addr}{os:List O}(t:_)(l:as.length=os.length)(nd:as.Nodup)(f:∀a∈as,g.R a=.iP/\∃o,h'.get? a=I o)(q:∀a o,g.R a≠.iP->g.get a=I o->h'.get? a=I o)
  {g':G} (m:g'=#[λx=>if x∈as then .led else g.R x,g.ρ++as,#[g.loc,g.U++os],sh g.s h' t]) (x:∀j o,os[j]?=I o->OR b.W g' (g.U.length+j) o):Inv b g'/\Le g g':=by
 subst m;have k:∀x,g.R x≠.iP->x∉as:=λx h z=>h (f x z).1;have d:∀x,g.R x≠.iP->(if x∈as then iw.led else g.R x)=g.R x:=λx h=>if_neg<|k x h;have L:Le g #[λx=>if x∈as then .led else g.R x,g.ρ++as,#[g.loc,g.U++os],sh g.s h' t]:=#[λx o e=>(d x<|by rw[e];nofun).trans e,kM _ _];have old:∀{i x o},iJ g i x o->iJ #[λx=>if x∈as then .led else g.R x,g.ρ++as,#[g.loc,g.U++os],sh g.s h' t] i x o:=λ{i x o} h=>
  #[(bM (aR.mp h.1).1).trans h.1,(d x<|by rw[h.2.1];nofun).trans h.2.1,q x o (by rw[h.2.1];nofun) h.2.2]
 show#[?_,L];show{
  ok:=λa=>by
   change(if a∈as then iw.led else g.R a).ok<|h'.get? a
   by_cases h:a∈as
   ·rw[if_pos h];show(f a h).2
   ·rw[if_neg h];show iw.zm (λn o e=>q a o n e)<|D.ok a
  kF:=λa o e=>L.F a o<|D.kF a o e
  len:=by change(g.ρ++as).length=(g.U++os).length;show bS (aj) ?_;rw[aj,D.len,l]
  nd:=bA.mpr #[D.nd,nd,λx p y r e=>k x (iw.Ql<|D.yo x p)<|bS e r]
  yo:=λa c=>by
   change(if a∈as then iw.led else g.R a).lf=J
   rcases aM.mp c with h|h
   ·rw[d a<|iw.Ql<|D.yo a h];show D.yo a h
   ·rw[if_pos h];rfl
  hr:=λi o e=>by
   have e:=e
   by_cases h:i<g.U.length
   ·rw[bM h]at e
    show(D.hr i o e).congr L (λw w=>old) λz=>#[(bM (aR.mp z).1).trans z,λw w=>old]
   ·obtain⟨j,rfl⟩:=rq (m6 h)
    rw[bN<|bg _ _,dW]at e
    show x j o e
  zN:=D.zN
  own:=λa c=>(d a<|by rw[D.own a c];nofun).trans<|D.own a c
  zw:=D.zw
  lr:=D.lr.congr L B λa c o e=>#[o.slots,q a o (by rw[D.own a c];nofun) e]
  base:=λa h=>by
   have:=D.base a h
   show(d a λz=>by replace h:=(z)▸(this)▸h;cases h).trans this
  gens:=D.gens
  drawn:=D.drawn
  os:=D.os
  pre:=D.pre.trans (kM ..) }
theorem Inv.turn(v:Inv b g){o o':O}{C:List Nat}{R':RM}(t:_)(Q:g.U[i]?=I o)(m:o≠.aux)(U:C=[i]∨(C=[i+1]∨C=[i,i+1])/\g.U[i+1]?=I .aux)
  (q:∀a,(∀j∈C,g.ρ[j]?≠I a)->R' a=g.R a/\∀o,g.R a≠.iP->g.get a=I o->h'.get? a=I o)
  (p:∀j∈C,∀a,g.ρ[j]?=I a->g.R a=.led/\(R' a).lf=J/\(R' a).ok (h'.get? a))
  {g':G} (W:g'=#[R',g.ρ,g.σ.put i o',sh g.s h' t]) (x:OR b.W g' i o'):Inv b g'/\Le g g':=by
 subst W;have D:∀a,g.R a≠.led->∀j∈C,g.ρ[j]?≠I a:=λa h j c e=>h (p j c a e).1;have r:=λa h=>(q a<|D a h).1;have L:Le g #[R',g.ρ,g.σ.put i o',sh g.s h' t]:=#[λx o e=>(r x<|by rw[e];nofun).trans e,bH _];have H:∀{k a o},k∉C->iJ g k a o->iJ #[R',g.ρ,g.σ.put i o',sh g.s h' t] k a o:=λ{k a o} d h=>by have l:=q a λj c e=>d<|oF v.nd h.1 e▸c;show#[h.1,l.1.trans h.2.1,l.2 o (by rw[h.2.1];nofun) h.2.2]
 have K:∀k,k∈C->k=i∨k=i+1/\g.U[i+1]?=I .aux:=λk d=>by
  rcases U with rfl | ⟨rfl|rfl,e⟩
  ·show .inl<|ah.mp d
  ·show .inr #[ah.mp d,e]
  ·rcases aC.mp d with h|h
   ·show .inl h
   ·show .inr #[ah.mp h,e]
 show#[?_,L];show{
  ok:=λa=>by
   by_cases h:∃j∈C,g.ρ[j]?=I a
   ·obtain⟨j,c,e⟩:=h;show(p j c a e).2.2
   ·have l:=q a λj c e=>h #[j,c,e]
    change(R' a).ok _
    rw[l.1]
    show iw.zm (λn o e=>l.2 o n e)<|v.ok a
  kF:=λa o e=>L.F a o<|v.kF a o e
  len:=v.len.trans (cD ..).symm
  nd:=v.nd
  yo:=λa f=>by
   by_cases h:∃j∈C,g.ρ[j]?=I a
   ·obtain⟨j,c,e⟩:=h;show(p j c a e).2.1
   ·show(congrArg iw.lf (q a λj c e=>h #[j,c,e]).1).trans<|v.yo a f
  hr:=λk u e=>by
   have e:(g.U.set i o')[k]?=I u:=e
   by_cases d:k=i
   ·cases d
    replace e:=(ik<|(aR.mp Q).1)▸e
    cases e;show x
   ·rw[dw<|Ne.symm d]at e
    by_cases M:k∈C
    ·rcases K k M with z | ⟨rfl,z⟩
     ·show absurd z d
     ·rw[e]at z;obtain rfl:=aV z;trivial
    ·show(v.hr k u e).congr L (λZ Z=>H M) λz=>?_
     have T:k+1≠i:=λy=>by rw[y,Q]at z;obtain rfl:=aV z;show m B
     show#[(dw<|Ne.symm T).trans z,λZ Z=>H λy=>(K _ y).elim T λw=>d<|ja w.1]
  zN:=v.zN
  own:=λa f=>(r a<|by rw[v.own a f];nofun).trans<|v.own a f
  zw:=v.zw
  lr:=v.lr.congr L B λa f o e=>#[o.slots,(q a<|D a<|by rw[v.own a f];nofun).2 o (by rw[v.own a f];nofun) e]
  base:=λa h=>by
   have:=v.base a h
   show(r a λz=>by replace h:=(z)▸(this)▸h;cases h).trans this
  gens:=v.gens
  drawn:=v.drawn
  os:=v.os
  pre:=v.pre }
theorem Inv.Wy(r:Inv b g){o o':O}{ob:Obj}(t:_)(m:g.U[i]?=I o)(f:o≠.aux)(k:g.ρ[i]?=I a)(l:g.R a=.led)(e:h'.get? a=I ob)(p:eW a g.s.heap h')
  (x:iJ #[g.R,g.ρ,g.σ.put i o',sh g.s h' t] i a ob->OR b.W #[g.R,g.ρ,g.σ.put i o',sh g.s h' t] i o'):Inv b #[g.R,g.ρ,g.σ.put i o',sh g.s h' t]:=
 (r.turn t m f (.inl B) (λc d=>#[rfl,λo w z=>(p.2 c λy=>d i (.head _)<|y▸k).trans z])
  (λj q c d=>by rw[ah.mp q,k]at d;obtain rfl:=aV d;rw[l];show#[rfl,rfl,ob,e]) B (x #[k,l,e])).1
theorem Inv.aep(l:Inv b g){o:O}{ob:Obj}(t:_)(f:ob.isFreed=X)(x:∀g':G,Le g g'->iJ g' g.U.length g.s.heap.objs.size ob->OR b.W g' g.U.length o) :
  ∃g',g'.s=sh g.s (g.s.heap.push ob) t/\g'.σ=g.σ.push o/\Inv b g'/\Le g g'/\VR b.W g' (.ref g.U.length) (.ref g.s.heap.objs.size):=by
 have e:(g.s.heap.push ob).get? g.s.heap.objs.size=I ob:=br _ f;have c:(g.ρ++[g.s.heap.objs.size])[g.U.length]?=I g.s.heap.objs.size:=sB (l.len) jz;have L:Le g #[λx=>if x∈[g.s.heap.objs.size] then .led else g.R x,g.ρ++[g.s.heap.objs.size],#[g.loc,g.U++[o]],sh g.s (g.s.heap.push ob) t]:=
  #[λy k z=>(if_neg λw=>by replace z:=(l.free<|ie _)▸(ah.mp w)▸z;cases z).trans z,kM _ _]
 obtain⟨m,L⟩:=l.Lc (os:=[o]) (h':=g.s.heap.push ob) t B (bX.mpr #[ai,bV]) (all1<|⟨l.free<|ie _,_,e⟩) (λa o q z=>aQ _ z) B (λj u d=>by
  induction j with
  |succ j=>cases d
  |zero=>obtain rfl:=aV d;show x _ L #[c,if_pos<|.head _,e])
 show#[_,rfl,rfl,m,L,_,c,rfl]
end
section
variable {W:Pw}{b:Bs}{g g':G}{t:Nat}
theorem WL{d:Addr}{m c:Str->Option aq}(x:h.Ns d m)(y:h.Ns d c):m=c:=by
 show hd λK k=>?_;obtain⟨o,D,F,e,l,_,p⟩:=x;obtain⟨H,q,r,f,w,_,z⟩:=y;cases e.symm.trans f
 cases l.symm.trans w
 show k ?_;funext n;show(p n).symm.trans<|z n
theorem yp{d:Addr}{m:Str->Option aq}{v:Option aq}(x:h.Ns d m)(y:h.IsCell d v):False:=by
 obtain⟨o,l,p,e,c,_,q⟩:=x;obtain⟨r,f,k⟩:=y;cases e.symm.trans f
 cases c.symm.trans k
theorem Inv.adk(m:Inv b g){d:Addr}(t:_)(hd:d∈b.fm.own)(f:eW d g.s.heap h')(l:∃y,h'.get? d=I y){c:List<|Option V}
  (L:LR b.W b.fm #[g.R,g.ρ,#[c,g.U],sh g.s h' t]):Inv b #[g.R,g.ρ,#[c,g.U],sh g.s h' t]:=
 have k:=λi a o h=>#[h.1,h.2.1,(f.2 a λe=>by have:=h.2.1;replace this:=(m.own d hd)▸(e)▸this;cases this).trans h.2.2]
 {
  ok:=λa=>by
   by_cases e:a=d
   ·subst e;change(g.R a).ok _;show bS (m.own a hd) l
   ·change(g.R a).ok<|h'.get? a;show bS (f.2 a e)<|m.ok a
  kF:=m.kF
  len:=m.len
  nd:=m.nd
  yo:=m.yo
  hr:=λi o e=>(m.hr i o e).congr (g:=g) #[λx x e=>e,bH _] (k i) λz=>#[z,k _]
  zN:=m.zN
  own:=m.own
  zw:=m.zw
  lr:=L
  base:=m.base
  gens:=m.gens
  drawn:=m.drawn
  os:=m.os
  pre:=m.pre }
theorem Mu{l:List<|Str×Addr}(n:(l.map (·.2)).Nodup){x y:Str}(e:(x,a)∈l)(f:(y,a)∈l):x=y:=by obtain⟨i,c⟩:=mF.mp e;obtain⟨j,d⟩:=mF.mp f;have:=oF n (by rw[cj,c];rfl) (by rw[cj,d];rfl);subst this;cases c.symm.trans d;rfl
theorem Inv.afU(Q:Inv b g){l:Nat}{x:Str}{d:Addr}{m:Str->Option aq}{v:aq}{K:V}(t:Nat)(q:b.fm.tab[i]?=I (x,I l))(hd:b.fm.ds[l]?=I d)(L:g.s.heap.Ns d m)
  (B:h'.Ns d λy=>if y=x then I v else m y) (D:eW d g.s.heap h') (U:VR b.W g K v):Inv b #[g.R,g.ρ,g.σ.var i K,sh g.s h' t]:=by
 have dm:=Fm.sI<|dM hd;have W:=(bA.mp Q.zN).1;have X:i<g.loc.length:=bS (Q.lr.len)<|(aR.mp q).1;have M:∀{e m},e≠d->g.s.heap.Ns e m->h'.Ns e m:=λY h=>s6 (λo z=>#[o.slots,(D.2 _ Y).trans z]) h;have T:∀{e m},g.s.heap.IsCell e m->h'.IsCell e m:=λh=>oM (λo z=>#[o.slots,(D.2 _ λy=>yp L<|y▸h).trans z]) h;show Q.adk t dm D (by obtain⟨o,_,_,e,_⟩:=B;show#[o,e]) #[(cD ..).trans Q.lr.len,λe Z=>?_,λp a=>let ⟨F,n⟩:=Q.lr.cl p a;#[F,T n],λj y k e=>?_,λj y e=>?_]
 ·by_cases z:e=d
  ·cases z;show#[_,B]
  ·obtain⟨H,A⟩:=Q.lr.ns e Z;show#[H,M z A]
 ·obtain⟨c,H,f,r,w⟩:=Q.lr.vd j y k e;by_cases z:c=d
  ·subst z;obtain rfl:k=l:=oF W f hd;obtain rfl:=WL r L;show#[c,_,f,B,?_];by_cases J:y=x
   ·subst J;obtain rfl:j=i:=oF Q.zw e q;rw[if_pos af,ik X];show U
   ·rw[if_neg J,dw λz=>J<|by subst z;cases q.symm.trans e;rfl];show w
  ·show#[c,H,f,M z r,?_];rw[dw λC=>z<|by subst C;cases q.symm.trans e;cases f.symm.trans hd;rfl];show w
 ·obtain⟨c,F,f,r,w⟩:=Q.lr.vc j y e;show#[c,F,f,T r,?_];rw[dw λz=>by subst z;cases q.symm.trans e];show w
theorem Inv.setC(Q:Inv b g){x:Str}{d:Addr}{v:aq}{K:V}(t:Nat)(l:b.fm.tab[i]?=I (x,az))(hd:b.fm.cs.lookup x=I d)
  (q:h'.IsCell d<|I v) (r:eW d g.s.heap h') (T:VR b.W g K v):Inv b #[g.R,g.ρ,g.σ.var i K,sh g.s h' t]:=by
 have w:=mem_lookup hd;have U:=(bA.mp Q.zN).2.1;have W:=(Q.lr.len)▸(aR.mp l).1;obtain⟨X,B⟩:=Q.lr.cl _ w;have L:∀{e m},g.s.heap.Ns e m->h'.Ns e m:=λh=>s6 (λo z=>#[o.slots,(r.2 _ λy=>yp (y▸h) B).trans z]) h;have M:∀{e m},e≠d->g.s.heap.IsCell e m->h'.IsCell e m:=λY h=>oM (λo z=>#[o.slots,(r.2 _ Y).trans z]) h;show Q.adk t (Fm.zX w) r (by obtain⟨o,e,_⟩:=q;show#[o,e]) #[(cD ..).trans Q.lr.len,λe Z=>let ⟨D,a⟩:=Q.lr.ns e Z;#[D,L a],λp n=>?_,λj y k e=>?_,λj y e=>?_]
 ·by_cases z:p.2=d
  ·show bS (z) #[_,q]
  ·obtain⟨F,A⟩:=Q.lr.cl p n;show#[F,M z A]
 ·obtain⟨c,D,f,H,J⟩:=Q.lr.vd j y k e;show#[c,D,f,L H,?_];rw[dw λz=>by subst z;cases l.symm.trans e];show J
 ·obtain⟨c,F,f,H,J⟩:=Q.lr.vc j y e;by_cases z:c=d
  ·subst z;obtain rfl:y=x:=Mu U (mem_lookup f) w;obtain rfl:j=i:=oF Q.zw e l;show#[c,_,f,q,?_];show bS (ik W) T
  ·show#[c,F,f,M z H,?_];rw[dw λC=>z<|by subst C;cases l.symm.trans e;cases f.symm.trans hd;rfl];show J
noncomputable def Fm.deep(f:Fm)(L:List Str)(C:Addr):Fm:=#[f.tab++L.map λx=>(x,I f.ds.length),f.ds++[C],f.cs]
noncomputable abbrev Bs.deep(b:Bs)(L:List Str)(C:Addr):Bs:=#[b.W,b.c,b.fm.deep L C]
theorem Inv.low(w:Inv b g){p:Str×Option Nat}(c:p∈b.fm.tab){l:Nat}(e:p.2=I l):l<b.fm.ds.length:=by show hd λr f=>?_;obtain⟨i,k⟩:=mF.mp c;obtain⟨x,o⟩:=p;subst e;obtain⟨d,m,q,_⟩:=w.lr.vd i x l k;show f<|(aR.mp q).1
theorem Fm.A4{f:Fm}:a∈(f.deep L C).own ↔ a∈f.own∨a=C:=by change a∈(f.ds++[C])++f.cs.map (·.2) ↔ a∈f.ds++f.cs.map (·.2)∨a=C;rw[aM,aM,ah,aM,or_right_comm]
theorem Inv.ac9(n:Inv b g)(t:Nat)(U:L.Nodup)(F:g.get C=az)(H:h'.Ns C λj=>az)(q:∀b o,g.get b=I o->h'.get? b=I o) :
  Inv (b.deep L C) #[rV g.R C .own,g.ρ,g.σ.deep L.length,sh g.s h' t]/\Le g #[rV g.R C .own,g.ρ,g.σ.deep L.length,sh g.s h' t]:=by
 have J:=n.role (r:=.own) t (n.free F) (by obtain⟨o,_,_,e,_⟩:=H;show#[o,e]) λx o j z=>q x o z;have Q:Le g #[rV g.R C .own,g.ρ,g.σ.deep L.length,sh g.s h' t]:=#[λx o e=>(eO λz=>by replace e:=(n.free F)▸(z)▸e;cases e).trans e,bH _];have K:∀a∈b.fm.own,a≠C:=λa ha e=>by have:=n.own a ha;replace this:=(n.free F)▸(e)▸this;cases this
 have M:=n.lr.len;have k:∀i,i<b.fm.tab.length->(g.σ.deep L.length).loc[i]?=g.loc[i]?:=λi hi=>bM<|(M)▸hi;have w:=n.zN;unfold Fm.own at w;rw[bA]at w;show#[{ J with hr:=λi o e=>(J.hr i o e).loc,zN:=?_,own:=λa ha=>?_,zw:=?_,lr:=#[?_,λd hd=>?_,J.lr.cl,λi x l e=>?_,λi x e=>?_] },Q]
 ·change((b.fm.ds++[C])++b.fm.cs.map (·.2)).Nodup;rw[bA,bA];show#[#[w.1,bX.mpr #[ai,bV],λa ha c v=>?_],w.2.1,λa ha c v=>?_]
  ·show(ah.mp v)▸K a (Fm.sI ha)
  ·rcases aM.mp ha with ha|ha
   ·show w.2.2 a ha c v
   ·show(ah.mp ha)▸(K c<|aG _ v).symm
 ·change rV g.R C .own a=.own;rcases Fm.A4.mp ha with h|rfl
  ·show bS (eO<|K a h)<|n.own a h
  ·show fu
 ·change(b.fm.tab++L.map λx=>(x,I b.fm.ds.length)).Nodup;rw[bA];show#[n.zw,?_,λp W r hr=>?_]
  ·rw[Mi,gV];show U.imp λh e=>h<|congrArg Prod.fst e
  ·show gO hr λx Z X=>X▸(λe=>cP _<|n.low W<|bS (e) B)
 ·change(g.loc++eJ L.length az).length=(b.fm.tab++L.map _).length;rw[aj,aj,mG,ay,M]
 ·rcases aM.mp hd with hd|hd
  ·show J.lr.ns d hd
  ·rw[ah.mp hd];show#[_,H]
 ·rcases ace i b.fm.tab.length with hi|hi
  ·obtain⟨d,m,D,f,T⟩:=J.lr.vd i x l<|(bM hi).symm.trans e;show#[d,m,(bM (aR.mp D).1).trans D,f,by change OV b.W _ ((g.σ.deep L.length).loc[i]?).join _;show bS (k i hi) T]
  ·show gO (dM<|(bN hi).symm.trans e) λy Y f=>?_;cases f
   show#[C,_,jz,H,?_];change OV b.W _ ((g.loc++eJ L.length az)[i]?).join az;rw[bN<|bS (M) hi,qF];split<;>trivial
 ·rcases ace i b.fm.tab.length with hi|hi
  ·obtain⟨d,m,D,f,T⟩:=J.lr.vc i x<|(bM hi).symm.trans e;show#[d,m,D,f,by change OV b.W _ ((g.σ.deep L.length).loc[i]?).join _;show bS (k i hi) T]
  ·show gO (dM<|(bN hi).symm.trans e) λy Y f=>?_;cases f
theorem Inv.pop(I:Inv (b.deep L C) g)(Z:∀p∈b.fm.tab,∀l,p.2=ae l->l<b.fm.ds.length)(y:eW C g.s.heap h')(t:Nat) :
  Inv b #[rV g.R C .iP,g.ρ,g.σ.jU L.length,sh g.s h' t]/\Le g #[rV g.R C .iP,g.ρ,g.σ.jU L.length,sh g.s h' t]:=by
 have j:=I.own C<|Fm.A4.mpr<|.inr af;have q:∀a∈b.fm.own,a≠C:=by
  have k:((b.fm.ds++[C])++b.fm.cs.map (·.2)).Nodup:=I.zN;intro a ha e;show hd λΩ v=>?_;subst e;show v ?_;rw[bA]at k;rcases aM.mp ha with ha|ha
  ·show(bA.mp k.1).2.2 a ha a (.head _) af
  ·show k.2.2 a (aG _<|.head _) a ha af
 have B:∀a,g.R a≠.own->a≠C:=λa h e=>h<|bS e j;have L':Le g #[rV g.R C .iP,g.ρ,g.σ.jU L.length,sh g.s h' t]:=#[λx o e=>(eO<|B x<|by show bS (e) ?_;nofun).trans e,bH _];have M:∀i a o,iJ g i a o->iJ #[rV g.R C .iP,g.ρ,g.σ.jU L.length,sh g.s h' t] i a o:=λi a o h=>
  have n:=B a (by show bS (h.2.1) ?_;nofun);#[h.1,(eO n).trans h.2.1,(y.2 a n).trans h.2.2]
 have T:=I.lr.len.trans (by change(b.fm.tab++L.map _).length=_;rw[aj,ay]);have w:(g.σ.jU L.length).loc=g.loc.take b.fm.tab.length:=by change g.loc.take (g.loc.length-L.length)=_;rw[T,kX]
 have U:∀(i:Nat),i<b.fm.tab.length->(g.σ.jU L.length).loc[i]?=g.loc[i]?:=λi A=>by rw[w,oW,if_pos A]
 have tb:∀(i:Nat) p,b.fm.tab[i]?=ae p->(b.deep L C).fm.tab[i]?=ae p:=λi p e=>(bM (aR.mp e).1).trans e;have W:∀{e m},e∈b.fm.own->g.s.heap.Ns e m->h'.Ns e m:=λD h=>s6 (λo z=>#[o.slots,(y.2 _<|q _ D).trans z]) h;have X:∀{e m},e∈b.fm.own->g.s.heap.IsCell e m->h'.IsCell e m:=λD h=>oM (λo z=>#[o.slots,(y.2 _<|q _ D).trans z]) h;show#[?_,L'];show{
  ok:=λa=>by
   by_cases e:a=C
   ·subst e;change(rV g.R a .iP a).ok _;show(fu)▸?_;trivial
   ·change(rV g.R C .iP a).ok<|h'.get? a;show bS (eO e)<|bS (y.2 a e)<|I.ok a
  kF:=λa o e=>L'.F a o<|I.kF a o e
  len:=I.len
  nd:=I.nd
  yo:=λa ha=>(congrArg iw.lf<|eO (B a λz=>by have:=I.yo a ha;replace this:=(z)▸this;cases this)).trans (I.yo a ha)
  hr:=λi o e=>(I.hr i o e).congr L' (M i) λz=>#[z,M _]
  zN:=by
   have k:((b.fm.ds++[C])++b.fm.cs.map (·.2)).Nodup:=I.zN
   change(b.fm.ds++b.fm.cs.map (·.2)).Nodup
   rw[bA]at k ⊢
   show#[(bA.mp k.1).1,k.2.1,λa ha c Q=>k.2.2 a (aU _ ha) c Q]
  own:=λa ha=>(eO<|q a ha).trans<|I.own a<|Fm.A4.mpr<|.inl ha
  zw:=(bA.mp I.zw).1
  lr:=by
   show#[?_,λd hd=>?_,λp Y=>?_,λi x l e=>?_,λi x e=>?_]
   ·change(g.σ.jU L.length).loc.length=_
    rw[w,qG,T,iM<|bg _ _]
   ·obtain⟨m,hm⟩:=I.lr.ns d (aU _ hd)
    show#[m,W (Fm.sI hd) hm]
   ·obtain⟨H,hv⟩:=I.lr.cl p Y
    show#[H,X (Fm.zX Y) hv]
   ·obtain⟨d,m,r,J,K⟩:=I.lr.vd i x l (tb i _ e)
    have r:=(bM<|Z _ (dM e) l af).symm.trans r
    show#[d,m,r,W (Fm.sI<|dM r) J,by change OV b.W _ ((g.σ.jU L.length).loc[i]?).join _;show bS (U i (aR.mp e).1)<|K.mono L']
   ·obtain⟨a,H,r,J,K⟩:=I.lr.vc i x (tb i _ e)
    show#[a,H,r,X (Fm.zX (f:=b.fm)<|mem_lookup r) J,by change OV b.W _ ((g.σ.jU L.length).loc[i]?).join _;show(U i (aR.mp e).1)▸K.mono L']
  base:=λa h=>by
   have:=I.base a h
   show(eO (B a λz=>by rw[z]at this;replace h:=(this)▸h;cases h)).trans this
  gens:=I.gens
  drawn:=I.drawn
  os:=I.os
  pre:=I.pre }
end
section
open Sem (wp)
noncomputable def yr:Code->Bool
 |.builtin id _=>!(gi.contains id)
 |_=>J
def LM(b:Ctx):Prop:=∀x∈b.below,yr x.1=J
def dZ(M:ir)(A:bC)(t:Sem α)(Q:α->aA->Prop)(E:aq->aA->Prop)(s:aA):Prop:=
 ∀b p,b.In A->yr b.code=J/\LM b->wp M b t (λa z s'=>Q a s') (λe z s'=>E e s') p s
def eZ(M:ir)(A:bC)(c:Code)(R:fP->aA->Prop)(s:aA):Prop:=
 ∀b p,b.code=c->b.Below A->LM b->wpCode M b R p s
section
variable {M:ir}{E:aq->aA->Prop}
theorem cW{t:Sem α}{Q:α->aA->Prop}(h:wpAny M A t Q E s):dZ M A t Q E s:=λb p c z=>h b p c
theorem adt{c:Code}{R:fP->aA->Prop}(h:codeAny M A c R s):eZ M A c R s:=λb p e d z=>h b p e d
theorem bB{a:α}{Q:α->aA->Prop}(h:Q a s):dZ M A (pure a) Q E s:=λz z z z=>h
theorem dK{t:Sem α}{Q b:α->aA->Prop}{c:aq->aA->Prop}(h:dZ M A t Q E s)(f:∀a s,Q a s->b a s)(k:∀e s,E e s->c e s):dZ M A t b c s:=
 λd p l g=>ue M d t (λa z s=>f a s) (λe z s=>k e s) p s<|h d p l g
theorem aL{m:Sem α}{f:α->Sem β}{Q:β->aA->Prop}(h:dZ M A m (λa s'=>dZ M A (f a) Q E s') E s):dZ M A (m>>=f) Q E s:=λb p c g=>by
 rw[acf]
 show ue M b m (λa d s' h'=>h' b d c g) (λz z z h'=>h') p s<|h b p c g
theorem bR{vs:List aq}{m:Sem α}{Q:α->aA->Prop}(h:dZ M A m Q E s):dZ M A (holding vs m) Q E s:=λb p c g=>by rw[Sem.wp_holding];show h b p c g
theorem CV{pos:Pos}{Q:Unit->aA->Prop}(h:Q () s):dZ M A (standAt pos) Q E s:=λz z z z=>h
theorem Jx{tag:String}{Q:Unit->aA->Prop}(h:Q () s):dZ M A (rule tag) Q E s:=λz z z z=>h
theorem ic{pos:Pos}{f:Unit->Sem β}{Q:β->aA->Prop}(h:dZ M A (f ()) Q E s):dZ M A (standAt pos>>=f) Q E s:=aL<|CV h
theorem PC{vs:List aq}{m:Sem aq}(h:dZ M A m Q E s):dZ M A (operate vs m) Q E s:=λb p c g=>by rw[Sem.wp_operate];show h b p c g
theorem nS{m:Sem α}{k:aq->Sem Unit}{Q:α->aA->Prop}(h:dZ M A m Q (λe s'=>dZ M A (k e) (λz d=>E e d) E s') s):dZ M A (m.onRaise k) Q E s:=λb p c g=>by
 rw[Sem.wp_onRaise]
 show ue M b m (λz z z h'=>h') (λe f s' h'=>h' b f c g) p s<|h b p c g
theorem xE{m:Sem α}{Q:Except aq α->aA->Prop}(h:dZ M A m (λa=>Q<|.ok a) (λe=>Q<|.error e) s):dZ M A m.attempt Q E s:=λb p c g=>by rw[Sem.wp_attempt];show h b p c g
theorem Dl{t t':Sem α}{Q:α->aA->Prop}(e:t=t')(h:dZ M A t' Q E s):dZ M A t Q E s:=bS e h
theorem A8{b:Ctx}(g:yr b.code=J/\LM b)(c:Code)(h:Option aq)(p:Pos):LM<|b.enter c h p:=λx hx=>by
 rcases aC.mp hx with rfl|hx
 ·show g.1
 ·show g.2 x hx
theorem Yc{c:Code}{h:Option aq}{Q:Flow->aA->Prop}(d:eZ M (A.mark h) c (λr s'=>match r with | .ok f=>Q f s' | .error e=>E e s') s)(b:h≠I byPass) :
  dZ M A (run c h) Q E s:=λl p k g=>by rw[Sem.wp_run];show d _ p B (k.enter c h p b)<|A8 g c h p
set_option backward.match.sparseCases true in
theorem AI{c:Code}(b:eZ M A c (λr s'=>match r with | .ok (.ret v)=>Q v s' | .ok _=>False | .error e=>E e s') s) :
  dZ M A (runValue c) Q E s:=λf p d g=>by rw[Sem.wp_runValue];show b _ p B (d.enter c az p<|by intro x;cases x) (A8 g c az p)
set_option backward.match.sparseCases true in
theorem oB{f:aq}{pos:List aq}{b:List<|Str×aq}{Q:aq->aA->Prop}
  (c:eZ M A (.call f #[pos,b]) (λr s'=>match r with | .ok (.ret v)=>Q v s' | .ok _=>False | .error e=>E e s') s):dZ M A (call f pos b) Q E s:=AI c
theorem zD{c:Code}{R b:fP->aA->Prop}(h:eZ M A c R s)(d:∀r s,R r s->b r s):eZ M A c b s:=λe p f k g=>wpCode_mono d<|h e p f k g
theorem jL{c:Code}{R:fP->aA->Prop}(m:yr c=J)
  (h:dZ M (A.under c) (M.den c) (λfin s'=>match fin with | .done f=>R (.ok f) s' | .again b=>b.quiet=J/\eZ M A b R s') (λe s'=>R (.error e) s') s):eZ M A c R s:=λd p k l g=>by
 rw[wpCode_iff_wp];show(k)▸?_
 show ue M d _ (λfin q s' h'=>?_) (λz z z h'=>h') p s<|h d p (sB k l.in) #[k▸m,g]
 induction fin with
 |done f=>show h'
 |again b=>show#[h'.1,h'.2 (d.goto b) q B (l.goto b) g]
theorem vA{env:Env}{c:Code}{h:Option aq}{Q:Flow->aA->Prop}
  (d:eZ M (A.mark h) c (λr s'=>match r with | .ok f=>Q f s' | .error e=>cameBackBy M A env E e s') s) (b:h≠I byPass):dZ M A (runOwn c env h) Q E s:=by show nS<|dK (Yc d b) (λz z q=>q) λe s' h'=>cW h'
end
end
end
variable{e:Addr}{r:Bool}{d:Bool×List (Ky×V)}{b:Bs}{k:Ky}{kvs:List (Ky×aq)}{l:List Env}{ks:List Ky}{us:List aq}{m:Nat}{op:Operator}{W:Pw}{R':RM}{T:String}{x y z:V}{K0:V->St->Prop}{s':aA}
section
open PySem.SeqAt Builtin
noncomputable def inn(r:iw)(x:Option Obj)(f:Bool):iw:=match r with
 |.own=>match x with
  |some o=>match f with
   |true=>.OD o
   |false=>.fix o
  |none=>.own
 |.iP=>match x with
  |some o=>.fix o
  |none=>.iP
 |r=>r
noncomputable def bkR(r:iw)(x:Option Obj)(c:iw):iw:=match r with
 |.own=>.own
 |.iP=>match x with
  |some _=>.iP
  |none=>c
 |_=>c
noncomputable def Fm.fr(f:Fm):Option Addr:=f.ds.head?
def inR(b:Bs)(g:G):RM:=λa=>inn (g.R a) (g.get a)<|b.fm.fr==I a
abbrev Bs.call(b:Bs)(g:G):Bs:=#[b.W,{ b.c with R0:=inR b g,ρ0:=g.ρ },Fm.nil]
abbrev G.call(g:G)(b:Bs):G:=#[inR b g,g.ρ,#[[],g.U],g.s]
abbrev G.back(g c:G):G:=#[λa=>bkR (g.R a) (g.get a)<|c.R a,c.ρ,#[g.loc,c.U],c.s]
section
variable {g g':G}
theorem D0{r:iw}{x:Option Obj}{f:Bool}(h:r≠.own)(c:r≠.iP):inn r x f=r:=by induction r<;>first|rfl|show absurd rfl h|show absurd rfl c
theorem Inv.call(D:Inv b g):Inv (b.call g) (g.call b)/\Le g (g.call b):=by
 have L:Le g<|g.call b:=#[λa o e=>(D0 (by rw[e];nofun)<|by rw[e];nofun).trans e,bH _];have f:∀i a o,iJ g i a o->iJ (g.call b) i a o:=λi a o h=>#[h.1,(D0 (by rw[h.2.1];nofun)<|by rw[h.2.1];nofun).trans h.2.1,h.2.2];show#[?_,L];show{
  ok:=λa=>by
   change(inn (g.R a) (g.get a) _).ok<|g.get a
   have:=D.ok a
   induction r:g.R a<;>rw[r]at this
   ·induction x:g.get a with
    |none=>trivial
    |some o=>show B
   ·show this
   ·obtain⟨o,e⟩:=this
    show(e)▸?_
    induction (b.fm.fr==I a)with
    |true=>show#[o.slots,rfl]
    |false=>show B
   ·show this
   ·show this
   ·show this
  kF:=λa o e=>L.F a o<|D.kF a o e
  len:=D.len
  nd:=D.nd
  yo:=λa c=>by
   have:=D.yo a c
   change(inn (g.R a) _ _).lf=J
   rw[D0 (λe=>by replace this:=(e)▸this;cases this) (λe=>by replace this:=(e)▸this;cases this)];show this
  hr:=λi o e=>(D.hr i o e).congr L (f i) λz=>#[z,f _]
  zN:=bV
  own:=λa c=>(cO c)
  zw:=bV
  lr:=#[rfl,λd hd=>(cO hd),λp q=>(cO q),λi x l e=>(nomatch (show(az)=I _ from e)),λi x e=>(nomatch (show(az)=I _ from e))]
  base:=λa w=>rfl
  gens:=D.gens
  drawn:=D.drawn
  os:=D.os
  pre:=bH _ }
theorem zK(f:Inv b g)(h:g.R a=.own∨g.R a=.iP/\g.get a≠az):∃o,g.get a=I o/\(inR b g a=.fix o∨inR b g a=.OD o)/\(b.fm.fr≠I a->inR b g a=.fix o):=by
 unfold inR;rcases h with h | ⟨h,c⟩
 ·obtain⟨o,e⟩:=f.there (a:=a) (by show(h)▸?_;nofun);show(h)▸(e)▸?_;show#[o,rfl,?_,λn=>?_]
  ·induction (b.fm.fr==I a)with
   |true=>show .inr B
   |false=>show .inl B
  ·rw[beq_eq_false_iff_ne.mpr n];rfl
 ·obtain⟨o,e⟩:=zT.mp c;show(h)▸(e)▸#[o,rfl,.inl B,λw=>rfl]
theorem E9(h:g.R a≠.own)(c:g.R a=.iP->g.get a=az):(g.back g').R a=g'.R a:=by
 change bkR (g.R a) (g.get a) (g'.R a)=g'.R a;induction r:g.R a with
 |own=>show absurd r h
 |iP=>show(c r)▸?_;rfl
 |_=>rfl
theorem DB(p:Inv b g)(f:Inv (b.call g) g')(h:(g'.R a).lf=J):(g.back g').R a=g'.R a:=by
 have key:∀(q:g.R a=.own∨g.R a=.iP/\g.get a≠az),False:=λq=>by obtain⟨o,_,e,_⟩:=zK p q;have:=f.base a;rcases e with e|e<;>rw[show(b.call g).c.R0 a=_ from e]at this<;>rw[this rfl]at h<;>first|show gE h|cases h
 show E9 (λe=>key<|.inl e) λe=>yF λz=>key<|.inr #[e,z]
theorem Inv.le0(f:Inv (b.call g) g'):Le (g.call b) g':=#[λa o e=>(f.base a<|by show(show(b.call g).c.R0 a=_ from e)▸?_;rfl).trans e,f.pre]
theorem Inv.back(j:Inv b g)(l:Inv (b.call g) g')(L:Le (g.call b) g') :
  Inv b (g.back g')/\Le g (g.back g')/\Le g' (g.back g'):=by
 have k:Le g'<|g.back g':=#[λa o e=>(DB j l<|by rw[e];rfl).trans e,bH _];have D:=j.call.2.trans<|L.trans k;have H:∀i a o,iJ g' i a o->iJ (g.back g') i a o:=λi a o h=>#[h.1,(DB j l<|by rw[h.2.1];rfl).trans h.2.1,h.2.2];have m:∀a∈b.fm.own,∀o,g.get a=I o->∃K,g'.get a=I { o with slots:=K }:=λa w o e=>by
  show hd λZ Y=>?_;obtain⟨d,M,e2,_⟩:=zK j<|.inl<|j.own a w;cases e.symm.trans M
  show Y ?_;have p:=l.base a;have f:=l.ok a;rcases e2 with e2|e2<;>rw[show(b.call g).c.R0 a=_ from e2]at p<;>rw[p B]at f
  ·show#[o.slots,f]
  ·show f
 show#[?_,D,k];show{
  ok:=λa=>by
   by_cases e:g.R a=.own
   ·change(bkR (g.R a) (g.get a)<|g'.R a).ok _
    rw[e]
    obtain⟨o,M,e2,_⟩:=zK j<|.inl e
    have p:=l.base a
    have f:=l.ok a
    rcases e2 with e2|e2
    ·rw[show(b.call g).c.R0 a=_ from e2]at p
     rw[p B]at f;show#[o,f]
    ·rw[show(b.call g).c.R0 a=_ from e2]at p
     rw[p B]at f;obtain⟨K,f⟩:=f;show#[_,f]
   ·by_cases e2:g.R a=.iP/\g.get a≠az
    ·obtain⟨o,h⟩:=zT.mp e2.2
     change(bkR (g.R a) (g.get a)<|g'.R a).ok _
     show(e2.1)▸(h)▸?_;trivial
    ·rw[E9 e λz=>yF λy=>e2 #[z,y]];show l.ok a
  kF:=λa o e=>D.F a o<|j.kF a o e
  len:=l.len
  nd:=l.nd
  yo:=λa w=>(congrArg iw.lf<|DB j l<|l.yo a w).trans<|l.yo a w
  hr:=λi o e=>(l.hr i o e).congr k (H i) λz=>#[z,H _]
  zN:=j.zN
  own:=λa w=>by change bkR (g.R a) (g.get a) (g'.R a)=.own;rw[j.own a w];rfl
  zw:=j.zw
  lr:=j.lr.congr D B m
  base:=λa h=>by
   have q:=j.base a h
   have U:g.R a≠.own:=λz=>by replace q:=(z)▸q;replace h:=(q)▸h;cases h
   have W:g.R a≠.iP:=λz=>by rw[z]at q;replace h:=(q)▸h;cases h
   rw[E9 U λz=>absurd z W]
   have:=l.base a
   have e:(b.call g).c.R0 a=g.R a:=D0 U W
   rw[e]at this
   show(this<|(q)▸h).trans q
  gens:=l.gens
  drawn:=l.drawn
  os:=l.os
  pre:=j.pre.trans l.pre }
def Ex3(base:Heap)(l:List Env)(e:Addr)(cls:aq)(h:Heap):Prop:=
 (base.StaysIn h/\base.get? e=az/\h.FunFrames base l/\∃f vs c,h.get? e=I f/\f.cls=cls/\f.data=.fields vs/\vs[0]?=I c/\vs[1]?=I .none)∨
 (∃c,Heap.FlyingW base l e cls c h)∨∃c env L rest,l=env::rest/\env.frame=I L/\BJ base l e cls c L h
structure DV(g:G)(l:List Env)(base:Heap)(s':aA):Prop where
 same:s'=sh g.s s'.heap s'.toks
 up:∀a o,g.R a≠.iP->g.get a=I o->∃sl,s'.heap.get? a=I { o with slots:=sl }
 base:∀a o,g.R a≠.iP->g.get a=I o->a∉l.filterMap (·.frame)->base.get? a=I o
def Ov(g:G)(l:List Env)(e:Addr)(cc:Nat)(s':aA):Prop:=∃base,DV g l base s'/\Ex3 base l e (.ref cc) s'.heap
theorem DV.less{base:Heap}(h:DV g l base s')(c:g'.s=g.s)(q:∀a,g'.R a≠.iP->g.R a≠.iP):DV g' l base s':=
 #[(c)▸h.same,λa o r e=>h.up a o (q a r)<|by change g.s.heap.get? a=_;rw[<- c];show e,λa o r e=>h.base a o (q a r)<|by change g.s.heap.get? a=_;rw[<- c];show e]
theorem Ov.less{cc:Nat}(h:Ov g l e cc s')(c:g'.s=g.s)(q:∀a,g'.R a≠.iP->g.R a≠.iP):Ov g' l e cc s':=by obtain⟨b,f,x⟩:=h;show#[b,f.less c q,x]
theorem P7(w:Inv b g)(p:Inv (b.call g) g')(h:(g.back g').R a≠.iP):g'.R a≠.iP:=λe=>by
 by_cases q:g.R a=.own
 ·obtain⟨o,_,e2,_⟩:=zK w (.inl q)
  have f:=p.base a
  rcases e2 with e2|e2<;>rw[show(b.call g).c.R0 a=_ from e2]at f<;>rw[f B]at e<;>cases e
 ·show h ?_
  change bkR (g.R a) (g.get a) (g'.R a)=.iP
  rw[e]
  induction r:g.R a with
  |own=>show absurd r q
  |iP=>induction g.get a<;>rfl
  |_=>rfl
end
def FrL(l:List Env)(c:RM):Prop:=∀env∈l,env.scope.kind≠.module/\∃L o,env.frame=I L/\c L=.OD o/\∀vs,o.data≠.fields vs
def SJ(A:bC)(c:Cx):Prop:=∃l,A.frames=I l/\FrL l c.R0
structure Fj(n:Nat)(A:bC):Prop where
 handled:A.handled=az
 guards:A.guards=I []
 depth:A.depth+4*n+20<=900
 units:A.units+40*n+100<=9000
theorem Fj.room(h:Fj n A):A.units+6<cLine:=by have:=h.units;show(show cLine=9900 from by rfl)▸dO [_,_] (.a (.a (.v 0)<|.n 6)<|.n 1) (.n 9900) (.a (.a (.v 0)<|.m 40<|.v 1)<|.n 100) (.n 9000) B this
theorem Fj.low(h:Fj (n+1) A):Fj n A:=#[h.handled,h.guards,dO [_,_] (V0+lm 4 V1+20) 900 (V0+lm 4 (V1+1)+20) 900 B h.depth,dO [_,_] (V0+lm 40 V1+100) 9000 (V0+lm 40 (V1+1)+100) 9000 B h.units]
theorem Fj.in1(h:Fj (n+1) A):Fj n A.in1:=#[h.handled,h.guards,by rw[bC.in1_depth];show dO [_,_] (V0+lm 4 V1+20) 900 (V0+lm 4 (V1+1)+20) 900 B h.depth,by rw[Mj];show dO [_,_] (V0+1+lm 40 V1+100) 9000 (V0+lm 40 (V1+1)+100) 9000 B h.units]
structure Sc where
 kinds:List (Str×NameKind)
 slot:List (Str×Nat)
 BG:Nat
 next:Nat
noncomputable def zO(x:Str):Bool:=x==("__debug__")
structure jv(sc:Sc)(fm:Fm)(env:Env):Prop where
 kind:env.scope.kind=.function
 names:env.scope.names=sc.kinds
 glob:env.globals=mainGlobals
 blt:env.builtins=builtinsNs
 loc:fm.ds[sc.BG]?=I env.locals
 nx:fm.tab.length=sc.next
 vl:∀x i,sc.slot.lookup x=I i->sc.kinds.lookup x=I .local->fm.tab[i]?=I (x,I sc.BG)
 vc:∀x i,sc.slot.lookup x=I i->sc.kinds.lookup x=I .cell->fm.tab[i]?=I (x,az)/\env.cells.lookup x=fm.cs.lookup x
noncomputable def mq(K:Frag)(x:Str):Option aq:=(nsIn K mainGlobals x).bind λv=>match v with
 |some v=>I v
 |none=>(nsIn K builtinsNs x).join
structure Fr where
 b:Bs
 n:Nat
 Γ:gI
 A:bC
 env:Env
 sc:Sc
noncomputable abbrev Pw.M(W:Pw):ir:=model W.prog W.w
noncomputable abbrev Fr.M(F:Fr):ir:=F.b.W.M
inductive DG (F:Fr):Prop
 |mk (l e0 L:_):F.A.frames=I (e0::l)->F.env.frame=I L->e0.frame=I L->F.b.fm.fr=I L->e0.scope.kind≠.module->FrL l F.b.c.R0->DG F
def Runs(W:Pw)(n:Nat)(D:gI)(f:Addr):Prop:=
 ∀{A:bC}{c:Cx}{g:G}{vs:List V}{w:List aq}{q:gT->List O->Prop}{Q:fP->aA->Prop},Fj n A->SJ A c->
  Inv #[W,c,Fm.nil] g->cC (VR W g) vs w->D f vs g.U q->
  (∀v p u,Le g p->Inv #[W,c,Fm.nil] p->VR W p v u->q (.ok v) p.U->Q (.ok<|.ret u) p.s)->
  (∀cc p s' e l,A.frames=I l->Inv #[W,c,Fm.nil] p->Ov p l e cc s'->q (.exc cc) p.U->Q (.error<|.ref e) s')->
  eZ W.M A (.call (.ref f) #[w,[]]) Q g.s
structure Qa(K:Frag)(f)(fd)(body)(sc:Sc)(names:List Str):Prop where
 obj:∃o,K.lookup f=I o/\o.data=.func fd
 co:fd.scope.isCoroutine=X
 gen:fd.scope.isGenerator=X
 body:fd.body=.stmts body
 code:∀h:Heap,K.In h->h.CodeRec fd.code fd.qualname
 kind:fd.scope.kind=.function
 glob:fd.globals=mainGlobals
 blt:fd.builtins=builtinsNs
 clos:fd.closure=[]
 sk:sc.kinds=fd.scope.names
 BG:sc.BG=0
 next:sc.next=names.length
 XS:names.Nodup
 cell:∀x,x∈names->fd.scope.names.lookup x=I .local∨fd.scope.names.lookup x=I .cell
 cnd:((cellsFrom 0 fd.scope.names []).map (·.1)).Nodup
 slot:∀x i,sc.slot.lookup x=I i->names[i]?=I x
noncomputable abbrev VM:String:="Exception.__new__"
inductive Q4 (K:Frag) (C:Addr):Prop
 |mk (od cd sl b:_):K.lookup C=I #[.type "type",od,.cls cd,sl]->cd.hasDel=X->cd.mro=[.ref C,.ref b,.type "Exception",.type "BaseException",.type "object"]->cd.hasDict=J->(sl.toList[4]?).join=I (.builtin VM)->Q4 K C
structure sR(K:Frag)(C:Addr):Prop where
 obj:Q4 K C
 call:specialIn K (.ref C) "__call__" = I (I<|.builtin "type.__call__")
 typ:instIn K (.ref C) (.type "type")=I J
 self:subIn K (.ref C) (.ref C)=I J
 exc:subIn K (.ref C) (.type "Exception")=I J
 aaD:subIn K (.ref C) (.type "BaseException")=I J
 top:subIn K (.ref C) (.type "object")=I J
 att:subIn K (.ref C) (.type "AttributeError")=I X
 nam:subIn K (.ref C) (.type "NameError")=I X
noncomputable def mR:Str:="self"
noncomputable def jG:Str:="told"
structure Jb(K:Frag)(fI:Addr)(fd:i8):Prop where
 fn:∃body sc,Qa K fI fd body sc [mR,jG]/\∃p1 p2 p3 p4,body=[.Assign [.Attribute (.Name mR p1) jG p2] (.Name jG p3) p4]
 k1:fd.scope.names.lookup mR=I .local
 k2:fd.scope.names.lookup jG=I .local
 par:∃as kd df,fd.params=#[[],as,az,[],kd,az,df]/\as.map (·.arg)=[mR,jG]
 dfl:∃T ys n,fd.defaults=.ref T/\K.lookup T=I (qg ys n)/\ys.toList.length=1
noncomputable abbrev BP:Nat:=100
structure ab3(W:Pw)(C:Addr):Prop where
 cls:sR W.K C
 sa:findIn W.K (.ref C) "__setattr__" = I (I<|.builtin "object.__setattr__")
 told:findIn W.K (.ref C) jG=I az
 init:∃fI fd,Jb W.K fI fd/\findIn W.K (.ref C) "__init__" = I (I<|.ref fI)/\typeIn W.K (.ref fI)=I (.type "function")
 keep:keepIn W.K (.ref C)=J
 nl:∀h:Heap,W.K.In h->h.NoLimit
structure rU(F:Fr):Prop where
 ok:Fj (F.n+1) F.A
 eo:jv F.sc F.b.fm F.env
 fr:DG F
 dl:F.b.fm.ds.length=F.sc.BG+1
 run:∀f,Runs F.b.W F.n F.Γ f
 sm:∃o,F.b.W.K.lookup sysModules=I o
 gt:∀(j:Nat) (x:String) (p),zW[j]?=I x->RJ[j]?=I p->∃v,mq F.b.W.K (cG x)=I v/\PR F.b.W (λa=>match F.b.W.K.lookup a with|some o=>.fz o|none=>.iP) p v
 rz:ab3 F.b.W BP
def An(F:Fr)(X:XX)(E:aq->aA->Prop):Prop:=
 ∀cc g s' e l,F.A.frames=I l->Inv F.b g->Ov g l e cc s'->X cc g.σ->E (.ref e) s'
def kj(F:Fr)(g:G)(K0:V->St->Prop)(Q:aq->aA->Prop):Prop:=∀v u c,Le g c->Inv F.b c->VR F.b.W c v u->K0 v c.σ->Q u c.s
theorem kj.from{F:Fr}{g c:G}(h:kj F g K0 Q)(L:Le g c):kj F c K0 Q:=λv u k f=>h v u k<|L.trans f
theorem UD{F:Fr}{E:aq->aA->Prop}:An F D3 E:=λw w w w w w w w h=>h.elim
noncomputable def Ox:Operator->Operator
 |.Div=>.Add | .MatMult=>.Add | .BitXor=>.Add|x=>x
theorem vf{x:Option α}{y:Option β}{k:α->β->Prop}(h:bO x λa=>bO y λb=>k a b):∃a b,x=I a/\y=I b/\k a b:=by obtain⟨a,e,h⟩:=qS h;obtain⟨b,c,h⟩:=qS h;show#[a,b,e,c,h]
theorem cC.sz{T:α->β->Prop}{L:List α}{ys:Array β}(a:cC T L ys.toList):L.length=ys.size:=a.len
theorem sizes(h:n<=gr):n<=sizeLine:=av h<|by rw[gG];decide
theorem Gb(h:n<=gr):(n:Int)<2^63:=gJ (gM.mpr h)<|by decide
def Cd(b:Bs)(g:G)(k:P->Prop)(Q:aq->aA->Prop):Prop:=∀z v R' s',u0 g.R R'->Inv b #[R',g.ρ,g.σ,s']->PR b.W R' z v->k z->Q v s'
theorem u0.refl(R:RM):u0 R R:=λw w e=>e
theorem u0.trans{R S T:RM}(a:u0 R S)(c:u0 S T):u0 R T:=λx o e=>c x o<|a x o e
section
variable {g:G}{E:aq->aA->Prop}
theorem Cd.tok{k:P->Prop}(h:Cd b g k Q)(p:Inv b g){z:P}(t:Nat)(c:PR b.W g.R z v)(f:k z):Q v<|sh g.s g.s.heap t:=h z v g.R _ (u0.refl _) (p.toks t) c f
theorem Cd.new{k:P->Prop}(h:Cd b g k Q)(w:Inv b g){z:P}(t:Nat)(c:o.isFreed=X)(f:∀R',u0 g.R R'->R' g.s.heap.objs.size=.fz o->PR b.W R' z (.ref g.s.heap.objs.size))(p:k z):Q (.ref g.s.heap.objs.size)<|sh g.s (g.s.heap.push o) t:=by obtain⟨L,q⟩:=w.freeze t (ie g.s.heap) (br _ c) λb o e=>aQ _ e;show h z _ _ _ L.F q (f _ L.F fu) p
theorem Cd.lst{k:P->Prop}(h:Cd b g k Q)(q:Inv b g){L:List P}{ys:Array aq}(t:Nat)(c:L.length<=gr)(f:cC (PR b.W g.R) L ys.toList)(p:k<|.lst L):Q (.ref g.s.heap.objs.size)<|sh g.s (g.s.heap.push<|fE ys n) t:=
 h.new q t B (λR' S e=>.lst e c<|F5.mono S f) p
theorem abB{i j:Int}{u:Tok}{k:Int->Prop}(h:ZY op i j k)(c:∀z,k z->Q (.int z s.toks) { s with toks:=s.toks+1 }):wpAny W.M A (binaryOp (Ox op) (.int i t)<|.int j u) Q E s:=by
 induction op with
 |Add=>show acw<|c _ h
 |Sub=>show acy<|c _ h
 |Mult=>show acz (c _ h.2)<|.of_left<|intBits_le_64 (fM (show(-2^64) < -yj by decide) h.1.1)<|fM h.1.2<|show yj<2^64 by decide
 |Mod=>show acA h.1<|c _ h.2
 |FloorDiv=>show acB (rO h.1.1) (c _ h.2)<|.inl<|PyProof.noPylong_small<|fD.mp<|by rw[Int.natAbs_of_nonneg<|lV h.1.1];show h.1.2
 |RShift=>show acC h.1<|c _ h.2
 |LShift=>show acD h.1.1 (gm h.1.2.1<|by decide) ?_<|c _ h.2;have p:=h.1.2.2.1;have q:=h.1.2.2.2;lia
 |BitAnd=>show acE<|c _ h
 |BitOr=>show acF<|c _ h
 |Pow=>obtain⟨⟨rfl,f⟩,h⟩:=h;show acG (f.elim (λe=>by rw[e];decide) λe=>by rw[e];decide) (f.elim (λe=>by rw[e];decide) λe=>by rw[e];decide) (by decide)<|c _ h
 |_=>show h.elim
theorem aa6(e:Inv b g){x y:P}{u:aq}{k:P->Prop}(o:PR b.W g.R x u)(D:PR b.W g.R y v)(c:aec op x y k)(H:Cd b g k Q):wpAny b.W.M A (binaryOp (Ox op) u v) Q E g.s:=by
 have num:(bO x.int? λa=>bO y.int? λb=>ZY op a b λz=>k<|.int z)->wpAny b.W.M A (binaryOp (Ox op) u v) Q E g.s:=λc=>by obtain⟨i,j,p,q,h⟩:=vf c;clear c;obtain rfl:=P.ig p;obtain rfl:=P.ig q;obtain⟨t,rfl⟩:=o.fU;obtain⟨t,rfl⟩:=D.fU;show abB h λz L=>H.tok e _ (.int z _) L
 induction op with
 |Div=>obtain⟨i,j,p,q,f,h⟩:=vf c;clear c;obtain rfl:=P.gS p;obtain rfl:=P.gS q;obtain⟨⟨t,rfl⟩,_⟩:=o.f7;obtain⟨⟨t,rfl⟩,_⟩:=D.f7;show KBy.add_bytes (bS (gW)<|sB (gW)<|av f<|by decide) λU Z=>H.tok e _ (by rw[jY];show .bytes _ _<|by rw[aj];show f) h
 |MatMult=>obtain⟨i,j,p,q,f,h⟩:=vf c;clear c;obtain rfl:=P.tC p;obtain rfl:=P.tC q;obtain⟨⟨t,rfl⟩,_⟩:=o.nq;obtain⟨⟨t,rfl⟩,_⟩:=D.nq;show acH (λU d=>H.tok e _ ?_ h)<|sizes f;rw[show((⟨i.toArray⟩:Str)++⟨j.toArray⟩)=⟨(i++j).toArray⟩from congrArg Str.mk<|jY ..];show .str _ _<|bS (aj) f
 |BitXor=>obtain⟨i,j,p,q,f,h⟩:=vf c;clear c;obtain rfl:=P.tF p;obtain rfl:=P.tF q;obtain⟨l,ys,n,rfl,fl,_,r⟩:=o.oz;obtain⟨m,us,W,rfl,w,_,K⟩:=D.oz;have C:=r.sz;have Y:=K.sz;show concat_meets #[_,e.fh fl,rfl] #[_,e.fh w,rfl] noFill_list_add seq_list_add PySem.F.slot_list_add PySem.F.entry_list_add (PySem.F.args_list_add_2 _ _) (list_addW l m ys us n W az az #[] #[]<|sizes<|sB (C)<|sB (Y) f) #[e.fh fl,e.fh w,?_];show H.lst e _ (bS (aj) f) (by rw[HS];show r.append K) h
 |_=>show num c
theorem yw{L:List α}{ys:Array β}(h:L.length=ys.size):ys.isEmpty=L.isEmpty:=by rw[rP,Array.isEmpty_iff_size_eq_zero,List.isEmpty_iff_length_eq_zero,h]
inductive XQ (b:Bs) (g:G) (i:_) (o:O) (v:aq):Prop
 |mk (h:OR b.W g i o) (a:_):v=.ref a->g.ρ[i]?=I a->XQ b g i o v
theorem Inv.obj(p:Inv b g){o:O}(c:VR b.W g (.ref i) v)(f:g.U[i]?=I o):XQ b g i o v:=by obtain⟨a,e,q⟩:=c;show#[p.hr i o f,a,q,e]
theorem aeT{x:P}{L:List P}{c:List O}(h:g9 c (.p x)=I L):x=.lst L:=by induction x using P.casesOn<;>first|show bh h | (cases h;rfl)
theorem Yt{L:List P}{c:List O}(h:g9 c (.ref i)=I L):c[i]?=I (.list L):=by show fB h λo f h=>?_;rw[f];induction o<;>first|show bh h | (cases h;rfl)
inductive LstAt (b:Bs) (g:G) (L:_) (v:aq):Prop
 |mk (a ys n:_):v=.ref a->g.get a=I (fE ys n)->L.length<=gr->cC (PR b.W g.R) L ys.toList->LstAt b g L v
theorem Inv.lst(w:Inv b g){L:List P}(c:VR b.W g x v)(h:g9 g.U x=I L):LstAt b g L v:=by
 cases x with
 |p x=>obtain rfl:=aeT h;obtain⟨a,ys,n,e,f,l,r⟩:=PR.oz c;show#[a,ys,n,e,w.fh f,l,r]
 |ref i=>
  obtain⟨⟨q,ys,n,f,l,r⟩,a,rfl,e⟩:=w.obj c<|Yt h;cases e.symm.trans f.1
  show#[_,ys,n,rfl,f.2.2,l,r]
theorem Uj{g:G}{ys:Array aq}(h:g.get a=I (fE ys n)):g.s.heap.IsList a ys:=#[_,h,rfl,n,rfl]
theorem Jm(j:Inv b g){Q:Bool->aA->Prop}(w:VR b.W g x v)(h:AE g.U x=I r)(q:∀t,Inv b #[g.R,g.ρ,g.σ,sh g.s g.s.heap t]->Q r (sh g.s g.s.heap t)):wpAny b.W.M A (truthy v) Q E g.s:=by
 rw[zA]at h;have q:=λt=>q t<|j.toks t;have list:∀{L:List P},g9 g.U x=I L->r = !L.isEmpty->wpAny b.W.M A (truthy v) Q E g.s:=λe H=>by
  obtain⟨a,ys,n,rfl,f,l,D⟩:=j.lst w e;show wpAny_truthy_list (Uj f) ?_ ?_
  ·show(D.sz)▸Gb l
  ·show bS (yw D.sz)<|sB (H)<|q _
 cases x with
 |ref i=>show fB h λo y K=>?_;induction o<;>cases K;show list (by change g.U[i]?.bind _=_;rw[y];rfl) B
 |p x=>
  induction x using P.casesOn with
  |none=>rw[PR.none_of w];injection h with h;subst h;show truthy_none<|q _
  |bool c=>rw[PR.zG w];injection h with h;subst h;show Zq<|q _
  |int i=>obtain⟨t,rfl⟩:=PR.fU w;injection h with h;subst h;show acI<|q _
  |str l=>
   obtain⟨⟨t,rfl⟩,d⟩:=PR.nq w;cases h
   show PySem.P.truthy_str (m7.mpr<|show((l.length:Nat):Int)<2^63 from Gb d) ?_;rw[show(((⟨l.toArray⟩:Str).length:Int) != 0) = !l.isEmpty by induction l<;>rfl];show q _
  |bytes l=>
   obtain⟨⟨t,rfl⟩,d⟩:=PR.f7 w;cases h
   show truthy_bytes (av d<|by decide) ?_;rw[show((l.toArray.size:Int) != 0) = !l.isEmpty by induction l<;>rfl];show q _
  |tup L=>
   obtain⟨a,ys,m,rfl,k,l,F⟩:=PR.qM w;injection h with h;subst h;show acJ #[_,j.fh k,rfl,m,rfl] ?_ ?_
   ·rw[<- F.sz];show Gb l
   ·rw[yw F.sz];show q _
  |lst L=>injection h with h;subst h;show list B B
  |_=>show bh h
end
section
variable {g:G}{R:RM}{E:aq->aA->Prop}
theorem JY(b c:Array UInt8)(t u:Tok):EqAt A s (.bytes b t) (.bytes c u)<|b.toList==c.toList:=λf w E Q h=>eqBool_bytes<|by rw[show decide (b.toList=c.toList)=(b.toList==c.toList)from(rP.mpr<|by rw[decide_eq_true_eq,beq_iff_eq])];show h
theorem IY(b c:Array UInt8)(t u:Tok):RcAt A s (.bytes b t) (.bytes c u)<|b.toList==c.toList:=λf w E Q h=>
 Zr B B FB.slot_bytes_eq FB.entry_bytes_eq (FB.args_bytes_eq_2 _ _) (gives_bytes_eq b c t u) (λx=>nomatch x) h
theorem Dp(b c:Array UInt8)(t u:Tok):ug A s (.bytes b t) (.bytes c u)<|!(b.toList==c.toList):=λf w E Q h=>
 Zr B B FB.slot_bytes_ne FB.entry_bytes_ne (FB.args_bytes_ne_2 _ _) (gives_bytes_ne b c t u) (λx=>nomatch x) h
theorem Sf(x y:List Nat):((⟨x.toArray⟩:Str)==⟨y.toArray⟩)=(x==y):=by rw[rP];simp
def aah(A:bC)(s:aA)(v u:aq)(r:Bool):Prop:=EqAt A s v u r/\RcAt A s v u r/\ug A s v u (!r)
def Flat.val(x:Flat)(v:aq):Prop:=match x with
 |.none=>v=.none
 |.int i=>∃t,v=.int i t
 |.str i=>∃t,v=.str ⟨i.toArray⟩ t
 |.bytes i=>∃t,v=.bytes i.toArray t
theorem pG{x:P}{a:Flat}(h:x.GN=I a)(c:PR W R x v):a.val v:=by induction x using P.casesOn<;>first|show bh h | (obtain rfl:=aV h;first|show PR.none_of c|show PR.fU c|show(PR.nq c).1|show(PR.f7 c).1)
theorem Lr{x y:Flat}{u:aq}(h:x.eq y=I r)(c:x.val v)(f:y.val u):aah A s v u r:=by
 cases x with
 |none=>
  cases y<;>first|show bh h|cases h
  ·subst c;subst f;show#[EqAt.same _,RcAt.none_none,ug.none_none]
  ·subst c;obtain⟨t,rfl⟩:=f;show#[EqAt.none_int _ _,RcAt.none_int _ _,ug.none_int _ _]
 |int i=>
  cases y<;>first|show bh h|cases h
  ·subst f;obtain⟨t,rfl⟩:=c;show#[Xv _ _,RcAt.int_none _ _,ug.int_none _ _]
  ·obtain⟨t,rfl⟩:=c;obtain⟨t,rfl⟩:=f;show#[Zi _ _ _ _,RcAt.int_int _ _ _ _,ug.int_int _ _ _ _]
 |str i=>
  cases y<;>first|show bh h|cases h
  obtain⟨t,rfl⟩:=c;obtain⟨t,rfl⟩:=f;rw[<- Sf];show#[EqAt.str_str _ _ _ _,RcAt.str_str _ _ _ _,ug.str_str _ _ _ _]
 |bytes i=>
  cases y<;>first|show bh h|cases h
  obtain⟨t,rfl⟩:=c;obtain⟨t,rfl⟩:=f;show#[JY _ _ _ _,IY _ _ _ _,Dp _ _ _ _]
theorem CK{x y:Flat}(h:x.eq y=I r)(c:x.val v)(f:y.val v):r=J:=by
 cases x with
 |none=>
  cases y<;>first|show bh h|cases h
  ·rfl
  ·cases c;obtain⟨_,e⟩:=f;cases e
 |int i=>
  cases y<;>first|show bh h|cases h
  ·subst f;obtain⟨_,e⟩:=c;cases e
  ·obtain⟨t,rfl⟩:=c;obtain⟨t,e⟩:=f;injection e with e;show(e)▸beq_self_eq_true _
 |str i=>
  cases y<;>first|show bh h|cases h
  obtain⟨t,rfl⟩:=c;obtain⟨t,e⟩:=f;injection e with e;injection e with e;show bS (show i=_ from congrArg lH e)<|beq_self_eq_true _
 |bytes i=>
  cases y<;>first|show bh h|cases h
  obtain⟨t,rfl⟩:=c;obtain⟨t,e⟩:=f;injection e with e;show bS (show i=_ from congrArg lH e)<|beq_self_eq_true _
theorem tI{x y:P}(h:xh x y=I r):∃a b,x.GN=I a/\y.GN=I b/\a.eq b=I r:=
 by obtain⟨a,e,h⟩:=dB.mp h;obtain⟨b,c,h⟩:=dB.mp h;show#[a,b,e,c,h]
noncomputable def H9(k:Bool):String:=match k with
 |true=>"tuple"
 |false=>"list"
theorem DI{x:P}{a:Bool×List P}(h:x.seq?=I a)(c:PR W R x v):SqR W R (λys n=>#[.type<|H9 a.1,az,.seq ys n,#[]]) a.2 v:=by
 induction x using P.casesOn with
 |tup L=>injection h with h;subst h;show c.qM
 |lst L=>injection h with h;subst h;show c.oz
 |_=>show bh h
noncomputable def eAt(f:P->P->Option Bool)(L ys:List P)(j:Nat):Bool:=(L[j]?.bind λx=>ys[j]?.bind λy=>f x y)==I J
theorem abr{f:P->P->Option Bool}:∀{L ys:List P}{r:Bool},To f L ys=I r->(∀(j:Nat) x y,L[j]?=I x->ys[j]?=I y->f x y=I (eAt f L ys j))/\(L.length=ys.length->r=(List.range L.length).all (eAt f L ys))/\(L.length≠ys.length->r=X):=by
 intro L;induction L with
 |nil=>
  intro ys r h;obtain rfl:=aV h;induction ys with
  |nil=>show#[λZ Z Z h=>bh h,λZ=>rfl,λe=>absurd B e]
  |cons=>show#[λZ Z Z h=>bh h,λh=>IG (gX.mp h.symm).symm,λZ=>rfl]
 |cons x L D=>
  intro ys r h;cases ys with
  |nil=>obtain rfl:=aV h;show#[λZ Z Z Z h=>bh h,λh=>zB<|gX.mp h,λZ=>rfl]
  |cons y ys=>
   show fB h λc p h=>(mS h λd F H=>sB H ?_);obtain⟨b,a,K⟩:=D F;have z:eAt f (x::L) (y::ys) 0=c:=by change((f x y)==I J)=c;show bS (p) ?_;induction c<;>rfl
   show#[λj u v w M=>?_,λe=>?_,λe=>?_]
   ·induction j with
    |zero=>obtain rfl:=aV w;obtain rfl:=aV M;rw[z];show p
    |succ j=>show b j u v w M
   ·rw[aX,List.range_succ_eq_map,List.all_cons,z,List.all_map];show sB (a<|ja e) ?_;rfl
   ·rw[K λq=>e<|congrArg xY q,tP]
theorem Gl{x y:P}(h:CH n x y=I r)(e:x.seq?=az∨n=0):xh x y=I r:=by
 induction n with
 |zero=>show h
 |succ n=>
  rcases e with e|e
  ·show(congrArg (λz=>(Option.elim z (xh x y) λ(a:Bool×List P)=>y.seq?.bind λ(b:Bool×List P)=>bif a.1==b.1 then To (CH n) a.2 b.2 else az)=I r) e).mp h
  ·cases e
theorem Mc{x y:P}{a:Bool×List P}(h:CH (n+1) x y=I r)(e:x.seq?=I a):∃ys,y.seq?=I (a.1,ys)/\To (CH n) a.2 ys=I r:=by
 have h:(x.seq?.elim (xh x y) λa=>y.seq?.bind λb=>bif a.1==b.1 then To (CH n) a.2 b.2 else az)=I r:=h;rw[e]at h;show hd λp c=>?_;obtain⟨⟨k,ys⟩,f,h⟩:=dB.mp h;show c ?_;cases q:a.1==k with
 |false=>replace h:=(q)▸h;show bh h
 |true=>rw[q]at h;show#[ys,bS (eq_of_beq q) f,h]
theorem Qz{f:P->P->Option Bool}(q:∀x y v r,f x y=I r->PR W R x v->PR W R y v->r=J){L:List P}(w:cC (PR W R) L us):∀{ys:List P}{r:Bool},cC (PR W R) ys us->To f L ys=I r->r=J:=by
 induction w with
 |nil=>intro ys r p h;cases p;injection h with h;subst h;rfl
 |cons a _ b=>
  intro ys r p h;cases p with
  |cons c d=>show fB h λM D h=>(mS h λK F H=>H▸?_);rw[q _ _ _ _ D a c,b d F];rfl
theorem eq_self:∀(n:Nat) (x y:P) (v:aq) (r:Bool),CH n x y=I r->PR W R x v->PR W R y v->r=J:=by
 intro n;induction n with
 |zero=>intro x y v r h p q;show by obtain⟨a,c,w,f,i⟩:=tI h;show CK i (pG w p)<|pG f q
 |succ n F=>
  intro x y v r h p q;induction e:x.seq? with
  |none=>obtain⟨a,c,w,f,i⟩:=tI<|Gl h<|.inl e;show CK i (pG w p)<|pG f q
  |some a=>
   show hd λg H=>?_;obtain⟨ys,f,d⟩:=Mc h e;obtain⟨l,us,m,rfl,b,_,K⟩:=DI e p;obtain⟨j,L,Y,D,M,_,U⟩:=DI f q;injection D with D;subst D;cases b.symm.trans M
   show H ?_;show Qz (F) K U d
theorem ab7{f:P->P->Option Bool}{k:Bool}{L H:List P}{c d:Addr}{ys us:Array aq}{C:Nat}{r:Bool}(F:s.heap.get? c=I #[.type<|H9 k,az,.seq ys m,#[]])(hd:s.heap.get? d=I #[.type<|H9 k,az,.seq us C,#[]])
  (z:cC (PR W R) L ys.toList) (X:cC (PR W R) H us.toList) (p:A.units<cLine) (h:To f L H=I r) (g:∀x y v u r,f x y=I r->PR W R x v->PR W R y u->EqAt A.in1 s v u r):RcAt A s (.ref c) (.ref d) r/\ug A s (.ref c) (.ref d) (!r):=by
 obtain⟨i,Y,Z⟩:=abr h;have w:=z.sz;have D:=X.sz;have o:∀j (t) (M:j<us.size),EqAt A.in1 s ys[j] us[j]<|eAt f L H j:=λj t M=>by have a:=bD<|bS (w) t;have b:=bD<|bS (D) M;obtain⟨v,e,l⟩:=z.get a;obtain⟨u,U,n⟩:=X.get b;have:=g _ _ v u _ (i j _ _ a b) l n;rw[cV,pB t]at e;replace U:=(pB M)▸(cV)▸U;obtain rfl:=aV e;obtain rfl:=aV U;show this
 induction k with
 |false=>
  by_cases q:L.length=H.length
  ·rw[Y q];show(w)▸?_;show#[RcAt.lists #[_,F,rfl,m,rfl] #[_,hd,rfl,C,rfl] (by rw[<- w,<- D];show q) p o,ug.lists #[_,F,rfl,m,rfl] #[_,hd,rfl,C,rfl] (by rw[<- w,<- D];show q) p o]
  ·rw[Z q];show#[RcAt.lists_lengths #[_,F,rfl,m,rfl] #[_,hd,rfl,C,rfl] (bne_iff_ne.mpr<|by rw[<- w,<- D];show q) p,ug.lists_lengths #[_,F,rfl,m,rfl] #[_,hd,rfl,C,rfl] (bne_iff_ne.mpr<|by rw[<- w,<- D];show q) p]
 |true=>
  have Q:=RcAt.tuples #[_,F,rfl,m,rfl] #[_,hd,rfl,C,rfl] p o;have K:=ug.tuples #[_,F,rfl,m,rfl] #[_,hd,rfl,C,rfl] p o;by_cases q:L.length=H.length
  ·rw[Y q];rw[<- w,<- D,<- q,Nat.min_self,beq_self_eq_true,Bool.and_true]at Q K;show#[Q,K]
  ·rw[Z q];rw[beq_eq_false_iff_ne.mpr<|(w)▸(D)▸q,tP]at Q K;show#[Q,K]
theorem aeh:∀(n:Nat) (A:bC) (x y:P) (v u:aq) (r:Bool),(∀a o,R a=.fz o->s.heap.get? a=I o)->A.units+n<cLine->CH n x y=I r->PR W R x v->PR W R y u->aah A s v u r:=by
 intro n;induction n with
 |zero=>intro A x y v u r D f h p q;show let ⟨a,c,F,w,H⟩:=tI h;Lr H (pG F p)<|pG w q
 |succ n g=>
  intro A x y v u r D f h p q;induction e:x.seq? with
  |none=>obtain⟨a,c,F,w,H⟩:=tI<|Gl h<|.inl e;show Lr H (pG F p)<|pG w q
  |some a=>
   show hd λZ j=>?_;obtain⟨ys,w,K⟩:=Mc h e;obtain⟨l,us,m,rfl,L,_,M⟩:=DI e p;obtain⟨U,i,b,rfl,k,_,Y⟩:=DI w q;show j ?_;obtain⟨k1,k2⟩:=ab7 (A:=A) (D _ _ L) (D _ _ k) M Y (by lia) K λx y v u r h p q=>(g A.in1 x y v u r D (by rw[Mj];show dO [_,_,_] (.a (.a (.a (.v 0)<|.n 1)<|.v 1)<|.n 1) (.v 2) (.a (.a (.v 0)<|.a (.v 1)<|.n 1)<|.n 1) (.v 2) B f) h p q).1;show#[?_,k1,k2];by_cases d:l=U
   ·subst d;show bS (eq_self (n+1) x y _ r h p q)<|EqAt.same _
   ·show EqAt.of_refs d k1
end
section
variable {g:G}{E:aq->aA->Prop}
abbrev DH(W:Pw)(g:G)(c:List<|Ky×V)(kvs:List<|Ky×aq):Prop:=cC (DR W g) c kvs
section
theorem DH.get{c:List<|Ky×V}(h:DH W g c kvs):(∀x,fR c k=I x->∃v,valueAt kvs k=I v/\VR W g x v)/\(fR c k=az->valueAt kvs k=az):=by
 induction h with
 |nil=>show#[nofun,λw=>rfl]
 |@cons x y L ys a _ f=>
  obtain⟨k1,x⟩:=x;obtain⟨k2,y⟩:=y;obtain⟨rfl,a⟩:=a;unfold fR valueAt at f ⊢;simp only[gu,gu];induction decide (k1=k)with
  |true=>show#[λz e=>by injection e with e;subst e;show#[y,rfl,a],(λh=>pO h)]
  |false=>show f
theorem DH.isSome{k:Ky}{c:List<|Ky×V}(h:DH W g c kvs):(valueAt kvs k).isSome=(fR c k).isSome:=by
 obtain⟨a,b⟩:=h.get;induction e:fR c k with
 |none=>rw[b e];rfl
 |some x=>obtain⟨v,f,_⟩:=a x e;rw[f];rfl
theorem DH.put{v:aq}(p:VR W g x v){q:List<|Ky×V}(h:DH W g q kvs):(kvs.map (·.1)).Nodup->DH W g (kU q k x) (stored kvs k v):=by
 induction h with
 |nil=>show λZ=>.cons #[rfl,p] .nil
 |@cons y z ys c a r w=>
  obtain⟨k1,y⟩:=y;obtain⟨k2,z⟩:=z;obtain⟨e,a⟩:=a;dsimp only at e a;subst e;intro n;rw[bK,bX]at n;by_cases f:k1=k
  ·subst f;rw[EL,if_pos B,show stored ((k1,z)::c) k1 v=(k1,v)::c by unfold stored;rw[iU,decide_eq_true B,Bool.true_or,if_pos B,bK,if_pos B,map_store_of_not_mem c k1 v n.1]]
   show .cons #[rfl,p] r
  ·rw[EL,if_neg f,show stored ((k1,z)::c) k v=(k1,z)::stored c k v by
    unfold stored
    rw[iU,decide_eq_false f,Xw,bK,if_neg f]
    split<;>rfl]
   show .cons #[rfl,a]<|w n.2
theorem DH.del{f:List<|Ky×V}(h:DH W g f kvs):(kvs.map (·.1)).Nodup->DH W g (B0 f k) (without kvs k):=by
 induction h with
 |nil=>show λZ=>.nil
 |@cons y z ys q a r p=>
  obtain⟨k1,y⟩:=y;obtain⟨k2,z⟩:=z;obtain⟨e,a⟩:=a;dsimp only at e a;subst e;intro n;rw[bK,bX]at n;by_cases c:k1=k
  ·subst c;have w:=without_of_not_mem q k1 n.1;unfold without at w ⊢;rw[Ia,if_pos B,jc,if_neg<|by simp,w];show r
  ·unfold without at p ⊢;rw[Ia,if_neg c,jc,if_pos<|by simp[c]];show .cons #[rfl,a]<|p n.2
theorem DH.zip{vs:List P}(e:ks=kvs.map (·.1))(h:cC (PR W g.R) vs (kvs.map (·.2))):DH W g (ks.zip<|vs.map .p) kvs:=by
 subst e;induction kvs generalizing vs with
 |nil=>show .nil
 |cons p r f=>
  cases h with
  |cons a c=>show .cons #[rfl,a]<|f c
theorem yg{x:P}{R:RM}(h:x.Ax kb=I k)(f:PR W R x v):(jh W kb).is k v=J:=by
 induction kb with
 |true=>show mS h λi e c=>c▸?_;obtain rfl:=P.gS e;obtain⟨⟨t,rfl⟩,_⟩:=f.f7;show beq_self_eq_true _
 |false=>show mS h λi e c=>c▸?_;obtain rfl:=P.ig e;obtain⟨t,rfl⟩:=f.fU;show intKind_is W.prog W.w i t
end
theorem adw{x:P}{c:List O}(h:mU c (.p x)=I d):∃ks vs,x=.mw d.1 ks vs/\d.2=ks.zip (vs.map .p):=by induction x using P.casesOn<;>first|show bh h|cases h;show#[_,_,rfl,rfl]
theorem aeE{c:List O}(h:mU c (.ref i)=I d):c[i]?=I (.dict d.1 d.2):=by show fB h λo f h=>((f)▸?_);induction o<;>first|show bh h|cases h;rfl
inductive Yh (b:Bs) (g) (d:Bool×List (Ky×V)) (v:aq):Prop
 |mk (a kvs:_):v=.ref a->a≠sysModules->g.s.heap.DictOf (jh b.W d.1) a kvs->d.2.length<=gr->DH b.W g d.2 kvs->Yh b g d v
theorem Inv.mw(K:Inv b g)(q:VR b.W g x v)(h:mU g.U x=I d):Yh b g d v:=by
 obtain⟨kb,F⟩:=d;cases x with
 |p x=>show hd λw c=>?_;obtain⟨ks,vs,rfl,e⟩:=adw h;obtain⟨a,o,kvs,rfl,f,n,D,M,l,r⟩:=PR.IX q;show c ?_;have z:=DH.zip M r;show#[a,kvs,rfl,n,D.at<|K.fh f,(e)▸(z.len)▸(ay (as:=kvs) (f:=(·.2)))▸(r.len)▸l,by rw[e];show z]
 |ref i=>
  show hd λw c=>?_;obtain⟨⟨H,o,kvs,f,n,D,l,r⟩,a,rfl,e⟩:=K.obj q<|aeE h;cases e.symm.trans f.1
  show c<|#[_,kvs,rfl,n,D.at f.2.2,l,r]
noncomputable def eqI(x:Option Int):aq->Bool
 |.int j _=>x==I j
 |_=>X
theorem Y7{s:aA}{R:RM}{x:P}{i:Option Int}(p:PR W R x v)(c:x.Rd=I i){ys:List P}(q:cC (PR W R) ys us):∀{f:List Int},jr P.int? ys=I f->(∀u∈us,EqAt A s u v<|eqI i u)/\us.any (eqI i)=f.any λj=>i==I j:=by
 induction q with
 |nil=>intro f e;obtain rfl:=aV e;show#[(λZ m=>cO m),rfl]
 |cons a _ w=>
  intro f e;show fB e λj b e=>(mS e λr D F=>sB F ?_);obtain⟨H,K⟩:=w D;obtain rfl:=P.ig b;obtain⟨t,rfl⟩:=a.fU;show#[λu hu=>?_,by simp only[iU,iU,K];rfl];rcases aC.mp hu with rfl|hu
  ·induction x using P.casesOn with
   |none=>obtain rfl:=aV c;show(p.none_of)▸Xv _ _
   |int k=>injection c with c;subst c;obtain⟨M,rfl⟩:=p.fU;rw[show eqI (I k) (.int j t)=(j==k)from rP.mpr<|by change(I k==I j)=J ↔ _;rw[beq_iff_eq,beq_iff_eq,afo,eq_comm]];show Zi _ _ _ _
   |_=>show bh c
  ·show H u hu
theorem zk{us:Array aq}{p:aq->Prop}(h:∀u∈us.toList,p u):∀u∈us,p u:=λu c=>h u<|Ur.mp c
theorem Nj{c:List O}{x:P}(h:Ui c x y=I r):(∃d k,mU c y=I d/\x.Ax d.1=I k/\(fR d.2 k).isSome=r)∨(∃L,g9 c y=I L/\Wm L x=I r)∨∃L,y=.p (.tup L)/\Wm L x=I r:=by
 unfold Ui at h;induction e:mU c y with
 |some d=>rw[e]at h;show hd λH q=>(mS h λk D f=>?_);show q<|.inl #[d,k,rfl,D,f]
 |none=>
  rw[e]at h;induction f:g9 c y with
  |some L=>rw[f]at h;show .inr<|.inl #[L,rfl,h]
  |none=>replace h:=(f)▸h;show hd λH q=>(fB h λL w h=>(fB w λp F w=>?_));obtain rfl:=V.ju F;obtain rfl:=P.DL w;show q<|.inr<|.inr #[L,rfl,h]
theorem QT{L:List P}{x:P}(h:Wm L x=I r):∃c i,jr P.int? L=I c/\x.Rd=I i/\(c.any λj=>i==I j)=r:=
 by obtain⟨c,e,h⟩:=dB.mp h;obtain⟨i,f,h⟩:=cB.mp h;show#[c,i,e,f,h]
theorem XO(e:Inv b g)(n:Bool){x:P}{u:aq}(F:PR b.W g.R x u)(H:VR b.W g y v)(h:Ui g.U x y=I r)(p:∀t,Q (.bool (match n with|true=>!r|false=>r))<|sh g.s g.s.heap t) :
  wpAny b.W.M A (compareOp (match n with|true=>.NotIn|false=>.In) u v) Q E g.s:=by
 rcases Nj h with ⟨d,k,o,q,w⟩ | ⟨L,o,q⟩ | ⟨L,rfl,q⟩
 ·obtain⟨a,kvs,rfl,z,D,_,Y⟩:=e.mw H o;have K:=Y.isSome (k:=k);rw[w]at K;induction n with
  |true=>show wpAny_notIn_of (yg q F) (by simpa using z) D.mapOf<|(K)▸p _
  |false=>show wpAny_in_of (yg q F) (by simpa using z) D.mapOf<|(K)▸p _
 ·obtain⟨Z,i,w,j,U⟩:=QT q;obtain⟨a,ys,m,rfl,f,_,W⟩:=e.lst H o;obtain⟨l,c⟩:=Y7 (A:=A.in1) (s:=g.s) F j W w;rw[U,mH]at c;induction n with
  |true=>show notIn_listAt (eqI i) (Uj f) (zk l)<|(c)▸p _
  |false=>show in_listAt (eqI i) (Uj f) (zk l)<|(c)▸p _
 ·obtain⟨Z,i,w,j,U⟩:=QT q;obtain⟨a,ys,m,rfl,f,_,W⟩:=PR.qM H;obtain⟨l,c⟩:=Y7 (A:=A.in1) (s:=g.s) F j W w;rw[U,mH]at c;induction n with
  |true=>show notIn_tupleAt (eqI i) #[_,e.fh f,rfl,m,rfl] (zk l)<|(c)▸p _
  |false=>show in_tupleAt (eqI i) #[_,e.fh f,rfl,m,rfl] (zk l)<|(c)▸p _
theorem zE{f:Int->Int->Bool}(h:Rz x y f=I r):∃i j,x=.p (.int i)/\y=.p (.int j)/\f i j=r:=by show hd λH K=>(fB h λi c h=>(mS h λj w h=>?_));show fB c λp D c=>(fB w λq F w=>(K<|bS (V.ju D)<|bS (V.ju F)<|bS (P.ig c)<|bS (P.ig w)<|#[i,j,rfl,rfl,h]))
theorem Inv.Ue(D:Inv b g){p:P}(c:VR b.W g x v)(h:x.Ue g.U=I p):∀{R:RM},u0 g.R R->(∀a,g.R a=.led->∀o,g.get a=I o->R a=.fz o)->PR b.W R p v:=by
 intro R S q;induction x with
 |p x=>obtain rfl:=aV h;show PR.mono S c
 |ref i=>
  show mS h λL e w=>sB w ?_;obtain⟨⟨H,ys,n,f,l,r⟩,a,rfl,e⟩:=D.obj c<|Yt e;cases e.symm.trans f.1
  show .lst (q _ f.2.1 _ f.2.2) l<|F5.mono S r
noncomputable def G.ym(g:G):RM:=λa=>match g.R a with
 |.led=>match g.get a with
  |some o=>.fz o
  |none=>.led
 |r=>r
theorem Inv.ym(p:Inv b g):u0 g.R g.ym/\(∀a,g.R a=.led->∀o,g.get a=I o->g.ym a=.fz o)/\∀a o,g.ym a=.fz o->g.get a=I o:=by
 show#[λa o e=>by unfold G.ym;rw[e],λa e o c=>by unfold G.ym;rw[e,c],λa o e=>?_];unfold G.ym at e;induction r:g.R a with
 |led=>
  replace e:=(r)▸e;induction q:g.get a with
  |none=>replace e:=(q)▸e;cases e
  |some f=>rw[q]at e;injection e with e;subst e;rfl
 |fz f=>replace e:=(r)▸e;injection e with e;subst e;show p.fh r
 |_=>replace e:=(r)▸e;cases e
theorem Pc{u:aq}(c:VR b.W g x u)(f:VR b.W g y v)(h:Eu x y=I r):v=.none/\(u==.none)=r:=by
 cases y with
 |ref i=>show bh h
 |p y=>
  induction y using P.casesOn<;>try show bh h
  show#[PR.none_of f,?_];cases x with
  |ref i=>obtain⟨a,_,rfl⟩:=c;obtain rfl:=aV h;rfl
  |p x=>induction x using P.casesOn<;>first|show bh h | (obtain rfl:=aV h;first | (obtain rfl:=PR.none_of c;rfl) | (obtain rfl:=PR.zG c;rfl) | (obtain⟨_,rfl⟩:=PR.fU c;rfl) | (obtain⟨⟨_,rfl⟩,_⟩:=PR.nq c;rfl) | (obtain⟨⟨_,rfl⟩,_⟩:=PR.f7 c;rfl) | (obtain⟨_,_,_,rfl,_⟩:=PR.qM c;rfl) | (obtain⟨_,_,_,rfl,_⟩:=PR.oz c;rfl) | (obtain⟨_,_,_,_,_,_,rfl,_⟩:=PR.EP c;rfl) | (obtain⟨_,_,_,rfl,_⟩:=PR.IX c;rfl) | (obtain⟨_,_,_,_,rfl,_⟩:=PR.ER c;rfl))
theorem Q5(e:Inv b g)(H:A.units+6<cLine){op:CmpOp}{u:aq}(d:VR b.W g x u)(D:VR b.W g y v)(h:lq g.U op x y=I r)(f:∀t,Q (.bool r)<|sh g.s g.s.heap t) :
  wpAny b.W.M A (compareOp op u v) Q E g.s:=by
 rw[jP]at h;have k:∀{p q:P}{r},x.Ue g.U=I p->y.Ue g.U=I q->CH 5 p q=I r->aah A g.s u v r:=λF K l=>
  let ⟨U,W,Y⟩:=e.ym
  aeh 5 A _ _ u v _ Y (dO [_,_] (.a (.a (.v 0)<|.n 5)<|.n 1) (.v 1) (.a (.a (.v 0)<|.n 6)<|.n 1) (.v 1) B H) l (e.Ue d F U W) (e.Ue D K U W)
 induction op with
 |Eq=>show fB h λp F h=>?_;show fB h λq K h=>((k F K h).2.1 b.W.prog b.W.w E Q<|f g.s.toks)
 |NotEq=>show fB h λp F h=>(fB h λq K h=>(mS h λc L R=>?_));subst R;show(k F K L).2.2 b.W.prog b.W.w E Q<|f g.s.toks
 |Lt=>obtain⟨i,j,rfl,rfl,rfl⟩:=zE h;obtain⟨t,rfl⟩:=PR.fU d;obtain⟨t,rfl⟩:=PR.fU D;show acK<|f g.s.toks
 |LtE=>obtain⟨i,j,rfl,rfl,rfl⟩:=zE h;obtain⟨t,rfl⟩:=PR.fU d;obtain⟨t,rfl⟩:=PR.fU D;show acL<|f g.s.toks
 |Gt=>obtain⟨i,j,rfl,rfl,rfl⟩:=zE h;obtain⟨t,rfl⟩:=PR.fU d;obtain⟨t,rfl⟩:=PR.fU D;show acM<|f g.s.toks
 |GtE=>obtain⟨i,j,rfl,rfl,rfl⟩:=zE h;obtain⟨t,rfl⟩:=PR.fU d;obtain⟨t,rfl⟩:=PR.fU D;show acN<|f g.s.toks
 |Is=>obtain⟨rfl,rfl⟩:=Pc d D h;show is_none<|f g.s.toks
 |IsNot=>obtain⟨c,L,rfl⟩:=cB.mp h;clear h;obtain⟨rfl,rfl⟩:=Pc d D L;show isNot_none<|f g.s.toks
 |In=>show fB h λp F h=>?_;obtain rfl:=V.ju F;show XO e X d D h f
 |NotIn=>show fB h λp F h=>?_;obtain rfl:=V.ju F;show mS h λc L R=>?_;subst R;show XO e J d D L f
end
theorem KR(i:Int)(n:Nat):(if i<0 then n-(-i).toNat else min i.toNat n)=if i<0 then (i+n).toNat else min i.toNat n:=by
 by_cases h:i<0
 ·rw[if_pos h,if_pos h];lia
 ·rw[if_neg h,if_neg h]
theorem SD(c:Option Int)(n:Nat):kms_lo c n=yq n c 0:=by
 induction c with
 |none=>rfl
 |some i=>show KR i n
theorem Rn(c:Option Int)(n:Nat):kms_hi c n=yq n c n:=by
 induction c with
 |none=>rfl
 |some i=>show KR i n
theorem As(b:Array UInt8)(c f:Option Int):afp b c f=(cut b.toList c f).toArray:=by unfold afp Bytes.sliced;rw[kms_bounds];simp only[sliceRange_one,pick_run,cut,SD,Rn,iV]
theorem NQ(b:Array aq)(c f:Option Int):slicePick b c f az=(cut b.toList c f).toArray:=by rw[kms_pick_eq];simp only[kms_pick,cut,SD,Rn]
theorem DT(L:List α)(c f:Option Int):(cut L c f).length<=L.length:=by unfold cut;rw[qG,qH];show av (Nat.min_le_right _ _)<|rQ _ _
theorem cC.cut{T:α->β->Prop}{L:List α}{ys:List β}(h:cC T L ys)(c f:Option Int):cC T (cut L c f)<|cut ys c f:=by unfold Mine.Internal.cut;show sB (h.len)<|(h.drop _).take _
theorem Bt{L:List α}{i:Int}{x:α}(h:Ac L i=I x):0<=i/\L[i.toNat]?=I x/\i.toNat<L.length:=by
 unfold Ac at h;induction e:decide (0<=i)with
 |false=>replace h:=(e)▸h;show bh h
 |true=>replace h:=(e)▸h;show#[of_decide_eq_true e,h,(aR.mp h).1]
theorem Bk{i:Int}(c:0<=i)(h:i.toNat<n)(l:n<=gr):i<2^63/\i<n:=by
 have z:i<n:=by rw[<- nZ c];show fD.mpr h
 show#[fM z<|gJ (gM.mpr l)<|by decide,z]
section
variable {g:G}{E:aq->aA->Prop}
theorem JP(slice:Expr)(o i:aq):∃l,subscripted slice X o i=operate l (getItem o i):=by
 induction slice using fW with
 |Slice a b c p=>induction c<;>show#[_,rfl]
 |_=>show#[_,rfl]
theorem jC{value slice:Expr}{o i:aq}{id:String}(c:s.TypeIs o T)(p:typeLookup (.type T) "__getitem__" = pure (I<|.builtin id))(h:wpAny W.M A (getItem o i) Q E s) :
  wpAny W.M A (subscriptTail value slice o i) Q E s:=by
 show ao<|bS (getitemInPython_of_ne c.not_modules) ?_;show ao<|iX c p ?_;have fin:wpAny W.M A (subscripted slice X o i) (λr f=>wpAny W.M A (letTemporaryGo value o r>>=λw=>pure r) Q E f) E s:=by obtain⟨l,e⟩:=JP slice o i;show bS (e)<|wpAny_operating<|lX h (λr f q=>ao<|wz<|aF q) λw w x=>x
 first
  |show aF<|ao fin
  |show ao<|aF<|ao fin
  |show ao fin
theorem Ie{f:List O}(h:yT f x y=I z):∃q,y=.p q/\((∃d k,mU f x=I d/\q.Ax d.1=I k/\fR d.2 k=I z)∨∃i,q=.int i/\((∃L w,g9 f x=I L/\Ac L i=I w/\z=.p w)∨
  (∃l w,x=.p (.bytes l)/\Ac l i=I w/\z=.p (.int w.toNat))∨(∃l w,x=.p (.str l)/\Ac l i=I w/\z=.p (.str [w]))∨∃l w,x=.p (.tup l)/\Ac l i=I w/\z=.p w)):=by
 show fB h λq e h=>?_;show#[q,V.ju e,?_];induction D:mU f x with
 |some d=>rw[D]at h;show fB h λk F K=>(.inl #[d,k,rfl,F,K])
 |none=>
  replace h:=(D)▸h;show fB h λi F h=>?_;show .inr #[i,P.ig F,?_];induction K:g9 f x with
  |some L=>rw[K]at h;show mS h λw c H=>H▸(.inl #[L,w,rfl,c,rfl])
  |none=>
   replace h:=(K)▸h;show .inr<|fB h λp c h=>((V.ju c)▸?_);clear D K c;induction p using P.casesOn with
   |bytes l=>obtain⟨w,c,rfl⟩:=cB.mp h;show .inl #[l,w,rfl,c,rfl]
   |str l=>obtain⟨w,c,rfl⟩:=cB.mp h;show .inr<|.inl #[l,w,rfl,c,rfl]
   |tup l=>obtain⟨w,c,rfl⟩:=cB.mp h;show .inr<|.inr #[l,w,rfl,c,rfl]
   |_=>show bh h
theorem Ys{i:Int}(c:0<=i)(h:i.toNat<n):seqIndex? i n=I i.toNat:=by simp[seqIndex?,(gK.mpr c),c];show(rR c).mp h
theorem aaJ(I:Inv b g){value slice:Expr}{u:aq}(J:VR b.W g x u)(Z:VR b.W g y v)(h:yT g.U x y=ae z)(K:∀w t,VR b.W g z w->Q w (sh g.s g.s.heap t)) :
  wpAny b.W.M A (subscriptTail value slice u v) Q E g.s:=by
 obtain⟨q,rfl,j⟩:=Ie h;clear h;rcases j with ⟨d,k,U,B,F⟩ | ⟨i,rfl,h⟩
 ·obtain⟨a,kvs,rfl,T,D,_,n⟩:=I.mw J U;obtain⟨w,L',R⟩:=(n.get).1 z F;show jC D.mapOf.typeIs slot_dict_getitem.lookup<|wpAny_getItem_of (yg B Z) D.mapOf L'<|K w _ R
 ·obtain⟨t,rfl⟩:=PR.fU Z;rcases h with ⟨L,w,U,B,rfl⟩ | ⟨l,w,rfl,B,rfl⟩ | ⟨l,w,rfl,B,rfl⟩ | ⟨l,w,rfl,B,rfl⟩
  ·obtain⟨c,F,p⟩:=Bt B;show hd λo W=>?_;obtain⟨a,ys,m,rfl,f,l,r⟩:=I.lst J U;obtain⟨X,L',R⟩:=r.get F;obtain⟨C,q2⟩:=Bk c p l;show W<|jC (Uj f).typeIs BA.lookup<|wpAny_getItem_list (Uj f) c C (sB (cV) L')<|K X g.s.toks R
  ·obtain⟨c,F,p⟩:=Bt B;obtain⟨⟨t,rfl⟩,H⟩:=PR.f7 J;show jC (BB g.s _ t) tQ.lookup<|getItem_bytes (av H<|by decide) c (Bk c p H).2<|K _ _ ?_;rw[show l.getD i.toNat 0=w by rw[List.getD,F];rfl];show .int _ _
  ·obtain⟨c,F,p⟩:=Bt B;obtain⟨⟨t,rfl⟩,H⟩:=PR.nq J;show jC (typeIs_str g.s _ t) slot_str_getitem.lookup (acO ?_ ?_<|K _ _<|.str [w] _<|show 1<=gr by decide)
   ·rw[tR,decide_eq_false_iff_not];have:=(Bk c p H).1;show#[gK.mpr<|gm (by decide) c,decide_eq_false<|m7.mpr this]
   ·rw[show seqIndex? i (⟨l.toArray⟩:Str).length=ae i.toNat from Ys c p];simpa using F
  ·obtain⟨c,F,p⟩:=Bt B;show hd λo W=>?_;obtain⟨a,ys,m,rfl,e,H,Y⟩:=PR.qM J;obtain⟨X,L',R⟩:=Y.get F;show W ?_;rw[Y.sz]at p;show jC #[_,I.fh e,rfl] slot_tuple_getitem.lookup<|acP #[_,I.fh e,rfl,m,rfl] (gm (by decide) c) (Bk c p<|Y.sz▸H).1 (Ys c p) (sB (cV) L')<|K X g.s.toks R
noncomputable abbrev GK(l u z:aq):Obj:={ cls:=.type "slice",data:=.fields [l,u,z].toArray }
theorem ZW(n:Inv b g){value slice:Expr}{a l u:aq}{H:Addr}{q w:Option Int}{z:P}{k:P->Prop}(v:VR b.W g x a)(K:g.s.heap.IsSliceOf H l u .none)(o:IsPart l q)(R:IsPart u w)
  (h:QK g.U x q w=I z) (U:k z) (W:Cd b g k Q):wpAny b.W.M A (subscriptTail value slice a<|.ref H) Q E g.s:=by
 unfold QK at h;induction e:g9 g.U x with
 |some L=>rw[e]at h;injection h with h;subst h;show hd λY D=>?_;obtain⟨a,ys,m,rfl,f,r,y⟩:=n.lst v e;show D ?_;show jC (Uj f).typeIs BA.lookup<|Kp (Uj f) K o R .none (bh) ?_<|(y.sz)▸sizes r;show W.lst n g.s.toks (av (DT ..) r) (by rw[NQ];show y.cut q w) U
 |none=>
  replace h:=(e)▸h;show hd λY D=>(mS h λc F Z=>?_);subst Z;show fB F λp d F=>?_;obtain rfl:=V.ju d;obtain rfl:=P.gS F;obtain⟨⟨t,rfl⟩,r⟩:=PR.f7 v;show D ?_;show jC (BB g.s _ t) tQ.lookup<|getItem_meets (BB _ _ _) (by decide) tQ FB.entry_bytes_getitem (FB.args_bytes_getitem_2 _ _) (KBc.meets_slice2 _ t _ o R) #[K,?_,λj i=>W.tok n i ?_ U]
  ·rw[As];show sizes<|av (DT c q w) r
  ·rw[As];show .bytes _ _<|av (DT c q w) r
theorem aaR(R:Inv b g){value slice:Expr}{a z:aq}{c:Addr}{r:P}{k:P->Prop}(w:VR b.W g x a)(i:g.s.heap.IsSliceOf c .none .none z)(D:IsPart z<|I<|-1)
  (h:aaC g.U x=I r) (F:k r) (H:Cd b g k Q):wpAny b.W.M A (subscriptTail value slice a<|.ref c) Q E g.s:=by show hd λd j=>(mS h λL e K=>?_);subst K;obtain⟨a,ys,m,rfl,f,p,q⟩:=R.lst w e;show j ?_;show jC (Uj f).typeIs BA.lookup<|Kp (Uj f) i .none .none D (by decide) ?_<|(q.sz)▸sizes p;show H.lst R g.s.toks (by rw[i6];show p) (by rw[krv_pick];show q.rev) F
end
end
variable{F:Fr}{K:Frag}{nm:Str}
section
open PySem.SeqAt Builtin Builtin.ObjectAttr
theorem Ij{x y:Str}(h:v.isStr x=J)(h':v.isStr y=J):x=y:=by induction v<;>first|show(cI h).symm.trans (cI h') | show gE h
section
variable {name:Str}{OG:Int}{key:aq}{e:cZ}{Z r:List cZ}
theorem DQ(h:e.key.isStr nm=J):(e::r).find? (·.key.isStr nm)=I e:=by rw[gu,h]
theorem w5(h:e.key.isStr nm=X):(e::r).find? (·.key.isStr nm)=r.find? (·.key.isStr nm):=by rw[gu,h]
theorem JS(h:e.key.isStr name=J):putL name OG key v (e::r)=#[e.hash,e.key,v]::r:=if_pos h
theorem Im(h:e.key.isStr name=X):putL name OG key v (e::r)=e::putL name OG key v r:=if_neg<|by rw[h];show aD
theorem NK:getL name (putL name OG (.str name t) v Z)=I (I v):=by
 have c:∃e,(putL name OG (.str name t) v Z).find? (·.key.isStr name)=I e/\e.val=v:=by
  induction Z with
  |nil=>show#[#[OG,.str name t,v],DQ<|beq_self_eq_true name,rfl]
  |cons e r f=>
   cases z:e.key.isStr name with
   |true=>show#[#[e.hash,e.key,v],by rw[JS z];show DQ z,rfl]
   |false=>rw[Im z,w5 z];show f
 show c.elim λe h=>by unfold getL;rw[h.1,<- h.2]
theorem CL(c:nm≠name):((putL name OG (.str name t) v Z).find? (·.key.isStr nm)).map (·.val)=(Z.find? (·.key.isStr nm)).map (·.val)/\(putL name OG (.str name t) v Z).any (·.refKey)=Z.any (·.refKey):=by
 induction Z with
 |nil=>show#[congrArg _<|w5<|beq_false_of_ne c.symm,rfl]
 |cons e r f=>
  induction z:e.key.isStr name with
  |true=>
   have q:e.key.isStr nm=X:=by
    induction y:e.key.isStr nm with
    |false=>rfl
    |true=>show absurd (Ij y z) c
   rw[JS z,w5 q,w5 (e:=#[e.hash,e.key,v]) q];show#[rfl,rfl]
  |false=>
   rw[Im z,iU,iU,f.2];show#[?_,rfl];induction y:e.key.isStr nm with
   |true=>rw[DQ y,DQ y]
   |false=>rw[w5 y,w5 y];show f.1
noncomputable def ahm(o:Option aq)(b:Bool):Option<|Option aq:=match o with
 |some v=>I<|I v
 |none=>if b=J then az else I az
theorem DU:getL nm Z=ahm ((Z.find? (·.key.isStr nm)).map (·.val)) (Z.any (·.refKey)):=by unfold getL;induction Z.find? (·.key.isStr nm)<;>rfl
theorem Av(c:nm≠name):getL nm (putL name OG (.str name t) v Z)=getL nm Z:=by rw[DU,DU,(CL c).1,(CL c).2]
theorem FZ:(putL name OG key v Z).length=if Z.any (·.key.isStr name) then Z.length else Z.length+1:=by
 induction Z with
 |nil=>rfl
 |cons e r c=>
  cases z:e.key.isStr name with
  |true=>rw[JS z,iU,z];rfl
  |false=>rw[Im z,iU,z,Xw,aX,c];induction r.any _<;>rfl
theorem vO{o:Option aq}(h:getL name Z=I o):Z.any (·.key.isStr name)=o.isSome/\(o=az->Z.any (·.refKey)=X):=by
 rw[DU]at h;induction e:Z.find? (·.key.isStr name)with
 |some x=>
  rw[e]at h;cases h
  show#[yG.mpr #[x,Cr e,TS (p:=λe:cZ=>e.key.isStr name) e],(pO)]
 |none=>
  rw[e]at h;induction b:Z.any (·.refKey)with
  |true=>rw[b]at h;show bh h
  |false=>
   rw[b]at h;cases h
   show#[lK.mpr<|uV.mp e,λw=>rfl]
theorem BW(h:getL name Z=I (I v)):Z.any (·.key.isStr name)=J:=(vO h).1
theorem BZ(h:getL name Z=I az):Z.any (·.key.isStr name)=X:=(vO h).1
theorem VK(h:(getL name Z).isSome=J):(!Z.any (·.key.isStr name)&&Z.any (·.refKey))=X:=by
 obtain⟨o,e⟩:=bQ.mp h;rw[(vO e).1];induction o with
 |some v=>rfl
 |none=>show(vO e).2 B
end
theorem UZ{A:bC}{x f:Addr}{g:Obj}{name:Str}{o:Tok}{v:aq}{c:List cZ}{R:fP->aA->Prop}(X:W.K.In s.heap)(k:XG s.heap x g C<|I<|dictOf c n)(hd:g.dict=I f)(F:plainOver W.K C=J)(H:takerIn W.K C name=I az)(m:hasDictIn W.K C=J)
  (L:(getL name c).isSome=J) (e:c.length<=900) (D:s.heap.get? f=I (dictOf c n))
  (h:∀h',h'.get? f=I (dictOf (putL name (iW W.w.params name) (.str name s.toks) v c)<|putN name c n)->(∀b,b≠f->h'.get? b=s.heap.get? b)->R (.ok<|.ret .none) { s with heap:=h',toks:=s.toks+1 }) :
  codeAny (model W.prog W.w) A (.call (.builtin "object.__setattr__") #[[.ref x,.str name o,v],[]]) R s:=by
 show osa_open X k F H λb=>?_
 obtain⟨cd,M,U⟩:=any_some m
 have p:(s.heap.update f<|Obj.putName name (iW W.w.params name) (.str name s.toks) v).get? f=I (dictOf (putL name (iW W.w.params name) (.str name s.toks) v c)<|putN name c n):=by rw[<- (putName_dict ..)];show iF _ D<|by rw[(putName_dict ..)];rfl
 obtain⟨l,q,i,-⟩:=k
 obtain⟨j,Y,Z,a⟩:=g
 dsimp only at q hd
 subst q hd
 show ao<|aF<|ao<|ao<|wA l<|ao<|(looks_clsIn X M).here ?_
 rw[U]
 show aF<|ao<|aF<|ao ?_
 show ao<|ao<|acp<|aF<|ao<|wpAny_mkText<|ao<|wA D ?_
 have cc:(!c.toArray.any (·.key.isStr name)&&c.toArray.any (·.refKey))=au:=by
  rw[<- mH,<- mH]
  show VK L
 dsimp only[dictOf]
 rw[aRefKeyMayBeTheName_at,cc]
 show wpAny_updatePart D ?_
 show ao<|CB p (acq<|by rw[gW,FZ,gG];split<;>lia) ?_
 show aF<|h _ p λb d=>lM _ _<|Ne.symm d
noncomputable def GF(K:Frag)(C:Addr):Bool:=findIn K (.ref C) "__getattribute__" == I (I<|.builtin "object.__getattribute__")&&findIn K (.ref C) "__getattr__" == I az&&hasDictIn K C&&
 findIn K (.ref C) "__setattr__" == I (I<|.builtin "object.__setattr__")&&plainOver K C
def qK(K:Frag)(C j:Nat)(name:Str):Bool:=GF K C&&((nu C)[j]?).map cG==I name&&findIn K (.ref C) name==I az&&decide ((nu C).map cG).Nodup
theorem uX(h:GF K C=J):plainGet K C "" = J/\hasDictIn K C=J/\findIn K (.ref C) "__setattr__" = I (I<|.builtin "object.__setattr__")/\plainOver K C=J:=aZ h λh f=>aZ h λh e=>aZ h λh d=>#[h,d,cI e,f]
theorem Bd{C:Nat}{name:Str}(h:qK K C j name=J):GF K C=J/\(∃nm,(nu C)[j]?=I nm/\cG nm=name)/\findIn K (.ref C) name=I az/\((nu C).map cG).Nodup:=aZ h λh e=>aZ h λh d=>aZ h λa b=>#[a,cB.mp<|cI b,cI d,of_decide_eq_true e]
theorem jv.kindOf{c:Sc}{fm:Fm}(f:jv c fm env)(x:Str):env.kindOf x=c.kinds.lookup x:=by unfold Oe;rw[f.names]
theorem jv.blk{c:Sc}{fm:Fm}(f:jv c fm env):env.blockKind=.function:=by unfold Env.blockKind;rw[f.kind];rfl
theorem jv.plain{c:Sc}{fm:Fm}(f:jv c fm env):(env.scope.kind==.class||(env.scope.kind==.module&&env.locals != env.globals))=X:=by show(f.kind)▸?_;rfl
def k7(c:Sc)(x:Str)(i:Nat):Bool:=!zO x&&(c.slot.lookup x==I i&&(c.kinds.lookup x==I .local||c.kinds.lookup x==I .cell))
theorem wW{c:Sc}{x:Str}(h:k7 c x i=J):zO x=X/\c.slot.lookup x=I i/\(c.kinds.lookup x=I .local∨c.kinds.lookup x=I .cell):=
 by obtain⟨a,h⟩:=eH h;obtain⟨b,h⟩:=eH h;show#[gH a,cI b,(Sn h).imp cI cI]
section
variable {g:G}{E:aq->aA->Prop}{sc:Sc}
theorem GS(e:Inv b g)(f:jv sc b.fm env){x:Str}{v:V}(h:k7 sc x i=J)(k:g.loc[i]?.join=I v)(D:∀u,VR b.W g v u->Q u g.s):wpAny b.W.M A (loadName env x) Q E g.s:=by
 show hd λU H=>?_;obtain⟨W,F,h2⟩:=wW h;show H ?_;rcases h2 with h2|h2
 ·obtain⟨d,m,p,w,c⟩:=e.lr.vd i x _<|f.vl x i F h2;cases f.loc.symm.trans p
  rw[k]at c;induction q:m x with
  |none=>rw[q]at c;show c.elim
  |some u=>rw[q]at c;show wB f.kind ((f.kindOf x).trans h2) w q<|D u c
 ·obtain⟨j,L⟩:=f.vc x i F h2;obtain⟨a,R,p,w,c⟩:=e.lr.vc i x j;replace c:=(k)▸c;induction R with
  |none=>show c.elim
  |some u=>show wpAny_loadName_cell f.kind ((f.kindOf x).trans h2) (L.trans p) w<|D u c
theorem Ws(w:Inv b g)(c:jv sc b.fm env){x:Str}{p:Pos}{v:V}(h:k7 sc x i=J)(f:g.loc[i]?.join=I v)(q:∀u,VR b.W g v u->Q u g.s):wpAny b.W.M A (eval (.Name x p) env) Q E g.s:=HK (GS w c h f q) (wW h).1
theorem sr(j:Inv b g)(c:jv sc b.fm env){x:Str}{v:V}{u:aq}{Q:Unit->aA->Prop}(h:k7 sc x i=J)(F:VR b.W g v u)(H:∀s',Inv b #[g.R,g.ρ,g.σ.var i v,s']->Q () s') :
  wpAny b.W.M A (storeName env x u) Q E g.s:=by
 show hd λL w=>?_;obtain⟨l,e,h2⟩:=wW h;show w ?_;rcases h2 with h2|h2
 ·have f:=c.vl x i e h2;show hd λL w=>?_;obtain⟨d,m,p,q,U⟩:=j.lr.vd i x _ f;cases c.loc.symm.trans p
  show w<|wpAny_storeName_local ((c.kindOf x).trans h2) q (λh' k D=>H _<|j.afU _ f p q k D F) c.plain
 ·obtain⟨f,W⟩:=c.vc x i e h2;obtain⟨a,Y,p,q,U⟩:=j.lr.vc i x f;show wpAny_storeName_cell c.kind ((c.kindOf x).trans h2) (W.trans p) q λh' k D=>H _<|j.setC g.s.toks f p k D F
theorem Es{N:Addr}{x:Str}{r:Option aq}{M:ir}(X:K.In s.heap)(e:nsIn K N x=I r){Q:Option aq->aA->Prop}(q:Q r s):wpAny M A (nsGet N x) Q E s:=(looks_nsIn X e).at q
theorem tE{fm:Fm}{M:ir}(X:K.In s.heap)(f:jv sc fm env){x:Str}{p:Pos}(hd:zO x=au)(w:sc.kinds.lookup x=I .globalImplicit)(c:mq K x=I v)(q:Q v s) :
  wpAny M A (eval (.Name x p) env) Q E s:=by
 show HK ?_ hd;unfold loadName;have k1:(env.scope.kind.isAnnotationScope&&env.kindOf "__classdict__" == I .free&&x != "__classdict__")=au:=by rw[f.kind];rfl
 rw[if_neg<|by rw[k1];decide];rw[f.blk,f.kindOf,w];change wpAny _ _ (loadGlobal env x) _ _ _;unfold loadGlobal;show bS (f.glob)<|bS (f.blt) ?_;show fB c λr e c=>?_;induction r with
 |some z=>injection c with c;subst c;show ao<|Es X e<|aF q
 |none=>show ao<|Es X e<|ao<|Es X (qb.mp c)<|aF q
theorem GC(c:VR W g x v):handedIn v=J:=by
 cases x with
 |p x=>show PR.vals (W:=W) (C:=λv=>handedIn v=J) c B (λw=>rfl) (λw w=>rfl) (λw w=>rfl) (λw w=>rfl) λw=>rfl
 |ref i=>obtain⟨_,_,rfl⟩:=c;rfl
set_option tactic.hygienic true in
theorem Py{f:List O}{c:Nat}(h:qO f c (.ref i)=J):∃p,f[i]?=I (.inst c p):=by
 unfold qO at h;dsimp only at h;induction e:f[i]? with
 |none=>replace h:=(e)▸h;show gE h
 |some o=>
  replace h:=(e)▸h;induction o<;>first|show gE h|cases h|skip
  rename_i q p;obtain rfl:=gC h;show#[p,rfl]
set_option tactic.hygienic true in
theorem QH{q:List O}{c:Nat}{x:P}(h:qO q c (.p x)=J):∃f,x=.inst c f:=by
 induction x using P.casesOn<;>first|show gE h|skip
 rename_i w f;obtain rfl:=gC h;show#[f,rfl]
inductive Q9 (b:Bs) (g) (C:Nat) (x:V) (v:aq):Prop
 |mk (a dx sl Z m vs:_):v=.ref a->XG g.s.heap a #[.ref C,I dx,.plain,sl] C (I<|dictOf Z m)->ri C Z vs->(∀j y,u5 g.U C j x=I y->∃u,(vs[j]?).join=I u/\VR b.W g y u)->Q9 b g C x v
theorem Zv{q:List O}{c:Nat}{f:List P}:u5 q c j (.p<|.inst c f)=f[j]?.map V.p:=by change(match gB c c with|true=>f[j]?.map V.p|false=>az)=_;rw[oU]
theorem aaQ{p:List O}{c:Nat}{f:List<|Option V}(e:p[i]?=I (.inst c f)):u5 p c j (.ref i)=f[j]?.join:=by change(p[i]?.bind λo=>match o with | .inst q f=>(match gB q c with|true=>f[j]?.join|false=>az) | _=>az)=_;rw[e];change(match gB c c with|true=>f[j]?.join|false=>az)=_;rw[oU]
theorem Inv.inst(k:Inv b g){C:Nat}(M:VR b.W g x v)(h:qO g.U C x=J):Q9 b g C x v:=by
 induction x with
 |p x=>show hd λW l=>?_;obtain⟨R,rfl⟩:=QH h;obtain⟨a,D,F,H,m,vs,rfl,d,c,f,r⟩:=PR.EP M;show l ?_;show#[a,D,F,H,m,_,rfl,#[k.fh d,rfl,rfl,k.fh c],f,λj y e=>?_];rw[Zv]at e;show mS e λz q n=>sB n ?_;obtain⟨u,L,w⟩:=r.get q;show#[u,by rw[cj,L];rfl,w]
 |ref i=>
  show hd λW l=>?_;obtain⟨R,e⟩:=Py h;obtain⟨⟨Z,D,F,H,m,vs,U,Y,_,f,r⟩,a,rfl,d⟩:=k.obj M e;cases d.symm.trans U.1
  show l ?_;show#[_,D,F,H,m,vs,rfl,#[U.2.2,rfl,rfl,Y.2.2],f,λj y c=>?_];rw[aaQ e]at c;induction q:R[j]? with
  |none=>replace c:=(q)▸c;show bh c
  |some z=>
   rw[q]at c;obtain rfl:z=I y:=c;obtain⟨u,L,w⟩:=r.get q;show bS (L) ?_;induction u with
   |none=>show w.elim
   |some u=>show#[u,rfl,w]
set_option tactic.hygienic true in
theorem Mx{q:List O}{c:Nat}(h:u5 q c j x=I y):qO q c x=J:=by
 cases x with
 |p x=>
  induction x using P.casesOn<;>first|show bh h|cases h|skip
  rename_i f w;change gB f c=J;replace h:(match gB f c with|true=>w[j]?.map V.p|false=>az)=I y:=h;induction e:gB f c with
  |true=>rfl
  |false=>rw[e]at h;show bh h
 |ref i=>
  show fB h λo e h=>?_;unfold qO;dsimp only;show(e)▸?_;induction o<;>first|show bh h|cases h|skip
  rename_i f w;change gB f c=J;induction e:gB f c with
  |true=>rfl
  |false=>dsimp only at h;replace h:=(e)▸h;show bh h
theorem Lw(l:Inv b g){C:Nat}{name:Str}{e:Bool}(w:qK b.W.K C j name=J)(n:VR b.W g x v)(h:u5 g.U C j x=I y)(D:∀u t,VR b.W g y u->Q u (sh g.s g.s.heap t)) :
  wpAny b.W.M A (getAttr v name e) Q E g.s:=by show hd λr F=>?_;obtain⟨H,⟨nm,o,rfl⟩,L,Y⟩:=Bd w;obtain⟨g1,R,g3,Z⟩:=uX H;obtain⟨a,d,i,k,m,vs,rfl,U,f,q⟩:=l.inst n<|Mx h;obtain⟨u,W,c⟩:=q j y h;show F ?_;have p:=f.val j nm o;rw[W]at p;show get_value l.za U (wC g1).1 (findObj_own R L B p) (GC c)<|D u _ c
theorem ri.put{C:Nat}{nm:String}{M:List cZ}{vs:List<|Option aq}{u:aq}{H:Int}{t:Tok}(f:ri C M vs)(nd:((nu C).map cG).Nodup)(e:(nu C)[j]?=I nm) :
  ri C (putL (cG nm) H (.str (cG nm) t) u M) (vs.set j<|I u):=by
 have w:j<vs.length:=by rw[f.len];show(aR.mp e).1
 show#[(cD ..).trans f.len,λi p D=>?_,λp F=>?_,?_,by rw[cD];show f.lim]
 ·by_cases h:i=j
  ·subst h;cases e.symm.trans D
   rw[NK,ik w];rfl
  ·rw[Av λz=>h<|oF nd (x:=cG nm) (by rw[cj,D];show sB (z) ?_;rfl)<|by rw[cj,e];rfl,dw<|Ne.symm h];show f.val i p D
 ·rw[Av λz=>F<|by show bS (z)<|fQ<|dM e];show f.no p F
 ·have v:=f.val j nm e;rw[FZ,List.countP_set w];have c:=f.cnt;rw[(bD w)]at v;induction q:vs[j]with
  |none=>rw[q]at v;show bS (BZ v)<|cU c
  |some z=>rw[q]at v;rw[BW v];have:0<vs.countP (·.isSome):=List.countP_pos_iff.mpr #[I z,sB q<|List.getElem_mem w,rfl];change M.length<=vs.countP (·.isSome)-1+1;show fZ [_,_,_] (.v 0) (.a (.v 1)<|.n 1) (.v 0) (.v 2) (.v 2) (.a (.v 1)<|.n 1) B c<|oJ _ _
set_option tactic.hygienic true in
theorem AQ(I:Inv b g){C:Nat}{name:Str}{u:aq}{k:St->Prop}{Q:Unit->aA->Prop}(B:qK b.W.K C j name=aB)(t:VR b.W g x v)(T:VR b.W g y u)(h:qt g.σ C j y x k)
  (hQ:∀L s',Inv b #[g.R,g.ρ,L,s']->k L->Q () s'):wpAny b.W.M A (setAttr v name u) Q E g.s:=by
 obtain⟨h1,⟨nm,U,rfl⟩,h3,h4⟩:=Bd B;obtain⟨g1,g2,g3,g4⟩:=uX h1;induction x with
 |p x=>show h.elim
 |ref i=>
  obtain⟨o,W,h⟩:=qS h;induction o<;>first|show h.elim|skip
  show hd λΩ ω=>?_;rename_i X fs;obtain⟨⟨f1,f2⟩,F⟩:=h;obtain rfl:=gC f1;obtain⟨⟨a,H,Y,Z,n,vs,D,q,d,f,r⟩,J,rfl,e1⟩:=I.obj t W;cases e1.symm.trans D.1
  show ω ?_;have jl:=(r.len)▸f2;have qB:=av f.cnt<|av List.countP_le_length f.lim;have hl:(getL (cG nm) Z).isSome=aB:=by rw[f.val j nm U];rfl
  have e:XG g.s.heap J #[.ref X,ae H,.plain,Y] X<|ae<|dictOf Z n:=#[D.2.2,rfl,rfl,q.2.2];show set_plain I.za e g3<|UZ I.za e af g4 (by unfold takerIn;rw[h3];rfl) g2 hl (dO [_] (.v 0) (.n 900) (.v 0) (.n 20) af qB) q.2.2 λh' l m=>?_;have Hx:J≠H:=λz=>by have:=D.2.2.symm.trans<|bS z q.2.2;cases this
  show hQ _ _ (I.turn (h':=h') (g.s.toks+1+1) W (λh=>by cases h) (.inr #[.inl rfl,d]) (λc B=>#[rfl,λo _ z=>(m c λw=>B _ (.head _)<|bS w q.1).trans z])
   (λk F c B=>by rw[ah.mp F,q.1]at B;obtain rfl:=aV B;rw[q.2.1];show#[rfl,rfl,_,l]) af ?_).1 F
  show#[J,H,Y,_,_,_,#[D.1,D.2.1,(m _ Hx).trans D.2.2],#[q.1,q.2.1,l],(dw<|aS<|bE _).trans d,f.put h4 U,r.set (v:=ae u) T j]
end
end
variable{f:Addr}{p:Addr×Obj}{args:Args}{iter tt:Expr}{D:List (Addr×Obj)}{gens:List Comprehension}{ifs:List Expr}{X:XX}{acc it:aq}
section
open PySem.SeqAt Builtin
theorem Le.to{g:G}{h:Heap}{t:Nat}:Le g<|g.to g.R h t:=#[λw w e=>e,bH _]
def mz(g:G)(D:List<|Addr×Obj):Prop:=∀p∈D,g.R p.1=.iP/\g.get p.1=I p.2
def Step(b:Bs)(g:G)(D:List<|Addr×Obj)(c:G):Prop:=Inv b c/\Le g c/\c.ρ=g.ρ/\c.σ=g.σ/\mz c D/\(D.map (·.1)).Nodup
def jD(W:Pw)(A:bC)(target:Expr)(it:aq)(l:List P):RM->List (Addr×Obj)->Prop:=l.rec (λa D=>∀{c:Cx}{fm:Fm}{g:G}{Q:Option aq->aA->Prop}{E:aq->aA->Prop},u0 a g.R->Inv #[W,c,fm] g->mz g D->(∀s',Inv #[W,c,fm] #[g.R,g.ρ,g.σ,s']->Q az s')->wpAny W.M A (pyNext it) Q E g.s)
 (λx Z k a D=>∀{c:Cx}{fm:Fm}{g:G}{Q:aq->aA->Prop}{E:aq->aA->Prop},u0 a g.R->Inv #[W,c,fm] g->mz g D->
   (∀v w F,Step #[W,c,fm] g F w->PR W w.R x v->k w.R F->Q v w.s)->
   wpAny W.M A (pyNext it) (λo q=>match o with|none=>False|some v=>wpAny W.M A (letOwnedTupleGo target it v) (λZ H=>Q v H) E q) E g.s)
noncomputable def Bv:List String:=["enumerate", "zip", "dict_itemiterator", "dict_reverseitemiterator", "odict_iterator", "itertools.zip_longest", "itertools.pairwise"]
section
variable {E:aq->aA->Prop}{target:Expr}
set_option backward.match.sparseCases true in
theorem G7{M:ir}{H:Addr}{Q:Unit->aA->Prop}(g:s.heap.get? H=I o)(q:o.cls=.type T)(w:Bv.contains T=au)(c:Q () s):wpAny M A (letOwnedTupleGo target (.ref H) v) Q E s:=by
 have key:wpAny M A (do
   let (.ref r,.ref a):=((aq.ref H,v)) | return
   let o <- load r
   match o.cls,o.data with
   |.type n,.fields vs=>
    if ["enumerate", "zip", "dict_itemiterator", "dict_reverseitemiterator", "odict_iterator", "itertools.zip_longest", "itertools.pairwise"].contains n&&vs[0]?==I (rawInt a) then
     rule "for.unpacks-the-owned-tuple"
     updateField r 0 .none
   |_,_=>pure ()) Q E s:=by
  induction v with
  |ref a=>
   show ao<|j8 g ?_
   show bS (q) ?_
   induction o.data with
   |fields vs=>
    dsimp only
    show(w)▸?_;rw[tT]
    show aF c
   |_=>show aF c
  |_=>show aF c
 induction target using fW with
 |Tuple=>show key
 |List=>show key
 |_=>show aF c
theorem jD.ofWalks{I:Addr}{t:List Addr}{N:Nat}{P':Nat->aq->Prop}{Y:Nat->Heap->Prop}(W':HL W.prog W.w A I t [I] N P' Y)(hT:∀i h,Y i h->∃o,h.get? I=ae o/\o.cls=.type T)(hn:Bv.contains T=au){L':RM}
  (X:∀b∈t,b≠I->∃o,L' b=.fz o) {L:List P} (hN:L.length=N) (hP:∀i x v,L[i]?=ae x->P' i v->PR W L' x v) :
  ∀(k i:Nat),L.length-i=k->i<=L.length->∀(R1:RM),u0 L' R1->∀(o:Obj) (B),Y i B->B.get? I=ae o->(∀b∈t,b≠I->∀q,B.get? b=ae q->L' b=.fz q)->jD W A target (.ref I) (L.drop i) R1 [(I,o)]:=by
 have Z:∀{i:Nat}{o:Obj}{B:Heap}{b:Bs}{g:G},u0 L' g.R->Inv b g->Y i B->B.get? I=ae o->(∀b∈t,b≠I->∀q,B.get? b=ae q->L' b=.fz q)->g.get I=ae o->Y i g.s.heap:=λ{i o B b g} S J d f j hs=>
  W'.frame i B g.s.heap d λb hb q e=>by
   by_cases l:b=I
   ·cases l;cases f.symm.trans e;show hs
   ·show J.fh<|S _ _<|j b hb l q e
 intro k;induction k with
 |zero=>intro i m C R1 M o B d f j;obtain rfl:i=L.length:=di C<|Nat.le_of_sub_eq_zero m;rw[yH];intro c fm g Q E U' J off hq;have off:=off (I,o)<|.head _;have F:=Z (M.trans U') J d f j off.2;rw[hN]at F;show W'.done g.s Q E F λh' D K=>hq _<|J.only D λb q r e=>K b q (λz=>r<|ah.mp z▸off.1) e
 |succ k ih=>
  intro i m C R1 M o B d f j;have p:i<L.length:=(fZ [_,_,_,_] (.a (.v 0)<|.n 1) (.v 1) (.a (.v 2)<|.n 1) (.v 3) (.a (.v 3)<|.v 0) (.v 1) af (ak m.symm)<|k8<|dO [_,_] (.v 0) (.v 1) (.v 0) (.v 1) af C);rw[gA p];intro c fm g Q E U' J off hq;have off:=off (I,o)<|.head _;have F:=Z (M.trans U') J d f j off.2;show W'.item i g.s _ E (hN▸p) F λv h' D U Zb K=>?_;obtain⟨q,H,hc'⟩:=hT _ _ Zb;show G7 H hc' hn<|hq v (g.to g.R h' D) [(I,q)] #[(J.only D λb o2 r e=>K b o2 (λz=>r<|ah.mp z▸off.1) e),Le.to,rfl,rfl,all1<|⟨off.1,H⟩,bX.mpr ⟨ai,bV⟩] (PR.mono (M.trans U')<|hP i _ v (bD p) U) ?_;show ih (i+1) (di (rj [_,_,_,_,_] (.v 0) (.v 1) (.v 2) (.a (.v 1)<|.n 1) (.v 3) (.a (.v 2)<|.v 4) (.a (.v 0)<|.a (.v 4)<|.n 1) (.v 3) af (ak m) (oJ _ _)<|k8<|dO [_,_] (.a (.v 0)<|.n 1) (.v 1) (.a (.v 0)<|.n 1) (.v 1) af p)<|rj [_,_,_,_,_] (.v 0) (.v 1) (.a (.v 0)<|.n 1) (.v 2) (.v 3) (.a (.v 1)<|.a (.v 4)<|.n 1) (.a (.v 2)<|.v 4) (.v 3) af (ak m.symm) (oJ _ _)<|k8<|dO [_,_] (.v 0) (.v 1) (.v 0) (.v 1) af C) p g.R (M.trans U') q h' Zb H λb hb l o2 e=>?_;obtain⟨z,hz⟩:=X b hb l;cases (K b z (λy=>l<|ah.mp y)<|J.fh<|(M.trans U') _ _ hz).symm.trans e
  show hz
end
def PY(b:Bs)(A:bC)(target:Expr)(v:aq)(L:List P)(g:G):Prop:=
 ∀(Q:aq->aA->Prop) (E),(∀it c D,Step b g D c->(∀{b2:Bs}{g2:G}{q:aq->aA->Prop}{w:aq->aA->Prop},u0 c.R g2.R->Inv b2 g2->mz g2 D->q it g2.s->wpAny b.W.M A (pyIter it) q w g2.s)->jD b.W A target it L c.R D->Q it c.s)->
  wpAny b.W.M A (pyIter v) Q E g.s
section
variable {g:G}{target:Expr}
theorem nX{v:aq}{L:List P}{o:Obj}{d:List Addr}{N:Nat}{f:Nat->aq->Prop}{D:Nat->Heap->Prop}{T:String}(C:Inv b g)
  (it:∀(Q:aq->aA->Prop) (E:aq->aA->Prop),Q (.ref g.s.heap.objs.size) { g.s with heap:=g.s.heap.push o }->wpAny b.W.M A (pyIter v) Q E g.s)
  (U:o.isFreed=au) (W:HL b.W.prog b.W.w A g.s.heap.objs.size d [g.s.heap.objs.size] N f D) (j:D 0<|g.s.heap.push o) (k:∀i h,D i h->∃o,h.get? g.s.heap.objs.size=I o/\o.cls=.type T) (l:Bv.contains T=au)
  (q:∀a∈d,a≠g.s.heap.objs.size->∃o,g.R a=.fz o) (m:L.length=N) (n:∀i x v,L[i]?=I x->f i v->PR b.W g.R x v):PY b A target v L g:=by
 intro Q E p
 have c:∀a B,g.R a=.fz B->(g.s.heap.push o).get? a=I B:=λa B e=>aQ _<|C.fh e
 show it Q E<|p _ (g.to g.R (g.s.heap.push o) g.s.toks) [(g.s.heap.objs.size,o)] #[C.heap g.s.toks λb B e=>aQ _ e,Le.to,rfl,rfl,all1<|⟨C.free<|ie _,(br _ U)⟩,bX.mpr ⟨ai,bV⟩] (λ{b2 r t y} S K off Y=>?_) ?_
 ·show W.self 0 r.s t y (W.frame 0 _ _ j λb Z B e=>?_) Y
  by_cases H:b=g.s.heap.objs.size
  ·subst H
   cases (br _ U).symm.trans e
   show(off _<|.head _).2
  ·obtain⟨z,F⟩:=q b Z H
   cases (c _ _ F).symm.trans e
   show K.fh<|S _ _ F
 ·have:=jD.ofWalks (target:=target) W k l q m n L.length 0 (xZ _) (dU _) g.R (u0.refl _) o (g.s.heap.push o) j (br _ U) λb Z H B e=>by
   obtain⟨z,F⟩:=q b Z H
   cases (c _ _ F).symm.trans e;show F
  rwa [oX]at this
theorem E0(c:Inv b g)(e:g.R a=.fz o):a≠g.s.heap.objs.size:=λz=>by replace e:=(c.free<|ie _)▸(z)▸e;cases e
theorem SY{R:RM}{L:List P}{ys:Array aq}(r:cC (PR W R) L ys.toList)(i:Nat)(x:P)(v:aq)(e:L[i]?=I x)(q:ys[i]?=I v):PR W R x v:=by obtain⟨u,c,w⟩:=r.get e;rw[cV,q]at c;obtain rfl:=aV c;show w
theorem xy(M:A.handled=az)(I:Inv b g){L:List P}(U:VR b.W g x v)(h:items g.U x=ae L):L.length<=gr/\PY b A target v L g:=by
 obtain⟨p,e,f⟩:=dB.mp h;obtain rfl:=V.ju e;clear h e;revert f;intro h;have one:∀b∈[g.s.heap.objs.size],b≠g.s.heap.objs.size->∃o,g.R b=.fz o:=λb k n=>absurd (ah.mp k) n;have two:∀{a:Addr}{o:Obj},g.R a=.fz o->∀b∈[g.s.heap.objs.size,a],b≠g.s.heap.objs.size->∃o,g.R b=.fz o:=λe b k n=>by
  rcases aC.mp k with h|h
  ·show absurd h n
  ·rw[ah.mp h];show#[_,e]
 induction p using P.casesOn with
 |str l=>
  injection h with h;subst h;obtain⟨⟨t,rfl⟩,L'⟩:=PR.nq U;show#[by rw[ay];show L',?_];have fin:∀(i:Nat) x v,(l.map λx=>P.str [x])[i]?=ae x->SignAt ⟨l.toArray⟩ i v->PR b.W g.R x v:=λi x v e W=>by obtain⟨cc,u,J,rfl⟩:=W;rw[cj,show l[i]?=ae cc by simpa using J]at e;obtain rfl:=aV e;show .str _ _<|show 1<=gr by decide
  induction r:(⟨l.toArray⟩:Str).cps.all (· < 128)with
  |true=>show nX I (λQ E c=>wpAny_pyIter_ascii r c) af (HL.strAscii M _ ⟨l.toArray⟩ t) #[_,br _ af,rfl,rfl] (λi h w=>by obtain⟨o,F,H,_⟩:=w;show#[o,F,H]) (by decide) one (by rw[ay];rfl) fin
  |false=>show nX I (λQ E c=>wpAny_pyIter_wide r c) af (HL.strWide M _ ⟨l.toArray⟩ t) #[_,br _ af,rfl,rfl] (λi h w=>by obtain⟨o,F,H,_⟩:=w;show#[o,F,H]) (by decide) one (by rw[ay];rfl) fin
 |bytes l=>injection h with h;subst h;obtain⟨⟨t,rfl⟩,L'⟩:=PR.f7 U;show#[by rw[ay];show L',nX I (λQ E c=>KBw.pyIter_bytes c) af (KBw.walks M _ l.toArray t) #[_,br _ af,rfl,rfl] (λi h w=>by obtain⟨o,F,H,_⟩:=w;show#[o,F,H]) (by decide) one (by rw[ay];rfl) λi x v e W=>?_];obtain⟨cc,u,J,rfl⟩:=W;rw[cj,show l[i]?=ae cc by simpa using J]at e;cases e;show .int _ _
 |tup l=>
  cases h
  obtain⟨a,ys,m,rfl,B,L',Y⟩:=PR.qM U;show#[L',nX I (λQ E c=>wpAny_pyIter_tuple #[_,I.fh B,rfl,m,rfl] c) af (HL.tuple M _ a (E0 I B) ys) #[#[_,br _ af,rfl,rfl],#[_,aQ _<|I.fh B,rfl,m,rfl]] (λi h w=>by obtain⟨o,F,H,_⟩:=w.1;show#[o,F,H]) (by decide) (two B) Y.sz<|SY Y]
 |lst l=>
  cases h
  obtain⟨a,ys,m,rfl,B,L',Y⟩:=PR.oz U;show#[L',nX I (λQ E c=>BC #[_,I.fh B,rfl,m,rfl] c) af (HL.list M _ a (E0 I B) ys) #[#[_,br _ af,rfl,rfl],#[_,aQ _<|I.fh B,rfl,m,rfl]] (λi h w=>by obtain⟨o,F,H,_⟩:=w.1;show#[o,F,H]) (by decide) (two B) Y.sz<|SY Y]
 |Tj Z d=>
  obtain⟨a,t,u,x,rfl,B⟩:=PR.ER U;dsimp only at h;induction q:decide (0<=Z/\Z<=1000000/\-1000000<=d/\d<=1000000)with
  |false=>have h:=(q)▸h;show bh h
  |true=>
   rw[q]at h;injection h with h;subst h;obtain⟨y,f,D,z⟩:=of_decide_eq_true q;show#[by rw[ay,cA];show acg.mpr<|gm (Int.sub_le_sub z y)<|by decide,?_];show nX I (λQ E c=>wpAny_pyIter_range (I.fh B) (small_one (gm (by decide) y) (gJ f<|by decide) (gm (by decide) D)<|gJ z<|by decide) c) af (LCg.range_walks M Z (d-Z).toNat) ?_ (λi h w=>#[_,w,rfl]) (by decide) one (by rw[ay,cA]) λi x v e W=>?_
   ·change(g.s.heap.push _).get? _=_;rw[br _ af];show sB ((rangeSize_nat Z d)) ?_;simp
   ·obtain⟨T,rfl⟩:=W;rw[cj]at e;show mS e λj J K=>sB K ?_;have C:=(aR.mp J).1;rw[cA]at C;replace J:=(nN C)▸J;cases J;show .int _ _
 |_=>show bh h
end
noncomputable def opt(o:Option α)(f:α->Bool):Bool:=match o with
 |some a=>f a
 |none=>au
theorem ia{o:Option α}{f:α->Bool}(h:opt o f=J){T:Prop}(k:∀a,o=I a->f a=J->T):T:=by
 induction o with
 |none=>show(aD h).elim
 |some a=>show k a B h
theorem bI{o:Option α}{p:α->Prop}(h:bO o p){T:Prop}(k:∀a,o=I a->p a->T):T:=let ⟨a,e,h⟩:=qS h;k a e h
structure Vw(x:Expr) where
 name:Option { t:Str×Pos // x=.Name t.1 t.2 }:=az
 cst:Option { t:wD×Nat×Pos // x=.Constant t.1 t.2.1 t.2.2 }:=az
 bin:Option { t:Expr×Operator×Expr×Pos // x=.BinOp t.1 t.2.1 t.2.2.1 t.2.2.2 }:=az
 un:Option { t:UnaryOp×Expr×Pos // x=.UnaryOp t.1 t.2.1 t.2.2 }:=az
 bool:Option { t:BoolOp×List Expr×Pos // x=.BoolOp t.1 t.2.1 t.2.2 }:=az
 cmp:Option { t:Expr×List CmpOp×List Expr×Pos // x=.Compare t.1 t.2.1 t.2.2.1 t.2.2.2 }:=az
 ite:Option { t:Expr×Expr×Expr×Pos // x=.IfExp t.1 t.2.1 t.2.2.1 t.2.2.2 }:=az
 attr:Option { t:Expr×Str×Pos // x=.Attribute t.1 t.2.1 t.2.2 }:=az
 sub:Option { t:Expr×Expr×Pos // x=.Subscript t.1 t.2.1 t.2.2 }:=az
 slice:Option { t:Option Expr×Option Expr×Option Expr×Pos // x=.Slice t.1 t.2.1 t.2.2.1 t.2.2.2 }:=az
 call:Option { t:Expr×List Expr×List Keyword×Pos // x=.Call t.1 t.2.1 t.2.2.1 t.2.2.2 }:=az
 list:Option { t:List Expr×Pos // x=.List t.1 t.2 }:=az
 tup:Option { t:List Expr×Nat×Pos // x=.Tuple t.1 t.2.1 t.2.2 }:=az
 dict:Option { t:List (Option Expr)×List Expr×Pos // x=.Dict t.1 t.2.1 t.2.2 }:=az
 comp:Option { t:Expr×List Comprehension×Scope×Pos // x=.ListComp t.1 t.2.1 t.2.2.1 t.2.2.2 }:=az
noncomputable def vw(x:Expr):Vw x:=match x with
 |.Name a b=>{ name:=I #[(a,b),rfl] }
 |.Constant a b c=>{ cst:=I #[(a,b,c),rfl] }
 |.BinOp a b c d=>{ bin:=I #[(a,b,c,d),rfl] }
 |.UnaryOp a b c=>{ un:=I #[(a,b,c),rfl] }
 |.BoolOp a b c=>{ bool:=I #[(a,b,c),rfl] }
 |.Compare a b c d=>{ cmp:=I #[(a,b,c,d),rfl] }
 |.IfExp a b c d=>{ ite:=I #[(a,b,c,d),rfl] }
 |.Attribute a b c=>{ attr:=I #[(a,b,c),rfl] }
 |.Subscript a b c=>{ sub:=I #[(a,b,c),rfl] }
 |.Slice a b c d=>{ slice:=I #[(a,b,c,d),rfl] }
 |.Call a b c d=>{ call:=I #[(a,b,c,d),rfl] }
 |.List a b=>{ list:=I #[(a,b),rfl] }
 |.Tuple a b c=>{ tup:=I #[(a,b,c),rfl] }
 |.Dict a b c=>{ dict:=I #[(a,b,c),rfl] }
 |.ListComp a b c d=>{ comp:=I #[(a,b,c,d),rfl] }
 |_=>{}
noncomputable def aeW(g:Comprehension):Option { t:Expr×Expr×List Expr // g=#[t.1,t.2.1,t.2.2,0] }:=match g with
 |⟨a,b,c,0⟩=>I #[(a,b,c),rfl]
 |_=>az
noncomputable def oq(l:List α)(G:α->List α->Bool):Bool:=match l with
 |[]=>au
 |a::r=>G a r
@[elab_as_elim]theorem iK{T:List α->Prop}{l:List α}{G:α->List α->Bool}(h:oq l G=J)(k:∀a r,G a r=J->T (a::r)):T l:=by
 induction l with
 |nil=>show(aD h).elim
 |cons a r=>show k a r h
@[elab_as_elim]theorem je{T:List α->Prop}{o:List α}(h:o.isEmpty=J)(k:T []):T o:=by induction o with|nil=>show k|cons _ _=>show(aD h).elim
@[elab_as_elim]theorem xJ{T:Option α->Prop}{o:Option α}(h:o.isNone=J)(k:T az):T o:=by induction o with|none=>show k|some _=>show(aD h).elim
section
variable {T:Expr->Prop}{x:Expr}
def s8(x:Expr)(G:Str->Pos->Bool):Bool:=opt (vw x).name λt=>G t.1.1 t.1.2
@[elab_as_elim]theorem nG{G:Str->Pos->Bool}(h:s8 x G=J)(k:∀a b,G a b=J->T (.Name a b)):T x:=ia h λt w h=>t.2▸k _ _ h
def xe(x:Expr)(G:wD->Nat->Pos->Bool):Bool:=opt (vw x).cst λt=>G t.1.1 t.1.2.1 t.1.2.2
@[elab_as_elim]theorem vI{G:wD->Nat->Pos->Bool}(h:xe x G=J)(k:∀a b c,G a b c=J->T (.Constant a b c)):T x:=ia h λt w h=>t.2▸k _ _ _ h
def aeg(x:Expr)(G:Expr->Operator->Expr->Pos->Bool):Bool:=opt (vw x).bin λt=>G t.1.1 t.1.2.1 t.1.2.2.1 t.1.2.2.2
@[elab_as_elim]theorem abI{G:Expr->Operator->Expr->Pos->Bool}(h:aeg x G=J)(k:∀a b c d,G a b c d=J->T (.BinOp a b c d)):T x:=ia h λt w h=>t.2▸k _ _ _ _ h
def vUn(x:Expr)(G:UnaryOp->Expr->Pos->Bool):Bool:=opt (vw x).un λt=>G t.1.1 t.1.2.1 t.1.2.2
@[elab_as_elim]theorem KX{G:UnaryOp->Expr->Pos->Bool}(h:vUn x G=J)(k:∀a b c,G a b c=J->T (.UnaryOp a b c)):T x:=ia h λt w h=>t.2▸k _ _ _ h
def vBool(x:Expr)(G:BoolOp->List Expr->Pos->Bool):Bool:=opt (vw x).bool λt=>G t.1.1 t.1.2.1 t.1.2.2
@[elab_as_elim]theorem zp{G:BoolOp->List Expr->Pos->Bool}(h:vBool x G=J)(k:∀a b c,G a b c=J->T (.BoolOp a b c)):T x:=ia h λt w h=>t.2▸k _ _ _ h
def vIf(x:Expr)(G:Expr->Expr->Expr->Pos->Bool):Bool:=opt (vw x).ite λt=>G t.1.1 t.1.2.1 t.1.2.2.1 t.1.2.2.2
@[elab_as_elim]theorem aei{G:Expr->Expr->Expr->Pos->Bool}(h:vIf x G=J)(k:∀a b c d,G a b c d=J->T (.IfExp a b c d)):T x:=ia h λt w h=>t.2▸k _ _ _ _ h
def Gz(x:Expr)(G:Expr->Str->Pos->Bool):Bool:=opt (vw x).attr λt=>G t.1.1 t.1.2.1 t.1.2.2
@[elab_as_elim]theorem vV{G:Expr->Str->Pos->Bool}(h:Gz x G=J)(k:∀a b c,G a b c=J->T (.Attribute a b c)):T x:=ia h λt w h=>t.2▸k _ _ _ h
def Wl(x:Expr)(G:Expr->Expr->Pos->Bool):Bool:=opt (vw x).sub λt=>G t.1.1 t.1.2.1 t.1.2.2
@[elab_as_elim]theorem ID{G:Expr->Expr->Pos->Bool}(h:Wl x G=J)(k:∀a b c,G a b c=J->T (.Subscript a b c)):T x:=ia h λt w h=>t.2▸k _ _ _ h
def Rr(x:Expr)(G:Option Expr->Option Expr->Option Expr->Pos->Bool):Bool:=opt (vw x).slice λt=>G t.1.1 t.1.2.1 t.1.2.2.1 t.1.2.2.2
@[elab_as_elim]theorem Rp{G:Option Expr->Option Expr->Option Expr->Pos->Bool}(h:Rr x G=J)(k:∀a b c d,G a b c d=J->T (.Slice a b c d)):T x:=ia h λt w h=>t.2▸k _ _ _ _ h
def YY(x:Expr)(G:List Expr->Pos->Bool):Bool:=opt (vw x).list λt=>G t.1.1 t.1.2
@[elab_as_elim]theorem VW{G:List Expr->Pos->Bool}(h:YY x G=J)(k:∀a b,G a b=J->T (.List a b)):T x:=ia h λt w h=>t.2▸k _ _ h
def HZ(x:Expr)(G:List Expr->Nat->Pos->Bool):Bool:=opt (vw x).tup λt=>G t.1.1 t.1.2.1 t.1.2.2
@[elab_as_elim]theorem D5{G:List Expr->Nat->Pos->Bool}(h:HZ x G=J)(k:∀a b c,G a b c=J->T (.Tuple a b c)):T x:=ia h λt w h=>t.2▸k _ _ _ h
def aat(x:Expr)(G:Expr->CmpOp->Expr->Pos->Bool):Bool:=opt (vw x).cmp λt=>oq t.1.2.1 λo r=>r.isEmpty&&oq t.1.2.2.1 λy r=>r.isEmpty&&G t.1.1 o y t.1.2.2.2
@[elab_as_elim]theorem PO{G:Expr->CmpOp->Expr->Pos->Bool}(h:aat x G=J)(k:∀a b c d,G a b c d=J->T (.Compare a [b] [c] d)):T x:=ia h λt w h=>t.2▸
 iK (T:=λq=>T<|.Compare t.1.1 q t.1.2.2.1 t.1.2.2.2) h λo r h=>aZ h λg h=>je g<|iK (T:=λys=>T<|.Compare t.1.1 [o] ys t.1.2.2.2) h λy r h=>aZ h λg h=>je g<|k t.1.1 o y t.1.2.2.2 h
def Sh(x:Expr)(G:Expr->List Expr->Pos->Bool):Bool:=opt (vw x).call λt=>t.1.2.2.1.isEmpty&&G t.1.1 t.1.2.1 t.1.2.2.2
@[elab_as_elim]theorem Lq{G:Expr->List Expr->Pos->Bool}(h:Sh x G=J)(k:∀a b c,G a b c=J->T (.Call a b [] c)):T x:=ia h λt w h=>t.2▸aZ h λg h=>je g<|k t.1.1 t.1.2.1 t.1.2.2.2 h
def IL(x:Expr)(G:Expr->Option Expr->Option Expr->Option Expr->Bool):Bool:=Wl x λo i w=>Rr i λa b c w=>G o a b c
@[elab_as_elim]theorem FA{G:Expr->Option Expr->Option Expr->Option Expr->Bool}(h:IL x G=J)(k:∀o a b c d p,G o a b c=J->T (.Subscript o (.Slice a b c d) p)):T x:=
 ID h λo i p h=>Rp h λa b c d h=>k o a b c d p h
def wZ(x:Expr)(G:Str->List Expr->Bool):Bool:=Sh x λg L w=>s8 g λnm w=>G nm L
@[elab_as_elim]theorem vF{G:Str->List Expr->Bool}(h:wZ x G=J)(k:∀nm p L c,G nm L=J->T (.Call (.Name nm p) L [] c)):T x:=
 Lq h λg L c h=>nG h λnm p h=>k nm p L c h
def I9(x:Expr)(G:Expr->Str->Pos->List Expr->Pos->Bool):Bool:=Sh x λg L p=>Gz g λo nm ap=>G o nm ap L p
@[elab_as_elim]theorem GV{G:Expr->Str->Pos->List Expr->Pos->Bool}(h:I9 x G=J)(k:∀o nm ap L p,G o nm ap L p=J->T (.Call (.Attribute o nm ap) L [] p)):T x:=
 Lq h λg L p h=>vV h λo nm ap h=>k o nm ap L p h
def WV(g:Comprehension)(G:Expr->Expr->List Expr->Bool):Bool:=opt (aeW g) λt=>G t.1.1 t.1.2.1 t.1.2.2
@[elab_as_elim]theorem JU{T:Comprehension->Prop}{g:Comprehension}{G:Expr->Expr->List Expr->Bool}(h:WV g G=J)(k:∀a b c,G a b c=J->T #[a,b,c,0]):T g:=ia h λt w h=>t.2▸k _ _ _ h
def vLC(x:Expr)(G:Expr->Comprehension->List Comprehension->Scope->Bool):Bool:=opt (vw x).comp λu=>oq u.1.2.1 λg r=>G u.1.1 g r u.1.2.2.1
@[elab_as_elim]theorem YL{G:Expr->Comprehension->List Comprehension->Scope->Bool}(h:vLC x G=J)(k:∀a g r s p,G a g r s=J->T (.ListComp a (g::r) s p)):T x:=ia h λt w h=>t.2▸iK h λg r h=>k _ _ _ _ _ h
def Kz(x:Expr)(G:Expr->Expr->Expr->List Expr->Scope->Bool):Bool:=vLC x λc g r q=>r.isEmpty&&WV g λtt it ifs=>G c tt it ifs q
@[elab_as_elim]theorem LQ{G:Expr->Expr->Expr->List Expr->Scope->Bool}(h:Kz x G=J)(k:∀c tt it ifs q p,G c tt it ifs q=J->T (.ListComp c [#[tt,it,ifs,0]] q p)):T x:=
 YL h λc g r q p h=>aZ h λw h=>je w<|JU (T:=λg=>T<|.ListComp c [g] q p) h λtt it ifs h=>k c tt it ifs q p h
def Qt(x:Expr)(G:Expr->Expr->Expr->Expr->Expr->Scope->Bool):Bool:=vLC x λc g r q=>WV g λw M F=>F.isEmpty&&oq r λg2 H=>H.isEmpty&&WV g2 λa R L=>L.isEmpty&&G c w M a R q
@[elab_as_elim]theorem SA{G:Expr->Expr->Expr->Expr->Expr->Scope->Bool}(h:Qt x G=J)(k:∀c w b F H q p,G c w b F H q=J->T (.ListComp c [#[w,b,[],0],#[F,H,[],0]] q p)):T x:=
 YL h λc g r q p h=>JU (T:=λg=>T<|.ListComp c (g::r) q p) h λw b M h=>aZ h λd h=>je d (iK h
  λR U h=>aZ h λa h=>je a (JU h λF H W h=>aZ h λL h=>
   je L (k c w b F H q p h)))
end
def xV(x:Expr):Bool:=((vw x).call.all λt=>!((vw t.1.1).name.isSome&&(t.1.2.1.isEmpty&&t.1.2.2.1.isEmpty)))
theorem DE{o:Expr}(h:xV o=J)(attr:Str)(env:Env)(whole:Sem aq):attributeBase o attr env whole=whole:=by
 induction o using fW with
 |Call f args c p=>
  induction f using fW with
  |Name a b=>induction args using nY<;>induction c<;>first|rfl|show(aD h).elim
  |_=>rfl
 |_=>rfl
noncomputable def gU(l:List Expr):Bool:=l.all λx=>!Nat.beq x.ctorIdx 22
theorem pX{e:Expr}{r:List Expr}(h:gU (e::r)=J):starEach (e::r) env=(au,eval e env)::starEach r env/\gU r=J:=by induction e using fW<;>first|show#[rfl,h] | show gE h
theorem Ho{pos:Pos}{env:Env}:∀{l:List Expr},gU l=J->(backTo pos<|starEach l env).all (λx=>!x.1)=J:=by
 intro l;induction l with
 |nil=>intro _;show B
 |cons e r c=>intro h;obtain⟨g,q⟩:=pX h;rw[g];change(!false&&(backTo pos<|starEach r env).all λx=>!x.1)=J;rw[c q];rfl
theorem QU{pos:Pos}{l:List Expr}(h:gU l=J):(backTo pos<|starEach l env).any (·.1)=au:=by have:=Ho (pos:=pos) (env:=env) h;rw[lK];intro x c;have:=cQ.mp this x c;simpa using this
def qP(c:Sc)(x:Str):Bool:=!zO x&&c.kinds.lookup x==I .globalImplicit
noncomputable def Yg(p:P)(c:wD):Bool:=match c,p with
 |.none,.none=>J
 |.bool b,.bool g=>b==g
 |.int i,.int j=>i==j
 |.str s,.str l=>s.cps.toList==l&&decide (l.length<=gr)
 |.bytes b,.bytes l=>b==l&&decide (l.length<=gr)
 |_,_=>au
noncomputable def So:Operator->aq
 |.Add=>.builtin "len" |.MatMult=>.builtin "len" |.FloorDiv=>.builtin "len" |.Sub=>.type "bytes" |.Div=>.type "bytearray" |.LShift=>.builtin "ord" |.BitAnd=>.builtin "chr" |.Mult=>.type "str" |.BitOr=>.type "range"
 |.RShift=>.builtin "sorted" |.BitXor=>.builtin "max" |.Mod=>.type "list" |.Pow=>.type "dict"
noncomputable def RY:Operator->Str
 |.Sub=>"join" |.MatMult=>"join" |.Add=>"append" |.BitOr=>"append" |.Pow=>"pop" |.LShift=>"pop" |.RShift=>"pop" |.FloorDiv=>"extend" |.Div=>"get" |.Mod=>"get" |.Mult=>"setdefault" |.BitXor=>"split" |.BitAnd=>"split"
def ags(K:Frag)(c:Sc)(f:Addr)(x:Str):Bool:=qP c x&&(mq K x==I (.ref f)&&keepIn K (.ref f))
def afV(K:Frag)(c:Sc)(b:Operator)(x:Str):Bool:=qP c x&&mq K x==I (So b)
noncomputable def abU(K:Frag)(c f:Addr)(nm:Str):Bool:=GF K c&&(match findIn K (.ref c) nm with
 |some (I (.ref p))=>(specialIn K (.ref p) "__get__" == I (I<|.builtin "property.__get__")&&takesIn K (.ref p)==I J)&&(match recIn K p "property" with|some (.ref g::_)=>g==f|_=>au)
 |_=>au)
def aaS(K:Frag)(c f:Addr)(nm:Str):Bool:=GF K c&&(findIn K (.ref c) nm==I (I<|.ref f)&&(isFn K (.ref f)&&(fnIn K f&&!((nu c).map cG).contains nm)))
def Au(apos pos:Pos)(L:List Expr):Bool:=decide (L.length<30)&&(apos.endLine==pos.line&&gU L)
noncomputable def fb(s:Scope):List Str:=(s.names.filter λx=>x.2==.local&&x.1 != (".0":Str)).map (·.1)
noncomputable def Ik(n:Nat)(l:List Str):List<|Str×Nat:=l.foldr (β:=Nat->List (Str×Nat)) (λx k n=>(x,n)::k (n+1)) (λw=>[]) n
theorem aa9{x:Str}{r:List Str}:Ik n (x::r)=(x,n)::Ik (n+1) r:=rfl
def Sc.deep(c:Sc)(s:Scope):Sc where
 kinds:=s.names.map λ(n,k)=>if (k==.free&&c.kinds.lookup n==I .cell) then (n,.cell) else (n,k)
 slot:=Ik c.next (fb s)++(s.names.filter λx=>x.2==.free).filterMap λx=>(c.slot.lookup x.1).map λi=>(x.1,i)
 BG:=c.BG+1
 next:=c.next+(fb s).length
def uE(c:Sc)(s:Scope)(m:Nat):Bool:=s.kind==.function&&(fb s).length==m&&decide (fb s).Nodup&&s.names.all (λx=>match x.2 with
  |.local=>s.names.lookup x.1==I .local
  |.free=>s.names.lookup x.1==I .free&&c.kinds.lookup x.1==I .cell&&(c.slot.lookup x.1).isSome&&!(fb s).contains x.1
  |.globalImplicit=>J
  |_=>au)
def YO(x:Expr):Bool:=opt (vw x).dict λt=>t.1.1.isEmpty&&t.1.2.1.isEmpty
@[elab_as_elim]theorem Xk{T:Expr->Prop}{x:Expr}(h:YO x=J)(k:∀p,T<|.Dict [] [] p):T x:=ia h λt w h=>t.2▸aZ h λc g=>je c<|je g<|k t.1.2.2
noncomputable def Yl(c:wD):Bool:=match c with
 |.int i=>i==1
 |_=>au
theorem Sy{c:wD}(h:Yl c=J):c=.int 1:=by
 induction c with
 |int i=>show(eq_of_beq h)▸rfl
 |_=>show(aD h).elim
noncomputable def okO(n:Bool)(a:Option Expr)(f:Expr->Bool):Bool:=match n with
 |true=>a.isNone
 |false=>opt a f
noncomputable def sS(x:Expr):Bool:=!Nat.beq x.ctorIdx 7
theorem Ab{x:Expr}(h:sS x=J)(env:Env)(v:aq):foldedSetIterable x env v=pure v:=by
 induction x using fW with
 |Set a b c=>show(aD h).elim
 |_=>rfl
section
variable (K:Frag)
mutual
noncomputable def lj(q:Sc):E->Expr->Bool
 |.loc i,x=>s8 x λnm k=>k7 q nm i
 |.c p,x=>xe x λc k k=>Yg p c
 |.g j,x=>s8 x λnm k=>qP q nm&&(zW[j]?).map cG==I nm
 |.bin op a b,x=>aeg x λl o r k=>decide (o=Ox op)&&(lj q a l&&lj q b r)
 |.neg a,x=>vUn x λo y k=>decide (o=.USub)&&lj q a y
 |.not a,x=>vUn x λo y k=>decide (o=.Not)&&lj q a y
 |.nK n,x=>vBool x λo ys k=>decide (o=.And)&&qp q n ys
 |.zH n,x=>vBool x λo ys k=>decide (o=.Or)&&qp q n ys
 |.cmp op a b,x=>aat x λl o r k=>decide (o=op)&&(!behindInMarks o r&&(lj q a l&&lj q b r))
 |.ite t a b,x=>vIf x λM R U k=>Ou q t M&&(lj q a R&&lj q b U)
 |.attr o c j,x=>Gz x λy nm k=>qK K c j nm&&(xV y&&lj q o y)
 |.prop o c f,x=>Gz x λy nm k=>abU K c f nm&&(xV y&&lj q o y)
 |.sub o i,x=>Wl x λy z k=>lj q o y&&lj q i z
 |.slice o v s,x=>IL x λy a b c=>lj q o y&&(c.isNone&&(okO v.isNil a (lj q v)&&okO s.isNil b (lj q s)))
 |.rev o,x=>IL x λy a b c=>lj q o y&&(a.isNone&&(b.isNone&&opt c λz=>vUn z λo y k=>decide (o=.USub)&&xe y λc k k=>Yl c))
 |.call f args,x=>wZ x λnm L=>ags K q f nm&&(gU L&&qp q args L)
 |.eN o c f args,x=>I9 x λy nm ap L p=>aaS K c f nm&&(xV y&&(Au ap p L&&(lj q o y&&qp q args L)))
 |.bi b args,x=>wZ x λnm L=>afV K q b nm&&(gU L&&qp q args L)
 |.bm m o args,x=>I9 x λy nm ap L p=>(RY m==nm)&&(xV y&&(Au ap p L&&(lj q o y&&qp q args L)))
 |.lst n,x=>YY x λL k=>gU L&&qp q n L
 |.tup n,x=>HZ x λL k k=>gU L&&qp q n L
 |.dict _,x=>YO x
 |.comp m t it W elt,x=>Kz x λF tt C ifs w=>uE q w m&&(sS C&&(lj q it C&&(xw (q.deep w) t tt&&(uB (q.deep w) W ifs&&lj (q.deep w) elt F))))
 |.FU m Y H Z h elt,x=>Qt x λF a b c d w=>uE q w m&&((sS b&&sS d)&&(lj q H b&&(xw (q.deep w) Y a&&(lj (q.deep w) h d&&(xw (q.deep w) Z c&&lj (q.deep w) elt F)))))
 |.fz e,x=>lj q e x
 |.dead,_=>J
 |_,_=>au
noncomputable def qp(c:Sc):E->List Expr->Bool
 |.nil,x=>x.isEmpty
 |.cons e r,x=>oq x λy z=>lj c e y&&qp c r z
 |_,_=>au
noncomputable def Ou(c:Sc):E->Expr->Bool
 |.v e,x=>(vw x).un.isNone&&((vw x).bool.isNone&&((vw x).cmp.isNone&&((vw x).ite.isNone&&lj c e x)))
 |.not b,x=>vUn x λo y w=>decide (o=.Not)&&Ou c b y
 |.nK g,x=>vBool x λo ys w=>decide (o=.And)&&uB c g ys
 |.zH g,x=>vBool x λo ys w=>decide (o=.Or)&&uB c g ys
 |.cmp op a b,x=>aat x λl o r w=>decide (o=op)&&(!behindInMarks o r&&(lj c a l&&lj c b r))
 |_,_=>au
noncomputable def uB(c:Sc):E->List Expr->Bool
 |.nil,x=>x.isEmpty
 |.cons e r,x=>oq x λy z=>Ou c e y&&uB c r z
 |_,_=>au
noncomputable def xw(g:Sc):E->Expr->Bool
 |.loc i,x=>s8 x λnm w=>k7 g nm i
 |.tup q,x=>HZ x λL w w=>gU L&&zd g q L
 |.attr o c j,x=>Gz x λy nm w=>qK K c j nm&&lj g o y
 |.sub o i,x=>Wl x λy z w=>lj g o y&&lj g i z
 |_,_=>au
noncomputable def zd(c:Sc):E->List Expr->Bool
 |.nil,x=>x.isEmpty
 |.cons e r,x=>oq x λy z=>xw c e y&&zd c r z
 |_,_=>au
end
end
def Ev(e:E):Prop:=∀⦃F:Fr⦄ ⦃x:Expr⦄ ⦃g:G⦄ ⦃X:XX⦄ ⦃K0:V->St->Prop⦄ ⦃Q:aq->aA->Prop⦄ ⦃E:aq->aA->Prop⦄,
 rU F->lj F.b.W.K F.sc e x=J->Inv F.b g->ev F.Γ X e g.σ K0->An F X E->kj F g K0 Q->dZ F.M F.A (eval x F.env) Q E g.s
def ado(F:Fr)(g:G)(K0:List V->St->Prop)(Q:List aq->aA->Prop):Prop:=∀vs us c,Le g c->Inv F.b c->cC (VR F.b.W c) vs us->K0 vs c.σ->Q us c.s
def NP(c:E):Prop:=∀⦃F:Fr⦄ ⦃pos:Pos⦄ ⦃L:List Expr⦄ ⦃g:G⦄ ⦃X:XX⦄ ⦃K0:List V->St->Prop⦄ ⦃Q:List aq->aA->Prop⦄ ⦃E:aq->aA->Prop⦄,
 rU F->qp F.b.W.K F.sc c L=J->gU L=J->Inv F.b g->yt F.Γ X c g.σ K0->An F X E->ado F g K0 Q->dZ F.M F.A (spliced<|backTo pos<|starEach L F.env) Q E g.s
def Bg(F:Fr)(g:G)(K0:Bool->St->Prop)(Q:Bool->aA->Prop):Prop:=∀r c,Le g c->Inv F.b c->K0 r c.σ->Q r c.s
def HR(e:E):Prop:=∀⦃F:Fr⦄ ⦃x:Expr⦄ ⦃g:G⦄ ⦃X:XX⦄ ⦃K0:Bool->St->Prop⦄ ⦃Q:Bool->aA->Prop⦄ ⦃E:aq->aA->Prop⦄,
 rU F->Ou F.b.W.K F.sc e x=J->Inv F.b g->BH F.Γ X e g.σ K0->An F X E->Bg F g K0 Q->dZ F.M F.A (isTrue x F.env<|eval x F.env) Q E g.s
def Fz(F:Fr)(g:G)(K0:St->Prop)(Q:Unit->aA->Prop):Prop:=∀c,Le g c->Inv F.b c->K0 c.σ->Q () c.s
def CG(t:E):Prop:=∀⦃F:Fr⦄ ⦃x:Expr⦄ ⦃v:V⦄ ⦃u:aq⦄ ⦃g:G⦄ ⦃X:XX⦄ ⦃K0:St->Prop⦄ ⦃Q:Unit->aA->Prop⦄ ⦃E:aq->aA->Prop⦄,
 rU F->xw F.b.W.K F.sc t x=J->Inv F.b g->VR F.b.W g v u->asg F.Γ X t v g.σ K0->An F X E->Fz F g K0 Q->dZ F.M F.A (assign x F.env u) Q E g.s
theorem Bg.from{g c:G}{K0:Bool->St->Prop}{Q:Bool->aA->Prop}(h:Bg F g K0 Q)(L:Le g c):Bg F c K0 Q:=λu k q=>h u k<|L.trans q
theorem Fz.from{g c:G}{K0:St->Prop}{Q:Unit->aA->Prop}(h:Fz F g K0 Q)(L:Le g c):Fz F c K0 Q:=λk q=>h k<|L.trans q
theorem vM{M:ir}(id:String)(h:Heap):∃k,(k=rS.frame∨k=rW∨k=pC)/\gb M h (keeperOf<|.builtin id) k:=#[.machine,.inr<|.inl B,p6 B]
theorem CU{M:ir}(id:String)(h:Heap):∃k,(k=rS.frame∨k=rW∨k=pC)/\gb M h (keeperOf<|.type id) k:=#[.machine,.inr<|.inl B,p6 B]
theorem xx{A:bC}{E:aq->aA->Prop}{s:aA}{Q:aq->aA->Prop}{env:Env}{f:aq}{first:List aq}{pos:Pos}{l:List Expr}{P:Heap->Prop}(h:gU l=J)(v:∀h,P h->∃k,(k=rS.frame∨k=rW∨k=pC)/\gb W.M h (keeperOf f) k)
  (q:dZ W.M A (spliced<|backTo pos<|starEach l env) (λvs c=>P c.heap/\dZ W.M A (call f<|first++vs) Q E c) E s) :
  dZ W.M A (callWith pos f first (backTo pos<|starEach l env) []) Q E s:=by
 have ev:dZ W.M A (evalArgs f J (backTo pos<|starEach l env) []) (λa c=>a.kw=[]/\(P c.heap/\dZ W.M A (call f<|first++a.pos) Q E c)) E s:=by
  induction l using nY with
  |nil=>show aL<|dK (q) (λvs s' h'=>?_) λj j x=>x;show aL<|bB<|bR ?_;show aL<|bB<|aL<|bB<|bB #[rfl,h']
  |cons e r=>rw[(pX h).1]at q ⊢;show aL<|dK q (λvs s' h'=>?_) λj j x=>x;show bR<|aL<|bB<|aL<|bB<|bB #[rfl,h']
 show aL<|bR<|dK ev (λa c F=>ic ?_) λj j e=>e;show hd λd H=>?_;obtain⟨y,o,w⟩:=F;obtain⟨k,R,L⟩:=v _ o;show H<|bS (QU h)<|bS (y) ?_;rw[List.any_nil,Bool.or_false];show aL<|cW<|L.here ?_;have fin:∀{t:Sem aq},dZ W.M A t Q E c->dZ W.M A (t>>=λr=>holding [r] point>>=λj=>pure r) Q E c:=λU=>aL<|dK U (λr i n=>aL<|cW<|eX<|Ua<|bB n) λj j x=>x;have Y:∀m:aq,dZ W.M A (callMarked m f (first++a.pos) []) Q E c:=λm Z p b g=>by unfold callMarked;rw[Sem.wp_keep];show w Z p b g
 rcases R with rfl|rfl|rfl<;>dsimp only<;>first|show fin w | (split<;>first|show fin w|show fin<|Y _)
theorem LH{W:Pw}{A:bC}{E:aq->aA->Prop}{s:aA}{Q:aq->aA->Prop}{env:Env}{o:Expr}{name:Str}{apos pos:Pos}{args:List Expr}(f:xV o=J)(g:Au apos pos args=J)
  (h:dZ W.M A (eval o env) (λF c=>∀L,wpAny W.M A (getMethod F name L) (λq H=>dZ W.M A (callWith pos q.1 q.2 (backTo pos<|starEach args env) []) Q E H) E c) E s) :
  dZ W.M A (eval (.Call (.Attribute o name apos) args [] pos) env) Q E s:=by
 show hd λa R=>(aZ g λi g=>(aZ g λU d=>(R ?_)));have i:=of_decide_eq_true i;rw[arm_eval_Call,DE f];show aL<|dK h (λF c Y=>?_) λb b e=>e;show ic ?_;have w:methodCallForm (args.length+([]:List Keyword).length) (backTo pos<|starEach args env) (backToKw pos<|keywordEach [] env)=J:=by unfold methodCallForm;rw[Ho d];simp only[Xx,fg,decide_eq_true_eq];show#[rfl,by change args.length+0+0<30;omega]
 have j:methodCallPos J o env apos pos=pure pos:=by unfold methodCallPos;simp[U]
 unfold methodCall;show bS (w)<|aL<|bR<|dK (cW<|Y _) (λq H Z=>aL<|Dl j<|bB Z) λb b e=>e
section
variable {g:G}
theorem DG.call(h:DG F)(p:Inv F.b g){w:bC}(H:w.frames=F.A.frames):SJ w (F.b.call g).c:=by
 show hd λi t=>?_;obtain⟨l,M,L,U,j,W,s,Y,Z⟩:=h;show t ?_;show#[M::l,H.trans U,λe he=>?_];rcases aC.mp he with rfl|he
 ·have:L∈F.b.fm.ds:=HA s;obtain⟨m,o,k,n,a,d,_⟩:=p.lr.ns L this;show#[Y,L,o,W,?_,λvs z=>by replace z:=(d)▸z;cases z];change inn (g.R L) (g.get L) (F.b.fm.fr==I L)=.OD o;rw[p.own L<|Fm.sI this,show g.get L=I o from a,s,beq_self_eq_true];rfl
 ·obtain⟨k1,q,o,k2,r,f⟩:=Z e he;show#[k1,q,o,k2,?_,f];have:=p.base q (by rw[r];rfl);change inn (g.R q) _ _=.OD o;rw[this,r];rfl
theorem Al{A':bC}{E:aq->aA->Prop}(S:rU F)(p:Inv F.b g)(H:A'.frames=F.A.frames)(w:Fj F.n A'){f:Nat}{vs:List V}{R:fP->aA->Prop}(U:cC (VR F.b.W g) vs us)(h:Kw F.Γ X f vs g.σ K0)(W:An F X E)
  (Y:kj F g K0 λu s'=>R (.ok<|.ret u) s') (Z:∀e s',E (.ref e) s'->R (.error<|.ref e) s'):eZ F.M A' (.call (.ref f) #[us,[]]) R g.s:=by
 show S.run f (g:=g.call F.b) w (S.fr.call p H) p.call.1 (U.mono λk k h=>h.mono p.call.2) h (λv o u d c i q=>?_) λcc o s' e l j c fl q=>?_
 ·obtain⟨m,r,L⟩:=p.back c d;show Y v u (g.back o) r m (i.mono L) q
 ·obtain⟨m,r,L⟩:=p.back c c.le0;show Z e s'<|W cc (g.back o) s' e l (sB H j) m (fl.less B λa=>P7 p c) q
end
section
variable {g:G}{E:aq->aA->Prop}
theorem kj.give(h:kj F g K0 Q):Cd F.b g (λz=>K0 (.p z) g.σ) Q:=λz v R' s' S w c q=>h (.p z) v #[R',g.ρ,g.σ,s'] #[S,bH _] w c q
theorem kj.tok(h:kj F g K0 Q)(w:Inv F.b g)(t:Nat)(c:VR F.b.W g z v)(q:K0 z g.σ):Q v<|sh g.s g.s.heap t:=h z v (g.to g.R g.s.heap t) Le.to (w.toks t) c q
theorem kj.push(h:kj F g K0 Q)(f:Inv F.b g){o:O}{ob:Obj}(t:_)(q:ob.isFreed=au)(x:∀c:G,Le g c->iJ c g.U.length g.s.heap.objs.size ob->OR F.b.W c g.U.length o)(w:K0 (.ref g.U.length)<|g.σ.push o):Q (.ref g.s.heap.objs.size)<|sh g.s (g.s.heap.push ob) t:=by show hd λR d=>?_;obtain⟨c,a,H,e,L,M⟩:=f.aep t q x;show d ?_;have:=h _ _ c L e M<|H▸w;rw[a]at this;show this
end
theorem aaV(i:Nat):Ev<|.loc i:=λ{F x g X K0 Q E} S c R h H q=>nG c λy p c=>bI h λv w a=>cW<|Ws R S.eo c w λu M=>q v u g (Le.refl g) R M a
theorem GH{E:aq->aA->Prop}{p:P}{c:wD}{k:Nat}{q:Pos}{R:RM}(g:Yg p c=J)(h:∀u t,PR W R p u->Q u (sh s s.heap t)):wpAny W.M A (eval (.Constant c k q) env) Q E s:=by
 induction c with
 |none=>induction p using P.casesOn<;>first|show(aD g).elim|show wpAny_Constant_none<|h _ s.toks .none
 |bool b=>induction p using P.casesOn<;>first|show(aD g).elim|show wpAny_Constant_bool<|h _ s.toks<|cI g▸.bool _
 |int b=>induction p using P.casesOn<;>first|show(aD g).elim|show XH<|h _ _<|cI g▸.int _ _
 |str b=>
  induction p using P.casesOn<;>first|show(aD g).elim|skip
  show aZ g λe l=>?_;obtain rfl:=eq_of_beq e;show wpAny_Constant_str<|h _ _<|.str _ _<|of_decide_eq_true l
 |bytes b=>
  induction p using P.casesOn<;>first|show(aD g).elim|skip
  show aZ g λe l=>?_;obtain rfl:=eq_of_beq e;show Constant_bytes<|h _ _<|.bytes _ _<|of_decide_eq_true l
 |_=>show(aD g).elim
theorem adg(p:P):Ev<|.c p:=λ{F x g X K0 Q E} S q a h M w=>vI q λc k H q=>cW<|GH q λu t R=>w.tok a (z:=.p p) t R h
theorem W5{o:Option α}{f:α->β}{b:β}(h:o.map f=I b){T:Prop}(k:∀a,o=I a->f a=b->T):T:=by obtain⟨a,e,h⟩:=cB.mp h;show k a e h
theorem agL(j:Nat):Ev<|.g j:=λ{F x g X K0 Q E} S c i h M w=>nG c λy p c=>aZ c λo1 o2=>aZ o1 λo0 o1=>W5 (cI o2) λnm k d=>bI h λq H h=>
 let ⟨v,f,L⟩:=S.gt j nm q k H
 cW (tE i.za S.eo (gH o0) (cI o1) (sB d f) (w (.p q) v g (Le.refl g) i (PR.mono (λa o e=>by
  induction l:F.b.W.K.lookup a with
  |none=>replace e:=(l)▸e;cases e
  |some R=>rw[l]at e;injection e with e;subst e;show i.kF _ _ l) L) h))
theorem aa7(op:Operator){a b:E}(s:Ev a)(H:Ev b):Ev<|.bin op a b:=λ{F x g X K0 Q E} S c y h w v=>abI c λl o r p c=>aZ c λo1 c=>aZ c λo2 o3=>
 of_decide_eq_true o1▸aL (s S o2 y h w λe f g1 L M R U=>aL (bR (H S o3 M U w λi j k t W Y q=>ic (PC (cW (bI q λm Z q=>bI q λn d q=>
  aa6 W (V.ju Z▸R.mono t :) (V.ju d▸Y :) q (v.from<|L.trans t).give))))))
theorem ZK{a:E}(d:Ev a):Ev<|.neg a:=λ{F x g X K0 Q E} S c j h b H=>KX c λo y p c=>aZ c λo1 c=>
 of_decide_eq_true o1▸aL (d S c j h b λW Y g1 f L M w=>ic (bR (cW (bI w λi e w=>by
  show fB e λq R U=>?_
  obtain rfl:=V.ju R;obtain rfl:=P.ig U
  obtain⟨t,rfl⟩:=PR.fU M
  show zU<|(H.from f).tok L (z:=.p<|.int<|-i) _ (.int _ _) w))))
theorem aax{a:E}(b:Ev a):Ev<|.not a:=λ{F x g X K0 Q E} S q f h H L=>KX q λo y p q=>aZ q λo1 q=>
 of_decide_eq_true o1▸aL (b S q f h H λU W g1 M d R w=>ic<|bR<|cW<|bI w λc e w=>acQ<|Jm d R e λt i=>(L.from M).tok d (z:=.p<|.bool<|!c) t (.bool _) w)
theorem aeV{M:ir}{E:aq->aA->Prop}{l r:Expr}{op:CmpOp}{pos:Pos}(q:behindInMarks op r=au)(h:dZ M A (eval l env) (λa c=>dZ M A (eval r env) (λb g=>dZ M A (compareOp op a b) Q E g) E c) E s) :
  dZ M A (eval (.Compare l [op] [r] pos) env) Q E s:=by rw[eval_Compare1,Mr q];show aL<|dK h (λa c w=>aL<|bR<|dK w (λb g H=>ic<|PC H) λZ Z e=>e) λZ Z e=>e
theorem abY(op:CmpOp){a b:E}(H:Ev a)(n:Ev b):Ev<|.cmp op a b:=λ{F x g X K0 Q E} S c s h w L=>PO c λl o r p c=>aZ c λo1 c=>aZ c λo0 c=>aZ c λo2 o3=>
 aeV (gH o0) (H S o2 s h w λZ d g1 M R U W=>n S o3 R W w λf i j m k Y q=>cW<|of_decide_eq_true o1▸bI q λr e q=>Q5 k S.ok.room (U.mono m) Y e λt=>(L.from<|M.trans m).tok k (z:=.p<|.bool r) t (.bool _) q)
theorem abX{t a b:E}(f:HR t)(L:Ev a)(M:Ev b):Ev<|.ite t a b:=λ{F x g X K0 Q E} S c i h q w=>aei c λR U W p c=>aZ c λo1 c=>aZ c λo2 o3=>by
 rw[arm_eval_IfExp]
 show aL<|f S o1 i h q λr g1 e d H=>?_
 induction r with
 |true=>show L S o2 d H q<|w.from e
 |false=>show M S o3 d H q<|w.from e
theorem Vj(k j:Nat){a:E}(d:Ev a):Ev<|.attr a k j:=λ{F x g X K0 Q E} S c i h b H=>vV c λy nm p c=>aZ c λo1 c=>aZ c λo2 o3=>by
 rw[XI,DE o2]
 show aL<|d S o3 i h b λR U g1 f w L q=>ic<|cW<|bI q λy e q=>ao<|eX<|Lw w o1 L e λu t M=>ao<|wz<|aF<|(H.from f).tok w t M q
theorem P8{M:ir}{E:aq->aA->Prop}{value slice:Expr}{pos:Pos}(h:dZ M A (eval value env) (λo c=>dZ M A (eval slice env) (λi g=>wpAny M A (subscriptTail value slice o i) Q E g) E c) E s) :
  dZ M A (eval (.Subscript value slice pos) env) Q E s:=by rw[arm_eval_Subscript];show aL<|dK h (λo c q=>aL<|bR<|dK q (λi g w=>ic<|cW w) λZ Z e=>e) λZ Z e=>e
theorem aap{a b:E}(o:Ev a)(L:Ev b):Ev<|.sub a b:=λ{F x g X K0 Q E} S c r h n M=>ID c λy z p c=>aZ c λo1 o2=>
 P8 (o S o1 r h n λf i g1 R U W Y=>L S o2 U Y n λj k l m H Z q=>bI q λz e q=>aaJ H (W.mono m) Z e λw t d=>(M.from<|R.trans m).tok H t d q)
set_option tactic.hygienic true in
theorem Lk{e:E}(H:Ev e){x:Option Expr}{g:G}{k:Option Int->St->Prop}{Q:aq->aA->Prop}{E:aq->aA->Prop}(S:rU F)(c:okO e.isNil x (lj F.b.W.K F.sc e)=J)(d:Inv F.b g)(h:evO e.isNil (ev F.Γ X e g.σ) g.σ k)(f:An F X E)
  (a:∀i u l,Le g l->Inv F.b l->IsPart u i->k i l.σ->Q u l.s):dZ F.M F.A (valueOrNone<|evalOpt x F.env) Q E g.s:=by
 induction q:e.isNil with
 |true=>rw[q]at c h;show xJ c<|bB<|a az .none g (Le.refl g) d .none h
 |false=>
  rw[q]at c h;show ia c λy e c=>?_;subst e;show H S c d h f λv u g1 L R U W=>bI W λi e Y=>?_;rw[Pf]at e;induction v with
  |ref j=>show bh e
  |p z=>
   induction z using P.casesOn<;>first|show bh e|cases e|skip
   rename_i j;obtain⟨t,rfl⟩:=PR.fU U;have e:(if -yj<j/\j<yj then I j else az)=I i:=e;by_cases w:-yj<j/\j<yj
   ·rw[if_pos w]at e;obtain rfl:=aV e;show a _ _ g1 L R (.int _ _) Y
   ·have e:=(if_neg w)▸e;show bh e
theorem RP{a B F':E}(M:Ev a)(R:Ev B)(U:Ev F'):Ev<|.slice a B F':=λ{F x g X K0 Q E} S c I h q W=>FA c λy v A C H p c=>aZ c λo1 c=>aZ c λo2 c=>aZ c λo3 o4=>xJ o2 (by
 show P8<|M S o1 I h q λD K g1 Y Z d f=>?_
 rw[afu]
 show aL<|Lk R S o3 Z f q λi k T J l H m=>?_
 show aL<|bR<|Lk U S o4 l m q λj n g3 L r t w=>cW<|bI w λz e w=>?_
 show ao<|eX<|aF ?_
 show jT ?_<|by size_fits
 show ZW (r.heap (h':=g3.s.heap.push<|GK k n .none) g3.s.toks λb o e=>aQ _ e) ((d.mono<|J.trans L).mono Le.to) (Heap.IsSliceOf.new _ _ _ _) H t e w ((W.from<|Y.trans<|J.trans L).from Le.to).give)
theorem abk{a:E}(W:Ev a):Ev<|.rev a:=λ{F x g X K0 Q E} S q D h Y Z=>FA q λy m n r R p q=>aZ q λo1 q=>aZ q λo2 q=>aZ q λo3 o4=>xJ o2 (xJ o3 (ia o4 λU e K=>by
 subst e
 show KX (T:=λU=>dZ F.M F.A (eval (.Subscript y (.Slice az az (I U) R) p) F.env) Q E g.s) K λo w d C=>aZ C λf H=>?_
 obtain rfl:=of_decide_eq_true f
 show vI (T:=λw=>dZ F.M F.A (eval (.Subscript y (.Slice az az (I<|.UnaryOp .USub w d) R) p) F.env) Q E g.s) H λc k cp J=>((Sy J)▸?_)
 show P8<|W S o1 D h Y λt v g1 i j l L=>cW ?_
 rw[afu]
 show ao<|aF<|ao<|eX<|aF<|ao<|eX ?_
 show wpAny_UnaryOp<|XH<|zU ?_
 show jT (bI L λz e L=>?_)<|by size_fits
 show aaR (j.heap (h':=g1.s.heap.push<|GK .none .none<|.int (-1)<|g1.s.toks+1) (g1.s.toks+1+1) λb o e=>aQ _ e) (l.mono Le.to) (Heap.IsSliceOf.new _ _ _ _) (.int _ _) e L ((Z.from i).from Le.to).give))
theorem UI(f:Nat){args:E}(b:NP args):Ev<|.call f args:=λ{F x g X K0 Q E} S c i h q a=>vF c λy p L pos c=>aZ c λo1 c=>aZ c λo2 o3=>aZ o1 λg1 o1=>aZ o1 λg3 H=>aZ g1 λg1 j=>by
 rw[yb]
 show aL<|cW<|tE i.za S.eo (gH g1) (cI j) (cI g3) ?_
 show xx o2 (keeps_K H)<|b S o3 o2 i h q λvs us g1 d w M R=>#[w.za,?_]
 show oB<|Al S w B S.ok.low M R q (a.from d) λe s' U=>U
theorem OW{g:G}{vs:List V}{k:List P->Prop}(q:cC (VR F.b.W g) vs us)(h:JB vs k){T:Prop}(c:∀L,L.length<=gr->cC (PR F.b.W g.R) L us.toArray.toList->k L->T):T:=
 bI h λL e h=>c L h.1 (q.all (λx y z w e=>by obtain rfl:=V.ju e;show w) e) h.2
theorem ZD{q:E}(H:NP q):Ev<|.lst q:=λ{F x g X K0 Q E} S c f h e M=>VW c λL p c=>aZ c λo1 o2=>by
 rw[arm_eval_List]
 show ic<|aL<|H S o2 o1 f h e λvs us g1 R U W Y=>cW<|OW W Y λL w b Z=>?_
 show jT ((M.from R).push U (o:=.list L) g1.s.toks B (λa d l=>#[_,us.toArray,0,l,w,F5.mono d.F b]) Z)<|by change us.toArray.size<=sizeLine;show(b.sz)▸sizes w
theorem aaj{q:E}(b:NP q):Ev<|.tup q:=λ{F x g X K0 Q E} S c i h H f=>D5 c λL k p c=>aZ c λo1 o2=>by
 rw[afv]
 show ic<|aL<|b S o2 o1 i h H λvs us g1 d M R U=>cW<|OW R U λL w a W=>?_
 show jT ((f.from d).give.new M (z:=.tup L) g1.s.toks B (λR' S e=>.tup e w<|F5.mono S a) W)<|by change us.toArray.size<=sizeLine;show(a.sz)▸sizes w
theorem Lh{g:G}(S:∃o,F.b.W.K.lookup sysModules=I o)(c:Inv F.b g):g.s.heap.objs.size≠sysModules:=λz=>by
 obtain⟨o,e⟩:=S
 have:=c.kF _ _ e
 replace this:=(c.free<|ie _)▸(z)▸this;cases this
theorem V8(kb:Bool):Ev<|.dict kb:=λ{F x g X K0 Q E} S c R h H q=>Xk c λp=>
 cW (wpAny_Dict_empty<|q.push R (o:=.dict kb []) g.s.toks B (λM L l=>#[_,_,[],l,Lh S.sm R,#[#[],0,#[rfl,rfl,rfl],rfl,λe w=>absurd w<|Array.not_mem_empty e,.nil,bV],dU _,.nil]) h)
theorem IF:NP .nil:=λ{F pos L g X K0 Q E} S c ns H h w q=>je (T:=λL=>dZ F.M F.A (spliced<|backTo pos<|starEach L F.env) Q E g.s) c<|bB<|q [] [] g (Le.refl g) H .nil h
theorem zF{e w:E}(H:Ev e)(m:NP w):NP<|.cons e w:=λ{F pos L g X K0 Q E} S q ns o h n l=>by
 revert ns
 show iK (T:=λL=>gU L=J->dZ F.M F.A (spliced<|backTo pos<|starEach L F.env) Q E g.s) q λy r q ns=>aZ q λo1 o2=>?_
 obtain⟨R,U⟩:=pX ns
 show(R)▸?_
 change dZ _ F.A (do
  let v <- eval y F.env
  let c <- (pure [v])
  return c++(<- holding c (spliced<|backTo pos<|starEach r F.env))) Q E g.s
 show aL<|H S o1 o h n λv W g1 Y Z a b=>aL<|bB<|aL<|bR<|m S o2 U Z b n λvs us d k f i j=>bB<|l (v::vs) (W::us) d (Y.trans k) f (.cons (a.mono k) i) j
theorem Wb{b:E}(q:HR b):HR<|.not b:=λ{F x g X K0 Q E} S c d h w R=>KX c λo y p c=>aZ c λo1 c=>by
 obtain rfl:o=.Not:=of_decide_eq_true o1
 rw[arm_isTrue_UnaryOp]
 show aL<|q S c d h w λr g1 M H a=>bB<|R (!r) g1 M H a
theorem Vi(op:CmpOp){a b:E}(L:Ev a)(M:Ev b):HR<|.cmp op a b:=λ{F x g X K0 Q E} S q z h n U=>PO q λl o r p q=>aZ q λo1 q=>aZ q λo0 q=>aZ q λo2 o3=>by
 rw[isTrue_Compare1,Mr<|gH o0,of_decide_eq_true o1]
 show aL (L S o2 z h n λi j g1 W Y Z d=>aL (bR (M S o3 Y d n λk m w H y f v=>ic (aL (PC (cW (bI v λc e v=>
  Q5 y S.ok.room (Z.mono H) f e λt=>bR<|cW<|Zq<|U c (w.to w.R w.s.heap t) (W.trans<|H.trans Le.to) (y.toks t) v)))))))
def CQ(c:E):Prop:=∀⦃F:Fr⦄ ⦃L:List Expr⦄ ⦃g:G⦄ ⦃X:XX⦄ ⦃K0:Bool->St->Prop⦄ ⦃Q:Bool->aA->Prop⦄ ⦃E:aq->aA->Prop⦄,
 rU F->uB F.b.W.K F.sc c L=J->Inv F.b g->Br F.Γ X c g.σ K0->An F X E->Bg F g K0 Q->dZ F.M F.A (allTrue .And L F.env) Q E g.s
def CW(c:E):Prop:=∀⦃F:Fr⦄ ⦃L:List Expr⦄ ⦃g:G⦄ ⦃X:XX⦄ ⦃K0:Bool->St->Prop⦄ ⦃Q:Bool->aA->Prop⦄ ⦃E:aq->aA->Prop⦄,
 rU F->uB F.b.W.K F.sc c L=J->Inv F.b g->RL F.Γ X c g.σ K0->An F X E->Bg F g K0 Q->dZ F.M F.A (allTrue .Or L F.env) Q E g.s
theorem My:CQ .nil:=λ{F L g X K0 Q E} S c H h w q=>je c<|bB<|q J g (Le.refl g) H h
theorem M0:CW .nil:=λ{F L g X K0 Q E} S c H h w q=>je c<|bB<|q au g (Le.refl g) H h
theorem JG{b q:E}(a:HR b)(M:CQ q):CQ<|.cons b q:=λ{F L g X K0 Q E} S c f h w d=>iK c λy r c=>aZ c λo1 o2=>by
 rw[acr]
 show aL<|a S o1 f h w λr g1 R H e=>?_
 cases r with
 |true=>show M S o2 H e w<|d.from R
 |false=>show bB<|d au g1 R H e
theorem Jz{b q:E}(d:HR b)(M:CW q):CW<|.cons b q:=λ{F L g X K0 Q E} S c f h w e=>iK c λy r c=>aZ c λo1 o2=>by
 rw[acr]
 show aL<|d S o1 f h w λr g1 R H a=>?_
 cases r with
 |true=>show bB<|e J g1 R H a
 |false=>show M S o2 H a w<|e.from R
theorem WQ{q:E}(w:CQ q):HR<|.nK q:=λ{F x g X K0 Q E} S c R h M H=>zp c λo L p c=>aZ c λo1 c=>by
 obtain rfl:o=.And:=of_decide_eq_true o1
 rw[Zs]
 show w S c R h M H
theorem aaa{q:E}(w:CW q):HR<|.zH q:=λ{F x g X K0 Q E} S c R h M H=>zp c λo L p c=>aZ c λo1 c=>by
 obtain rfl:o=.Or:=of_decide_eq_true o1
 rw[Zs]
 show w S c R h M H
theorem Ic{x:Expr}(c:(vw x).un.isNone=J)(g:(vw x).bool.isNone=J)(q:(vw x).cmp.isNone=J)(w:(vw x).ite.isNone=J)(env:Env)(whole:Sem aq):isTrue x env whole=(do let v <- whole;standAt x.pos;holding [v]<|truthy v):=by induction x using fW<;>first|rfl|show(aD c).elim|show(aD g).elim|show(aD q).elim|show(aD w).elim
theorem aeM{e:E}(b:Ev e):HR<|.v e:=λ{F x g X K0 Q E} S q f h a H=>aZ q λo1 q=>aZ q λo2 q=>aZ q λo3 q=>aZ q λo4 q=>by
 rw[Ic o1 o2 o3 o4]
 show aL<|b S q f h a λv W g1 L M U w=>ic<|bR<|cW<|bI w λc e w=>Jm M U e λt d=>H c (g1.to g1.R g1.s.heap t) (L.trans Le.to) d w
def avW(o:BoolOp)(c:gI)(X:XX)(g:E)(q:St)(K:V->St->Prop):Prop:=match o with
 |.And=>Ii c X g q K
 |.Or=>R9 c X g q K
noncomputable def goes(o:BoolOp)(c:Bool):Bool:=match o with
 |.And=>c
 |.Or=>!c
def Ew(o:BoolOp)(c:E):Prop:=∀⦃F:Fr⦄ ⦃L:List Expr⦄ ⦃p:Pos⦄ ⦃g:G⦄ ⦃X:XX⦄ ⦃K0:V->St->Prop⦄ ⦃Q:aq->aA->Prop⦄ ⦃E:aq->aA->Prop⦄,
 rU F->qp F.b.W.K F.sc c L=J->Inv F.b g->avW o F.Γ X c g.σ K0->An F X E->kj F g K0 Q->dZ F.M F.A (eval (.BoolOp o L p) F.env) Q E g.s
theorem aaF{q:E}(w:Ew .And q):Ev<|.nK q:=λ{F x g X K0 Q E} S c R h M H=>zp c λo L p c=>aZ c λo1 c=>(of_decide_eq_true o1)▸w S c R h M H
theorem ad2{q:E}(w:Ew .Or q):Ev<|.zH q:=λ{F x g X K0 Q E} S c R h M H=>zp c λo L p c=>aZ c λo1 c=>(of_decide_eq_true o1)▸w S c R h M H
theorem Sw{c:Sc}{r:E}(h:qp K c r []=J):r.isNil=J:=by induction r<;>first|rfl|show gE h
theorem QC{r:E}(h:r.isNil=J):r=.nil:=by induction r<;>first|rfl|show gE h
theorem Ht{o:BoolOp}:Ew o .nil:=λ{F L p g X K0 Q E} S c H h q w=>by induction o<;>show h.elim
set_option backward.match.sparseCases true in
theorem C6{o:BoolOp}{e r:E}(U:Ev e)(W:Ew o r):Ew o<|.cons e r:=λ{F L p g X K0 Q E} S f j h b w=>
 iK f λy ys f=>aZ f λo1 o2=>by
 have h':ev F.Γ X e g.σ λv H=>B7 r.isNil (K0 v H)<|bO (AE H.U v) λc=>B7 (goes o c) (avW o F.Γ X r H K0)<|K0 v H:=by induction o<;>show h
 clear h
 induction q:r.isNil with
 |true=>
  rw[q]at h'
  obtain rfl:=QC q
  show je (T:=λys=>dZ F.M F.A (eval (.BoolOp o (y::ys) p) F.env) Q E g.s) o2<|show dZ _ F.A (eval y F.env) Q E g.s from U S o1 j h' b w
 |false=>
  replace h':=(q)▸h'
  induction ys using nY with
  |nil=>replace q:=(Sw o2)▸q;show vZ q
  |cons z ys=>
   change dZ _ F.A (do
    let v <- eval y F.env
    standAt p
    let c <- holding [v] (truthy v)
    match o,c with
    |.And,au | .Or,J=>pure v
    |_,_=>boolOp p o (eval z F.env::evalEach ys F.env)) Q E g.s
   show aL<|U S o1 j h' b λv Y g1 Z a R i=>ic<|aL<|bR<|cW<|bI i λc e i=>Jm a R e λt d=>?_
   have w:=(w.from Z).from<|Le.to (h:=g1.s.heap) (t:=t)
   cases o<;>induction c
   ·show bB<|w v Y _ (Le.refl _) d (R.mono Le.to) i
   ·show W S o2 d i b w
   ·show W S o2 d i b w
   ·show bB<|w v Y _ (Le.refl _) d (R.mono Le.to) i
theorem X8{W:Pw}{E:aq->aA->Prop}{env:Env}{c:List Expr}{g:Nat}{pos:Pos}{t:Addr}{items:Array aq}{Q:Unit->aA->Prop}(q:A.handled=az)(w:s.heap.IsTuple t items)
  (H:(assignEach c env).length=items.size) (F:(assignEach c env).findIdx? (·.1)=az)
  (h:∀h',ach s.heap.objs.size s.heap h'->dZ W.M A (assignInOrder ((assignEach c env).map (·.2)) items.toList) Q E { s with heap:=h' }) :
  dZ W.M A (assign (.Tuple c g pos) env<|.ref t) Q E s:=by
 rw[arm_assign_Tuple]
 show ic ?_
 unfold unpack
 show(H)▸(F)▸(aL<|bR<|cW<|Ms q w h)
theorem qT{W:Pw}{A:bC}{s:aA}{R:fP->aA->Prop}{id:String}{b:Builtin}(gd:yr (.builtin id args)=J)(g:entryFor table id=I b)
  (h:dZ W.M (A.under<|.builtin id args) (b args) (λfin s'=>match fin with | .done f=>R (.ok f) s' | .again c=>c.quiet=J/\eZ W.M A c R s') (λe s'=>R (.error e) s') s) :
  eZ W.M A (.builtin id args) R s:=by show jL gd ?_;change dZ _ _ (match entryFor table id with|some b=>b args|none=>unsupported<|(withoutEnding? id "#data").getD id) _ _ s;show(g)▸h
theorem kg{W:Pw}{A:bC}{s:aA}{R:fP->aA->Prop}{id:String}{b:Builtin}(gd:yr (.builtin id args)=J)(g:plainId id=J)(w:entryFor table id=I b)
  (h:wpAny W.M A.in1 (checkBuiltinCall id args) (λZ c=>dZ W.M A.in1 (b args) (λfin s'=>match fin with | .done f=>R (.ok f) s' | .again q=>q.quiet=J/\eZ W.M A q R s') (λe s'=>R (.error e) s') c)
   (λe s'=>R (.error e) s') s):eZ W.M A (.call (.builtin id) args) R s:=by show jL B ?_;change dZ _ A.in1 (do checkBuiltinCall id args;again<|.builtin id args) _ _ s;show aL<|dK (cW h) (λZ c H=>bB<|aN (oh g args)<|qT gd w<|(iH g args)▸H) λZ Z h'=>h'
theorem Iq{A:bC}{Q:aq->aA->Prop}{E:aq->aA->Prop}{x:Addr}{w:Obj}{od:Option Obj}{name:Str}{expr:Bool}{g a:aq}(X:W.K.In s.heap)(b:XG s.heap x w C od)(c:findIn W.K (.ref C) "__getattribute__" = I (I<|.builtin "object.__getattribute__"))
  (f:findObj W.K C od name=I (.bind g a)) (H:findIn W.K (.ref C) "__getattr__" = I az)
  (h:dZ W.M A.in1 (call g [a,.ref x,.ref C]) (λv s'=>dZ W.M A (handedOut v) Q E s') (λZ Z=>False) { s with toks:=s.toks+1 }) :
  dZ W.M A (getAttr (.ref x) name expr) Q E s:=by
 obtain⟨e,L,d,t,R⟩:=s
 have q:=b.type (M:=W.M)
 show aL<|cW<|wpAny_mkText ?_
 show bR<|aL<|cW<|q.at ?_
 show aL<|cW<|(qa X c).at ?_
 show aL<|nS<|dK (AI (E:=λZ Z=>False)<|qT (by change(!(gi.contains "proto.getattr_hooked"))=J;decide +kernel) F.plainObj_entry_getattr_hooked ?_) (λZ Z z=>z) λZ Z z=>z.elim
 show aL<|bB<|aL<|cW<|q.at ?_
 show aL<|cW<|(looks_find X b f).at ?_
 show aL<|cW<|(qa X H).at ?_
 show aL<|bR<|dK h (λv s' z=>bB z) λZ Z z=>z
theorem JF{A:bC}{R:fP->aA->Prop}{p x:Addr}{c:Addr}{rest:List aq}{tp:aq}(X:W.K.In s.heap)(q:recIn W.K p "property" = I (.ref c::rest))
  (h:eZ W.M A (.call (.ref c) #[[.ref x],[]]) R s):eZ W.M A (.call (.builtin "property.__get__") #[[.ref p,.ref x,tp],[]]) R s:=by
 obtain⟨d,b,w⟩:=rec_of X q;obtain⟨F,g,H,t,a⟩:=s;show kg (by change(!(gi.contains "property.__get__"))=J;decide +kernel) KF.slot_prop.plain KF.entry_prop<|KF.slot_prop.check _ _ _ _ _ _ _ _ #[_,w,rfl] (KF.args_prop _ _ _)<|cW ?_;repeat lk
 show#[rfl,h]
theorem FF(f:Array aq->Array aq)(ys:Array aq)(n:Nat):∃c,Of f (fE ys n)=fE (f ys) c:=#[_,rfl]
theorem Cn{W:Pw}{A:bC}{E:aq->aA->Prop}{l:Addr}{items:Array aq}{k:Int}{t:Tok}{v:aq}{Q:Unit->aA->Prop}(w:s.heap.get? l=I (fE items m))
  (F:0<=k) (c:k<2^63) (L:k<items.size)
  (H:∀h' g,h'.get? l=I (fE (items.setIfInBounds k.toNat v) g)->eW l s.heap h'->Q () { s with heap:=h' }) :
  wpAny W.M A (setItem (.ref l) (.int k t) v) Q E s:=by
 have R:s.heap.IsList l items:=#[_,w,rfl,m,rfl]
 unfold setItem
 try with_reducible show eX ?_
 first|show ao (aF ?_) | skip
 show ao<|wpAny_sequenceKey R.typeIs (by decide) ?_
 show ao (wpAny_callSpecial?_slot R.typeIs Zt
  (nQ Zt R.typeIs entry_list_setitem ?_<|args_list_setitem _ _ _))
 change wpAny _ _ (acR (.int k t)>>=_) _ _ s
 show ao<|wpAny_listSubscript_int (fitsIndex_of F c) ?_
 clear c
 obtain⟨j,rfl⟩:=Ft F
 have b:j<items.size:=by lia
 change wpAny _ _ ((seqItemAt l j>>=λr=>pure (r.map (j,·)))>>=_) _ _ s
 show ao<|ao<|wpAny_seqItemAt w B<|aF ?_
 show((pB b))▸?_
 obtain⟨g,a⟩:=FF (·.setIfInBounds j v) items m
 have q:(s.heap.update l (Of (·.setIfInBounds j v))).get? l=I (fE (items.setIfInBounds j v) g):=by rw[iF _ w<|by rw[a];rfl,a]
 show ao<|wpAny_setSeqItemAt w B ?_
 first
  |show ao<|aF<|aF #[.none,rfl,aF<|H _ g q<|Heap.SameBut.update ..]
  |show aF #[.none,rfl,aF<|H _ g q<|Heap.SameBut.update ..]
theorem rD{e:Expr}{r:List Expr}{env:Env}(h:gU (e::r)=J):assignEach (e::r) env=(au,assign e env)::assignEach r env/\gU r=J:=by induction e using fW<;>first|show#[rfl,h] | show gE h
theorem FG{L:List Expr}(h:gU L=J):(assignEach L env).length=L.length/\(assignEach L env).findIdx? (·.1)=az:=by
 induction L with
 |nil=>show#[rfl,rfl]
 |cons x L c=>obtain⟨g,q⟩:=rD h;obtain⟨a,b⟩:=c q;show(g)▸(#[congrArg (· + 1) a,by rw[List.findIdx?_cons,b];rfl])
theorem Vk(h:fnIn K f=J):keepIn K (.ref f)=J:=by
 unfold fnIn at h;unfold keepIn;dsimp only;induction e:K.lookup f with
 |none=>rw[e]at h;show gE h
 |some o=>rw[e]at h;obtain⟨_,_,d,_⟩:=o;induction d<;>first|rfl|show gE h
theorem W7(i:Nat):CG<|.loc i:=λ{F x v u g X K0 Q E} S c a q h b w=>nG (T:=λx=>dZ F.M F.A (assign x F.env u) Q E g.s) (G:=λnm Z=>k7 F.sc nm i) c λy p c=>cW<|BD<|sr a S.eo c q λs' H=>w #[g.R,g.ρ,g.σ.var i v,s'] #[λZ Z e=>e,bH _] H h.2
theorem af3{c:List O}{l:Nat×List P}(h:Kr c x=I l):x=.ref l.1/\c[l.1]?=I (.list l.2):=by
 induction x with
 |p x=>show bh h
 |ref i=>show fB h λo g h=>?_;induction o<;>first|show bh h|cases h;show#[rfl,g]
theorem agp{c:List O}{l:Nat×Bool×List (Ky×V)}(h:mdO c x=I l):x=.ref l.1/\c[l.1]?=I (.dict l.2.1 l.2.2):=by
 induction x with
 |p x=>show bh h
 |ref i=>show fB h λo g h=>?_;induction o<;>first|show bh h|cases h;show#[rfl,g]
theorem abl{c:List O}{l:Nat×List UInt8}(h:mbO c x=I l):x=.ref l.1/\c[l.1]?=I (.sA l.2):=by
 induction x with
 |p x=>show bh h
 |ref i=>show fB h λo g h=>?_;induction o<;>first|show bh h|cases h;show#[rfl,g]
section
variable {g:G}
theorem Inv.F9(d:Inv b g){l:Nat×List P}(i:VR b.W g x v)(h:Kr g.U x=I l){T:aq->Prop}(k:∀a ys n,g.get a=I (fE ys n)->l.2.length<=gr->cC (PR b.W g.R) l.2 ys.toList->
  (∀{h':Heap}{c:List P}{q w t},h'.get? a=I (fE q w)->eW a g.s.heap h'->c.length<=gr->cC (PR b.W g.R) c q.toList->Inv b #[g.R,g.ρ,g.σ.put l.1<|.list c,sh g.s h' t])->T (.ref a)):T v:=by
 obtain⟨rfl,e⟩:=af3 h;obtain⟨⟨W,ys,n,f,F,r⟩,a,rfl,H⟩:=d.obj i e;cases H.symm.trans f.1
 show k a ys n f.2.2 F r λ{h' c q w t} j L M U=>d.Wy t e (λh=>by cases h) f.1 f.2.1 j L λl=>#[a,q,w,l,M,U]
theorem Inv.Pk(i:Inv b g){l:Nat×Bool×List (Ky×V)}(q:VR b.W g x v)(h:mdO g.U x=I l){T:aq->Prop}(k:∀a kvs,a≠sysModules->g.s.heap.DictOf (jh b.W l.2.1) a kvs->l.2.2.length<=gr->DH b.W g l.2.2 kvs->
  (∀{h':Heap}{c kvs' t},h'.DictOf (jh b.W l.2.1) a kvs'->eW a g.s.heap h'->c.length<=gr->DH b.W g c kvs'->Inv b #[g.R,g.ρ,g.σ.put l.1<|.dict l.2.1 c,sh g.s h' t])->T (.ref a)):T v:=by
 obtain⟨rfl,e⟩:=agp h;obtain⟨⟨W,o,kvs,f,n,D,w,r⟩,a,rfl,j⟩:=i.obj q e;cases j.symm.trans f.1
 show k a kvs n (D.at f.2.2) w r λ{h' c kvs' t} d F H m=>?_;obtain⟨L,M,U⟩:=DY.of d;show i.Wy t e (λh=>by cases h) f.1 f.2.1 M F λl=>#[a,L,kvs',l,n,U,H,m]
theorem AW{x:α}:∀{c:List<|Ky×α},(kU c k x).length<=c.length+1:=by
 intro c;induction c with
 |nil=>show aE _
 |cons e r q=>
  rw[EL];split
  ·show eV _
  ·show cU q
theorem zg.nd(d:h.DictOf (jh W kb) a kvs):(kvs.map (·.1)).Nodup:=by obtain⟨_,_,_,_,_,_,_,_,z⟩:=d;show z
theorem MM{A:bC}{E:aq->aA->Prop}(I:Inv b g){u o i:aq}{k:St->Prop}{Q:Unit->aA->Prop}(W:VR b.W g z u)(Y:VR b.W g x o)(Z:VR b.W g y i)(h:qN g.σ z x y k)
  (m:∀p s',Inv b #[g.R,g.ρ,p,s']->k p->Q () s'):wpAny b.W.M A (setItem o i u) Q E g.s:=bI h λq e c=>by
 obtain rfl:=V.ju e
 induction F:Kr g.U x with
 |some l=>
  unfold kSS at c
  replace c:=(F)▸c
  show bI c λz' H J=>bI J λj L w=>?_
  obtain rfl:=V.ju H
  obtain rfl:=P.ig L
  obtain⟨t,rfl⟩:=PR.fU Z
  obtain⟨⟨v,C⟩,K⟩:=w
  show I.F9 Y F (T:=λo=>wpAny b.W.M A (setItem o _ u) Q E g.s) λa ys n f B r put=>?_
  have q:=Bk v C B
  show Cn f v q.1 (by show r.sz▸q.2) λh' m' X U=>m _ _ (put X U (by rw[cD];show B) ?_) K
  show(Array.toList_setIfInBounds)▸r.set (T:=PR b.W g.R) W _
 |none=>
  unfold kSS at c
  rw[F]at c
  show bI c λd H J=>bI J λky L w=>(I.Pk Y H (T:=λo=>wpAny b.W.M A (setItem o _ u) Q E g.s) λa kvs n D B r put=>(wpAny_setItem_pairs (hsz:=(r.len)▸sizes B) (yg L Z) D λh' Xs U=>m _ _ (put Xs U (av AW w.1)<|r.put W<|zg.nd D) w.2))
end
theorem q6{M:ir}{E:aq->aA->Prop}{vs keep:List aq}{Q:Unit->aA->Prop}(h:Q () s):wpAny M A (release vs keep) Q E s:=λc p g=>by rw[Sem.wp_release];show h
theorem QE(k j:Nat){a:E}(w:Ev a):CG<|.attr a k j:=λ{F x v u g X K0 Q E} S c n l h H L=>vV (T:=λx=>dZ F.M F.A (assign x F.env u) Q E g.s) (G:=λy nm i=>qK F.b.W.K k j nm&&lj F.b.W.K F.sc a y) c λy nm p c=>aZ c λo1 o2=>by
 rw[Ub]
 show aL<|bR<|w S o2 n h H λe f g1 q U W Y=>ic<|cW<|ao<|eX<|AQ U o1 W (l.mono q) Y λZ s' m d=>q6<|L #[g1.R,g1.ρ,Z,s'] #[q.F,q.ρ] m d
theorem UC{a b:E}(L:Ev a)(U:Ev b):CG<|.sub a b:=λ{F x v u g X K0 Q E} S q I W h C Y=>ID (T:=λx=>dZ F.M F.A (assign x F.env u) Q E g.s) (G:=λy z t=>lj F.b.W.K F.sc a y&&lj F.b.W.K F.sc b z) q λy z p q=>aZ q λo1 o2=>by
 rw[arm_assign_Subscript]
 show aL<|bR<|L S o1 I h C λm n g1 w Z d e=>aL<|bR<|U S o2 Z e C λo r H c f i j=>ic<|cW<|ao<|eX<|MM f (W.mono<|w.trans c) (d.mono c) i j λk s' D l=>q6<|Y #[H.R,H.ρ,k,s'] #[(w.trans c).F,(w.trans c).ρ] D l
def Iw(c:E):Prop:=∀⦃F:Fr⦄ ⦃L:List Expr⦄ ⦃vs:List V⦄ ⦃us:List aq⦄ ⦃g:G⦄ ⦃X:XX⦄ ⦃K0:St->Prop⦄ ⦃Q:Unit->aA->Prop⦄ ⦃E:aq->aA->Prop⦄,
 rU F->zd F.b.W.K F.sc c L=J->gU L=J->Inv F.b g->cC (VR F.b.W g) vs us->Kc F.Γ X c vs g.σ K0->An F X E->Fz F g K0 Q->dZ F.M F.A (assignInOrder ((assignEach L F.env).map (·.2)) us) Q E g.s
theorem Pq:Iw .nil:=λ{F L vs us g X K0 Q E} S c ns H q h R w=>je (T:=λL=>dZ F.M F.A (assignInOrder ((assignEach L F.env).map (·.2)) us) Q E g.s) c (by
 obtain⟨rfl,h⟩:=h
 cases q
 show bB<|w g (Le.refl g) H h)
theorem F6{f:aq->Sem Unit}{l:List<|aq->Sem Unit}{x:aq}{L:List aq}:assignInOrder (f::l) (x::L)=(do holding L (f x);assignInOrder l L):=rfl
theorem Nc{t w:E}(H:CG t)(f:Iw w):Iw<|.cons t w:=λ{F L vs us g X K0 Q E} S c ns j e h i R=>by
 revert ns
 show iK (T:=λL=>gU L=J->dZ F.M F.A (assignInOrder ((assignEach L F.env).map (·.2)) us) Q E g.s) c λy r c ns=>aZ c λo1 o2=>?_
 obtain⟨U,W⟩:=rD (env:=F.env) ns
 induction e with
 |nil=>show h.elim
 |cons Y q=>
  rw[U,bK,F6]
  show aL<|bR<|H S o1 j Y h i λg1 d Z a=>f S o2 W Z (q.mono λb b h=>h.mono d) a i<|R.from d
theorem GA{g:Sc}:∀{c:E}{L:List Expr},zd K g c L=J->L.length=c.len:=λ{c}=>by
 induction c with
 |nil=>intro L h;show je h B
 |cons t c _ q=>intro L h;show iK h λy r h=>aZ h λw o2=>congrArg xY<|q o2
 |_=>intro L h;show(aD h).elim
theorem Xn{c:E}(t:Iw c):CG<|.tup c:=λ{F x v u g X K0 Q E} S w C W h Y Z=>D5 (T:=λx=>dZ F.M F.A (assign x F.env u) Q E g.s) (G:=λL l l=>gU L&&zd F.b.W.K F.sc c L) w λL k p w=>aZ w λo1 o2=>bI h λH e h=>by
 show fB e λq y n=>?_
 obtain rfl:=V.ju y;obtain rfl:=P.DL n
 obtain⟨a,ys,m,rfl,d,j,D⟩:=PR.qM W
 obtain⟨y,n⟩:=FG o1
 show X8 S.ok.handled #[_,C.fh d,rfl,m,rfl] ((y)▸(GA o2)▸(D.sz)▸‹H.length=c.len/\_›.1.symm) n λh' i=>(t S o2 o1 (C.only g.s.toks λb o r e=>i b o (λz=>r<|z▸C.free (ie _)) e) (cC.map (U:=VR F.b.W<|g.to g.R h' g.s.toks) (f:=V.p) (f':=id) (λl l h=>h) D|>λz=>by rwa [p8]at z) ‹H.length=c.len/\_›.2 Y (Z.from Le.to))
theorem Sg{C:Nat}{c:List cZ}{vs:List<|Option aq}(f:ri C c vs)(h:((nu C).map cG).contains nm=au):(lookIn nm<|dictOf c m)=I az:=by rw[lookIn_dict];show f.no nm λz=>by rw[List.contains_eq_mem,decide_eq_false_iff_not]at h;show h z
theorem Wg(k f:Nat){a:E}(Z':Ev a):Ev<|.prop a k f:=λ{F x g X K0 Q E} S q I h d i=>vV q λy nm p q=>aZ q λB q=>aZ q λo2 o3=>aZ B λo1 o4=>by
 induction F':findIn F.b.W.K (.ref k) nm with
 |none=>replace o4:=(F')▸o4;show gE o4
 |some r=>
  rw[F']at o4
  induction r with
  |none=>show gE o4
  |some r=>
   induction r with
   |ref j=>
    show aZ o4 λH c=>aZ H λH n=>?_
    cases J:recIn F.b.W.K j "property" with
    |none=>replace c:=(J)▸c;show gE c
    |some l=>
     rw[J]at c
     induction l using nY with
     |nil=>show gE c
     |cons z rest=>
      induction z with
      |ref g0=>
       show hd λo L=>?_
       obtain rfl:=cI c
       obtain⟨g1,t,g3,g4⟩:=uX o1
       show L ?_
       rw[XI,DE o2]
       show aL<|Z' S o3 I h d λC u1 k1 D w R U=>?_
       show hd λo L=>?_
       obtain⟨a,dx,sl,Z,m,vs,rfl,T,f,_⟩:=w.inst R U.1
       show L ?_
       show ic<|aL<|bR ?_
       show Iq w.za T (wC g1).1 (findObj_data (by obtain⟨cd,hc,_⟩:=any_some t;show(hc)▸?_;rfl) F' (cI H)<|cI n) (wC g1).2<|oB<|JF w.za J ?_
       show Al (A':=F.A.in1) (E:=λ_ _=>False) S (w.toks _) af S.ok.in1 (vs:=[C]) (.cons (R.mono Le.to) .nil) U.2 UD (λv u W L2 I2 Y hk=>?_) λe s' he=>he.elim
       show(?_:dZ F.M F.A (handedOut u) _ _ W.s)
       show(handedOut_of<|GC Y)▸(bB<|cW<|ao<|wz<|aF<|i v u W (D.trans<|Le.to.trans L2) I2 Y hk)
      |_=>show gE c
   |_=>show gE o4
theorem We(k f:Nat){a args:E}(M:Ev a)(R:NP args):Ev<|.eN a k f args:=λ{F x g X K0 Q E} S c I h B U=>GV c λy nm ap L pos c=>aZ c λo1 c=>aZ c λo2 c=>aZ c λo3 c=>aZ c λo4 o5=>
 aZ o1 λW o1=>aZ o1 λY o1=>aZ o1 λZ o1=>aZ o1 λb d=>by
 show hd λi q=>?_
 obtain⟨g1,s,g3,t⟩:=uX W
 show q ?_
 show LH o2 o3<|M S o4 I h B λv z k1 j w T H A=>?_
 show hd λi q=>?_
 obtain⟨a,C,D,l,m,vs,rfl,n,f,_⟩:=w.inst T H.1
 show q<|method_fn w.za n (wC g1).1 (wC g1).2 (cI Y) (cI Z) (by change(lookIn nm<|dictOf l m).map _=_;show(Sg f<|gH d)▸?_;rfl) ?_
 show xx (eH (eH o3).2).2 (keeps_K<|Vk b)<|R S o5 (eH (eH o3).2).2 w H.2 B λvs us k2 J L' o p=>#[L'.za,?_]
 show oB<|Al (E:=λK K=>False) S L' af S.ok.low (.cons (T.mono J) o) p UD (U.from<|j.trans J) λe s' r=>r.elim
noncomputable abbrev vv(ifs:List Expr)(env:Env)(b:Bool):Sem Bool:=forIn ifs b λc r=>if r=J then do let g <- isTrue c env (eval c env);pure (ForInStep.yield g) else pure (ForInStep.yield r)
theorem EI{M:ir}{E:aq->aA->Prop}{m:Sem α}{Q:α->aA->Prop}(h:dZ M A m Q (notedBy M A env E) s):dZ M A (m.onRaise λx=>do noteFrame x env;theTreesLotGoes x) Q E s:=
 nS (dK h (λw w q=>q) λw w c=>aL<|dK (cW c) (λw w e=>cW<|wpAny_theTreesLotGoes e) λw w e=>e)
theorem yx{A:bC}{M:ir}{E:aq->aA->Prop}{s:aA}{q:Expr}{c:Scope}{pos:Pos}{d:Nat}{it acc:aq}{env:Env}{Q:Fin->aA->Prop}(W:gens[d]?=I #[tt,iter,ifs,0])(Y:gens[d+1]?=az)
  (h:wpAny M A (pyNext it) (λr g=>match r with
   |none=>Q (.done .next) g
   |some v=>wpAny M A (letOwnedTupleGo tt it v) (λe H=>dZ M A (assign tt env v) (λe i=>dZ M A (vv ifs env J) (λw j=>
     if w=J then dZ M A (eval q env) (λx f=>wpAny M A (call (.builtin "list.append") [acc,x]) (λe L=>Q (.again<|.compLoop (.ListComp q gens c pos) d it acc env) L) E f) E j
     else Q (.again<|.compLoop (.ListComp q gens c pos) d it acc env) j) E i) E H) E g) E s) :
  dZ M A (compTurn (.ListComp q gens c pos) d it acc env) Q E s:=by
 unfold compTurn;dsimp only;show(W)▸(Y)▸?_;show ic<|aL<|dK (cW h) (λr g R=>?_) λe e x=>x;induction r with
 |none=>show bB R
 |some v=>
  show aL<|dK (cW R) (λe H Z=>aL<|dK Z (λe i a=>aL<|dK a (λw j U=>?_) λe e x=>x) λe e x=>x) λe e x=>x;induction w with
  |false=>show bB U
  |true=>show aL<|aL<|dK U (λx f F=>aL<|dK (cW F) (λe L b=>bB<|bB b) λe e x=>x) λe e x=>x
theorem tM{W:Pw}{A:bC}{s:aA}{g:Expr}{gens:List Comprehension}{c:Scope}{pos:Pos}{d:Nat}{it acc:aq}{env:Env}{R:fP->aA->Prop}
  (h:dZ W.M A (compTurn (.ListComp g gens c pos) d it acc env) (λfin s'=>match fin with | .done f=>R (.ok f) s' | .again q=>q.quiet=J/\eZ W.M A q R s') (notedBy W.M A env λe s'=>R (.error e) s') s):eZ W.M A (.compLoop (.ListComp g gens c pos) d it acc env) R s:=by show jL B ?_;change dZ _ A ((compTurn (.ListComp g gens c pos) d it acc env).onRaise (λx=>do noteFrame x env;theTreesLotGoes x)) _ _ s;show EI h
theorem MN:∀ifs:List Expr,vv ifs env au=pure au:=by
 intro ifs;induction ifs with
 |nil=>show B
 |cons c r g=>unfold vv;rw[fG,if_neg<|by decide];show g
def vh(c:E):Prop:=∀⦃F:Fr⦄ ⦃L:List Expr⦄ ⦃g:G⦄ ⦃X:XX⦄ ⦃K0:Bool->St->Prop⦄ ⦃Q:Bool->aA->Prop⦄ ⦃E:aq->aA->Prop⦄,
 rU F->uB F.b.W.K F.sc c L=J->Inv F.b g->Br F.Γ X c g.σ K0->An F X E->Bg F g K0 Q->dZ F.M F.A (vv L F.env J) Q E g.s
theorem LP:vh .nil:=λ{F L g X K0 Q E} S c H h w q=>je c<|bB<|q J g (Le.refl g) H h
theorem Sd{b q:E}(d:HR b)(M:vh q):vh<|.cons b q:=λ{F L g X K0 Q E} S c f h w a=>iK c λy r c=>aZ c λo1 o2=>by
 unfold vv
 rw[fG,if_pos B]
 show aL<|aL<|d S o1 f h w λr g1 R H e=>bB ?_
 cases r with
 |true=>show M S o2 H e w<|a.from R
 |false=>show Dl (MN _)<|bB<|a au g1 R H e
noncomputable def Cx.holds(c:Cx)(l:List<|Addr×Obj):Cx:=l.foldr (λp k=>k.hold p.1 p.2) c
noncomputable def XM(R:RM)(l:List<|Addr×Obj):RM:=l.foldr (λp k=>rV k p.1<|.fix p.2) R
noncomputable abbrev G.holds(g:G)(D:List<|Addr×Obj):G:=#[XM g.R D,g.ρ,g.σ,g.s]
noncomputable def G.drops(g:G)(D:List<|Addr×Obj):G:=#[λa=>if a∈D.map (·.1) then .iP else g.R a,g.ρ,g.σ,g.s]
noncomputable abbrev Bs.holds(b:Bs)(D:List<|Addr×Obj):Bs:=#[b.W,b.c.holds D,b.fm]
section
variable {g:G}
theorem Dt(h:a∉D.map (·.1)):XM g.R D a=g.R a:=by
 induction D with
 |nil=>rfl
 |cons p r c=>rw[bK,aC,not_or]at h;show(eO h.1).trans<|c h.2
theorem KJ{c:Cx}(h:a∉D.map (·.1)):(c.holds D).R0 a=c.R0 a:=by
 induction D with
 |nil=>rfl
 |cons p r q=>rw[bK,aC,not_or]at h;show(eO h.1).trans<|q h.2
theorem Inv.holds(R:Inv b g)(off:mz g D)(nd:(D.map (·.1)).Nodup):Inv (b.holds D) (g.holds D)/\Le g (g.holds D):=by
 induction D with
 |nil=>show#[R,Le.refl g]
 |cons p r c=>rw[bK,bX]at nd;obtain⟨M,L⟩:=c (λq w=>off q<|.tail _ w) nd.2;obtain⟨H,F⟩:=M.hold ((Dt nd.1).trans (off p<|.head _).1) (off p<|.head _).2;show#[H,L.trans F]
theorem Jo{r:List<|Addr×Obj}:g.drops (p::r)=(#[rV g.R p.1 .iP,g.ρ,g.σ,g.s]:G).drops r:=by
 unfold G.drops;congr 1;funext a;by_cases c:a∈r.map (·.1)
 ·show(if_pos<|tU _ c).trans (if_pos c).symm
 ·by_cases q:a=p.1
  ·show(if_pos<|by rw[q];show .head _).trans ((if_neg c).trans<|(q)▸fu).symm
  ·show(if_neg λz=>(aC.mp z).elim q c).trans ((if_neg c).trans<|eO q).symm
theorem Inv.drops(M:Inv (b.holds D) g)(h:∀p∈D,(b.c.R0 p.1).stable=au)(nd:(D.map (·.1)).Nodup):Inv b (g.drops D)/\Le g (g.drops D)/\mz (g.drops D) D:=by
 induction D generalizing g with
 |nil=>show#[M,Le.refl g,λp w=>absurd w ai]
 |cons p r R=>
  rw[bK,bX]at nd;obtain⟨e,F,H⟩:=Inv.Zz (b:=b.holds r) (g:=g) M<|(congrArg iw.stable<|KJ nd.1).trans<|h p<|.head _;obtain⟨a,L,off⟩:=R F (λq hq=>h q<|.tail _ hq) nd.2;rw[Jo];show#[a,H.trans L,λq hq=>?_];rcases aC.mp hq with rfl|hq
  ·show#[(if_neg nd.1).trans fu,e]
  ·show off q hq
theorem Inv.agv(q:Inv b g)(h:g.R a=.iP):(b.c.R0 a).stable=au:=by
 induction e:(b.c.R0 a).stable with
 |false=>rfl
 |true=>have:=q.base a e;rw[h]at this;replace e:=(this)▸e;show gE e
end
theorem jD.mono{L:List P}{R:RM}(S:u0 R R')(h:jD W A tt it L R D):jD W A tt it L R' D:=by
 induction L with
 |nil=>show λc q off g=>h (S.trans c) q off g
 |cons x r=>show λc q off g=>h (S.trans c) q off g
noncomputable abbrev Fr.holds(F:Fr)(D:List<|Addr×Obj):Fr:=#[F.b.holds D,F.n,F.Γ,F.A,F.env,F.sc]
theorem rU.holds(S:rU F)(h:∀p∈D,(F.b.c.R0 p.1).stable=au):rU<|F.holds D:=
 ⟨S.ok,S.eo,(by
  show hd λw g=>?_
  obtain⟨l,f,L,d,H,j,i,M,R⟩:=S.fr
  show g ?_
  show#[l,f,L,d,H,j,i,M,λe U=>?_]
  show hd λw g=>?_
  obtain⟨k1,W,o,k2,q,Y⟩:=R e U
  show g ?_
  show#[k1,W,o,k2,(KJ λZ=>?_).trans q,Y]
  show gO Z λp a e=>?_
  have:=h p a
  replace this:=(q)▸(e)▸this
  show vZ this),S.dl,S.run,S.sm,S.gt,S.rz⟩
theorem Nn{g:G}(h:(g.drops D).R a≠.iP):g.R a≠.iP:=by
 unfold G.drops at h;dsimp only at h;split at h
 ·show absurd B h
 ·show h
structure ahk(F:Fr)(g:G)(D:_):Prop where
 OC:rU (F.holds D)
 inv:Inv (F.b.holds D) (g.holds D)
 le:Le g (g.holds D)
 x:∀{X:XX}{E:aq->aA->Prop},An F X E->An (F.holds D) X E
 back:∀{g1:G},Inv (F.b.holds D) g1->Inv F.b (g1.drops D)/\Le g1 (g1.drops D)/\mz (g1.drops D) D
theorem N6{g:G}(S:rU F)(d:Inv F.b g)(off:mz g D)(nd:(D.map (·.1)).Nodup):ahk F g D:=
 have u:=λp c=>d.agv (off p c).1
 have R:=d.holds off nd
 #[S.holds u,R.1,R.2,λh cc g1 s' e l q w f H=>h cc (g1.drops D) s' e l q (w.drops u nd).1 (f.less B λa=>Nn) H,λM=>M.drops u nd]
def Bj(g:gI)(t q elt:E)(x:P)(acc:List P)(c:St)(k:List P->St->Prop):Prop:=
 asg g D3 t (.p x) c λc=>Br g D3 q c λb c=>B7 b (ev g D3 elt c λw c=>bO w.p? λy=>acc.length<gr/\k (acc++[y]) c)<|k acc c
theorem ND{g:G}{A:bC}{E:aq->aA->Prop}(f:Inv b g){c:Addr}{q:Array aq}{u:aq}{Q:aq->aA->Prop}(off:mz g ((c,fE q m)::D))(F:∀p∈D,p.1≠c)(H:q.size<=gr)
  (d:∀v h' w,Inv b (g.to g.R h' g.s.toks)->mz (g.to g.R h' g.s.toks) ((c,fE (q.push u) w)::D)->Q v (sh g.s h' g.s.toks)):wpAny b.W.M A (call (.builtin "list.append") [.ref c,u]) Q E g.s:=by
 have h:=off _<|.head _;show Mt #[m,h.2] (λh' U a=>?_)<|sizes H;obtain⟨w,e⟩:=U;show d _ _ w (f.only g.s.toks λb o r e=>(a.2 b λz=>r<|z▸h.1).trans e) λp U=>?_;rcases aC.mp U with rfl|U
 ·show#[h.1,e]
 ·show#[(off p<|.tail _ U).1,(a.2 p.1<|F p U).trans (off p<|.tail _ U).2]
theorem pL(nd:((p::D).map (·.1)).Nodup):(∀q∈D,q.1≠p.1)/\(D.map (·.1)).Nodup:=by rw[bK,bX]at nd;show#[λq c e=>nd.1<|dD.mpr #[q,c,e],nd.2]
theorem KO(h:∀q∈D,q.1≠p.1)(nd:(D.map (·.1)).Nodup):((p::D).map (·.1)).Nodup:=by rw[bK,bX];show#[λc=>by obtain⟨q,g,e⟩:=dD.mp c;show h q g e,nd]
theorem OX:(([p]:List<|Addr×Obj).map (·.1)).Nodup:=bX.mpr #[ai,bV]
theorem FO{g:G}(off:mz g (p::D)):mz g [p]:=all1<|off _<|.head _
theorem F4{g:G}{tt:Expr}(S:rU F)(d:Inv F.b g)(off:mz g (p::D))(nd:((p::D).map (·.1)).Nodup)(T:jD F.b.W F.A tt it [] g.R D){Q:Option aq->aA->Prop}{E:aq->aA->Prop}
  (h:∀s',Inv F.b #[g.R,g.ρ,g.σ,s']->s'.heap.get? p.1=I p.2->Q az s'):wpAny F.M F.A (pyNext it) Q E g.s:=by
 obtain⟨f,L⟩:=pL nd;have W:=N6 S d (FO off) OX;show T (g:=g.holds [p]) W.le.F W.inv (λq w=>#[(eO<|f q w).trans (off q<|.tail _ w).1,(off q<|.tail _ w).2]) λs' i=>?_;obtain⟨H,_,o1⟩:=W.back i;have e:(#[(g.holds [p]).R,g.ρ,g.σ,s']:G).drops [p]=#[g.R,g.ρ,g.σ,s']:=by
  unfold G.drops;congr 1;funext a;by_cases c:a=p.1
  ·show(if_pos<|(c)▸.head _).trans<|by rw[c,(off _<|.head _).1]
  ·show(if_neg λz=>c<|ah.mp z).trans<|eO c
 show h s' (sB e H) (o1 _<|.head _).2
theorem C2{g:G}{x:P}{r:List P}(S:rU F)(I:Inv F.b g)(off:mz g (p::D))(nd:((p::D).map (·.1)).Nodup)(T:jD F.b.W F.A tt it (x::r) g.R D){Q:Option aq->aA->Prop}{H:aq->aA->Prop}{E:aq->aA->Prop}
  (d:∀v w,wpAny F.M F.A (letOwnedTupleGo tt it v) (λK f=>H v f) E w->Q (ae v) w)
  (h:∀v g1 B,Le g g1->g1.σ=g.σ->Inv F.b g1->mz g1 (p::B)->((p::B).map (·.1)).Nodup->PR F.b.W g1.R x v->jD F.b.W F.A tt it r g1.R B->H v g1.s):wpAny F.M F.A (pyNext it) Q E g.s:=by
 obtain⟨i,C⟩:=pL nd;have W:=N6 S I (FO off) OX;show lX (T (g:=g.holds [p]) (Q:=H) W.le.F W.inv (λq hq=>#[(eO<|i q hq).trans (off q<|.tail _ hq).1,(off q<|.tail _ hq).2]) λv g1 B j k l=>?_) (λo w Z=>?_) λK K e=>e
 ·obtain⟨J,L,m,U,o1,n⟩:=j;obtain⟨t,Y,o2⟩:=W.back J;have y:=(J.base p.1<|by rw[show(F.b.c.holds [p]).R0 p.1=_ from fu];rfl).trans fu;have a:∀q∈B,q.1≠p.1:=λq hq e=>by have:=(o1 q hq).1;replace this:=(y)▸(e)▸this;cases this
  show h v (g1.drops [p]) B (W.le.trans<|L.trans Y) U t (λq hq=>?_) (KO a n) (k.mono Y.F)<|jD.mono Y.F l;rcases aC.mp hq with rfl|hq
  ·show o2 _<|.head _
  ·show#[(if_neg λz=>a q hq<|ah.mp z).trans (o1 q hq).1,(o1 q hq).2]
 ·induction o with
  |none=>show Z.elim
  |some v=>show d v w Z
theorem yd{F:Fr}{d:Nat}{X:Expr}{H:Scope}{pos:Pos}{t C elt:E}(hg:gens[d]?=ae #[tt,iter,ifs,0])(Lg:gens[d+1]?=az)
  (hT:CG t) (hB:vh C) (hE:Ev elt) (S:rU F) (o1:xw F.b.W.K F.sc t tt=aB) (o2:uB F.b.W.K F.sc C ifs=aB) (o3:lj F.b.W.K F.sc elt X=aB) {w:Addr}{it:aq}{K0:List P->St->Prop}{R:fP->aA->Prop} :
  ∀(L:List P) {g:G}{D:List<|Addr×Obj}{m:Nat}{q:Array aq}{ys:List P},
  jD F.b.W F.A tt it L g.R D->Inv F.b g->mz g ((w,fE q m)::D)->(((w,fE q m)::D).map (·.1)).Nodup->cC (PR F.b.W g.R) ys q.toList->ys.length<=gr->j0 (Bj F.Γ t C elt) L ys g.σ K0->
  (∀U B Y a,Le g B->Inv F.b B->mz B [(w,fE Y a)]->cC (PR F.b.W B.R) U Y.toList->U.length<=gr->K0 U B.σ->R (.ok .next) B.s)->
  eZ F.M F.A (.compLoop (.ListComp X gens H pos) d it (.ref w) F.env) R g.s:=by
 intro L;induction L with
 |nil=>intro g D m q ys T I off nd f j h k;show tM<|yx hg Lg<|F4 (tt:=tt) S I off nd T λs' J e=>k ys #[g.R,g.ρ,g.σ,s'] q m #[λ_ _ e=>e,bH _] J (all1<|#[(off _<|.head _).1,e]) f j h
 |cons x r ih=>
  intro g D m q ys T I off nd f j h k;show tM<|yx hg Lg<|C2 S I off nd T (λv s₁ i5=>i5) λv g1 Z l e1 I1 TQ n hv T1=>?_;have W:=N6 S I1 TQ n;rw[<- e1]at h;show hT (F:=F.holds ((w,fE q m)::Z)) (g:=g1.holds ((w,fE q m)::Z)) (v:=.p x) W.OC o1 W.inv (hv.mono W.le.F) h UD λg2 L2 I2 h2=>hB (F:=F.holds ((w,fE q m)::Z)) W.OC o2 I2 h2 UD λc g3 L3 I3 h3=>?_;have o:=W.le.trans<|L2.trans L3;cases c with
  |false=>show hd λΩ ω=>?_;obtain⟨J,i,JX⟩:=W.back I3;show ω<|#[rfl,ih (g:=g3.drops ((w,fE q m)::Z)) (jD.mono (o.trans i).F T1) J JX n (F5.mono (l.trans<|o.trans i).F f) j h3 λU B Y a L'=>k U B Y a<|l.trans<|(o.trans i).trans L']
  |true=>
   rw[if_pos af];show hE (F:=F.holds ((w,fE q m)::Z)) W.OC o3 I3 h3 UD λy u g4 i I4 hu z=>bI z λy' ey z=>?_;obtain rfl:=V.ju ey;obtain⟨J,L5,EN⟩:=W.back I4;have Q:=o.trans<|i.trans L5;show ND J EN (pL n).1 (sB (f.sz) j) λv5 h' m5 I6 UH=>#[rfl,?_];show ih (g:=(g4.drops ((w,fE q m)::Z)).to _ h' g4.s.toks) (jD.mono (Q.trans Le.to).F T1) I6 UH n (by rw[lI];show(F5.mono (l.trans Q).F f).append<|.cons (PR.mono L5.F hu) .nil) (by rw[aj];show z.1) z.2
    λU B Y a L'=>k U B Y a<|l.trans<|(Q.trans Le.to).trans L'
section
variable {l r:List (Str×α)}{x:Str}{v:α}{p:Str×α}
theorem Ny(h:(x==p.1)=J):(p::l).lookup x=I p.2:=by cases p;rw[eK,h]
theorem M3(h:(x==p.1)=au):(p::l).lookup x=l.lookup x:=by cases p;rw[eK,h]
theorem Aw{l:List Str}:∀{k:Nat}{x:Str}{i:Nat},(Ik k l).lookup x=I i->k<=i/\l[i-k]?=I x:=by
 induction l with
 |nil=>show λh=>bh h
 |cons y r c=>
  intro k x i h;rw[aa9]at h;cases e:x==y with
  |true=>
   cases (Ny e).symm.trans h
   show#[aE _,by rw[jV,cI e];rfl]
  |false=>have q:=c<|(M3 e).symm.trans h;obtain⟨j,rfl⟩:=rq q.1;show#[OL q.1,?_];rw[dW]at q;rw[eE,dW,iy];show q.2
theorem sY(h:(l++r).lookup x=I v):l.lookup x=I v∨(l.lookup x=az/\r.lookup x=I v):=by
 induction l with
 |nil=>show .inr #[rfl,h]
 |cons p l c=>
  cases e:x==p.1 with
  |true=>show .inl<|(Ny e).trans<|(Ny e).symm.trans h
  |false=>rw[M3 e];show c<|(M3 e).symm.trans h
theorem Nb(h:l.lookup x=I v):(x,v)∈l:=by
 induction l with
 |nil=>show bh h
 |cons p l c=>
  cases e:x==p.1 with
  |true=>cases (Ny e).symm.trans h;rw[cI e];show .head _
  |false=>show .tail _<|c<|(M3 e).symm.trans h
theorem JR{f:Str->α->β}{g:Str×α->Str×β}(c:∀p,g p=(p.1,f p.1 p.2)):(l.map g).lookup x=(l.lookup x).map (f x):=by
 induction l with
 |nil=>rfl
 |cons p l q=>
  rw[bK,c];cases e:x==p.1 with
  |true=>rw[Ny (p:=(p.1,f p.1 p.2)) e,Ny e];show congrArg (λz=>I<|f z p.2) (cI e).symm
  |false=>rw[M3 (p:=(p.1,f p.1 p.2)) e,M3 e];show q
end
theorem VH{s:Scope}{x:Str}:x∈fb s ↔ (x,NameKind.local)∈s.names/\x≠(".0"):=
 ⟨λh=>gO h λp c e=>aZ (jo.mp c).2 λb1 b2=>#[by rw[<- e,<- cI b1];show(jo.mp c).1,by rw[<- e];show bne_iff_ne.mp b2],
  λh=>dD.mpr #[(x,.local),jo.mpr #[h.1,bne_iff_ne.mpr h.2],rfl]⟩
structure Pa(sc:Sc)(s:Scope)(m:Nat):Prop where
 kind:s.kind=.function
 len:(fb s).length=m
 nd:(fb s).Nodup
 loc:∀x,(x,NameKind.local)∈s.names->s.names.lookup x=I .local
 free:∀x,(x,NameKind.free)∈s.names->s.names.lookup x=I .free/\sc.kinds.lookup x=I .cell/\x∉fb s/\∃i,sc.slot.lookup x=I i
 noc:∀x∈s.names,x.2≠.cell
theorem Np{w:Sc}{s:Scope}(h:uE w s m=J):Pa w s m:=
 aZ h λh q=>aZ h λh M=>aZ h λF H=>⟨cI F,cI H,of_decide_eq_true M,λx g=>cI<|cQ.mp q _ g,
  λx g=>aZ (cQ.mp q _ g) λa d=>aZ a λa c=>aZ a λa b=>#[cI a,cI b,λm=>gE<|(gH d).symm.trans<|HB.mpr m,bQ.mp c],
  λx g e=>by have z:=cQ.mp q _ g;rw[e]at z;show gE z⟩
theorem FJ(c:Sc)(l:List<|Str×NameKind)(x:Str):(l.map λ(n,k)=>if (k==NameKind.free&&c.kinds.lookup n==I .cell) then (n,NameKind.cell) else (n,k)).lookup x =
  (l.lookup x).map λk=>if (k==NameKind.free&&c.kinds.lookup x==I .cell) then NameKind.cell else k:=
 JR (f:=λx k=>if (k==NameKind.free&&c.kinds.lookup x==I .cell) then NameKind.cell else k) λp=>(apply_ite (Prod.mk p.1) _ _ _).symm
theorem C8{c:Sc}{l:List<|Str×NameKind}{x:Str}(h:((l.filter λx=>x.2==.free).filterMap λx=>(c.slot.lookup x.1).map λi=>(x.1,i)).lookup x=I i):(x,NameKind.free)∈l/\c.slot.lookup x=I i:=
 (oY.mp<|Nb h).elim λp z=>mS z.2 λj e q=>by
  cases q
  have h:=jo.mp z.1
  show#[by rw[<- cI h.2];show h.1,e]
theorem JO:∀(l:List<|Str×NameKind) (acc:List<|Str×Addr),(∀x,(x,NameKind.free)∈l->∃a,env.cells.lookup x=I a)->
  ∃g,(forIn l acc λ(p:Str×NameKind) r=>do
   let (name,kind):=p
   if (kind==NameKind.free)=J then do let a <- cellOf env name;pure (ForInStep.yield ((name,a)::r)) else pure (ForInStep.yield r):Sem<|List<|Str×Addr)=pure g/\
   ∀x,((x,NameKind.free)∈l->g.lookup x=env.cells.lookup x)/\((x,NameKind.free)∉l->g.lookup x=acc.lookup x):=by
 intro l
 induction l with
 |nil=>show λacc Z=>#[acc,rfl,λx=>#[λh=>(cO h),λZ=>rfl]]
 |cons p r H=>
  intro acc h
  obtain⟨y,k⟩:=p
  by_cases M:k=.free
  ·subst M
   obtain⟨a,R⟩:=h y<|.head _
   obtain⟨g,F,w⟩:=H ((y,a)::acc) λx c=>h x<|.tail _ c
   show#[g,?_,λx=>#[λc=>?_,λc=>?_]]
   ·rw[fG]
    show Eq.trans ?_ F
    change(cellOf env y>>=λa=>pure<|ForInStep.yield ((y,a)::acc))>>=_=_
    rw[show cellOf env y=pure a by unfold cellOf;rw[R]];rfl
   ·by_cases z:(x,NameKind.free)∈r
    ·show(w x).1 z
    ·rcases aC.mp c with q|q
     ·cases q
      rw[(w y).2 z,eK,beq_self_eq_true,R]
     ·show absurd q z
   ·rw[(w x).2 λz=>c<|.tail _ z,eK]
    have:(x==y)=au:=by
     cases q:x==y with
     |false=>rfl
     |true=>rw[beq_iff_eq.mp q]at c;show absurd (.head _) c
    rw[this]
  ·obtain⟨g,F,w⟩:=H acc λx c=>h x (.tail _ c)
   show#[g,?_,λx=>#[λc=>?_,λc=>?_]]
   ·rw[fG]
    show Eq.trans ?_ F
    change((if (k==NameKind.free)=J then _ else _)>>=_)=_
    rw[if_neg<|by rw[beq_false_of_ne M];show aD];rfl
   ·rcases aC.mp c with q|q
    ·cases q;show absurd B M
    ·show(w x).1 q
   ·show(w x).2 λz=>c<|.tail _ z
theorem B6{c:Scope}(h:∀x,(x,NameKind.free)∈c.names->∃a,env.cells.lookup x=I a) :
  ∃g,closureFor c env=pure g/\∀x,(x,NameKind.free)∈c.names->g.lookup x=env.cells.lookup x:=by show hd λH q=>?_;obtain⟨g,w,M⟩:=JO c.names [] h;show q ?_;show#[g,?_,λx=>(M x).1];show(congrArg (λz=>z>>=λF=>(pure F:Sem<|List<|Str×Addr)) w).trans B
theorem jv.wide{g:Sc}{fm:Fm}(c:jv g fm env):jv { g with next:=g.next+L.length } (fm.deep L C) env where
 kind:=c.kind
 names:=c.names
 glob:=c.glob
 blt:=c.blt
 loc:=by
  change(fm.ds++[C])[g.BG]?=_
  rw[bM (aR.mp c.loc).1];show c.loc
 nx:=by
  change(fm.tab++L.map _).length=g.next+L.length
  rw[aj,ay,c.nx]
 vl x i h1 h2:=by
  have:=c.vl x i h1 h2
  change(fm.tab++L.map _)[i]?=_
  rw[bM (aR.mp this).1];show this
 vc x i h1 h2:=by
  obtain⟨q,w⟩:=c.vc x i h1 h2
  show#[?_,w]
  change(fm.tab++L.map _)[i]?=_
  rw[bM (aR.mp q).1];show q
theorem jv.deep{g:Sc}{fm:Fm}{c:Scope}{e:List<|Str×Addr}{C:Addr}(q:jv g fm env)(dl:fm.ds.length=g.BG+1)(F:Pa g c m)(U:∀x,(x,NameKind.free)∈c.names->e.lookup x=env.cells.lookup x) :
  jv (g.deep c) (fm.deep (fb c) C) (compEnvC c e C env):=by
 have L:∀x,(g.deep c).kinds.lookup x=(c.names.lookup x).map λk=>if (k==NameKind.free&&g.kinds.lookup x==I .cell) then NameKind.cell else k:=λx=>FJ g c.names x
 show#[F.kind,?_,q.glob,q.blt,?_,?_,λx i H d=>?_,λx i H d=>?_]
 ·change(relabel c env).names=_;show cL λp a=>?_;dsimp only;rw[q.kindOf,q.kind];simp
 ·change(fm.ds++[C])[g.BG+1]?=I C;rw[<- dl];simp
 ·change(fm.tab++(fb c).map _).length=g.next+(fb c).length;rw[aj,ay,q.nx]
 ·change(fm.tab++(fb c).map λx=>(x,I fm.ds.length))[i]?=I (x,I<|g.BG+1);rcases sY (show(Ik g.next (fb c)++_).lookup x=I i from H)with h | ⟨_,h⟩
  ·obtain⟨g1,w⟩:=Aw h;rw[bN<|bS (q.nx) g1,q.nx,cj,w,dl];rfl
  ·obtain⟨g1,w⟩:=C8 h;obtain⟨M,b,W,_⟩:=F.free x g1;rw[L,M,b]at d;cases d
 ·rcases sY (show(Ik g.next (fb c)++_).lookup x=I i from H)with h | ⟨_,h⟩
  ·obtain⟨g1,w⟩:=Aw h;have Y:=(VH.mp<|dM w).1;rw[L,F.loc x Y]at d;cases d
  ·obtain⟨g1,w⟩:=C8 h;obtain⟨M,b,W,_⟩:=F.free x g1;obtain⟨R,Z⟩:=q.vc x i w b;show#[?_,(U x g1).trans Z];change(fm.tab++_)[i]?=_;rw[bM (aR.mp R).1];show R
theorem uK{W:Pw}{A:bC}{elt:Expr}{c:Scope}{pos:Pos}{d:Nat}{it acc:aq}{env:Env}{R:fP->aA->Prop}{s:aA}(q:gens[d]?=I #[tt,iter,ifs,0])
  (w:eZ W.M A (.compLoop (.ListComp elt gens c pos) d it acc env) R s)
  (h:wpAny W.M A (pyIter it) (λg s'=>eZ W.M A (.compLoop (.ListComp elt gens c pos) d g acc env) R s') (notedBy W.M A env λx s'=>R (.error x) s') s) :
  eZ W.M A (.compStart (.ListComp elt gens c pos) d it acc env) R s:=by
 show jL B<|cW ?_;change wpAny _ _ ((compStart (.ListComp elt gens c pos) d it acc env).onRaise (λx=>do noteFrame x env;standAt theWindowsPlace)) _ _ s;show wpAny_notedAt ?_;unfold compStart;have H:(((clausesOf<|.ListComp elt gens c pos)[d]?).elim au (·.is_async != 0))=au:=by change((gens[d]?).elim au (·.is_async != 0))=au;rw[q];rfl
 rw[H];have F:(clausesOf<|.ListComp elt gens c pos)[d]?=I #[tt,iter,ifs,0]:=q;rw[F];show ao<|acp<|wpAny_ite ?_;split
 ·first
   |show ao<|aF<|aF<|aN rfl w
   |show aF<|aN rfl w
 ·first
   |show ao<|nR<|ao<|rT<|ao<|lX h (λg s' h'=>aF<|aN B h') λZ Z x=>x
   |(show ao<|nR ?_;change wpAny _ _ (standAt iter.pos>>=_) _ _ s;show ao<|rT<|ao<|lX h (λg s' h'=>aF<|aN B h') λZ Z x=>x)
def nU(W:Pw)(A:bC)(E:aq->aA->Prop)(use:Option<|aq->Sem Unit)(Q:aq->aA->Prop)(acc:aq)(C:Addr)(r:fP)(s':aA):Prop:=
 match r,use with
 |.ok _,az=>∃m,s'.heap.Ns C m/\∀h',eW C s'.heap h'->Q acc { s' with heap:=h' }
 |.ok _,I u=>dZ W.M A (u acc) (λw c=>∃m,c.heap.Ns C m/\∀h',eW C c.heap h'->Q .none { c with heap:=h' }) E s'
 |.error _,_=>False
theorem Nl{E:aq->aA->Prop}{c:Prop}[Decidable c]{pos:Pos}{k:PUnit->Sem α}{Q:α->aA->Prop}(h:dZ W.M A (k ()) Q E s) :
  dZ W.M A (if c then (standAt pos>>=k) else k ()) Q E s:=by
 split
 ·show ic h
 ·show h
theorem y9{W:Pw}{A:bC}{s:aA}{E:aq->aA->Prop}{env:Env}{e:Expr}{scope:Scope}{pos:Pos}{K first:Sem aq}{g:Comprehension}{gs:List Comprehension}{Y:List<|Str×Addr}{use:Option<|aq->Sem Unit}{Q:aq->aA->Prop}
  (i:clausesOf e=g::gs) (j:∀x,foldedSetIterable g.iter env x=pure x) (k:closureFor scope env=pure Y)
  (Z:scope.kind=.function) (H:∀x∈scope.names,x.2=.local->scope.names.lookup x.1=I .local)
  (h:dZ W.M A first (λx c=>wpAny W.M A (pyIter x) (λit a=>wpAny W.M A K (λacc b=>
   wpAny W.M A (newFunctionEnv scope env.globals Y [] env.qual az .none<|I env) (λw d=>
    eZ W.M A (.compStart e 0 it acc { w with scope:=relabel scope env }) (nU W A E use Q acc w.locals) d) E b) E a) E c) E s) :
  dZ W.M A (comprehension e scope env pos K au first use) Q E s:=by
 unfold comprehension
 rw[k,i]
 show aL (dK h (λx c l=>ic (aL (Dl (j x) (bB (aL (bR (dK (cW l) (λit a n=>
  Nl (aL<|dK (cW n) (λacc b o=>aL<|bB<|aL<|dK (cW o) (λw d p=>?_) λC C h'=>h') λC C h'=>h')) λC C h'=>h'))))))) λC C h'=>h')
 have D:∀x∈(scope.names.filter λx=>(x.2==.local||x.2==.cell)&&x.1 != (".0":Str)).reverse,x.2=.local->
   Oe { w with scope:=relabel scope env } x.1=I .local:=λx J F=>lookup_relabel_local<|H x (jo.mp<|cR.mp J).1 F
 show bR<|aL<|xE<|bR<|Yc (zD p λr s' T=>?_) bh
 induction r with
 |ok f=>
  induction use with
  |none=>
   show hd λz t=>?_
   obtain⟨m,L,T⟩:=T
   show t<|aL<|bR<|cW<|acs Z _ s' m D L λh' v C R=>bB<|T h' R
  |some u=>
   show aL<|Jx<|aL<|bR<|dK T (λC y q=>?_) λC C h'=>h'
   obtain⟨m,L,q⟩:=q
   have U:∀x∈(scope.names.filter λx=>(x.2==.local||x.2==.cell)&&x.1 != (".0":Str)).reverse.drop 1++(scope.names.filter λx=>(x.2==.local||x.2==.cell)&&x.1 != (".0":Str)).reverse.take 1,
     x.2=.local->Oe { w with scope:=relabel scope env } x.1=I .local:=λx J F=>by
    rcases aM.mp J with h1|h1
    ·show D x (List.mem_of_mem_drop h1) F
    ·show D x (tV h1) F
   show aL<|cW<|acs Z _ y m U L λh' v C R=>bB<|q h' R
 |error x=>show kq T
theorem vg{A:bC}{M:ir}{E:aq->aA->Prop}{s:aA}{q Z w:Expr}{c:Scope}{pos:Pos}{d:Nat}{it acc:aq}{env:Env}{Q:Fin->aA->Prop}(a:gens[d]?=I #[tt,iter,[],0])(b:gens[d+1]?=I #[Z,w,[],0])
  (h:wpAny M A (pyNext it) (λr g=>match r with
   |none=>Q (.done .next) g
   |some v=>wpAny M A (letOwnedTupleGo tt it v) (λj l=>dZ M A (assign tt env v) (λj m=>dZ M A (eval w env) (λx L=>foldedSetIterable w env x=pure x/\wpAny M A (pyIter x) (λR U=>
     eZ M A (.compStart (.ListComp q gens c pos) (d+1) R acc env) (λr W=>r=.ok .next/\Q (.again<|.compLoop (.ListComp q gens c pos) d it acc env) W) U) E L) E m) E l) E g) E s) :
  dZ M A (compTurn (.ListComp q gens c pos) d it acc env) Q E s:=by
 unfold compTurn;dsimp only;show(a)▸(b)▸?_;show ic<|aL<|dK (cW h) (λr g Y=>?_) λj j x=>x;induction r with
 |none=>show bB Y
 |some v=>show aL<|dK (cW Y) (λj l e=>aL<|dK e (λj m f=>aL<|bB ?_) λj j x=>x) λj j x=>x;rw[if_pos B];show aL<|dK f (λx L k=>ic ?_) λj j x=>x;obtain⟨i,k⟩:=k;rw[i];show aL<|bB<|aL<|bR<|dK (cW k) (λR U F=>aL<|vA (zD F λr W H=>?_) bh) λj j x=>x;obtain⟨rfl,H⟩:=H;show bB H
theorem Inv.adopt{g:G}(e:Inv b g){c:Addr}{H:Array aq}{ys:List P}(off:mz g [(c,fE H m)])(U:cC (PR b.W g.R) ys H.toList)(W:ys.length<=gr) :
  ∃q,q.s=g.s/\q.σ=g.σ.push (.list ys)/\Inv b q/\Le g q/\VR b.W q (.ref g.U.length) (.ref c):=by
 have h:=off _<|.head _;have M:(g.ρ++[c])[g.U.length]?=I c:=sB (e.len) jz;have L:Le g #[λx=>if x∈[c] then .led else g.R x,g.ρ++[c],#[g.loc,g.U++[.list ys]],sh g.s g.s.heap g.s.toks]:=
  #[λy Y z=>(if_neg λw=>by have z:=(h.1)▸(ah.mp w)▸z;cases z).trans z,kM _ _]
 obtain⟨f,L⟩:=e.Lc (as:=[c]) (os:=[.list ys]) g.s.toks B (bX.mpr #[ai,bV]) (all1<|⟨h.1,_,h.2⟩) (λa o Z z=>z) B (λj u d=>by
  induction j with
  |succ j=>show bh d
  |zero=>injection d with d;subst d;show#[c,H,m,#[M,if_pos<|.head _,h.2],W,F5.mono L.F U])
 show#[#[λx=>if x∈[c] then .led else g.R x,g.ρ++[c],#[g.loc,g.U++[.list ys]],sh g.s g.s.heap g.s.toks],rfl,rfl,f,L,c,M,rfl]
theorem G4{g:G}(q:∀p∈F.b.fm.tab,∀l,p.2=I l->l<F.b.fm.ds.length)(M:Inv (F.b.deep L C) g){E:aq->aA->Prop}{Q:aq->aA->Prop}{acc:aq}
  (w:∀c,Le g c->Inv F.b c->c.σ=g.σ.jU L.length->Q acc c.s):nU F.b.W F.A E az Q acc C (.ok .next) g.s:=by obtain⟨R,a⟩:=M.lr.ns C<|aG _<|.head _;show#[R,a,λh' H=>by obtain⟨e,d⟩:=M.pop q H g.s.toks;show w _ d e B]
abbrev Fr.deep(F:Fr)(c:Scope)(C:Addr)(g:Env):Fr:=#[F.b.deep (fb c) C,F.n,F.Γ,F.A,g,F.sc.deep c]
structure R8(F:Fr)(g g4:G)(scope)(C:_)(oS)(m:Nat):Prop where
 le:Le g g4
 OC:rU (F.deep scope C oS)
 wide:jv { F.sc with next:=F.sc.next+(fb scope).length } (F.b.fm.deep (fb scope) C) F.env
 low:∀p∈F.b.fm.tab,∀l,p.2=I l->l<F.b.fm.ds.length
 len:(fb scope).length=m
 inv:Inv (F.deep scope C oS).b g4
theorem CR{F:Fr}{el:Expr}{rest:List Comprehension}{c:Scope}{pos:Pos}{m:Nat}{it:E}(hg:gens=#[tt,iter,ifs,0]::rest)(hi:Ev it)
  {g:G}{X:XX}{K1:List P->St->Prop}{Q:aq->aA->Prop}{E:aq->aA->Prop}{use:Option<|aq->Sem Unit}
  (S:rU F) (w:uE F.sc c m=J) (ns:sS iter=J) (oi:lj F.b.W.K F.sc it iter=J) (I:Inv F.b g) (h:ev F.Γ X it g.σ λx σ=>bO (items σ.U x) λL=>K1 L<|σ.deep m) (hX:An F X E)
  (body:∀(L:List P) (U':G) (D) (W) (ad C) (d:Env),R8 F g U' c C d m->d.locals=C->mz U' ((ad,fE #[] 0)::D)->(((ad,fE #[] 0)::D).map (·.1)).Nodup->
   (∀{b2:Bs}{g2:G}{Q':aq->aA->Prop}{E':aq->aA->Prop},u0 U'.R g2.R->Inv b2 g2->mz g2 D->Q' W g2.s->wpAny F.M F.A (pyIter W) Q' E' g2.s)->jD F.b.W F.A tt W L U'.R D->K1 L U'.σ->
   eZ F.M F.A (.compStart (.ListComp el gens c pos) 0 W (.ref ad) d) (nU F.b.W F.A E use Q (.ref ad) C) U'.s) :
  dZ F.M F.A (comprehension (.ListComp el gens c pos) c F.env (firstIterPos gens pos) (newList []) (firstAsync gens) (firstIter gens F.env) use) Q E g.s:=by
 subst hg;have w:=Np w;obtain⟨cl,TP,Ze⟩:=B6 λx f=>by obtain⟨f1,f2,f3,i,f4⟩:=w.free x f;obtain⟨t1,t2⟩:=S.eo.vc x i f4 f2;obtain⟨a,ov,e1,_⟩:=I.lr.vc i x t1;show#[a,t2.trans e1]
 show y9 af (Ab ns F.env) TP w.kind (λx f e=>w.loc x.1 (by obtain⟨y,k⟩:=x;dsimp only at e;subst e;show f))<|hi S oi I h hX λv u g1 L1 I1 hu j=>bI j λL e hk=>((xy (target:=tt) S.ok.handled I1 hu e).2 _ _ λW g2 D st rr T=>(hd λΩ ω=>?_));obtain⟨I2,L2,_,n,off,nd⟩:=st;show ω ?_;show jT<|wpAny_newFunctionEnv w.noc (by intro y hy;simp at hy) (λi5 t Z=>?_) w.kind;dsimp only at t Z ⊢;generalize B:g2.s.heap.push { cls:=.type "list",dict:=az,data:=.seq ([]).toArray }=H2 at t Z ⊢;have hC:H2.objs.size=g2.s.heap.objs.size+1:=by rw[<- B,jJ]
 have Y:g2.s.heap.objs.size≠H2.objs.size:=by rw[hC];show aS<|bE _
 have below:∀b o,g2.get b=ae o->b≠H2.objs.size:=λb o e=>aS<|bS hC<|iS<|dF e;have old:=λb o e=>Z.extBut b o (below b o e)<|aQ _<|B▸aQ _ e;have fC:g2.get H2.objs.size=az:=by
  induction e:g2.get H2.objs.size with
  |none=>rfl
  |some o'=>show absurd af<|below _ _ e
 obtain⟨I3,z⟩:=I2.ac9 (g2.s.toks+0) w.nd fC t old;show body L _ D W g2.s.heap.objs.size H2.objs.size (compEnvC c cl H2.objs.size F.env) #[L1.trans<|L2.trans z,#[S.ok,S.eo.deep S.dl w Ze,?_,by change(F.b.fm.ds++[_]).length=F.sc.BG+1+1;rw[aj,S.dl];rfl,S.run,S.sm,S.gt,S.rz],S.eo.wide,λp U l e=>I.low U e,w.len,I3] af (λp U=>?_) (KO (λq hq e=>by have:=(off q hq).2;have this:=(e)▸this;cases (ie g2.s.heap).symm.trans this) nd)
  (λS' J' ahS=>rr (u0.trans z.F S') J' ahS) (jD.mono z.F T) (by rw[show g2.σ.deep (fb c).length=g1.σ.deep m by rw[n,w.len]];show hk)
 ·obtain⟨l,e0,L',j,h2,h3,H,h5,h7⟩:=S.fr;show#[l,e0,L',j,h2,h3,?_,h5,h7];change(F.b.fm.ds++[_]).head?=_;have H:F.b.fm.ds.head?=ae L':=H;induction q:F.b.fm.ds with
  |nil=>have H:=(q)▸H;cases H
  |cons a r=>rw[q]at H;show H
 ·rcases aC.mp U with rfl|U
  ·show#[(eO Y).trans<|I2.free<|ie _,(Z.extBut _ _ Y<|aQ _<|B▸br _ af)]
  ·show#[(eO<|below _ _ (off p U).2).trans (off p U).1,old _ _ (off p U).2]
def CompEnd(F:Fr)(g:G)(m:Nat)(c:Scope)(K0:V->St->Prop)(R:Addr->Addr->aA->Prop):Prop:=
 ∀(C q:Addr) (oS) (v) (g2),R8 F g g2 c C oS m->VR F.b.W g2 v (.ref q)->K0 v (g2.σ.jU m)->R q C g2.s
theorem LY(m:Nat){t it B elt:E}(W:Ev it)(Y:CG t)(Z:vh B)(a:Ev elt){F:Fr}{g:G}{X:XX}{K0:V->St->Prop}{Q:aq->aA->Prop}{E:aq->aA->Prop}{use:Option<|aq->Sem Unit}{H tt q:Expr}{ifs:List Expr}{c:Scope}{pos:Pos}
  (S:rU F) (d:uE F.sc c m=J) (ns:sS q=J) (e:lj F.b.W.K F.sc it q=J) (o1:xw F.b.W.K (F.sc.deep c) t tt=J) (o2:uB F.b.W.K (F.sc.deep c) B ifs=J) (o3:lj F.b.W.K (F.sc.deep c) elt H=J) (I:Inv F.b g) (h:ev F.Γ X (.comp m t it B elt) g.σ K0) (f:An F X E)
  (fin:CompEnd F g m c K0 λw C s'=>nU F.b.W F.A E use Q (.ref w) C (.ok .next) s') :
  dZ F.M F.A (comprehension (.ListComp H [#[tt,q,ifs,0]] c pos) c F.env (firstIterPos [#[tt,q,ifs,0]] pos) (newList []) (firstAsync [#[tt,q,ifs,0]]) (firstIter [#[tt,q,ifs,0]] F.env) use) Q E g.s:=by
 show CR (K1:=λL F'=>j0 (Bj F.Γ t B elt) L [] F' λys F'=>K0 (.ref F'.U.length)<|(F'.jU m).push<|.list ys) af W S d ns e I h f λL i D j w C R CI hC off nd k T l=>?_;have U':eZ F.M F.A (.compLoop (.ListComp H [#[tt,q,ifs,0]] c pos) 0 j (.ref w) R) (nU F.b.W F.A E use Q (.ref w) C) i.s:=
  yd af af Y Z a CI.OC o1 o2 o3 L T CI.inv off nd .nil (dU _) l λys g' Mg m' n o r v x y=>by
   show hd λΩ z=>?_
   obtain⟨g6,e1,e2,J',L',hv⟩:=o.adopt r v x
   show z ?_
   rw[<- e1]
   show fin C w R _ g6 #[CI.le.trans<|n.trans L',CI.OC,CI.wide,CI.low,CI.len,J'] hv<|by rw[e2];show y
 show uK af U'<|k (u0.refl _) CI.inv (λp U=>off p<|.tail _ U) U'
theorem UP(m:Nat){t it w elt:E}(n:Ev it)(l:CG t)(H:vh w)(M:Ev elt):Ev<|.comp m t it w elt:=λ{F x g X K0 Q E} S c p h R U=>
 LQ c λd tt f ifs q pos c=>aZ c λW c=>aZ c λns c=>aZ c λY c=>aZ c λo1 c=>aZ c λo2 o3=>by
 rw[eval_ListComp]
 show LY m n l H M S W ns Y o1 o2 o3 p h R λC i j v k CI Z a=>G4 CI.low CI.inv λb L o e=>U v _ b (CI.le.trans L) o (Z.mono L)<|bS (e)<|bS (CI.len) a
def Dd(g:gI)(w M F elt:E)(x:P)(acc:List P)(c:St)(k:List P->St->Prop):Prop:=
 asg g D3 w (.p x) c λc=>ev g D3 M c λH c=>bO (items c.U H) λq=>j0 (Bj g F .nil elt) q acc c k
theorem IV{g:G}(h:mz g (p::D))(nd:((p::D).map (·.1)).Nodup):mz (g.holds D) [p]:=λq c=>bS (ah.mp c)<|#[(Dt λw=>by obtain⟨z,H,e⟩:=dD.mp w;show(pL nd).1 z H e).trans (h _<|.head _).1,(h _<|.head _).2]
theorem DJ{F:Fr}{d:Nat}{k Q X:Expr}{w:Scope}{pos:Pos}{t1 t2 BU elt:E}(hg:gens[d]?=ae #[tt,iter,[],0])(y:gens[d+1]?=ae #[Q,X,[],0])(hg2:gens[d+1+1]?=az)
  (hT:CG t1) (hT2:CG t2) (hI2:Ev BU) (hE:Ev elt) (S:rU F) (o1:xw F.b.W.K F.sc t1 tt=J) (ns:sS X=J) (o2:lj F.b.W.K F.sc BU X=J) (o3:xw F.b.W.K F.sc t2 Q=J) (o4:lj F.b.W.K F.sc elt k=J) {B:Addr}{it:aq}{K0:List P->St->Prop}{R:fP->aA->Prop} :
  ∀(L:List P) {g:G}{D:List<|Addr×Obj}{m:Nat}{H:Array aq}{ys:List P},
  jD F.b.W F.A tt it L g.R D->Inv F.b g->mz g ((B,fE H m)::D)->(((B,fE H m)::D).map (·.1)).Nodup->cC (PR F.b.W g.R) ys H.toList->ys.length<=gr->j0 (Dd F.Γ t1 BU t2 elt) L ys g.σ K0->
  (∀a Y l n,Le g Y->Inv F.b Y->mz Y [(B,fE l n)]->cC (PR F.b.W Y.R) a l.toList->a.length<=gr->K0 a Y.σ->R (.ok .next) Y.s)->
  eZ F.M F.A (.compLoop (.ListComp k gens w pos) d it (.ref B) F.env) R g.s:=by
 intro L;induction L with
 |nil=>intro g D m H ys T I off nd hr hl h hq;show tM<|vg hg y<|F4 (tt:=tt) S I off nd T λs' J' e=>hq ys #[g.R,g.ρ,g.σ,s'] H m #[λ_ _ e=>e,bH _] J' (all1<|#[(off _<|.head _).1,e]) hr hl h
 |cons x r ih=>
  intro g D m H ys T I off nd hr hl h hq;show tM<|vg hg y<|C2 S I off nd T (λv s₁ i5=>i5) λv g1 U L1 e1 I1 TQ f hv T1=>?_;have W:=N6 S I1 TQ f;rw[<- e1]at h;show hT (F:=F.holds ((B,fE H m)::U)) (g:=g1.holds ((B,fE H m)::U)) (v:=.p x) W.OC o1 W.inv (hv.mono W.le.F) h UD λg2 L2 I2 h2=>hI2 (F:=F.holds ((B,fE H m)::U)) W.OC o2 I2 h2 UD λx2 u3 g3 L3 I3 hu3 h3=>#[Ab ns F.env _,?_];show bI h3 λxs2 e3 TA=>((xy (target:=Q) S.ok.handled I3 hu3 e3).2 _ _ λN8 o D2 i rr T2=>(hd λΩ ω=>?_));obtain⟨J5,L5,_,eσ,EN,nd5⟩:=i;obtain⟨J',L4,JX⟩:=W.back J5;show ω ?_;have d2:∀p∈D2,p.1∉((B,fE H m)::U).map (·.1):=λp C j=>by
   show gO j λq hq e=>?_;have h2:=(W.inv.base p.1);have i:(((F.b.holds ((B,fE H m)::U)).c.R0 p.1)).stable=J:=by
    have:∀{D:List<|Addr×Obj}{c:Cx},p.1∈D.map (·.1)->((c.holds D).R0 p.1).stable=J:=λ{D}=>by
     induction D with
     |nil=>intro c h;show cO h
     |cons z r ih=>
      intro c h;by_cases t:p.1=z.1
      ·change(rV _ z.1 (.fix z.2) p.1).stable=J;rw[t,fu];rfl
      ·change(rV _ z.1 (.fix z.2) p.1).stable=J;show bS (eO t)<|ih<|(aC.mp h).resolve_left t
    show this j
   have:=(J5.base p.1) i;rw[((EN p C).1)]at this;replace i:=(this)▸i;cases i
  have hd:∀p∈D2,(o.drops ((B,fE H m)::U)).R p.1=.iP:=λp C=>(if_neg<|d2 p C).trans (EN p C).1;have Z:=N6 S J' (λq hq=>JX q<|.tail _ hq) (pL f).2;have UH:mz ((o.drops ((B,fE H m)::U)).holds U) ((B,fE H m)::D2):=λq hq=>by
   rcases aC.mp hq with rfl|hq
   ·show IV JX f _<|.head _
   ·show#[(Dt λj=>d2 q hq<|tU _ j).trans<|hd q hq,(EN q hq).2]
  have nd6:=KO (λq hq e=>d2 q hq<|by rw[e];show .head _) nd5;have L6:=(W.le.trans<|L2.trans L3).trans<|L5.trans L4;have go:eZ F.M F.A (.compLoop (.ListComp k gens w pos) (d+1) N8 (.ref B) F.env) (λr Ke=>r=.ok .next/\(Code.compLoop (.ListComp k gens w pos) d it (.ref B) F.env).quiet=J/\eZ F.M F.A (.compLoop (.ListComp k gens w pos) d it (.ref B) F.env) R Ke) o.s:=by
   show yd (g:=(o.drops ((B,fE H m)::U)).holds U) y hg2 hT2 LP hE Z.OC o3 af o4 xs2 (jD.mono (L4.trans Z.le).F T2) Z.inv UH nd6 (F5.mono (L1.trans<|L6.trans Z.le).F hr) hl (by rw[<- eσ]at TA;show TA) λa Y l n L7 I7 afW hr7 hl7 hk7=>#[rfl,rfl,?_];obtain⟨J7,L8,agE⟩:=Z.back I7;have L9:=L6.trans<|Z.le.trans<|L7.trans L8;show ih (m:=n) (g:=Y.drops U) (jD.mono L9.F T1) J7 (λq hq=>?_) (KO (pL f).1 (pL f).2) (F5.mono L8.F hr7) hl7 hk7 λa Y l n L'=>hq a Y l n<|L1.trans<|L9.trans L';rcases aC.mp hq with rfl|hq
   ·have:=afW _<|.head _;show#[(if_neg λj=>?_).trans this.1,this.2];show gO j λz t e=>((pL f).1 z t e)
   ·show agE q hq
  show uK y go<|rr (g2:=(o.drops ((B,fE H m)::U)).holds U) (L4.trans Z.le).F Z.inv (λq hq=>UH q<|.tail _ hq) go
theorem Qw(m:Nat){F' H w R elt:E}(i:Ev w)(U':Ev R)(j:CG F')(W:CG H)(k:Ev elt):Ev<|.FU m F' w H R elt:=λ{F x g X K0 Q E} S c I h l n=>
 SA c λo tt r t Y q pos c=>aZ c λv c=>aZ c λns c=>aZ ns λZ a=>aZ c λy c=>aZ c λo1 c=>aZ c λo2 c=>aZ c λo3 o4=>by
 rw[eval_ListComp]
 show CR (K1:=λL B=>j0 (Dd F.Γ F' R H elt) L [] B λys B=>K0 (.ref B.U.length)<|(B.jU m).push<|.list ys) af i S v Z y I h l λL z D K d C oS CI hC off nd rr T hk=>?_
 have e:eZ F.M F.A (.compLoop (.ListComp o [#[tt,r,[],0],#[t,Y,[],0]] q pos) 0 K (.ref d) oS) (nU F.b.W F.A E az Q (.ref d) C) z.s:=
  DJ af af af j W U' k CI.OC o1 a o2 o3 o4 L T CI.inv off nd .nil (dU _) hk λys g' Mg m' L2 I5 EN hr hl TA=>by
   show hd λΩ ω=>?_
   obtain⟨g6,e1,e2,J,L',hv⟩:=I5.adopt EN hr hl
   show ω<|(e1)▸(G4 CI.low J λg7 f J7 e7=>n _ _ g7 (CI.le.trans<|L2.trans<|L'.trans f) J7 (hv.mono f)<|by rw[e7,CI.len,e2];show TA)
 show uK af e<|rr (u0.refl _) CI.inv (λp U=>off p<|.tail _ U) e
theorem Tz{g:G}{h:List<|Option V}{vs:List<|Option aq}(r:cC (OV W g) h vs):∀{L:List P},jr (λv=>v.bind V.p?) h=I L->∃c,vs=c.map I/\cC (PR W g.R) L c:=by
 induction r with
 |nil=>intro L q;obtain rfl:=aV q;show#[[],rfl,.nil]
 |@cons x y H a F _ e=>
  intro L q;show fB q λz i f=>(mS f λb M U=>sB U<|fB (i) λw d Y=>?_);obtain rfl:=V.ju Y;subst d;obtain⟨c,rfl,Z⟩:=e M;induction y with
  |none=>show F.elim
  |some y=>show#[y::c,rfl,.cons F Z]
theorem Tw{g:G}(I:Inv b g){v:V}{u:aq}{loc:List<|Option V}{k:V->St->Prop}(d:VR b.W g v u)(h:Yw #[loc,g.U] v k):∃w l,Le g w/\Inv b w/\w.s=g.s/\w.loc=g.loc/\VR b.W w l u/\k l #[loc,w.U]:=by
 cases v with
 |p x=>show h.elim
 |ref i=>
  obtain⟨o,M,h⟩:=qS h;induction o with
  |list L=>
   show hd λm W=>?_;obtain⟨⟨t,ys,n,f,A,r⟩,a,rfl,e⟩:=I.obj d M;cases e.symm.trans f.1
   show W ?_;obtain⟨J,L'⟩:=I.turn (R':=rV g.R a<|.fz<|fE ys n) (o':=.gone) g.s.toks M (λh=>by cases h) (.inl rfl) (λc U=>#[eO λy=>U i (.head _)<|by rw[y];show f.1,λo _ z=>z])
    (λj hj c U=>by rw[ah.mp hj,f.1]at U;obtain rfl:=aV U;show#[f.2.1,by rw[fu];rfl,bS (fu) f.2.2]) af trivial
   show#[_,.p<|.lst L,L',J,rfl,rfl,.lst fu A<|F5.mono L'.F r,h]
  |inst c X=>
   show hd λm W=>?_;obtain⟨L,C,h⟩:=qS h;obtain⟨⟨t,Y,D,K,n,vs,B,H,Q,f,r⟩,a,rfl,e⟩:=I.obj d M;cases e.symm.trans B.1
   have Z:a≠Y:=λz=>by have:=B.2.2.symm.trans<|bS z H.2.2;cases this
   obtain⟨J,L'⟩:=I.turn (R':=rV (rV g.R Y<|.fz<|dictOf K n) a<|.fz #[.ref c,ae Y,.plain,D]) (o':=.gone) g.s.toks M (λh=>by cases h) (.inr #[.inr rfl,Q])
    (λz q=>#[(eO λy=>q i (.head _)<|by rw[y];show B.1).trans<|eO λy=>q (i+1) (.tail _<|.head _)<|(y)▸H.1,λo _ z=>z])
    (λj hj z q=>by
     rcases aC.mp hj with rfl|hj
     ·cases B.1.symm.trans q;show#[B.2.1,by rw[fu];rfl,bS (fu) B.2.2]
     ·replace q:=(ah.mp hj)▸q
      cases H.1.symm.trans q;show#[H.2.1,by rw[eO<|Ne.symm Z,fu];rfl,by rw[eO<|Ne.symm Z,fu];show H.2.2]) af trivial
   obtain⟨ws,rfl,T⟩:=Tz r C;show W<|#[_,.p<|.inst c L,L',J,rfl,rfl,.inst fu ((eO<|Ne.symm Z).trans fu) f<|F5.mono L'.F T,h]
  |_=>show h.elim
theorem ae1{e:E}(w:Ev e):Ev<|.fz e:=λ{F x g X K0 Q E} S f j h d H=>w S f j h d λv u g1 i L M R=>by
 obtain⟨c,q,U,W,Y,Z,a,b⟩:=Tw L M R
 show(Y)▸(H q u c (i.trans U) W a<|show K0 q #[c.loc,c.U]by rw[Z];show b)
end
section
theorem B9:PlainAttrs "bytearray":=
 #[#["bytearray.__getattribute__",by rw[dJ,ck];kernel_rfl,by decide +kernel],by rw[dJ,ck];kernel_rfl]
theorem Az:Manifest.owners.lookup (String.ofList ['y', 'a', 'r', 'r', 'a', 'e', 't', 'y', 'b'].reverse)=I Manifest.sig_bytearray:=by kernel_rfl
theorem rC:Slot "bytes" "join" "bytes.join":=
 .of (owner:="bytes") (n:="join") (by rw[dJ,ck];kernel_rfl) (by decide +kernel) (by decide +kernel) (by decide +kernel)
  (by first|show .inl (by decide +kernel) | show .inr<|by decide +kernel) (by rw[m9];kernel_rfl)
theorem yQ:typeOf (.builtin "bytes.join")=pure (.type "method_descriptor"):=by change builtinType _=_;show(yc)▸?_;kernel_rfl
theorem xH:entryFor table "bytes.join" = I Builtin.«bytes.join»:=ku<|by kernel_rfl
theorem yM(a b:aq):argsOk "bytes.join" #[[a,b],[]]:=by unfold argsOk;rw[oj (id:="bytes.join") (n:=['n', 'i', 'o', 'j']) (by kernel_rfl) Dg];kernel_rfl
theorem jO:Slot "bytes" "split" "bytes.split":=
 .of (owner:="bytes") (n:="split") (by rw[dJ,ck];kernel_rfl) (by decide +kernel) (by decide +kernel) (by decide +kernel)
  (by first|show .inl (by decide +kernel) | show .inr<|by decide +kernel) (by rw[m9];kernel_rfl)
theorem qz:typeOf (.builtin "bytes.split")=pure (.type "method_descriptor"):=by change builtinType _=_;show(yc)▸?_;kernel_rfl
theorem pQ:entryFor table "bytes.split" = I Builtin.«bytes.split»:=ku<|by kernel_rfl
theorem xj(a b:aq):argsOk "bytes.split" #[[a,b],[]]:=by unfold argsOk;rw[oj (id:="bytes.split") (n:=['t', 'i', 'l', 'p', 's']) (by kernel_rfl) Dg];kernel_rfl
theorem vn(a:aq):argsOk "bytes.split" #[[a],[]]:=by unfold argsOk;rw[oj (id:="bytes.split") (n:=['t', 'i', 'l', 'p', 's']) (by kernel_rfl) Dg];kernel_rfl
theorem oA:Slot "bytearray" "append" "bytearray.append":=
 .of (owner:="bytearray") (n:="append") (by rw[dJ,ck];kernel_rfl) (by decide +kernel) (by decide +kernel) (by decide +kernel)
  (by first|show .inl (by decide +kernel) | show .inr<|by decide +kernel) (by rw[m9];kernel_rfl)
theorem Bf:typeOf (.builtin "bytearray.append")=pure (.type "method_descriptor"):=by change builtinType _=_;show(yc)▸?_;kernel_rfl
theorem zb:entryFor table "bytearray.append" = I Builtin.«bytearray.append»:=ku<|by kernel_rfl
theorem A5(a b:aq):argsOk "bytearray.append" #[[a,b],[]]:=by unfold argsOk;rw[oj (id:="bytearray.append") (n:=['d', 'n', 'e', 'p', 'p', 'a']) (by kernel_rfl) Az];kernel_rfl
theorem vP:Slot "bytearray" "__iadd__" "bytearray.__iadd__":=
 .of (owner:="bytearray") (n:="__iadd__") (by rw[dJ,ck];kernel_rfl) (by decide +kernel) (by decide +kernel) (by decide +kernel)
  (by first|show .inl (by decide +kernel) | show .inr<|by decide +kernel) (by rw[m9];kernel_rfl)
theorem Ce:entryFor table "bytearray.__iadd__" = I Builtin.«bytearray.__iadd__»:=ku<|by kernel_rfl
theorem EH(a b:aq):argsOk "bytearray.__iadd__" #[[a,b],[]]:=by unfold argsOk;rw[oj (id:="bytearray.__iadd__") (n:=['_', '_', 'd', 'd', 'a', 'i', '_', '_']) (by kernel_rfl) Az];kernel_rfl
end
variable{fI:Addr}{c:Array UInt8}{ps:List (List UInt8)}{body:List Stmt}{dv ws:List aq}{p1:Pos}{Γ:gI}{fd:i8}
section
open Builtin
section
variable {E:aq->aA->Prop}{b:Array UInt8}{u:Tok}
theorem xM:typeLookup (.type "bytes") "__bytes__" = pure (I<|.builtin "bytes.__bytes__"):=by rw[dJ,ck];kernel_rfl
theorem yP(h:Q (.bytes b t) s):codeAny W.M A (.call (.builtin "bytes.__new__") #[[.type "bytes",.bytes b t],[]]) (wants Q E) s:=by
 show Fi ?_;change wpAny _ A.in1 (do checkBuiltinCall "bytes.__new__" #[[.type "bytes",.bytes b t],[]];again<|.builtin "bytes.__new__" #[[.type "bytes",.bytes b t],[]]) _ _ s;show ao<|dh (afq _)<|aF #[oh Fb _,lQ F.bm_entry ?_];show(iH Fb _)▸?_;show ao<|dh B ?_;show fY B ?_;show ao<|dh F.bm_sub ?_;show fY B ?_;show ao<|dh (F.bm_bind _) ?_;show ao<|dh B ?_;show ao<|dh B ?_;show fY B ?_;show ao<|iX (d8 s b t) xM ?_;show ao<|nR ?_;show ao<|i9 (d8 s b t) ?_;show iB (by decide)<|iB (by decide) ?_;first
  |show aF h
  |show ao<|aF<|aF h
theorem uq{x:aq}(h:codeAny W.M A.in1 (.call (.builtin "bytes.__new__") #[[.type "bytes",x],[]]) (wants (λobj g=>g.TypeIs obj "bytes" /\ Q obj g) E) s):wpAny W.M A (call (.type "bytes") [x]) Q E s:=
 afw Og (F.bm_typeCall _) F.entry_object_init h λobj g q=>#[q.1,F.args_object_init_2 obj _,object_init_meets Og.init.lookup Og.made (by decide) W.prog W.w A.in1 _ g #[q.1,rfl,q.2]]
theorem xO(h:Q (.bytes b t) s):wpAny W.M A (call (.type "bytes") [.bytes b t]) Q E s:=uq<|yP #[d8 _ _ _,h]
noncomputable abbrev Bm(b:Array UInt8):Obj:={ cls:=.type "bytearray",data:=.bytearray b 0 }
theorem BV:typeLookup (.type "bytearray") "__bytes__" = pure az:=by rw[dJ,ck];kernel_rfl
theorem Ca:typeLookup (.type "bytearray") "__index__" = pure az:=by rw[dJ,ck];kernel_rfl
theorem ou:typeLookup (.type "bytearray") "__buffer__" = pure (I<|.builtin "bytearray.__buffer__"):=by rw[dJ,ck];kernel_rfl
theorem yO:typeLookup (.type "bytearray") "__release_buffer__" = pure (I<|.builtin "bytearray.__release_buffer__"):=by rw[dJ,ck];kernel_rfl
theorem Ji:isSubtype (.type "bytearray") (.type "bytearray")=pure J:=by rw[m9];kernel_rfl
theorem mJ(h:s.heap.get? a=I (Bm b)):s.TypeIs (.ref a) "bytearray":=#[_,h,rfl]
theorem Qp(h:s.heap.get? a=I (Bm b)){n:String}{id:String}(g:typeLookup (.type "bytearray") (n:acS)=pure (I<|.builtin id))(w:id.endsWith ("." ++ n)=J)(hd:id.dropRight (n.length+1) = "bytearray"){Q:Bool->aA->Prop}(q:Q J s) :
  wpAny W.M A (Bytes.slotIsOwn (.ref a) n) Q E s:=by show ao<|iX (mJ h) g ?_;dsimp only;rw[w];show bS (hd) ?_;show acu (mJ h) Ji q
theorem Bq(h:s.heap.get? a=I (Bm b)){Q:Bool->aA->Prop}(q:Q au s):wpAny W.M A (Bytes.ownRelease<|.ref a) Q E s:=ao<|Qp h yO (by decide +kernel) (by decide +kernel)<|aF q
theorem AB(h:s.heap.get? a=I (Bm b)){Q:Array UInt8->aA->Prop}(q:Q b s):wpAny W.M A (Us<|.ref a) Q E s:=ao<|ao<|j8 h<|aF<|aF q
theorem MH(h:s.heap.get? a=I (Bm b)){id:String}{full:Bool}{Q:Option (Array UInt8)->aA->Prop}(q:Q (I b) s):wpAny W.M A (Cs id (.ref a) full) Q E s:=by show ao<|iX (mJ h) ou ?_;show ao<|Qp h ou (by decide +kernel) (by decide +kernel) ?_;show fY B ?_;show ao<|iX (mJ h) ou ?_;show ao<|Bq h<|ao<|AB h<|aF q
theorem EF(h:s.heap.get? a=I (Bm b))(g:b.size<=sizeLine)(q:∀t,Q (.bytes b t) { s with toks:=s.toks+1 }):codeAny W.M A (.call (.builtin "bytes.__new__") #[[.type "bytes",.ref a],[]]) (wants Q E) s:=by
 show Fi ?_;change wpAny _ A.in1 (do checkBuiltinCall "bytes.__new__" #[[.type "bytes",.ref a],[]];again<|.builtin "bytes.__new__" #[[.type "bytes",.ref a],[]]) _ _ s;show ao<|dh (afq _)<|aF #[oh Fb _,lQ F.bm_entry ?_];show(iH Fb _)▸?_;show ao<|dh B ?_;show fY B ?_;show ao<|dh F.bm_sub ?_;show fY B ?_;show ao<|dh (F.bm_bind _) ?_;show ao<|dh B ?_;show ao<|dh B ?_;show fY B ?_;show ao<|iX (mJ h) BV ?_;show ao<|ao ?_;show ao<|j8 h ?_;show aF<|aF ?_;show fY B ?_;show ao<|iX (mJ h) Ca ?_;show iB B ?_;first
  |change wpAny _ _ (Cs "bytes.__new__" (.ref a) J>>=_) _ _ _
  |(show ao ?_;change wpAny _ _ (Cs "bytes.__new__" (.ref a) J>>=_) _ _ _)
 show ao<|MH h ?_;show ao<|nR ?_;show ao<|Kq ?_ g;show iB (by decide) ?_;first
  |show aF<|q _
  |show ao<|aF<|aF<|q _
theorem Cm(h:s.heap.get? a=I (Bm b))(g:b.size<=sizeLine)(q:∀t,Q (.bytes b t) { s with toks:=s.toks+1 }):wpAny W.M A (call (.type "bytes") [.ref a]) Q E s:=
 uq (EF h g λt=>#[d8 _ _ _,q t])
end
theorem Qg:mroOf (.type "bytearray")=pure [.type "bytearray",.type "object"]:=by rw[mroOf_type];kernel_rfl
theorem BX:typeLookup (.type "bytearray") "__new__" = pure (I<|.builtin "bytearray.__new__"):=by rw[dJ,ck];kernel_rfl
theorem Wx:aci (.type "bytearray")=pure (I "bytearray.__new__"):=madeBy_type Qg BX<|by decide +kernel
theorem GB:checkTypeCall "bytearray" #[[],[]]=pure ():=by kernel_rfl
theorem Ih:checkBuiltinCall "bytearray.__new__" #[[.type "bytearray"],[]]=pure ():=by kernel_rfl
theorem Ei:entryFor table "bytearray.__new__" = I Builtin.«list.__new__»:=entryFor_alias (id':="list.__new__") (by kernel_rfl) B (by decide +kernel)<|by kernel_rfl
theorem ve:plainId "bytearray.__new__" = J:=by decide +kernel
theorem q9:Slot "bytearray" "__init__" "bytearray.__init__":=
 .of (owner:="bytearray") (n:="__init__") (by rw[dJ,ck];kernel_rfl) (by decide +kernel) (by decide +kernel) (by decide +kernel)
  (by first|show .inl (by decide +kernel) | show .inr<|by decide +kernel) (by rw[m9];kernel_rfl)
theorem Ci:entryFor table "bytearray.__init__" = I Builtin.«bytearray.__init__»:=ku<|by kernel_rfl
theorem EU(a:aq):argsOk "bytearray.__init__" #[[a],[]]:=by unfold argsOk;rw[oj (n:=['_', '_', 't', 'i', 'n', 'i', '_', '_']) (by kernel_rfl) Az];kernel_rfl
set_option maxRecDepth 1000000 in
set_option maxHeartbeats 4000000 in
theorem Ea:("bytearray.__new__".splitOn ".__new__").headD "" = "bytearray":=by simp +decide [String.splitOn,String.splitOnAux]
theorem WK:uT "bytearray.__init__" "bytearray" ["source", "encoding", "errors"] [] []=pure [az,az,az]:=by kernel_rfl
theorem Na:((Mk "bytearray").bind (·.mro.findSome? λt=>(Mk t).bind λb=>if b.noNew then I J else if b.attrs.any (·.1=="__new__") then I au else az)).getD au=au:=by decide +kernel
section
variable {E:aq->aA->Prop}{b:Array UInt8}{u:Tok}
theorem Cb{M:ir}{c:Bool}{a b:Sem α}{Q:α->aA->Prop}(g:c=au)(h:dZ M A b Q E s):dZ M A (if c=J then a else b) Q E s:=by subst g;show h
theorem ad0{M:ir}{c:Bool}{a b:Sem α}{Q:α->aA->Prop}(g:c=J)(h:dZ M A a Q E s):dZ M A (if c=J then a else b) Q E s:=by subst g;show h
theorem GG{Q₁:aq->aA->Prop}(h:Q₁ (.ref s.heap.objs.size) { s with heap:=s.heap.push (Bm #[]) }) :
  codeAny W.M A (.call (.builtin "bytearray.__new__") #[[.type "bytearray"],[]]) (wants Q₁ E) s:=by
 show Fi ?_
 change wpAny _ A.in1 (do checkBuiltinCall "bytearray.__new__" #[[.type "bytearray"],[]];again<|.builtin "bytearray.__new__" #[[.type "bytearray"],[]]) _ _ s
 show ao<|dh Ih<|aF #[oh ve _,codeAny_builtin_stack Ei B λp w=>?_]
 show(iH ve _)▸?_
 have q:=Ji
 obtain⟨R,g,d,F,H⟩:=s
 simp only[Ea]
 wp_walk
 show h
theorem Tc{id:String}(h:guardIds.contains id=J):(Code.builtin id args).isGuard=J:=h
theorem VA{id:String}{pos:List aq}{q:List<|acS×aq}{p:Pos}{self:aq}(w:id≠"bytearray.__contains__")(M:id≠"bytearray.__mod__")(F:id≠"bytearray.__rmod__")(H:id≠"_struct.pack_into.held")(a:id≠"bytearray.find.held")(R:gj.contains id=au) :
  wK (λZ=>Bool) (Code.builtin id #[pos,q],p) (λv Z Z Z=>j6 v self) (λv Z Z Z=>j6 v self) (λZ v Z Z Z=>j6 v self) (λv Z Z Z=>j6 v self) (λZ Z g Z Z=>g.any<|j6 self) (λid v Z Z Z=>j6 v self&&gj.contains id) (λZ=>au)=au:=by
 delta wK;show(dif_neg w).trans<|(dif_neg M).trans<|(dif_neg F).trans<|(dif_neg H).trans<|(dif_neg a).trans ?_;induction pos with
 |nil=>rfl
 |cons v r=>change(j6 v self&&gj.contains id)=au;rw[R,tP]
theorem Od{l:List α}{f:α->Bool}(h:∀x∈l,f x=au):l.any f=au:=by
 induction l with
 |nil=>rfl
 |cons x r g=>rw[iU,h x<|.head _,g λy q=>h y<|.tail _ q];rfl
theorem JK(H:A.guards=I []){self:aq}{Q:Bool->aA->Prop}(h:Q au s):dZ W.M A (Bw self) Q E s:=λΓ p b g=>by
 unfold Bw
 unfold stack
 rw[acf,Sem.wp_stack]
 change Q (((Γ.code,p)::Γ.below).any _) s
 have a:∀x∈(Γ.code,p)::Γ.below,yr x.1=J/\x.1.isGuard=au:=by
  have e:=b.2.2.2.1 [] H
  have d:=(jj.mp e).1
  intro x hx
  rcases aC.mp hx with rfl|hx
  ·show#[g.1,?_]
   induction q:Γ.code.isGuard with
   |false=>rfl
   |true=>unfold acj at d;have d:=(if_pos q)▸d;show zB d
  ·show#[g.2 x hx,?_]
   have:=jk.mp ((jj.mp e).2) x.1<|fQ hx
   simpa using this
 rw[Od]
 ·show h
 ·intro x hx
  obtain⟨g1,F⟩:=a x hx
  obtain⟨c,U⟩:=x
  dsimp only at g1 F
  induction c with
  |builtin L args=>
   have w:∀n:String,guardIds.contains n=J->L≠n:=λn R e=>by have F:=(Tc R)▸(e)▸F;show vZ F
   show VA (w _<|by decide +kernel) (w _<|by decide +kernel) (w _<|by decide +kernel) (w _<|by decide +kernel) (w _<|by decide +kernel)<|gH g1
  |_=>rfl
theorem CJ(g:A.guards=I [])(h:s.heap.get? a=I (Bm b)){Q:Bool->aA->Prop}(q:Q au s):dZ W.M A (Bw (.ref a)<||> do return (<- Bytes.exportsOf (.ref a)) > 0) Q E s:=by show aL<|JK g ?_;show cW<|ao<|ao<|j8 h<|aF<|aF q
theorem Hf(g:A.guards=I [])(h:s.heap.get? a=I (Bm b)){Q:Unit->aA->Prop}(q:Q () s):dZ W.M A (Bytes.checkResize<|.ref a) Q E s:=aL<|CJ g h<|bB q
theorem xC(h:s.heap.get? a=I (Bm b)){f:Array UInt8->Array UInt8}(w:(f b).size<=sizeLine){Q:Unit->aA->Prop}(q:∀h',h'.get? a=I (Bm<|f b)->eW a s.heap h'->Q () { s with heap:=h' }) :
  wpAny W.M A (Bytes.write (.ref a) f) Q E s:=by
 change wpAny _ _ (updateBytearray a f) _ _ _
 show ao<|j8 h ?_
 show ao<|wpAny_update h ?_
 have g:=iF (Obj.mapBytearray f) h B
 show CB g ?_<|q _ g<|Heap.SameBut.update ..
 change(if (f b).size > sizeLine then I "bytearray:memory" else az)=az
 rw[if_neg<|by lia]
theorem GD(g:A.guards=I [])(h:s.heap.get? a=I (Bm b)){i:Int}(F:0<=i)(H:i<256)(w:b.size+1<=sizeLine)(q:∀h',h'.get? a=I (Bm<|b.push i.toNat.toUInt8)->eW a s.heap h'->Q .none { s with heap:=h' }) :
  dZ W.M A (call (.builtin "bytearray.append") [.ref a,.int i t]) Q E s:=by
 show oB<|kg (by change(!(gj.contains "bytearray.append"))=J;decide +kernel) oA.plain zb<|oA.check _ _ _ _ _ _ _ _ (mJ h) (A5 _ _) ?_
 change dZ _ _ (Bytes.byteValue (.int i t)>>=_) _ _ s
 show aL<|cW ?_
 show ao<|dh (rfl) ?_
 show fY (by lia)<|aF ?_
 show aL<|Hf (A:=A.in1) g h ?_
 show aL<|cW<|xC h (by rw[Array.size_push];show w) λh' e R=>?_
 show bB<|q h' e R
theorem vS:typeLookup (.type "bytearray") (dunderI "add")=pure (I<|.builtin "bytearray.__iadd__"):=by rw[dJ,ck];kernel_rfl
theorem GQ:typeLookup (.type "bytearray") (PySem.dunder "add")=pure (I<|.builtin "bytearray.__add__"):=by rw[dJ,ck];kernel_rfl
theorem EY:typeLookup (.type "bytearray") (dunderR "add")=pure az:=by rw[dJ,ck];kernel_rfl
theorem Nr:fillsNumberSlot (.type "bytearray") "add" = pure au:=PySem.fillsNumberSlot_seq GQ (by decide +kernel) EY B
theorem aad:seqSlot? (.type "bytearray") (dunderI "add")=pure (I<|.builtin "bytearray.__iadd__"):=PySem.seqSlot_of vS<|by decide +kernel
theorem QO:fillsInplaceSlot (.type "bytearray") "add" (Operator.Add==.Add)=pure au:=by change(typeLookup (.type "bytearray") (dunderI "add")>>=λg=>pure<|g.isSome&&!isSeqSlot g)=pure au;rw[vS];change(pure (J&&!isSeqSlot (I<|.builtin "bytearray.__iadd__")):Sem Bool)=pure au;rw[show isSeqSlot (I<|.builtin "bytearray.__iadd__")=J from by decide +kernel];rfl
theorem Ae{id:String}{Q:Option (Array UInt8×Option aq)->aA->Prop}(q:Q (I (c,az)) s):wpAny W.M A (Fc id (.bytes c u) 0) Q E s:=by show ao<|wpAny_attempt ?_;show ao<|dh (Xy Ut) ?_;show ao<|dh KBy.own_buffer ?_;show fY B ?_;show ao<|dh (Xy Ut) ?_;show ao<|dh Zj<|aF<|aF q
theorem NU(F:A.guards=I [])(h:s.heap.get? a=I (Bm b))(H:b.size+c.size<=sizeLine)(q:∀h',h'.get? a=I (Bm<|b++c)->eW a s.heap h'->Q (.ref a) { s with heap:=h' }) :
  dZ W.M A (inplaceOp .Add (.ref a)<|.bytes c u) Q E s:=by
 show bR ?_
 show aL<|cW<|i9 (mJ h) ?_
 show aL<|Dl QO<|bB ?_
 show Cb B ?_
 show aL<|cW ?_
 ·change wpAny _ _ (binaryOp1 "add" (.ref a)<|.bytes c u) _ _ _
  show ao<|i9 (mJ h)<|ao<|i9 (d8 s c u)<|ao<|dh Nr ?_
  show ao<|dh KBy.noFill_bytes_add ?_
  show aF ?_
  show aL<|Dl aad<|bB ?_
  show aL<|Jx ?_
  show oB<|kg (by change(!(gj.contains "bytearray.__iadd__"))=J;decide +kernel) vP.plain Ce<|vP.check _ _ _ _ _ _ _ _ (mJ h) (EH _ _) ?_
  change dZ _ _ (Fc "bytearray.__iadd__" (.bytes c u) 0>>=_) _ _ s
  show aL<|cW<|Ae ?_
  have tail:∀{w:gD->aA->Prop}{f:aq->aA->Prop},(∀h',h'.get? a=I (Bm<|b++c)->eW a s.heap h'->w (.done<|.ret<|.ref a) { s with heap:=h' })->dZ W.M A.in1 (do
    if uw ((<- Us (.ref a)).size+c.size) then unsupported "bytearray.__iadd__:memory"
    Bytes.write (.ref a) (·++c)
    ret (.ref a):Sem gD) w f s:=λd=>by
   show aL<|cW<|AB h ?_
   have z:uw (b.size+c.size)=au:=by unfold uw;simp;omega
   show bS (z) ?_
   show aL<|cW<|xC h ((Array.size_append)▸H) λh' e g=>?_
   show bB<|d h' e g
  change dZ _ _ (if (!c.isEmpty)=J then _ else _) _ _ s
  by_cases R:c.isEmpty=J
  ·rw[R]
   show Cb B<|tail λh' e g=>q h' e g
  ·rw[show(!c.isEmpty)=J by simpa using R]
   show ad0 B<|Cb B ?_
   show aL<|Hf (A:=A.in1) F h<|tail λh' e g=>q h' e g
theorem abJ(c:A.guards=I [])(q:∀h',h'.get? s.heap.objs.size=I (Bm #[])->(∀b o,s.heap.get? b=I o->h'.get? b=I o)->Q (.ref s.heap.objs.size) { s with heap:=h' }):dZ W.M A (call (.type "bytearray") []) Q E s:=by
 show oB<|jL B ?_;show bB #[kO _<|by decide +kernel,qT (by change(!(gj.contains "type.__call__"))=J;decide +kernel) F.entry_type_call ?_];rw[bC.under_plain (weight_type_call_type "bytearray" [] []) B];unfold Builtin.«type.__call__»;show Cb (by decide)<|Cb Na ?_;show aL<|Dl GB<|bB ?_;show aL<|Dl Qg<|bB ?_;show Cb B ?_;show aL<|Dl Wx<|bB ?_;show aL<|bB ?_;show aL<|bR<|cW<|XJ<|codeAny_mono (GG (Q₁:=λv s'=>v=.ref s.heap.objs.size/\s'={ s with heap:=s.heap.push (Bm #[]) }) (E:=λZ Z=>False) #[rfl,rfl]) λr g R=>?_;induction r with
 |error e=>show kq R
 |ok fl=>
  induction fl with
  |ret v=>obtain⟨rfl,rfl⟩:v=.ref s.heap.objs.size/\g={ s with heap:=s.heap.push (Bm #[]) }:=R;have w:(s.heap.push<|Bm #[]).get? s.heap.objs.size=I (Bm #[]):=br _ B;have H:({ s with heap:=s.heap.push (Bm #[]) }:aA).TypeIs (.ref s.heap.objs.size) "bytearray":=#[_,w,rfl];show aL<|cW<|acu H Ji ?_;show Cb B ?_;show aL<|bR ?_;show aL<|cW<|iX H q9.lookup ?_;show bR<|aL<|bB<|aL ?_;show oB<|kg (by change(!(gj.contains "bytearray.__init__"))=J;decide +kernel) q9.plain Ci<|q9.check _ _ _ _ _ _ _ _ H (EU _) ?_;show aL<|cW<|Bq w ?_;show Cb B ?_;show aL<|Dl WK<|bB ?_;show aL<|bB<|aL<|bB ?_;show aL<|CJ (A:=A.in1.in1) c w ?_;show Cb B ?_;show aL<|cW<|xC w (dU _) λh' a L=>?_;show bB<|bB<|Cb (by decide) ?_;show bB<|q h' a λb o e=>?_;show(L.2 b<|aS<|dF e).trans<|aQ _ e
  |_=>show kq R
end
section
variable {E:aq->aA->Prop}{b:Array UInt8}{u:Tok}
theorem PE{M:ir}{f:α->β->Sem (ForInStep β)}(H:List α->β->aA->Prop){Q:β->aA->Prop}(step:∀x r b s,H (x::r) b s->wpAny M A (f x b) (λq s'=>∃g,q=.yield g/\H r g s') E s)
  (fin:∀b s,H [] b s->Q b s):∀(l:List α) (b) (s),H l b s->wpAny M A (forIn l b f) Q E s:=by
 intro l;induction l with
 |nil=>intro b s h;rw[List.forIn_nil];show aF<|fin b s h
 |cons x r w=>intro b s h;rw[fG];show ao<|lX (step x r b s h) (λq s' h'=>?_) λZ Z e=>e;obtain⟨g,rfl,h'⟩:=h';show w g s' h'
theorem sM{l:Addr}{vs:Array aq}(h:s.heap.get? l=I (fE vs m)){Q:Option (Array aq)->aA->Prop}(q:Q (I vs) s):wpAny W.M A (seqItems?<|.ref l) Q E s:=ao<|j8 h<|aF q
abbrev vX(vs:List aq)(ps:List<|List UInt8):Prop:=cC (λ(p:List UInt8) v=>∃t,v=aq.bytes p.toArray t) ps vs
theorem vX.len{vs:List aq}(h:vX vs ps):vs.length=ps.length:=(cC.len h).symm
theorem vX.at{vs:List aq}{p:List UInt8}(h:vX vs ps)(e:ps[i]?=I p):∃t,vs[i]?=I (.bytes p.toArray t):=by obtain⟨v,e,t,rfl⟩:=cC.get h e;show#[t,e]
noncomputable def DC(sep:List UInt8)(ps:List<|List UInt8):List UInt8:=(Bytes.joined sep.toArray<|ps.map wL).toList
theorem MC(sep:List UInt8):∀(ps:List<|List UInt8) (k:Nat) (g:Array UInt8),(((ps.map wL).zipIdx<|k+1).foldl (λg (p:Array UInt8×Nat)=>(if p.2 > 0 then g++sep.toArray else g)++p.1) g).toList=g.toList++ps.flatMap λp=>sep++p:=by
 intro ps;induction ps with
 |nil=>intro k g;simp
 |cons p ps q=>intro k g;rw[bK,OM,gv,q<|k+1];simp
theorem yy(sep:List α)(x:List α)(r:List<|List α):eg sep (x::r)=x++r.flatMap λp=>sep++p:=rfl
theorem Bh(sep:List UInt8):∀(ps:List<|List UInt8),DC sep ps=eg sep ps
 |[]=>rfl
 |p::ps=>by
  rw[yy]
  change((((p::ps).map wL).zipIdx 0).foldl (λg (p)=>(if p.2 > 0 then g++sep.toArray else g)++p.1) #[]).toList=_
  rw[bK,OM,gv,MC]
  simp
theorem C9(ps:List<|List α):∀n,ps.foldl (λx y=>x+y.length) n=n+(ps.map List.length).sum:=by
 induction ps with
 |nil=>intro n;simp
 |cons p ps g=>intro n;rw[gv,g];simp;lia
theorem vj(sep:List α)(ps:List<|List α):ps.foldl (λx y=>x+y.length) (sep.length*(ps.length-1))=(eg sep ps).length:=by
 rw[C9];induction ps with
 |nil=>rfl
 |cons p r=>
  rw[yy];have:∀r:List<|List α,(r.flatMap λp=>sep++p).length=sep.length*r.length+(r.map List.length).sum:=λr=>by
   induction r with
   |nil=>simp
   |cons y r g=>rw[iN,aj,g];simp[zR];lia
  rw[aj,this];simp;lia
theorem EK{keep:List aq}{Q:Unit->aA->Prop}(taken:List<|aq×Option aq)(h:∀p∈taken,p.2=az)(q:Q () s):wpAny W.M A (Bytes.joinLetGo taken keep) Q E s:=by
 induction taken with
 |nil=>show aF q
 |cons x r g=>obtain⟨x,o⟩:=x;obtain rfl:o=az:=h _<|.head _;show ao<|wpAny_letGo<|g λp w=>h p<|.tail _ w
theorem MW{M:ir}{vs:Array aq}{f:aq->Sem α}{g:Array aq->Sem α}{Q:α->aA->Prop}(q:∀x,vs=#[x]->wpAny M A (f x) Q E s)(w:vs.size≠1->wpAny M A (g vs) Q E s) :
  wpAny M A (rt (λZ=>Sem α) vs f g) Q E s:=by
 by_cases h:vs.size=1
 ·obtain⟨l⟩:=vs;obtain⟨x,rfl⟩:=List.length_eq_one_iff.mp h;show q x B
 ·have:rt (λZ=>Sem α) vs f g=g vs:=by
   unfold rt
   simp[h]
  show bS (this)<|w h
theorem O8{M:ir}{f:Nat->β->Sem (ForInStep β)}{b:β}{Q:β->aA->Prop}(d:Nat->β->aA->Prop)(h:d 0 b s)(step:∀i b s,i<n->d i b s->wpAny M A (f i b) (λL s'=>∃q,L=.yield q/\d (i+1) q s') E s)
  (fin:∀b s,d n b s->Q b s):wpAny M A (forIn [:n] b f) Q E s:=by
 rw[Uu];have c:([:n]).size=n:=Nat.div_one n;rw[c];show PE (λl b s=>∃i,i<=n/\l=ack i (n-i)/\d i b s) (λx r b s F=>?_) (λb s F=>?_) _ b s #[0,dU _,rfl,h]
 ·obtain⟨i,w,e,H⟩:=F;obtain⟨k,j⟩:∃k,n-i=k+1:=by
   cases g:n-i with
   |zero=>replace e:=(g)▸e;show zB e
   |succ k=>show#[k,rfl]
  have e:=(yI)▸(j)▸e;obtain⟨R,U⟩:=zh e;show(R)▸(lX (step i b s (fZ [_,_,_,_] (.a (.v 0)<|.n 1) (.v 1) (.a (.v 2)<|.n 1) (.v 3) (.a (.v 3)<|.v 0) (.v 1) B (ak j.symm)<|k8<|dO [_,_] (.v 0) (.v 1) (.v 0) (.v 1) B w) H) (λL s' W=>by obtain⟨q,Y,g⟩:=W;show#[q,Y,i+1,(fZ [_,_,_,_] (.a (.v 0)<|.n 1) (.v 1) (.a (.v 2)<|.n 1) (.v 3) (.a (.v 3)<|.v 0) (.v 1) B (ak j.symm)<|k8<|dO [_,_] (.v 0) (.v 1) (.v 0) (.v 1) B w),by rw[U,show n-(i+1)=k from by lia],g]) λZ Z e=>e)
 ·obtain⟨i,w,e,H⟩:=F;have:n-i=0:=by
   cases g:n-i with
   |zero=>rfl
   |succ k=>replace e:=(yI)▸(g)▸e;show IG e
  obtain rfl:i=n:=(di (dO [_,_] (.v 0) (.v 1) (.v 0) (.v 1) B w)<|fZ [_,_,_] (.v 0) (.v 1) (.v 2) (.n 0) (.v 0) (.a (.v 2)<|.v 1) B (ak this)<|oJ _ _);show fin b s H
theorem IE{l:Addr}{vs:Array aq}{sep:List UInt8}(h:s.heap.get? l=I (fE vs m))(w:vX vs.toList ps)(F:(eg sep ps).length<=sizeLine)
  (q:∀t k,Q (.bytes (eg sep ps).toArray t) { s with toks:=k }):wpAny W.M A (call (.builtin "bytes.join") [.bytes sep.toArray t,.ref l]) Q E s:=by
 show nQ rC (d8 _ _ _) xH ?_<|yM _ _;show ao<|dh B ?_;show ao ?_;show ao<|i9 #[_,h,rfl] ?_;show iB (by decide)<|aF ?_;show ao<|sM h ?_;show iB B ?_;show MW (λx H=>?_) λZ=>?_
 ·subst H;obtain _ | ⟨p,_ | ⟨a,ps⟩⟩:=ps
  ·show absurd (w.len) Nat.one_ne_zero
  ·obtain⟨v,e,u,rfl⟩:=cC.get w (i:=0) B;obtain rfl:=aV e;show ao<|i9 (d8 _ _ _) ?_;show iB B ?_;show ao<|nR ?_;rw[show eg sep [p]=p from aY p]at q;show aF #[_,rfl,q _ _]
  ·show absurd (ja<|w.len) (TU _).symm
 ·show ao (O8 (λi (b) s'=>s'=s/\b.1.toList=(ps.take i).map wL/\∀p∈b.2,p.2=az/\∃c t,p.1=.bytes c t) #[rfl,rfl,λd U=>cO U] (λi b s' R j=>?_) λb s' j=>?_)
  ·obtain⟨rfl,g,f⟩:=j;show ao<|sM h ?_;have o:(Bytes.Kind.bytes==Bytes.Kind.bytearray||b.2.any λx=>x.1.onHeap)=au:=by rw[tR];show#[rfl,?_];rw[lK];intro p U;obtain⟨_,c,t,e⟩:=f p U;show bS (e) aD
   show fY o ?_;have r:i<ps.length:=by show sB (w.len) ?_;simpa using R
   obtain⟨u,L⟩:=w.at<|bD r;have H:vs.getD i .none=.bytes (ps[i]).toArray u:=by rw[cV]at L;simp[Array.getD_eq_getD_getElem?,L]
   show(H)▸?_;show ao<|eX<|Ae ?_;show ao<|sM h ?_;show fY (by simp)<|aF #[_,rfl,rfl,?_,?_]
   ·rw[lI,g,Oh,bD r,HT,aO];rfl
   ·intro p U;rcases aM.mp U with U|U
    ·show f p U
    ·show(ah.mp U)▸#[rfl,_,_,rfl]
  ·obtain⟨rfl,g,f⟩:=j;have n:vs.size=ps.length:=by show sB (w.len) ?_;simp
   replace g:=(qI)▸(n)▸g;show ao<|dh B ?_;show fY ?_ ?_
   ·have z:b.1.foldl (λx y=>x+y.size) (sep.toArray.size*(b.1.size-1))=(eg sep ps).length:=by
     have Y:b.1.size=ps.length:=by rw[<- iV,g,ay]
     rw[<- Array.foldl_toList,g,List.foldl_map];show bS (Y) ?_
     show vj sep ps
    rw[z]
    unfold uw
    simpa using F
   ·show bS (g) ?_;show ao (Kq ?_ ?_)
    ·show ao<|eX<|Ua<|ao<|EK _ (λp U=>(f p U).1)<|aF #[_,rfl,?_];have:=q s'.toks<|s'.toks+1;rw[<- Bh]at this;simpa [DC]using this
    ·rw[<- Bh]at F;simpa [DC]using F
end
section
variable {E:aq->aA->Prop}{b:Array UInt8}{u:Tok}
theorem Hv:uT "bytes.split" "split" ["sep", "maxsplit"] [] []=pure [az,az]:=by kernel_rfl
theorem F8(v:aq):uT "bytes.split" "split" ["sep", "maxsplit"] [v] []=pure [I v,az]:=by kernel_rfl
theorem Ar{M:ir}(f:α->Array UInt8):∀(L:List α) (s:aA) (Q:List aq->aA->Prop),(∀x∈L,(f x).size<=sizeLine)->(∀vs k,vX vs (L.map λx=>(f x).toList)->Q vs { s with toks:=k })->wpAny M A (L.mapM λx=>mkBytes<|f x) Q E s:=by
 intro L;induction L with
 |nil=>intro s Q _ h;rw[List.mapM_nil];show aF<|h [] s.toks cC.nil
 |cons x r q=>intro s Q g h;rw[List.mapM_cons];show ao<|Kq (ao<|q _ _ (λy w=>g y<|tU _ w) λvs k H=>aF ?_)<|g x<|List.mem_cons_self ..;show h _ _<|cC.cons #[_,rfl] H
set_option backward.match.sparseCases true in
theorem vK{g left:Nat}{b:List UInt8}:Bytes.words (g+1) left b=(match b.dropWhile p9 with | []=>[] | rest=>if (left==0)=J then [rest] else rest.takeWhile (!Bytes.isSpace ·)::Bytes.words g (left-1) (rest.dropWhile (!Bytes.isSpace ·))):=rfl
theorem CD:∀(n m:Nat) (b:List UInt8),∀x∈Bytes.words n m b,x.length<=b.length:=by
 intro n;induction n with
 |zero=>intro _ _ x h;show cO h
 |succ n q=>
  intro m b x h;rw[vK]at h;have z:(b.dropWhile p9).length<=b.length:=oZ<|Fv _;revert h z;generalize b.dropWhile p9=r;intro h z;induction r using nY with
  |nil=>show cO h
  |cons y r=>
   dsimp only at h;by_cases g:(m==0)=J
   ·rw[if_pos g]at h;show bS (ah.mp h) z
   ·rw[if_neg g]at h;rcases aC.mp h with rfl|h
    ·show av (oZ<|List.takeWhile_sublist _) z
    ·show av (q _ _ x h)<|av (oZ<|Fv _) z
theorem AX(n m:Nat)(b:List UInt8):(Bytes.words n m b).length<=n:=by
 induction n generalizing m b with
 |zero=>show aE _
 |succ n q=>
  rw[vK];generalize b.dropWhile p9=r;induction r with
  |nil=>show dU _
  |cons y r=>
   change(if (m==0)=J then [y::r] else _).length<=_;by_cases g:(m==0)=J
   ·rw[if_pos g];show cU<|dU _
   ·rw[if_neg g];show cU<|q ..
theorem Io(b:Array UInt8)(w:Nat):∀(ps:List Nat) (parts:Array<|Array UInt8) (last:Nat),(∀x∈parts,x.size<=b.size)->(∀x∈(ps.foldl (λ(q:Array (Array UInt8)×Nat) p=>(q.1.push<|b.extract q.2 p,p+w)) (parts,last)).1,x.size<=b.size)/\
  (ps.foldl (λ(q:Array (Array UInt8)×Nat) p=>(q.1.push<|b.extract q.2 p,p+w)) (parts,last)).1.size=parts.size+ps.length:=by
 intro ps;induction ps with
 |nil=>intro parts last h;show#[h,rfl]
 |cons p ps g=>
  intro parts last h;have g:=g (parts.push<|b.extract last p) (p+w) (λx H=>by
   rcases TV.mp H with H|rfl
   ·show h x H
   ·simp;lia)
  rw[gv];show#[g.1,?_];rw[g.2];simp;lia
theorem yl(b:Array UInt8)(w:Nat)(ps:List Nat):(∀x∈Bytes.between b w ps,x.size<=b.size)/\(Bytes.between b w ps).length=ps.length+1:=by
 obtain⟨H,F⟩:=Io b w ps #[] 0 (λx g=>by induction g;contradiction);unfold Bytes.between;revert H F;generalize e:ps.foldl (λ(q:Array (Array UInt8)×Nat) p=>(q.1.push<|b.extract q.2 p,p+w)) (#[],0)=r;intro H F;show#[λx g=>?_,by simp[F]];rw[Array.mem_toList_iff]at g;rcases TV.mp g with g|rfl
 ·show H x g
 ·simp
theorem Q8(H:b.size<=gr)(q:∀vs k,vX vs (mO b.toList)->Q (.ref s.heap.objs.size) { s with heap:=s.heap.push<|fE vs.toArray 0,toks:=k }):wpAny W.M A (call (.builtin "bytes.split") [.bytes b t]) Q E s:=by
 show nQ jO (d8 _ _ _) pQ ?_<|vn _;show ao<|dh Hv ?_;show ao<|aF ?_;show ao<|dh B ?_;show ao<|nR ?_;have R:=sizes H;by_cases w:(!b.toList.isEmpty&&!b.toList.any p9)=J
 ·have g:=q;unfold mO at g;replace g:=(if_pos w)▸g;show iB ?_ ?_
  ·simpa using w
  ·unfold Bytes.Kind.same;show ao<|ao<|i9 (d8 _ _ _) ?_;show iB B<|aF ?_;show ao<|om ?_ (by change 1<=sizeLine;rw[gG];lia);show aF #[_,rfl,g [.bytes b t] s.toks<|cC.cons #[t,rfl] .nil]
 ·have g:=q;unfold mO at g;rw[if_neg w]at g;show fY ?_ ?_
  ·have:=wM.mpr w;simpa using this
  ·show ao (Ar (λx:List UInt8=>x.toArray) _ _ _ (λx a=>?_) λvs k c=>?_)
   ·have:=CD _ _ _ x a;have z:=by simpa using this
    show av z R
   ·have F:=c.len;show ao<|om (aF #[_,rfl,g vs k<|by simpa using c]) ?_;have:=AX (b.size+1) (b.size+1) b.toList;rw[gG];rw[ay]at F;have e:(if (-1)<0 then b.size+1 else (-1).toNat)=b.size+1:=rfl;rw[e]at F;show F▸av this (av (cU H)<|by decide)
theorem MD{c:UInt8}(R:b.size<=gr)(q:∀vs k,vX vs (j2 b.toList c)->Q (.ref s.heap.objs.size) { s with heap:=s.heap.push<|fE vs.toArray 0,toks:=k }):wpAny W.M A (call (.builtin "bytes.split") [.bytes b t,.bytes #[c] u]) Q E s:=by
 show nQ jO (d8 _ _ _) pQ ?_<|xj _ _;show ao<|dh (F8 _) ?_;show ao<|aF ?_;show ao<|dh B ?_;show ao ?_;show ao<|dh Zj ?_;show aF<|fY B ?_;have e:(if (-1)<0 then b.size+1 else (-1).toNat)=b.size+1:=rfl;rw[e];unfold j2 at q;simp only[m8,iV]at q;by_cases g:((pR b #[c] 0 b.size).take<|b.size+1).isEmpty=J
 ·rw[if_pos g]at q;show iB g ?_;show ao<|nR ?_;show ao<|ao<|i9 (d8 _ _ _) ?_;show iB B<|aF ?_;show ao<|om ?_ (by change 1<=sizeLine;rw[gG];lia);show aF #[_,rfl,q [.bytes b t] s.toks<|cC.cons #[t,rfl] cC.nil]
 ·replace q:=(if_neg g)▸q;show fY (wM.mpr g) ?_;have F:=yl b 1<|(pR b #[c] 0 b.size).take<|b.size+1;show ao<|Ar (λx:Array UInt8=>x) _ _ _ (λx a=>av (F.1 x a)<|sizes R) λvs k H=>?_;have w:=H.len;show ao<|om (aF #[_,rfl,q vs k H]) ?_;rw[ay]at w;have:=F.2;rw[qG]at this;rw[gG];show av (m:=(Bytes.between b 1<|List.take (b.size+1)<|pR b #[c] 0 b.size).length) (ak w.symm|>λz=>?_) (by rw[this];show av (cU<|Uv ..)<|av (cU<|cU R)<|by decide);show ak w
end
theorem Hr(x:Int){l:List Int}:(Oa x l).Perm (x::l):=by
 induction l with
 |nil=>show Kh _
 |cons y r g=>
  rw[YI];by_cases c:x<=y
  ·rw[if_pos c]
  ·rw[if_neg c];show(List.Perm.cons y g).trans<|List.Perm.swap x y r
theorem I0(x:Int){l:List Int}:l.Pairwise (·<=·)->(Oa x l).Pairwise (·<=·):=by
 induction l with
 |nil=>show λw=>List.pairwise_singleton ..
 |cons y r q=>
  intro h;rw[pe]at h;rw[YI];by_cases c:x<=y
  ·rw[if_pos c];show .cons (bU.mpr #[c,λz g=>gm c<|h.1 z g])<|.cons h.1 h.2
  ·rw[if_neg c];show .cons (λz g=>(aC.mp<|(Hr x).mem_iff.mp g).elim (λe=>e▸lV (m7.mp c))<|h.1 z)<|q h.2
theorem AP(l:List Int):(lY l).Perm l:=by
 induction l with
 |nil=>show Kh _
 |cons x r g=>show(Hr x).trans<|List.Perm.cons x g
theorem Dm(l:List Int):(lY l).Pairwise (·<=·):=by
 induction l with
 |nil=>show List.Pairwise.nil
 |cons x r g=>show I0 x g
theorem GR{l m:List Int}(h:l.Perm m)(g:l.Pairwise (·<=·))(q:m.Pairwise (·<=·)):l=m:=by
 induction l generalizing m with
 |nil=>show h.nil_eq
 |cons x l w=>
  induction m with
  |nil=>show IG h.symm.nil_eq
  |cons y m=>
  rw[pe]at g q;have e:x=y:=by
   have h1:=h.mem_iff.mp<|.head _;have h2:=h.mem_iff.mpr<|.head _;rcases aC.mp h1 with e|h1
   ·show e
   ·rcases aC.mp h2 with e|h2
    ·show e.symm
    ·show Uw (g.1 _ h2)<|q.1 _ h1
  subst e;rw[w (List.Perm.cons_inv h) g.2 q.2]
section
variable {E:aq->aA->Prop}
theorem yf{r:Addr}{ns:List Int}(L:ns.length<64)
  (R:∀H:List aq->aA->Prop,(∀vs h' w,(∀b o,s.heap.get? b=I o->h'.get? b=I o)->kA vs ns->H vs { s with heap:=h',toks:=w })->wpAny W.M A.in1 (collect<|.ref r) H (λe s'=>E e s') s)
  (h:∀a g h' w n,(∀b o,s.heap.get? b=I o->h'.get? b=I o)->s.heap.get? a=az->h'.get? a=I (fE g n)->kA g.toList (lY ns)->Q (.ref a) { s with heap:=h',toks:=w }) :
  wpAny W.M A (call (.builtin "sorted") [.ref r]) Q E s:=by
 show Calls.call_function_entry kind_sorted plain_sorted entry_sorted (args_sorted1 _) ?_
 show ao<|aF ?_
 show ao<|R _ λvs U w k p=>?_
 have j:=p.length
 have l:vs.length<=sizeLine:=by rw[gG];lia
 have m:vs.length<64:=by lia
 show ao<|om ?_ l
 show ao<|eX<|nQ slot_list_sort #[_,(br _ B),rfl] entry_list_sort (list_sort_tree (br _ B) p m λg Y Z c d=>#[_,rfl,?_])<|args_list_sort _
 obtain⟨e,f⟩:=sortedHeap_at<|br _ B
 show aF #[_,rfl,h _ g _ _ e (λb o i=>?_) ?_ f ?_]
 ·have q:=k b o i
  have F:=dF q
  rw[sortedHeap_old (aS F)<|by rw[size_push'];show iS F,Oi _ _ _<|aS F]
  show q
 ·induction z:s.heap.get? U.objs.size with
  |none=>rfl
  |some o=>show absurd (dF<|k _ _ z)<|cP _
 ·show(GR (c.trans (AP ns).symm) d<|Dm ns)▸Z
theorem FW{l:Addr}{vs:List aq}{ns:List Int}{n:Nat}(H:s.heap.get? l=I (fE vs.toArray n))(F:kA vs ns)(w:ns.length<64)
  (h:∀a g h' R n,(∀b o,s.heap.get? b=I o->h'.get? b=I o)->s.heap.get? a=az->h'.get? a=I (fE g n)->kA g.toList (lY ns)->Q (.ref a) { s with heap:=h',toks:=R }) :
  wpAny W.M A (call (.builtin "sorted") [.ref l]) Q E s:=by
 show yf w (λd q=>?_) h
 have L:=F.length
 show collect_list #[_,H,rfl,_,rfl] (q _ _ _ (λb o c=>?_) F)<|by show(gG)▸?_;lia
 rw[ux _ _ _ _<|aS<|dF c,Oi _ _ _<|aS<|dF c]
 show c
theorem ints_of:∀{vs:List aq}{ns:List Int},vs.length=ns.length->(∀(j:Nat) (v:aq),vs[j]?=I v->∃n t,ns[j]?=I n/\v=aq.int n t)->kA vs ns:=by
 intro vs;induction vs with
 |nil=>intro ns l _;cases ns with|nil=>show .nil|cons=>cases l
 |cons v vs g=>
  intro ns l h;cases ns with
  |nil=>cases l
  |cons n ns=>obtain⟨m,t,e,q⟩:=h 0 v B;obtain rfl:=aV e;subst q;show .cons _ _<|g (ja l) λj v e=>h (j+1) v e
theorem IQ(args:Args):A.under (.builtin "list.__iadd__" args)=A.in1:=by
 have g:=by change guardIds.contains "list.__iadd__" = au;decide +kernel
 have w:(Code.builtin "list.__iadd__" args).guards=[]:=by unfold acj;show bS (g) ?_;rfl
 have q:(Code.builtin "list.__iadd__" args).weight=0:=by unfold Code.weight;show bS (g) ?_;rfl
 unfold bC.under;show sB (w)<|sB (q)<|sB (Code.envs_of_weight q) ?_;rfl
theorem G8{d:Addr}{kvs:List<|Int×aq}(f:s.heap.DictOf (intKind W.prog W.w) d kvs)(i:(d==sysModules)=au)(l:A.handled=az)(L:kvs.length<64)
  (h:∀a H h' K n,(∀b o,s.heap.get? b=I o->h'.get? b=I o)->s.heap.get? a=az->h'.get? a=I (fE H n)->kA H.toList (lY (kvs.map (·.1)))->Q (.ref a) { s with heap:=h',toks:=K }) :
  wpAny W.M A (call (.builtin "sorted") [.ref d]) Q E s:=by
 show yf (by simpa using L) (λD q=>?_) h
 obtain⟨ep,W'⟩:∃ep,s.heap.DictAt (intKind W.prog W.w) d kvs ep:=by obtain⟨o,m,ep,g,r⟩:=f;show#[ep,o,m,g,r]
 have Y:=W'.lt_size
 show ao (wpAny_runValue (codeAny_mono (R:=λr s'=>r=.ok (.ret<|.ref s.heap.objs.size)/\∃h' K F T,s'={ s with heap:=h',toks:=K }/\(∀b o,s.heap.get? b=I o->h'.get? b=I o)/\h'.get? s.heap.objs.size=I (fE F T)/\kA F.toList (kvs.map (·.1))) (lQ entry_proto_collect' ?_) λr s' p=>?_))
 ·change wpAny _ _ (do again (.builtin "list.__iadd__" #[[<- newList [],.ref d],[]])) _ _ s
  show ao<|om<|aF #[kO _<|by decide +kernel,lQ entry_list_iadd' ?_]
  rw[IQ]
  show kdl_extend (A:=A.in1) (R:=(λr s'=>r=.ok (.ret<|.ref s.heap.objs.size)/\∃h' K F T,s'={ s with heap:=h',toks:=K }/\(∀b o,s.heap.get? b=I o->h'.get? b=I o)/\h'.get? s.heap.objs.size=I (fE F T)/\kA F.toList (kvs.map (·.1)))) (s:={ s with heap:=s.heap.push (seqObj "list" #[] 0) }) (kdl_dict (ep:=ep) i) l (W'.push _) _ (bT Y) (bT Y) _ 0 (br _ B) (λh' K F T y U J=>?_)<|by rw[gG];lia
  show#[rfl,_,_,_,_,rfl,(λb o Z=>y b o (aS<|dF Z)<|aQ _ Z),U,ints_of ?_ λj v e=>?_]
  ·rw[iV,J.1,ay]
  ·obtain⟨k,x,z,c⟩:=J.2 j v (sB (cV) e)
   obtain⟨t,rfl⟩:∃t,v=aq.int k t:=by
    induction v<;>simp[intKind,aq.isInt]at c
    subst c;show#[_,rfl]
   show#[k,t,by rw[cj,z];rfl,rfl]
 ·obtain⟨rfl,h',K,F,T,rfl,k1,k2,C⟩:=p
  show ao<|j8 k2<|aF<|q _ _ _ k1 C
end
theorem Nu:∀(l:List Int) (y:Int),l≠[]->xQ (l++[y])=max (xQ l) y
 |[],_,h=>(h B).elim
 |x::r,y,_=>by simp[xQ,Oj]
theorem Hl(ns:List Int):∀k,k<ns.length->ns.getD (argBest (λi j=>decide (ns.getD i 0 > ns.getD j 0)) k) 0=xQ (ns.take<|k+1):=by
 intro k;induction k with
 |zero=>
  intro h;induction ns with
  |nil=>cases h
  |cons x r=>rfl
 |succ k g=>
  intro h;have q:ns.take (k+1)≠[]:=by intro e;show(List.take_eq_nil_iff.mp e).elim (TU _) λz=>?_;rw[z]at h;show fc _ h
  rw[Oh,bD h,HT,Nu _ _ q];show sB ((g<|dO [_,_] (.a (.v 0)<|.n 1) (.v 1) (.a (.a (.v 0)<|.n 1)<|.n 1) (.v 1) B h)) ?_;have e:ns.getD (k+1) 0=ns[k+1]:=by rw[List.getD_eq_getElem?_getD,bD h];rfl
  rw[argBest];by_cases c:decide (ns.getD (k+1) 0 > ns.getD (argBest (λi j=>decide (ns.getD i 0 > ns.getD j 0)) k) 0)=J
  ·rw[if_pos c];have:=of_decide_eq_true c;rw[e]at this ⊢;show(TX<|lV this).symm
  ·rw[if_neg c];have:=of_decide_eq_false<|wM.mpr c;rw[e]at this;show(Int.max_eq_left<|gK.mp this).symm
section
variable {E:aq->aA->Prop}
theorem max_list{l:Addr}{vs:List aq}{ns:List Int}{n:Nat}(c:A.handled=az)(a:s.heap.get? l=I (fE vs.toArray n))(g:kA vs ns)(d:ns≠[])
  (h:∀h' q t,(∀b o,s.heap.get? b=I o->h'.get? b=I o)->Q (.int (xQ ns) t) { s with heap:=h',toks:=q }) :
  wpAny W.M A (call (.builtin "max") [.ref l]) Q E s:=by
 have F:s.heap.IsList l vs.toArray:=#[_,a,rfl,_,rfl]
 have H:=dF a
 have w:=jZ.mpr d
 have val:∀i v,vs.toArray[i]?=I v->∃t,v=aq.int (ns.getD i 0) t:=λi v e=>g.int_at i v<|by simpa using e
 show call_max_walk<|BC F ?_
 show#[_,_,_,_,_,_,_,rfl,HL.list (A:=A.in1) c _ l (aS H) vs.toArray,#[#[_,br _ B,rfl,rfl],F.push _],λb hb=>?_,bS (gW)<|bS (g.length) w,CmpOf.ints_gt (λi=>ns.getD i 0) val,λv h' q L R=>?_]
 ·change b<(s.heap.push _).objs.size
  rw[jJ]
  rcases aC.mp hb with rfl|hb
  ·show bE _
  ·show(ah.mp hb)▸iS H
 ·obtain⟨t,rfl⟩:=val _ v L
  rw[gW,g.length,Hl ns _<|Nat.sub_lt w Nat.one_pos,kW w,qI]
  show h h' q t λb o e=>R b o (λU=>?_)<|aQ _ e
  rw[ah.mp U]at e
  show absurd (dF e)<|cP _
theorem Bo{l:Addr}{vs:Array aq}(q:s.heap.get? l=I (fE vs n))(f:Array aq->Array aq):∃m,(s.heap.update l<|Of f).get? l=I (fE (f vs) m):=by obtain⟨w,g⟩:=FF f vs n;show#[w,by rw[iF _ q<|by rw[g];rfl,g]]
theorem Po{l:Addr}{vs:Array aq}(q:s.heap.get? l=I (fE vs n))(w:vs[vs.size-1]?=I v)(H:vs.size<=gr)
  (h:∀m h',h'.get? l=I (fE (vs.eraseIdxIfInBounds<|vs.size-1) m)->eW l s.heap h'->Q v { s with heap:=h' }) :
  wpAny W.M A (call (.builtin "list.pop") [.ref l]) Q E s:=by
 obtain⟨m,g⟩:=Bo q λL=>L.eraseIdxIfInBounds<|vs.size-1
 show HM lN #[_,q,rfl] Ct (PySem.F.args_list_pop_1 _) (Zk l vs n v w<|sizes H) #[q,h m _ g<|Heap.SameBut.update ..]
theorem Ng{l:Addr}{vs:Array aq}{i:Int}{u:Tok}(w:s.heap.get? l=I (fE vs n))(q:0<=i)(a:vs[i.toNat]?=I v)(H:vs.size<=gr)
  (h:∀m h',h'.get? l=I (fE (vs.eraseIdxIfInBounds i.toNat) m)->eW l s.heap h'->Q v { s with heap:=h' }) :
  wpAny W.M A (call (.builtin "list.pop") [.ref l,.int i u]) Q E s:=by
 obtain⟨m,g⟩:=Bo w λL=>L.eraseIdxIfInBounds i.toNat
 have R:=(jI.mp a).1
 have b:seqIndex? i vs.size=I i.toNat:=by
  unfold seqIndex?
  rw[(if_neg<|gK.mpr q)]
  show if_pos<|by rw[fg,decide_eq_true_eq,decide_eq_true_eq];show#[q,(rR q).mp R]
 show HM lN #[_,w,rfl] Ct (PySem.F.args_list_pop_2 _ _) (Zl l vs n i u _ v (fitsIndex_of q<|fM ((rR q).mp R)<|gJ (gM.mpr H)<|by decide) b a<|sizes H) #[w,h m _ g<|Heap.SameBut.update ..]
theorem Hq{l b:Addr}{vs us:Array aq}(q:s.heap.get? l=I (fE vs n))(w:s.heap.get? b=I (fE us m))(R:vs.size+us.size<=gr)
  (h:∀m h',h'.get? l=I (fE (vs++us) m)->eW l s.heap h'->Q .none { s with heap:=h' }) :
  wpAny W.M A (call (.builtin "list.extend") [.ref l,.ref b]) Q E s:=by
 obtain⟨H,g⟩:=Bo q λL=>L++us
 have z:=sizes R
 show HM Bx #[_,q,rfl] PySem.F.entry_list_extend (PySem.F.args_list_extend_2 _ _) (Zm l vs n b us m ?_ (fN z)<|dP z) #[q,w,h H _ g<|Heap.SameBut.update ..]
 unfold List.listTooLong
 simp
 intro _
 show z
end
section
variable {R:RM}
theorem P9{L:List P}{g:List Int}(e:jr P.int? L=I g)(h:cC (PR W R) L ys):kA ys g:=by
 have:∀{g:List Int},cC (λi v=>∃t,v=aq.int i t) g ys->kA ys g:=λa=>by
  clear e h;induction a with
  |nil=>show .nil
  |cons x _ q=>obtain⟨t,rfl⟩:=x;show .cons _ _ q
 show this<|h.all (λx y z w e=>by obtain rfl:=P.ig e;show w.fU) e
theorem Dw{g:List Int}(h:kA ys g):cC (PR W R) (g.map .int) ys:=by
 induction h with
 |nil=>show .nil
 |cons n t _ q=>show .cons (.int _ _) q
theorem agW{L:List P}{ss:List<|List UInt8}(e:jr P.iQ L=I ss)(h:cC (PR W R) L ys):vX ys ss:=(h.all (λx y z g e=>by obtain rfl:=P.gS e;show g.f7.1) e)
theorem YH{ss:List<|List UInt8}(h:cC (λ(p:List UInt8) v=>∃t,v=aq.bytes p.toArray t) ss ys):(∀s∈ss,s.length<=gr)->cC (PR W R) (ss.map .bytes) ys:=by
 induction h with
 |nil=>show λZ=>.nil
 |cons x _ q=>intro g;obtain⟨t,rfl⟩:=x;show .cons (.bytes _ _<|g _<|.head _)<|q λs w=>g s<|.tail _ w
theorem abM{L:List P}{ss:List<|List Nat}(e:jr P.AO L=I ss)(h:cC (PR W R) L ys):∃l:List<|Str×Tok,zj l=ys/\l.map (·.1)=ss.map λs=>⟨s.toArray⟩:=by
 have:∀{g:List<|List Nat},cC (λi v=>∃t,v=aq.str ⟨i.toArray⟩ t) g ys->∃l:List<|Str×Tok,zj l=ys/\l.map (·.1)=g.map λs=>⟨s.toArray⟩:=λa=>by
  clear e h;induction a with
  |nil=>show#[[],rfl,rfl]
  |@cons x y L ys h _ q=>obtain⟨t,rfl⟩:=h;obtain⟨l,w,H⟩:=q;show#[(_,t)::l,by rw[<- w];rfl,by rw[bK,H];rfl]
 show this<|h.all (λx y z F e=>by obtain rfl:=P.tC e;show F.nq.1) e
theorem CN{x:P}{c:UInt8}(h:iD x=I c):∃i:Int,x=.int i/\(0<=i/\i<256)/\i.toNat.toUInt8=c:=by
 show fB h λi e h=>?_;induction q:decide (0<=i/\i<256)with
 |false=>have h:=(q)▸h;show bh h
 |true=>rw[q]at h;obtain rfl:=aV h;show#[i,P.ig e,of_decide_eq_true q,rfl]
theorem VU{L:List P}{g:List UInt8}(e:jr iD L=I g)(h:cC (PR W R) L ys):∃ns,kA ys ns/\(∀n∈ns,0<=n/\n<256)/\byteArr ns=g.toArray/\g.length=ys.length:=by
 have:∀{g:List UInt8},cC (λ(c:UInt8) v=>∃(i:Int) (t:Tok),v=aq.int i t/\(0<=i/\i<256)/\i.toNat.toUInt8=c) g ys->∃ns,kA ys ns/\(∀n∈ns,0<=n/\n<256)/\byteArr ns=g.toArray/\g.length=ys.length:=λa=>by
  clear e h;induction a with
  |nil=>show#[[],.nil,λZ h=>absurd h ai,rfl,rfl]
  |@cons x y L ys h _ f=>show hd λU F=>?_;obtain⟨i,t,rfl,q,rfl⟩:=h;obtain⟨ns,k1,k2,H,b⟩:=f;show F ?_;show#[i::ns,.cons _ _ k1,λn j=>(aC.mp j).elim (λe=>e▸q)<|k2 n,?_,congrArg xY b];have w:ns.map (λn=>n.toNat.toUInt8)=L:=congrArg lH H;unfold byteArr;show(bK)▸(w)▸rfl
 show this<|h.all (λx y z d e=>by obtain⟨i,rfl,q,M⟩:=CN e;obtain⟨t,rfl⟩:=d.fU;show#[i,t,rfl,q,M]) e
theorem Rc{L:List α}{x:α}(h:one L=I x):L=[x]:=by
 cases L with
 |nil=>show bh h
 |cons y r=>induction r<;>first|show bh h|cases h;rfl
theorem sU{g:G}{vs:List V}{v:V}(h:one vs=I v)(q:cC (VR W g) vs us):∃u,us=[u]/\VR W g v u:=by
 obtain rfl:=Rc h;cases q with
 |cons a r=>cases r;show#[_,rfl,a]
theorem nv{g:G}{vs:List V}{x:P}(h:(one vs).bind V.p?=I x)(q:cC (VR W g) vs us):∃u,us=[u]/\PR W g.R x u:=by show hd λH w=>(fB h λv M F=>?_);obtain rfl:=V.ju F;show w<|sU M q
theorem Rb{g:G}{vs:List V}{v:V×V}(h:two vs=I v)(q:cC (VR W g) vs us):∃u w,us=[u,w]/\VR W g v.1 u/\VR W g v.2 w:=by
 have:=Sb h;subst this;cases q with
 |cons a r=>
  cases r with
  |cons b r=>cases r;show#[_,_,rfl,a,b]
theorem ME(d:h.DictOf (jh W au) a kvs):∃kvs':List<|Int×aq,h.DictOf (intKind W.prog W.w) a kvs'/\kvs=kvs'.map λp=>(.i p.1,p.2):=by
 show hd λY H=>?_;obtain⟨o,q,l,g,x,y,j,L,nd⟩:=d;have key:∀{q:List cZ}{kvs:List<|Ky×aq},Pairs (jh W au) q kvs->∃kvs':List<|Int×aq,Pairs (intKind W.prog W.w) q kvs'/\kvs=kvs'.map λp=>(.i p.1,p.2):=λp=>by
  induction p with
  |nil=>show#[[],.nil,rfl]
  |@cons e kv q kvs f F _ M=>
   obtain⟨k,v⟩:=kv;obtain⟨kvs',U,rfl⟩:=M;induction k with
   |b s=>show gE f
   |i n=>show#[(n,v)::kvs',.cons f F U,rfl]
 obtain⟨kvs',k1,rfl⟩:=key L;show H ?_;show#[kvs',#[o,q,l,g,x,y,λe c=>?_,k1,?_],rfl]
 ·obtain⟨k,f,F⟩:=j e c;induction k with
  |b s=>show gE f
  |i n=>show#[n,f,F]
 ·rw[bw]at nd;show(gV.mp nd).imp (λh e=>h<|congrArg Ky.i e)|>gV.mpr
theorem NL{kvs:List<|Int×aq}(d:h.DictOf (intKind W.prog W.w) a kvs):h.DictOf (jh W au) a<|kvs.map λp=>(.i p.1,p.2):=by
 obtain⟨o,F,f,g,x,y,H,c,nd⟩:=d;show#[o,F,f,g,x,y,λe L=>by obtain⟨k,q,b⟩:=H e L;show#[.i k,q,b],?_,?_]
 ·clear H nd y g;generalize F.toList=l at c;induction c with
  |nil=>show .nil
  |cons q b _ M=>show .cons q b M
 ·rw[bw];show(gV.mp nd).imp (λh e=>h<|by injection e)|>gV.mpr
theorem M1{A:bC}{E:aq->aA->Prop}{Q:aq->aA->Prop}{sep:List Nat}{t:Tok}{l:Addr}{vs:Array aq}{ss:List<|List Nat}(h:s.heap.get? l=I (fE vs m))(c:∃ps:List<|Str×Tok,zj ps=vs.toList/\ps.map (·.1)=ss.map λs=>⟨s.toArray⟩)(F:sep.length<=1)(g:ss.length<=gr)(w:(eg sep ss).length<=gr)
  (q:∀t k,Q (.str ⟨(eg sep ss).toArray⟩ t)<|sh s s.heap k):wpAny W.M A (call (.builtin "str.join") [.str ⟨sep.toArray⟩ t,.ref l]) Q E s:=by
 show hd λY H=>?_;obtain⟨ps,e,d⟩:=c;show H ?_;have L:∀ss:List<|List Nat,Str.join ⟨sep.toArray⟩ (ss.map λs=>⟨s.toArray⟩)=⟨(eg sep ss).toArray⟩:=by
  intro ss;induction ss with
  |nil=>rfl
  |cons x r U=>
   induction r with
   |nil=>change _=(⟨(x++[]).toArray⟩:Str);rw[aY];rfl
   |cons y r=>show(congrArg (λz=>(⟨x.toArray⟩)++⟨sep.toArray⟩++z) U).trans ?_;rw[iO];change(⟨x.toArray++sep.toArray++(eg sep (y::r)).toArray⟩:Str)=⟨(x++sep++eg sep (y::r)).toArray⟩;rw[jY,jY]
 show PySem.SC.join #[_,h,rfl,m,by show(e)▸rfl] d ?_ λb k=>?_
 ·unfold JoinOk;rw[StrLaws.joinTotal];have z:=vj sep ss;rw[C9]at z;rw[bw,ay];change(!Str.tooLong ((ss.map List.length).sum+ss.length*sep.length))=J;unfold Str.tooLong;rw[decide_eq_false]
  ·rfl
  ·unfold gr at w g;have:=gG;show cH.mpr<|M8 [_,_,_,_,_,_] (.a (.v 0)<|.v 1) (.v 2) (.v 3) (.n 1000000) (.v 4) (.n 1000000) (.a (.v 5)<|.v 0) (.v 4) (.v 1) (.v 3) (.n 16777216) (.v 2) B g w (ak z) (av (bW _ F)<|ak<|zS _)<|ak this.symm
 ·have:=q b k;rw[<- L]at this;change Q (.str (afr _ _) _) _;rw[StrLaws.glued_eq_join];show this
end
section
variable {g:G}{E:aq->aA->Prop}{vs:List V}
theorem kj.lst(w:kj F g K0 Q)(d:Inv F.b g){L:List P}{ys:Array aq}{t:Nat}(q:∀b o,g.get b=I o->h'.get? b=I o)(f:g.get a=az)(e:h'.get? a=I (fE ys n))(H:L.length<=gr)(r:cC (PR F.b.W g.R) L ys.toList)(M:K0 (.p<|.lst L) g.σ):Q (.ref a)<|sh g.s h' t:=by obtain⟨c,h⟩:=d.freeze t f e q;show w (.p<|.lst L) _ _ c h (.lst fu H<|F5.mono c.F r) M
theorem kj.made(U:kj F g K0 Q)(c:Inv F.b g){o:O}{t:Nat}(q:∀b o,g.get b=I o->h'.get? b=I o)(f:g.get a=az){ob:Obj}(e:h'.get? a=I ob)(x:∀d:G,Le g d->iJ d g.U.length a ob->OR F.b.W d g.U.length o)(W:K0 (.ref g.U.length)<|g.σ.push o):Q (.ref a)<|sh g.s h' t:=by
 have H:(g.ρ++[a])[g.U.length]?=I a:=sB (c.len) jz;have L:Le g #[λx=>if x∈[a] then .led else g.R x,g.ρ++[a],#[g.loc,g.U++[o]],sh g.s h' t]:=
  #[λy Y z=>(if_neg λw=>by replace z:=(c.free f)▸(ah.mp w)▸z;cases z).trans z,kM _ _]
 obtain⟨h,L⟩:=c.Lc (os:=[o]) t B (bX.mpr #[ai,bV]) (all1<|⟨c.free f,_,e⟩) (λb o Z z=>q b o z) B (λj u M=>by
  induction j with
  |succ j=>show bh M
  |zero=>obtain rfl:=aV M;show x _ L #[H,if_pos<|.head _,e])
 show U (.ref g.U.length) _ #[λx=>if x∈[a] then .led else g.R x,g.ρ++[a],#[g.loc,g.U++[o]],sh g.s h' t] L h #[a,H,rfl] W
theorem GP{f:α->Option β}:∀{L:List α}{ys:List β},jr f L=I ys->ys.length=L.length:=by
 intro L;induction L with
 |nil=>intro _ e;obtain rfl:=aV e;rfl
 |cons x L q=>intro _ e;show fB e λz H w=>(mS w λr M F=>sB F<|congrArg xY<|q M)
set_option tactic.hygienic true in
theorem Jq(K:Inv F.b g)(R:cC (VR F.b.W g) vs us)(h:HP g.σ .Add vs K0)(U:kj F g K0 Q):wpAny F.M A (call (.builtin "len") us) Q E g.s:=bI h λv e h=>bI h λn q Y=>by
 obtain⟨u,rfl,y⟩:=sU e R
 have fin:∀(m:Nat) t k,m=n->Q (.int (m) t) (sh g.s g.s.heap k):=λm t k e=>e▸U.tok K (z:=.p<|.int n) k (.int _ _) Y
 unfold F7 at q
 cases j:g9 g.σ.U v with
 |some L=>
  rw[j]at q;injection q with q;subst q
  obtain⟨a,ys,m,rfl,f,w,r⟩:=K.lst y j
  show afs (Uj f) ((r.sz)▸Gb w)<|fin _ _ _ r.sz.symm
 |none=>
  rw[j]at q
  cases v with
  |p x=>
   show mS q λl H Z=>?_
   subst Z
   obtain rfl:=P.gS H
   obtain⟨⟨t,rfl⟩,w⟩:=PR.f7 y
   show PySem.W.len_bytes (av w<|by decide)<|fin _ _ _ B
  |ref i=>
   show fB q λo H T=>?_
   induction o<;>first|show bh T|cases T|skip
   rename_i kb d
   obtain⟨a,kvs,rfl,c,D,w,C⟩:=K.mw y<|by change g.σ.U[i]?.bind _=_;show bS (H) ?_;rfl
   show PySem.call_len_dict (beq_false_of_ne c) D (sB (C.len)<|Gb w)<|fin _ _ _ C.len.symm
theorem QG(c:A.handled=az)(I:Inv F.b g)(d:cC (VR F.b.W g) vs us)(h:HP g.σ .Sub vs K0)(B:kj F g K0 Q):wpAny F.M A (call (.type "bytes") us) Q E g.s:=bI h λv e h=>bI h λF' q H=>by
 obtain⟨u,rfl,J⟩:=sU e d
 unfold sN at q
 cases L':g9 g.σ.U v with
 |some L=>
  rw[L']at q
  show hd λj U=>?_
  obtain⟨a,ys,m,rfl,f,w,r⟩:=I.lst J L'
  obtain⟨ns,l,n,y,W⟩:=VU q r
  show U ?_
  have Y:=(W)▸r.len▸w
  show PySem.call_bytes_ints #[_,f,rfl,m,by rw[m8]] l n ((W)▸sizes Y) c λh' t k C=>(bS (y)<|B (.p<|.bytes F') _ (g.to g.R h' k) Le.to (I.heap k C) (.bytes _ _ Y) H)
 |none=>
  rw[L']at q
  cases v with
  |p x=>
   obtain rfl:=P.gS q
   obtain⟨⟨t,rfl⟩,w⟩:=PR.f7 J
   show xO<|B.tok I (z:=.p<|.bytes F') g.s.toks (.bytes _ _ w) H
  |ref i=>
   show fB q λo D Z=>?_
   induction o<;>first|show bh Z|cases Z|skip
   show hd λj U=>?_
   obtain⟨⟨a,f,w⟩,T,rfl,K⟩:=I.obj J D
   cases K.symm.trans f.1
   show U<|Cm f.2.2 (sizes w) λt=>B.tok I (z:=.p<|.bytes F') _ (.bytes _ _ w) H
theorem Vr(w:A.guards=I [])(c:Inv F.b g)(d:cC (VR F.b.W g) vs us)(h:HP g.σ .Div vs K0)(a:kj F g K0 Q):dZ F.M A (call (.type "bytearray") us) Q E g.s:=by
 show hd λR H=>?_;obtain⟨rfl,f⟩:=h;cases d
 show H<|abJ w λh' e q=>a.made c (o:=.sA []) q (ie _) e (λU L l=>#[_,l,dU _]) f
theorem ZP(i:Inv F.b g)(q:cC (VR F.b.W g) vs us)(h:HP g.σ .LShift vs K0)(w:kj F g K0 Q):wpAny F.M A (call (.builtin "ord") us) Q E g.s:=bI h λx e h=>bI h λc d a=>by
 show hd λU H=>?_
 obtain⟨u,rfl,f⟩:=nv e q
 show fB d λl L R=>?_
 obtain rfl:=P.tC L
 obtain rfl:=Rc R
 obtain⟨⟨t,rfl⟩,_⟩:=f.nq
 show H<|PySem.P.ord_of_char<|w.tok i (z:=.p<|.int c) _ (.int _ _) a
theorem aa2(c:Inv F.b g)(w:cC (VR F.b.W g) vs us)(h:HP g.σ .BitAnd vs K0)(a:kj F g K0 Q):wpAny F.M A (call (.builtin "chr") us) Q E g.s:=bI h λx e h=>bI h λi R q=>by
 obtain⟨u,rfl,H⟩:=nv e w
 obtain rfl:=P.ig R
 obtain⟨t,rfl⟩:=H.fU
 show PySem.P.chr_of_int (by rw[tR,decide_eq_false_iff_not,decide_eq_false_iff_not];show#[gK.mpr q.1.1,gK.mpr<|gm (lV q.1.2)<|by decide])<|a.tok c (z:=.p<|.str [i.toNat]) _ (.str _ _<|show 1<=gr by decide) q.2
theorem aaN(c:Inv F.b g)(w:cC (VR F.b.W g) vs us)(h:HP g.σ .Mult vs K0)(a:kj F g K0 Q):wpAny F.M A (call (.type "str") us) Q E g.s:=bI h λx e h=>bI h λi R q=>by
 obtain⟨u,rfl,H⟩:=nv e w
 obtain rfl:=P.ig R
 obtain⟨t,rfl⟩:=H.fU
 show str_of_int_fit (N:=1000000000) (by split<;>first|show q.1.1.2 | (rw[Int.zero_sub];show Int.neg_lt_of_neg_lt q.1.1.1)) (by decide) λZ=>a.tok c _ ?_ q.2
 rw[show(aq.str (cG<|toString i) g.s.toks)=aq.str ⟨(gq i).toArray⟩ g.s.toks by rw[Str.ofString_eq_toList];rfl]
 show .str _ _ q.1.2
theorem Qy(c:Inv F.b g)(q:cC (VR F.b.W g) vs us)(h:HP g.σ .BitOr vs K0)(w:kj F g K0 Q):wpAny F.M A (call (.type "range") us) Q E g.s:=bI h λx e h=>bI h λi R a=>by
 obtain⟨u,rfl,H⟩:=nv e q
 obtain rfl:=P.ig R
 obtain⟨t,rfl⟩:=H.fU
 show PySem.call_range_1<|w.give.new c _ B (λR' S e=>.Tj e) a.2
set_option tactic.hygienic true in
theorem NI(K:A.handled=az)(I':Inv F.b g)(T:cC (VR F.b.W g) vs us)(h:HP g.σ .RShift vs K0)(X:kj F g K0 Q):wpAny F.M A (call (.builtin "sorted") us) Q E g.s:=bI h λv e h=>bI h λF' H Y=>by
 obtain⟨u,rfl,l⟩:=sU e T
 have ll:(lY F').length<64:=by rw[(AP F').length_eq];show Y.1
 have fin:∀{a:Addr}{J:Array aq}{h':Heap}{Z n:Nat},(∀b o,g.s.heap.get? b=I o->h'.get? b=I o)->g.s.heap.get? a=az->h'.get? a=I (fE J n)->kA J.toList (lY F')->Q (.ref a) (sh g.s h' Z):=λk1 k2 L' R=>
  X.lst I' k1 k2 L' (by rw[ay];unfold gr;show dO [_] (.v 0) (.n 1000000) (.a (.v 0)<|.n 1) (.n 64) B ll) (Dw R) Y.2
 unfold Pj at H
 cases U:g9 g.σ.U v with
 |some L=>
  replace H:=(U)▸H
  show hd λΩ c=>?_
  obtain⟨a,ys,m,rfl,f,hl,r⟩:=I'.lst l U
  show c<|FW (n:=m) ((m8)▸f) (P9 H r) Y.1 λa' J h' Z n k1 k2 L' R=>fin k1 k2 L' R
 |none=>
  rw[U]at H
  induction v with
  |p x=>show bh H
  |ref i=>
   show fB H λo e4 W=>?_
   induction o<;>first|show bh W|cases W|skip
   rename_i kb B'
   obtain⟨a,kvs,rfl,n1,D,hl,t⟩:=I'.mw l (d:=(kb,B'))<|by change g.σ.U[i]?.bind _=_;show(e4)▸?_;rfl
   have C:∀{kvs':List<|Int×aq},g.s.heap.DictOf (intKind F.b.W.prog F.b.W.w) a kvs'->kvs'.map (·.1)=F'->wpAny F.M A (call (.builtin "sorted") [.ref a]) Q E g.s:=λd ek=>by
    subst ek
    show G8 d (beq_false_of_ne n1) K (by rw[<- ay];show Y.1) λa' J h' Z n k1 k2 L' R=>fin k1 k2 L' R
   induction kb with
   |true=>
    induction B' with
    |cons _ _=>show bh W
    |nil=>
     show hd λΩ c=>?_
     obtain rfl:=aV W
     cases t
     obtain⟨o,B',ep,q,x,y,hk,j,nd⟩:=D
     show c ?_
     have:B'.toList=[]:=by induction hq:B'.toList with|nil=>rfl|cons _ _=>replace j:=(hq)▸j;cases j
     show C (kvs':=[]) #[o,B',ep,q,x,y,λe he=>absurd ((this)▸Ur.mp he) ai,bS (this) .nil,bV] B
   |false=>
    obtain⟨kvs',d,rfl⟩:=ME D
    show C d ?_
    have:∀{B':List<|Ky×V}{kvs':List<|Int×aq}{F':List Int},DH F.b.W g B' (kvs'.map λp=>(Ky.i p.1,p.2))->jr (λe=>match e.1 with | .i n=>I n | .b _=>az) B'=I F'->kvs'.map (·.1)=F':=λ{B' kvs'}=>by
     induction kvs' generalizing B' with
     |nil=>intro F' h e;cases h;obtain rfl:=aV e;rfl
     |cons p r ih=>
      intro F' h e
      cases h with
      |@cons q _ B' _ a b=>
       obtain⟨k,v⟩:=q
       obtain⟨rfl,_⟩:=a
       show fB (SO.symm.trans e) λz e1 H=>(mS H λzs U ζ=>ζ▸?_)
       obtain rfl:=aV e1
       show bS (bK)<|bS (ih b U) B
    show this t W
theorem aaO(l:A.handled=az)(k:Inv F.b g)(i:cC (VR F.b.W g) vs us)(h:HP g.σ .BitXor vs K0)(H:kj F g K0 Q):wpAny F.M A (call (.builtin "max") us) Q E g.s:=bI h λv e h=>bI h λo j q=>by
 show hd λc U=>?_
 obtain⟨u,rfl,W⟩:=sU e i
 show fB j λL Y Z=>?_
 obtain⟨a,ys,m,rfl,f,d,r⟩:=k.lst W Y
 show U<|max_list (n:=m) l ((m8)▸f) (P9 Z r) q.1 λh' w t k1=>H (.p<|.int<|xQ o) _ (g.to g.R h' w) Le.to (k.heap w k1) (.int _ _) q.2
set_option tactic.hygienic true in
theorem Vt(Y:A.handled=az)(I:Inv F.b g)(Z:cC (VR F.b.W g) vs us)(h:HP g.σ .Mod vs K0)(R:kj F g K0 Q):wpAny F.M A (call (.type "list") us) Q E g.s:=bI h λv e h=>by
 obtain⟨u,rfl,U⟩:=sU e Z
 have lst:∀{L:List P},g9 g.U v=ae L->K0 (.ref g.U.length) (g.σ.push<|.list L)->wpAny F.M A (call (.type "list") [u]) Q E g.s:=λw q=>by
  obtain⟨a,ys,m,rfl,f,W,r⟩:=I.lst U w
  show PySem.call_list_seq a (.inl af) f af af (λh' B k1 k2=>R.made I (o:=.list _) k1 (ie _) k2 (λc L' l=>#[_,ys,B,l,W,F5.mono L'.F r]) q)<|(r.sz)▸sizes W
 induction v with
 |ref i=>show bI h λL w q=>lst w q
 |p x=>
  induction x using P.casesOn<;>first|show(bI h λL w q=>lst w q) | skip
  show hd λK d=>?_
  rename_i T X
  obtain⟨⟨rfl,y,H⟩,q⟩:=h
  obtain⟨a,t1,t2,t3,rfl,f⟩:=PR.ER U
  obtain⟨k,rfl⟩:=Ft y
  show d<|PySem.call_list_range (n:=k) Y (I.fh f) (small_one (by decide) (by decide) (gm (by decide)<|bj k)<|gJ H<|by decide) ?_ (av (gM.mp H:k<=1000000)<|by decide) λh' tk acc B k1 k2 J=>?_
  ·rw[rangeSize_one]
   by_cases z:(0:Int)<k
   ·rw[if_pos z];show acm _
   ·rw[if_neg z];show(Uw (gK.mp z)<|bj k).symm
  ·show R.made I (o:=.list _) k1 (ie _) k2 (λc L' l=>#[_,acc,B,l,by rw[ay,cA];show(gM.mp H),?_]) q
   rw[show(List.range ((k:Int)).toNat).map (λ(i:Nat)=>P.int i)=((List.range ((k:Int)).toNat).map λi:Nat=>(i:Int)).map P.int from(bw ..).symm]
   show Dw<|ints_of ?_ λj v e=>?_
   ·rw[iV,J.1];simp
   ·obtain⟨t,C⟩:=J.2 j v (sB (cV) e)
    have D:=by
     have:=(aR.mp e).1
     rw[iV,J.1]at this;show this
    show#[(j),t,?_,by rw[C];simp]
    rw[cj,nN<|by simpa using D];rfl
end
theorem sP:entryFor table "dict.update.loop" = I Builtin.«dict.update.loop»:=ku<|by kernel_rfl
theorem lE:plainId "dict.update.loop" = J:=by decide +kernel
theorem Nf:typeLookup (.type "list") (cG "keys")=pure az:=by rw[dJ,ck];kernel_rfl
section
variable {E:aq->aA->Prop}
theorem ZZ{L:Array aq}{k:Nat}{Q:Option aq->aA->Prop}(p:s.heap.get? a=I (fE L k))(U:A.handled=az)
  (q:∀h' r,(∀b o,s.heap.get? b=I o->h'.get? b=I o)->Q az { s with heap:=h',toks:=r }):wpAny W.M A (getAttr? (.ref a) "keys") Q E s:=by
 have H:(["__module__", "__name__", "__qualname__", "__doc__", "__annotations__"]).contains "keys" = au:=by decide +kernel
 have v:(cG "keys").length+100<=sizeLine:=by rw[gG];decide +kernel
 obtain⟨t,g,d,r,Y⟩:=s;have R:∀w,(#[t,g,d,w,Y]:aA).TypeIs (.ref a) "list":=λm=>#[_,p,rfl];have Z:=sub_AttributeError;have c:=ru.lookup;have f:=ru.bind<|.ref a;have h:=am_list_getattr_none;repeat (any_goals (first|assumption|show R _ | ((with_reducible change wpAny _ _ (call (aq.builtin "list.__getattribute__") _ _) _ _ _);show HM ru (R _) am_entry_list_getattribute (F.args_list_getattribute_2 _ _) (meets_getattribute_miss_list a L k #[] "keys" _ Nf H v) ⟨p,U,λh' w e n=>?_⟩) | wp_step))
 obtain⟨i,j,l⟩:=n.there;unfold getattributeRaised;repeat (any_goals (first|assumption|wp_step))
 show q _ _ n.keeps
def Jh(h:Heap)(kvs:List<|Int×aq)(i:Nat)(v:aq):Prop:=∃t k u x ys n,kvs[i]?=I (k,x)/\v=.ref t/\h.get? t=I (qg ys n)/\ys.toList=[.int k u,x]
set_option backward.match.sparseCases true in
theorem QZ{I d:Addr}{l:Addr}{items:Array aq}{kvs:List<|Int×aq}{R:fP->aA->Prop}(W':HL W.prog W.w A.in1 I [I,l] [I] items.size (λi v=>items[i]?=ae v) λi h=>h.IsListIter I l i/\h.IsList l items)(H:Heap)(hd:H.get? d=az)
  (U:∀i v,items[i]?=ae v->Jh H kvs i v) (f:d≠I) (dl:d≠l) (nI:H.get? I=az) (hz:items.size<=gr) (qB:kvs.length=items.size) :
  ∀(k i:Nat) (j) (t:Tok) (s) (acc),items.size-i=k->i<=items.size->(s.heap.IsListIter I l i/\s.heap.IsList l items)->s.heap.DictOf (intKind W.prog W.w) d acc->acc.length<=i->(∀b o,H.get? b=ae o->s.heap.get? b=ae o)->
  (∀h' Y,h'.DictOf (intKind W.prog W.w) d ((kvs.drop i).foldl (λa e=>stored a e.1 e.2) acc)->(∀b o,H.get? b=ae o->h'.get? b=ae o)->R (.ok<|.ret .none) { s with heap:=h',toks:=Y })->
  codeAny W.M A (.builtin "dict.update.loop" #[[.ref d,.ref I,.int j t,.none],[]]) R s:=by
 intro k
 induction k with
 |zero=>
  intro i j t s acc J Z m B hl keep q
  show lQ sP ?_
  rw[iH lE _]
  have e:i=items.size:=di (dO [_,_] (.v 0) (.v 1) (.v 0) (.v 1) af Z)<|fZ [_,_,_] (.v 0) (.v 1) (.v 2) (.n 0) (.v 0) (.a (.v 2)<|.v 1) af (ak J)<|oJ _ _
  subst e
  unfold Builtin.«dict.update.loop»
  show ao<|W'.done _ _ _ m λh' Y L=>?_
  have U':=λb o e=>L b o (λB=>by rw[ah.mp B,nI]at e;cases e) (keep b o e)
  have F:h'.DictOf (intKind W.prog W.w) d acc:=by
   obtain⟨o,p,y,g,r⟩:=B
   show#[o,p,y,L d o (λB=>f<|ah.mp B) g,r]
  show ao<|aF ?_
  show aF ?_
  have:=q h' Y
  rw[<- qB,yH]at this
  show this F U'
 |succ k ih=>
  intro i j t s acc J Z m B hl keep q
  show lQ sP ?_
  rw[iH lE _]
  have c:=(fZ [_,_,_,_] (.a (.v 0)<|.n 1) (.v 1) (.a (.v 2)<|.n 1) (.v 3) (.a (.v 3)<|.v 0) (.v 1) af (ak J.symm)<|k8<|dO [_,_] (.v 0) (.v 1) (.v 0) (.v 1) af Z)
  show ao<|W'.item i _ _ _ c m λv h' Y hv Zb L=>?_
  have U':=λb o e=>L b o (λB=>by rw[ah.mp B,nI]at e;show bh e)<|keep b o e
  have F:h'.DictOf (intKind W.prog W.w) d acc:=by
   obtain⟨o,p,y,g,r⟩:=B
   show#[o,p,y,L d o (λB=>f<|ah.mp B) g,r]
  obtain⟨tt,C,u,x,ys,n,e1,rfl,e2,e3⟩:=U i v hv
  show ao<|eX ?_
  show ao<|wpAny_tryCatch ?_
  show ao<|i9 #[_,(U' _ _ e2),rfl] ?_
  show iB af<|ao ?_
  show ao<|j8 (U' _ _ e2)<|aF ?_
  show aF ?_
  change wpAny _ _ (match ys.toList with | [k,v]=>_|l=>_) _ _ _
  show(e3)▸?_
  show eX<|wpAny_dictSet_pairs (hsz:=by have:=gG;lia) (intKind_is W.prog W.w C u) F λh'' D K=>?_
  show aF #[oh lE _,?_]
  show ih (i+1) _ _ _ _ (di (rj [_,_,_,_,_] (.v 0) (.v 1) (.v 2) (.a (.v 1)<|.n 1) (.v 3) (.a (.v 2)<|.v 4) (.a (.v 0)<|.a (.v 4)<|.n 1) (.v 3) af (ak J) (oJ _ _)<|k8<|dO [_,_] (.a (.v 0)<|.n 1) (.v 1) (.a (.v 0)<|.n 1) (.v 1) af c)<|rj [_,_,_,_,_] (.v 0) (.v 1) (.a (.v 0)<|.n 1) (.v 2) (.v 3) (.a (.v 1)<|.a (.v 4)<|.n 1) (.a (.v 2)<|.v 4) (.v 3) af (ak J.symm) (oJ _ _)<|k8<|dO [_,_] (.v 0) (.v 1) (.v 0) (.v 1) af Z) (dO [_,_] (.a (.v 0)<|.n 1) (.v 1) (.a (.v 0)<|.n 1) (.v 1) af c) #[?_,?_] D ?_ ?_ ?_
  ·obtain⟨Q,T,X⟩:=Zb.1
   show#[Q,(K.2 I<|Ne.symm f).trans T,X]
  ·obtain⟨Q,T,X⟩:=Zb.2
   show#[Q,(K.2 l<|Ne.symm dl).trans T,X]
  ·have:=stored_length_le acc C x;show fZ [_,_,_] (.v 0) (.a (.v 1)<|.n 1) (.v 2) (.v 1) (.v 0) (.a (.v 2)<|.n 1) af hl this
  ·intro b o e
   have nb:b≠d:=λz=>by have e:=(hd)▸(z)▸e;cases e
   show(K.2 b nb).trans<|U' b o e
  ·intro h3 tk3 k1 k2
   show q h3 tk3 ?_ k2
   have lk:i<kvs.length:=(fZ [_,_,_] (.a (.v 0)<|.n 1) (.v 1) (.v 2) (.v 1) (.a (.v 0)<|.n 1) (.v 2) af (ak qB.symm) c)
   have e5:kvs.drop i=(C,x)::kvs.drop (i+1):=by
    rw[gA lk]
    have:=bD lk
    rw[e1]at this
    rw[<- aV this]
   show bS (e5)<|bS (gv) k1
theorem zf{l:Addr}{items:Array aq}{kvs:List<|Int×aq}(t:A.handled=az)(Y:s.heap.get? l=I (fE items m))(d:items.size<=gr)(f:kvs.length=items.size)(h:∀i v,items[i]?=I v->Jh s.heap kvs i v)
  (q:∀h' R,h'.DictOf (intKind W.prog W.w) s.heap.objs.size (kvs.foldl (λa e=>stored a e.1 e.2) [])->(∀b o,s.heap.get? b=I o->h'.get? b=I o)->Q (.ref s.heap.objs.size) { s with heap:=h',toks:=R }) :
  wpAny W.M A (call (.type "dict") [.ref l]) Q E s:=by
 show afw (Q₁:=λobj x=>obj=.ref s.heap.objs.size/\x={ s with heap:=s.heap.push { cls:=.type "dict",data:=.dict #[] } }) PySem.F.kt_called_dict (PySem.F.kt_typeCall_dict_1 _) PySem.F.entry_dict_init (kt_code_dict_new _ #[rfl,rfl]) ?_
 rintro obj x ⟨rfl,rfl⟩
 have H:(s.heap.push { cls:=.type "dict",data:=.dict #[] }).DictOf (intKind W.prog W.w) s.heap.objs.size []:=Heap.DictOf.new s.heap
 have p:(s.heap.push { cls:=.type "dict",data:=.dict #[] }).get? l=I (fE items m):=aQ _ Y
 show#[H.typeIs,PySem.F.args_dict_init_2 _ _,?_]
 unfold Builtin.«dict.__init__»
 show ao ?_
 unfold acT
 show ao<|wpAny_notOrdered_dict H.typeIs ?_
 show aF ?_
 change wpAny _ _ (acU "dict.__init__" s.heap.objs.size (.ref l) [] .none) _ _ _
 show ao<|i9 #[_,p,rfl] ?_
 show iB B ?_
 show ao<|ZZ p t λL j k2=>?_
 show iB B ?_
 show ao<|nR ?_
 have y:L.DictOf (intKind W.prog W.w) s.heap.objs.size []:=by
  obtain⟨o,Z,c,g,r⟩:=H
  show#[o,Z,c,k2 _ o g,r]
 have U:s.heap.objs.size<L.objs.size:=by obtain⟨o,Z,c,g,r⟩:=y;show dF g
 show ao<|BC #[_,(k2 _ _ p),rfl,_,rfl] ?_
 show aF #[oh lE _,?_]
 show QZ (HL.list (A:=A.in1.in1) t L.objs.size l (aS<|dF<|k2 _ _ p) items) s.heap (ie _) h (aS U) (bT<|dF Y) ?_ d f items.size 0 _ _ _ [] (by lia) (by lia) ?_ ?_ (aE _) ?_ ?_
 ·induction z:s.heap.get? L.objs.size with
  |none=>rfl
  |some o=>show absurd (dF<|k2 _ _<|aQ _ z)<|cP _
 ·show#[#[_,br _ B,rfl,rfl],#[_,aQ _<|k2 _ _ p,rfl,_,rfl]]
 ·show y.push _
 ·show λb o e=>aQ _<|k2 _ _<|aQ _ e
 ·intro h' R k n
  show#[rfl,q h' R k n]
end
section
variable {g:G}{E:aq->aA->Prop}{vs:List V}
theorem pairs_at(J:∀a o,g.R a=.fz o->g.get a=ae o){L:List P}(h:cC (PR W g.R) L ys):∀{w:List<|Ky×V},jr Ka L=ae w->∃kvs:List<|Int×aq,kvs.length=ys.length/\cC (λ(p:Ky×V) (q:Int×aq)=>p.1=.i q.1/\VR W g p.2 q.2) w kvs/\∀(i:Nat) (v:aq),ys[i]?=ae v->Jh g.s.heap kvs i v:=by
 induction h with
 |nil=>intro w e;obtain rfl:=aV e;show#[[],rfl,.nil,λi v e=>bh e]
 |@cons x y L ys a _ L'=>
  intro w e;show hd λM B=>(fB e λp U W'=>(mS W' λr Y Z=>?_));subst Z;obtain⟨kvs,b,c,d⟩:=L' Y;obtain⟨k,F,rfl,rfl⟩:∃k F,x=.tup [.int k,F]/\p=(.i k,.p F):=fB U λq j m=>mS m λk A C=>fB j λl D K=>#[k,q.2,by rw[P.DL D,Sb K,P.ig A],C.symm];obtain⟨t,H,n,rfl,f,_,I⟩:=a.qM;show B ?_;generalize Q:H.toList=l at I;cases I with
  |cons p1 T=>
   cases T with
   |cons X r4=>
    show hd λM B=>?_;cases r4
    obtain⟨u,rfl⟩:=p1.fU;show B ?_;show#[(k,_)::kvs,congrArg xY b,.cons #[rfl,X] c,λi v e=>?_];induction i with
    |zero=>obtain rfl:=aV e;show#[t,k,u,_,H,n,rfl,rfl,J _ _ f,Q]
    |succ i=>obtain⟨t,k,u,x,ys,n,z⟩:=d i v e;show#[t,k,u,x,ys,n,z]
theorem CS{kvs:List<|Int×aq}{k:Int}:(stored kvs k v).map (λp=>(Ky.i p.1,p.2))=stored (kvs.map λp=>(Ky.i p.1,p.2)) (.i k) v:=by
 have q:∀a:Int,(Ky.i a=Ky.i k) ↔ a=k:=λa=>#[λe=>by injection e,congrArg Ky.i];unfold stored;show(List.any_map)▸?_;have e:(kvs.any λkv=>decide (kv.1=k))=kvs.any ((λkv:Ky×aq=>decide (kv.1=Ky.i k))∘λp=>(Ky.i p.1,p.2)):=by congr 1;funext p;show decide_eq_decide.mpr (q p.1).symm
 show sB (e) ?_;split
 ·show(bw)▸?_;rw[bw];show cL λp w=>?_;change(Ky.i (if p.1=k then (p.1,v) else p).1,(if p.1=k then (p.1,v) else p).2)=if Ky.i p.1=Ky.i k then (Ky.i p.1,v) else (Ky.i p.1,p.2)
  by_cases h:p.1=k
  ·rw[if_pos h,if_pos<|(q p.1).mpr h]
  ·rw[if_neg h,if_neg λz=>h<|(q p.1).mp z]
 ·rw[aO];rfl
theorem Gm[DecidableEq α](kvs:List<|α×aq)(k:α)(v:aq)(h:(kvs.map (·.1)).Nodup):((stored kvs k v).map (·.1)).Nodup:=by
 unfold stored;by_cases c:kvs.any (λkv=>kv.1=k)=J
 ·rw[if_pos c];have e:(kvs.map λkv=>if kv.1=k then (kv.1,v) else kv).map (·.1)=kvs.map (·.1):=by rw[bw];apply cL;intro a _;change(if a.1=k then (a.1,v) else a).1=a.1;split<;>rfl
  rw[e];show h
 ·rw[if_neg c,aO,bA];show#[h,bX.mpr #[ai,bV],λa w b q=>?_];rw[bK,wN,ah]at q;rintro rfl;show c<|yG.mpr ?_;show gO w λkv H F=>(#[kv,H,by rw[decide_eq_true_eq,F,q]])
theorem N3{w:List<|Ky×V}{kvs:List<|Int×aq}(h:cC (λ(p:Ky×V) (q:Int×aq)=>p.1=.i q.1/\VR W g p.2 q.2) w kvs):∀{d:List<|Ky×V}{a:List<|Int×aq},DH W g d (a.map λp=>(Ky.i p.1,p.2))->((a.map λp=>(Ky.i p.1,p.2)).map (·.1)).Nodup->d.length+w.length<=gr->
  DH W g (w.foldl (λd e=>kU d e.1 e.2) d) ((kvs.foldl (λa e=>stored a e.1 e.2) a).map λp=>(Ky.i p.1,p.2))/\(w.foldl (λd e=>kU d e.1 e.2) d).length<=gr:=by
 induction h with
 |nil=>intro d a F H R;show#[F,R]
 |@cons p q w kvs c _ b=>intro d a F H R;obtain⟨p1,M⟩:=p;obtain⟨rfl,L⟩:=c;show sB (gv)<|sB (gv) ?_;show b (by rw[CS];show F.put L H) (by rw[CS];show Gm _ _ _ H)<|av (fH AW _)<|by rw[aX]at R;show dO [_,_,_] (.a (.a (.v 0)<|.n 1)<|.v 1) (.v 2) (.a (.v 0)<|.a (.v 1)<|.n 1) (.v 2) B R
theorem Vx(B:A.handled=az)(F':∃o,F.b.W.K.lookup sysModules=I o)(T:Inv F.b g)(H:cC (VR F.b.W g) vs us)(h:HP g.σ .Pow vs K0)(J:kj F g K0 Q):wpAny F.M A (call (.type "dict") us) Q E g.s:=bI h λx e h=>bI h λL R h=>bI h λt q U=>by
 show hd λy W=>?_
 obtain⟨u,rfl,Y⟩:=nv e H
 obtain rfl:=P.tF R
 obtain⟨a,ys,n,rfl,f,w,r⟩:=Y.oz
 obtain⟨kvs,Z,c,d⟩:=pairs_at (λD D=>T.fh) r q
 show W<|zf B (T.fh f) ((r.sz)▸w) Z (λi v e=>d i v<|bS (cV) e) λh' z k1 k2=>?_
 obtain⟨j,k⟩:=N3 c (a:=[]) .nil bV<|by show(kr)▸?_;rw[eY,GP q];show w
 obtain⟨o,m,p⟩:=DY.of<|NL k1
 show J.made T (o:=.dict au _) k2 (ie _) m (λC L' l=>#[_,o,_,l,Lh F' T,p,k,j.mono λD D h=>h.mono L']) U
noncomputable def aeB(m:Operator):String:=match m with
 |.Sub=>"str.join"
 |.MatMult=>"bytes.join"
 |.BitXor=>"bytes.split"
 |.BitAnd=>"bytes.split"
 |.Add=>"list.append"
 |.BitOr=>"bytearray.append"
 |.Pow=>"list.pop"
 |.LShift=>"list.pop"
 |.FloorDiv=>"list.extend"
 |.RShift=>"dict.pop"
 |.Div=>"dict.get"
 |.Mod=>"dict.get"
 |.Mult=>"dict.setdefault"
theorem Vh(C:Inv F.b g){u:aq}(R:VR F.b.W g x u){m:Operator}(e:yX g.U m x=J){c:Sem Bool}{Q:aq×List aq->aA->Prop}(q:Q (.builtin<|aeB m,[u]) g.s):wpAny F.M A (getMethod u (RY m) c) Q E g.s:=by
 have lst:∀{nm w:String},(g9 g.U x).isSome=J->Slot "list" nm w->typeOf (.builtin w)=pure (.type "method_descriptor")->Q (.builtin w,[u]) g.s->wpAny F.M A (getMethod u nm c) Q E g.s:=λU W Y q=>by show hd λd r=>?_;obtain⟨L,y⟩:=bQ.mp U;obtain⟨a,ys,n,rfl,f,_⟩:=C.lst R y;show r<|ni #[_,f,rfl] PySem.F.plainAttrs_list W Y (λb z=>by obtain rfl:=Ml z;show#[_,f,rfl]) q
 have H:∀{nm w:String},(mU g.U x).isSome=J->Slot "dict" nm w->typeOf (.builtin w)=pure (.type "method_descriptor")->Q (.builtin w,[u]) g.s->wpAny F.M A (getMethod u nm c) Q E g.s:=λU W Y q=>by show hd λd r=>?_;obtain⟨L,y⟩:=bQ.mp U;obtain⟨a,kvs,rfl,j,D,_⟩:=C.mw R y;show r<|ni D.mapOf.typeIs PySem.F.plainAttrs_dict W Y D.mapOf.noDict q
 have v:∀{nm w:String},(x.p?.bind P.iQ).isSome=J->Slot "bytes" nm w->typeOf (.builtin w)=pure (.type "method_descriptor")->Q (.builtin w,[u]) g.s->wpAny F.M A (getMethod u nm c) Q E g.s:=λU W Y q=>by obtain⟨L,y⟩:=bQ.mp U;show fB y λp Z h=>?_;obtain rfl:=V.ju Z;obtain rfl:=P.gS h;obtain⟨⟨t,rfl⟩,_⟩:=PR.f7 R;show ni (BB _ _ _) FB.plainAttrs_bytes W Y (λb z=>by cases z) q
 induction m with
 |Sub=>show hd λd r=>?_;obtain⟨L,y⟩:=bQ.mp e;show fB y λp Z h=>?_;obtain rfl:=V.ju Z;obtain rfl:=P.tC h;obtain⟨⟨t,rfl⟩,_⟩:=PR.nq R;show r<|ni (typeIs_str _ _ _) PySem.F.plainAttrs_str PySem.F.slot_str_join PySem.F.type_str_join (λb z=>by cases z) q
 |MatMult=>show v e rC yQ q
 |BitXor=>show v e jO qz q
 |BitAnd=>show v e jO qz q
 |Add=>show lst e PySem.F.slot_list_append PySem.F.type_list_append q
 |BitOr=>
  show hd λd r=>?_;obtain⟨l,y⟩:=bQ.mp e;obtain⟨rfl,Z⟩:=abl y;obtain⟨⟨a,f,k⟩,o,rfl,i⟩:=C.obj R Z;cases i.symm.trans f.1
  show r<|ni #[_,f.2.2,rfl] B9 oA Bf (λb z=>by obtain rfl:=Ml z;show#[_,f.2.2,rfl]) q
 |Pow=>show lst e lN Dh q
 |LShift=>show lst e lN Dh q
 |FloorDiv=>show lst e Bx PySem.F.type_list_extend q
 |RShift=>show H e Di PySem.F.type_dict_pop q
 |Div=>show H e lO Dj q
 |Mod=>show H e lO Dj q
 |Mult=>show H e ya PySem.F.type_dict_setdefault q
end
section
variable {g:G}{E:aq->aA->Prop}{vs:List V}
theorem IU{L:List P}{y:P}(e:L.getLast?=I y):L[L.length-1]?=I y/\L.dropLast=L.eraseIdx (L.length-1):=
 #[sB (List.getLast?_eq_getElem?) e,(List.eraseIdx_length_sub_one ..).symm]
theorem kj.put(q:kj F g K0 Q){v:V}{u:aq}{o:O}{t:Nat}(M:Inv F.b #[g.R,g.ρ,g.σ.put i o,sh g.s h' t])(w:VR F.b.W g v u)(H:K0 v<|g.σ.put i o):Q u<|sh g.s h' t:=q v u #[g.R,g.ρ,g.σ.put i o,sh g.s h' t] #[λZ Z e=>e,bH _] M w H
theorem PR.KL:VR W g (.p .none) .none:=PR.none
theorem Er{f:P->Option α}{a:α}(h:x.p?.bind f=I a):∃p,x=.p p/\f p=I a:=let ⟨p,e,h⟩:=dB.mp h;#[p,V.ju e,h]
theorem MT{b:List UInt8}(h:b.length+2<=gr):((mO b).map P.bytes).length<=gr/\∀s∈mO b,s.length<=gr:=by
 rw[ay];unfold mO;split
 ·show#[show 1<=gr by decide,all1<|fN h]
 ·show#[av (AX ..)<|OL h,λs q=>av (CD _ _ _ _ q)<|fN h]
theorem UM{b:List UInt8}{c:UInt8}(h:b.length+2<=gr):((j2 b c).map P.bytes).length<=gr/\∀s∈j2 b c,s.length<=gr:=by
 rw[ay];unfold j2;split
 ·show#[show 1<=gr by decide,all1<|fN h]
 ·have q:=yl b.toArray 1<|(pR b.toArray #[c] 0 b.length).take<|b.length+1;show#[?_,λs w=>?_]
  ·rw[ay,q.2];show av (cU<|Kl ..) h
  ·show gO w λx H F=>sB F<|av (q.1 x H)<|fN h
theorem Tg:∀{q:List<|Ky×α},(B0 q k).length<=q.length:=by
 intro q;induction q with
 |nil=>show aE _
 |cons e r w=>
  rw[Ia];split
  ·show eV _
  ·show cU w
theorem PG{u f:aq}{y:P}{q:Ky}{k:Nat->aq->Prop}(e:Inv F.b g)(c:VR F.b.W g x u)(W:PR F.b.W g.R y f)(H:mU g.U x=I d)(Y:y.Ax d.1=I q){dv:V}{dflt:aq}(hd:VR F.b.W g dv dflt):∃a kvs,u=.ref a/\a≠sysModules/\g.s.heap.DictOf (jh F.b.W d.1) a kvs/\VR F.b.W g ((fR d.2 q).getD dv) ((valueAt kvs q).getD dflt):=by
 obtain⟨a,kvs,rfl,h,D,_,L⟩:=e.mw c H;show#[a,kvs,rfl,h,D,?_];obtain⟨k1,k2⟩:=L.get;induction w:fR d.2 q with
 |none=>show(k2 w)▸hd
 |some z=>obtain⟨v,M,U⟩:=k1 z w;show bS (M) U
theorem ae5(hg:A.guards=ae [])(I:Inv F.b g){u:aq}(Z:VR F.b.W g x u)(L':cC (VR F.b.W g) vs us){m:Operator}(h:bmW g.σ m x vs K0)(U':kj F g K0 Q):dZ F.M A (call (.builtin<|aeB m) (u::us)) Q E g.s:=by
 induction m with
 |Sub=>show bI h λsep e h=>bI h λss H w=>?_;obtain⟨p,rfl,e⟩:=Er e;obtain rfl:=P.tC e;obtain⟨L,R,J⟩:=dB.mp H;obtain⟨v,e5,e6⟩:=dB.mp R;obtain⟨W,rfl,B⟩:=sU e5 L';obtain⟨⟨tk,rfl⟩,_⟩:=PR.nq Z;obtain⟨a,ys,n,rfl,f,l,r⟩:=I.lst B e6;show cW<|M1 f (abM J r) w.1.1 (bS (GP J) l) w.1.2 λt' k=>U'.tok I (z:=.p<|.str<|eg sep ss) k (.str _ _ w.1.2) w.2
 |MatMult=>show bI h λsep e h=>bI h λss H w=>?_;obtain⟨p,rfl,e⟩:=Er e;obtain rfl:=P.gS e;obtain⟨L,R,J⟩:=dB.mp H;obtain⟨v,e5,e6⟩:=dB.mp R;obtain⟨W,rfl,B⟩:=sU e5 L';obtain⟨⟨tk,rfl⟩,_⟩:=PR.f7 Z;obtain⟨a,ys,n,rfl,f,l,r⟩:=I.lst B e6;show cW<|IE f (agW J r) (sizes w.1) λt' k=>U'.tok I (z:=.p<|.bytes<|eg sep ss) k (.bytes _ _ w.1) w.2
 |BitXor=>
  obtain⟨rfl,h⟩:=h;show bI h λb e w=>?_;obtain⟨p,rfl,e⟩:=Er e;obtain rfl:=P.gS e;obtain⟨⟨tk,rfl⟩,B⟩:=PR.f7 Z;cases L'
  obtain⟨h6,w⟩:=w;obtain⟨l1,l2⟩:=MT h6;show cW<|Q8 B λvs k hb=>U'.lst I (λb o e=>aQ _ e) (ie _) (br _ af) l1 (YH hb l2) w
 |BitAnd=>show bI h λb e h=>bI h λcs H h=>bI h λc R w=>(hd λΩ ω=>?_);obtain⟨p,rfl,e⟩:=Er e;obtain rfl:=P.gS e;obtain⟨⟨tk,rfl⟩,B⟩:=PR.f7 Z;show fB H λq J e5=>?_;obtain⟨W,rfl,hl2⟩:=nv J L';obtain rfl:=P.gS e5;obtain rfl:=Rc R;obtain⟨⟨tk2,rfl⟩,_⟩:=PR.f7 hl2;obtain⟨h6,w⟩:=w;obtain⟨l1,l2⟩:=UM h6;show ω ?_;show cW<|MD B λvs k hb=>U'.lst I (λb o e=>aQ _ e) (ie _) (br _ af) l1 (YH hb l2) w
 |Add=>show bI h λy e h=>bI h λl H w=>?_;obtain⟨W,rfl,B⟩:=nv e L';show I.F9 Z H (T:=λu=>dZ F.M A (call (.builtin "list.append") [u,W]) Q E g.s) λa ys n f Y r put=>?_;show cW<|Mt #[_,f] (λh' pl C=>?_)<|sB (r.sz)<|sizes Y;obtain⟨n',K⟩:=pl;show U'.put (put K C (by rw[aj];show w.1)<|by rw[lI];show r.append<|.cons B .nil) PR.KL w.2
 |BitOr=>
  show bI h λy e h=>bI h λl H h=>bI h λc R w=>?_;obtain⟨W,rfl,B⟩:=nv e L';obtain⟨j,rfl,hj,rfl⟩:=CN R;obtain⟨t2,rfl⟩:=B.fU;obtain⟨rfl,J⟩:=abl H;obtain⟨⟨a,f,Y⟩,a',rfl,e6⟩:=I.obj Z J;cases e6.symm.trans f.1
  show GD hg f.2.2 hj.1 hj.2 (sizes<|w.1) λh' K C=>?_;have K:h'.get? a'=ae (Rv (l.2++[j.toNat.toUInt8]).toArray):=by rw[K,List.push_toArray]
  show U'.put (I.Wy (o':=.sA<|l.2++[j.toNat.toUInt8]) g.s.toks J (λh=>by cases h) f.1 f.2.1 K C λx=>#[a',x,bS (aj) w.1]) PR.KL w.2
 |Pow=>
  obtain⟨rfl,h⟩:=h;show bI h λl H h=>bI h λy ey w=>?_;cases L'
  show I.F9 Z H (T:=λu=>dZ F.M A (call (.builtin "list.pop") [u]) Q E g.s) λa ys n f Y r put=>?_;obtain⟨q1,q2⟩:=IU ey;obtain⟨v,X,hv2⟩:=r.get q1;show cW<|Po f (sB (r.sz)<|sB (cV) X) ((r.sz)▸Y) λm' h' K C=>?_;show U'.put (v:=.p y) (put K C (by rw[List.length_dropLast];show av (rQ _ _) Y)<|by rw[wO,<- r.sz,q2];show r.erase _) hv2 w
 |LShift=>show bI h λj e h=>bI h λl H h=>bI h λy ey w=>(fB e λq J e5=>?_);obtain⟨W,rfl,B⟩:=nv J L';obtain rfl:=P.ig e5;obtain⟨t2,rfl⟩:=B.fU;obtain⟨h0,ey,_⟩:=Bt ey;show I.F9 Z H (T:=λu=>dZ F.M A (call (.builtin "list.pop") [u,_]) Q E g.s) λa ys n f Y r put=>(hd λΩ ω=>?_);obtain⟨v,X,hv2⟩:=r.get ey;show ω ?_;show cW<|Ng f h0 ((cV)▸X) (sB (r.sz) Y) λm' h' K C=>?_;show U'.put (v:=.p y) (put K C (av (List.length_eraseIdx_le ..) Y)<|by rw[wO];show r.erase _) hv2 w
 |FloorDiv=>show bI h λzs e h=>bI h λl H w=>(hd λΩ ω=>?_);show fB e λq J e5=>?_;obtain⟨W,rfl,B⟩:=nv J L';obtain rfl:=P.tF e5;obtain⟨b,ws,n2,rfl,f2,hz2,r2⟩:=B.oz;show ω<|I.F9 Z H (T:=λu=>dZ F.M A (call (.builtin "list.extend") [u,_]) Q E g.s) λa ys n f Y r put=>?_;show cW<|Hq f (I.fh f2) ((r.sz)▸(r2.sz)▸w.1) λm' h' K C=>?_;show U'.put (put K C (by rw[aj];show w.1)<|by rw[HS];show r.append r2) PR.KL w.2
 |RShift=>
  show bI h λy e h=>bI h λd H h=>bI h λq R h=>bI h λz J w=>?_;obtain⟨W,rfl,B⟩:=nv e L';have U:(keyPart W).isSome=aB:=by
   induction jH:d.2.1 with
   |true=>rw[jH]at R;obtain⟨i,e,_⟩:=cB.mp R;obtain rfl:=P.gS e;obtain⟨⟨t,rfl⟩,_⟩:=B.f7;rfl
   |false=>rw[jH]at R;obtain⟨i,e,_⟩:=cB.mp R;obtain rfl:=P.ig e;obtain⟨t,rfl⟩:=B.fU;rfl
  show I.Pk Z H (T:=λu=>dZ F.M A (call (.builtin "dict.pop") [u,W]) Q E g.s) λa kvs n D Y r put=>?_;obtain⟨v,X,hv2⟩:=(r.get).1 z J;show cW<|BE Di D.mapOf.typeIs PySem.F.entry_dict_pop (PySem.F.args_dict_pop_2 _ _) (meets_dict_pop_there (d:=a) (hkey:=(yg R B)) (hrest:=.inl af) (hpart:=U)) #[kvs,v,D,by rw[<- r.len];show sizes Y,X,λh' Xs C=>?_];show U'.put (put Xs C (av Tg Y)<|r.del<|zg.nd D) hv2 w
 |Div=>show bI h λy e h=>bI h λd H h=>bI h λq R w=>?_;obtain⟨W,rfl,B⟩:=nv e L';obtain⟨a,kvs,rfl,n1,D,hr⟩:=PG (k:=λ_ _=>True) I Z B H R PR.KL;show cW<|BE lO D.mapOf.typeIs Cu (PySem.F.args_dict_get_2 _ _) (meets_dict_get (hkey:=yg R B) (hd:=beq_false_of_ne n1)) #[_,D.mapOf,U'.tok I _ hr w]
 |Mod=>show bI h λyz e h=>bI h λy e1 h=>bI h λd H h=>bI h λq R w=>?_;obtain⟨W,ud,rfl,B,hd⟩:=Rb e L';rw[V.ju e1]at B;obtain⟨a,kvs,rfl,n1,D,hr⟩:=PG (k:=λ_ _=>True) I Z B H R hd;show cW<|BE lO D.mapOf.typeIs Cu (PySem.F.args_dict_get_3 _ _ _) (meets_dict_get_default (hkey:=yg R B) (hd:=beq_false_of_ne n1) (dflt:=ud)) #[_,D.mapOf,U'.tok I _ hr w]
 |Mult=>
  show bI h λyz e h=>bI h λy e1 h=>bI h λd H h=>bI h λq R w=>?_;obtain⟨W,ud,rfl,B,hd⟩:=Rb e L';rw[V.ju e1]at B;show I.Pk Z H (T:=λu=>dZ F.M A (call (.builtin "dict.setdefault") [u,W,ud]) Q E g.s) λa kvs n D Y r put=>?_;obtain⟨k1,k2⟩:=r.get;show cW<|BE ya D.mapOf.typeIs PySem.F.entry_dict_setdefault (PySem.F.args_dict_setdefault_3 _ _ _) (kt_meets_setdefault (jh F.b.W d.2.1) a (yg R B) (beq_false_of_ne n) ud) #[kvs,D,sB (r.len)<|sizes Y,λv L'=>?_,λL' h' D' C=>?_]
  ·induction J:fR d.2.2 q with
   |none=>rw[k2 J]at L';show bh L'
   |some z=>
    obtain⟨v',q1,q2⟩:=k1 z J;cases q1.symm.trans L'
    unfold aaY at w;rw[J]at w;show U'.tok I _ q2 w
  ·induction J:fR d.2.2 q with
   |some z=>obtain⟨v',q1,q2⟩:=k1 z J;replace L':=(q1)▸L';show pO L'
   |none=>unfold aaY at w;replace w:=(J)▸w;show U'.put (put D' C (av AW w.1)<|r.put hd<|zg.nd D) hd w.2
end
theorem adK{g:G}{E:aq->aA->Prop}{vs:List V}(S:rU F)(H:Inv F.b g){b:Operator}(q:cC (VR F.b.W g) vs us)(h:HP g.σ b vs K0)(w:kj F g K0 Q):dZ F.M F.A (call (So b) us) Q E g.s:=by
 have R:=S.ok.handled;induction b with
 |Add=>show cW<|Jq H q h w
 |MatMult=>show cW<|Jq H q h w
 |FloorDiv=>show cW<|Jq H q h w
 |Sub=>show cW<|QG R H q h w
 |Div=>show Vr S.ok.guards H q h w
 |LShift=>show cW<|ZP H q h w
 |BitAnd=>show cW<|aa2 H q h w
 |Mult=>show cW<|aaN H q h w
 |BitOr=>show cW<|Qy H q h w
 |RShift=>show cW<|NI R H q h w
 |BitXor=>show cW<|aaO R H q h w
 |Mod=>show cW<|Vt R H q h w
 |Pow=>show cW<|Vx R S.sm H q h w
theorem U1{M:ir}(b:Operator)(h:Heap):∃k,(k=rS.frame∨k=rW∨k=pC)/\gb M h (keeperOf<|So b) k:=by induction b<;>first|show vM _ h|show CU _ h
theorem aed(b:Operator){args:E}(w:NP args):Ev<|.bi b args:=λ{F x g X K0 Q E} S q d h e a=>vF q λy p L pos q=>aZ q λo1 q=>aZ q λo2 o3=>aZ o1 λg1 g3=>aZ g1 λg1 H=>by
 rw[yb]
 show aL<|cW<|tE d.za S.eo (gH g1) (cI H) (cI g3) ?_
 show xx (P:=λZ=>True) o2 (λh Z=>U1 b h)<|w S o3 o2 d h e λvs us g1 f c M R=>#[trivial,adK S c M R<|a.from f]
theorem ac3(m:Operator){a args:E}(j:Ev a)(M:NP args):Ev<|.bm m a args:=λ{F x g X K0 Q E} S q n h w R=>GV q λy nm ap L pos q=>aZ q λo1 q=>aZ q λo2 q=>aZ q λo3 q=>aZ q λo4 o5=>by
 obtain rfl:=cI o1
 show LH o2 o3<|j S o4 n h w λb c k1 U k i H d=>?_
 show Vh k i H.1<|xx (P:=λf=>True) (eH (eH o3).2).2 (λh f=>vM _ h)<|M S o5 (eH (eH o3).2).2 k H.2 w λvs us e l W Y Z=>#[trivial,ae5 S.ok.guards W (i.mono l) Y Z<|R.from<|U.trans l]
structure Vs(x:Stmt) where
 asg:Option { t:List Expr×Expr×Pos // x=.Assign t.1 t.2.1 t.2.2 }:=az
 aug:Option { t:Expr×Operator×Expr×Pos // x=.AugAssign t.1 t.2.1 t.2.2.1 t.2.2.2 }:=az
 ifs:Option { t:Expr×List Stmt×List Stmt×Pos // x=.If t.1 t.2.1 t.2.2.1 t.2.2.2 }:=az
 yu:Option { t:Expr×List Stmt×List Stmt×Pos // x=.While t.1 t.2.1 t.2.2.1 t.2.2.2 }:=az
 kP:Option { t:Expr×Expr×List Stmt×List Stmt×Pos // x=.For t.1 t.2.1 t.2.2.1 t.2.2.2.1 t.2.2.2.2 }:=az
 ret:Option { t:Option Expr×Pos // x=.Return t.1 t.2 }:=az
 pY:Option { t:Option Expr×Option Expr×Pos // x=.Raise t.1 t.2.1 t.2.2 }:=az
 Gv:Option { t:List Stmt×List ExceptHandler×List Stmt×List Stmt×Pos // x=.Try t.1 t.2.1 t.2.2.1 t.2.2.2.1 t.2.2.2.2 }:=az
 ex:Option { t:Expr×Pos // x=.Expr t.1 t.2 }:=az
 pass:Option { t:Pos // x=.Pass t }:=az
 cont:Option { t:Pos // x=.Continue t }:=az
noncomputable def Ay(x:Stmt):Vs x:=match x with
 |.Assign a b c=>{ asg:=I #[(a,b,c),rfl] }
 |.AugAssign a b c d=>{ aug:=I #[(a,b,c,d),rfl] }
 |.If a b c d=>{ ifs:=I #[(a,b,c,d),rfl] }
 |.While a b c d=>{ yu:=I #[(a,b,c,d),rfl] }
 |.For a b c d e=>{ kP:=I #[(a,b,c,d,e),rfl] }
 |.Return a b=>{ ret:=I #[(a,b),rfl] }
 |.Raise a b c=>{ pY:=I #[(a,b,c),rfl] }
 |.Try a b c d e=>{ Gv:=I #[(a,b,c,d,e),rfl] }
 |.Expr a b=>{ ex:=I #[(a,b),rfl] }
 |.Pass a=>{ pass:=I #[a,rfl] }
 |.Continue a=>{ cont:=I #[a,rfl] }
 |_=>{}
section
variable {T:Stmt->Prop}{x:Stmt}
def Nk(x:Stmt)(G:Expr->Expr->Bool):Bool:=opt (Ay x).asg λt=>oq t.1.1 λy r=>r.isEmpty&&G y t.1.2.1
@[elab_as_elim]theorem DW{G:Expr->Expr->Bool}(h:Nk x G=J)(k:∀y v p,G y v=J->T (.Assign [y] v p)):T x:=ia h λt w h=>t.2▸
 iK h λy r h=>aZ h λg h=>je (T:=λr=>T<|.Assign (y::r) t.1.2.1 t.1.2.2) g<|k y t.1.2.1 t.1.2.2 h
def ae8(x:Stmt)(G:Expr->Operator->Expr->Bool):Bool:=opt (Ay x).aug λt=>G t.1.1 t.1.2.1 t.1.2.2.1
@[elab_as_elim]theorem Qn{G:Expr->Operator->Expr->Bool}(h:ae8 x G=J)(k:∀a b c p,G a b c=J->T (.AugAssign a b c p)):T x:=ia h λt w h=>t.2▸k _ _ _ _ h
def ael(x:Stmt)(G:Expr->List Stmt->List Stmt->Bool):Bool:=opt (Ay x).ifs λt=>G t.1.1 t.1.2.1 t.1.2.2.1
@[elab_as_elim]theorem Z7{G:Expr->List Stmt->List Stmt->Bool}(h:ael x G=J)(k:∀a b c p,G a b c=J->T (.If a b c p)):T x:=ia h λt w h=>t.2▸k _ _ _ _ h
def ac4(x:Stmt)(G:Expr->List Stmt->Bool):Bool:=opt (Ay x).yu λt=>t.1.2.2.1.isEmpty&&G t.1.1 t.1.2.1
@[elab_as_elim]theorem aaH{G:Expr->List Stmt->Bool}(h:ac4 x G=J)(k:∀a b p,G a b=J->T (.While a b [] p)):T x:=ia h λt w h=>t.2▸aZ h λg h=>je g<|k t.1.1 t.1.2.1 t.1.2.2.2 h
def abC(x:Stmt)(G:Expr->Expr->List Stmt->Bool):Bool:=opt (Ay x).kP λt=>t.1.2.2.2.1.isEmpty&&G t.1.1 t.1.2.1 t.1.2.2.1
@[elab_as_elim]theorem QV{G:Expr->Expr->List Stmt->Bool}(h:abC x G=J)(k:∀a b c p,G a b c=J->T (.For a b c [] p)):T x:=ia h λt w h=>t.2▸aZ h λg h=>je g<|k t.1.1 t.1.2.1 t.1.2.2.1 t.1.2.2.2.2 h
def aaT(x:Stmt)(G:Option Expr->Bool):Bool:=opt (Ay x).ret λt=>G t.1.1
@[elab_as_elim]theorem QY{G:Option Expr->Bool}(h:aaT x G=J)(k:∀a p,G a=J->T (.Return a p)):T x:=ia h λt w h=>t.2▸k _ _ h
def Q3(x:Stmt)(G:Str->wD->Bool):Bool:=opt (Ay x).pY λt=>t.1.2.1.isNone&&opt t.1.1 λy=>wZ y λnm L=>oq L λc r=>r.isEmpty&&xe c λc w w=>G nm c
@[elab_as_elim]theorem PN{G:Str->wD->Bool}(h:Q3 x G=J)(k:∀nm p1 c n q g p,G nm c=J->T (.Raise (I<|.Call (.Name nm p1) [.Constant c n q] [] g) az p)):T x:=ia h λt Z h=>t.2▸aZ h λw h=>xJ w (ia h λy H h=>
 (H)▸vF (T:=λy=>T<|.Raise (I y) az t.1.2.2) h λnm p1 L g h=>iK (T:=λL=>T<|.Raise (I<|.Call (.Name nm p1) L [] g) az t.1.2.2) h λc r h=>aZ h λw h=>je (T:=λr=>T<|.Raise (I<|.Call (.Name nm p1) (c::r) [] g) az t.1.2.2) w
  (vI (T:=λc=>T<|.Raise (I<|.Call (.Name nm p1) [c] [] g) az t.1.2.2) h λc n q h=>k nm p1 c n q g t.1.2.2 h))
def Zx(x:Stmt)(G:List Stmt->List ExceptHandler->Bool):Bool:=opt (Ay x).Gv λt=>t.1.2.2.1.isEmpty&&(t.1.2.2.2.1.isEmpty&&G t.1.1 t.1.2.1)
@[elab_as_elim]theorem Qo{G:List Stmt->List ExceptHandler->Bool}(h:Zx x G=J)(k:∀a b p,G a b=J->T (.Try a b [] [] p)):T x:=ia h λt w h=>t.2▸aZ h λg h=>aZ h λq h=>je g<|je (T:=λd=>T<|.Try t.1.1 t.1.2.1 [] d t.1.2.2.2.2) q<|k t.1.1 t.1.2.1 t.1.2.2.2.2 h
def vEx(x:Stmt)(G:Expr->Bool):Bool:=opt (Ay x).ex λt=>G t.1.1
@[elab_as_elim]theorem ae7{G:Expr->Bool}(h:vEx x G=J)(k:∀a p,G a=J->T (.Expr a p)):T x:=ia h λt w h=>t.2▸k _ _ h
def XU(x:Stmt):Bool:=(Ay x).pass.isSome
@[elab_as_elim]theorem VE(h:XU x=J)(k:∀p,T<|.Pass p):T x:=let ⟨t,_⟩:=bQ.mp h;t.2▸k _
def YT(x:Stmt):Bool:=(Ay x).cont.isSome
@[elab_as_elim]theorem WG(h:YT x=J)(k:∀p,T<|.Continue p):T x:=let ⟨t,_⟩:=bQ.mp h;t.2▸k _
noncomputable def vH(h:ExceptHandler)(G:Str->List Stmt->Bool):Bool:=match h with
 |.ExceptHandler (I x) az b _=>s8 x λn w=>G n b
 |_=>au
@[elab_as_elim]theorem agP{T:ExceptHandler->Prop}{h:ExceptHandler}{G:Str->List Stmt->Bool}(q:vH h G=J)(k:∀n p b g,G n b=J->T (.ExceptHandler (I<|.Name n p) az b g)):T h:=by
 cases h with
 |ExceptHandler x n b g=>
  induction x with
  |none=>show(aD q).elim
  |some x=>
   induction n with
   |some n=>show(aD q).elim
   |none=>show nG (T:=λx=>T<|.ExceptHandler (I x) az b g) (G:=λn w=>G n b) q λn p q=>k n p b g q
end
noncomputable def AK(x:Expr):Bool:=iG 8 x.ctorIdx&&iG x.ctorIdx 10
set_option backward.match.sparseCases true in
noncomputable def E8:Expr->Bool
 |.Starred _ _=>J
 |_=>au
def vW(g:Sc)(y v:Expr):Bool:=(!AK v||((vw v).comp.isSome&&((vw y).attr.isSome||s8 y λt w=>!(g.kinds.lookup t==I .local))))&&((vw y).list.isNone&&!((vw v).tup.isSome&&(vw y).tup.isSome))
set_option backward.match.sparseCases true in
noncomputable def vD(g:Sc)(line:Nat):Expr->Option Str
 |.Name nm pos=>if (g.kinds.lookup nm==I .local&&pos.line==line)=J then I nm else az
 |_=>az
set_option backward.match.sparseCases true in
def iu(q:Sc)(g:List Expr):List Str:=g.filterMap (vD q ((g.head?.map (·.pos.line)).getD 0))
noncomputable def IJ(q:Sc)(w:Bool)(g vs:List Expr):Bool:=(g.length==2||g.length==3)&&(vs.length==g.length&&(!vs.any E8&&(match w with
 |true=>(iu q g).length==g.length&&((iu q g).eraseDups.length==(iu q g).length&&(!vs.all (foldedForSure 8)&&!vs.all (constantsAlone 8)))
 |false=>(iu q g).length != g.length)))
noncomputable def YX:Option Obj->Bool
 |some ⟨_,_,.cls _,_⟩=>J
 |_=>au
def excIn(K:Frag)(C:Addr):Bool:=instIn K (.ref C) (.type "tuple")==I au&&(YX (K.lookup C)&&(subIn K (.ref C) (.type "BaseException")==I J&&subIn K (.ref C) (.ref C)==I J))
noncomputable def XW(k:wD):Bool:=match k with
 |.str s=>decide (s.cps.toList.length<=gr)
 |_=>au
section
variable (K:Frag)
mutual
noncomputable def okS(g:Sc):S->Stmt->Bool
 |.asg t e,x=>Nk x λy v=>vW g y v&&(xw K g t y&&lj K g e v)
 |.yV i m Z t it H elt,x=>Nk x λy v=>s8 y λnm p=>k7 g nm i&&(g.kinds.lookup nm==I .local&&(p.line==v.pos.line&&Kz v λh tt F ifs w=>!(w.names.any λq=>q.1==nm&&(q.2==.local||q.2==.cell))&&(uE g w m&&(sS F&&(lj K g it F&&(xw K (g.deep w) t tt&&(uB K (g.deep w) H ifs&&lj K (g.deep w) elt h)))))))
 |.mV f j M,x=>Nk x λy v=>HZ y λL d d=>HZ v λws d d=>gU L&&(gU ws&&(IJ g f L ws&&(zd K g j L&&qp K g M ws)))
 |.aug t op e,x=>ae8 x λtx o v=>decide (o=Ox op)&&(xw K g t tx&&lj K g e v)
 |.ifs t a b,x=>ael x λy R l=>Ou K g t y&&(nL g a R&&nL g b l)
 |.yu t b,x=>ac4 x λy l=>Ou K g t y&&nL g b l
 |.kP t it b,x=>abC x λy F l=>sS F&&(xw K g t y&&(lj K g it F&&nL g b l))
 |.MY t a b c,x=>abC x λy F l=>(vw y).tup.isSome&&(xw K g t y&&(nL g c l&&wZ F λnm L=>qP g nm&&(mq K nm==I (.type "zip")&&(gU L&&qp K g (.cons a<|.cons b .nil) L))))
 |.ret e,x=>aaT x λo=>opt o λy=>lj K g e y
 |.Px,x=>aaT x λo=>o.isNone
 |.pY c,x=>Q3 x λnm k=>qP g nm&&(mq K nm==I (.ref c)&&(gB c BP&&XW k))
 |.Gv b c i p,x=>Zx x λl U=>nL g b l&&oq U λv r=>r.isEmpty&&vH v λn W=>qP g n&&(mq K n==I (.ref c)&&(excIn K c&&oq W λY r=>r.isEmpty&&Nk Y λy v=>s8 y λnm d=>k7 g nm i&&xe v λk d d=>Yg p k))
 |.Hu b,x=>Zx x λl d=>nL g b l
 |.ex e,x=>vEx x λy=>!AK y&&lj K g e y
 |.pass,x=>XU x
 |.cont,x=>YT x
 |.dead,_=>J
 |_,_=>au
noncomputable def nL(g:Sc):S->List Stmt->Bool
 |.nil,x=>x.isEmpty
 |.cons s r,x=>oq x λy t=>okS g s y&&nL g r t
 |.Ug _ r,x=>nL g r x
 |_,_=>au
end
end
inductive FlR (W:Pw) (g:G):Fl->Flow->Prop
 |next:FlR W g .next .next
 |cont:FlR W g .cont .cont
 |ret {v:V}{u:aq} (h:VR W g v u):FlR W g (.ret v) (.ret u)
def FD(F:Fr)(g:G)(K0:Fl->St->Prop)(Q:Flow->aA->Prop):Prop:=∀f fl q,Le g q->Inv F.b q->FlR F.b.W q f fl->K0 f q.σ->Q fl q.s
theorem FD.from{g q:G}{K0:Fl->St->Prop}{Q:Flow->aA->Prop}(h:FD F g K0 Q)(L:Le g q):FD F q K0 Q:=λf fl k w=>h f fl k<|L.trans w
def Top(F:Fr):Prop:=∃l,F.A.frames=I (F.env::l)
def Sx(q:S):Prop:=∀⦃F:Fr⦄ ⦃x:Stmt⦄ ⦃g:G⦄ ⦃X:XX⦄ ⦃K0:Fl->St->Prop⦄ ⦃Q:Flow->aA->Prop⦄ ⦃E:aq->aA->Prop⦄,
 rU F->Top F->okS F.b.W.K F.sc q x=J->Inv F.b g->ex F.Γ X q g.σ K0->An F X E->FD F g K0 Q->dZ F.M F.A (exec x F.env) Q E g.s
def Fq(q:S):Prop:=∀⦃F:Fr⦄ ⦃x:List Stmt⦄ ⦃g:G⦄ ⦃X:XX⦄ ⦃K0:Fl->St->Prop⦄ ⦃Q:Flow->aA->Prop⦄ ⦃E:aq->aA->Prop⦄,
 rU F->Top F->nL F.b.W.K F.sc q x=J->Inv F.b g->ex F.Γ X q g.σ K0->An F X E->FD F g K0 Q->dZ F.M F.A (execs x F.env) Q E g.s
theorem aal:Fq .nil:=λ{F x g X K0 Q E} S tp q H h R w=>je (T:=λx=>dZ F.M F.A (execs x F.env) Q E g.s) q<|bB<|w .next .next g (Le.refl g) H .next h
theorem VG{s r:S}(L:Sx s)(M:Fq r):Fq<|.cons s r:=λ{F x g X K0 Q E} S tp q d h c w=>iK q λy W q=>aZ q λo1 o2=>by
 rw[HN]
 show aL<|L S tp o1 d h c λf fl g1 b a R H=>?_
 induction R with
 |next=>show M S tp o2 a H c<|w.from b
 |cont=>show bB<|w .cont .cont g1 b a .cont H
 |ret U=>show bB<|w _ _ g1 b a (.ret U) H
theorem WE:Sx .pass:=λ{F x g X K0 Q E} S tp q H h R w=>VE (T:=λx=>dZ F.M F.A (exec x F.env) Q E g.s) q λp=>ic<|bB<|w .next .next g (Le.refl g) H .next h
theorem WM:Sx .cont:=λ{F x g X K0 Q E} S tp q H h R w=>WG (T:=λx=>dZ F.M F.A (exec x F.env) Q E g.s) q λp=>ic<|bB<|w .cont .cont g (Le.refl g) H .cont h
theorem W0:Sx .Px:=λ{F x g X K0 Q E} S tp q H h R w=>QY (T:=λx=>dZ F.M F.A (exec x F.env) Q E g.s) q λo p q=>xJ q
 (ic<|bB<|w (.ret<|.p .none) (.ret .none) g (Le.refl g) H (.ret PR.none) h)
theorem aam{e:E}(w:Ev e):Sx<|.ret e:=λ{F x g X K0 Q E} S tp q f h c a=>QY (T:=λx=>dZ F.M F.A (exec x F.env) Q E g.s) (G:=λo=>opt o λy=>lj F.b.W.K F.sc e y) q λo p q=>ia q λy H q=>by
 subst H
 show ic<|aL<|w S q f h c λv u g1 d L R U=>bB<|a (.ret v) (.ret u) g1 d L (.ret R) U
theorem aby{t:E}{a b:S}(U:HR t)(W:Fq a)(Y:Fq b):Sx<|.ifs t a b:=λ{F x g X K0 Q E} S tp q f h w d=>
 Z7 (T:=λx=>dZ F.M F.A (exec x F.env) Q E g.s) (G:=λy c H=>Ou F.b.W.K F.sc t y&&(nL F.b.W.K F.sc a c&&nL F.b.W.K F.sc b H)) q λy c H p q=>aZ q λo1 q=>aZ q λo2 o3=>by
 rw[arm_exec_If]
 show ic<|aL<|U S o1 f h w λr g1 e L R=>?_
 induction r with
 |true=>show W S tp o2 L R w<|d.from e
 |false=>show Y S tp o3 L R w<|d.from e
theorem JN{v:Expr}{t:Option Expr}{l:Nat}(h:AK v=au):swapsWith v t l env=pure au:=by induction v using fW<;>first|rfl|show(aD h.symm).elim
theorem Xb{g:Sc}{fm:Fm}(q:jv g fm env):interactive env=au:=by unfold interactive;show(q.kind)▸?_;rfl
theorem ad5{e:E}(w:Ev e):Sx<|.ex e:=λ{F x g X K0 Q E} S tp q f h c a=>ae7 (T:=λx=>dZ F.M F.A (exec x F.env) Q E g.s) (G:=λy=>!AK y&&lj F.b.W.K F.sc e y) q λy p q=>aZ q λo1 q=>by
 rw[arm_exec_Expr,Xb S.eo]
 show ic<|(if_neg aD)▸(JN<|gH o1)▸?_
 show aL<|bB ?_
 show(if_neg aD)▸aL (w S q f h c λv u g1 H d R L=>cW<|wpAny_dropValue<|a .next .next g1 H d .next L)
theorem RT{g:Sc}{fm:Fm}{y v:Expr}{l:Nat}(w:jv g fm env)(h:vW g y v=J):swapsWithSole [y] v l env=pure au:=by
 have h:=(eH h).1;change swapsWith v (I y) l env=pure au;induction q:AK v with
 |false=>show JN q
 |true=>
  replace h:=(q)▸h;show aZ h λM F=>?_;obtain⟨⟨⟨a,b,H,d⟩,e⟩,_⟩:=bQ.mp M;subst e;rcases(TY _ _).mp F with h3|h3
  ·obtain⟨⟨⟨a,b,d⟩,e⟩,_⟩:=bQ.mp h3;cases e;rfl
  ·show nG h3 λt pos h3=>?_;change(pure<|env.blockKind==ScopeKind.function&&env.kindOf t==I NameKind.local&&_&&_)=pure au;rw[w.kindOf,gH h3,tP,tT,tT]
theorem QM{g:Sc}{y v:Expr}(h:vW g y v=J):swappedStores [y] v env=pure az:=by
 obtain⟨q,h⟩:=eH (eH h).2;induction y using fW with
 |List a b=>show(aD q).elim
 |Tuple a b c=>induction v using fW<;>first|rfl|show(aD (gH h).symm).elim
 |_=>rfl
theorem W4{g:Sc}{t:E}{y:Expr}(h:xw K g t y=J):E8 y=au:=by
 induction y using fW with
 |Starred a b=>induction t<;>show(aD h).elim
 |_=>rfl
theorem Tq{y:Expr}(h:E8 y=au)(env:Env):assignEach [y] env=[(au,assign y env)]:=by induction y using fW<;>first|rfl|show(aD h.symm).elim
theorem aan{t e:E}(i:CG t)(f:Ev e):Sx<|.asg t e:=λ{F x g X K0 Q E} S tp q k h w H=>DW (T:=λx=>dZ F.M F.A (exec x F.env) Q E g.s) (G:=λy v=>vW F.sc y v&&(xw F.b.W.K F.sc t y&&lj F.b.W.K F.sc e v)) q λy v p q=>aZ q λo1 q=>aZ q λo2 o3=>by
 rw[pF]
 show ic ?_
 rw[RT S.eo o1]
 show aL<|bB ?_
 rw[if_neg aD]
 show aL<|f S o3 k h w λc d g1 j L R U=>?_
 rw[QM o1]
 show aL<|bB ?_
 rw[Tq<|W4 o2]
 show aL<|i S o2 L R U w λW Y Z a=>bB<|H .next .next W (j.trans Y) Z .next a
noncomputable def UK(g:Bool)(l:List Str):Option<|List Str:=match g with
 |true=>I l
 |false=>az
theorem abq{q:Sc}{fm:Fm}{g vs:List Expr}{k1 k:Nat}{p:Pos}(d:jv q fm env)(w:Bool)(h:IJ q w g vs=J):swappedStores [.Tuple g k1 p1] (.Tuple vs k p) env=pure (UK w<|iu q g):=by
 obtain⟨F,h⟩:=eH h;obtain⟨H,h⟩:=eH h;obtain⟨c,h⟩:=eH h;have b:(vs.length != g.length)=au:=by rw[bne,H];rfl
 have L:(env.blockKind != .function)=au:=by rw[d.blk];rfl
 change(if (!(g.length==2||g.length==3)||vs.length != g.length||env.blockKind != .function)=J then pure az else if vs.any E8=J then pure az else _)=_;show bS F<|bS b<|bS L ?_;rw[if_neg<|by decide];show(if_neg λz=>aD<|(gH c).symm.trans z).trans ?_;rw[show env.kindOf=_ from funext d.kindOf];change(if ((iu q g).length != g.length||(iu q g).eraseDups.length != (iu q g).length)=J then pure az else if vs.all (foldedForSure 8)=J then pure az else if vs.all (constantsAlone 8)=J then (unsupported "assign.tuple-of-constant-expressions:order-of-the-stores" >>= λa=>pure<|I<|iu q g) else pure (I<|iu q g))=_;induction w with
 |true=>show hd λZ M=>?_;obtain⟨R,h⟩:=eH h;obtain⟨U,h⟩:=eH h;obtain⟨W,Y⟩:=eH h;show M ?_;rw[bne,bne,R,U,gH W,gH Y];rfl
 |false=>have h':((iu q g).length != g.length)=J:=h;show bS h' ?_;rfl
theorem Ck{w:Sc}{line:Nat}:∀{g:List Expr},((g.filterMap<|vD w line).length==g.length)=J->∃ps:List<|Str×Pos,g=ps.map (λp=>Expr.Name p.1 p.2)/\g.filterMap (vD w line)=ps.map (·.1):=by
 intro g;induction g with
 |nil=>intro _;show#[[],rfl,rfl]
 |cons t g F=>
  intro h;have h:=cI h;cases e:vD w line t with
  |none=>rw[List.filterMap_cons_none e,aX]at h;show absurd (h▸List.length_filterMap_le _ _)<|Nat.not_succ_le_self _
  |some nm=>
   rw[qc e,aX,aX]at h;obtain⟨ps,H,M⟩:=F<|beq_iff_eq.mpr<|ja h;obtain⟨n,pos,rfl⟩:∃n pos,t=.Name n pos:=by induction t using fW<;>first|show#[_,_,rfl] | show bh e
   have R:(if (w.kinds.lookup n==I NameKind.local&&pos.line==line)=J then I n else az)=I nm:=e;by_cases q:(w.kinds.lookup n==I NameKind.local&&pos.line==line)=J
   ·rw[if_pos q]at R;obtain rfl:=aV R;show#[(_,pos)::ps,by rw[bK,<- H],by rw[qc e,bK,M]]
   ·rw[if_neg q]at R;show bh R
set_option tactic.hygienic true in
theorem Q0(S:rU F){X:XX}{K0:St->Prop}{Q:Unit->aA->Prop}{U:aq->aA->Prop}:∀{w:List E}{ps:List<|Str×Pos}{vs:List V}{us:List aq}{g:G},
  cC (λt y=>xw F.b.W.K F.sc t y=J) w (ps.map λp=>Expr.Name p.1 p.2)->Inv F.b g->cC (VR F.b.W g) vs us->Lj F.Γ X w vs g.σ K0->(∀L s',Inv F.b #[g.R,g.ρ,L,s']->K0 L->Q () s')->dZ F.M F.A (assignInOrder (ps.map λp=>bindName F.env p.1) us) Q U g.s:=by
 intro w;induction w with
 |nil=>
  intro ps vs us g q f d h a;induction ps with
  |cons p r=>cases q
  |nil=>
   induction d with
   |nil=>show bB<|a g.σ g.s f h
   |cons _ _=>show h.elim
 |cons t w W=>
  intro ps vs us g q f d h a;cases ps with
  |nil=>cases q
  |cons p r=>
   replace q:=(bK)▸q;cases q with
   |cons o1 o2=>
    cases d with
    |nil=>show h.elim
    |@cons v u vs us Y H=>
     show bS bK<|bS F6 ?_;induction t<;>try show(aD o1).elim
     rename_i i;show aL<|bR<|cW<|afx<|sr f S.eo o1 Y λs' c=>W o2 c (H.mono λZ Z h=>h.mono #[λZ Z e=>e,bH _]) h.2 a
theorem Sv{q:Sc}:∀{g:E}{L:List Expr},zd K q g L=J->cC (λt y=>xw K q t y=J) g.list L:=λ{g}=>by
 induction g with
 |nil=>intro L h;show je h .nil
 |cons t g _ w=>intro L h;show iK h λy r h=>aZ h λo1 o2=>.cons o1<|w o2
 |_=>intro L h;show(aD h).elim
theorem Wi(L':Bool){W Y:E}(ht:Iw W)(ha:NP Y):Sx<|.mV L' W Y:=λ{F x g X K0 Q E} S tp w I h i j=>
 DW (T:=λx=>dZ F.M F.A (exec x F.env) Q E g.s) (G:=λy v=>HZ y λL _ _=>HZ v λws _ _=>gU L&&(gU ws&&(IJ F.sc L' L ws&&(zd F.b.W.K F.sc W L&&qp F.b.W.K F.sc Y ws)))) w λy v p w=>
 D5 w λL k1 p1 w=>D5 w λws k2 p2 w=>
 aZ w λo1 w=>aZ w λo2 w=>aZ w λo3 w=>aZ w λo4 o5=>by
 rw[pF]
 show ic ?_
 change dZ _ _ (swapsWith (.Tuple ws k2 p2) (ae<|.Tuple L k1 p1) p.line F.env>>=_) _ _ _
 show bS (JN af) ?_
 show aL<|bB ?_
 rw[if_neg aD,afv]
 show aL<|ic<|aL<|ha S o5 o2 I h i λvs us g1 Z I1 k h1=>cW ?_
 obtain⟨l,m⟩:=h1
 have C:=k.len
 have D:=GA o4
 have l23:us.length<=3:=by rcases Kf.mp (eH o3).1 with q|q<;>· have:=cI q;lia
 show jT ?_<|by change us.toArray.size<=sizeLine;show bS (gW)<|bS (gG) ?_;lia
 have J:=I1.heap (h':=g1.s.heap.push<|qg us.toArray 0) g1.s.toks λb o e=>aQ _ e
 have hv:=k.mono λ_ _ h=>h.mono<|Le.to (h:=g1.s.heap.push<|qg us.toArray 0) (t:=g1.s.toks)
 have B:(g1.s.heap.push<|qg us.toArray 0).IsTuple g1.s.heap.objs.size us.toArray:=#[_,br _ af,rfl,_,rfl]
 have J2:∀{h'},ach (g1.s.heap.push<|qg us.toArray 0).objs.size (g1.s.heap.push<|qg us.toArray 0) h'->Inv F.b (g1.to g1.R h' g1.s.toks):=λH=>J.only g1.s.toks λb o r e=>H b o (λz=>r<|bS z<|J.free<|ie _) e
 show bS (abq S.eo L' o3) ?_
 show aL<|bB ?_
 induction L' with
 |false=>
  change dZ _ _ (assign (.Tuple L k1 p1) F.env (.ref g1.s.heap.objs.size)>>=λ_=>pure Flow.next) _ _ _
  obtain⟨U,a⟩:=FG o1
  show aL (X8 S.ok.handled B (by show bS (U) ?_;rw[gW,<- C,D,l]) a λh' H=>
   ht S o4 o1 (J2 H) hv m i λg2 L2 c d=>bB<|j .next .next g2 (Z.trans<|Le.to.trans L2) c .next d)
 |true=>
  show hd λΩ ω=>(aZ ((eH (eH (eH o3).2).2).2) λq1 _=>?_)
  obtain⟨ps,U,a⟩:=Ck q1
  show ω ?_
  change dZ _ _ (assignStores F.env (.ref g1.s.heap.objs.size) (ae<|iu F.sc L) _) _ _ _
  show bS (show iu F.sc L=ps.map (·.1)from a) ?_
  unfold assignStores
  dsimp only
  have hm:(ps.map (·.1)).length=us.toArray.size:=by rw[gW,<- C,l,<- D,U,ay,ay]
  show bS (hm) ?_
  have e3:(ps.map (·.1)).reverse.map (λn=>bindName F.env n)=ps.reverse.map λp=>bindName F.env p.1:=by show sB (gF) ?_;rw[bw];rfl
  show aL<|Jx<|aL<|cW<|Ms S.ok.handled B λh' H=>?_
  show bS (e3)<|bS (List.toList_toArray) ?_
  show aL<|Q0 S (bS (gF)<|sB (U)<|(Sv o4).rev) (J2 H) hv.rev m λf s2 c d=>bB<|j .next .next #[g1.R,g1.ρ,f,s2] #[Z.F,Z.ρ] c .next d
theorem Sj{a:Sc}{fm:Fm}{p:Pos}{w:Expr}{g:Scope}{pos:Pos}{l:Nat}(F:jv a fm env)(H:(a.kinds.lookup nm==I .local)=J)(R:(p.line==(Expr.ListComp w gens g pos).pos.line)=J)
  (M:(g.names.any λq=>q.1==nm&&(q.2==.local||q.2==.cell))=au):swapsWithSole [.Name nm p] (.ListComp w gens g pos) l env=pure J:=by change(pure (env.blockKind==ScopeKind.function&&env.kindOf nm==I NameKind.local&&p.line==(Expr.ListComp w gens g pos).pos.line&&!(g.names.any λ(n,k)=>n==nm&&(k==.local||k==.cell))):Sem Bool)=pure J;rw[F.kindOf,F.blk,H,R,M];rfl
theorem ad4{g:G}(M:Inv b g)(fz){v:V}{u:aq}{q:List<|Option V}{k:V->St->Prop}(H:VR b.W g v u)(h:B7 fz (Yw #[q,g.U] v k)<|k v #[q,g.U]):∃w F,Le g w/\Inv b w/\w.s=g.s/\w.loc=g.loc/\VR b.W w F u/\k F #[q,w.U]:=by
 cases fz with
 |true=>show Tw M H h
 |false=>show#[g,v,Le.refl g,M,rfl,rfl,H,h]
theorem abm{q:Bool}{t it w elt:E}{g:St}{K0:Fl->St->Prop}(h:ex Γ X (.yV i m q t it w elt) g K0):ev Γ X (.comp m t it w elt) g λv g=>B7 q (Yw g v λv g=>i<g.loc.length/\K0 .next (g.var i v))<|i<g.loc.length/\K0 .next (g.var i v):=by induction q<;>show h
theorem U6(i m:Nat)(Z:Bool){t it L elt:E}(d:Ev it)(f:CG t)(j:vh L)(k:Ev elt):Sx<|.yV i m Z t it L elt:=λ{F x g X K0 Q E} S tp B' I' h l n=>
 DW (T:=λx=>dZ F.M F.A (exec x F.env) Q E g.s) (G:=λy v=>s8 y λnm p=>k7 F.sc nm i&&(F.sc.kinds.lookup nm==I .local&&(p.line==v.pos.line&&Kz v λa tt R ifs w=>!(w.names.any λq=>q.1==nm&&(q.2==.local||q.2==.cell))&&(uE F.sc w m&&(sS R&&(lj F.b.W.K F.sc it R&&(xw F.b.W.K (F.sc.deep w) t tt&&(uB F.b.W.K (F.sc.deep w) L ifs&&lj F.b.W.K (F.sc.deep w) elt a)))))))) B' λy v p B'=>nG B' λnm p1 B'=>aZ B' λo1 B'=>aZ B' λo2 B'=>aZ B' λo3 B'=>by
 revert o3
 show LQ B' λa tt R ifs w pos B' o3=>aZ B' λo4 B'=>aZ B' λo B'=>aZ B' λns B'=>aZ B' λr B'=>aZ B' λz B'=>aZ B' λD q3=>?_
 rw[pF]
 show ic ?_
 rw[Sj S.eo o2 o3<|gH o4]
 show aL<|bB ?_
 rw[if_pos B,arm_evalThenUse_ListComp]
 show aL<|aL<|LY m d f j k S o ns r z D q3 I' (abm h) l λC ad oS v U CI hv hk=>?_
 show hd λΩ ω=>?_
 obtain⟨g3,H,L3,I3,e1,e2,W,Y⟩:=ad4 CI.inv Z hv hk
 show ω<|(e1)▸?_
 show cW<|BD<|sr I3 CI.wide o1 W λs' J=>?_
 obtain⟨mm,hn⟩:=J.lr.ns C<|aG _<|.head _
 show#[mm,hn,λh' sb=>bB<|bB ?_]
 obtain⟨J2,c⟩:=J.pop CI.low sb s'.toks
 show n .next .next _ (CI.le.trans<|L3.trans #[c.F,c.ρ]) J2 .next ?_
 have e:(g3.σ.var i H).jU (fb w).length=(#[(U.σ.jU m).loc,g3.U]:St).var i H:=by
  change(#[(g3.loc.set i<|I H).take<|(g3.loc.set i<|I H).length-_,g3.U]:St)=#[(U.loc.take<|U.loc.length-m).set i<|I H,g3.U]
  rw[cD,CI.len,List.take_set,e2]
 show bS e Y.2
theorem QB{E:aq->aA->Prop}(d:A.guards=I []){g:G}(D:Inv b g){u:aq}{Q:aq->aA->Prop}(U:VR b.W g x u)(W:VR b.W g y v)(h:aab g.σ op x y K0)
  (Y:∀z H s' r,Inv b #[g.R,g.ρ,H,s']->VR b.W #[g.R,g.ρ,H,s'] z r->K0 z H->Q r s'):dZ b.W.M A (inplaceOp (Ox op) u v) Q E g.s:=by
 induction op<;>try show kq h
 ·show bI h λi K h=>bI h λj w F=>?_;obtain⟨p,rfl,K⟩:=Er K;obtain⟨q,rfl,w⟩:=Er w;obtain rfl:=P.ig K;obtain rfl:=P.ig w;obtain⟨t,rfl⟩:=PR.fU U;obtain⟨e,rfl⟩:=PR.fU W;show cW<|afD<|Y (.p<|.int<|i+j) g.σ _ _ (D.toks _) (PR.int _ _) F
 ·show bI h λl K h=>bI h λZ w F=>(hd λo k=>?_);obtain⟨q,rfl,w⟩:=Er w;obtain rfl:=P.gS w;obtain⟨⟨e,rfl⟩,_⟩:=PR.f7 W;obtain⟨rfl,c⟩:=abl K;obtain⟨⟨a,f,C⟩,T,rfl,m⟩:=D.obj U c;cases m.symm.trans f.1
  show k<|NU d f.2.2 (sizes F.1) λh' L n=>?_;have L:h'.get? T=I (Rv (l.2++Z).toArray):=by rw[L,jY]
  show Y (.ref l.1) (g.σ.put l.1<|.sA<|l.2++Z) _ _ (D.Wy g.s.toks c (λh=>by cases h) f.1 f.2.1 L n λx=>#[T,x,by rw[aj];show F.1]) #[T,f.1,rfl] F.2
theorem VP(i:Nat)(op:Operator){e:E}(H:Ev e):Sx<|.aug (.loc i) op e:=λ{F x g X K0 Q E} S tp q C h J L=>Qn (T:=λx=>dZ F.M F.A (exec x F.env) Q E g.s) (G:=λtx o v=>decide (o=Ox op)&&(xw F.b.W.K F.sc (.loc i) tx&&lj F.b.W.K F.sc e v)) q λtx o v p q=>aZ q λo1 q=>aZ q λo2 o3=>by
 obtain rfl:o=Ox op:=of_decide_eq_true o1
 show nG (T:=λtx=>dZ F.M F.A (exec (.AugAssign tx (Ox op) v p) F.env) Q E g.s) (G:=λnm t=>k7 F.sc nm i) o2 λnm p1 o2=>bI h λl U h=>?_
 rw[arm_exec_AugAssign]
 show ic<|aL<|cW<|GS C S.eo o2 U λu W=>?_
 show aL<|bR<|H S o3 C h J λy m g1 w Y Z a=>ic<|aL<|PC ?_
 show QB S.ok.guards Y (W.mono w) Z a λz D n r c d f=>ic<|aL<|cW<|afx<|sr c S.eo o2 d λj k=>bB<|L .next .next #[g1.R,g1.ρ,D.var i z,j] #[w.F,w.ρ] k .next f.2
theorem Vu(k j:Nat)(op:Operator){o e:E}(d:Ev o)(f:Ev e):Sx<|.aug (.attr o k j) op e:=λ{F x g X K0 Q E} S tp w I h W i=>Qn (T:=λx=>dZ F.M F.A (exec x F.env) Q E g.s) (G:=λtx l v=>decide (l=Ox op)&&(xw F.b.W.K F.sc (.attr o k j) tx&&lj F.b.W.K F.sc e v)) w λtx B v p w=>aZ w λo1 w=>aZ w λo2 o3=>by
 obtain rfl:B=Ox op:=of_decide_eq_true o1
 show vV (T:=λtx=>dZ F.M F.A (exec (.AugAssign tx (Ox op) v p) F.env) Q E g.s) (G:=λy nm _=>qK F.b.W.K k j nm&&lj F.b.W.K F.sc o y) o2 λy nm p1 o2=>aZ o2 λo2 o4=>?_
 rw[arm_exec_AugAssign_2]
 show ic<|aL<|d S o4 I h W λov u1 g1 Y Z a H=>aL<|bR<|ic ?_
 show bI H λx1 m H=>aL<|cW<|Lw Z o2 a m λu2 t n=>?_
 show aL<|bR<|f S o3 (Z.toks t) H W λy1 u3 g3 c C J D=>ic<|PC ?_
 have q:Le g1 g3:=#[c.F,c.ρ]
 show QB S.ok.guards C (n.mono q) J D λz σ4 s4 r I4 hr hk=>?_
 show ic<|aL<|bR<|cW<|AQ I4 o2 ((a.mono q).mono #[λ_ _ e=>e,bH _]) hr hk λL s5 I5 U=>?_
 show aL<|cW<|q6<|bB<|i .next .next #[g3.R,g3.ρ,L,s5] #[(Y.trans q).F,(Y.trans q).ρ] I5 .next U
section
variable {g:G}{L:Addr}{cc:Nat}{base:Heap}{E:aq->aA->Prop}
theorem DV.step(f:DV g l base s')(d:s'.heap.FunFrames base l)(c:base.StaysIn h')(up:s'.heap.UpToSlots h'):DV g l base (sh s' h' s'.toks) where
 same:=bS (f.same) B
 up:=λa o r x=>by
  by_cases F:a∈l.filterMap (·.frame)
  ·obtain⟨_,M,q,w⟩:=d.mem F
   obtain⟨R,H⟩:=f.up a o r x
   cases q.symm.trans H
   show by obtain⟨b,g3⟩:=up a _ H w;show#[b,g3]
  ·show#[o.slots,c a o<|f.base a o r x F]
 base:=f.base
def Sl(g:G)(l:List Env)(e:Addr)(cc:Nat)(L:Addr)(s':aA):Prop:=∃base q,DV g l base s'/\BJ base l e (.ref cc) q L s'.heap
theorem Sl.fly(f:Sl g (env::l) e cc L s')(q:env.frame=I L):Ov g (env::l) e cc s':=by obtain⟨base,w,f,h⟩:=f;show#[base,f,.inr<|.inr #[w,env,L,l,rfl,q,h]]
theorem xS(U:A.frames=I (env::l))(f:Ov g (env::l) e cc s'){Q:Unit->aA->Prop}
  (h:∀p L,env.frame=I L->Sl g (env::l) e cc L p->Q () p):wpAny W.M A (noteFrame (.ref e) env) Q E s':=by
 obtain⟨base,f,x⟩:=f;have fin:∀{h':Heap}{L:Addr}{F:aq},env.frame=I L->s'.heap.FunFrames base (env::l)->base.get? e=az->Heap.NotedW base (env::l) e (.ref cc) F (rawInt L) s'.heap h'->Q () (sh s' h' s'.toks):=λ{h' L F} q w r H=>by show hd λk a=>?_;obtain⟨k1,k2,b,c⟩:=H;show a<|h _ L q #[base,F,f.step w k1 c,k1,r,k2,b]
 rcases x with ⟨n,r,w,m,vs,F,Y,d,hd,i,Z⟩ | ⟨F,n,r,w,s⟩ | ⟨F,j,L,rest,R,q,n,r,w,s⟩
 ·obtain⟨_,⟨L,o,q,_⟩,_⟩:=id w;unfold noteFrame;show bS (q) ?_;show ao<|wF Y hd Z ?_;rw[if_neg<|by decide];show wpAny_entryW U w q Y n r hd (jI.mp Z).1 i λh' H=>fin q w r (by replace H:=(d)▸H;show H)
 ·obtain⟨_,⟨L,o,q,_⟩,_⟩:=id w;show wpAny_noteFrame_onW U w q s n r λh' H=>fin q w r H
 ·injection R with R;subst R;show wpAny_noteFrame_againW q s<|h s' L q #[base,F,f,n,r,w,s]
theorem DZ{i:Addr}{cls Z:aq}{Q:Unit->aA->Prop}(R:BJ base l e cls Z i s.heap)
  (h:∀h',BJ base l e cls Z L h'->s.heap.UpToSlots h'->Q () (sh s h' s.toks)):wpAny W.M A (setFlight (.ref e)<|I L) Q E s:=by
 show hd λr j=>?_;obtain⟨U,k,m,n,vs,T,t,p,a,x,hd,c,v,z,Y,F,d⟩:=R;show j ?_;have other:∀b,b≠T->(s.heap.update T (Obj.mapFields (·.setIfInBounds 3 ((I L).elim aq.none λf=>rawInt f)))).get? b=s.heap.get? b:=
  λb w=>lM _ _<|Ne.symm w
 have g:∀b o,s.heap.get? b=I o->(∀vs,o.data≠.fields vs)->b≠T:=λb o w y q=>by rw[q,Y]at w;injection w with w;subst w;show y p F
 show ao<|wF a hd c ?_;show bS (if_pos<|rfl) ?_;show wpAny_setField Y F (jI.mp d).1 (h _ ⟨λb o H=>(other b λq=>by replace H:=(v)▸(q)▸H;cases H).trans (U b o H),k,
  m.of_keeps λb o w y=>#[o,(other b<|g b o w y).trans w,rfl],?_⟩ λb o w y=>#[o.slots,(other b<|g b o w y).trans w])
 show#[n,vs,T,_,_,(other e<|Ne.symm z).trans a,x,hd,c,v,z,iF _ Y<|Obj.isFreed_of_fields<|Ol F _,Ol F _,Array.getElem?_setIfInBounds_self_of_lt (jI.mp d).1]
theorem EG(F:env.frame=I L)(f:Sl g (env::l) e cc L s')(h:∀w,Sl g (env::l) e cc L w->E (.ref e) w):cameBackBy W.M A env E (.ref e) s':=by obtain⟨base,H,f,k⟩:=f;obtain⟨j,Y,i,Z,vs,T,a,b,d,c,hd,R,r⟩:=id k;show ao<|wF d hd R ?_;show bS (if_neg<|show ¬((aq.ref T==aq.none)=J)from aD)<|bS (F)<|DZ k λh' q U=>h _ #[base,H,f.step i q.1 U,q]
end
theorem An.own{E:aq->aA->Prop}(q:F.A.frames=I (F.env::l))(h:An F X E):An F X<|notedBy F.M F.A F.env λe s'=>cameBackBy F.M F.A F.env E e s':=λcc g s' e W c b f a=>by
 show hd λY H=>?_
 cases q.symm.trans c
 show H<|xS q f λZ L w d=>EG w d λR U=>h cc g R e (F.env::l) q b (U.fly w) a
theorem D4{A:bC}{M:ir}{E:aq->aA->Prop}{s:aA}{g:Expr}{body:List Stmt}{env:Env}{Q:Fin->aA->Prop}
  (h:dZ M A (isTrue g env<|eval g env) (λb q=>match b with
   |true=>dZ M A (execs body env) (λf w=>match f with
    |.next | .cont=>Q (.again<|.whileLoop g body [] env) w
    |.brk=>Q (.done .next) w
    |.ret v=>Q (.done<|.ret v) w) E q
   |false=>Q (.done .next) q) E s):dZ M A (whileTurn g body [] env) Q E s:=by
 show aL<|dK h (λb q H=>?_) λZ Z x=>x;induction b with
 |true=>rw[if_pos B];show aL<|dK H (λf w F=>?_) λZ Z x=>x;induction f<;>show bB F
 |false=>show bS (if_neg aD)<|aL<|bB<|bB H
abbrev Jk(W:Pw)(A:bC)(R:fP->aA->Prop)(fin:Fin)(s':aA):Prop:=match fin with
 |.done f=>R (.ok f) s'
 |.again g=>g.quiet=J/\eZ W.M A g R s'
theorem Ju{W:Pw}{A:bC}{s:aA}{g:Expr}{body:List Stmt}{env:Env}{R:fP->aA->Prop}
  (h:dZ W.M A (whileTurn g body [] env) (Jk W A R) (notedBy W.M A env λe s'=>R (.error e) s') s):eZ W.M A (.whileLoop g body [] env) R s:=by show jL B ?_;change dZ _ A ((whileTurn g body [] env).onRaise (λx=>do noteFrame x env;theTreesLotGoes x)) _ _ s;show EI h
def F2(F:Fr)(g:G)(K0:Fl->St->Prop)(R:fP->aA->Prop):Prop:=∀f fl q,Le g q->Inv F.b q->FlR F.b.W q f fl->K0 f q.σ->R (.ok fl) q.s
theorem F2.from{g q:G}{K0:Fl->St->Prop}{R:fP->aA->Prop}(h:F2 F g K0 R)(L:Le g q):F2 F q K0 R:=λf fl k w=>h f fl k<|L.trans w
theorem Pb{t:E}{b:S}(Y:HR t)(Z:Fq b){tx:Expr}{bx:List Stmt}{X:XX}{K0:Fl->St->Prop}{R:fP->aA->Prop}(S:rU F)(tp:Top F)(o1:Ou F.b.W.K F.sc t tx=J)(o2:nL F.b.W.K F.sc b bx=J)
  (j:An F X<|notedBy F.M F.A F.env λe s'=>R (.error e) s') (k:Nat):∀{g:G},Inv F.b g->F2 F g K0 R->sy (BH F.Γ X t) (ex F.Γ X b) k g.σ K0->eZ F.M F.A (.whileLoop tx bx [] F.env) R g.s:=by
 induction k with
 |zero=>show λm q h=>kq h
 |succ k L=>
  intro g m q h;show Ju<|D4<|Y S o1 m h j λr g1 w U W=>?_;induction r with
  |false=>show q .next .next g1 w U .next W
  |true=>
   show Z S tp o2 U W j λf fl a l i c H=>?_;induction c with
   |next=>show#[rfl,L i (q.from<|w.trans l) H]
   |cont=>show#[rfl,L i (q.from<|w.trans l) H]
   |ret d=>show q _ _ a (w.trans l) i (.ret d) H
theorem aa3{t:E}{b:S}(a:HR t)(R:Fq b):Sx<|.yu t b:=λ{F x g X K0 Q E} S tp q d h H c=>aaH (T:=λx=>dZ F.M F.A (exec x F.env) Q E g.s) (G:=λy w=>Ou F.b.W.K F.sc t y&&nL F.b.W.K F.sc b w) q λy w p q=>aZ q λo1 o2=>by
 obtain⟨l,L⟩:=id tp
 obtain⟨k,h⟩:=h
 rw[arm_exec_While]
 show ic<|vA (Pb a R S tp o1 o2 (H.own L) k d c h) bh
theorem zY{A:bC}{M:ir}{E:aq->aA->Prop}{s:aA}{tt:Expr}{it:aq}{body:List Stmt}{env:Env}{Q:Fin->aA->Prop}
  (h:wpAny M A (pyNext it) (λr g=>match r with
   |none=>Q (.again<|.block [] env) g
   |some v=>wpAny M A (letOwnedTupleGo tt it v) (λZ w=>dZ M A (assign tt env v) (λZ R=>dZ M A (execs body env) (λf q=>match f with
    |.next | .cont=>Q (.again<|.forLoop tt it body [] env) q
    |.brk=>Q (.done .next) q
    |.ret v=>Q (.done<|.ret v) q) E R) E w) E g) E s):dZ M A (forTurn tt it body [] env) Q E s:=by
 show ic<|aL<|nS<|dK (cW h) (λr g F=>?_) λZ Z x=>CV x;induction r with
 |none=>show bB F
 |some v=>show aL<|dK (cW F) (λZ w H=>aL<|dK H (λZ R b=>aL<|dK b (λf q a=>?_) λZ Z x=>x) λZ Z x=>x) λZ Z x=>x;induction f<;>show bB a
theorem GJ{W:Pw}{A:bC}{s:aA}{tt:Expr}{it:aq}{body:List Stmt}{env:Env}{R:fP->aA->Prop}
  (h:dZ W.M A (forTurn tt it body [] env) (Jk W A R) (notedBy W.M A env λe s'=>R (.error e) s') s):eZ W.M A (.forLoop tt it body [] env) R s:=by show jL B ?_;change dZ _ A ((forTurn tt it body [] env).onRaise (λx=>do noteFrame x env;theTreesLotGoes x)) _ _ s;show EI h
theorem Ga{R:fP->aA->Prop}(h:R (.ok .next) s):eZ W.M A (.block [] env) R s:=by show jL B ?_;change dZ _ A (do return PySem.Fin.done (<- (execs [] env).onRaise (λx=>do noteFrame x env;theTreesLotGoes x))) _ _ s;show aL<|nS<|bB<|bB h
abbrev Fr.step(F:Fr)(X:XX)(t:E)(b:S)(x:P)(g:St)(k:Fl->St->Prop):Prop:=asg F.Γ X t (.p x) g λg=>ex F.Γ X b g k
theorem Rf{t:E}{b:S}(m:CG t)(n:Fq b){it:aq}{bx:List Stmt}{X:XX}{K0:Fl->St->Prop}{R:fP->aA->Prop}(S:rU F)(tp:Top F)(o1:xw F.b.W.K F.sc t tt=aB)(o2:nL F.b.W.K F.sc b bx=aB)
  (a:An F X<|notedBy F.M F.A F.env λe s'=>R (.error e) s') (L):∀{g:G}{D:List<|Addr×Obj},jD F.b.W F.A tt it L g.R D->Inv F.b g->mz g D->(D.map (·.1)).Nodup->F2 F g K0 R->Cp (F.step X t b) L g.σ K0->eZ F.M F.A (.forLoop tt it bx [] F.env) R g.s:=by
 induction L with
 |nil=>show λ{g D} T I off nd w h=>GJ<|zY<|T (u0.refl _) I off λs' J=>#[rfl,Ga<|w .next .next #[g.R,g.ρ,g.σ,s'] #[λ_ _ e=>e,bH _] J .next h]
 |cons x r c=>
  intro g D T I off nd w h;show GJ (zY (lX (T (Q:=λv o=>dZ F.M F.A (assign tt F.env v) (λ_ y=>dZ F.M F.A (execs bx F.env) (λf H=>match f with
    |.next | .cont=>(Code.forLoop tt it bx [] F.env).quiet=aB/\eZ F.M F.A (.forLoop tt it bx [] F.env) R H
    |.brk=>R (.ok .next) H
    |.ret v=>R (.ok<|.ret v) H) (notedBy F.M F.A F.env λe s'=>R (.error e) s') y) (notedBy F.M F.A F.env λe s'=>R (.error e) s') o) (u0.refl _) I off λv g1 q z C d=>?_) (λr i j=>?_) λ_ _ e=>e))
  ·obtain⟨J,L',_,e1,TQ,U⟩:=z;have W:=N6 S J TQ U;rw[<- e1]at h;show m (F:=F.holds q) (g:=g1.holds q) (v:=.p x) W.OC o1 W.inv (C.mono W.le.F) h (W.x a) λg2 L2 I2 h2=>n (F:=F.holds q) W.OC tp o2 I2 h2 (W.x a) λf fl g3 L3 I3 hf Y=>?_;obtain⟨Z,k,l⟩:=W.back I3;have B:=W.le.trans<|L2.trans<|L3.trans k;induction hf with
   |next=>show#[rfl,c (g:=g3.drops q) (jD.mono B.F d) Z l U (w.from<|L'.trans B) Y]
   |cont=>show#[rfl,c (g:=g3.drops q) (jD.mono B.F d) Z l U (w.from<|L'.trans B) Y]
   |ret hu=>show w _ _ (g3.drops q) (L'.trans B) Z (.ret<|hu.mono k) Y
  ·induction r with
   |none=>show j.elim
   |some v=>show j
theorem abW{t it:E}{b:S}(H:CG t)(C:Ev it)(R:Fq b):Sx<|.kP t it b:=λ{F x g X K0 Q E} S tp q I h B U=>QV (T:=λx=>dZ F.M F.A (exec x F.env) Q E g.s) (G:=λy w z=>sS w&&(xw F.b.W.K F.sc t y&&(lj F.b.W.K F.sc it w&&nL F.b.W.K F.sc b z))) q λy w z p q=>aZ q λns q=>aZ q λo1 q=>aZ q λo2 o3=>by
 obtain⟨l,W⟩:=id tp
 rw[arm_exec_For]
 show ic<|aL<|C S o2 I h B λv u g1 Y Z a c=>bI c λL e d=>?_
 rw[Ab ns]
 show aL<|bB<|ic<|aL<|bR<|cW<|(xy (target:=y) S.ok.handled Z a e).2 _ _ λm n D f o T=>?_
 show hd λr i=>?_
 obtain⟨J,j,_,k,off,nd⟩:=f
 show i<|vA (Rf H R S tp o1 o3 (B.own W) L T J off nd (U.from<|Y.trans j)<|bS (k) d) bh
noncomputable abbrev ads(TI g:Addr):Obj:={ cls:=.type "zip",dict:=az,data:=.fields [.none,.bool au,.bool au,.ref TI,.ref g].toArray,slots:=#[] }
abbrev Cc(z TI g q w:Addr)(a b:aq)(o1 o2:Obj):List<|Addr×Obj:=[(z,ads TI g),(TI,qg [.ref q,.ref w].toArray 0),(g,qg [a,b].toArray 0),(q,o1),(w,o2)]
theorem ady{p:α->Prop}{a b c d e:α}(g:p a)(q:p b)(w:p c)(H:p d)(F:p e):∀x∈[a,b,c,d,e],p x:=λx hx=>by
 rcases aC.mp hx with rfl|hx
 ·show g
 rcases aC.mp hx with rfl|hx
 ·show q
 rcases aC.mp hx with rfl|hx
 ·show w
 rcases aC.mp hx with rfl|hx
 ·show H
 ·rw[ah.mp hx];show F
theorem MJ{W:Pw}{l1 l2 z TI w B H:Addr}{Y:List Expr}{x1:Nat}{pos:Pos}(hh:A.handled=az)(M:ZipApart z TI w B H l1 l2)(nd:[z,TI,w,B,H].Nodup){L ys:List P}{us vs:Array aq}{n1 n2:Nat}(m:Nat):∀(k:Nat) {R:RM}{a b:aq}{o1 o2:Obj},((L.zip ys).drop k).length=m->
  R l1=.fz (fE us n1)->cC (PR W R) L us.toList->R l2=.fz (fE vs n2)->cC (PR W R) ys vs.toList->(o1.cls=.type "list_iterator" /\ o1.data=.fields [.ref l1,.int k 0].toArray)->(o2.cls=.type "list_iterator" /\ o2.data=.fields [.ref l2,.int k 0].toArray)->
  jD W A (.Tuple Y x1 pos) (.ref z) (((L.zip ys).drop k).map λp=>.tup [p.1,p.2]) R (Cc z TI w B H a b o1 o2):=by
 have Z:∀{a b:aq}{o1 o2:Obj},(z,ads TI w)∈Cc z TI w B H a b o1 o2:=.head _;have j:∀{a b:aq}{o1 o2:Obj},(TI,qg [.ref B,.ref H].toArray 0)∈Cc z TI w B H a b o1 o2:=.tail _<|.head _;have l:∀{a b:aq}{o1 o2:Obj},(w,qg [a,b].toArray 0)∈Cc z TI w B H a b o1 o2:=.tail _<|.tail _<|.head _;have n:∀{a b:aq}{o1 o2:Obj},(B,o1)∈Cc z TI w B H a b o1 o2:=.tail _<|.tail _<|.tail _<|.head _;have t:∀{a b:aq}{o1 o2:Obj},(H,o2)∈Cc z TI w B H a b o1 o2:=.tail _<|.tail _<|.tail _<|.tail _<|.head _;have kp:∀{g:G}{a b:aq}{o1 o2:Obj}{h':Heap},mz g (Cc z TI w B H a b o1 o2)->(∀c o,c≠z->c≠w->c≠B->c≠H->g.s.heap.get? c=ae o->h'.get? c=ae o)->∀c o,g.R c≠.iP->g.get c=ae o->h'.get? c=ae o:=λ{g a b o1 o2 h'} off q c o r=>
  have C:∀p∈Cc z TI w B H a b o1 o2,c≠p.1:=λp U e=>r<|e▸(off p U).1
  q c o (C _ Z) (C _ l) (C _ n) (C _ t)
 induction m with
 |zero=>
  intro k R a b o1 o2 d D K T X q1 q2;have e:=gX.mp d;show(e)▸?_;intro c fm g Q E J I off hQ;have f:L.length<=k∨ys.length<=k:=by have:=List.drop_eq_nil_iff.mp e;rw[TZ]at this;lia
  show wpAny_pyNext_zip_end hh M (off _ Z).2 (off _ j).2 (off _ l).2 #[o1,(off _ n).2,q1] #[o2,(off _ t).2,q2] #[_,I.fh<|J _ _ D,rfl,_,rfl] #[_,I.fh<|J _ _ T,rfl,_,rfl] (f.imp (λf=>?_) λf=>?_) λh' jH=>hQ _<|I.only g.s.toks<|kp off jH
  ·show Fd<|K.sz▸f
  ·show Fd<|X.sz▸f
 |succ m ih=>
  intro k R a b o1 o2 d D K T X q1 q2;have lk:k<(L.zip ys).length:=by rw[qH]at d;omega
  show hd λΩ h=>?_;obtain⟨⟨x,y⟩,e0⟩:∃p,(L.zip ys)[k]?=ae p:=#[_,bD lk];show h ?_;have e:(L.zip ys).drop k=(x,y)::(L.zip ys).drop (k+1):=by rw[gA lk,(aR.mp e0).2]
  rw[e]at d ⊢;intro c fm g Q E J I off hQ;show hd λΩ h=>?_;obtain⟨ex,ey⟩:=List.getElem?_zip_eq_some.mp e0;obtain⟨u,hu,pu⟩:=K.get ex;obtain⟨v,hv,pv⟩:=X.get ey;show h<|wpAny_pyNext_zip_item M (off _ Z).2 (off _ j).2 (off _ l).2 #[o1,(off _ n).2,q1] #[o2,(off _ t).2,q2] #[_,I.fh<|J _ _ D,rfl,_,rfl] #[_,I.fh<|J _ _ T,rfl,_,rfl] (sB (cV) hu) ((cV)▸hv) λh' g1 g2 g3 g4 g5 g6 g7=>(wpAny_letOwnedTupleGo_zip g1 λh'' g8 W'=>(hd λΩ h=>?_));obtain⟨p1,k1,k1'⟩:=g3;obtain⟨p2,k2,k2'⟩:=g4;show h ?_;have lt:=λp U=>aS<|dF (off p U).2;have L':Le g<|g.to (rV g.R g.s.heap.objs.size<|.fz<|qg [u,v].toArray 0) h'' g.s.toks:=#[λx o' e=>(eO<|E0 I e).trans e,bH _];have i:∀p∈Cc z TI w B H a b o1 o2,rV g.R g.s.heap.objs.size (.fz<|qg [u,v].toArray 0) p.1=.iP:=λp U=>(eO<|lt p U).trans (off p U).1;show hQ (.ref g.s.heap.objs.size) _ (Cc z TI w B H u v p1 p2) #[(I.role (r:=.fz<|qg [u,v].toArray 0) g.s.toks (I.free<|ie _) ((W'.2 _ (lt _ Z).symm).trans g5)<|kp off λc o a1 a2 a3 a4 e=>(W'.2 c a1).trans<|g7 c o a1 a2 a3 a4 e),L',rfl,rfl,ady #[i _ Z,g8] #[i _ j,(W'.2 _ M.TIz).trans<|g7 _ _ M.TIz M.TITO M.TIi1 M.TIi2 (off _ j).2] #[i (w,qg [a,b].toArray 0) l,(W'.2 _ M.TOz).trans g2] #[i (B,o1) n,(W'.2 _ M.i1z).trans k1] #[i (H,o2) t,(W'.2 _ M.i2z).trans k2],nd]
   (.tup fu (show 2<=gr by decide)<|.cons (PR.mono (J.trans L'.F) pu)<|.cons (PR.mono (J.trans L'.F) pv) .nil) ?_
  show ih (k+1) (ja d) (L'.F _ _<|J _ _ D) (F5.mono (J.trans L'.F) K) (L'.F _ _<|J _ _ T) (F5.mono (J.trans L'.F) X) k1' k2'
theorem ZE(n q w:Nat)(H:q<n)(F:w<n):ZipApart (n+4) (n+2) (n+3) n (n+1) q w:=by constructor<;>(intro e;have g:@Eq Nat _ _:=e;first|show absurd (fS g) (by decide) | show absurd (fS (k:=0) g) (by decide) | show absurd (fS (m:=0) g) (by decide) | lia)
theorem Vb{t a b:E}{d:S}(ht:CG t)(ha:NP<|.cons a<|.cons b .nil)(hb:Fq d):Sx<|.MY t a b d:=λ{F x g X K0 Q E} S tp q I h r hQ=>
 QV (T:=λx=>dZ F.M F.A (exec x F.env) Q E g.s) (G:=λy L' U=>(vw y).tup.isSome&&(xw F.b.W.K F.sc t y&&(nL F.b.W.K F.sc d U&&wZ L' λnm L=>qP F.sc nm&&(mq F.b.W.K nm==ae (.type "zip")&&(gU L&&qp F.b.W.K F.sc (.cons a<|.cons b .nil) L))))) q λy L' U p q=>aZ q λo0 k1=>aZ k1 λo1 k2=>aZ k2 λo2 k3=>by
 show hd λC B=>?_
 obtain⟨⟨⟨F',x1,pos⟩,e⟩,_⟩:=bQ.mp o0
 subst e
 show B<|vF (T:=λL'=>dZ F.M F.A (exec (.For (.Tuple F' x1 pos) L' U [] p) F.env) Q E g.s) k3 λnm p3 args p2 q=>aZ q λo3 q=>aZ q λo4 q=>aZ q λo5 o6=>aZ o3 λD q2=>?_
 obtain⟨l,Zc⟩:=id tp
 show ic<|aL ?_
 show aL<|cW<|tE I.za S.eo (gH D) (cI q2) (cI o4) ?_
 show xx (P:=λ_=>True) o5 (λh _=>CU _ h)<|ha (K0:=λvs σ=>bO (two vs) λ(v:V×V)=>bO (v.1.p?.bind P.Dv) λL=>bO (v.2.p?.bind P.Dv) λys=>Cp (F.step X t d) ((L.zip ys).map λ(z:P×P)=>.tup [z.1,z.2]) σ K0) S o6 o5 I h r λvs us g1 L1 w kY H=>#[trivial,?_]
 show bI H λv e1 H=>bI H λL W H=>bI H λys Y hk=>(hd λC B=>?_)
 obtain⟨v1,v2⟩:=v
 obtain⟨u1,u2,rfl,hu,hv⟩:=Rb e1 kY
 obtain⟨Z,rfl,W⟩:=Er W
 obtain⟨z2,rfl,Y⟩:=Er Y
 obtain rfl:=P.tF W;obtain rfl:=P.tF Y
 obtain⟨l1,us1,n1,rfl,c,_,r1⟩:=PR.oz hu
 obtain⟨l2,us2,n2,rfl,f,_,r2⟩:=PR.oz hv
 show B ?_
 show cW<|PySem.call_zip_2 #[_,w.fh c,rfl,_,rfl] #[_,w.fh f,rfl,_,rfl] λh' Z z2 z3 i j z6 z7=>?_
 show aL<|bB<|ic<|aL<|bR<|cW<|wpAny_pyIter_zip Z<|vA ?_ bh
 show hd λC B=>?_
 obtain⟨D,i,m⟩:=i
 obtain⟨q2,j,n⟩:=j
 show B ?_
 have J:=λk=>w.free (by
  induction e:g1.get (g1.s.heap.objs.size+k)with
  |none=>rfl
  |some o=>show absurd (dF e)<|cH.mpr<|bg _ _)
 show Rf ht hb S tp o1 o2 (r.own Zc) _ (g:=g1.to g1.R h' g1.s.toks) (MJ (x1:=x1) S.ok.handled (ZE _ _ _ (dF<|w.fh c)<|dF<|w.fh f) (by simp) (L:=L) (ys:=ys) _ 0 af c r1 f r2 m n (a:=.none) (b:=.none)) (w.heap (h':=h') g1.s.toks z7) (ady #[J 4,Z] #[J 2,z2] #[J 3,z3] #[J 0,i] #[J 1,j]) (by simp) (hQ.from<|L1.trans Le.to) hk
section
variable {c:Cx}{g:G}
noncomputable def pU(as:List Addr)(r:iw)(R:RM):RM:=λa=>if a∈as then r else R a
theorem Inv.enter(H:Inv #[W,c,Fm.nil] g){fm:Fm}{loc:List<|Option V}(new:∀a∈fm.own,g.R a=.iP/\∃o,g.get a=I o)(nd:fm.own.Nodup)(zw:fm.tab.Nodup)(lr:LR W fm #[pU fm.own .own g.R,g.ρ,#[loc,g.U],g.s]) :
  Inv #[W,c,fm] #[pU fm.own .own g.R,g.ρ,#[loc,g.U],g.s]:=by
 have q:∀a,g.R a≠.iP->pU fm.own .own g.R a=g.R a:=λa h=>if_neg λm=>h (new a m).1;have M:=H.gen (t:=g.s.toks) (λa=>by
  by_cases m:a∈fm.own
  ·rw[show pU fm.own .own g.R a=.own from if_pos m];show(new a m).2
  ·rw[show pU fm.own .own g.R a=g.R a from if_neg m];show H.ok a) q (λZ Z Z e=>e) (λa o Z e=>#[o.slots,e]) (λa h=>(q a λz=>by have:=H.base a h;rw[z]at this;replace h:=(this)▸h;cases h).trans (H.base a h)) #[rfl,rfl,rfl,rfl]
 show{ M with hr:=λi o e=>(M.hr i o e).loc,zN:=nd,own:=λa w=>if_pos w,zw:=zw,lr:=lr }
theorem Le.enter{fm:Fm}{loc:List<|Option V}(new:∀a∈fm.own,g.R a=.iP):Le g #[pU fm.own .own g.R,g.ρ,#[loc,g.U],g.s]:=#[λa o e=>(if_neg λm=>by replace e:=(new a m)▸e;cases e).trans e,bH _]
theorem Inv.leave{fm:Fm}(M:Inv #[W,c,fm] g):Inv #[W,c,Fm.nil] #[pU fm.own .iP g.R,g.ρ,#[[],g.U],g.s]/\Le g #[pU fm.own .iP g.R,g.ρ,#[[],g.U],g.s]:=by
 have q:∀a,g.R a≠.own->pU fm.own .iP g.R a=g.R a:=λa h=>if_neg λm=>h<|M.own a m;have L:Le g #[pU fm.own .iP g.R,g.ρ,#[[],g.U],g.s]:=#[λa o e=>(q a<|by rw[e];nofun).trans e,bH _];have b:∀i a o,iJ g i a o->iJ #[pU fm.own .iP g.R,g.ρ,#[[],g.U],g.s] i a o:=λi a o h=>#[h.1,(q a<|by rw[h.2.1];nofun).trans h.2.1,h.2.2];show#[?_,L];show{
  ok:=λa=>by
   by_cases m:a∈fm.own
   ·change(pU fm.own .iP g.R a).ok _;rw[show pU fm.own .iP g.R a=.iP from if_pos m];trivial
   ·change(pU fm.own .iP g.R a).ok _;rw[show pU fm.own .iP g.R a=g.R a from if_neg m];show M.ok a
  kF:=λa o e=>L.F a o<|M.kF a o e
  len:=M.len
  nd:=M.nd
  yo:=λa w=>(congrArg iw.lf (q a λz=>by have:=M.yo a w;replace this:=(z)▸this;cases this)).trans (M.yo a w)
  hr:=λi o e=>(M.hr i o e).congr L (b i) λz=>#[z,b _]
  zN:=bV
  own:=λa w=>(cO w)
  zw:=bV
  lr:=#[rfl,λd hd=>(cO hd),λp H=>(cO H),λi x l e=>(nomatch (show(az)=I _ from e)),λi x e=>(nomatch (show(az)=I _ from e))]
  base:=λa h=>(q a λz=>by have:=M.base a h;rw[z]at this;replace h:=(this)▸h;cases h).trans (M.base a h)
  gens:=M.gens
  drawn:=M.drawn
  os:=M.os
  pre:=M.pre }
end
theorem qq{W:Pw}{s:aA}{a:Addr}{args:Args}{o:Obj}{fd:i8}{body:List Stmt}{R:fP->aA->Prop}(w:A.depth<recursionLimit)
  (Z:s.heap.get? a=I o) (b:o.data=.func fd) (p:fd.scope.isCoroutine=au) (F:fd.scope.isGenerator=au) (H:fd.body=.stmts body) (r:s.heap.CodeRec fd.code fd.qualname)
  (h:wpAny W.M A.in1 (bindArgs fd args) (λg q=>
   wpAny W.M A.in1 (newFunctionEnv fd.scope fd.globals fd.closure g (fd.qualname++".<locals>.") (I a) fd.code az fd.builtins)
    (λenv t=>t.heap.NoLimit/\eZ W.M A (.func body env) R t) (λe s'=>R (.error e) s') q) (λe s'=>R (.error e) s') s) :
  eZ W.M A (.call (.ref a) args) R s:=by
 show jL B<|cW ?_;show ao<|j8 Z ?_;show hd λj d=>?_;obtain⟨c,k,vs,l,n,L,U,f⟩:=r;show d ?_;rw[b];change wpAny _ _ (callFunction a fd args) _ _ _;unfold callFunction;rw[n,p,F,H];rw[n]at h;show ao<|wF L U f<|ao<|aF ?_;show ao (lX h (λg q i=>ao (lX i (λenv t Y=>ao (wpAny_enterFrame Y.1 w
  (aF<|aN B Y.2))) λm m h'=>h')) λm m h'=>h')
noncomputable def XT:Flow->aq
 |.ret v=>v
 |_=>.none
set_option backward.match.sparseCases true in
theorem KI{W:Pw}{A:bC}{s:aA}{body:List Stmt}{env:Env}{R:fP->aA->Prop}
  (h:dZ W.M (A.deeper env) (execs body env) (λf s'=>R (.ok<|.ret<|XT f) s') (λe s'=>wpAny W.M (A.deeper env) (leaving env e) (λw g=>R (.error e) g) (λq g=>R (.error q) g) s') s) :
  eZ W.M A (.func body env) R s:=by show jL B ?_;change dZ _ (A.deeper env) (do point;match <- (execs body env).onRaise (leaving env)with | .ret v=>ret v|_=>ret .none) _ _ s;show aL<|cW<|Ua<|aL<|nS<|dK h (λf s' h'=>?_) λw w h'=>cW h';induction f<;>show bB h'
theorem Gq{W:Pw}{g:G}{cc:Nat}{Q:Unit->aA->Prop}{E:aq->aA->Prop}{as:List Addr}(t:A.frames=I (env::l))(f:Ov g (env::l) e cc s')
  (own:∀L,env.frame=I L->L∈as) (h:∀n,Ov #[pU as .iP g.R,g.ρ,#[[],g.U],g.s] l e cc n->Q () n):wpAny W.M A (leaving env<|.ref e) Q E s':=by
 show ao<|xS t f λj L F v=>?_;obtain⟨base,U,f0,H⟩:=v;show wpAny_landsW H λh' p Y=>h _<|hd λk Z=>?_;obtain⟨k1,k2,b,c⟩:=p;show Z ?_;have q:∀a,pU as .iP g.R a≠.iP->a∉as/\g.R a≠.iP:=λa r=>by
  by_cases m:a∈as
  ·show absurd (if_pos m) r
  ·show#[m,λz=>r<|(if_neg m).trans z]
 have w:=(f0.step H.2.2.1 k1 Y).less (g':=#[pU as .iP g.R,g.ρ,#[[],g.U],g.s]) B λa r=>(q a r).2;show#[base,#[w.same,w.up,λa o r d i=>w.base a o r d λhm=>?_],.inr<|.inl #[U,k1,k2,b.2.2,c]];replace hm:=(F)▸(List.filterMap_cons)▸hm;rcases aC.mp hm with rfl|hm
 ·show(q a r).1<|own a F
 ·show i hm
theorem W9{g:G}{f:Fl}{fl:Flow}(q:FlR W g f fl):VR W g (kJ f)<|XT fl:=by
 induction q with
 |next=>show PR.none
 |cont=>show PR.none
 |ret h=>show h
noncomputable abbrev adQ(fd:i8)(g:List Str):List<|Str×Option Nat:=g.map λx=>(x,if fd.scope.names.lookup x=I .local then I 0 else az)
abbrev Iz(fd:i8)(g:List Str)(n:Nat):Fm:=#[adQ fd g,[n],cellsFrom (n+1) fd.scope.names []]
theorem pV{x:Str}{a:α}{l:List<|Str×α}:(l.map (·.1)).Nodup->(x,a)∈l->l.lookup x=I a:=by
 induction l with
 |nil=>show λw h=>absurd h ai
 |cons p r g=>
  intro nd h;rw[bK,bX]at nd;rw[eK];rcases aC.mp h with e|h2
  ·subst e;rw[beq_self_eq_true]
  ·show(beq_eq_false_iff_ne.mpr λe:x=p.1=>nd.1<|dD.mpr #[(x,a),h2,e])▸(g nd.2 h2)
theorem yC{x:Str}{l:List<|Str×α}:x∉l.map (·.1)->l.lookup x=az:=by
 induction l with
 |nil=>show λw=>rfl
 |cons p r g=>intro h;rw[bK,aC,not_or]at h;show bS eK<|bS (beq_eq_false_iff_ne.mpr h.1) ?_;show g h.2
theorem Gs{kindOf:Str->Option NameKind}{x:Str}{c:Str->Prop}[DecidablePred c](q:c x){F:List (Str×aq)->(Str->Option aq)->Str->Option aq}(f0:∀m,F [] m=m)(w:∀y v r m,F ((y,v)::r) m=F r (if c y then λz=>if z=y then I v else m z else m)){g:List<|Str×aq}:∀{m:Str->Option aq},(g.map (·.1)).Nodup->F g m x=(g.lookup x).or (m x):=by
 induction g with
 |nil=>show λZ=>by rw[f0];rfl
 |cons p r H=>
  intro m nd;obtain⟨y,v⟩:=p;rw[bK,bX]at nd;rw[w,H nd.2,eK];by_cases e:x=y
  ·subst e;rw[beq_self_eq_true,yC nd.1,if_pos q,if_pos B];rfl
  ·show bS (beq_eq_false_iff_ne.mpr e) ?_;have:(if c y then λz=>if z=y then I v else m z else m) x=m x:=by
    split
    ·show if_neg e
    ·rfl
   rw[this]
theorem AJ{kindOf:Str->Option NameKind}{x:Str}(q:kindOf x=I .local){g:List<|Str×aq}{m:Str->Option aq}(nd:(g.map (·.1)).Nodup):bindL kindOf g m x=(g.lookup x).or (m x):=
 Gs (kindOf:=kindOf) q (λw=>rfl) (λw w w w=>rfl) nd
theorem RG{kindOf:Str->Option NameKind}{x:Str}(q:kindOf x=I .cell){g:List<|Str×aq}{m:Str->Option aq}(nd:(g.map (·.1)).Nodup):bindC kindOf g m x=(g.lookup x).or (m x):=
 Gs (kindOf:=kindOf) (c:=λx=>¬kindOf x=I NameKind.local) (by show(q)▸?_;nofun) (λw=>rfl) (λy v r m=>by
  change bindC kindOf r (if kindOf y=I NameKind.local then m else λz=>if z=y then I v else m z)=_
  by_cases h:kindOf y=I NameKind.local
  ·rw[if_pos h,if_neg<|not_not_intro h]
  ·rw[if_neg h,if_pos h]) nd
theorem Sk{g:G}{q:List Str}{w:List<|Str×aq}{vs:List V}(M:q.Nodup)(Y:cC (VR W g) vs (w.map (·.2)))(f:w.map (·.1)=q.take vs.length){x:Str}(R:q[i]?=I x) :
  OV W g ((r9 q.length vs)[i]?).join ((w.lookup x).or az):=by
 unfold r9;by_cases F:i<vs.length
 ·rw[bM<|by rw[ay];show F,cj,bD F];show hd λe Z=>?_;obtain⟨u,U,b⟩:=Y.get<|bD F;have l:(w.map (·.1))[i]?=I x:=bS f<|bS oW<|bS (if_pos F) R;rw[cj]at U l;show mS U λp h c=>?_;rw[h]at l;subst c;show Z<|sB (aV l)<|bS (pV ((f)▸M.sublist (wQ _ _)) (a:=p.2)<|dM h) b
 ·have L:=m6 F;rw[yC (by
   show bS (f) ?_;intro d;obtain⟨j,H⟩:=List.getElem?_of_mem d;rw[oW]at H;by_cases k:j<vs.length
   ·rw[if_pos k]at H;show F<|oF M R H▸k
   ·replace H:=(if_neg k)▸H;show bh H),bN<|by rw[ay];show L,qF]
  split<;>trivial
theorem RN{v:Sc}{q:List Str}(B:Qa W.K f fd body v q){c:Cx}{g:G}{s':aA}(I':Inv #[W,c,Fm.nil] g){w:List<|Str×aq}{vs:List V}(j:cC (VR W g) vs (w.map (·.2)))(n:w.map (·.1)=q.take vs.length)(D:vs.length<=q.length){env:Env}
  (Q:env=newEnv fd.scope g.s.heap.objs.size fd.globals (cellsFrom (g.s.heap.objs.size+1) fd.scope.names []) (fd.qualname++".<locals>.") (I f) fd.code az fd.builtins) (H:InCallC g.s env.locals (bindL env.kindOf w λ_=>az) env.cells (bindC env.kindOf w λ_=>az) s') :
  ∃k,k.s=s'/\k.σ=#[r9 q.length vs,g.U]/\Le g k/\Inv #[W,c,Iz fd q g.s.heap.objs.size] k/\jv v (Iz fd q g.s.heap.objs.size) env:=by
 show hd λΩ T=>?_;subst Q;have nd:=(n)▸B.XS.sublist (wQ _ _);have W':((cellsFrom (g.s.heap.objs.size+1) fd.scope.names []).map (·.1)).Nodup:=by rw[cellsFrom_names _ _ 0 [] [] af];show B.cnd
 have z:∀x,(newEnv fd.scope g.s.heap.objs.size fd.globals (cellsFrom (g.s.heap.objs.size+1) fd.scope.names []) (fd.qualname++".<locals>.") (I f) fd.code az fd.builtins).kindOf x=fd.scope.names.lookup x:=λx=>rfl;obtain⟨h',X,e,keep⟩:=H.done;show T ?_;have J:Inv #[W,c,Fm.nil] #[g.R,g.ρ,g.σ,s']:=bS (e)<|I'.heap X keep;have A:∀p∈cellsFrom (g.s.heap.objs.size+1) fd.scope.names [],g.s.heap.objs.size<p.2:=λp M=>H.above p.1 p.2 M;have new:=λb j=>I'.free (by
  induction e:g.get b with
  |none=>rfl
  |some o=>show absurd (dF e)<|cH.mpr j)
 have Y:∀a∈(Iz fd q g.s.heap.objs.size).own,g.R a=.iP/\∃o,s'.heap.get? a=I o:=λa ha=>by
  rcases aC.mp ha with rfl|ha
  ·show#[new _<|aE _,by obtain⟨o,_,_,e,_⟩:=H.toInCall.ns;show#[o,e]]
  ·show gO ha λp M ζ=>ζ▸(#[new _<|fO<|A p M,by obtain⟨o,e,_⟩:=H.cell p.1 p.2<|pV W' M;show#[o,e]])
 have L:Le g #[pU (Iz fd q g.s.heap.objs.size).own .own g.R,g.ρ,#[r9 q.length vs,g.U],s']:=#[(Le.enter (loc:=[]) λa ha=>(Y a ha).1).F,bH _];show⟨#[pU (Iz fd q g.s.heap.objs.size).own .own g.R,g.ρ,#[r9 q.length vs,g.U],s'],rfl,rfl,L,J.enter Y ?_ ?_ #[?_,λd hd=>?_,λp M=>#[_,H.cell p.1 p.2<|pV W' M],λi x l U=>?_,λi x U=>?_],
  B.kind,B.sk.symm,B.glob,B.blt,by show bS (B.BG) ?_;rfl,by rw[ay];show B.next.symm,λx i r Z=>?_,λx i r Z=>?_⟩
 ·change(g.s.heap.objs.size::(cellsFrom (g.s.heap.objs.size+1) fd.scope.names []).map (·.2)).Nodup;rw[bX];show#[λhm=>?_,?_]
  ·show gO hm λp M e=>(absurd (A p M)<|(e)▸cP _)
  ·rw[Mi,gV];show H.apart
 ·change(q.map _).Nodup;rw[Mi,gV];show B.XS.imp λh e=>h (Fe e).1
 ·change(vs.map I++eJ (q.length-vs.length) az).length=(q.map _).length;rw[aj,ay,mG,ay,j7 D]
 ·rw[ah.mp hd];show#[_,H.toInCall.ns]
 ·rw[cj]at U;obtain⟨y,m,e⟩:=cB.mp U;obtain⟨rfl,e⟩:=Fe e;split at e
  ·next t=>
   cases e
   show#[_,_,rfl,H.toInCall.ns,?_];show bS (AJ ((z _).trans t) nd)<|(Sk B.XS j n m).mono L
  ·cases e
 ·replace U:=(cj)▸U;obtain⟨y,m,e⟩:=cB.mp U;obtain⟨rfl,e⟩:=Fe e;split at e
  ·cases e
  ·next t=>
   have C:=(B.cell y<|dM m).resolve_left t;obtain⟨a,ha⟩:=bQ.mp<|afy fd.scope.names (g.s.heap.objs.size+1) []<|.inl C;show#[a,_,ha,H.cell _ _ ha,?_];show bS (RG ((z _).trans C) nd)<|(Sk B.XS j n m).mono L
 ·rw[B.sk]at Z;rw[cj,B.slot x i r,B.BG,ry,if_pos Z]
 ·rw[B.sk]at Z;show#[?_,rfl];rw[cj,B.slot x i r,ry,if_neg<|by show(Z)▸?_;nofun]
structure Mod(W:Pw):Prop where
 nl:∀h:Heap,W.K.In h->h.NoLimit
 sm:∃o,W.K.lookup sysModules=I o
 gt:∀(j:Nat) (x) (p),zW[j]?=I x->RJ[j]?=I p->∃v,mq W.K (cG x)=I v/\PR W (λa=>match W.K.lookup a with|some o=>.fz o|none=>.iP) p v
 rz:ab3 W BP
def Rq(W:Pw)(c:Cx)(g:G)(w:gT->List O->Prop)(Q:fP->aA->Prop):Prop:=∀v q u,Le g q->Inv #[W,c,Fm.nil] q->VR W q v u->w (.ok v) q.U->Q (.ok<|.ret u) q.s
def P0(W:Pw)(A:bC)(c:Cx)(q:gT->List O->Prop)(Q:fP->aA->Prop):Prop:=∀cc g s' e l,A.frames=I l->Inv #[W,c,Fm.nil] g->Ov g l e cc s'->q (.exc cc) g.U->Q (.error<|.ref e) s'
theorem Ly{Z:Sc}{q:List Str}(W':Mod W)(F:Qa W.K f fd body Z q){b:S}(D:∀f,Runs W m Γ f)(T:Fq b)(d:nL W.K Z b body=aB)
  {A:bC}{c:Cx}{g:G}{ws:List aq}{full:List V}{Qm:gT->List O->Prop}{Q:fP->aA->Prop} (H:Fj (m+2) A) (fr:SJ A c) (I:Inv #[W,c,Fm.nil] g) {w:List<|Str×aq} (B:Zu g.s fd #[ws,[]] w) (i:cC (VR W g) full (w.map (·.2))) (U:w.map (·.1)=q.take full.length) (hl:full.length<=q.length)
  (h:Yj Γ q.length b full g.U Qm) (hR:Rq W c g Qm Q) (hE:P0 W A c Qm Q):eZ W.M A (.call (.ref f) #[ws,[]]) Q g.s:=by
 show hd λΩ ω=>?_;obtain⟨o,ho,hd⟩:=F.obj;obtain⟨l,t,Zf⟩:=fr;show ω ?_;show qq (by have:=H.depth;unfold recursionLimit;show dO [_,_] (.a (.v 0)<|.n 1) (.n 1000) (.a (.a (.v 0)<|.m 4<|.a (.v 1)<|.n 2)<|.n 20) (.n 900) af this) (I.za _ _ ho) hd F.co F.gen F.body (F.code _ I.za)<|B _ _ _ _ ?_;show(F.clos)▸(HO F.kind (λx j=>?_) λenv y s' IC=>?_)
 ·have hm:=tV<|U▸dD.mpr #[x,j,rfl];show(F.cell _ hm).imp_right λh=>#[h,afy _ _ _<|.inl h]
 obtain⟨g',e1,e2,L,J,z⟩:=RN F I i U hl y IC;have k:env.frame=ae g.s.heap.objs.size:=by rw[y];rfl
 have Y:(A.deeper env).frames=ae (env::l):=by change A.frames.map (env::·)=_;show bS (t) ?_;rfl
 have S:rU #[#[W,c,Iz fd q g.s.heap.objs.size],m,Γ,A.deeper env,env,Z]:=
  #[#[H.handled,H.guards,by have:=H.depth;change A.depth+1+4*(m+1)+20<=900;lia,by have:=H.units;change A.units+3+40*(m+1)+100<=9000;lia],z,#[l,env,_,Y,k,k,rfl,by rw[z.kind];nofun,Zf],by show bS (F.BG) ?_;rfl,D,W'.sm,W'.gt,W'.rz]
 show(e1)▸?_;show#[W'.nl _ J.za,KI<|T S #[l,Y] d J (X:=λc σ=>Qm (.exc c) σ.U) (bS (e2) h) (λcc g1 s2 e l' yD p fl j=>?_) λf0 fl g1 L1 p hf hk=>?_]
 ·cases Y.symm.trans yD
  show Gq Y fl (λL r=>by cases k.symm.trans r;show .head _) λs3 f3=>hE cc _ s3 e l t p.leave.1 f3 j
 ·obtain⟨I2,C⟩:=p.leave;show hR _ #[pU (Iz fd q g.s.heap.objs.size).own .iP g1.R,g1.ρ,#[[],g1.U],g1.s] _ (L.trans<|L1.trans C) I2 ((W9 hf).mono C) hk
section
variable {R:fP->aA->Prop}{rest:List aq}
theorem pW{M:ir}{E:aq->aA->Prop}{m:Sem α}{a:α}{f:α->Sem β}{Q:β->aA->Prop}(L:gb M h m a)(e:s.heap=h)(q:dZ M A (f a) Q E s):dZ M A (m>>=f) Q E s:=by subst e;show aL<|cW<|L.here q
theorem Qi{E:aq->aA->Prop}{Q:Fin->aA->Prop}(X:W.K.In s.heap)(Y:Makes W.M s.heap C)(F:findIn W.K (.ref C) "__init__" = I (I<|.ref fI))(H:typeIn W.K (.ref fI)=I (.type "function"))
  (h:dZ W.M A (call (.ref fI) (.ref (s.heap.objs.size+1)::rest)) (λv s'=>v=.none/\Q (.done<|.ret<|.ref<|s.heap.objs.size+1) s') E<|sh s ((s.heap.push emptyDict).push<|instObj C s.heap.objs.size) s.toks) :
  dZ W.M A (Builtin.«type.__call__» #[.ref C::rest,[]]) Q E s:=by
 show hd λZ x=>?_;obtain⟨g,gs,c,t,d⟩:=s;obtain⟨⟨f,od,cd,i,r,j,l,L⟩,made,base,self,top,call,U⟩:=id Y;show x ?_;have k:∀b o,g.get? b=I o->((g.push emptyDict).push<|instObj C g.objs.size).get? b=I o:=λb o e=>aQ _<|aQ _ e;have p:=by have:=br (h:=g.push emptyDict) (o:=instObj C g.objs.size) B;rwa [jJ]at this
 have w:gb W.M ((g.push emptyDict).push<|instObj C g.objs.size) (typeOf<|.ref<|g.objs.size+1)<|.ref C:=(i7 p).andThen .now;have n:=qa (M:=W.M) X F;unfold Builtin.«type.__call__»;dsimp only;rw[if_neg<|show ¬((aq.ref C==aq.type "type")=J)from aD];show pW (((i7 r).andThen .now).andThen .now) B ?_;rw[L,if_neg aD];show pW made B<|aL<|bB<|aL<|bR<|cW<|XJ<|new_K Y n (.inl B) ?_;show pW (w.andThen<|self.keeps k) B ?_;rw[if_neg<|show ¬((!true)=J)from aD];show aL<|bR ?_;show pW (w.andThen<|n.keeps k) B<|bR<|pW (bind_fn (λa o e=>k a o<|X a o e) _ H) B<|aL<|dK h (λv s' q=>?_) λm m e=>e;obtain⟨rfl,q⟩:=q;show bB<|bB q
theorem AD{id:String}{b:Builtin}(gd:yr (.builtin id args)=J)(q:(Code.builtin id args).quiet=J)(w:entryFor table id=I b)
  (h:wpAny W.M A.in1 (checkBuiltinCall id args) (λZ g=>dZ W.M (A.under<|.builtin id args) (b args) (Jk W A R) (λe s'=>R (.error e) s') g) (λe s'=>R (.error e) s') s):eZ W.M A (.call (.builtin id) args) R s:=by show jL B ?_;change dZ _ A.in1 (do checkBuiltinCall id args;again<|.builtin id args) _ _ s;show aL<|dK (cW h) (λZ g H=>bB<|aN q<|qT gd w H) λZ Z h'=>h'
noncomputable abbrev made(A:bC)(C:Addr)(rest:List aq):bC:=A.under<|.builtin "type.__call__" #[.ref C::rest,[]]
theorem Xc(X:W.K.In s.heap)(w:makesIn W.K C=J)(a:findIn W.K (.ref C) "__init__" = I (I<|.ref fI))(F:typeIn W.K (.ref fI)=I (.type "function"))
  (h:eZ W.M (made A C rest) (.call (.ref fI) #[.ref (s.heap.objs.size+1)::rest,[]]) (InitBack (s.heap.objs.size+1) R)<|sh s ((s.heap.push emptyDict).push<|instObj C s.heap.objs.size) s.toks):eZ W.M A (.call (.ref C) #[rest,[]]) R s:=by have Y:=makes_of (M:=W.M) X w;show hd λc H=>?_;obtain⟨⟨L,od,cd,U,b,_⟩,_,_,_,_,g,q⟩:=id Y;show H<|jL B ?_;show cW<|nd_load b ?_;change wpAny _ _ (HU (.ref C) _) _ _ _;show ao<|g.here ?_;dsimp only;rw[tc_bind];show ao<|aF<|ao<|aF ?_;show aF<|aN B ?_;show AD (by change(!(gi.contains "type.__call__"))=J;decide +kernel) (kO _<|by decide +kernel) afz<|check_slot tc_kind tc_split q (tc_args _ _ _)<|Qi X Y a F<|oB<|zD h λr s' z=>?_;rcases r with e | (v|_|_|_)<;>first|show z|show z.elim
theorem Fj.made(h:Fj (n+1) A):Fj n<|made A C rest:=#[h.handled,h.guards,by have:=h.depth;change A.depth+1+_+_<=_;lia,by have:=h.units;change A.units+1+_+_<=_;lia]
end
theorem VQ{C:Nat}(h:(nu C).length<=20):ri C [] (eJ (nu C).length az) where
 len:=mG
 val i nm _:=by
  show bS (qF) ?_
  split<;>rfl
 no _ _:=rfl
 cnt:=dU _
 lim:=bS (mG) h
theorem TN{g:G}(n:Nat):cC (OV W g) (eJ n az)<|eJ n az:=by
 induction n with
 |zero=>show .nil
 |succ n q=>show .cons trivial q
theorem Inv.Lm{g:G}(R:Inv b g){C:Nat}(H:(nu C).length<=20):∃q,q.s=sh g.s ((g.s.heap.push emptyDict).push<|instObj C g.s.heap.objs.size) g.s.toks/\q.σ=#[g.loc,g.U++[.inst C<|eJ (nu C).length az,.aux]]/\Inv b q/\Le g q/\VR b.W q (.ref g.U.length) (.ref<|g.s.heap.objs.size+1):=by
 have c:((g.s.heap.push emptyDict).push<|instObj C g.s.heap.objs.size).get? g.s.heap.objs.size=I emptyDict:=aQ _<|br _ B;have F:=by have:=br (h:=g.s.heap.push emptyDict) (o:=instObj C g.s.heap.objs.size) B;rwa [jJ]at this
 have M:=R.free (by
  induction e:g.get (g.s.heap.objs.size+1)with
  |none=>rfl
  |some o=>show absurd (dF e)<|cH.mpr<|eV _)
 have w:∀j a,[g.s.heap.objs.size+1,g.s.heap.objs.size][j]?=I a->(g.ρ++[g.s.heap.objs.size+1,g.s.heap.objs.size])[g.U.length+j]?=I a:=λj a e=>by rw[<- R.len,bN<|bg _ _,dW];show e
 obtain⟨d,L⟩:=R.Lc (os:=[.inst C<|eJ (nu C).length az,.aux]) g.s.toks B
  (bX.mpr #[λh=>Nat.succ_ne_self _<|ah.mp h,bX.mpr #[ai,bV]])
  (λa ha=>by
   rcases aC.mp ha with rfl|ha
   ·show#[M,_,F]
   ·rw[ah.mp ha];show#[R.free<|ie _,_,c])
  (λa o Z z=>aQ _<|aQ _ z) B (λj o e=>by
   cases j with
   |zero=>
    injection e with e;subst e
    show#[g.s.heap.objs.size+1,g.s.heap.objs.size,_,[],0,eJ (nu C).length az,#[w 0 _ B,if_pos<|.head _,F],#[w 1 _ B,if_pos<|.tail _<|.head _,c],?_,VQ H,TN _]
    change(g.U++[_,O.aux])[g.U.length+1]?=I .aux
    rw[bN<|bg _ _,dW];rfl
   |succ j=>
    induction j with
    |zero=>obtain rfl:=aV e;trivial
    |succ j=>show bh e)
 show#[_,rfl,rfl,d,L,_,w 0 _ B,rfl]
noncomputable def nk(g:Nat)(dv:List P)(vs:List V):List V:=vs++(dv.drop<|dv.length-(g-vs.length)).map .p
def QS(W:Pw)(fd:i8)(w:List Str)(H:Nat)(dv:List P):Prop:=∀{c:Cx}{g:G}{vs:List V}{ws:List aq},Inv #[W,c,Fm.nil] g->cC (VR W g) vs ws->vs.length<=H->H<=vs.length+dv.length->
 ∃q,Zu g.s fd #[ws,[]] q/\cC (VR W g) (nk H dv vs) (q.map (·.2))/\q.map (·.1)=w.take (nk H dv vs).length/\(nk H dv vs).length<=w.length
structure Cq where
 bare:Bool:=au
 cls:Option Nat
 n:Nat
 np:Nat
 dv:List P
 body:S
noncomputable def Cq.argsOk(d:Cq)(k:Nat):Bool:=decide (k<=d.np)&&decide (d.np<=k+d.dv.length)
noncomputable def Cq.Su(d:Cq)(Γ:gI):Spec:=λvs g Q=>match d.cls with
 |none=>d.argsOk vs.length=J/\Yj Γ d.n d.body (nk d.np d.dv vs) g Q
 |some C=>d.argsOk (vs.length+1)=J/\ex Γ D3 d.body #[r9 d.n<|nk d.np d.dv (.ref g.length::vs),g++[.inst C<|eJ (nu C).length az,.aux]] λf q=>kJ f=.p .none/\Q (.ok<|.ref g.length) q.U
noncomputable def Cq.spec(d:Cq)(Γ:gI):Spec:=λvs g Q=>match d.bare with
 |true=>bO d.cls λC=>vs=[]/\Q (.ok<|.ref g.length) (g++[.inst C<|eJ (nu C).length az,.aux])
 |false=>d.Su Γ vs g Q
structure Y4(W:_)(f:_)(d:Cq):Prop where
 fn:∃fI fd body sc names,Qa W.K fI fd body sc names/\names.length=d.n/\nL W.K sc d.body body=J/\QS W fd names d.np d.dv/\match d.cls with
  |none=>fI=f
  |some C=>C=f/\(nu C).length<=20/\makesIn W.K C=J/\findIn W.K (.ref C) "__init__" = I (I<|.ref fI)/\typeIn W.K (.ref fI)=I (.type "function")
 all:Fq d.body
inductive CT (W:Pw) (f:Addr) (d:Cq):Prop
 |fn:d.bare=au->Y4 W f d->CT W f d
 |bare:d.bare=J->d.cls=I f->(nu f).length<=20->makesIn W.K f=J->findIn W.K (.ref f) "__init__" = I (I<|.builtin "object.__init__")->CT W f d
theorem Nt{A:bC}{R:fP->aA->Prop}(X:W.K.In s.heap)(w:makesIn W.K C=J)(a:findIn W.K (.ref C) "__init__" = I (I<|.builtin "object.__init__"))
  (h:R (.ok<|.ret<|.ref<|s.heap.objs.size+1)<|sh s ((s.heap.push emptyDict).push<|instObj C s.heap.objs.size) s.toks):eZ W.M A (.call (.ref C) #[[],[]]) R s:=by
 obtain⟨q,g,d,t,c⟩:=s;have Y:=makes_of (M:=W.M) X w;have F:=by have:=br (h:=q.push emptyDict) (o:=instObj C q.objs.size) B;rwa [jJ]at this
 show adt<|make_core Y (qa X a) (λself=>p6<|oi_bind self) (.inr #[rfl,rfl]) ?_;have H:gb W.M ((q.push emptyDict).push<|instObj C q.objs.size) (typeOf<|.ref<|q.objs.size+1)<|.ref C:=(i7 F).andThen .now;show Uc oi_plain entry_oi<|@check_slot W.M _ _ _ "object.__init__" "object" "__init__" (.ref<|q.objs.size+1) [] [] _ oi_kind oi_split (H.andThen<|Y.top.keeps λb o e=>aQ _<|aQ _ e) (oi_args<|.ref<|q.objs.size+1) ?_;rw[oi_run];show aF<|aN B h
theorem NG{d:Cq}(W':Mod W)(D:Y4 W f d)(Y:∀f,Runs W m Γ f){c:Cx}{g:G}{vs:List V}{Qm:gT->List O->Prop}{Q:fP->aA->Prop}(w:Fj (m+3) A)(Z:SJ A c)(I:Inv #[W,c,Fm.nil] g)(a:cC (VR W g) vs ws)
  (h:d.Su Γ vs g.U Qm) (b:Rq W c g Qm Q) (z:P0 W A c Qm Q):eZ W.M A (.call (.ref f) #[ws,[]]) Q g.s:=by
 show hd λi F=>?_;obtain⟨⟨fI,fd,body,sc,U',j,k,n,B,R⟩,o⟩:=D;show F ?_;unfold Cq.Su at h;cases e:d.cls with
 |none=>rw[e]at h R;show hd λi F=>?_;subst R;show aZ h.1 λk1 k2=>?_;obtain⟨q,b1,b2,b3,b4⟩:=B I a (of_decide_eq_true k1)<|of_decide_eq_true k2;show F<|Ly W' j Y o n #[w.handled,w.guards,av (by lia) w.depth,av (by lia) w.units] Z I b1 b2 b3 b4 (bS k h.2) b z
 |some C=>
  rw[e]at h R;show hd λi F=>?_;obtain⟨rfl,K,T,X,c5⟩:=R;obtain⟨g',e1,e2,J,L,t⟩:=I.Lm K;show aZ h.1 λk1 k2=>?_;obtain⟨q,b1,b2,b3,b4⟩:=B J (.cons t<|a.mono λ_ _ h=>h.mono L) (of_decide_eq_true k1)<|of_decide_eq_true k2;show F<|Xc I.za T X c5<|(e1)▸?_;show Ly (Qm:=λr U=>match r with
   |.ok v=>v=.p .none/\Qm (.ok<|.ref g.U.length) U
   |.exc _=>False) W' j Y o n w.made Z J b1 b2 b3 b4 ?_ (λv x u y J2 hu H=>?_) λcc x s' e l _ _ _ H=>H.elim
  ·have:=h.2;rw[k,show g'.U=_ from congrArg St.U e2];show this
  ·obtain⟨rfl,H⟩:=H;obtain rfl:=PR.none_of hu;show#[rfl,b (.ref g.U.length) x _ (L.trans y) J2 (t.mono y) H]
theorem O6{d:Cq}(H:Mod W)(D:CT W f d)(R:∀f,Runs W m Γ f){c:Cx}{g:G}{vs:List V}{q:gT->List O->Prop}{Q:fP->aA->Prop}(U:Fj (m+3) A)(p:SJ A c)(r:Inv #[W,c,Fm.nil] g)(w:cC (VR W g) vs ws)
  (h:d.spec Γ vs g.U q) (t:Rq W c g q Q) (Y:P0 W A c q Q):eZ W.M A (.call (.ref f) #[ws,[]]) Q g.s:=by
 unfold Cq.spec at h;induction D with
 |fn b D=>rw[b]at h;show NG H D R U p r w h t Y
 |bare b e Z a i=>
  rw[b,e]at h;show hd λo j=>?_;obtain⟨rfl,h⟩:=h;cases w
  obtain⟨F,k,l,v,L,n⟩:=r.Lm Z;show j<|Nt r.za a i<|(k)▸(t (.ref g.U.length) F _ L v n<|by rw[show F.U=_ from congrArg St.U l];show h)
structure Ib(e:E):Prop where
 ev:Ev e
 yt:NP e/\Ew .And e/\Ew .Or e
 BH:HR e
 bs:CQ e/\CW e/\vh e
 asg:CG e
 mV:Iw e
section
variable {e:E}
theorem noE(h:∀K g x,lj K g e x=au):Ev e:=λw w w w w w w w q=>absurd q<|by rw[h];show aD
theorem UY(h:∀K q x,qp K q e x=au):NP e/\Ew .And e/\Ew .Or e:=
 #[λw w w w w w w w w g=>absurd g<|by rw[h];show aD,λw w w w w w w w w g=>absurd g<|by rw[h];show aD,λw w w w w w w w w g=>absurd g<|by rw[h];show aD]
theorem noB(h:∀K g x,Ou K g e x=au):HR e:=λw w w w w w w w q=>absurd q<|by rw[h];show aD
theorem Uz(h:∀K q x,uB K q e x=au):CQ e/\CW e/\vh e:=
 #[λw w w w w w w w g=>absurd g<|by rw[h];show aD,λw w w w w w w w g=>absurd g<|by rw[h];show aD,λw w w w w w w w g=>absurd g<|by rw[h];show aD]
theorem noT(h:∀K g x,xw K g e x=au):CG e:=λw w w w w w w w w w q=>absurd q<|by rw[h];show aD
theorem WU(h:∀K g x,zd K g e x=au):Iw e:=λw w w w w w w w w w q=>absurd q<|by rw[h];show aD
theorem Ib.one(ev:Ev e)(q:∀K g x,qp K g e x=au)(w:∀K g x,Ou K g e x=au)(M:∀K g x,uB K g e x=au)(F:∀K g x,xw K g e x=au)(H:∀K g x,zd K g e x=au):Ib e:=#[ev,UY q,noB w,Uz M,noT F,WU H]
theorem Ib.tgt(ev:Ev e)(asg:CG e)(q:∀K g x,qp K g e x=au)(w:∀K g x,Ou K g e x=au)(H:∀K g x,uB K g e x=au)(F:∀K g x,zd K g e x=au):Ib e:=#[ev,UY q,noB w,Uz H,asg,WU F]
theorem Ib.tst(ev:Ev e)(BH:HR e)(q:∀K g x,qp K g e x=au)(w:∀K g x,uB K g e x=au)(H:∀K g x,xw K g e x=au)(F:∀K g x,zd K g e x=au):Ib e:=#[ev,UY q,BH,Uz w,noT H,WU F]
end
theorem W8:Ev .dead:=λw w w w w w w w w w h=>kq h
theorem qh(e:E):Ib e:=by
 induction e with
 |nil=>show#[noE λC C C=>rfl,#[IF,Ht,Ht],noB λC C C=>rfl,#[My,M0,LP],noT λC C C=>rfl,Pq]
 |cons a r q w=>show#[noE λC C C=>rfl,#[zF q.ev w.yt.1,C6 q.ev w.yt.2.1,C6 q.ev w.yt.2.2],noB λC C C=>rfl,#[JG q.BH w.bs.1,Jz q.BH w.bs.2.1,Sd q.BH w.bs.2.2],noT λC C C=>rfl,Nc q.asg w.mV]
 |loc i=>show .tgt (aaV i) (W7 i) (λC C C=>rfl) (λC C C=>rfl) (λC C C=>rfl) λC C C=>rfl
 |c x=>show .one (adg x) (λC C C=>rfl) (λC C C=>rfl) (λC C C=>rfl) (λC C C=>rfl) λC C C=>rfl
 |g j=>show .one (agL j) (λC C C=>rfl) (λC C C=>rfl) (λC C C=>rfl) (λC C C=>rfl) λC C C=>rfl
 |bin op a b q D=>show .one (aa7 op q.ev D.ev) (λC C C=>rfl) (λC C C=>rfl) (λC C C=>rfl) (λC C C=>rfl) λC C C=>rfl
 |neg a q=>show .one (ZK q.ev) (λC C C=>rfl) (λC C C=>rfl) (λC C C=>rfl) (λC C C=>rfl) λC C C=>rfl
 |not a q=>show .tst (aax q.ev) (Wb q.BH) (λC C C=>rfl) (λC C C=>rfl) (λC C C=>rfl) λC C C=>rfl
 |nK H h=>show .tst (aaF h.yt.2.1) (WQ h.bs.1) (λC C C=>rfl) (λC C C=>rfl) (λC C C=>rfl) λC C C=>rfl
 |zH H h=>show .tst (ad2 h.yt.2.2) (aaa h.bs.2.1) (λC C C=>rfl) (λC C C=>rfl) (λC C C=>rfl) λC C C=>rfl
 |cmp op a b q D=>show .tst (abY op q.ev D.ev) (Vi op q.ev D.ev) (λC C C=>rfl) (λC C C=>rfl) (λC C C=>rfl) λC C C=>rfl
 |ite t a b Q q D=>show .one (abX Q.BH q.ev D.ev) (λC C C=>rfl) (λC C C=>rfl) (λC C C=>rfl) (λC C C=>rfl) λC C C=>rfl
 |attr o c k h=>show .tgt (Vj c k h.ev) (QE c k h.ev) (λC C C=>rfl) (λC C C=>rfl) (λC C C=>rfl) λC C C=>rfl
 |prop o c f h=>show .one (Wg c f h.ev) (λC C C=>rfl) (λC C C=>rfl) (λC C C=>rfl) (λC C C=>rfl) λC C C=>rfl
 |sub o i h F=>show .tgt (aap h.ev F.ev) (UC h.ev F.ev) (λC C C=>rfl) (λC C C=>rfl) (λC C C=>rfl) λC C C=>rfl
 |slice o n F h L M=>show .one (RP h.ev L.ev M.ev) (λC C C=>rfl) (λC C C=>rfl) (λC C C=>rfl) (λC C C=>rfl) λC C C=>rfl
 |rev o h=>show .one (abk h.ev) (λC C C=>rfl) (λC C C=>rfl) (λC C C=>rfl) (λC C C=>rfl) λC C C=>rfl
 |call f args h=>show .one (UI f h.yt.1) (λC C C=>rfl) (λC C C=>rfl) (λC C C=>rfl) (λC C C=>rfl) λC C C=>rfl
 |eN o c f args h K=>show .one (We c f h.ev K.yt.1) (λC C C=>rfl) (λC C C=>rfl) (λC C C=>rfl) (λC C C=>rfl) λC C C=>rfl
 |bi b args h=>show .one (aed b h.yt.1) (λC C C=>rfl) (λC C C=>rfl) (λC C C=>rfl) (λC C C=>rfl) λC C C=>rfl
 |bm m o args h K=>show .one (ac3 m h.ev K.yt.1) (λC C C=>rfl) (λC C C=>rfl) (λC C C=>rfl) (λC C C=>rfl) λC C C=>rfl
 |lst H h=>show .one (ZD h.yt.1) (λC C C=>rfl) (λC C C=>rfl) (λC C C=>rfl) (λC C C=>rfl) λC C C=>rfl
 |tup H h=>show .tgt (aaj h.yt.1) (Xn h.mV) (λC C C=>rfl) (λC C C=>rfl) (λC C C=>rfl) λC C C=>rfl
 |dict kb=>show .one (V8 kb) (λC C C=>rfl) (λC C C=>rfl) (λC C C=>rfl) (λC C C=>rfl) λC C C=>rfl
 |comp m t it p elt Q F R U=>show .one (UP m F.ev Q.asg R.bs.2.2 U.ev) (λC C C=>rfl) (λC C C=>rfl) (λC C C=>rfl) (λC C C=>rfl) λC C C=>rfl
 |FU m s y z A elt W Y Z d l=>show .one (Qw m Y.ev d.ev W.asg Z.asg l.ev) (λC C C=>rfl) (λC C C=>rfl) (λC C C=>rfl) (λC C C=>rfl) λC C C=>rfl
 |fz e h=>show .one (ae1 h.ev) (λC C C=>rfl) (λC C C=>rfl) (λC C C=>rfl) (λC C C=>rfl) λC C C=>rfl
 |v e h=>show#[noE λC C C=>rfl,UY λC C C=>rfl,aeM h.ev,Uz λC C C=>rfl,noT λC C C=>rfl,WU λC C C=>rfl]
 |dead=>show .one W8 (λC C C=>rfl) (λC C C=>rfl) (λC C C=>rfl) (λC C C=>rfl) λC C C=>rfl
noncomputable def BG(tab:Addr->Option Cq):Nat->gI
 |0,_=>λw w w=>False
 |k+1,f=>λvs g Q=>bO (tab f) λd=>d.spec (BG tab k) vs g Q
theorem OY(q:Mod W){tab:Addr->Option Cq}(T:∀f d,tab f=I d->CT W f d)(k:Nat):∀f,Runs W (3*k) (BG tab k) f:=by
 induction k with
 |zero=>show λf {A c g vs ws w Q} _ _ _ _ h _ _=>kq h
 |succ k a=>show λf {A c g vs ws w Q} F H R b h L M=>bI h λd e h=>O6 q (T f d e) a F H R b h L M
theorem VB{b:S}(c:Fq b):Sx<|.Hu b:=λ{F x g X K0 Q E} S tp q d h H R=>Qo (T:=λx=>dZ F.M F.A (exec x F.env) Q E g.s) (G:=λw Z=>nL F.b.W.K F.sc b w) q λw a p q=>by
 rw[arm_exec_Try]
 show ic ?_
 unfold tryStmt
 rw[if_pos<|show([]).isEmpty=J from rfl]
 show aL<|xE<|dK (c (E:=λZ Z=>False) S tp q d h UD R) (λfl L fin=>?_) λZ Z e=>e.elim
 induction fl<;>show bB fin
theorem JL{ps:List Str}(nd:ps.Nodup):∀{L:List α}{i:Nat}{n:Str},ps[i]?=I n->(ps.zip L).lookup n=L[i]?:=by
 induction ps with
 |nil=>intro L i n e;show bh e
 |cons p r g=>
  intro L i n e;rw[bX]at nd;cases L with
  |nil=>rfl
  |cons x L=>
   show bS Mm<|bS eK ?_;induction i with
   |zero=>obtain rfl:=aV e;rw[beq_self_eq_true];rfl
   |succ i=>show bS (beq_eq_false_iff_ne.mpr λz:n=p=>nd.1<|z▸dM e)<|g nd.2 e
theorem N2{g:Str->Option α}{ps:List Str}:∀{full:List α},full.length=ps.length->(∀(i:Nat) n,ps[i]?=I n->g n=full[i]?)->(ps.filterMap λn=>(g n).map (n,·))=ps.zip full:=by
 induction ps with
 |nil=>intro full _ _;rfl
 |cons p r w=>
  intro full q h;induction full with
  |nil=>cases q
  |cons v full=>rw[Mm,qc<|by show bS (h 0 p B) ?_;rfl,w (ja q) λi n e=>h (i+1) n e]
noncomputable def xU(g:List<|Str×aq)(p:Str×aq):List<|Str×aq:=if (g.lookup p.1).isNone=J then g++[(p.1,p.2)] else g
theorem QA{l r:List<|Str×α}{n:Str}:(l++r).lookup n=(l.lookup n).or (r.lookup n):=by
 induction l with
 |nil=>rfl
 |cons p l g=>show bS cT<|bS eK<|bS eK<|bS g ?_;cases n==p.1<;>rfl
theorem ZF{n:Str}{l:List<|Str×aq}:∀{g:List<|Str×aq},(l.foldl xU g).lookup n=(g.lookup n).or (l.lookup n):=by
 induction l with
 |nil=>show λ{g}=>by induction h:g.lookup n<;>show bS List.foldl_nil (bS h ?_)<;>rfl
 |cons p l w=>
  intro g;show bS gv<|bS w<|bS eK ?_;unfold xU;by_cases c:(g.lookup p.1).isNone=J
  ·show bS (if_pos c)<|bS QA<|bS eK ?_;by_cases e:n=p.1
   ·subst e;rw[beq_self_eq_true];show bS (jQ.mp c) ?_;rfl
   ·show(beq_eq_false_iff_ne.mpr e)▸?_;induction g.lookup n<;>rfl
  ·rw[if_neg c];by_cases e:n=p.1
   ·subst e;rw[beq_self_eq_true];induction q:g.lookup p.1 with
    |none=>rw[q]at c;show absurd B c
    |some v=>rfl
   ·show(beq_eq_false_iff_ne.mpr e)▸rfl
theorem MX{M:ir}{E:aq->aA->Prop}{Q:List (Str×aq)->aA->Prop}{f:Str×aq->List (Str×aq)->Sem (ForInStep<|List<|Str×aq)}{l:List<|Str×aq}(q:∀p g,f p g=pure (.yield<|xU g p)):∀{g:List<|Str×aq},Q (l.foldl xU g) s->wpAny M A (forIn l g f) Q E s:=by
 induction l with
 |nil=>show λh=>aF h
 |cons p l w=>intro g h;rw[fG,q];show ao<|aF<|w h
theorem F1{M:ir}{E:aq->aA->Prop}{Q:α->aA->Prop}{c:Prop}[Decidable c]{x y:Sem α}(h:¬c)(q:wpAny M A y Q E s):wpAny M A (if c then x else y) Q E s:=(if_neg h)▸q
theorem Vz{ps:List Str}(nd:ps.Nodup)(q:ws.length<=ps.length)(w:ps.length<=ws.length+dv.length)(H:dv.length<=ps.length)(i:Nat)(n:Str)(e:ps[i]?=I n) :
  ((((ps.drop<|ps.length-dv.length).zip dv).foldl xU<|ps.zip ws).lookup n)=(ws++dv.drop (dv.length-(ps.length-ws.length)))[i]?:=by
 have F:=(aR.mp e).1;show bS ZF<|bS (JL nd e) ?_;by_cases g:i<ws.length
 ·show bS (bM g)<|bS (bD g) ?_;rfl
 ·have g:=m6 g;show bS (List.getElem?_eq_none g)<|bS (bN g)<|bS uW ?_;show(Option.none_or)▸?_;have k2:=ny w;have k:=av k2 g;rw[JL (nd.sublist<|List.drop_sublist _ _)<|bS (uW)<|bS (j7 k) e];show congrArg (dv[·]?) ?_;clear F e k;obtain⟨a,rfl⟩:=rq g;rw[dW,Nat.sub_add_comm k2,OO _ H,OO _ q,iy ws.length]
theorem Yv{ps:List α}{dv:List β}(g:dv.length<=ps.length):dv.drop (dv.length-ps.length)=dv:=by show bS (Nat.sub_eq_zero_of_le g) ?_;rfl
theorem UQ{ps:List Str}(nd:ps.Nodup)(q:ps.length<=ws.length+dv.length)(w:dv.length<=ps.length):((ps.take<|ps.length-(dv.drop<|dv.length-ps.length).length).filter λn=>((ps.zip ws).lookup n).isNone)=[]:=by
 rw[Yv w,jk];intro n H;obtain⟨i,g⟩:=mF.mp H;rw[oW]at g;by_cases c:i<ps.length-dv.length
 ·rw[if_pos c]at g;show bS (JL nd g)<|bS (bD<|aH c<|ny q) ?_;show aD
 ·replace g:=(if_neg c)▸g;show bh g
theorem aaU{ps:List Str}(nd:ps.Nodup)(g:ws.length<=ps.length)(q:ps.length<=ws.length+dv.length)(w:dv.length<=ps.length) :
  ((ps++[]).filterMap λn=>((((ps.drop<|ps.length-(dv.drop<|dv.length-ps.length).length).zip<|dv.drop<|dv.length-ps.length).foldl xU<|ps.zip ws).lookup n).map (n,·))=ps.zip (ws++dv.drop (dv.length-(ps.length-ws.length))):=by rw[Yv w,aY];show N2 (bS aj<|bS qH<|bS (T3<|ny<|iy ..▸q)<|bS (j7 g) B)<|Vz nd g q w
theorem G9{s:aA}{ws:List aq}{as:List Arg}{F:List<|Option Expr}{H:List Expr}(b:fd.params=#[[],as,az,[],F,az,H])
  {r:Option<|Array aq} (hd:∀(M:ir) (A:bC) (E:aq->aA->Prop) (Q),Q r s->wpAny M A (seqItems? fd.defaults) Q E s)
  (nd:(as.map (·.arg)).Nodup) (g:ws.length<=(as.map (·.arg)).length) (q:(as.map (·.arg)).length<=ws.length+(r.getD #[]).toList.length) (w:(r.getD #[]).toList.length<=(as.map (·.arg)).length) :
  Zu s fd #[ws,[]] ((as.map (·.arg)).zip (ws++(r.getD #[]).toList.drop ((r.getD #[]).toList.length-((as.map (·.arg)).length-ws.length)))):=by intro M A E Q R;unfold bindArgs;show bS (b) ?_;show ao<|aF<|ao<|hd _ _ _ _ ?_;show F1 (λh=>absurd (of_decide_eq_true ((fg _ _).mp h).1)<|cH.mpr g)<|F1 (λh=>aD<|(congrArg (λl:List Str=>!l.isEmpty)<|UQ nd q w).symm.trans h)<|ao<|MX (λp a=>?_)<|ao<|aF<|F1 aD<|aF<|bS (aaU nd g q w) R;change(if (a.lookup p.1).isNone=J then _ else _)=pure (ForInStep.yield<|if (a.lookup p.1).isNone=J then _ else _);split<;>rfl
noncomputable def Frag.R(K:Frag):RM:=λa=>match K.lookup a with
 |some o=>.fz o
 |none=>.iP
theorem Inv.agr{g:G}(w:Inv b g):u0 (Frag.R b.W.K) g.R:=λa o e=>by
 unfold Frag.R at e
 induction l:b.W.K.lookup a with
 |none=>replace e:=(l)▸e;cases e
 |some q=>rw[l]at e;injection e with e;subst e;show w.kF _ _ l
def Dflts(W:Pw)(v:aq)(dv:List P):Prop:=v=.none/\dv=[]∨∃T ys n,v=.ref T/\W.K.lookup T=I (qg ys n)/\cC (PR W<|Frag.R W.K) dv ys.toList
theorem Wh{w:List Str}{F:Nat}{dv:List P}{as:List Arg}{k:List<|Option Expr}{m:List Expr}(o:fd.params=#[[],as,az,[],k,az,m])(L:as.map (·.arg)=w.take F)(H:F<=w.length)(nd:w.Nodup)(t:dv.length<=F)(hd:Dflts W fd.defaults dv):QS W fd w F dv:=by
 intro c g vs ws z Z a b;have D:(as.map (·.arg)).length=F:=by rw[L,qG,iM H]
 have y:=Z.len;obtain⟨r,v,d⟩:∃r:Option (Array aq),(∀(M:ir) (A:bC) (E) (Q),Q r g.s->wpAny M A (seqItems? fd.defaults) Q E g.s)/\cC (PR W g.R) dv (r.getD #[]).toList:=by
  rcases hd with ⟨e,rfl⟩ | ⟨T,ys,n,e,l,r⟩
  ·show#[az,λx x x x q=>(e)▸aF q,.nil]
  ·show#[I ys,λx x x x q=>(e)▸afA (z.za _ _ l) B q,F5.mono z.agr r]
 have Y:=d.len;have lf:(nk F dv vs).length=F:=by unfold nk;rw[aj,ay,qH,T3<|ny<|iy ..▸b,j7 a]
 have C:=G9 o v (bS L<|nd.sublist<|wQ _ _) (by rw[D,<- y];show a) (by show(D)▸(y)▸(Y)▸b)<|(D)▸(Y)▸t;have i:cC (VR W g) (nk F dv vs) (ws++(r.getD #[]).toList.drop ((r.getD #[]).toList.length-((as.map (·.arg)).length-ws.length))):=by rw[D,<- Y];show sB (y) ?_;have:=(d.drop<|dv.length-(F-vs.length)).map (U:=VR W g) (f:=V.p) (f':=id) λx x h=>h;rw[p8]at this;show Z.append this
 have j:(as.map (·.arg)).length=(ws++(r.getD #[]).toList.drop ((r.getD #[]).toList.length-((as.map (·.arg)).length-ws.length))).length:=by show sB (i.len) ?_;rw[lf,D]
 show#[_,C,by rw[yJ<|ak j.symm];show i,by rw[yK<|ak j,lf,L],by rw[lf];show H]
noncomputable def iw.or(r x:iw):iw:=match r with
 |.fz o=>.fz o
 |_=>x
noncomputable def Cx.at(c:Cx)(g:G):Cx:={ c with R0:=λa=>(g.R a).or<|c.R0 a,ρ0:=g.ρ }
noncomputable abbrev Bs.at(b:Bs)(g:G):Bs:=#[b.W,b.c.at g,b.fm]
noncomputable abbrev Fr.at(F:Fr)(g:G):Fr:=#[F.b.at g,F.n,F.Γ,F.A,F.env,F.sc]
theorem iw.Gy(r x:iw):(∃o,r=.fz o/\r.or x=.fz o)∨r.or x=x:=by induction r<;>first|show .inl #[_,rfl,rfl] | show .inr rfl
section
variable {g g1:G}
theorem Inv.reb(H:Inv b g):Inv (b.at g) g:=
 { H with
  base:=λa h=>by
   change g.R a=(g.R a).or (b.c.R0 a)
   rcases iw.Gy (g.R a) (b.c.R0 a)with ⟨o,q,w⟩ | e
   ·rw[w];show q
   ·rw[e]
    show H.base a<|sB (e) h
  pre:=bH _ }
theorem Inv.YM(H:Inv (b.at g) g1)(M:Inv b g):Inv b g1/\Le g g1:=by
 have q:∀a,((g.R a).or<|b.c.R0 a).stable=J->g1.R a=(g.R a).or (b.c.R0 a):=H.base;show#[{ H with base:=λa h=>?_,pre:=M.pre.trans H.pre },#[λa o e=>?_,H.pre]]
 ·have d:=M.base a h;rcases iw.Gy (g.R a) (b.c.R0 a)with ⟨o,F,w⟩ | e
  ·have:=q a (by rw[w];rfl);show(this)▸(w)▸(d)▸(F)▸rfl
  ·show(q a<|by rw[e];show h).trans e
 ·have:=q a (by show bS (e) ?_;rfl);rw[this,e];rfl
end
theorem rU.reb{g:G}(S:rU F)(j:Inv F.b g):rU<|F.at g:=
 ⟨S.ok,S.eo,(by
  show hd λf w=>?_
  obtain⟨l,H,L,i,M,U,W,Y,Z⟩:=S.fr
  show w ?_
  show#[l,H,L,i,M,U,W,Y,λe a=>?_]
  show hd λf w=>?_
  obtain⟨k1,q,o,k2,h,d⟩:=Z e a
  show w ?_
  show#[k1,q,o,k2,?_,d]
  change(g.R q).or (F.b.c.R0 q)=.OD o
  rw[j.base q<|by rw[h];rfl,h];rfl),S.dl,S.run,S.sm,S.gt,S.rz⟩
theorem Inv.Tn{g:G}{base:Heap}(S:rU F)(tp:F.A.frames=I (F.env::l))(m:Inv F.b g)(f:DV g (F.env::l) base s')(H:base.StaysIn s'.heap):Inv F.b #[g.R,g.ρ,g.σ,s']:=by
 show hd λs q=>?_;obtain⟨c,d,L,M,U,h,W,i,Y⟩:=S.fr;cases tp.symm.trans M
 show q ?_;rw[f.same];show m.flight s'.toks λa o r e=>#[?_,f.up a o r e];by_cases w:a∈(F.env::l).filterMap (·.frame)
 ·show .inl ?_;obtain⟨env,he,p⟩:=oY.mp w;rcases aC.mp he with rfl|he
  ·cases U.symm.trans p
   show .inl<|m.own L<|Fm.sI<|HA W
  ·obtain⟨k1,j,Z,k2,n,k⟩:=Y env he;show hd λs q=>?_;cases k2.symm.trans p
   show q<|.inr #[Z,(m.base a<|by show bS (n) ?_;rfl).trans n]
 ·show .inr<|H a o<|f.base a o r e w
theorem Ti{x:Option Obj}(h:YX x=J):∃g od cd q,x=I #[g,od,.cls cd,q]:=by
 induction x with
 |none=>show gE h
 |some o=>obtain⟨a,b,d,e⟩:=o;induction d<;>first|show#[_,_,_,_,rfl] | show gE h
theorem BN{M:ir}{E:aq->aA->Prop}{w:Obj}{Q:Bool->aA->Prop}(X:K.In s.heap)(h:excIn K C=J)(a:s.heap.get? e=I w)(F:w.cls=.ref C)(q:Q J s):wpAny M A (excMatches (.ref e)<|.ref C) Q E s:=by
 show hd λH g=>?_;obtain⟨c,h⟩:=eH h;obtain⟨b,h⟩:=eH h;obtain⟨L,R⟩:=eH h;show g ?_;show ao<|(looks_instIn X<|cI c).here ?_;show F1 aD<|ao<|aF<|ao ?_;rw[fG];have U:gb M s.heap (isExcClass<|.ref C) J:=by show hd λH g=>?_;obtain⟨Y,od,cd,Z,W⟩:=Ti b;show g<|gb.andThen ((i7<|X _ _ W).andThen .now)<|bS (if_pos B)<|jx X<|cI L
 show ao<|ao<|U.here<|F1 aD<|aF<|aF<|ao<|(show gb M s.heap (typeOf<|.ref e) (.ref C)from F▸(i7 a).andThen .now).here<|ao ?_;rw[fG];show ao<|ao<|(jx X<|cI R).here<|aF<|aF<|aF q
theorem Jd{M:ir}{E:aq->aA->Prop}{Q:α->aA->Prop}{c:Prop}[Decidable c]{x y:Sem α}(h:¬c)(q:dZ M A y Q E s):dZ M A (if c then x else y) Q E s:=(if_neg h)▸q
theorem aeC{M:ir}{A:bC}{E:aq->aA->Prop}{s:aA}{env:Env}{body:Sem Flow}{q:ExceptHandler}{w:List ExceptHandler}{Q:Flow->aA->Prop}
  (h:dZ M A body Q (λe g=>wpAny M A (noteFrame e env) (λZ b=>wpAny M A (setFlight e az) (λZ F=>wpAny M A (handleBy e env (q::w)) Q E F) E b) E g) s) :
  dZ M A (tryStmt au body (q::w) (execs [] env) [] env) Q E s:=by
 unfold tryStmt;rw[if_pos<|show([]).isEmpty=J from rfl];show aL<|xE<|dK h (λfl H fin=>?_) λe H c=>aL<|dK (cW c) (λZ R a=>?_) λZ Z x=>x
 ·induction fl<;>show bB fin
 ·show Jd aD<|aL<|dK (cW a) (λZ U L=>Jd (by rw[tT];show aD)<|Jd aD<|cW L) λZ Z x=>x
theorem Gj{A:bC}{E:aq->aA->Prop}{g:G}{c:Sc}(d:Inv b g)(H:jv c b.fm env){p:P}{k:wD}{n:Nat}{p1 w F:Pos}{Q:Flow->aA->Prop}(o1:k7 c nm i=J)(o2:Yg p k=J)
  (q:∀s',Inv b #[g.R,g.ρ,g.σ.var i<|.p p,s']->Q .next s'):wpAny b.W.M A (execs [.Assign [.Name nm p1] (.Constant k n w) F] env) Q E g.s:=by rw[HN];show ao ?_;rw[pF];show ao<|rT ?_;rw[show swapsWithSole [.Name nm p1] (.Constant k n w) F.line env=pure au from rfl];show ao<|aF ?_;rw[if_neg aD];show ao<|GH (R:=g.R) o2 λu t L=>?_;rw[show swappedStores [.Name nm p1] (.Constant k n w) env=pure az from rfl];show ao<|aF ?_;show ao<|BD<|sr (v:=.p p) (d.toks t) H o1 L λs' a=>aF<|aF<|q s' a
theorem R7{g:G}{cc:Nat}{n:Str}{p1 Y Z a c:Pos}{nm:Str}{i d:Nat}{p:P}{k:wD}{Q:Flow->aA->Prop}{E:aq->aA->Prop}(S:rU F)(tp:F.A.frames=ae (F.env::l))(I:Inv F.b g)(f:Ov g (F.env::l) e cc s')
  (h:qP F.sc n=J) (j:mq F.b.W.K n=ae (.ref cc)) (m:excIn F.b.W.K cc=J) (o1:k7 F.sc nm i=J) (o2:Yg p k=J) (q:∀s',Inv F.b #[g.R,g.ρ,g.σ.var i<|.p p,s']->Q .next s') :
  wpAny F.M F.A (noteFrame (.ref e) F.env) (λ_ o=>wpAny F.M F.A (setFlight (.ref e) az) (λ_ r=>wpAny F.M F.A (handleBy (.ref e) F.env [.ExceptHandler (ae<|.Name n p1) az [.Assign [.Name nm Y] (.Constant k d Z) a] c]) Q E r) E o) E s':=by show xS tp f λX L hf s=>(hd λt F'=>?_);obtain⟨base,a0,f0,U⟩:=s;show F'<|wpAny_landsW U λh' B v=>(hd λt F'=>?_);obtain⟨k1,k2,k3,k4⟩:=id B;have W:=f0.step U.2.2.1 k1 v;have J':=I.Tn S tp W k1;obtain⟨oe,vs,x,y,_⟩:=B.first;show aZ h λz C=>(F' ?_);show wpAny_handleBy_cons (codeAny_handlers_test<|tE J'.za S.eo (gH z) (cI C) j<|BN J'.za m x y<|codeAny_handlers_suite ?_) (by intro q;cases q);show lands_againW B λh2 w H=>(Gj (I.Tn S tp (W.step B.2.2.1 w.1 H) w.1) S.eo o1 o2 λD T=>q D T)
abbrev afN(F:Fr)(Q:Flow->aA->Prop)(E:aq->aA->Prop)(s:aA)(g:List Stmt)(pos:Pos)(q:List ExceptHandler):Prop:=dZ F.M F.A (exec (.Try g q [] [] pos) F.env) Q E s
theorem ZG(c i:Nat)(p:P){b:S}(w:Fq b):Sx<|.Gv b c i p:=λ{F x g X K0 Q E} S tp q I h hX W=>
 Qo (T:=λx=>dZ F.M F.A (exec x F.env) Q E g.s) (G:=λB H=>nL F.b.W.K F.sc b B&&oq H λv r=>r.isEmpty&&vH v λn w=>qP F.sc n&&(mq F.b.W.K n==ae (.ref c)&&(excIn F.b.W.K c&&oq w λY r=>r.isEmpty&&Nk Y λy v=>s8 y λnm _=>k7 F.sc nm i&&xe v λk _ _=>Yg p k))) q λB H pos q=>aZ q λo1 q=>
 iK (T:=afN F Q E g.s B pos) q λv r q=>aZ q λa q=>je a (agP q λn p1 H p5 q=>aZ q λd q=>aZ q λj q=>aZ q λm q=>
 iK q λY r2 q=>aZ q λo q=>je o (DW q λy v p4 q=>
 nG q λnm p2 q=>aZ q λo2 q=>vI q λk kk p3 o3=>by
  obtain⟨l,Z⟩:=id tp
  change dZ _ _ (exec _ _) _ _ _
  rw[arm_exec_Try]
  show ic<|aeC (w (F:=F.at g) (S.reb I) tp o1 I.reb h (λcc g1 s' e l' t J f z=>?_) λf fl g1 _ J C D=>by obtain⟨U,L⟩:=J.YM I;show W f fl g1 L U C D)
  show hd λΩ ω=>?_
  cases Z.symm.trans t
  obtain⟨c1,_,c3⟩:=z
  obtain rfl:cc=c:=gC c1
  obtain⟨U,L⟩:=J.YM I
  show ω<|R7 S Z U f d (cI j) m o2 o3 λs3 J3=>W .next .next #[g1.R,g1.ρ,g1.σ.var i<|.p p,s3] #[L.F,L.ρ] J3 .next c3))
theorem Inv.adS{g:G}(c:Inv b g){v v':V}(k:g.loc[i]?.join=I v)(h:∀u,VR b.W g v u->VR b.W g v' u):Inv b #[g.R,g.ρ,g.σ.var i v',g.s]:=by
 have L:Le g #[g.R,g.ρ,g.σ.var i v',g.s]:=#[λZ Z e=>e,bH _];have key:∀(j:Nat) w,OV b.W g (g.loc[j]?).join w->OV b.W #[g.R,g.ρ,g.σ.var i v',g.s] ((g.loc.set i<|I v')[j]?).join w:=λj w q=>by
  by_cases e:i=j
  ·subst e;replace q:=(k)▸q;show bS (ik<|(aR.mp<|qb.mp k).1) ?_;induction w with
   |none=>show q.elim
   |some u=>show((h u q).mono L)
  ·rw[dw e];show q.mono L
 show{ c with
  hr:=λi o e=>(c.hr i o e).congr L (λZ Z z=>z) λz=>#[z,λZ Z z=>z]
  lr:=⟨(cD ..).trans c.lr.len,c.lr.ns,c.lr.cl,
   λj x l e=>by obtain⟨d,m,f,F,H⟩:=c.lr.vd j x l e;show#[d,m,f,F,key j _ H],
   λj x e=>by obtain⟨a,M,f,F,H⟩:=c.lr.vc j x e;show#[a,M,f,F,key j _ H]⟩ }
theorem Inv.ad7{g:G}(H:Inv b g){v:V}(M:g.loc[i]?.join=I v):∃u,VR b.W g v u:=by
 have key:∀w,OV b.W g (g.loc[i]?).join w->∃u,VR b.W g v u:=λw q=>by
  replace q:=(M)▸q;induction w with
  |none=>show q.elim
  |some u=>show#[u,q]
 obtain⟨⟨x,l⟩,e⟩:∃p,b.fm.tab[i]?=I p:=#[_,bD<|H.lr.len▸(aR.mp<|qb.mp M).1];induction l with
 |some l=>obtain⟨d,m,_,_,h⟩:=H.lr.vd i x l e;show key _ h
 |none=>obtain⟨a,F,_,_,h⟩:=H.lr.vc i x e;show key _ h
theorem Z0(i:Nat){r:S}(b:Fq r):Fq<|.Ug i r:=λ{F x g X K0 Q E} S tp c D h d e=>by
 show hd λk C=>?_
 obtain⟨v,W,h⟩:=qS h
 obtain⟨u,H⟩:=D.ad7 W
 obtain⟨q,v',L,K,l,Y,M,h⟩:=Tw (loc:=g.loc) D H h
 show C<|(l)▸?_
 have m:=K.adS (v':=v') (bS (Y) W) λw n=>by
  induction v with
  |p y=>show absurd h<|by intro;show absurd (H)<|by trivial
  |ref j=>
   show hd λk C=>?_
   obtain⟨a,o,rfl⟩:=n
   obtain⟨z,U,rfl⟩:=(VR.mono L H)
   cases o.symm.trans U
   show C M
 show b (g:=#[q.R,q.ρ,q.σ.var i v',q.s]) S tp c m (by rw[<- Y]at h;show h) d λf fl t Z=>e f fl t<|L.trans #[Z.F,Z.ρ]
end
section
open Builtin Builtin.ObjectAttr
theorem sR.made{M:ir}(X:K.In h)(Y:sR K C):gb M h (aci<|.ref C)<|I VM:=by obtain⟨od,cd,H,b,g,_,w,_,R⟩:=Y.obj;intro A Q E s k q;have F:gb M h (mroOf<|.ref C) cd.mro:=((i7<|X _ _ g).andThen .now).andThen .now;show ao<|F A _ E s k ?_;rw[w,fG];show ao<|ao<|ao<|ao<|wA (k _ _<|X _ _ g)<|aF ?_;show(cV)▸(R)▸aF (aF<|aF q)
theorem sR.base{M:ir}(X:K.In h)(Y:sR K C):gb M h (Bind.staticBase<|.ref C)<|.ref C:=by obtain⟨od,cd,F,b,g,_,w,_,_⟩:=Y.obj;intro A Q E s k q;have H:gb M h (mroOf<|.ref C) cd.mro:=((i7<|X _ _ g).andThen .now).andThen .now;show ao<|H A _ E s k ?_;rw[w,fG];show ao<|ao<|ao<|(Y.made X) A _ E s k<|aF<|aF<|aF q
noncomputable abbrev oG(C t:Addr):Obj:={ cls:=.ref C,data:=.fields [.ref t,.none,.none,.none,.bool au,.none].toArray }
noncomputable abbrev EA(vs:List aq):Obj:={ cls:=.type "tuple",data:=.seq vs.toArray }
section
variable {g:Array GenState}{d:Drawn}{t:Nat}{os:iq}{R:fP->aA->Prop}
theorem WA(X:W.K.In h)(Y:sR W.K C)(k:R (.ok<|.ret<|.ref<|h.objs.size+1) #[(h.push<|EA [v]).push<|oG C h.objs.size,g,d,t,os]) :
  codeAny W.M A (.call (.builtin VM) #[[.ref C,v],[]]) R #[h,g,d,t,os]:=by
 have F:=PySem.F.excBase_Exception;have made:=Y.made (M:=W.M) X;have base:=Y.base (M:=W.M) X;have self:=jx (M:=W.M) X Y.self;have H:=jx (M:=W.M) X Y.exc;have l:=jx (M:=W.M) X Y.aaD;have j:=jx (M:=W.M) X Y.att;have L:=jx (M:=W.M) X Y.nam;obtain⟨od,cd,e,b,q,U,_⟩:=Y.obj;replace q:=X _ _ q;show codeAny_call_builtin_code (kO _ F.quiet) ?_;have f:=F.noStar;have w:gb W.M h (Xz VM<|.ref C) ():=base.andThen<|made.andThen<|p6 (by simp only[ry,bne_self_eq_false,Mn,if_false]);have i:gb W.M h (Xz "BaseException.__new__"<|.ref C) ():=base.andThen<|made.andThen<|p6 (by simp only[ry,F.canon,bne_self_eq_false,Mn,if_false]);unfold checkBuiltinCall;show bS (F.newKind)<|bS (F.newSplit)<|bS (F.newRow) ?_;repeat lk
 have Z:=F.ends;show codeAny_builtinAt F.entry<|OQ ?_;show OQ<|PySem.wpAt_stack λp below=>HV ?_;wp_walk;show HV<|bS (F.owner) ?_;have c:gb W.M h (isType<|.ref C) J:=(i7 q).andThen .now;repeat lk
 show j8 (aQ _<|aQ _ q) ?_;change wpAny _ _ (pure cd.hasDel) _ _ _;rw[U];show aF<|aF<|aF (a:=Fin.done<|.ret<|.ref (h.push<|EA [v]).objs.size) ?_;change R _ _;rw[jJ];show k
end
section
variable {R:fP->aA->Prop}
abbrev tH(h:Heap)(C:Addr)(v:aq):Heap:=(h.push<|EA [v]).push<|oG C h.objs.size
theorem Bb:(tH h C v).get? (h.objs.size+1)=I (oG C h.objs.size):=by have:=br (h:=h.push<|EA [v]) (o:=oG C h.objs.size) B;rwa [jJ]at this
theorem pT{b:Addr}(e:h.get? b=I o):(tH h C v).get? b=I o:=aQ _<|aQ _ e
theorem Nv{E:aq->aA->Prop}{Q:Fin->aA->Prop}(X:W.K.In s.heap)(Y:sR W.K C)(c:findIn W.K (.ref C) "__init__" = I (I<|.ref fI))(F:typeIn W.K (.ref fI)=I (.type "function"))
  (h:dZ W.M A (call (.ref fI) [.ref<|s.heap.objs.size+1,v]) (λr s'=>r=.none/\Q (.done<|.ret<|.ref<|s.heap.objs.size+1) s') E<|sh s (tH s.heap C v) s.toks) :
  dZ W.M A (Builtin.«type.__call__» #[[.ref C,v],[]]) Q E s:=by obtain⟨g,gs,f,t,L⟩:=s;obtain⟨od,cd,U,b,H,_,d,_⟩:=Y.obj;have w:gb W.M (tH g C v) (typeOf<|.ref<|g.objs.size+1)<|.ref C:=(i7 Bb).andThen .now;have k:∀b o,g.get? b=I o->(tH g C v).get? b=I o:=λb o e=>pT e;unfold Builtin.«type.__call__»;dsimp only;rw[if_neg<|show ¬((aq.ref C==aq.type "type")=J)from aD];show pW (((i7<|X _ _ H).andThen .now).andThen .now) B ?_;rw[d,if_neg<|show ¬List.isEmpty (_::_)=J from aD];show pW (Y.made (M:=W.M) X) B<|aL<|bB<|aL<|bR<|cW<|XJ<|WA X Y ?_;show pW (w.andThen<|(jx (M:=W.M) X Y.self).keeps k) B ?_;rw[if_neg<|show ¬((!true)=J)from aD];show aL<|bR ?_;show pW (w.andThen<|(qa X c).keeps k) B<|bR<|pW (bind_fn (λa o e=>k a o<|X a o e) _ F) B<|aL<|dK h (λv s' q=>?_) λZ Z e=>e;obtain⟨rfl,q⟩:=q;show bB<|bB q
theorem ZX(X:W.K.In s.heap)(Y:sR W.K C)(g:findIn W.K (.ref C) "__init__" = I (I<|.ref fI))(q:typeIn W.K (.ref fI)=I (.type "function"))
  (h:eZ W.M (made A C [v]) (.call (.ref fI) #[[.ref<|s.heap.objs.size+1,v],[]]) (InitBack (s.heap.objs.size+1) R)<|sh s (tH s.heap C v) s.toks):eZ W.M A (.call (.ref C) #[[v],[]]) R s:=by obtain⟨od,cd,H,b,w,_⟩:=Y.obj;show jL B ?_;show cW<|nd_load (X _ _ w) ?_;change wpAny _ _ (HU (.ref C) _) _ _ _;show ao<|(looks_specialIn X Y.call).here ?_;dsimp only;rw[tc_bind];show ao<|aF<|ao<|aF ?_;show aF<|aN B ?_;show AD (by change(!(gi.contains "type.__call__"))=J;decide +kernel) (kO _<|by decide +kernel) afz<|check_slot tc_kind tc_split (looks_instIn X Y.typ) (tc_args _ _ _)<|Nv X Y g q<|oB<|zD h λr s' z=>?_;rcases r with e | (v|_|_|_)<;>first|show z|show z.elim
theorem Nd{x t:Addr}{name:Str}{Q:Unit->aA->Prop}{E:aq->aA->Prop}(X:W.K.In s.heap)(Y:sR W.K C)(f:findIn W.K (.ref C) "__setattr__" = I (I<|.builtin "object.__setattr__"))(i:findIn W.K (.ref C) name=I az)
  (H:s.heap.get? x=I (oG C t)) (h:∀h' q,(∀b o,b≠x->s.heap.get? b=I o->h'.get? b=I o)->(∃j,h'.get? x=I { oG C t with dict:=I j })->Q () (sh s h' q)) :
  wpAny W.M A (setAttr (.ref x) name v) Q E s:=by
 obtain⟨g,gs,k,q,l⟩:=s
 obtain⟨od,cd,sl,b,J,_,m,n,_⟩:=Y.obj
 replace J:=X _ _ J
 have I':XG g x (oG C t) C az:=#[H,rfl,rfl,trivial]
 have w:=PySem.F.store_object
 show set_plain X I' f ?_
 show Uc w.slot.plain w.entry<|@check_slot W.M _ _ #[g,gs,k,q+1,l] "object.__setattr__" "object" "__setattr__" (.ref x) [.str name q,v] [] _ w.kind w.split (I'.type.andThen<|jx (M:=W.M) X Y.top) (w.args (.ref x) (.str name q) v) ?_
 have p:gb W.M g (mroOf<|.ref C) cd.mro:=((i7 J).andThen .now).andThen .now
 rw[osa_eq,refuse_eq]
 show ao<|ao<|I'.type.at<|ao<|p.at ?_
 rw[m,afB,afB,PySem.F.store_Exception.passes]
 show aF<|ao<|I'.type.at<|ao<|(qa X i).at<|ao<|aF ?_
 show ao<|aF<|ao ?_
 have r:gb W.M g (classData C) cd:=(i7 J).andThen .now
 show ao<|wA H<|ao<|r.at ?_
 rw[n]
 have c:(g.push emptyDict).get? x=I (oG C t):=aQ _ H
 have B:=aS<|dF H
 have L:((g.push emptyDict).update x λo=>{ o with dict:=I g.objs.size }).get? g.objs.size=I emptyDict:=(ux _ _ _ _ B.symm).trans<|Heap.get?_push_at af af
 have U:((g.push emptyDict).update x λo=>{ o with dict:=I g.objs.size }).Ns g.objs.size λ_=>az:=
  #[_,#[],_,L,rfl,λe y=>absurd y<|by simp,λ_=>rfl]
 show ao<|wpAny_alloc ?_
 show ao<|wpAny_update c ?_
 show aF ?_
 show ao<|aF<|ao<|wpAny_nsSet1 (Heap.Ns1.of_empty U) λh' D d=>?_
 obtain⟨oD,R,T,W',Z,a⟩:=D.count<|Within.cons name v Within.nil
 show ao<|CB W' (bS (Z)<|acq<|av a<|by rw[aX,kr,gG];lia) ?_
 show aF<|h h' _ (λb o hb z=>?_) #[g.objs.size,?_]
 ·show(d.2 b<|aS<|dF z).trans<|(ux _ _ _ _ hb).trans<|aQ _ z
 ·show(d.2 x B).trans<|iF _ c af
end
end
section
open Builtin
theorem Q2{C e t:Addr}{v:aq}{R:fP->aA->Prop}(X:W.K.In s.heap)(nl:∀h:Heap,W.K.In h->h.NoLimit)(i:Jb W.K fI fd)(j:A.depth<recursionLimit)
  (k:sR W.K C) (l:findIn W.K (.ref C) "__setattr__" = I (I<|.builtin "object.__setattr__")) (p:findIn W.K (.ref C) jG=I az) (hx:s.heap.get? e=I (oG C t))
  (h:∀h' L,(∀b o,b≠e->s.heap.get? b=I o->h'.get? b=I o)->(∃r,h'.get? e=I { oG C t with dict:=I r })->R (.ok<|.ret .none) (sh s h' L)):eZ W.M A (.call (.ref fI) #[[.ref e,v],[]]) R s:=by
 show hd λΩ y=>?_;obtain⟨⟨body,sc,F,p1,w,U,D,rfl⟩,k1,k2,⟨as,kd,df,Q,g⟩,⟨T,ys,n,d1,d2,W'⟩⟩:=i;obtain⟨o,ho,hd⟩:=F.obj;show y ?_;have B:=G9 (s:=s) (ws:=[.ref e,v]) Q (λ_ _ _ _ q=>by show(d1)▸afA (X _ _ d2) af q) (by rw[g];decide +kernel) (by rw[g];show aE _) (bS g<|bg _ _) (by rw[g];change ys.toList.length<=2;rw[W'];decide);rw[g,show(I ys).getD #[]=ys from rfl,Fw<|(W')▸aE _]at B;replace B:Zu s fd #[[.ref e,v],[]] [(mR,.ref e),(jG,v)]:=B;show qq j (X _ _ ho) hd F.co F.gen F.body (F.code _ X)<|B _ _ _ _ ?_;show(F.clos)▸(HO F.kind (λx hx=>?_) λenv H s' I'=>?_)
 ·rcases aC.mp hx with rfl|hx
  ·show .inl k1
  ·show(ah.mp hx)▸.inl k2
 obtain⟨h',L,rfl,keep⟩:=I'.done;have Y:=λa o z=>keep _ _<|X a o z;have kind:env.scope.kind=.function:=bS (H) F.kind;have Z:env.kindOf mR=I .local:=bS (H) k1;have c:env.kindOf jG=I .local:=bS H k2;have nd:([(mR,aq.ref e),(jG,v)].map (·.1)).Nodup:=by change [mR,jG].Nodup;decide +kernel
 have d:=AJ (m:=λ_=>az) Z nd;have f:=AJ (m:=λ_=>az) c nd;rw[show([(mR,aq.ref e),(jG,v)]).lookup mR=I (.ref e)from rfl]at d;rw[show([(mR,aq.ref e),(jG,v)]).lookup jG=I v from rfl]at f;show#[nl _ Y,KI<|cW ?_];rw[HN];show ao ?_;rw[pF];show ao<|rT ?_;rw[show swapsWithSole [.Attribute (.Name mR p1) jG w] (.Name jG U) D.line env=pure au from rfl];show ao<|aF ?_;show bS (if_neg aD) ?_;show ao<|HK (wB kind c I'.toInCall.ns f ?_) (by decide +kernel);rw[show swappedStores [.Attribute (.Name mR p1) jG w] (.Name jG U) env=pure az from rfl];show ao<|aF ?_;change wpAny _ _ (assign (.Attribute (.Name mR p1) jG w) env v>>=λ_=>pure Flow.next) _ _ _;show ao ?_;rw[Ub];show ao<|eX<|HK (wB kind Z I'.toInCall.ns d ?_) (by decide +kernel);show ao<|rT<|ao<|eX<|Nd Y k l p (keep _ _ hx) λh2 J q1 q2=>q6 ?_;show aF ?_;rw[show execs [] env=pure .next from rfl];show aF<|h h2 J (λb o hb z=>q1 b o hb<|keep _ _ z) q2
noncomputable def mask(h:Heap)(l:List Addr):Heap:=l.foldr (λa k=>k.update a λw=>#[.none,az,.freed,#[]]) h
theorem N4:(h.update a λw=>#[.none,az,.freed,#[]]).get? a=az:=by unfold Heap.get? Heap.update;show bS (Array.getElem?_modify)<|bS (if_pos B) ?_;induction h.objs[a]?<;>rfl
theorem Gn{b:Addr}:∀{as:List Addr},b∉as->(mask h as).get? b=h.get? b:=by
 intro as;induction as with
 |nil=>intro _;show B
 |cons a r g=>intro n;show(lM _ _ λe:a=b=>n<|by rw[e];show .head _).trans<|g λm=>n<|.tail _ m
theorem LK{b:Addr}(m:b∈as):(mask h as).get? b=az:=by
 induction as with
 |nil=>show cO m
 |cons a r g=>
  by_cases e:a=b
  ·subst e;show N4
  ·show(lM _ _ e).trans<|g<|(aC.mp m).resolve_left<|Ne.symm e
theorem H8{base:Heap}(q:∀env∈l,env.scope.kind≠.module/\∃L o,env.frame=I L/\base.get? L=az/\h.get? L=I o/\∀vs,o.data≠.fields vs):h.FunFrames base l:=by
 induction l with
 |nil=>trivial
 |cons e r g=>show#[(q e<|.head _).1,(q e<|.head _).2,g λx m=>q x<|.tail _ m]
theorem JV{K:Frag}{M:ir}{E:aq->aA->Prop}{s:aA}{C:Addr}{env:Env}{x:Sem aq}{Q:Flow->aA->Prop}(l:A.handled=az)
  (h:dZ M A x (λv g=>∃e q vs,v=.ref e/\(K.In g.heap/\sR K C)/\g.heap.get? e=I q/\q.cls=.ref C/\q.data=.fields vs/\vs[1]?=I .none/\E (.ref e) g) E s):dZ M A (raiseStmt env (I x) az) Q E s:=by show aL<|dK h (λv w k=>cW ?_) λi i x=>x;show hd λd L=>?_;obtain⟨e,q,vs,rfl,⟨X,Y⟩,F,R,hd,k,U⟩:=k;obtain⟨od,cd,f,b,W,_⟩:=Y.obj;show L ?_;have Z:=jx (M:=M) X Y.aaD;have H:gb M w.heap (typeOf<|.ref e)<|.ref C:=R▸(i7 F).andThen .now;have a:gb M w.heap (typeOf<|.ref C)<|.type "type":=(i7<|X _ _ W).andThen .now;have j:gb M w.heap (isType<|.ref e) au:=(i7 F).andThen (by rw[hd];show .now);have c:gb M w.heap (isExcClass<|.ref e) au:=j.andThen .now;show ao<|aF<|ao<|eX ?_;show ao<|c.here<|ao<|(H.andThen Z).here ?_;show aF<|ao<|j.here<|ao ?_;show ao<|H.here<|ao<|a.here<|aF<|ao ?_;show ao<|wF F hd k ?_;show aF<|wpAny_raiseNew_none l U
theorem aaE:∀{k:wD},XW k=J->∃q:P,Yg q k=J
 |.str z,h=>#[.str z.cps.toList,by change(z.cps.toList==z.cps.toList&&decide (z.cps.toList.length<=gr))=J;rw[beq_self_eq_true];show h]
theorem Vd{g:G}{t:Addr}{tk:Nat}(S:rU F)(r:Inv F.b g)(H:F.A.frames=I l)(v:g.get e=az)(k:∀b o,g.get b=I o->h'.get? b=I o)(q:∃p,h'.get? e=I { oG BP t with dict:=I p }):Ov g l e BP<|sh g.s h' tk:=by
 obtain⟨p,M⟩:=q;obtain⟨f,U,W⟩:=S.fr.call r B;cases U.symm.trans H
 have w:∀{a o},(mask g.s.heap (l.filterMap (·.frame))).get? a=I o->g.get a=I o:=λ{a o} z=>by
  by_cases m:a∈l.filterMap (·.frame)
  ·have z:=(LK m)▸z;show bh z
  ·rw[Gn m]at z;show z
 show#[mask g.s.heap (l.filterMap (·.frame)),#[rfl,λa o i z=>#[o.slots,k a o z],λa o i z n=>(Gn n).trans z],.inl #[λa o z=>k a o<|w z,?_,H8 λenv m=>?_,_,_,_,M,rfl,rfl,rfl,rfl]]
 ·cases z:(mask g.s.heap (l.filterMap (·.frame))).get? e with
  |none=>rfl
  |some o=>have:=w z;rw[v]at this;show bh this
 ·obtain⟨Y,L,o,j,Z,c⟩:=W env m;have:=r.call.1.ok L;rw[show(g.call F.b).R L=.OD o from Z]at this;obtain⟨h,d⟩:=this;show#[Y,L,_,j,LK<|oY.mpr #[env,m,j],k _ _ d,c]
theorem O9(c:Nat):Sx<|.pY c:=λ{F x g X K0 Q E} S tp w I h W hQ=>
 PN (T:=λx=>dZ F.M F.A (exec x F.env) Q E g.s) w λnm p1 k n p2 p3 p w=>aZ w λo1 w=>aZ w λo2 w=>aZ w λo3 o4=>by
 obtain rfl:c=BP:=gC o3
 obtain⟨Y,Z⟩:=eH o1
 obtain⟨q,d⟩:=aaE o4
 obtain⟨H,f,i,⟨fI,fd,j,r,t⟩,y,D⟩:=S.rz
 rw[arm_exec_Raise]
 show ic<|JV (K:=F.b.W.K) (C:=BP) S.ok.handled<|aL ?_
 rw[yb]
 show aL<|cW<|tE I.za S.eo (gH Y) (cI Z) (cI o2) ?_
 show xx af (keeps_K y)<|zF (adg q) IF (K0:=λvs σ=>vs=[.p q]/\σ=g.σ) S (by change(Yg q k&&aB)=aB;rw[d];rfl) af I #[rfl,rfl] UD λvs us g1 L1 B kY h1=>#[B.za,?_]
 obtain⟨rfl,J⟩:=h1
 obtain⟨u,rfl⟩:∃u,us=[u]:=by cases kY with|cons a b=>cases b;show#[_,rfl]
 obtain⟨l,L⟩:=tp
 have hd:=S.ok.depth
 have R:g1.get (g1.s.heap.objs.size+1)=az:=Heap.get?_none_of_le<|eV _
 show oB<|ZX B.za H r t<|Q2 (λa o z=>pT<|B.za a o z) D j (by change F.A.depth+1<_;unfold recursionLimit;show dO [_,_] (.a (.a (.v 0)<|.n 1)<|.n 1) (.n 1000) (.a (.a (.v 0)<|.m 4<|.a (.v 1)<|.n 1)<|.n 20) (.n 900) af hd) H f i Bb λh' tk k1 k2=>?_
 have U:∀b o,g1.get b=ae o->h'.get? b=ae o:=λb o z=>k1 b o (λe=>by rw[e,R]at z;show bh z)<|pT z
 have F':=Vd (tk:=tk) S B L R U k2
 obtain⟨dx,he⟩:=k2
 show#[rfl,ic<|bB #[_,_,_,rfl,#[λa o z=>U a o<|B.za a o z,H],he,rfl,rfl,rfl,W BP g1 _ _ (F.env::l) L B F' ?_]]
 show bS (J) h
structure ahF(s:S):Prop where
 sx:Sx s
 Ud:Fq s
theorem noS{s:S}(h:∀K g x,okS K g s x=au):Sx s:=λw w w w w w w w w q=>absurd q<|by rw[h];show aD
theorem sW{s:S}(h:∀K g x,nL K g s x=au):Fq s:=λw w w w w w w w w q=>absurd q<|by rw[h];show aD
theorem aaI(t:E)(op:Operator)(e:E):Sx<|.aug t op e:=by
 induction t with
 |loc i=>show VP i op (qh e).ev
 |attr o c k=>show Vu c k op (qh o).ev (qh e).ev
 |_=>show λw w w w w w w w w w w h=>kq h
theorem agz(s:S):ahF s:=by
 induction s with
 |nil=>show#[noS λZ Z Z=>rfl,aal]
 |cons a r q w=>show#[noS λZ Z Z=>rfl,VG q.sx w.Ud]
 |Ug i r w=>show#[noS λZ Z Z=>rfl,Z0 i w.Ud]
 |asg t e=>show#[aan (qh t).asg (qh e).ev,sW λZ Z Z=>rfl]
 |yV i m M t it F elt=>show#[U6 i m M (qh it).ev (qh t).asg (qh F).bs.2.2 (qh elt).ev,sW λZ Z Z=>rfl]
 |mV H d R=>show#[Wi H (qh d).mV (qh R).yt.1,sW λZ Z Z=>rfl]
 |aug t op e=>show#[aaI t op e,sW λZ Z Z=>rfl]
 |ifs t a b q g=>show#[aby (qh t).BH q.Ud g.Ud,sW λZ Z Z=>rfl]
 |yu t b g=>show#[aa3 (qh t).BH g.Ud,sW λZ Z Z=>rfl]
 |kP t it b g=>show#[abW (qh t).asg (qh it).ev g.Ud,sW λZ Z Z=>rfl]
 |MY t a b c L=>show#[Vb (qh t).asg (zF (qh a).ev<|zF (qh b).ev IF) L.Ud,sW λZ Z Z=>rfl]
 |ret e=>show#[aam (qh e).ev,sW λZ Z Z=>rfl]
 |Px=>show#[W0,sW λZ Z Z=>rfl]
 |pY c=>show#[O9 c,sW λZ Z Z=>rfl]
 |Gv b c i p g=>show#[ZG c i p g.Ud,sW λZ Z Z=>rfl]
 |Hu b g=>show#[VB g.Ud,sW λZ Z Z=>rfl]
 |ex e=>show#[ad5 (qh e).ev,sW λZ Z Z=>rfl]
 |pass=>show#[WE,sW λZ Z Z=>rfl]
 |cont=>show#[WM,sW λZ Z Z=>rfl]
 |dead=>show#[λZ Z Z Z Z Z Z Z Z Z Z h=>kq h,sW λZ Z Z=>rfl]
end
section
section
local macro_rules
 |`(@$n:num)=>`(.loc $n)
 |`(@($n:num))=>`(.c (.int $n))
 |`(#[])=>`(.nil)
 |`(#[$x])=>`(.cons $x .nil)
 |`(#[$x,$L,*])=>`(.cons $x #[$L,*])
noncomputable def NJ:S:=#[.ret<|.bm .Sub (.c<|.str []) #[.comp 1 @1 @0 #[]<|.bi .BitAnd #[@1]]]
noncomputable def GZ:S:=#[.yV 1 1 J @3 @0 #[]<|.bi .LShift #[@3],.kP @2 @1 #[.ifs (.cmp .Gt @2 @(255)) #[.dead] #[]],.ret<|.bi .Sub #[@1]]
noncomputable def PK:S:=#[.asg @1<|.lst #[],.kP @2 @0 #[.ex<|.bm .Add @1 #[.sub (.g 0)<|.bin .RShift @2 @(4)],.ex<|.bm .Add @1 #[.sub (.g 0)<|.bin .BitAnd @2 @(15)]],.ret<|.bm .Sub (.c<|.str []) #[@1]]
noncomputable def Ep:S:=#[.ret<|.bi .Sub #[.comp 1 @2 (.bi .BitOr #[@1]) #[]<|.bin .BitAnd (.bin .RShift @0<|.bin .Mult @(8) (.bin .Sub (.bin .Sub @1 @(1)) @2)) @(255)]]
noncomputable def ZN:S:=#[.ret<|.call 124 #[@0,@(4)]]
noncomputable def yZ:S:=#[.ifs (.zH #[.cmp .Lt @1 @(0),.cmp .Gt (.bin .Add @1 @2)<|.bi .Add #[@0]]) #[.dead] #[],.asg @3 @(0),.kP @4 (.slice @0 @1<|.bin .Add @1 @2) #[.asg @3<|.bin .Add (.bin .Mult @(256) @3) @4],.ret @3]
noncomputable def NT:S:=#[.ret<|.call 138 #[@0,@1,@(4)]]
noncomputable def J6:S:=#[.asg @1<|.lst #[],.yu (.cmp .Gt @0 @(127)) #[.ex<|.bm .Add @1 #[.bin .BitOr @(128) (.bin .BitAnd @0 @(127))],.asg @0<|.bin .RShift @0 @(7)],.ex<|.bm .Add @1 #[@0],.ret<|.bi .Sub #[@1]]
noncomputable def M5:S:=#[.asg @2 @(0),.asg @3 @(0),.yu (.v<|.c<|.bool J) #[.ifs (.cmp .GtE @1<|.bi .Add #[@0]) #[.dead] #[],.asg @4<|.sub @0 @1,.asg @1<|.bin .Add @1 @(1),.asg @2<|.bin .BitOr @2<|.bin .LShift (.bin .BitAnd @4 @(127)) @3,.asg @3<|.bin .Add @3 @(7),.ifs (.cmp .Lt @4 @(128)) #[.ret<|.tup #[@2,@1]] #[]]]
noncomputable def Ec:S:=#[.asg @1<|.lst #[.bin .BitAnd @0 @(127)],.asg @0<|.bin .RShift @0 @(7),.yu (.cmp .Gt @0 @(0)) #[.asg @0<|.bin .Sub @0 @(1),.ex<|.bm .Add @1 #[.bin .BitOr @(128) (.bin .BitAnd @0 @(127))],.asg @0<|.bin .RShift @0 @(7)],.ret<|.bi .Sub #[.rev @1]]
noncomputable def G2:S:=#[.asg @2<|.neg @(1),.yu (.v<|.c<|.bool J) #[.ifs (.cmp .GtE @1<|.bi .Add #[@0]) #[.dead] #[],.asg @3<|.sub @0 @1,.asg @1<|.bin .Add @1 @(1),.asg @2<|.bin .BitOr (.bin .LShift (.bin .Add @2 @(1)) @(7))<|.bin .BitAnd @3 @(127),.ifs (.cmp .Lt @3 @(128)) #[.ret<|.tup #[@2,@1]] #[]]]
noncomputable def rG:S:=#[.asg (.attr @0 198 0) @1,.asg (.attr @0 198 1)<|.dict J]
noncomputable def qA:S:=#[.asg @2<|.bi .Sub #[@1],.ifs (.cmp .NotIn @2<|.attr @0 198 1) #[.asg (.sub (.attr @0 198 1) @2)<|.bin .Add (.bi .Add #[.attr @0 198 1]) @(1)] #[],.ret<|.call 124 #[.sub (.attr @0 198 1) @2,.attr @0 198 0]]
noncomputable def t6:S:=#[.asg (.attr @0 228 0) @1,.asg (.attr @0 228 1) @2,.asg (.attr @0 228 2) @3]
noncomputable def rh:S:=#[.ret<|.cmp .Is (.attr @0 228 2)<|.c .none]
noncomputable def uG:S:=#[.asg (.attr @0 278 0) @1,.asg (.tup #[.attr @0 278 1,@2])<|.call 159 #[@1,@(0)],.asg (.tup #[.attr @0 278 2,.attr @0 278 3])<|.call 159 #[@1,@2]]
noncomputable def rF:S:=#[.ret<|.cmp .GtE (.attr @0 278 3)<|.bi .Add #[.attr @0 278 0]]
noncomputable def t7:S:=#[.ifs (.v<|.prop @0 278 253) #[.dead] #[],.asg @1<|.sub (.attr @0 278 0)<|.attr @0 278 3,.aug (.attr @0 278 3) .Add @(1),.ret @1]
noncomputable def rK:S:=#[.asg @1<|.eN @0 278 261 #[],.ifs (.cmp .Eq @1 @(0)) #[.dead] #[],.ifs (.not<|.v<|.bin .BitAnd @1<|.g 1) #[.asg @2<|.attr @0 278 3,.aug (.attr @0 278 3) .Add @1,.ifs (.cmp .Gt (.attr @0 278 3)<|.bi .Add #[.attr @0 278 0]) #[.dead] #[],.ret<|.fz<|.call 228 #[@(0),@1,.slice (.attr @0 278 0) @2<|.attr @0 278 3]] #[],.dead,.dead,.dead]
noncomputable def xR:S:=#[.mV J #[@1,@2,@3] #[.call 278 #[@0],.lst #[],@(0)],.yu (.not<|.v<|.prop @1 278 253) #[.asg @4<|.eN @1 278 275 #[],.ifs (.nK #[.v<|.prop @4 228 224,.cmp .Gt (.bin .Add (.attr @4 228 0)<|.attr @4 228 1)<|.attr @1 278 1]) #[.dead] #[],.aug @3 .Add<|.attr @4 228 1,.ifs (.cmp .Gt @3<|.attr @1 278 2) #[.dead] #[],.ex<|.bm .Add @2 #[@4]],.ifs (.cmp .Lt @3<|.attr @1 278 2) #[.dead] #[],.ret<|.fz @2]
noncomputable def BR:S:=#[.ifs (.cmp .NotEq (.attr (.call 278 #[@1]) 278 1)<|.bi .Add #[@0]) #[.dead] #[],.asg @2<|.bi .Div #[],.kP @3 (.call 289 #[@1]) #[.ifs (.v<|.prop @3 228 224) #[.dead] #[.aug @2 .Div<|.attr @3 228 2]],.ret<|.bi .Sub #[@2]]
noncomputable def xG:S:=#[.ret<|.eN @0 198 195 #[.bin .Div (.bin .Div (.bin .Div (.bin .Div @1<|.c<|.bytes [32])<|.call 112 #[.bi .Mult #[.bi .Add #[@2]]])<|.c<|.bytes [0]) @2]]
noncomputable def EX:S:=#[.asg @2<|.bin .BitOr (.bin .LShift @0 @(4))<|.bin .BitAnd @1 @(15),.asg @1<|.bin .RShift @1 @(4),.asg @3<|.bi .Div #[],.yu (.cmp .Gt @1 @(0)) #[.ex<|.bm .BitOr @3 #[.bin .BitOr @2 @(128)],.asg @2<|.bin .BitAnd @1 @(127),.asg @1<|.bin .RShift @1 @(7)],.ex<|.bm .BitOr @3 #[@2],.ret<|.bi .Sub #[@3]]
noncomputable def yY:S:=#[.ifs (.zH #[.cmp .Lt @1 @(0),.cmp .GtE @1<|.bi .Add #[@0]]) #[.dead] #[],.asg @2<|.sub @0 @1,.asg @1<|.bin .Add @1 @(1),.asg @3<|.bin .BitAnd (.bin .RShift @2 @(4)) @(7),.asg @4<|.bin .BitAnd @2 @(15),.asg @5 @(4),.yu (.v<|.bin .BitAnd @2 @(128)) #[.ifs (.cmp .GtE @1<|.bi .Add #[@0]) #[.dead] #[],.asg @2<|.sub @0 @1,.asg @1<|.bin .Add @1 @(1),.asg @4<|.bin .BitOr @4<|.bin .LShift (.bin .BitAnd @2 @(127)) @5,.asg @5<|.bin .Add @5 @(7)],.ifs (.nK #[.cmp .NotIn @3<|.g 10,.cmp .NotEq @3<|.g 7,.cmp .NotEq @3<|.g 8]) #[.dead] #[],.ret<|.tup #[@3,@4,@1]]
noncomputable def qk:S:=#[.asg (.attr @0 345 0) @1,.asg (.attr @0 345 1) @2,.asg (.attr @0 345 2) @3,.asg (.attr @0 345 3) @4,.asg (.attr @0 345 4) @5]
noncomputable def sX:S:=#[.ret<|.nK #[.cmp .IsNot (.attr @0 345 3)<|.c .none,.cmp .IsNot (.attr @0 345 4)<|.c .none]]
noncomputable def uN:S:=#[.asg (.attr @0 388 0) @1,.asg (.attr @0 388 1) @2,.asg (.attr @0 388 2) @3,.asg (.attr @0 388 3)<|.lst #[],.asg (.attr @0 388 4)<|.g 6,.asg (.attr @0 388 5)<|.dict J]
noncomputable def qZ:S:=#[.ifs (.not<|.v<|.eN @1 345 342 #[]) #[.asg @2<|.bm .Div (.g 9) #[.attr @1 345 1],.ifs (.zH #[.cmp .Is @2<|.c .none,.cmp .Is (.attr @1 345 2)<|.c .none]) #[.dead] #[],.ret<|.bin .Div (.call 313 #[@2,.bi .Add #[.attr @1 345 2]])<|.eN (.attr @0 388 1) 748 737 #[.attr @1 345 2]] #[],.asg @3<|.eN (.attr @0 388 1) 748 737 #[.attr @1 345 4],.ifs (.nK #[.v<|.attr @0 388 2,.cmp .In (.attr @1 345 3)<|.attr @0 388 5]) #[.asg @4<|.call 166 #[.bin .Sub (.attr @0 388 4)<|.sub (.attr @0 388 5)<|.attr @1 345 3],.ret<|.bin .Div (.bin .Div (.call 313 #[.g 7,.bi .Add #[.attr @1 345 4]]) @4) @3] #[],.dead]
noncomputable def vJ:S:=#[.ifs (.cmp .In (.attr @1 345 0)<|.attr @0 388 5) #[.ret<|.sub (.attr @0 388 5)<|.attr @1 345 0] #[],.asg @2<|.eN @0 388 371 #[@1],.asg @3<|.attr @0 388 4,.ex<|.bm .Add (.attr @0 388 3) #[@2],.asg (.sub (.attr @0 388 5)<|.attr @1 345 0) @3,.asg (.attr @0 388 4)<|.bin .Add (.attr @0 388 4)<|.bi .Add #[@2],.ret @3]
noncomputable def tZ:S:=#[.ret<|.call 399 #[.bi .Add #[.attr @0 388 3],.bm .MatMult (.c<|.bytes []) #[.attr @0 388 3],.attr @0 388 0]]
noncomputable def B5:S:=#[.asg @3<|.bin .Div (.bin .Div (.bin .Div (.g 3)<|.call 131 #[.g 4])<|.call 131 #[@0]) @1,.ret<|.bin .Div @3<|.eN @2 198 195 #[@3]]
noncomputable def D8:S:=#[.asg @4<|.call 388 #[@1,@2,@3],.kP @5 @0 #[.ex<|.eN @4 388 378 #[@5]],.ret<|.eN @4 388 385 #[]]
noncomputable def jm:S:=#[.asg @1<|.dict J,.kP @2 @0 #[.ifs (.cmp .NotIn (.attr @2 345 0) @1) #[.asg (.sub @1<|.attr @2 345 0) @2] #[]],.asg @3<|.dict J,.asg @4<|.lst #[],.kP @5 @0 #[.asg @6<|.lst #[],.asg @7<|.dict J,.asg @8<|.sub @1<|.attr @5 345 0,.yu (.nK #[.cmp .IsNot @8<|.c .none,.cmp .NotIn (.attr @8 345 0) @3]) #[.ifs (.cmp .In (.attr @8 345 0) @7) #[.pY 100] #[],.asg (.sub @7<|.attr @8 345 0)<|.c<|.bool J,.ex<|.bm .Add @6 #[@8],.asg @8<|.ite (.v<|.eN @8 345 342 #[]) (.bm .Div @1 #[.attr @8 345 3])<|.c .none],.yu (.v @6) #[.asg @8<|.bm .Pow @6 #[],.asg (.sub @3<|.attr @8 345 0)<|.c<|.bool J,.ex<|.bm .Add @4 #[@8]]],.ret<|.fz @4]
noncomputable def nM:S:=#[.asg @5<|.dict J,.asg @6<|.lst #[],.asg @7<|.call 388 #[@1,@2,@4],.kP @8 (.call 414 #[@0]) #[.asg @9<|.attr @8 345 2,.ifs (.nK #[.cmp .Is @9<|.c .none,.cmp .In (.attr @8 345 3) @5]) #[.asg @9<|.call 436 #[.sub @5<|.attr @8 345 3,.attr @8 345 4]] #[],.ifs (.cmp .IsNot @9<|.c .none) #[.asg (.sub @5<|.attr @8 345 0) @9] #[],.asg @10<|.call 429 #[@8,@9,@7],.asg @11<|.bin .Add (.bin .Add (.attr @7 388 4)<|.bi .Add #[.eN @7 388 371 #[@10]])<|.attr @1 198 0,.ifs (.nK #[.cmp .Gt @11 @3,.cmp .NotEq (.attr @7 388 3)<|.lst #[]]) #[.ex<|.bm .Add @6 #[.eN @7 388 385 #[]],.asg @7<|.call 388 #[@1,@2,@4],.asg @10<|.call 429 #[@8,@9,@7]] #[],.ex<|.eN @7 388 378 #[@10]],.ifs (.zH #[.cmp .NotEq (.attr @7 388 3)<|.lst #[],.cmp .Eq @6<|.lst #[]]) #[.ex<|.bm .Add @6 #[.eN @7 388 385 #[]]] #[],.ret<|.fz @6]
noncomputable def JI:S:=#[.ifs (.zH #[.not<|.v<|.eN @0 345 342 #[],.cmp .In (.attr @0 345 3)<|.attr @2 388 5]) #[.ret @0] #[],.ifs (.cmp .Is @1<|.c .none) #[.pY 100] #[],.ret<|.fz<|.call 345 #[.attr @0 345 0,.attr @0 345 1,@1]]
noncomputable def Aa:S:=#[.asg @2<|.c .none,.asg @3<|.c<|.str [],.Hu #[.asg @2<|.call 296 #[@0,@1]],.ifs (.cmp .Is @2<|.c .none) #[.dead] #[],.ret @2]
noncomputable def AH:S:=#[.asg (.attr @0 460 0) @1,.asg (.attr @0 460 1) @2,.asg (.attr @0 460 2) @3,.asg (.attr @0 460 3) @4,.asg (.attr @0 460 4) @5,.asg (.attr @0 460 5) @6,.asg (.attr @0 460 6) @7]
noncomputable def uA:S:=#[.ret<|.zH #[.cmp .Eq (.attr @0 460 1)<|.g 7,.cmp .Eq (.attr @0 460 1)<|.g 8]]
noncomputable def DA:S:=#[.asg @2<|.bin .Sub (.bi .Add #[@0])<|.attr @1 198 0,.ifs (.zH #[.cmp .Lt @2<|.g 6,.cmp .NotEq (.slice @0 #[] @(4))<|.g 3]) #[.dead] #[],.ifs (.cmp .NotIn (.call 145 #[@0,@(4)])<|.g 5) #[.dead] #[],.ifs (.cmp .NotEq (.eN @1 198 195 #[.slice @0 #[] @2])<|.slice @0 @2 #[]) #[.dead] #[],.ret<|.call 145 #[@0,@(8)]]
noncomputable def yW:S:=#[.asg @3<|.c .none,.asg @4<|.c<|.str [],.Hu #[.asg @3<|.eN @0 748 745 #[@1,@2]],.ifs (.cmp .Is @3<|.c .none) #[.dead] #[],.ret @3]
noncomputable def Ez:S:=#[.asg (.tup #[@5,@6,@7])<|.call 320 #[@0,@1],.asg @8<|.c .none,.asg @9<|.c .none,.ifs (.cmp .Eq @5<|.g 7) #[.asg (.tup #[@10,@7])<|.call 173 #[@0,@7],.asg @8<|.bin .Sub @1 @10,.ifs (.zH #[.cmp .LtE @10 @(0),.cmp .NotIn @8 @4]) #[.dead] #[]] #[],.ifs (.cmp .Eq @5<|.g 8) #[.dead,.dead,.dead] #[],.asg (.tup #[@11,@12])<|.call 478 #[@3,@0,@7],.ifs (.cmp .Gt @12<|.bi .Add #[@0]) #[.dead] #[],.ifs (.cmp .NotEq (.bi .Add #[@11]) @6) #[.dead] #[],.ret<|.fz<|.call 460 #[@1,@5,@6,@8,@9,@11,@12]]
noncomputable def Gi:S:=#[.asg @3<|.call 471 #[@0,@1],.asg @4<|.slice @0 #[]<|.bin .Sub (.bi .Add #[@0])<|.attr @1 198 0,.asg @5<|.lst #[],.asg @6<|.dict au,.asg @7<|.g 6,.yu (.cmp .Lt (.bi .Add #[@5]) @3) #[.ifs (.cmp .GtE @7<|.bi .Add #[@4]) #[.dead] #[],.asg @8<|.call 485 #[@4,@7,@1,@2,@6],.asg (.sub @6 @7)<|.c<|.bool J,.ex<|.bm .Add @5 #[@8],.asg @7<|.attr @8 460 6],.ifs (.cmp .NotEq @7<|.bi .Add #[@4]) #[.dead] #[],.ret<|.fz @5]
noncomputable def xd:S:=#[.asg (.attr @0 523 0) @1,.asg (.attr @0 523 1)<|.dict au,.asg (.attr @0 523 2) @(0)]
noncomputable def zc:S:=#[.asg @2<|.bm .Div (.attr @0 523 1) #[@1],.ifs (.cmp .IsNot @2<|.c .none) #[.ex<|.bm .RShift (.attr @0 523 1) #[@1],.asg (.sub (.attr @0 523 1) @1) @2] #[],.ret @2]
noncomputable def yU:S:=#[.ifs (.zH #[.cmp .In @1<|.attr @0 523 1,.cmp .Gt (.bi .Add #[@3])<|.attr @0 523 0]) #[.Px] #[],.asg (.sub (.attr @0 523 1) @1)<|.tup #[@2,@3],.asg (.attr @0 523 2)<|.bin .Add (.attr @0 523 2)<|.bi .Add #[@3],.yu (.cmp .Gt (.attr @0 523 2)<|.attr @0 523 0) #[.dead,.dead,.dead]]
noncomputable def tY:S:=#[.asg (.attr @0 586 0) @1,.asg (.attr @0 586 1) @2,.asg (.attr @0 586 2) @3,.asg (.attr @0 586 3)<|.dict au,.asg (.attr @0 586 4)<|.dict au,.asg (.attr @0 586 5)<|.dict au,.asg (.attr @0 586 6)<|.dict J,.asg (.attr @0 586 7)<|.dict J,.asg (.attr @0 586 8)<|.dict au,.asg (.attr @0 586 9)<|.dict au,.asg (.attr @0 586 10)<|.dict J,.asg (.attr @0 586 11)<|.dict au,.ex<|.eN @0 586 548 #[],.ex<|.eN @0 586 555 #[]]
noncomputable def oK:S:=#[.kP @1 (.attr @0 586 0) #[.asg (.sub (.attr @0 586 11)<|.attr @1 460 0) @1,.ifs (.cmp .IsNot (.attr @1 460 3)<|.c .none) #[.ex<|.bm .Add (.bm .Mult (.attr @0 586 9) #[.attr @1 460 3,.lst #[]]) #[.attr @1 460 0]] #[],.ifs (.cmp .IsNot (.attr @1 460 4)<|.c .none) #[.dead] #[]]]
noncomputable def pA:S:=#[.kP @1 (.attr @0 586 0) #[.ifs (.not<|.v<|.eN @1 460 457 #[]) #[.ex<|.eN @0 586 569 #[.attr @1 460 0,.sub (.g 10)<|.attr @1 460 1,.attr @1 460 5,@(0)]] #[]],.kP @2 (.bi .RShift #[.attr @0 586 10]) #[.ifs (.cmp .NotIn @2<|.attr @0 586 6) #[.dead] #[]],.kP @1 (.attr @0 586 0) #[.ifs (.nK #[.cmp .NotIn (.attr @1 460 0)<|.attr @0 586 3,.cmp .NotIn (.attr @1 460 0)<|.attr @0 586 8]) #[.dead] #[]]]
noncomputable def jA:S:=#[.asg @5<|.lst #[.tup #[@1,@2,@3,@4]],.yu (.v @5) #[.asg (.tup #[@1,@2,@3,@4])<|.bm .Pow @5 #[],.ifs (.cmp .In @1<|.attr @0 586 3) #[.cont] #[],.asg @6<|.call 306 #[.attr @0 586 1,@2,@3],.asg (.sub (.attr @0 586 3) @1) @6,.asg (.sub (.attr @0 586 4) @1) @2,.asg (.sub (.attr @0 586 5) @1) @4,.asg @7<|.bi .Mod #[.bm .Mod (.attr @0 586 9) #[@1,.lst #[]]],.ifs (.cmp .NotIn @6<|.attr @0 586 6) #[.asg (.sub (.attr @0 586 6) @6) @1,.ifs (.cmp .NotIn @6<|.attr @0 586 7) #[.asg @7<|.bin .BitXor (.fz @7)<|.fz<|.bm .Mod (.attr @0 586 10) #[@6,.lst #[]]] #[]] #[],.ex<|.eN @0 586 576 #[@5,@7,@2,@3,.bin .Add @4 @(1)]]]
noncomputable def oH:S:=#[.kP @6 (.rev<|.bi .RShift #[@2]) #[.asg @7<|.c .none,.Hu #[.asg @7<|.call 296 #[@4,.attr (.sub (.attr @0 586 11) @6) 460 5]],.ifs (.cmp .IsNot @7<|.c .none) #[.ex<|.bm .Add @1 #[.tup #[@6,@3,@7,@5]]] #[]]]
noncomputable def vC:S:=#[.asg (.attr @0 707 0) @1,.asg (.attr @0 707 1) @2,.asg (.attr @0 707 2) @3,.asg (.attr @0 707 3) @4,.asg (.attr @0 707 4)<|.call 492 #[@1,@2,@3],.asg (.attr @0 707 5)<|.bi .Pow #[.fz<|.comp 1 @6 (.attr @0 707 4) #[]<|.tup #[.attr @6 460 0,@6]],.asg (.attr @0 707 6)<|.call 523 #[@5],.asg (.attr @0 707 7)<|.c .none]
noncomputable def rJ:S:=#[.ifs (.cmp .Is (.attr @0 707 7)<|.c .none) #[.asg (.attr @0 707 7)<|.call 586 #[.attr @0 707 4,.attr @0 707 1,.attr @0 707 3]] #[],.ret<|.attr @0 707 7]
noncomputable def rI:S:=#[.asg @2<|.bm .Div (.attr @0 707 5) #[@1],.ifs (.cmp .Is @2<|.c .none) #[.dead] #[],.ret @2]
noncomputable def sj:S:=#[.ex<|.eN @0 707 624 #[@1],.asg @2<|.eN @0 707 617 #[],.ifs (.cmp .NotIn @1<|.attr @2 586 3) #[.dead] #[],.ret @1]
noncomputable def mW:S:=#[.asg @2<|.lst #[],.asg @3<|.dict au,.asg @4<|.c .none,.yu (.cmp .Is @4<|.c .none) #[.asg @5<|.eN @0 707 624 #[@1],.ifs (.cmp .In @1 @3) #[.dead] #[],.asg (.sub @3 @1)<|.c<|.bool J,.asg @4<|.eN (.attr @0 707 6) 523 513 #[@1],.ifs (.nK #[.cmp .Is @4<|.c .none,.not<|.v<|.eN @5 460 457 #[]]) #[.asg @4<|.tup #[.sub (.g 10)<|.attr @5 460 1,.attr @5 460 5]] #[],.ifs (.cmp .Is @4<|.c .none) #[.ex<|.bm .Add @2 #[@5],.asg (.tup #[@1,@4])<|.eN @0 707 645 #[@5]] #[]],.asg (.tup #[@6,@7]) @4,.yu (.v @2) #[.asg @5<|.bm .Pow @2 #[],.asg @7<|.call 436 #[@7,.attr @5 460 5],.ex<|.eN (.attr @0 707 6) 523 520 #[.attr @5 460 0,@6,@7]],.ret<|.tup #[@6,@7]]
noncomputable def q8:S:=#[.ifs (.cmp .IsNot (.attr @1 460 3)<|.c .none) #[.ret<|.tup #[.attr @1 460 3,.c .none]] #[],.dead,.dead,.dead,.dead]
noncomputable def wX:S:=#[.ret<|.fz<|.comp 1 @1 (.attr @0 707 4) #[]<|.tup #[.sub (.attr (.eN @0 707 617 #[]) 586 3)<|.eN @0 707 631 #[.attr @1 460 0],.attr @1 460 0]]
noncomputable def uR:S:=#[.ret<|.sub (.attr (.eN @0 707 617 #[]) 586 3)<|.eN @0 707 631 #[@1]]
noncomputable def uL:S:=#[.ret<|.bm .Div (.attr (.eN @0 707 617 #[]) 586 6) #[@1]]
noncomputable def tu:S:=#[.ret<|.sub (.attr (.eN @0 707 617 #[]) 586 4)<|.eN @0 707 631 #[@1]]
noncomputable def rH:S:=#[.ret<|.sub (.attr (.eN @0 707 617 #[]) 586 5)<|.eN @0 707 631 #[@1]]
noncomputable def sJ:S:=#[.asg @2<|.eN @0 707 624 #[@1],.ifs (.cmp .IsNot (.attr @2 460 4)<|.c .none) #[.ret<|.attr @2 460 4] #[],.ifs (.cmp .IsNot (.attr @2 460 3)<|.c .none) #[.ret<|.eN @0 707 657 #[.attr @2 460 3]] #[],.ret<|.c .none]
noncomputable def t8:S:=#[.ret<|.slice (.attr @0 707 0) @1<|.attr (.eN @0 707 624 #[@1]) 460 6]
noncomputable def uJ:S:=#[.kP (.tup #[@1,@2]) (.eN @0 707 650 #[]) #[.asg (.tup #[@3,@4])<|.eN @0 707 638 #[@2],.ifs (.cmp .NotEq (.call 306 #[.attr @0 707 1,@3,@4]) @1) #[.dead] #[]]]
noncomputable def um:S:=#[.asg @2<|.dict au,.kP @3 @1 #[.asg @4<|.eN @0 707 664 #[@3],.ifs (.cmp .Is @4<|.c .none) #[.pY 100] #[],.asg (.sub @2 @4) @3],.asg @5<|.lst #[],.kP @4 (.bi .RShift #[@2]) #[.asg @6<|.eN @0 707 685 #[@4],.ifs (.nK #[.cmp .IsNot @6<|.c .none,.cmp .In (.eN @0 707 664 #[@6]) @2]) #[.ex<|.bm .Add @5 #[.fz<|.call 345 #[.sub @2 @4,.eN @0 707 671 #[@4],.c .none,@6,.attr (.eN @0 707 624 #[@4]) 460 5]]] #[.asg (.tup #[@7,@8])<|.eN @0 707 638 #[@4],.ex<|.bm .Add @5 #[.fz<|.call 345 #[.sub @2 @4,@7,@8]]]],.ret<|.fz @5]
noncomputable def jB:S:=#[.asg @1<|.lst #[],.kP (.tup #[@2,@3]) (.eN @0 707 650 #[]) #[.asg @4<|.eN @0 707 624 #[@3],.asg @5<|.lst #[.call 119 #[@2],.call 107 #[.eN @0 707 671 #[@3]],.bi .Mult #[.attr @4 460 2],.bi .Mult #[.bin .Sub (.attr @4 460 6) @3],.bi .Mult #[@3]],.ifs (.v<|.eN @4 460 457 #[]) #[.asg @5<|.bin .BitXor (.fz @5)<|.fz<|.lst #[.bi .Mult #[.eN @0 707 678 #[@3]],.call 119 #[.eN @0 707 685 #[@3]]]] #[],.ex<|.bm .Add @1 #[.bm .Sub (.c<|.str [32]) #[@5]]],.yV 6 1 J @9 (.attr @0 707 4) #[]<|.eN @0 707 678 #[.attr @9 460 0],.kP @7 (.bi .BitOr #[.bin .Add (.bi .BitXor #[.bin .BitXor (.fz<|.lst #[.neg @(1)]) @6]) @(1)]) #[.asg @8<|.ite (.cmp .Eq @7 @(0)) (.c<|.str [119,104,111,108,101])<|.bin .MatMult (.c<|.str [99,104,97,105,110,32,111,102,32])<|.bi .Mult #[@7],.ex<|.bm .Add @1 #[.bin .MatMult (.bin .MatMult @8<|.c<|.str [58,32])<|.bi .Mult #[.bi .Add #[.comp 1 @9 @6 #[.cmp .Eq @9 @7] @9]]]],.ret<|.call 112 #[.bm .Sub (.c<|.str []) #[.comp 1 @9 (.fz @1) #[]<|.bin .MatMult @9<|.c<|.str [10]]]]
noncomputable def uQ:S:=#[.ret<|.bin .Div (.call 152 #[.bi .Add #[@1]]) @1]
noncomputable def sE:S:=#[.Hu #[.asg (.tup #[@3,@4])<|.call 159 #[@1,@2]],.ifs (.cmp .Gt (.bin .Add @4 @3)<|.bi .Add #[@1]) #[.dead] #[],.ret<|.tup #[.slice @1 @4<|.bin .Add @4 @3,.bin .Add @4 @3]]
noncomputable def Iv:S:=#[.asg (.sub @0 @(1))<|.bin .Add (.sub @0 @(1)) @(1),.mV J #[@2,@3] #[.sub @0 @(1),.sub @0 @(0)],.ifs (.cmp .LtE @2<|.bi .Add #[@3]) #[.ret<|.bin .Mod (.sub @3<|.bin .Sub @2 @(1)) @1] #[],.asg @4<|.ite (.cmp .NotEq @3<|.lst #[]) (.sub @3<|.bin .Mod @2<|.bi .Add #[@3]) @(7),.asg @5<|.bin .Mod (.bin .Mult (.bin .Add (.bin .Add (.bin .Mod @4 @(2147483629))<|.bin .Mult (.bin .Mult @(60013) @2) @2) @(17)) @(48271)) @(2147483647),.asg @5<|.bin .Mod (.bin .Add (.bin .Mult @5 @5) @2) @(2147483579),.ret<|.bin .Mod (.bin .FloorDiv @5 @(64)) @1]
noncomputable def NF:S:=#[.ret<|.bi .Sub #[.FU 2 @1 @0 @2 (.tup #[@(1),@(0)])<|.sub (.c<|.bytes [48,49,50,51,52,53,54,55,56,57,97,98,99,100,101,102])<|.bin .Mod (.bin .FloorDiv @1<|.bin .Pow @(16) @2) @(16)]]
noncomputable def Gd:S:=#[.asg @2<|.lst #[],.kP @3 (.bi .BitOr #[.bin .Add @(1) (.call 759 #[@0,@(4)])]) #[.asg @4<|.bin .Div (.bi .Sub #[.lst #[@3]])<|.bi .Sub #[.comp 1 @6 (.bi .BitOr #[.call 759 #[@0,@(9)]]) #[]<|.call 759 #[@0,@(256)]],.asg @5<|.ite (.nK #[.cmp .Gt @3 @(0),.cmp .Gt (.call 759 #[@0,@(3)]) @(0)]) (.call 759 #[@0,@3])<|.c .none,.ex<|.bm .Add @2 #[.tup #[.eN @1 198 195 #[.bin .Div (.bin .Div (.bin .Div (.c<|.bytes [98,108,111,98,32])<|.bi .Sub #[.lst #[.bin .Add @(48) (.bi .Add #[@4])]])<|.c<|.bytes [0]) @4],@4,@5]]],.ret<|.fz @2]
noncomputable def ye:S:=#[.asg (.tup #[@4,@5,@6])<|.sub @0 @1,.ifs (.zH #[.cmp .Is @6<|.c .none,.v @2]) #[.ret<|.fz<|.call 345 #[@4,.c<|.bytes [98,108,111,98],@5]] #[],.asg @7<|.bin .Div (.bi .Sub #[.lst #[.bi .Add #[.sub (.sub @0 @6) @(1)],.bi .Add #[@5],.bi .Add #[@5]]]) @5,.ret<|.fz<|.call 345 #[@4,.c<|.bytes [98,108,111,98],.ite (.v @3) @5<|.c .none,.sub (.sub @0 @6) @(0),@7]]
noncomputable def vB:S:=#[.asg @2<|.lst #[],.kP @3 @1 #[.mV J #[@4,@5] #[.lst #[],@3],.yu (.cmp .IsNot @5<|.c .none) #[.ex<|.bm .Add @4 #[@5],.asg @5<|.sub (.sub @0 @5) @(2)],.ex<|.bm .FloorDiv @2 #[.fz<|.comp 1 @6 (.rev @4) #[.cmp .NotIn @6 @2] @6]],.ret<|.fz @2]
noncomputable def FE:S:=#[.asg @3 @(0),.yu (.cmp .In (.sub (.sub @0 @1) @(2)) @2) #[.mV J #[@1,@3] #[.sub (.sub @0 @1) @(2),.bin .Add @3 @(1)]],.ret @3]
noncomputable def xq:S:=#[.asg @3<|.c<|.bool au,.Gv #[.ifs (.cmp .Eq @0 @(0)) #[.ex<|.call 414 #[@1]] #[.ifs (.cmp .Eq @0 @(1)) #[.ex<|.call 718 #[@1,.fz<|.lst #[.eN @2 198 195 #[.c<|.bytes [110,111,110,101,32,115,117,99,104]]]]] #[.ex<|.call 422 #[@1,@2,.call 748 #[],@(60)]]]] 100 3<|.bool J,.ret @3]
noncomputable def fK:S:=.cons (.asg @4<|.eN @3 707 650 #[])<|.cons (.ifs (.cmp .NotEq (.comp 2 (.tup #[@18,@19]) @4 #[] @18)<|.comp 1 @18 @1 #[]<|.sub (.sub @0 @18) @(0)) #[.ret<|.c<|.bool au] #[])<|.cons (.mV J #[@8,@9,@10] #[.lst #[],.lst #[],@(12)])<|.cons (.MY (.tup #[@7,.tup #[@5,@6]]) @1 @4 #[.mV au #[@11,@12,@13] #[.sub (.sub @0 @7) @(1),.sub (.sub @0 @7) @(2),.call 788 #[@0,@7,@1]],.asg @14<|.ite (.cmp .Eq @13 @(0)) (.bi .Add #[@11])<|.bin .Add (.bi .Add #[@11]) @(3),.asg @15<|.eN @3 707 692 #[@6],.ifs (.zH #[.cmp .NotEq @6 @10,.cmp .NotEq @15<|.slice @2 @6<|.bin .Add @6<|.bi .Add #[@15],.cmp .NotEq (.bin .Mod (.sub @15 @(0)) @(16)) @14,.cmp .NotEq (.eN @3 707 671 #[@6])<|.c<|.bytes [98,108,111,98]]) #[.ret<|.c<|.bool au] #[],.ifs (.zH #[.cmp .NotEq (.eN @3 707 638 #[@6])<|.tup #[.c<|.bytes [98,108,111,98],@11],.cmp .NotEq (.eN @3 707 685 #[@6])<|.ite (.cmp .Gt @13 @(0)) (.sub (.sub @0 @12) @(0))<|.c .none]) #[.ret<|.c<|.bool au] #[],.asg @10<|.bin .Add @6<|.bi .Add #[@15],.asg @16<|.bin .BitXor (.fz<|.lst #[.call 764 #[@5],.c<|.bytes [98,108,111,98]])<|.fz<|.comp 1 @18 (.tup #[@14,.bi .Add #[@15],@6]) #[]<|.bi .Sub #[.comp 1 @19 (.bi .Mult #[@18]) #[]<|.bi .LShift #[@19]],.ex<|.bm .Add @8 #[.bin .BitXor @16<|.ite (.cmp .Gt @13 @(0)) (.fz<|.lst #[.bi .Sub #[.lst #[.bin .Add @(48) @13]],.call 764 #[.sub (.sub @0 @12) @(0)]])<|.fz<|.lst #[]],.ex<|.bm .Add @9 #[@13]])<|.Ug 9 #[.kP @13 (.bi .BitOr #[.bin .Add (.bi .BitXor #[@9]) @(1)]) #[.asg @17<|.bi .Sub #[.lst #[.bin .Add @(48) (.bi .Add #[.comp 1 @18 @9 #[.cmp .Eq @18 @13] @18])]],.ex<|.bm .Add @8 #[.ite (.cmp .Eq @13 @(0)) (.fz<|.lst #[.c<|.bytes [119,104,111,108,101,58],@17])<|.fz<|.lst #[.c<|.bytes [99,104,97,105,110],.c<|.bytes [111,102],.bin .Div (.bi .Sub #[.lst #[.bin .Add @(48) @13]])<|.c<|.bytes [58],@17]]],.ifs (.zH #[.cmp .NotEq @10<|.bin .Sub (.bi .Add #[@2]) @(4),.cmp .NotEq (.comp 1 @18 (.slice (.bm .BitAnd (.call 723 #[@3]) #[.c<|.bytes [10]]) #[]<|.neg @(1)) #[]<|.bm .BitXor @18 #[]) @8]) #[.ret<|.c<|.bool au] #[],.ret<|.cmp .Is (.eN @3 707 704 #[])<|.c .none]
noncomputable def pP:S:=#[.mV au #[@6,@7] #[.call 781 #[@0,@1],.c .none],.kP @8 (.call 422 #[@2,@4,@5,@3]) #[.asg @9<|.call 707 #[@8,@4,@5],.asg @10<|.bi .Add #[.eN @9 707 650 #[]],.mV J #[@11,@6] #[.slice @6 #[] @10,.slice @6 @10 #[]],.ifs (.zH #[.cmp .Eq @10 @(0),.nK #[.cmp .Gt @10 @(1),.cmp .Gt (.bi .Add #[@8]) @3],.not<|.v<|.call 800 #[@0,@11,@8,@9]]) #[.ret<|.c<|.bool au] #[],.ifs (.cmp .IsNot @7<|.c .none) #[.yV 12 1 au @13 @7 #[]<|.call 776 #[@0,@13,.cmp .NotIn (.sub (.sub @0 @13) @(2)) @7,.c<|.bool au],.ex<|.bm .Add @12 #[.call 776 #[@0,.sub @11 @(0),.cmp .NotIn (.sub (.sub @0<|.sub @11 @(0)) @(2)) @7,.c<|.bool au]],.ifs (.cmp .LtE (.bi .Add #[.call 407 #[.fz @12,@4,@5]]) @3) #[.ret<|.c<|.bool au] #[]] #[],.asg @7 @11],.ret<|.cmp .Eq @6<|.lst #[]]
noncomputable def adE:S:=.cons (.mV au #[@1,@2,@3] #[.lst #[.fz<|.bi .Mod #[.slice @0 #[] @(40)],@(0)],.call 198 #[@(4)],.call 748 #[]])<|.cons (.asg @4<|.call 769 #[@1,@2])<|.cons (.mV J #[@5,@6] #[.bi .Mod #[.bi .BitOr #[.bi .Add #[@4]]],.lst #[]])<|.cons (.yu (.cmp .NotEq @5<|.lst #[]) #[.ex<|.bm .Add @6 #[.bm .LShift @5 #[.call 759 #[@1,.bi .Add #[@5]]]]])<|.Ug 6<|.cons (.asg @7<|.cmp .Eq (.call 759 #[@1,@(2)]) @(0))<|.cons (.yV 8 1 au @17 @6 #[]<|.call 776 #[@4,@17,.c<|.bool au,@7])<|.cons (.ifs (.cmp .Eq (.call 759 #[@1,@(3)]) @(0)) #[.ex<|.bm .Add @8 #[.sub @8 @(0)]] #[])<|.Ug 8 #[.asg @9<|.call 781 #[@4,@6],.ifs (.cmp .NotEq (.comp 1 @17 (.call 414 #[@8]) #[]<|.attr @17 345 0)<|.comp 1 @17 @9 #[]<|.sub (.sub @4 @17) @(0)) #[.ret<|.c<|.bool au] #[],.ifs (.not<|.v<|.call 805 #[@4,@6,@8,.bin .Add @(16) (.call 759 #[@1,@(60)]),@2,@3]) #[.ret<|.c<|.bool au] #[],.asg @10<|.call 407 #[.call 414 #[@8],@2,@3],.asg @11<|.call 707 #[@10,@2,@3],.ifs (.not<|.v<|.call 800 #[@4,@9,@10,@11]) #[.ret<|.c<|.bool au] #[],.asg @12<|.fz<|.comp 1 @17 @9 #[.cmp .Eq (.call 759 #[@1,@(2)]) @(0)] @17,.asg @13<|.call 718 #[@11,.fz<|.comp 1 @17 (.rev @12) #[]<|.sub (.sub @4 @17) @(0)],.ifs (.cmp .NotEq (.comp 1 @17 @13 #[]<|.tup #[.attr @17 345 0,.attr @17 345 3])<|.comp 1 @17 @12 #[]<|.tup #[.sub (.sub @4 @17) @(0),.ite (.cmp .In (.sub (.sub @4 @17) @(2)) @12) (.sub (.sub @4<|.sub (.sub @4 @17) @(2)) @(0))<|.c .none]) #[.ret<|.c<|.bool au] #[],.ifs (.cmp .NotEq @12<|.lst #[]) #[.asg @10<|.call 407 #[@13,@2,@3],.ifs (.not<|.v<|.call 800 #[@4,@12,@10,.call 707 #[@10,@2,@3]]) #[.ret<|.c<|.bool au] #[]] #[],.mV J #[@14,@15] #[.fz<|.call 345 #[.c<|.bytes [97,97,97,97],.c<|.bytes [98,108,111,98],.c .none,.c<|.bytes [98,98,98,98],.c<|.bytes [120]],.fz<|.call 345 #[.c<|.bytes [98,98,98,98],.c<|.bytes [98,108,111,98],.c .none,.c<|.bytes [97,97,97,97],.c<|.bytes [120]]],.ifs (.zH #[.not<|.v<|.call 795 #[@(0),.fz<|.lst #[@14,@15],@2],.not<|.v<|.call 795 #[@(1),@11,@2]]) #[.ret<|.c<|.bool au] #[],.asg @16<|.call 422 #[.fz<|.lst #[],@2,@3,@(60)],.ret<|.nK #[.call 795 #[@(2),.fz<|.lst #[@14],@2],.cmp .Eq (.bi .Add #[@16]) @(1),.cmp .Eq (.eN (.call 707 #[.sub @16 @(0),@2,@3]) 707 650 #[])<|.lst #[]]]
end
end
section
open Builtin
structure Me where
 f:Nat
 fI:Nat
 names:List String
 d:Cq
noncomputable def isN:aq->Bool
 |.none=>J
 |_=>au
noncomputable def isB(a:Bool):aq->Bool
 |.bool b=>a==b
 |_=>au
noncomputable def isI(i:Int):aq->Bool
 |.int j _=>i==j
 |_=>au
noncomputable def dv1(x:P)(y:aq):Bool:=match x with
 |.none=>isN y
 |.bool a=>isB a y
 |.int i=>isI i y
 |_=>au
theorem aaq{y:aq}(h:isN y=J):y=.none:=by induction y<;>first|rfl|show(aD h).elim
theorem abH{a:Bool}{y:aq}(h:isB a y=J):y=.bool a:=by induction y<;>first|show(aD h).elim|show congrArg _ (cI h).symm
theorem abd{i:Int}{y:aq}(h:isI i y=J):∃t,y=.int i t:=by induction y<;>first|show(aD h).elim|show#[_,by rw[cI h]]
theorem abS{R:RM}{x:P}{y:aq}(h:dv1 x y=J):PR W R x y:=by
 induction x using P.casesOn<;>first|show(aD h).elim|skip
 ·show(aaq h)▸.none
 ·rw[abH h];show .bool _
 ·show(abd h).elim λt e=>bS (e)<|.int _ _
noncomputable def dvB:List P->List aq->Bool
 |[],ys=>ys.isEmpty
 |x::L,ys=>match ys with
  |[]=>au
  |y::ys=>dv1 x y&&dvB L ys
theorem abe{R:RM}{L:List P}(h:dvB L ys=J):cC (PR W R) L ys:=by
 induction L generalizing ys with
 |nil=>show bS (jS.mp h) .nil
 |cons x L g=>
  induction ys with
  |nil=>show(aD h).elim
  |cons y ys=>show(eH h).elim λq w=>.cons (abS q)<|g w
noncomputable def refOf:aq->Option Addr
 |.ref a=>I a
 |_=>az
theorem PU(h:refOf v=I a):v=.ref a:=by induction v<;>first|show bh h | (injection h with h;subst h;rfl)
noncomputable def XZ:Data->Option (Array aq×Nat)
 |.seq a n=>I (a,n)
 |_=>az
theorem SQ{v:Data}{p:Array aq×Nat}(h:XZ v=I p):v=.seq p.1 p.2:=by induction v<;>first|show bh h | (obtain rfl:=aV h;rfl)
theorem Zy{d:Data}(g:o.cls=.type "tuple")(q:o.dict.isNone=J)(w:o.slots.toList.isEmpty=J)(H:o.data=d):o=#[.type "tuple",az,d,#[]]:=congr (congr (congr (congrArg Obj.mk g)<|jQ.mp q) H)<|Array.toList_eq_nil_iff.mp<|jS.mp w
def dfB(K:Frag)(v:aq)(dv:List P):Bool:=(v==.none&&dv.isEmpty)||opt (refOf v) λT=>opt (K.lookup T) λo=>(o.cls==.type "tuple" && (o.dict.isNone&&o.slots.toList.isEmpty))&&opt (XZ o.data) λp=>dvB dv p.1.toList
theorem ZT{dv:List P}(h:dfB W.K v dv=J):Dflts W v dv:=
 (Sn h).elim (λh=>aZ h λg q=>.inl #[cI g,jS.mp q]) λh=>ia h λT w h=>ia h λo e h=>aZ h λg h=>ia h λp H h=>aZ g λg q=>aZ q λq F=>
  .inr #[T,p.1,p.2,PU w,e.trans<|congrArg I<|Zy (cI g) q F<|SQ H,abe h]
noncomputable def xo(p:Arguments):Bool:=p.posonlyargs.isEmpty&&(p.vararg.isNone&&(p.kwonlyargs.isEmpty&&p.kwarg.isNone))
theorem vz{p:Arguments}(h:xo p=J):p=#[[],p.args,az,[],p.kw_defaults,az,p.defaults]:=by cases p with|mk a b c d e f g=>show aZ h λq h=>aZ h λw h=>aZ h λH F=>have z:=congr (congr (congr (congrArg (λa c d f=>Arguments.mk a b c d e f g)<|jS.mp q)<|jQ.mp w)<|jS.mp H)<|jQ.mp F;z
noncomputable def Me.ns(r:Me):List Str:=r.names.map cG
def Me.sc(r:Me)(fd:i8):Sc:=#[fd.scope.names,Ik 0 r.ns,0,r.ns.length]
def fnB(K:Frag)(r:Me)(fd:i8):Bool:=((!fd.scope.isCoroutine&&(!fd.scope.isGenerator&&(codeIn K fd.code fd.qualname&&fd.scope.kind==.function)))&&(fd.globals==mainGlobals&&(fd.builtins==builtinsNs&&fd.closure.isEmpty)))&&
 ((decide r.ns.Nodup&&(r.ns.all (λx=>fd.scope.names.lookup x==I .local||fd.scope.names.lookup x==I .cell)&&decide ((cellsFrom 0 fd.scope.names []).map (·.1)).Nodup))&&(match fd.body with
  |.stmts body=>nL K (r.sc fd) r.d.body body
  |_=>au))
def bindB(K:Frag)(r:Me)(fd:i8):Bool:=xo fd.params&&(fd.params.args.map (·.arg)==r.ns.take r.d.np&&(decide (r.d.np<=r.ns.length)&&(decide (r.d.dv.length<=r.d.np)&&dfB K fd.defaults r.d.dv)))
noncomputable def UX(K:Frag)(r:Me):Bool:=match r.d.bare with
 |true=>r.d.cls==I r.f&&(decide ((nu r.f).length<=20)&&(makesIn K r.f&&findIn K (.ref r.f) "__init__" == I (I<|.builtin "object.__init__")))
 |false=>(r.ns.length==r.d.n&&opt (K.lookup r.fI) λo=>match o.data with
   |.func fd=>fnB K r fd&&bindB K r fd
   |_=>au)&&(match r.d.cls with
  |none=>r.fI==r.f
  |some C=>C==r.f&&(decide ((nu C).length<=20)&&(makesIn K C&&(findIn K (.ref C) "__init__" == I (I<|.ref r.fI)&&typeIn K (.ref r.fI)==I (.type "function")))))
theorem Yi{r:Me}(F:∃o,K.lookup r.fI=I o/\o.data=.func fd)(h:fnB K r fd=J):∃body,Qa K r.fI fd body (r.sc fd) r.ns/\nL K (r.sc fd) r.d.body body=J:=by
 show hd λZ H=>(aZ h λa c=>(aZ a λa e=>?_));obtain⟨b,a⟩:=eH a;obtain⟨L,a⟩:=eH a;obtain⟨M,R⟩:=eH a;obtain⟨U,g⟩:=eH e;obtain⟨g,W⟩:=eH g;show aZ c λc1 c=>?_;obtain⟨c1,q⟩:=eH c1;obtain⟨q,Y⟩:=eH q;show H ?_;induction w:fd.body with
 |stmts body=>
  rw[w]at c;show#[body,#[F,gH b,gH L,w,λh X=>codeRec_of X M,cI R,cI U,cI g,jS.mp W,rfl,rfl,rfl,(of_decide_eq_true c1),λx f=>?_,of_decide_eq_true Y,λx i f=>?_],c]
  ·show(Sn<|cQ.mp q x f).imp cI cI
  ·have:=(Aw f).2;rwa [xZ]at this
 |_=>rw[w]at c;show(aD c).elim
theorem aaP{r:Me}(h:UX W.K r=J):CT W r.f r.d:=by
 unfold UX at h;cases b:r.d.bare with
 |true=>rw[b]at h;show aZ h λg h=>aZ h λq h=>aZ h λi F=>.bare b (cI g) (of_decide_eq_true q) i<|cI F
 |false=>
  rw[b]at h;show aZ h λh w=>aZ h λj h=>ia h λo c h=>.fn b #[?_,(agz _).Ud];induction hd:o.data with
  |func fd=>
   rw[hd]at h;show aZ h λg q=>?_;obtain⟨body,H,L⟩:=Yi #[o,c,hd] g;obtain⟨M,d⟩:=eH q;obtain⟨R,d⟩:=eH d;obtain⟨U,d⟩:=eH d;obtain⟨a,Y⟩:=eH d;show#[r.fI,fd,body,r.sc fd,r.ns,H,cI j,L,Wh (vz M) (cI R) (of_decide_eq_true U) H.XS (of_decide_eq_true a)<|ZT Y,?_];induction e:r.d.cls with
   |none=>rw[e]at w;show cI w
   |some C=>rw[e]at w;show aZ w λg h=>aZ h λq h=>aZ h λi h=>aZ h λF Z=>#[cI g,of_decide_eq_true q,i,cI F,cI Z]
  |_=>have h:=(hd)▸h;show(aD h).elim
noncomputable def uv(l:List Me)(f:Addr):Option Cq:=(l.find? λr=>gB r.f f).map (·.d)
theorem aaM{l:List Me}(h:l.all (UX W.K)=J)(f:Addr)(d:Cq)(e:uv l f=I d):CT W f d:=by show mS e λr g q=>sB q ?_;obtain rfl:r.f=f:=gC<|TS (p:=λr:Me=>gB r.f f) g;show aaP<|cQ.mp h r<|Cr g
end
end
end Mine.Internal
namespace Hd.Internal
noncomputable section
open PySem PySem.W
noncomputable abbrev u(s:String):Str:=cG s
noncomputable abbrev N:aq:=.none
noncomputable abbrev vs(s:String)(t:Nat):aq:=.str (cG s) t
noncomputable abbrev vi(i:Int)(t:Nat):aq:=.int i t
noncomputable abbrev vy(b:List UInt8)(t:Nat):aq:=.bytes b.toArray t
noncomputable abbrev vt(n:String):aq:=.type n
noncomputable abbrev vb(n:String):aq:=.builtin n
noncomputable abbrev vr(a:Nat):aq:=.ref a
noncomputable abbrev en(P:bY)(k:String)(t:Nat)(v:aq):cZ:=#[iW P<|cG k,.str (cG k) t,v]
noncomputable abbrev eb(P:bY)(k:List UInt8)(t:Nat)(v:aq):cZ:=#[iW P ⟨(k.map pS).toArray⟩,.bytes k.toArray t,v]
noncomputable abbrev ob(c:aq)(d:Data):Obj:=#[c,A,d,#[]]
noncomputable abbrev sq(l:List aq)(n:Nat):Data:=.seq l.toArray n
noncomputable abbrev dc(l:List cZ)(n:Nat):Data:=.dict l.toArray n
noncomputable abbrev fl(l:List aq):Data:=.fields l.toArray
noncomputable def pw:Zp:=XC
def tS(i:Nat):Stmt:=(pw.main.body)[i]?.getD<|.Pass #[0,0,0,0]
noncomputable def VO:Stmt->List Stmt
 |.ClassDef _ _ _ b _ _ _ _ _ _ _=>b
 |_=>[]
def cS(i j:Nat):Stmt:=(VO<|tS i)[j]?.getD<|.Pass #[0,0,0,0]
noncomputable def mkF(c:Stmt)(q:String)(g:Nat)(d kV doc e:aq)(f:Option Addr)(cd h:aq)(i:Nat):i8:=
 match c with
 |.FunctionDef n a b _ _ _ j _ _ _=>{ name:=n,qualname:=cG q,params:=a,body:=.stmts b,scope:=j,globals:=g,closure:=[],defaults:=d,kwdefaults:=kV,doc:=doc,pyModule:=e,annotations:=f,code:=cd,closureTuple:=h,builtins:=i }
 |_=>default
noncomputable abbrev nd:=BT.node
noncomputable abbrev nl:=BT.nil
abbrev cp(t:Nat):aq:=vs "/claim/cut.py" t
abbrev cd(n q:String)(t l a b c d r:Nat)(z:Bool)(f:Nat)(x y w:aq)(e:Nat):Obj:=ob (vt "code")<|fl [vs n t,vs q<|t+1,cp<|t+2,vi l 0,vi a 0,vi b 0,vi c 0,vi d 0,vr r,.bool z,vi f 0,vr<|r+1,N,x,y,w,vi e 0,vi l 0,cp<|e+1]
abbrev tp(l:List aq):Obj:=ob (vt "tuple")<|sq l 0
noncomputable def ns(t:Nat):List String->List aq
 |[]=>[]
 |x::r=>vs x t::ns (t+1) r
abbrev tn(t:Nat)(l:List String):Obj:=tp<|ns t l
abbrev fn(s:Stmt)(q:String)(d m:aq)(c:Nat):Obj:=ob (vt "function")<|.func<|mkF s q 3 d N N m A (vr c) N 0
abbrev sf(s:Stmt)(q:String):Obj:=ob N<|.func<|mkF s q 0 N N N N A N N 0
abbrev f0:Obj:=ob N<|fl []
abbrev mB:aq:=vs "gitcore.base" 194
abbrev mD:aq:=vs "gitcore.delta" 438
abbrev mP:aq:=vs "gitcore.packs" 584
abbrev mL:aq:=vs "law_nt0307_01" 1334
abbrev fo(l:List<|Option aq):Obj:=#[vt "frame",A,.plain,l.toArray]
abbrev sv(a:Nat):Option aq:=I<|vr a
abbrev ss(x:String)(t:Nat):Option aq:=I<|vs x t
abbrev b8(o:Obj):BT:=nd o nl nl
abbrev dz(o:Obj)(l:BT):BT:=nd o l nl
abbrev t0:Obj:=tp []
abbrev ce(n q:String)(t l a r e:Nat):Obj:=cd n q t l a 0 0 3 r J 181 (vr<|r+2) (vr<|r+3) (vr<|r+4) e
abbrev cg(n q:String)(t l a r e:Nat):Obj:=cd n q t l a 0 0 3 r J 181 N N (vr<|r+2) e
abbrev cc(n:String)(t l r e:Nat):Obj:=cd n n t l 0 0 0 0 r X 181 N N N e
abbrev od(l:List cZ)(n:Nat):Obj:=ob (vt "dict")<|dc l n
abbrev eL(P:bY)(t l:Nat):cZ:=en P "__firstlineno__" t<|vi l<|t-1
abbrev eS(P:bY)(t a:Nat):cZ:=en P "__static_attributes__" t<|vr a
abbrev eD(P:bY)(t:Nat):cZ:=en P "__doc__" t N
abbrev eM(P:bY)(t:Nat)(m:aq):cZ:=en P "__module__" t m
abbrev eQ(P:bY)(q:String)(t:Nat):cZ:=en P "__qualname__" t<|vs q<|t-1
abbrev bf(l:List aq):Obj:=ob (vt "builtin_function_or_method")<|fl l
abbrev bp:Obj:=bf [vb "type.__prepare__",vt "type"]
abbrev bu(a:Nat):Obj:=bf [vb "object.__init_subclass__",vr a]
abbrev gs(l:List aq):Obj:=ob (vt "getset_descriptor")<|fl l
abbrev gw(t a:Nat):Obj:=gs [vs "__weakref__" t,vr a,vb "ExceptionGroup.__weakref__",N]
abbrev gd(t a:Nat):Obj:=gs [vs "__dict__" t,vr a,vb "function.__dict__",vb "function.__dict__#set"]
abbrev su(a:Nat):Obj:=ob (vt "super")<|fl [vr a,vr a,vr a]
abbrev tb(n:String)(a t:Nat):Obj:=#[vt "type",A,.cls #[u n,[vt "object"],[vr a,vt "object"],a-1,u n,J,[],[],X,A,X],[A,A,ss n t,ss n<|t+8,I<|vb "object.__new__",I<|.bool J].toArray]
abbrev tx(n:String)(a b t:Nat):Obj:=#[vt "type",A,.cls #[u n,[vr 39],[vr a,vr 39,vt "Exception",vt "BaseException",vt "object"],a-1,u n,J,[],[],X,A,X],[sv b,A,ss n t,ss n<|t+8,I<|vb "Exception.__new__",I<|.bool J].toArray]
noncomputable def tri:List (Int×Nat)->List aq
 |[]=>[]
 |p::r=>vi p.1 0::vi 0 0::vr p.2::tri r
def g3(P:bY):List cZ:=[eD P 166,en P "__package__" 167 N,en P "__loader__" 168<|vb "__main__.__loader__#opaque",en P "__spec__" 169 N,en P "__annotations__" 170<|vr 6,en P "__builtins__" 171<|vr 4,en P "__file__" 173<|vs "/claim/cut.py" 172,en P "__cached__" 174 N,en P "_wall" 193<|vr 21,en P "HEX_SIGNS" 197<|vs "0123456789abcdef" 196,en P "GitError" 227<|vr 39,en P "BadObject" 243<|vr 52,en P "MissingObject" 259<|vr 64,en P "BadBits" 275<|vr 76,en P "BadDelta" 291<|vr 88,en P "BadPack" 307<|vr 100,en P "text_of" 313<|vr 107,en P "octets_of" 319<|vr 112,en P "hex_of" 328<|vr 119,en P "big_endian" 334<|vr 124,en P "be32" 341<|vr 131,en P "at_big_endian" 352<|vr 138,en P "at_be32" 360<|vr 145,en P "put_size" 368<|vr 152,en P "at_size" 379<|vr 159,en P "put_offset" 387<|vr 166,en P "at_offset" 397<|vr 173,en P "CountingHasher" 437<|vr 198,en P "DELTA_COPY_BIT" 441<|vi 128 440,en P "DELTA_PLACE_OCTETS" 443<|vi 4 442,en P "DELTA_LENGTH_OCTETS" 445<|vi 3 444,en P "DELTA_LENGTH_BIT" 447<|vi 16 446,en P "DELTA_NOUGHT_LENGTH" 449<|vi 65536 448,en P "DeltaCommand" 490<|vr 228,en P "DeltaReader" 562<|vr 278,en P "delta_commands" 573<|vr 289,en P "apply_delta" 583<|vr 296,en P "PACK_SIGN" 587<|vy [80,65,67,75] 586,en P "PACK_VERSION" 589<|vi 2 588,en P "PACK_VERSIONS_READ" 592<|vr 297,en P "PACK_HEAD_SIZE" 594<|vi 12 593,en P "OFFSET_DELTA" 596<|vi 6 595,en P "ID_DELTA" 598<|vi 7 597,en P "KIND_NUMBERS" 611<|vr 298,en P "NUMBER_KINDS" 624<|vr 299,en P "pack_object_id" 633<|vr 306,en P "entry_head" 643<|vr 313,en P "at_entry_head" 655<|vr 320,en P "PackEntry" 699<|vr 345,en P "PackBuilder" 763<|vr 388,en P "pack_closed" 773<|vr 399,en P "write_pack" 785<|vr 407,en P "pack_sorted" 800<|vr 414,en P "pack_split" 818<|vr 422,en P "pack_fit" 827<|vr 429,en P "pack_patched" 838<|vr 436,en P "Scanned" 886<|vr 460,en P "pack_count" 895<|vr 471,en P "pack_unpacked" 907<|vr 478,en P "scan_entry" 926<|vr 485,en P "scan_pack" 941<|vr 492,en P "PackCache" 993<|vr 523,en P "PackSettling" 1104<|vr 586,en P "pack_looked_up" 1113<|vr 597,en P "PackReader" 1270<|vr 707,en P "pack_reused" 1285<|vr 718,en P "pack_listing" 1291<|vr 723,en P "StoredCodec" 1333<|vr 748,en P "_law_draw" 1347<|vr 759,en P "_law_hex" 1353<|vr 764,en P "_law_world" 1359<|vr 769,en P "_law_entry" 1373<|vr 776,en P "_law_sorted" 1379<|vr 781,en P "_law_depth" 1389<|vr 788,en P "_law_is_refused" 1399<|vr 795,en P "_law_pack_right" 1405<|vr 800,en P "_law_split_right" 1411<|vr 805,en P "law" 1417<|vr 810]
def f12:List aq:=tri [(1,20),(6,27),(10,48),(12,60),(14,72),(16,84),(18,96),(20,106),(22,111),(28,118),(34,123),(36,130),(38,137),(45,144),(47,151),(54,158),(66,165),(74,172),(84,179),(101,208),(111,238),(149,288),(162,295),(181,305),(183,312),(193,319),(211,326),(222,355),(256,398),(259,406),(264,413),(286,421),(306,428),(312,435),(322,442),(335,470),(344,477),(354,484),(374,491),(390,498),(413,533),(491,596),(500,603),(596,717),(612,722),(626,729),(640,758),(649,763),(651,768),(658,775),(664,780),(673,787),(678,794),(690,799),(713,804),(728,809)]
def aai(k:Nat)(a:String)(t:Nat)(P:bY):Obj:=ob (vt "dict")<|dc (en P "__name__" 165 (vs a t)::(g3 P).take k)<|k+1
def Rk(k:Nat):Obj:=ob N<|fl<|f12.take k
def s39:List aq:=[(vr 52),(vr 64),(vr 76),(vr 88),(vr 100)]
def Y0(k:Nat):Obj:=#[(vt "type"),A,(.cls #[u "GitError",[(vt "Exception")],[(vr 39),(vt "Exception"),(vt "BaseException"),(vt "object")],38,u "GitError",J,[],(s39.take k),X,A,X]),[(I<|vr 22),A,(I<|vs "GitError" 198),(I<|vs "GitError" 206),(I<|vb "Exception.__new__"),(I<|.bool J)].toArray]
noncomputable def o0(P:bY):Obj:=boot_o_0 P
noncomputable def o1(P:bY):Obj:=boot_o_1 P
def o2(P:bY):Obj:=ob N<|dc [en P "type.__subclasses__.Exception.0" 224<|vi 39 0,en P "type.__subclasses__.Exception.n" 225<|vi 1 0] 2
def o3(P:bY):Obj:=aai 78 "law_nt0307_01" 1334 P
noncomputable def o4(P:bY):Obj:=boot_o_4 P
noncomputable def o5(P:bY):Obj:=boot_o_5 P
noncomputable def o6(P:bY):Obj:=boot_o_6 P
noncomputable def o7(P:bY):Obj:=boot_o_7 P
noncomputable def o8(P:bY):Obj:=boot_o_8 P
noncomputable def o9(P:bY):Obj:=boot_o_9 P
noncomputable def o10(P:bY):Obj:=boot_o_10 P
def o12(_:bY):Obj:=Rk 168
def o29(_:bY):Obj:=tn 210 [""]
def o36(_:bY):Obj:=fn (cS 3 0) "GitError.__init__" (vr 29) mB 35
def o39(_:bY):Obj:=Y0 5
def aex(_:bY):Obj:=tx "BadPack" 100 91 292
def b0(P:bY):BT:=nd (o7 P) (nd t0 (nd f0 (nd (od [eM P 251 mB,eL P 255 12,eS P 256 62,eD P 257] 2) (nd (tn 338 ["number"]) (nd t0 (b8<|sf (cS 56 1) "PackCache.get")<|b8<|sf (tS 67) "_law_world")<|dz (sf (cS 44 3) "PackBuilder.close")<|b8 t0)<|nd (tn 422 ["self", "octets", "content"]) (dz (ce "at_entry_head" "at_entry_head" 644 193 2 314 653)<|b8<|ce "push_deltas" "PackSettling.push_deltas" 1054 470 6 570 1066)<|dz t0<|b8<|ce "check" "PackReader.check" 1244 591 1 698 1252)<|nd f0 (nd (fn (tS 17) "at_size" N mB 158) (nd (sf (tS 29) "delta_commands") (b8 f0)<|b8<|cg "_law_pack_right" "_law_pack_right" 1400 690 4 796 1403)<|dz (tp [(.bool J)])<|b8<|fn (cS 59 9) "PackReader.kind_at" N mP 670)<|nd (ce "is_copy" "DeltaCommand.is_copy" 472 108 1 218 476) (dz bp<|b8 f0)<|dz t0<|b8<|sf (cS 63 0) "StoredCodec.pack")<|nd f0 (nd (tp [(vr 39)]) (nd (sf (tS 15) "at_be32") (nd (tn 543 ["self", "first", "begun", "place", "many"]) (b8<|bu 523)<|b8 f0)<|dz (fn (tS 45) "pack_closed" N mP 398)<|b8<|sf (cS 59 7) "PackReader.id_at")<|nd (ob N<|fl [vi 103 0,vi 4 0,vr 216,vi 109 0,vi 4 0,vr 223]) (dz (fn (cS 43 0) "PackEntry.__init__" (vr 328) mP 334)<|b8 t0)<|dz (su 460)<|b8 t0)<|nd (cg "octets_of" "octets_of" 314 22 1 108 317) (nd bp (dz t0<|b8 t0)<|dz f0<|b8 f0)<|nd (fo [sv 238,sv 3,sv 235,A,(I mD),A,sv 0]) (dz (tn 725 ["self", "entry", "number", "packed", "back"])<|b8<|ce "entry_at" "PackReader.entry_at" 1142 517 2 618 1148)<|dz (od [eM P 949 mP,eQ P "PackCache" 951,eL P 953 390,en P "__init__" 961<|vr 506,en P "get" 970<|vr 513,en P "put" 982<|vr 520,eS P 986 521] 7)<|b8<|su 748)<|nd bp (nd (o39 P) (nd f0 (nd t0 (nd f0 (b8<|ce "put" "PackCache.put" 971 404 4 514 980)<|b8<|ce "_law_entry" "_law_entry" 1360 658 4 770 1371)<|dz (su 388)<|b8 f0)<|nd (gd 431 198) (dz (fo [sv 326,sv 3,sv 323,A,(I mP),A,sv 0])<|b8<|fn (cS 57 6) "PackSettling.settle_outer" N mP 582)<|dz (sf (cS 51 1) "Scanned.is_delta")<|b8<|bu 707)<|nd t0 (nd t0 (nd (ce "apply_delta" "apply_delta" 574 162 2 290 581) (b8<|tn 1027 ["self", "one", "oid"])<|b8 f0)<|dz t0<|b8 t0)<|nd (su 228) (dz f0<|b8<|sf (cS 59 1) "PackReader.settling")<|dz f0<|b8<|sf (cS 63 1) "StoredCodec.unpack")<|nd (tp [(vr 39)]) (nd (od [eM P 283 mB,eL P 287 16,eS P 288 86,eD P 289] 2) (nd (ce "put_size" "put_size" 361 47 1 146 366) (nd (gd 556 278) (b8 t0)<|b8<|tn 1393 ["way", "some", "hasher", "found"])<|dz (fn (tS 46) "write_pack" (vr 400) mP 406)<|b8<|ce "at_of" "PackReader.at_of" 1197 568 2 658 1202)<|nd (sf (cS 27 0) "DeltaCommand.__init__") (dz (tn 687 ["base", "content", "delta", "kind", "oid"])<|b8 bp)<|dz (fn (tS 52) "pack_count" N mP 470)<|b8 t0)<|nd (fn (tS 11) "hex_of" N mB 118) (nd f0 (dz (sf (tS 41) "entry_head")<|b8<|sf (cS 57 4) "PackSettling.settle_from")<|dz (od [eM P 846 mP,eQ P "Scanned" 848,eL P 850 322,en P "__init__" 864<|vr 450,en P "is_delta" 871<|vr 457,eS P 879 458] 6)<|b8<|sf (cS 59 13) "PackReader.borrowed")<|nd t0 (dz t0<|b8<|fn (cS 59 3) "PackReader.sure_at" N mP 630)<|dz t0<|b8<|fn (tS 65) "_law_draw" N mL 758
def b1(P:bY):BT:=nd t0 (nd (sf (tS 0) "_wall") (nd (ce "__init__" "GitError.__init__" 211 8 2 30 216) (nd (tp [(vr 39)]) (nd (fn (tS 13) "be32" N mB 130) (nd (sf (cS 28 2) "DeltaReader.octet") (b8 f0)<|b8 f0)<|dz (od [eM P 707 mP,eL P 711 222,en P "__init__" 721<|vr 364,en P "piece_of" 732<|vr 371,en P "add" 742<|vr 378,en P "close" 749<|vr 385,eS P 756 386,en P "__dict__" 758<|vr 389,en P "__weakref__" 760<|vr 390,eD P 761] 4)<|b8<|sf (cS 59 5) "PackReader.step_down")<|nd (fn (cS 20 1) "CountingHasher.digest" N mB 194) (dz (od [eM P 663 mP,eQ P "PackEntry" 665,eL P 667 211,en P "__init__" 679<|vr 335,en P "is_delta" 686<|vr 342,eS P 692 343] 6)<|b8<|tn 1072 ["self", "oid", "found", "kind", "content", "stack", "at", "its_kind", "made", "depth"])<|dz t0<|b8<|tb "PackReader" 707 1114)<|nd (od [eM P 299 mB,eL P 303 18,eS P 304 98,eD P 305] 2) (nd t0 (nd f0 (b8<|ce "sort_deltas" "PackSettling.sort_deltas" 1016 431 1 542 1021)<|b8<|sf (tS 73) "_law_split_right")<|dz t0<|b8 t0)<|nd (od [eM P 457 mD,eL P 461 101,en P "__init__" 471<|vr 217,en P "is_copy" 479<|vr 225,eS P 483 226,en P "__dict__" 485<|vr 229,en P "__weakref__" 487<|vr 230,eD P 488] 4) (dz (cc "PackBuilder" 702 222 353 705)<|b8 t0)<|dz (sf (tS 54) "scan_entry")<|b8 t0)<|nd (od [eM P 235 mB,eL P 239 10,eS P 240 50,eD P 241] 2) (nd f0 (nd f0 (nd (fn (cS 28 4) "DeltaReader.command" N mD 274) (b8 t0)<|b8<|ce "_law_depth" "_law_depth" 1380 673 3 782 1387)<|dz (tn 777 ["entries", "hasher", "codec", "by_offset", "builder", "entry"])<|b8 f0)<|nd t0 (dz t0<|b8<|sf (tS 58) "pack_looked_up")<|dz (tn 890 ["octets", "hasher", "end"])<|b8<|fn (tS 61) "pack_listing" N mP 722)<|nd (tn 323 ["octets", "found", "octet"]) (nd (cc "CountingHasher" 400 84 177 403) (dz t0<|b8 t0)<|dz (ce "pack_patched" "pack_patched" 828 312 2 430 836)<|b8<|ce "raw_at" "PackReader.raw_at" 1230 585 2 686 1235)<|nd t0 (dz (fn (cS 44 1) "PackBuilder.piece_of" N mP 370)<|b8<|tn 1154 ["self", "at", "facts"])<|dz (fo [sv 498,sv 3,sv 495,A,(I mP),A,sv 0])<|b8<|tn 1339 ["deck", "below", "turn", "cells", "cell", "mixed"])<|nd (cc "GitError" 200 6 25 203) (nd (tp [(vr 39)]) (nd (od [eM P 267 mB,eL P 271 14,eS P 272 74,eD P 273] 2) (nd t0 (nd (ce "number" "DeltaReader.number" 528 129 4 262 537) (b8<|tb "PackCache" 523 942)<|b8<|sf (tS 69) "_law_sorted")<|dz (tn 767 ["count", "body", "hasher", "whole"])<|b8 t0)<|nd t0 (dz (tn 671 ["self", "oid", "kind", "content", "base", "delta"])<|b8<|gd 1098 586)<|dz (od [eM P 846 mP,eL P 850 322,en P "__init__" 864<|vr 450,en P "is_delta" 871<|vr 457,eS P 879 458,en P "__dict__" 881<|vr 461,en P "__weakref__" 883<|vr 462,eD P 884] 4)<|b8 t0)<|nd (fn (tS 9) "text_of" N mB 106) (nd (sf (tS 19) "at_offset") (dz (ob (vt "dict")<|dc [(#[1,vi 1 612,(vy [99,111,109,109,105,116] 613)]:cZ),(#[2,vi 2 614,(vy [116,114,101,101] 615)]:cZ),(#[3,vi 3 616,(vy [98,108,111,98] 617)]:cZ),(#[4,vi 4 618,(vy [116,97,103] 619)]:cZ)] 4)<|b8<|fn (cS 57 2) "PackSettling.settle_all" N mP 554)<|dz (sf (tS 49) "pack_fit")<|b8<|sf (cS 59 11) "PackReader.base_at")<|nd (od [eM P 498 mD,eQ P "DeltaReader" 500,eL P 502 111,en P "__init__" 511<|vr 246,en P "is_over" 519<|vr 254,en P "octet" 527<|vr 261,en P "number" 539<|vr 268,en P "command" 550<|vr 275,eS P 555 276] 9) (dz (ce "__init__" "PackBuilder.__init__" 712 224 4 358 719)<|b8 f0)<|dz (ce "scan_pack" "scan_pack" 927 374 3 486 939)<|b8<|od [en P "__module__" 1301<|vs "gitcore.deflate" 1292,eL P 1305 626,en P "pack" 1313<|vr 737,en P "unpack" 1325<|vr 745,eS P 1326 746,en P "__dict__" 1328<|vr 749,en P "__weakref__" 1330<|vr 750,eD P 1331] 4)<|nd f0 (nd (tp [(vr 39)]) (nd (tn 372 ["octets", "at", "number", "shift", "octet"]) (nd t0 (b8<|sf (cS 57 0) "PackSettling.__init__")<|b8<|fn (tS 71) "_law_is_refused" N mL 794)<|dz t0<|b8<|tn 1208 ["self", "at"])<|nd f0 (dz (gw 695 345)<|b8<|cc "PackReader" 1116 500 601 1119)<|dz t0<|b8 t0)<|nd (cg "big_endian" "big_endian" 329 34 2 120 332) (nd (ce "__init__" "CountingHasher.__init__" 411 86 2 182 416) (dz f0<|b8 f0)<|dz (fo [sv 442,sv 3,sv 439,A,(I mP),A,sv 0])<|b8 f0)<|nd (sf (cS 28 1) "DeltaReader.is_over") (dz t0<|b8 t0)<|dz t0<|b8<|cg "_law_hex" "_law_hex" 1348 649 1 760 1351
def b2(P:bY):BT:=nd (o9 P) (nd (tn 190 ["k"]) (nd t0 (nd (su 64) (nd (sf (tS 13) "be32") (nd (tn 523 ["self", "found"]) (b8<|fn (cS 56 1) "PackCache.get" N mP 512)<|b8<|fn (tS 67) "_law_world" N mL 768)<|dz (fn (cS 44 3) "PackBuilder.close" N mP 384)<|b8<|tn 1177 ["self", "one", "facts"])<|nd (sf (cS 20 1) "CountingHasher.digest") (dz t0<|b8 t0)<|dz (ce "__init__" "Scanned.__init__" 851 324 8 444 862)<|b8<|tn 1255 ["cache", "codec", "entries", "hasher", "lookup", "octets", "scanned", "settled"])<|nd (fo [sv 96,sv 3,sv 93,A,(I mB),A,sv 0]) (nd f0 (nd (fn (tS 29) "delta_commands" N mD 288) (b8 t0)<|b8 t0)<|dz f0<|b8 f0)<|nd (ob (vt "property")<|fl [vr 224,N,N,N,vs "is_copy" 479,(.bool X)]) (dz t0<|b8<|cg "__init__" "PackReader.__init__" 1129 502 6 606 1132)<|dz (tn 911 ["body", "at", "hasher", "codec", "starts", "number", "size", "spot", "base_at", "base_id", "back", "data", "after"])<|b8<|fn (cS 63 0) "StoredCodec.pack" N (vs "gitcore.deflate" 1292) 736)<|nd (fo [sv 48,sv 3,sv 45,A,(I mB),A,sv 0]) (nd (od [eM P 283 mB,eQ P "BadDelta" 285,eL P 287 16,eS P 288 86] 4) (nd (fn (tS 15) "at_be32" N mB 144) (nd (sf (cS 28 4) "DeltaReader.command") (b8 bp)<|b8 t0)<|dz t0<|b8<|fn (cS 59 7) "PackReader.id_at" N mP 656)<|nd (fo [sv 208,sv 3,sv 205,A,(I mD),A,sv 0]) (dz f0<|b8<|tn 1108 ["lookup", "oid", "found"])<|dz t0<|b8<|sf (tS 61) "pack_listing")<|nd t0 (nd t0 (dz (ce "pack_object_id" "pack_object_id" 625 181 3 300 631)<|b8<|ce "need_all" "PackSettling.need_all" 1033 450 1 556 1037)<|dz t0<|b8 t0)<|nd f0 (dz (sf (cS 44 1) "PackBuilder.piece_of")<|b8 t0)<|dz (ob N<|fl [vi 392 0,vi 4 0,vr 505,vi 397 0,vi 4 0,vr 512,vi 404 0,vi 4 0,vr 519])<|b8 t0)<|nd t0 (nd (su 39) (nd (fo [sv 72,sv 3,sv 69,A,(I mB),A,sv 0]) (nd (ce "at_big_endian" "at_big_endian" 342 38 3 132 350) (nd t0 (b8<|tn 983 ["held", "length", "most"])<|b8 t0)<|dz t0<|b8<|cg "ids" "PackReader.ids" 1183 562 1 646 1186)<|nd (su 198) (dz t0<|b8<|od [eM P 1001 mP,eL P 1005 413,en P "__init__" 1015<|vr 541,en P "sort_deltas" 1023<|vr 548,en P "settle_all" 1032<|vr 555,en P "need_all" 1039<|vr 562,en P "settle_from" 1053<|vr 569,en P "push_deltas" 1068<|vr 576,en P "settle_outer" 1084<|vr 583,eS P 1097 584,en P "__dict__" 1099<|vr 587,en P "__weakref__" 1101<|vr 588,eD P 1102] 4)<|dz (fn (cS 51 1) "Scanned.is_delta" N mP 456)<|b8 f0)<|nd (sf (tS 9) "text_of") (nd (tn 391 ["octets", "at", "number", "octet"]) (nd (tp [(vi 2 590),(vi 3 591)]) (b8<|sf (cS 57 2) "PackSettling.settle_all")<|b8<|cg "law" "law" 1412 728 1 806 1415)<|dz (tn 822 ["entry", "content", "builder"])<|b8<|tn 1224 ["self", "at", "one"])<|nd t0 (dz t0<|b8<|fn (cS 59 1) "PackReader.settling" N mP 616)<|dz t0<|b8<|fn (cS 63 1) "StoredCodec.unpack" (vr 738) (vs "gitcore.deflate" 1292) 744)<|nd (od [eM P 251 mB,eQ P "MissingObject" 253,eL P 255 12,eS P 256 62] 4) (nd (su 88) (nd t0 (nd (su 278) (b8<|tn 1009 ["self", "scanned", "hasher", "lookup"])<|b8<|sf (tS 71) "_law_is_refused")<|dz f0<|b8 t0)<|nd (fn (cS 27 0) "DeltaCommand.__init__" (vr 210) mD 216) (dz (tb "PackEntry" 345 656)<|b8 t0)<|dz f0<|b8<|cc "StoredCodec" 1296 626 727 1299)<|nd f0 (nd t0 (dz (fn (tS 41) "entry_head" N mP 312)<|b8<|fn (cS 57 4) "PackSettling.settle_from" N mP 568)<|dz (ob N<|fl [vi 324 0,vi 4 0,vr 449,vi 333 0,vi 4 0,vr 456])<|b8<|fn (cS 59 13) "PackReader.borrowed" N mP 696)<|nd (tn 515 ["self"]) (dz (ce "add" "PackBuilder.add" 733 244 2 372 740)<|b8 f0)<|dz (ce "__init__" "PackCache.__init__" 954 392 2 500 959)<|b8 f0
def b3(P:bY):BT:=nd (cc "<module>" 182 1 11 185) (nd (fn (tS 0) "_wall" N (vs "__main__" 164) 20) (nd (tn 219 ["told"]) (nd (od [eM P 267 mB,eQ P "BadBits" 269,eL P 271 14,eS P 272 74] 4) (nd f0 (nd (fn (cS 28 2) "DeltaReader.octet" N mD 260) (b8 t0)<|b8 t0)<|dz (gd 757 388)<|b8<|fn (cS 59 5) "PackReader.step_down" N mP 644)<|nd (od [eM P 405 mB,eL P 409 84,en P "__init__" 418<|vr 188,en P "digest" 427<|vr 195,eS P 430 196,en P "__dict__" 432<|vr 199,en P "__weakref__" 434<|vr 200,eD P 435] 4) (dz (ob N<|fl [vi 213 0,vi 4 0,vr 334,vi 220 0,vi 4 0,vr 341])<|b8<|sf (cS 57 6) "PackSettling.settle_outer")<|dz (tn 868 ["self"])<|b8<|gw 1266 707)<|nd (su 100) (nd (ce "put_offset" "put_offset" 380 66 1 160 385) (nd t0 (b8 t0)<|b8<|fn (tS 73) "_law_split_right" N mL 804)<|dz (ce "pack_split" "pack_split" 801 286 5 416 816)<|b8<|ce "depth_at" "PackReader.depth_at" 1213 574 2 672 1218)<|nd (gd 484 228) (dz (tp [(.bool J)])<|b8<|tn 1138 ["self"])<|dz (fn (tS 54) "scan_entry" N mP 484)<|b8<|tn 1318 ["self", "octets", "at", "size", "begin"])<|nd (su 52) (nd (fo [sv 84,sv 3,sv 81,A,(I mB),A,sv 0]) (nd t0 (nd (od [eM P 498 mD,eL P 502 111,en P "__init__" 511<|vr 246,en P "is_over" 519<|vr 254,en P "octet" 527<|vr 261,en P "number" 539<|vr 268,en P "command" 550<|vr 275,eS P 555 276,en P "__dict__" 557<|vr 279,en P "__weakref__" 559<|vr 280,eD P 560] 4) (b8<|cc "PackSettling" 996 413 531 999)<|b8 t0)<|dz (sf (tS 46) "write_pack")<|b8 t0)<|nd (tn 465 ["self", "place", "many", "octets"]) (dz (ce "is_delta" "PackEntry.is_delta" 680 220 1 336 684)<|b8<|fn (tS 58) "pack_looked_up" N mP 596)<|dz (sf (tS 52) "pack_count")<|b8 bp)<|nd (sf (tS 11) "hex_of") (nd (tp [(vi 4 410)]) (dz (tn 637 ["number", "size", "piece", "out"])<|b8<|tn 1043 ["self", "at", "kind", "content", "depth", "stack", "oid", "later"])<|dz t0<|b8 t0)<|nd (ce "__init__" "DeltaReader.__init__" 503 113 2 240 509) (dz f0<|b8<|sf (cS 59 3) "PackReader.sure_at")<|dz f0<|b8<|sf (tS 65) "_law_draw")<|nd (o29 P) (nd (od [eM P 235 mB,eQ P "BadObject" 237,eL P 239 10,eS P 240 50] 4) (nd (su 76) (nd (tn 356 ["octets", "at"]) (nd t0 (b8<|gw 989 523)<|b8<|fn (tS 69) "_law_sorted" N mL 780)<|dz (sf (tS 45) "pack_closed")<|b8<|tn 1192 ["self", "at"])<|nd (od [eM P 457 mD,eQ P "DeltaCommand" 459,eL P 461 101,en P "__init__" 471<|vr 217,en P "is_copy" 479<|vr 225,eS P 483 226] 6) (dz (sf (cS 43 0) "PackEntry.__init__")<|b8<|su 586)<|dz (gd 880 460)<|b8<|ce "pack_reused" "pack_reused" 1271 596 2 712 1283)<|nd f0 (nd (fn (tS 19) "at_offset" N mB 172) (dz f0<|b8 f0)<|dz (fn (tS 49) "pack_fit" N mP 428)<|b8<|fn (cS 59 11) "PackReader.base_at" N mP 684)<|nd (ob N<|fl [vi 113 0,vi 4 0,vr 245,vi 119 0,vi 4 0,vr 252,vi 122 0,vi 4 0,vr 260,vi 129 0,vi 4 0,vr 267,vi 136 0,vi 4 0,vr 274]) (dz t0<|b8 t0)<|dz t0<|b8<|gd 1327 748)<|nd (fo [sv 60,sv 3,sv 57,A,(I mB),A,sv 0]) (nd (od [eM P 299 mB,eQ P "BadPack" 301,eL P 303 18,eS P 304 98] 4) (nd (sf (tS 17) "at_size") (nd (tn 566 ["delta", "reader", "found", "told", "command"]) (b8<|fn (cS 57 0) "PackSettling.__init__" N mP 540)<|b8 f0)<|dz (ce "pack_sorted" "pack_sorted" 786 264 1 408 798)<|b8<|sf (cS 59 9) "PackReader.kind_at")<|nd t0 (dz (bu 345)<|b8<|tp [N,(vi 1048576 1128)])<|dz (ce "pack_unpacked" "pack_unpacked" 896 344 3 472 905)<|b8<|tn 1309 ["self", "octets"])<|nd t0 (nd t0 (dz t0<|b8 t0)<|dz f0<|b8 t0)<|nd (fn (cS 28 1) "DeltaReader.is_over" N mD 252) (dz (tn 746 ["self"])<|b8<|ce "read_at" "PackReader.read_at" 1160 530 2 632 1171)<|dz (tn 965 ["self", "at", "found"])<|b8 t0
def b4(P:bY):BT:=nd (o8 P) (nd f0 (nd (tn 214 ["self", "told"]) (nd (tx "MissingObject" 64 55 244) (nd t0 (nd f0 (b8<|ce "get" "PackCache.get" 962 397 2 507 968)<|b8<|cg "_law_world" "_law_world" 1354 651 2 765 1357)<|dz (ce "close" "PackBuilder.close" 743 254 1 379 747)<|b8 f0)<|nd t0 (dz (fn (tS 42) "at_entry_head" N mP 319)<|b8<|fn (cS 57 5) "PackSettling.push_deltas" N mP 575)<|dz (sf (cS 51 0) "Scanned.__init__")<|b8<|fn (cS 59 14) "PackReader.check" N mP 703)<|nd (cc "BadPack" 294 18 94 297) (nd t0 (nd (ce "delta_commands" "delta_commands" 563 149 1 283 571) (b8<|tn 1019 ["self", "one"])<|b8<|fn (tS 72) "_law_pack_right" N mL 799)<|dz t0<|b8 t0)<|nd (fn (cS 27 1) "DeltaCommand.is_copy" N mD 223) (dz (od [eM P 707 mP,eQ P "PackBuilder" 709,eL P 711 222,en P "__init__" 721<|vr 364,en P "piece_of" 732<|vr 371,en P "add" 742<|vr 378,en P "close" 749<|vr 385,eS P 756 386] 8)<|b8<|sf (cS 59 0) "PackReader.__init__")<|dz f0<|b8<|ce "pack" "StoredCodec.pack" 1306 628 2 731 1311)<|nd (cc "BadObject" 230 10 46 233) (nd bp (nd (ce "at_be32" "at_be32" 353 45 2 139 358) (nd t0 (b8 t0)<|b8<|tn 1383 ["rows", "number", "there", "count"])<|dz (tp [(.bool J)])<|b8<|ce "id_at" "PackReader.id_at" 1189 565 2 651 1194)<|nd (cc "DeltaCommand" 452 101 206 455) (dz t0<|b8 f0)<|dz (bu 460)<|b8 f0)<|nd (fn (tS 10) "octets_of" N mB 111) (nd (od [eM P 405 mB,eQ P "CountingHasher" 407,eL P 409 84,en P "__init__" 418<|vr 188,en P "digest" 427<|vr 195,eS P 430 196] 6) (dz (sf (tS 40) "pack_object_id")<|b8<|sf (cS 57 3) "PackSettling.need_all")<|dz (tn 831 ["base", "delta", "content", "words", "e"])<|b8<|tn 1233 ["self", "at"])<|nd t0 (dz t0<|b8<|fn (cS 59 2) "PackReader.entry_at" N mP 623)<|dz t0<|b8<|bu 748)<|nd (od [eM P 205 mB,eQ P "GitError" 207,eL P 209 6,en P "__init__" 218<|vr 36,eS P 220 37] 5) (nd (gw 221 39) (nd (cc "BadBits" 262 14 70 265) (nd (sf (tS 14) "at_big_endian") (nd (tn 531 ["self", "flags", "first_bit", "octets", "found", "k"]) (b8<|fn (cS 56 2) "PackCache.put" N mP 519)<|b8<|fn (tS 68) "_law_entry" N mL 775)<|dz (bu 388)<|b8<|sf (cS 59 6) "PackReader.ids")<|nd (gw 433 198) (dz (tp [N,N,N])<|b8<|tn 1085 ["borrowed", "by_name", "by_place", "depth_of", "entries", "faults", "hasher", "id_of", "kind_of", "lookup", "place_of", "scanned"])<|dz (ce "is_delta" "Scanned.is_delta" 865 333 1 451 869)<|b8 t0)<|nd f0 (nd f0 (nd (fn (tS 30) "apply_delta" N mD 295) (b8 t0)<|b8<|sf (tS 74) "law")<|dz f0<|b8 f0)<|nd (bu 228) (dz (tn 715 ["self", "hasher", "codec", "by_offset"])<|b8<|ce "settling" "PackReader.settling" 1135 512 1 611 1139)<|dz (tn 930 ["octets", "hasher", "codec", "count", "body", "found", "starts", "at", "one"])<|b8<|ce "unpack" "StoredCodec.unpack" 1315 631 3 739 1323)<|nd bp (nd (tx "BadDelta" 88 79 276) (nd (fn (tS 16) "put_size" N mB 151) (nd (gw 558 278) (b8 f0)<|b8 t0)<|dz t0<|b8<|fn (cS 59 8) "PackReader.at_of" N mP 663)<|nd (ce "__init__" "DeltaCommand.__init__" 462 103 4 211 469) (dz (od [eM P 663 mP,eL P 667 211,en P "__init__" 679<|vr 335,en P "is_delta" 686<|vr 342,eS P 692 343,en P "__dict__" 694<|vr 346,en P "__weakref__" 696<|vr 347,eD P 697] 4)<|b8<|od [eM P 1121 mP,eQ P "PackReader" 1123,eL P 1125 500,en P "__init__" 1134<|vr 610,en P "settling" 1141<|vr 617,en P "entry_at" 1150<|vr 624,en P "sure_at" 1159<|vr 631,en P "read_at" 1173<|vr 638,en P "step_down" 1182<|vr 645,en P "ids" 1188<|vr 650,en P "id_at" 1196<|vr 657,en P "at_of" 1204<|vr 664,en P "kind_at" 1212<|vr 671,en P "depth_at" 1220<|vr 678,en P "base_at" 1229<|vr 685,en P "raw_at" 1237<|vr 692,en P "borrowed" 1243<|vr 697,en P "check" 1254<|vr 704,eS P 1263 705] 19)<|dz t0<|b8<|ob N<|fl [vi 628 0,vi 4 0,vr 736,vi 631 0,vi 4 0,vr 744])<|nd t0 (nd (tn 414 ["self", "size"]) (dz (ce "entry_head" "entry_head" 634 183 2 307 641)<|b8<|ce "settle_from" "PackSettling.settle_from" 1040 453 5 563 1051)<|dz t0<|b8<|cg "borrowed" "PackReader.borrowed" 1238 588 1 693 1241)<|nd f0 (dz (sf (cS 44 2) "PackBuilder.add")<|b8 t0)<|dz (sf (cS 56 0) "PackCache.__init__")<|b8 t0
def b5(P:bY):BT:=nd (o12 P) (nd (ce "_wall" "_wall" 187 1 1 15 191) (nd (o36 P) (nd bp (nd t0 (nd (ce "octet" "DeltaReader.octet" 520 122 1 255 525) (b8<|tn 974 ["self", "at", "kind", "content", "eldest", "gone"])<|b8<|tn 1363 ["rows", "number", "is_whole", "is_beside", "oid", "content", "base", "delta"])<|dz (tb "PackBuilder" 388 700)<|b8<|ce "step_down" "PackReader.step_down" 1174 552 2 639 1180)<|nd (tn 428 ["known", "size"]) (dz t0<|b8 t0)<|dz f0<|b8<|gd 1264 707)<|nd (aex P) (nd (sf (tS 18) "put_offset") (nd (tn 577 ["base", "delta", "made", "command"]) (b8<|fn (cS 57 1) "PackSettling.sort_deltas" N mP 547)<|b8<|cg "_law_split_right" "_law_split_right" 1406 713 6 801 1409)<|dz (sf (tS 48) "pack_split")<|b8<|sf (cS 59 10) "PackReader.depth_at")<|nd (tb "DeltaCommand" 228 450) (dz (fo [sv 355,sv 3,sv 352,A,(I mP),A,sv 0])<|b8 f0)<|dz (ce "scan_entry" "scan_entry" 908 354 5 479 924)<|b8 f0)<|nd (tx "BadObject" 52 43 228) (nd (cc "BadDelta" 278 16 82 281) (nd (tn 364 ["number", "found"]) (nd (tn 551 ["at", "base_size", "delta", "size"]) (b8<|ob N<|fl [vi 415 0,vi 4 0,vr 540,vi 431 0,vi 4 0,vr 547,vi 439 0,vi 4 0,vr 554,vi 450 0,vi 4 0,vr 561,vi 453 0,vi 4 0,vr 568,vi 470 0,vi 4 0,vr 575,vi 480 0,vi 4 0,vr 582])<|b8<|fn (tS 70) "_law_depth" N mL 787)<|dz t0<|b8<|tn 1200 ["self", "oid"])<|nd f0 (dz (sf (cS 43 1) "PackEntry.is_delta")<|b8<|ce "pack_looked_up" "pack_looked_up" 1105 491 2 591 1111)<|dz t0<|b8 t0)<|nd t0 (nd (fo [sv 179,sv 3,sv 176,A,(I mB),A,sv 0]) (dz f0<|b8 f0)<|dz (fn (tS 50) "pack_patched" N mP 435)<|b8<|fn (cS 59 12) "PackReader.raw_at" N mP 691)<|nd (sf (cS 28 0) "DeltaReader.__init__") (dz t0<|b8 t0)<|dz t0<|b8 t0)<|nd (fo [sv 27,sv 3,sv 24,A,(I mB),A,sv 0]) (nd bp (nd (tx "BadBits" 76 67 260) (nd f0 (nd (fn (cS 28 3) "DeltaReader.number" N mD 267) (b8<|gd 987 523)<|b8<|cg "_law_sorted" "_law_sorted" 1374 664 2 777 1377)<|dz t0<|b8 f0)<|nd bp (dz t0<|b8<|gw 1100 586)<|dz (tb "Scanned" 460 839)<|b8<|sf (tS 60) "pack_reused")<|nd t0 (nd (ce "at_offset" "at_offset" 388 74 2 167 395) (dz t0<|b8 t0)<|dz (ce "pack_fit" "pack_fit" 819 306 3 423 825)<|b8<|ce "base_at" "PackReader.base_at" 1221 577 2 679 1227)<|nd t0 (dz (fn (cS 44 0) "PackBuilder.__init__" (vr 357) mP 363)<|b8<|tn 1145 ["self", "at", "found"])<|dz (fn (tS 55) "scan_pack" N mP 491)<|b8<|tb "StoredCodec" 748 1294)<|nd (cc "MissingObject" 246 12 58 249) (nd bp (nd t0 (nd f0 (b8<|ce "__init__" "PackSettling.__init__" 1006 415 4 535 1013)<|b8 t0)<|dz (sf (tS 47) "pack_sorted")<|b8 t0)<|nd (tn 475 ["self"]) (dz (su 345)<|b8<|fo [sv 603,sv 3,sv 600,A,(I mP),A,sv 0])<|dz (sf (tS 53) "pack_unpacked")<|b8 f0)<|nd (fn (tS 12) "big_endian" N mB 123) (nd (fn (cS 20 0) "CountingHasher.__init__" (vr 181) mB 187) (dz (tn 647 ["octets", "at", "piece", "number", "size", "shift"])<|b8<|tn 1057 ["self", "stack", "places", "kind", "content", "depth", "at", "made", "e"])<|dz t0<|b8<|tn 1247 ["self", "oid", "at", "kind", "content"])<|nd (ce "is_over" "DeltaReader.is_over" 512 118 1 247 516) (dz f0<|b8<|sf (cS 59 4) "PackReader.read_at")<|dz f0<|b8<|fn (tS 66) "_law_hex" N mL 763
def b6(P:bY):BT:=nd (o10 P) (nd t0 (nd (sf (cS 3 0) "GitError.__init__") (nd (bu 64) (nd (ce "be32" "be32" 335 36 1 125 339) (nd t0 (b8 t0)<|b8 t0)<|dz (tn 750 ["by_offset", "codec", "hasher", "length", "pieces", "places"])<|b8 t0)<|nd (ce "digest" "CountingHasher.digest" 419 90 2 189 425) (dz bp<|b8 f0)<|dz (fn (cS 51 0) "Scanned.__init__" N mP 449)<|b8<|od [eM P 1121 mP,eL P 1125 500,en P "__init__" 1134<|vr 610,en P "settling" 1141<|vr 617,en P "entry_at" 1150<|vr 624,en P "sure_at" 1159<|vr 631,en P "read_at" 1173<|vr 638,en P "step_down" 1182<|vr 645,en P "ids" 1188<|vr 650,en P "id_at" 1196<|vr 657,en P "at_of" 1204<|vr 664,en P "kind_at" 1212<|vr 671,en P "depth_at" 1220<|vr 678,en P "base_at" 1229<|vr 685,en P "raw_at" 1237<|vr 692,en P "borrowed" 1243<|vr 697,en P "check" 1254<|vr 704,eS P 1263 705,en P "__dict__" 1265<|vr 708,en P "__weakref__" 1267<|vr 709,eD P 1268] 4)<|nd t0 (nd (tn 383 ["number", "found"]) (nd t0 (b8<|sf (cS 57 1) "PackSettling.sort_deltas")<|b8 f0)<|dz (tn 804 ["entries", "hasher", "codec", "most", "by_offset", "contents", "packs", "builder", "entry", "content", "chosen", "length"])<|b8<|tn 1216 ["self", "at"])<|nd (tn 480 ["many", "octets", "place"]) (dz (ob N<|fl [vi 224 0,vi 4 0,vr 363,vi 232 0,vi 4 0,vr 370,vi 244 0,vi 4 0,vr 377,vi 254 0,vi 4 0,vr 384])<|b8<|fn (cS 59 0) "PackReader.__init__" (vr 605) mP 609)<|dz t0<|b8<|tp [(vi 0 1314)])<|nd t0 (nd t0 (nd t0 (nd (ce "command" "DeltaReader.command" 540 136 1 269 548) (b8<|od [eM P 1001 mP,eQ P "PackSettling" 1003,eL P 1005 413,en P "__init__" 1015<|vr 541,en P "sort_deltas" 1023<|vr 548,en P "settle_all" 1032<|vr 555,en P "need_all" 1039<|vr 562,en P "settle_from" 1053<|vr 569,en P "push_deltas" 1068<|vr 576,en P "settle_outer" 1084<|vr 583,eS P 1097 584] 11)<|b8<|sf (tS 70) "_law_depth")<|dz f0<|b8 t0)<|nd (tp [N]) (dz (tn 683 ["self"])<|b8 t0)<|dz f0<|b8<|cg "pack_listing" "pack_listing" 1286 612 1 719 1289)<|nd f0 (nd (ob N<|fl [vi 86 0,vi 4 0,vr 187,vi 90 0,vi 4 0,vr 194]) (dz (fn (tS 40) "pack_object_id" N mP 305)<|b8<|fn (cS 57 3) "PackSettling.need_all" N mP 561)<|dz (sf (tS 50) "pack_patched")<|b8<|sf (cS 59 12) "PackReader.raw_at")<|nd (tn 506 ["self", "delta", "at"]) (dz (ce "piece_of" "PackBuilder.piece_of" 722 232 2 365 730)<|b8 f0)<|dz (cc "PackCache" 944 390 496 947)<|b8 f0)<|nd (ob N<|fl [vi 8 0,vi 4 0,vr 35]) (nd (bu 39) (nd t0 (nd (fn (tS 14) "at_big_endian" N mB 137) (nd (sf (cS 28 3) "DeltaReader.number") (b8<|od [eM P 949 mP,eL P 953 390,en P "__init__" 961<|vr 506,en P "get" 970<|vr 513,en P "put" 982<|vr 520,eS P 986 521,en P "__dict__" 988<|vr 524,en P "__weakref__" 990<|vr 525,eD P 991] 4)<|b8 f0)<|dz f0<|b8<|fn (cS 59 6) "PackReader.ids" N mP 649)<|nd (bu 198) (dz f0<|b8<|tb "PackSettling" 586 994)<|dz (tn 872 ["at", "base_at", "base_id", "behind", "data", "number", "size"])<|b8<|tn 1274 ["reader", "wanted", "places", "oid", "at", "found", "base", "kind", "content"])<|nd (cg "text_of" "text_of" 308 20 1 103 311) (nd t0 (nd (ob (vt "dict")<|dc [eb P [99,111,109,109,105,116] 599<|vi 1 600,eb P [116,114,101,101] 601<|vi 2 602,eb P [98,108,111,98] 603<|vi 3 604,eb P [116,97,103] 605<|vi 4 606] 4) (b8<|ce "settle_all" "PackSettling.settle_all" 1024 439 1 549 1030)<|b8<|fn (tS 74) "law" N mL 809)<|dz t0<|b8 t0)<|nd bp (dz (sf (cS 44 0) "PackBuilder.__init__")<|b8 t0)<|dz (sf (tS 55) "scan_pack")<|b8 t0)<|nd t0 (nd (bu 88) (nd f0 (nd (bu 278) (b8 t0)<|b8<|ce "_law_is_refused" "_law_is_refused" 1390 678 3 789 1397)<|dz (tn 789 ["entries", "by_id", "entry", "done", "found", "first", "stack", "waits", "here"])<|b8 f0)<|nd t0 (dz (gd 693 345)<|b8<|ob N<|fl [vi 502 0,vi 4 0,vr 609,vi 512 0,vi 4 0,vr 616,vi 517 0,vi 4 0,vr 623,vi 523 0,vi 4 0,vr 630,vi 530 0,vi 4 0,vr 637,vi 552 0,vi 4 0,vr 644,vi 562 0,vi 4 0,vr 649,vi 565 0,vi 4 0,vr 656,vi 568 0,vi 4 0,vr 663,vi 571 0,vi 4 0,vr 670,vi 574 0,vi 4 0,vr 677,vi 577 0,vi 4 0,vr 684,vi 585 0,vi 4 0,vr 691,vi 588 0,vi 4 0,vr 696,vi 591 0,vi 4 0,vr 703])<|dz (tn 899 ["codec", "octets", "at", "found", "words", "e"])<|b8<|fo [sv 729,sv 3,sv 726,A,ss "gitcore.deflate" 1292,A,sv 0])<|nd (sf (tS 12) "big_endian") (nd (sf (cS 20 0) "CountingHasher.__init__") (dz t0<|b8 t0)<|dz (cc "Scanned" 841 322 440 844)<|b8 t0)<|nd t0 (dz (fn (cS 44 2) "PackBuilder.add" N mP 377)<|b8<|tn 1163 ["self", "at", "chain", "seen", "found", "one", "kind", "content"])<|dz (fn (cS 56 0) "PackCache.__init__" N mP 505)<|b8<|sf (tS 66) "_law_hex"
def b7(P:bY):BT:=nd (fo [sv 13,sv 3,sv 3,A,ss "__main__" 164,A,sv 0]) (nd (tp [(vt "Exception")]) (nd (od [eM P 205 mB,eL P 209 6,en P "__init__" 218<|vr 36,eS P 220 37,en P "__weakref__" 222<|vr 40,eD P 223] 3) (nd t0 (nd (tn 345 ["octets", "at", "many", "number", "octet"]) (nd t0 (b8<|sf (cS 56 2) "PackCache.put")<|b8<|sf (tS 68) "_law_entry")<|dz (gw 759 388)<|b8 t0)<|nd (tb "CountingHasher" 198 398) (dz (cc "PackEntry" 658 211 324 661)<|b8<|ce "settle_outer" "PackSettling.settle_outer" 1069 480 2 577 1082)<|dz t0<|b8<|su 707)<|nd (bu 100) (nd (fn (tS 18) "put_offset" N mB 165) (nd (sf (tS 30) "apply_delta") (b8 f0)<|b8 t0)<|dz (fn (tS 48) "pack_split" (vr 415) mP 421)<|b8<|fn (cS 59 10) "PackReader.depth_at" N mP 677)<|nd (gw 486 228) (dz t0<|b8 t0)<|dz t0<|b8 t0)<|nd (bu 52) (nd t0 (nd (sf (tS 16) "put_size") (nd (tb "DeltaReader" 278 491) (b8<|fo [sv 533,sv 3,sv 530,A,(I mP),A,sv 0])<|b8 f0)<|dz (ce "write_pack" "write_pack" 774 259 4 401 783)<|b8<|sf (cS 59 8) "PackReader.at_of")<|nd t0 (dz (fn (cS 43 1) "PackEntry.is_delta" N mP 341)<|b8 t0)<|dz (ce "pack_count" "pack_count" 887 335 2 465 893)<|b8<|od [en P "__module__" 1301<|vs "gitcore.deflate" 1292,eQ P "StoredCodec" 1303,eL P 1305 626,en P "pack" 1313<|vr 737,en P "unpack" 1325<|vr 745,eS P 1326 746] 6)<|nd (ce "hex_of" "hex_of" 320 28 1 113 326) (nd t0 (dz t0<|b8 t0)<|dz bp<|b8 f0)<|nd (fn (cS 28 0) "DeltaReader.__init__" N mD 245) (dz (tn 736 ["self", "entry", "piece", "place"])<|b8<|ce "sure_at" "PackReader.sure_at" 1151 523 2 625 1157)<|dz (tn 957 ["self", "most"])<|b8<|ce "_law_draw" "_law_draw" 1336 640 2 753 1345)<|nd t0 (nd t0 (nd (bu 76) (nd t0 (nd f0 (b8<|su 523)<|b8 t0)<|dz (ce "pack_closed" "pack_closed" 764 256 3 393 771)<|b8 t0)<|nd t0 (dz (ce "__init__" "PackEntry.__init__" 668 213 6 329 677)<|b8<|bu 586)<|dz (gw 882 460)<|b8<|fn (tS 60) "pack_reused" N mP 717)<|nd (sf (tS 10) "octets_of") (nd t0 (dz (tn 628 ["hasher", "kind", "content"])<|b8<|tn 1036 ["self"])<|dz t0<|b8 t0)<|nd (cc "DeltaReader" 493 111 236 496) (dz f0<|b8<|sf (cS 59 2) "PackReader.entry_at")<|dz bp<|b8<|gw 1329 748)<|nd t0 (nd t0 (nd (ce "at_size" "at_size" 369 54 2 153 377) (nd t0 (b8 t0)<|b8<|sf (tS 72) "_law_pack_right")<|dz (fn (tS 47) "pack_sorted" N mP 413)<|b8<|ce "kind_at" "PackReader.kind_at" 1205 571 2 665 1210)<|nd (sf (cS 27 1) "DeltaCommand.is_copy") (dz t0<|b8 t0)<|dz (fn (tS 53) "pack_unpacked" N mP 477)<|b8 t0)<|nd f0 (nd f0 (dz (sf (tS 42) "at_entry_head")<|b8<|sf (cS 57 5) "PackSettling.push_deltas")<|dz (tn 854 ["self", "at", "number", "size", "base_at", "base_id", "data", "behind"])<|b8<|sf (cS 59 14) "PackReader.check")<|nd (ob (vt "property")<|fl [vr 253,N,N,N,vs "is_over" 519,(.bool X)]) (dz t0<|b8<|fn (cS 59 4) "PackReader.read_at" N mP 637)<|dz t0<|b8 f0
def big(P:bY):BT:=nd (o0 P) (nd (o1 P) (nd (o3 P) (b0 P)<|b1 P)<|nd (o5 P) (b2 P)<|b3 P)<|nd (o2 P) (nd (o4 P) (b4 P)<|b5 P)<|nd (o6 P) (b6 P)<|b7 P
noncomputable def V7(n:Nat):BT->Nat->Nat->BT
 |.nil,_,_=>.nil
 |.node v l r,a,b=>match acn b n with
  |true=>.node v (V7 n l (2*a)<|a+b)<|V7 n r (2*a)<|2*a+b
  |false=>.nil
def Af(n c:Nat)(d:String)(e a b:Nat)(P:bY):BT:=
 match iG b 5 with
 |true=>(((V7 n (big P) 1 0).set 3 λz=>aai c d e P).set 12 λz=>Rk a).set 39 λz=>Y0 b
 |false=>((V7 n (big P) 1 0).set 3 λz=>aai c d e P).set 12 λz=>Rk a
noncomputable def lf:Life:={}
def Cg:Env:={ scope:=pw.main.scope,locals:=mainNs,globals:=mainNs,cells:=[],code:=vr 13,frame:=I 14 }
def cE:Code:=.body (behindTheImports pw) Cg
noncomputable abbrev X9:List Frame:=[topFrame #[0,0,0,0]]
def wJ(i k:Nat):List Stmt:=(pw.main.body.drop i).take k
abbrev SS(T:bY->BT)(n a:Nat)(w:dY)(b:iq):uh:=#[T w.params,n,lf,#[],{},a,b]
def Ni(n:Nat)(T:bY->BT)(a b:Nat)(i k:Nat)(p:Pos)(w:dY)(c:iq):=gQ gR pw w 11 (I<|vr 6) 1 n (SS T a b w c)<|piecesOf (wJ i k) Cg cE p X9
def eI(n:Nat)(T:bY->BT)(a b:Nat)(i k:Nat)(p:Pos)(w:dY)(c:iq):=segRunT treeTable pw w 11 (I<|vr 6) 1 n (SS T a b w c)<|piecesOf (wJ i k) Cg cE p X9
theorem dG:@eI=@Ni:=by funext n T sz tk i k p w os;change segRunT treeTable _ _ _ _ _ _ _ _=gQ gR _ _ _ _ _ _ _ _;rw[rA,rB]
abbrev eU(T:bY->BT)(a b:Nat)(p:Pos)(w:dY)(c:iq):Option<|Flow×uh×Code×Pos:=I (Flow.next,SS T a b w c,cE,p)
def T0(P:bY):BT:=(Af 15 8 "__main__" 164 0 9 P).set 2 λz=>ob N<|dc [] 0
def T4(P:bY):BT:=Af 43 11 "gitcore.base" 194 6 0 P
def T5(P:bY):BT:=Af 55 12 "gitcore.base" 194 9 1 P
def T6(P:bY):BT:=Af 67 13 "gitcore.base" 194 12 2 P
def T7(P:bY):BT:=Af 79 14 "gitcore.base" 194 15 3 P
def T8(P:bY):BT:=Af 91 15 "gitcore.base" 194 18 4 P
def T15(P:bY):BT:=Af 139 22 "gitcore.base" 194 39 9 P
def T20(P:bY):BT:=Af 174 27 "gitcore.base" 194 54 9 P
def T27(P:bY):BT:=Af 203 33 "gitcore.delta" 438 57 9 P
def T28(P:bY):BT:=Af 233 34 "gitcore.delta" 438 60 9 P
def T29(P:bY):BT:=Af 283 35 "gitcore.delta" 438 63 9 P
def YJ(P:bY):BT:=Af 298 43 "gitcore.packs" 584 69 9 P
def T39(P:bY):BT:=Af 299 44 "gitcore.packs" 584 69 9 P
def T40(P:bY):BT:=Af 300 45 "gitcore.packs" 584 69 9 P
def T44(P:bY):BT:=Af 350 49 "gitcore.packs" 584 81 9 P
def T47(P:bY):BT:=Af 408 52 "gitcore.packs" 584 90 9 P
def T51(P:bY):BT:=Af 437 56 "gitcore.packs" 584 102 9 P
def T55(P:bY):BT:=Af 486 60 "gitcore.packs" 584 114 9 P
def T57(P:bY):BT:=Af 528 62 "gitcore.packs" 584 120 9 P
def T58(P:bY):BT:=Af 591 63 "gitcore.packs" 584 123 9 P
def T59(P:bY):BT:=Af 598 64 "gitcore.packs" 584 126 9 P
def T60(P:bY):BT:=Af 712 65 "gitcore.packs" 584 129 9 P
def T67(P:bY):BT:=Af 765 70 "law_nt0307_01" 1334 144 9 P
def T75(P:bY):BT:=big P
set_option backward.match.sparseCases true
abbrev J0(c:Nat)(w:dY)(s:uh)(t:CC):=gQ gR pw w 11 (I<|vr 6) 1 c s t
noncomputable abbrev kB(P:bY)(b:List UInt8):Int:=iW P ⟨(b.map pS).toArray⟩
abbrev TH(m:Sem gD)(p:Pos):CC:=#[m,cE,p,X9]
abbrev SV(T:BT)(n a:Nat)(b:iq):uh:=#[T,n,lf,#[],{},a,b]
noncomputable abbrev Wf(w:dY)(b:Bool):dY:=w.withFollow "special-get-raises" b
noncomputable def KB:Nat->List UInt8
 |1=>[99,111,109,109,105,116]
 |2=>[116,114,101,101]
 |3=>[98,108,111,98]
 |_=>[116,97,103]
abbrev kv(i:Nat):aq:=.bytes (KB i).toArray<|597+2*i
abbrev Y9(P:bY)(i:Nat):cZ:=#[kB P<|KB i,kv i,.int i<|598+2*i]
def TK(P:bY)(a:List cZ):BT:=(YJ P).ins 298<|ob (vt "dict")<|.dict a.toArray a.length
def Wc:CC:=piecesOf (wJ 38 1) Cg cE #[178,0,178,8] X9
def VS(i:Nat):aq×aq:=(kv i,.int i<|598+2*i)
noncomputable def FOR(l:List<|aq×aq):Sem Unit:=do
 for (k,v) in l do dictSet 298 k v
noncomputable def agb:List PySem.Expr:=[.Name "KIND_NUMBERS" #[179,0,179,12]]
def M7(m:Sem Unit):Sem gD:=Sem.wrap doneF deadEnd id id
 ((((((m.keep [.ref 298]).bind λz=>.pure (298:Addr)).bind λd=>.pure<|I d).bind λr=>match r with|some d=>.pure (.ref d) | A=>newDict).bind λv=>
   assignStores Cg v A ((assignEach agb Cg).map (·.2))).bind λf=>match f with | .next=>execs [] Cg|f=>.pure f)
noncomputable abbrev XN:Pos:=#[179,15,179,64]
theorem WO(w:dY)(b:Bool)(a:iq)(c:Nat):J0 (c+15) (Wf w b) (SS YJ 298 599 w a) Wc=J0 c (Wf w b) (SV (TK w.params []) 299 607 a) (TH (M7<|FOR [VS 1,VS 2,VS 3,VS 4]) XN):=by cases b<;>kernel_rfl
noncomputable abbrev afG(l:List aq):List aq:=[.ref 298]++l
variable{α:Type}
abbrev wr(m:Sem α)(F:α->Sem gD):Sem gD:=m.wrap F deadEnd id afG
theorem Ww(m:Sem Unit):M7 m=wr m λz=>M7<|.pure ():=by unfold M7;simp only[Sem.keep_eq_wrap,Sem.bind_eq_wrap,Ff];rfl
theorem vR(x:aq×aq)(l:List<|aq×aq)(Z:Sem gD):wr (FOR (x::l)) (λz=>Z)=wr (dictSet 298 x.1 x.2) λz=>wr (FOR l) λz=>Z:=by unfold FOR;simp only[fG,OS,Ff];rfl
set_option tactic.hygienic true in
theorem Ku(P:bY)(b:List UInt8):(decide (-(2^63:Int)<=kB P b)&&decide (kB P b<2^63))=J/\(kB P b==-1)=X:=by
 have fin:∀y:Int,-(2^61)<y->y<2^61->(-(2^63:Int)<=(if (y==-1)=J then -2 else y)/\(if (y==-1)=J then -2 else y)<2^63)/\(if (y==-1)=J then -2 else y)≠-1:=λy c a=>by
  split
  ·decide
  ·rename_i n;show#[#[lV<|fM (by decide) c,fM a<|by decide],λe=>n<|by rw[e];rfl]
 have key:∀x:Int,(-(2^63:Int)<=reduceHash x/\reduceHash x<2^63)/\reduceHash x≠-1:=λx=>by
  unfold reduceHash;split
  ·rename_i h;obtain⟨c,a⟩:=nj.mp h;have c:=of_decide_eq_true c;have a:=of_decide_eq_true a;split
   ·decide
   ·rename_i n;show#[#[c,a],λe=>n<|by rw[e];rfl]
  ·have a:(x.natAbs:Int)%(2^61-1)<2^61-1:=Int.emod_lt_of_pos _ (by decide);have d:0<=(x.natAbs:Int)%(2^61-1):=Int.emod_nonneg _ (by decide);show fin (if x<0 then -((x.natAbs:Int)%(2^61-1)) else (x.natAbs:Int)%(2^61-1)) ?_ ?_
   ·split
    ·show Int.neg_lt_neg<|f9 a<|Ux _<|by decide
    ·show f9 (by decide) d
   ·split
    ·show gJ (Int.neg_nonpos_of_nonneg d)<|by decide
    ·show f9 a<|Ux _<|by decide
 have k2:(-(2^63:Int)<=kB P b/\kB P b<2^63)/\kB P b≠-1:=by
  unfold kB iW;split
  ·decide
  ·show key _
 show#[?_,beq_eq_false_iff_ne.mpr k2.2];rw[decide_eq_true k2.1.1,decide_eq_true k2.1.2];rfl
theorem JC(P:bY)(b:List UInt8):nA (kB P b)=pure (kB P b):=by unfold nA;rw[if_pos (Ku P b).1,if_neg<|by rw[(Ku P b).2];show aD]
variable{β:Type}
section
variable (w:dY) (b:Bool) (os:iq) (T:BT) (n tk:Nat) (p:Pos)
theorem VI(a:Nat)(F:Int->Sem gD)(i:Nat)(c:i=1∨i=2∨i=3∨i=4):J0 (a+6) (Wf w b) (SV T n tk os) (TH (wr (pyHashByItsType<|kv i) F) p)=J0 a (Wf w b) (SV T n (tk+1) os) (TH (wr (nA<|kB w.params<|KB i) F) p):=by rcases c with rfl|rfl|rfl|rfl<;>cases b<;>kernel_rfl
theorem aej(c i:Nat)(a:List cZ)(G:Array cZ->Sem α)(M:α->Sem β)(F:β->Sem gD) :
  J0 (c+1) w (SV (TK w.params a) 299 tk os) (TH (wr ((dictEntries 298 (keyPart<|kv i)>>=G)>>=M) F) p)=J0 c w (SV (TK w.params a) 299 tk os) (TH (wr (G a.toArray>>=M) F) p):=by kernel_rfl
end
theorem M9{b:List cZ}{h:Int}:∀j∈placesWithHash b.toArray.size (λi=>Option.map (λx=>x.hash) b.toArray[i]?) h,∃e,b[j]?=I e/\(e.hash==h)=J:=λj a=>by
 unfold placesWithHash at a
 obtain⟨_,a⟩:=jo.mp a
 have a:=eq_of_beq a
 obtain⟨e,c,rfl⟩:=cB.mp a
 show#[e,by simpa using c,beq_self_eq_true _]
def ES(P:bY)(c:Nat):List cZ:=[Y9 P 1,Y9 P 2,Y9 P 3,Y9 P 4].take<|c-1
abbrev fw(P:bY)(c:Nat)(a:List Nat):Sem<|Option Nat:=dictWalkPlain 298 (kv c) (kB P<|KB c) (ES P c).toArray a
theorem Q6(w:dY)(b:Bool)(d:iq)(f g c j:Nat)(p:Pos)(r:List Nat)(M:Option Nat->Sem β)(F:β->Sem gD)(i:c=1∨c=2∨c=3∨c=4){e:cZ}(a:(ES w.params c)[j]?=I e)(h:(e.hash==kB w.params (KB c))=J) :
  J0 (g+7) (Wf w b) (SV (TK w.params<|ES w.params c) 299 f d) (TH (wr (fw w.params c (j::r)>>=M) F) p)=J0 g (Wf w b) (SV (TK w.params<|ES w.params c) 299 f d) (TH (wr (fw w.params c r>>=M) F) p):=by
 unfold fw dictWalkPlain;rw[fG,show(ES w.params c).toArray[j]?=I e from(List.getElem?_toArray ..).trans a];dsimp only;rw[if_pos h];clear h;rcases i with rfl|rfl|rfl|rfl
 ·cases a
 ·cases j with
  |zero=>cases a;cases b<;>kernel_rfl
  |succ j=>cases a
 ·cases j with
  |zero=>cases a;cases b<;>kernel_rfl
  |succ j=>cases j with
   |zero=>cases a;cases b<;>kernel_rfl
   |succ j=>cases a
 ·cases j with
  |zero=>cases a;cases b<;>kernel_rfl
  |succ j=>cases j with
   |zero=>cases a;cases b<;>kernel_rfl
   |succ j=>cases j with
    |zero=>cases a;cases b<;>kernel_rfl
    |succ j=>cases a
def CZ(w:dY)(N:Nat)(s:uh)(t:CC)(s':uh)(t':CC):Prop:=∃m,m<=N/\∀c,J0 (c+m) w s t=J0 c w s' t'
variable{t t':CC}{w:dY}{s s':uh}
theorem CZ.trans{N M:Nat}{e:uh}{d:CC}(a:CZ w N s t s' t')(b:CZ w M s' t' e d):CZ w (N+M) s t e d:=by obtain⟨m,f,g⟩:=a;obtain⟨k,h,i⟩:=b;show#[m+k,gP f h,λc=>?_];rw[show c+(m+k)=c+k+m by rw[iy m k,eE],g,i]
theorem CZ.of{n:Nat}(h:∀c,J0 (c+n) w s t=J0 c w s' t'):CZ w n s t s' t':=#[n,aE _,h]
theorem CZ.le{N M:Nat}(a:CZ w N s t s' t')(h:N<=M):CZ w M s t s' t':=let ⟨m,b,c⟩:=a;#[m,av b h,c]
theorem Rt(w:dY)(b:Bool)(d:iq)(f c:Nat)(p:Pos)(M:Option Nat->Sem β)(F:β->Sem gD)(g:c=1∨c=2∨c=3∨c=4)(a:List Nat)(h:∀j∈a,∃e,(ES w.params c)[j]?=I e/\(e.hash==kB w.params (KB c))=J) :
  CZ (Wf w b) (7*a.length) (SV (TK w.params<|ES w.params c) 299 f d) (TH (wr (fw w.params c a>>=M) F) p) (SV (TK w.params<|ES w.params c) 299 f d) (TH (wr (fw w.params c []>>=M) F) p):=by
 induction a with
 |nil=>show#[0,aE _,λy=>rfl]
 |cons j r k=>show(h j<|.head _).elim λe z=>((CZ.of λl=>Q6 w b d f l c j p r M F g z.1 z.2).trans<|k λi m=>h i<|.tail _ m).le<|ak<|iy ..
theorem Js{Z:List cZ}{h:Int}:(placesWithHash Z.toArray.size (λi=>Option.map (λx=>x.hash) Z.toArray[i]?) h).length<=Z.length:=by unfold placesWithHash;show av (fk _ _)<|by rw[cA];show aE _
theorem carried{P:bY}{c:Nat}(f:c=1∨c=2∨c=3∨c=4)(a:List Nat):(kv c::List.filterMap (λi=>Option.map (λx=>x.key) (ES P c).toArray[i]?) a).all carriedByValue=J:=by
 show cQ.mpr λx hx=>?_;rcases aC.mp hx with rfl|hx
 ·rfl
 ·obtain⟨i,_,b⟩:=oY.mp hx;obtain⟨e,d,rfl⟩:=cB.mp b;have:e∈[Y9 P 1,Y9 P 2,Y9 P 3,Y9 P 4]:=tV<|show e∈ES P c from dM (by simpa using d);rcases aC.mp this with rfl|this
  ·rfl
  rcases aC.mp this with rfl|this
  ·rfl
  rcases aC.mp this with rfl|this
  ·rfl
  rw[ah.mp this];rfl
theorem aen{w:dY}{b:Bool}{c:iq}{d:Nat}{p:Pos}{i:Nat}{a:List cZ}{G:Array cZ->Sem α}{M:α->Sem β}{F:β->Sem gD} :
  CZ (Wf w b) 1 (SV (TK w.params a) 299 d c) (TH (wr ((dictEntries 298 (keyPart<|kv i)>>=G)>>=M) F) p) (SV (TK w.params a) 299 d c) (TH (wr (G a.toArray>>=M) F) p):=CZ.of λe=>aej (Wf w b) c d p e i a G M F
theorem aar(w:dY)(b:Bool)(d:iq)(e c:Nat)(p:Pos)(F:Unit->Sem gD)(a:c=1∨c=2∨c=3∨c=4) :
  CZ (Wf w b) 26 (SV (TK w.params<|ES w.params c) 299 e d) (TH (wr (dictSetHashed 298 (kv c) (kB w.params<|KB c)<|.int c<|598+2*c) F) p) (SV (TK w.params<|ES w.params<|c+1) 299 e d) (TH (F ()) p):=by
 have f:(ES w.params c).length<=3:=av (Kl ..) (by rcases a with rfl|rfl|rfl|rfl<;>decide);unfold dictSetHashed dictFind;show CZ.trans (N:=1) (M:=25) (aen (i:=c)) ?_;dsimp only;rw[if_pos<|carried a _];show CZ.trans (N:=21) (M:=4) ((Rt w b d e c p _ F a _ M9).le ?_)<|CZ.of λg=>?_
 ·have:=Js (Z:=ES w.params c) (h:=kB w.params<|KB c);omega
 ·rcases a with rfl|rfl|rfl|rfl<;>cases b<;>kernel_rfl
theorem zL(w:dY)(b:Bool)(a:iq)(d c:Nat)(p:Pos)(Z:Sem gD)(f:c=1∨c=2∨c=3∨c=4) :
  CZ (Wf w b) 32 (SV (TK w.params<|ES w.params c) 299 d a) (TH (wr (dictSet 298 (kv c)<|.int c<|598+2*c) λz=>Z) p) (SV (TK w.params<|ES w.params<|c+1) 299 (d+1) a) (TH Z p):=by have e:dictSet 298 (kv c) (.int c<|598+2*c)=pyHashByItsType (kv c)>>=λh=>dictSetHashed 298 (kv c) h<|.int c<|598+2*c:=rfl;rw[e,OS,wr,Ff];show CZ.trans (N:=6) (M:=26) #[6,aE _,λg=>?_]<|aar w b a (d+1) c p (λz=>Z) f;show(VI w b a _ 299 d p g (λh=>wr (dictSetHashed 298 (kv c) h<|.int c<|598+2*c) λz=>Z) c f).trans ?_;rw[JC];rfl
theorem VN(w:dY)(b:Bool)(a:iq)(Z:Sem gD) :
  CZ (Wf w b) 128 (SV (TK w.params []) 299 607 a) (TH (wr (FOR [VS 1,VS 2,VS 3,VS 4]) λz=>Z) XN) (SV (TK w.params<|ES w.params 5) 299 611 a) (TH Z XN):=by rw[vR,vR,vR,vR];show(zL w b a 607 1 XN _<|.inl rfl).trans<|(zL w b a 608 2 XN _<|.inr<|.inl rfl).trans<|(zL w b a 609 3 XN _<|.inr<|.inr<|.inl rfl).trans<|zL w b a 610 4 XN Z<|.inr<|.inr<|.inr rfl
theorem aer(w:dY)(b:Bool)(a:iq)(k:Nat):J0 (k+30) (Wf w b) (SV (TK w.params<|ES w.params 5) 299 611 a) (TH (M7<|.pure ()) XN)=I (Flow.next,SV (T39 w.params) 299 612 a,cE,#[179,0,179,12]):=by cases b<;>kernel_rfl
theorem LN(w:dY)(b:Bool)(a:iq):segRunT treeTable pw (Wf w b) 11 (I<|vr 6) 1 173 (SS YJ 298 599 w a) Wc=I (Flow.next,SV (T39 w.params) 299 612 a,cE,#[179,0,179,12]):=by
 obtain⟨m,c,d⟩:=VN w b a<|M7<|.pure ();have e:173=128-m+30+m+15:=by rw[pD (128-m) 30 m,kW c]
 show Eq.trans (b:=J0 173 (Wf w b) (SS YJ 298 599 w a) Wc) ?_ ((congrArg (J0 · (Wf w b) (SS YJ 298 599 w a) Wc) e).trans<|(WO w b a _).trans ?_)
 ·change segRunT treeTable _ _ _ _ _ _ _ _=gQ gR _ _ _ _ _ _ _ _;rw[rA,rB]
 rw[Ww];show(d _).trans<|aer w b a _
theorem aeK(w:dY):(λa=>eI 173 YJ 298 599 38 1 #[178,0,178,8] w a)=λa=>eU T39 299 612 #[179,0,179,12] w a:=by
 show byRow2 "special-get-raises" (P:=λw=>(λa=>eI 173 YJ 298 599 38 1 #[178,0,178,8] w a)=λa=>eU T39 299 612 #[179,0,179,12] w a) (λw=>?_) (λw=>?_) w<;>funext a
 ·show LN w X a
 ·show LN w J a
set_option backward.match.sparseCases false
theorem agX(w:dY):(λa=>eI 278 T0 15 187 0 4 #[0,0,0,0] w a)=λa=>eU T4 43 228 #[6,0,9,24] w a:=by rw[dG];kernel_rfl
theorem af7(w:dY):(λa=>eI 214 T4 43 228 4 1 #[6,0,9,24] w a)=λa=>eU T5 55 244 #[10,0,11,8] w a:=by rw[dG];kernel_rfl
theorem agZ(w:dY):(λa=>eI 214 T5 55 244 5 1 #[10,0,11,8] w a)=λa=>eU T6 67 260 #[12,0,13,8] w a:=by rw[dG];kernel_rfl
theorem aga(w:dY):(λa=>eI 214 T6 67 260 6 1 #[12,0,13,8] w a)=λa=>eU T7 79 276 #[14,0,15,8] w a:=by rw[dG];kernel_rfl
theorem ahb(w:dY):(λa=>eI 214 T7 79 276 7 1 #[14,0,15,8] w a)=λa=>eU T8 91 292 #[16,0,17,8] w a:=by rw[dG];kernel_rfl
theorem ahi(w:dY):(λa=>eI 385 T8 91 292 8 7 #[16,0,17,8] w a)=λa=>eU T15 139 353 #[38,0,44,17] w a:=by rw[dG];kernel_rfl
theorem adm(w:dY):(λa=>eI 156 T15 139 353 15 5 #[38,0,44,17] w a)=λa=>eU T20 174 398 #[74,0,83,31] w a:=by rw[dG];kernel_rfl
theorem adv(w:dY):(λa=>eI 313 T20 174 398 20 7 #[74,0,83,31] w a)=λa=>eU T27 203 450 #[100,0,100,19] w a:=by rw[dG];kernel_rfl
theorem ad3(w:dY):(λa=>eI 317 T27 203 450 27 1 #[100,0,100,19] w a)=λa=>eU T28 233 491 #[101,0,110,34] w a:=by rw[dG];kernel_rfl
theorem aeI(w:dY):(λa=>eI 419 T28 233 491 28 1 #[101,0,110,34] w a)=λa=>eU T29 283 563 #[111,0,148,77] w a:=by rw[dG];kernel_rfl
theorem aek(w:dY):(λa=>eI 132 T29 283 563 29 9 #[111,0,148,77] w a)=λa=>eU YJ 298 599 #[178,0,178,8] w a:=by rw[dG];kernel_rfl
theorem aeZ(w:dY):(λa=>eI 363 T39 299 612 39 1 #[179,0,179,12] w a)=λa=>eU T40 300 625 #[180,0,180,12] w a:=by
 show byRow2 "special-get-raises" (P:=λw=>(λa=>eI 363 T39 299 612 39 1 #[179,0,179,12] w a)=λa=>eU T40 300 625 #[180,0,180,12] w a) (λw=>?_) (λw=>?_) w<;>
 ·rw[dG];kernel_rfl
theorem adb(w:dY):(λa=>eI 360 T40 300 625 40 4 #[180,0,180,12] w a)=λa=>eU T44 350 700 #[211,0,221,63] w a:=by rw[dG];kernel_rfl
theorem adO(w:dY):(λa=>eI 398 T44 350 700 44 3 #[211,0,221,63] w a)=λa=>eU T47 408 786 #[259,0,263,26] w a:=by rw[dG];kernel_rfl
theorem adJ(w:dY):(λa=>eI 143 T47 408 786 47 4 #[259,0,263,26] w a)=λa=>eU T51 437 839 #[312,0,321,18] w a:=by rw[dG];kernel_rfl
theorem aeG(w:dY):(λa=>eI 372 T51 437 839 51 4 #[312,0,321,18] w a)=λa=>eU T55 486 927 #[354,0,373,67] w a:=by rw[dG];kernel_rfl
theorem aef(w:dY):(λa=>eI 331 T55 486 927 55 2 #[354,0,373,67] w a)=λa=>eU T57 528 994 #[390,0,412,52] w a:=by rw[dG];kernel_rfl
theorem adA(w:dY):(λa=>eI 449 T57 528 994 57 1 #[390,0,412,52] w a)=λa=>eU T58 591 1105 #[413,0,490,55] w a:=by rw[dG];kernel_rfl
theorem aeq(w:dY):(λa=>eI 32 T58 591 1105 58 1 #[413,0,490,55] w a)=λa=>eU T59 598 1114 #[491,0,499,16] w a:=by rw[dG];kernel_rfl
theorem aeY(w:dY):(λa=>eI 686 T59 598 1114 59 1 #[491,0,499,16] w a)=λa=>eU T60 712 1271 #[500,0,595,70] w a:=by rw[dG];kernel_rfl
theorem ad9(w:dY):(λa=>eI 400 T60 712 1271 60 7 #[500,0,595,70] w a)=λa=>eU T67 765 1354 #[649,0,650,98] w a:=by rw[dG];kernel_rfl
theorem ad1(w:dY):(λa=>eI 231 T67 765 1354 67 8 #[649,0,650,98] w a)=λa=>eU T75 811 1418 #[728,0,759,116] w a:=by rw[dG];kernel_rfl
theorem dQ{a:iq}{n N:Nat}{T d:bY->BT}{e f b c:Nat}{i k:Nat}{p p':Pos}{r:aA}{rest:List Stmt}(h:(λa=>eI n T e f i k p w a)=λa=>eU d b c p' w a)
  (q:topRun treeTable pw w 11 (I<|vr 6) N (SS d b c w a).abs (restOf rest Cg cE p' X9)=I r):topRun treeTable pw w 11 (I<|vr 6) (n+N) (SS T e f w a).abs (restOf (wJ i k++rest) Cg cE p X9)=I r:=
 piece_app (segRun_of<|congrFun h a) q
theorem fin_run(w:dY)(a:iq):topRun treeTable pw w 11 (I<|vr 6) 2 (SS T75 811 1418 w a).abs (restOf [] Cg cE #[728,0,759,116] X9)=I (SS T75 811 1418 w a).abs:=by kernel_rfl
theorem JD:behindTheImports pw=wJ 0 4++(wJ 4 1++(wJ 5 1++(wJ 6 1++(wJ 7 1++(wJ 8 7++(wJ 15 5++(wJ 20 7++(wJ 27 1++(wJ 28 1++(wJ 29 9++(wJ 38 1++(wJ 39 1++(wJ 40 4++(wJ 44 3++(wJ 47 4++(wJ 51 4++(wJ 55 2++(wJ 57 1++(wJ 58 1++(wJ 59 1++(wJ 60 7++(wJ 67 8++([]))))))))))))))))))))))):=by kernel_rfl
theorem Wj(w:dY)(a:iq):topRun treeTable pw w 11 (I<|vr 6) (12+(1+(278+(214+(214+(214+(214+(385+(156+(313+(317+(419+(132+(173+(363+(360+(398+(143+(372+(331+(449+(32+(686+(400+(231+(2)))))))))))))))))))))))))) #[qf w.params,Array.mk [],XK,acv,a] (topStub pw)=I (SS T75 811 1418 w a).abs:=by show go_top (n:=12) (s':=(SS T0 15 187 w a).abs) (t':=#[denote treeTable cE,cE,#[0,0,0,0],X9]) (by kernel_rfl)<|piece_block (n:=1) (s':=(SS T0 15 187 w a).abs) (p':=#[0,0,0,0]) (by kernel_rfl) ?_;rw[JD];show dQ (agX w)<|dQ (af7 w)<|dQ (agZ w)<|dQ (aga w)<|dQ (ahb w)<|dQ (ahi w)<|dQ (adm w)<|dQ (adv w)<|dQ (ad3 w)<|dQ (aeI w)<|dQ (aek w)<|dQ (aeK w)<|dQ (aeZ w)<|dQ (adb w)<|dQ (adO w)<|dQ (adJ w)<|dQ (aeG w)<|dQ (aef w)<|dQ (adA w)<|dQ (aeq w)<|dQ (aeY w)<|dQ (ad9 w)<|dQ (ad1 w)<|fin_run w a
end
end Hd.Internal
namespace Hd.Internal
noncomputable section
open PySem PySem.W PySem.Calls PyProof.Rows
noncomputable def Kas:List Addr:=[0,1,2,3,29,35,36,38,39,51,52,63,64,75,76,87,88,99,100,106,107,111,112,118,119,123,124,130,131,137,138,144,145,151,152,158,159,165,166,172,173,181,187,188,194,195,197,198,210,216,217,223,224,225,227,228,245,246,252,253,254,260,261,267,268,274,275,277,278,288,289,295,296,297,298,299,305,306,312,313,319,320,328,334,335,341,342,344,345,357,363,364,370,371,377,378,384,385,387,388,398,399,400,406,407,413,414,415,421,422,428,429,435,436,449,450,456,457,459,460,470,471,477,478,484,485,491,492,505,506,512,513,519,520,522,523,540,541,547,548,554,555,561,562,568,569,575,576,582,583,585,586,596,597,605,609,610,616,617,623,624,630,631,637,638,644,645,649,650,656,657,663,664,670,671,677,678,684,685,691,692,696,697,703,704,706,707,717,718,722,723,736,737,738,744,745,747,748,758,759,763,764,768,769,775,776,780,781,787,788,794,795,799,800,804,805,809,810]
def KK(P:bY):Frag:=Kas.map λa=>(a,((big P).get a).getD f0)
theorem abf(P:bY):Kas=(KK P).map (·.1):=by rfl
def qv:Zp:={ pw with main:={ pw.main with body:=wJ 74 1 } }
noncomputable def Mf:List Str:=["_wall", "HEX_SIGNS", "GitError", "BadObject", "MissingObject", "BadBits", "BadDelta", "BadPack", "text_of", "octets_of", "hex_of", "big_endian", "be32", "at_big_endian", "at_be32", "put_size", "at_size", "put_offset", "at_offset", "CountingHasher", "DELTA_COPY_BIT", "DELTA_PLACE_OCTETS", "DELTA_LENGTH_OCTETS", "DELTA_LENGTH_BIT", "DELTA_NOUGHT_LENGTH", "DeltaCommand", "DeltaReader", "delta_commands", "apply_delta", "PACK_SIGN", "PACK_VERSION", "PACK_VERSIONS_READ", "PACK_HEAD_SIZE", "OFFSET_DELTA", "ID_DELTA", "KIND_NUMBERS", "NUMBER_KINDS", "pack_object_id", "entry_head", "at_entry_head", "PackEntry", "PackBuilder", "pack_closed", "write_pack", "pack_sorted", "pack_split", "pack_fit", "pack_patched", "Scanned", "pack_count", "pack_unpacked", "scan_entry", "scan_pack", "PackCache", "PackSettling", "pack_looked_up", "PackReader", "pack_reused", "pack_listing", "StoredCodec", "_law_draw", "_law_hex", "_law_world", "_law_entry", "_law_sorted", "_law_depth", "_law_is_refused", "_law_pack_right", "_law_split_right"].map cG
abbrev H1(P:bY):Heap:=absHeap (big P) 811 lf
abbrev Yf(s:aA):List<|Option Obj:=Kas.map s.heap.get?
abbrev Ya(w:dY):List<|Option Obj:=(KK w.params).map λp=>I p.2
theorem U5(w:dY):(fencedOpening treeTable pw w 20000).map (λs=>(s.heap,s.gens,s.drawn,s.toks))=I (qf w.params,Array.mk [],XK,acv):=
 boot_open (by kernel_rfl) (by decide +kernel) (λs=>by kernel_rfl) w
theorem W6(w:dY):((qf w.params).isNs mainGlobals&&(Array.mk []:Array GenState).size==0,(qf w.params).objs.size,(qf w.params).nsMap mainGlobals "__annotations__")=(J,11,I<|vr 6):=by kernel_rfl
theorem aa0(w:dY)(a:iq):(staticsOk (importedModules pw.main.body) (qf w.params) (H1 w.params)&&namesBound pw (H1 w.params)&&gensDone #[H1 w.params,#[],{},1418,a]&&laidKept (qf w.params) (H1 w.params))=J:=by kernel_rfl
theorem aaK(w:dY):Kas.map (H1 w.params).get?=Ya w:=by kernel_rfl
theorem aac(w:dY)(a:iq):openSeen qv Mf (importedModules pw.main.body) (recOk []) J #[H1 w.params,#[],{},1418,a]=openGood qv Mf:=by unfold openSeen openGood;show j9 ?_ (j9 ?_<|j9 ?_<|j9 ?_<|j9 ?_<|j9 ?_<|j9 ?_<|j9 ?_ ?_)<;>kernel_rfl
theorem left:LeftO pw qv Mf (recOk []) Yf Ya 20000:=
 LeftO.of_pieces (H₀:=qf) (H₁:=H1) (gs₀:=Array.mk []) (gs₁:=#[]) (d₀:=XK) (d₁:={}) (k₀:=acv) (k₁:=1418) (m₀:=11) (ann:=I<|vr 6) U5 W6 (λw a=>Wj w a) (by decide +kernel)
  λw=>funext λa=>j9 (aa0 w a)<|j9 (aac w a)<|aaK w
end
end Hd.Internal
namespace Mine.Internal
noncomputable section
open PySem PySem.W PySem.Calls PyProof.Rows
variable{a:Addr}{s:aA}{w:dY}
section
open Builtin Hd.Internal
section
open Sem (wp)
theorem lwc:leftWithCleanup #[]=X:=by unfold leftWithCleanup;rw[<- mH];rfl
theorem yN{prog:Zp}{w:dY}{t:Sem gD}{s:aA}{R:fP->aA->Prop}(d:s.asleep)(k:leftWithCleanup s.gens=X)
  (h:dZ (model prog w) callerA t (λfin s'=>∃f,fin=.done f/\(R (.ok f) s'/\s'.gens=#[])) (λe s'=>R (.error e) s'/\s'.gens=#[]) { s with gens:=#[] }) :
  ∃n r s',schedN (denote table) prog w n (.single s #[t,.builtin "claim.caller" {},default,[]])=.halted (outcomeOf r) { s' with gens:=s.gens }/\s'.heap.life=s.heap.life/\R r s':=by
 have l:wp (model prog w) #[.builtin "claim.caller" {},A,A,[],A] t (Sem.finPost (model prog w) #[.builtin "claim.caller" {},A,A,[],A] λr s'=>(R r s'/\s'.gens=#[])/\leftWithCleanup s'.gens=X) (λe Z s'=>(R (.error e) s'/\s'.gens=#[])/\leftWithCleanup s'.gens=X) default { s with gens:=#[] }:=by
  show ue _ _ t (λfin m s' q=>?_) (λe m s' q=>#[q,by rw[q.2];show lwc]) default _<|h _ default caller_in #[by decide +kernel,λx o=>(cO o)]
  obtain⟨f,rfl,a,b⟩:=q
  show#[#[a,b],by rw[b];show lwc]
 obtain⟨n,r,c,p,v,g⟩:=(wp_iff_halts ..).mp l
 obtain⟨i,j,y,z⟩:=runNI_real _ _ _ p<|afC r
 obtain rfl:i=c:=aA.eq_of_forget_eq y g
 show#[n,r,i,sched_gens (s:={ s with gens:=#[] }) k j (afC r) g B z d,runN_life (s:={ s with gens:=#[] }) _ _ _ j,v]
theorem P6{R i t C:aq->Prop}{A D j E:Prop}{S k T:Addr->Prop}{U:Addr->Obj->Prop}{V:Obj->Oq->Prop}{W:Oq->Prop}{F l:Prop}
  (h:(∃v,R v/\A/\t v/\C v/\D/\E)∨∃e ob cls,S e/\U e ob/\V ob cls/\W cls/\T e/\F) (m:∀v,R v->i v) (n:D->j) (o:∀e,S e->k e) (p:F->l) :
  (∃v,i v/\A/\t v/\C v/\j/\E)∨∃e ob cls,k e/\U e ob/\V ob cls/\W cls/\T e/\l:=
 h.imp (λq=>by obtain⟨v,a,b,c,d,e,f⟩:=q;show#[v,m v a,b,c,d,n e,f]) λr=>by obtain⟨e,ob,cls,a,b,c,d,f,g⟩:=r;show#[e,ob,cls,o e a,b,c,d,f,p g]
theorem D7{c:ClaimW}{tree:List aq->Sem gD}{w:dY}{free:Addr->Prop}{gens:Prop}{h:Heap->Prop}(H:s.asleep)(I:s.gens=#[])
  (m:∀args,c.pre args=aB->Om args=aB->∀ord:List cZ->List cZ,(∀l,(ord l).Perm l)->∃vs g,layAllW c.records (classAt s.heap) w.params ord args s=ae (vs,g)/\
    dZ (model c.prog w) callerA (tree vs) (λfin s'=>∃f,fin=.done f/\(c.Ends s args vs g (.ok f) s'/\s'.os=s.os/\s'.gens=#[]/\h s'.heap)) (λe s'=>c.Ends s args vs g (.error e) s'/\s'.os=s.os/\s'.gens=#[]/\h s'.heap) g) :
  c.CallFrom (λvs=>#[tree vs,.builtin "claim.caller" {},default,[]]) w free gens h s:=by
 intro args J K ord L;show hd λT z=>?_;obtain⟨vs,g,D,n⟩:=m args J K ord L;have j:=layAllW_rest _ _ _ D;have F:g.gens=#[]:=j.1.trans I;obtain⟨k,r,s',p,q,A,B,C⟩:=yN (prog:=c.prog) (w:=w) (t:=tree vs) (s:=g) (R:=λr s'=>c.Ends s args vs g r s'/\s'.os=s.os/\h s'.heap)
  (aA.asleep_of_life j.2.2.2 H) (by rw[F];show lwc)
  (by rw[show({ g with gens:=#[] }:aA)=g by rw[<- F]];show dK n (λZ Z M=>by obtain⟨f,e,a,b,d,k⟩:=M;show#[f,e,#[a,b,k],d]) λZ Z Q=>by obtain⟨a,b,d,k⟩:=Q;show#[#[a,b,k],d])
 show z #[vs,g,D,k,_,_,p,P6 A (λv e=>by rw[e];rfl) (λd b o y Z=>d b o y) (λv e=>by rw[e];rfl) λd b o y Z=>d b o y,(λZ i x U=>by rw[<- U];show congrArg (·[i]?) j.1),C,congrArg Life.seen<|q.trans j.2.2.2,aA.rest_eq B]
noncomputable abbrev LW:OpenLaw:=tB
abbrev RW:OpenRow:=LW.row
def Walk:Prop:=∀(w:dY) (s₀ s₁),(KK w.params).In s₁.heap->∀(args:List WData) (Xu) (as:List Addr),RW.toRowW.claim.pre args=J->Om args=J->Laid RW.toRowW.records w s₀ s₁ args Xu as->WellAll w.params s₁.heap Xu args->(∀a∈as,(a==sysModules)=X)->
 dZ (model RW.prog w) callerA (call (.ref 810) Xu) (λv s'=>GoodW RW.toRowW.claim (classAt s₀.heap) (By s₀.heap) args s₁ (.ok<|.ret v) s') (λe s'=>GoodW RW.toRowW.claim (classAt s₀.heap) (By s₀.heap) args s₁ (.error e) s') s₁
theorem aaX(P:bY):nsIn (KK P) mainNs RW.name=I (I<|.ref 810):=by kernel_rfl
theorem M6(said:RW.wellSaid=J)(U':RW.toRowW.promised)(call:Walk):RW.Holds:=by
 show#[said,U',?_];obtain⟨C,hu,F,H,hm⟩:=frees_parts (r:=RW.toRowW) (by decide +kernel);show#[#[#[rfl,rfl,rfl,rfl,rfl,by decide +kernel],by decide +kernel,rfl],U'.witness,λw=>#[(left.behind (XP:=λ_ h=>RecFacts [] h) (λs I=>recFacts_of I) (by decide +kernel) w).1,λd Zh=>?_]];obtain⟨l,hf,J',s,Y,hz,A,hg,c,y⟩:=(left.behind (XP:=λ_ h=>RecFacts [] h) (λs I=>recFacts_of I) (by decide +kernel) w).2 d Zh;have Z:Ground qv Mf [] (λ_ _=>True) w s (s.heap.nsMap mainGlobals) (s.heap.nsMap builtinsNs) s.heap:=#[c.T,c.B,c.D,c.TE,c.TD,c.W,trivial,c.cls,c.has,c.apart,c.once,c.K];have hT':=Y;obtain⟨a,M,U,hk⟩:∃a:DefRec×List (Str×PySem.Expr),defOf qv RW.name=ae a/\RW.prog.theDef RW.name=ae (a.1.params,a.1.body,a.1.scope)/\kwWritten? a.1.params.kwonlyargs a.1.params.kw_defaults=ae a.2:=#[_,rfl,rfl,rfl];show#[l,hf,J',s,Y,λn hn=>?_,c.X.1,c.X.2.1,?_]
 ·rw[ah.mp hn];show pinned_of_view hg Z M U hk
 have A:=Array.eq_empty_of_size_eq_zero<|beq_iff_eq.mp A;have G:=c.X.ground Z;show D7 (tree:=λvs=>do match <- nsGet mainNs RW.name with
   |some f=>do ret (<- PySem.call f vs)
   |none=>unsupported "claim.caller:no-such-global") hz A λargs N5 Ob ord Q=>?_
 obtain⟨⟨vs,b⟩,k⟩:=bQ.mp<|layAllW_isSome G.has args RW.toRowW.args s (pre_splitW N5).1;have i:=layAllW_keeps _ _ _ k;have R:=layAllW_rest _ _ _ k;obtain⟨as,m,p,j⟩:=reads_layAllW Q _ _ _ k Ob b.heap λ_ _ e=>e;have L:Laid [] w s b args vs as:=#[#[ord,Q,k],m,p,j,i,R.1.trans A,R.2.2.1];have t:=λa o e=>i _ _<|(Frag.in_of (abf w.params) y) a o e;have h:=call w s b t args vs as N5 Ob L (well_layAllW Q args s _ k _ λ_ _ e=>e)
  (λa F=>beq_eq_false_iff_ne.mpr λe=>by have:=(p.2.2 a F).1;subst e;show absurd G.low<|cH.mpr this)
 have g1:({ b with gens:=#[] }:aA)=b:=by rw[<- L.gens]
 have fin:∀r d,GoodW RW.toRowW.claim (classAt s.heap) (By s.heap) args b r d->RW.toRowW.claim.Ends s args vs b r d/\d.os=s.os/\d.gens=#[]/\(RW.writes=J->namesKept RW.prog RW.keeps s.heap d.heap/\∀x∈RW.toRowW.claim.records,∀a,classAt s.heap x.1=ae a->recordClass d.heap a x.1 (x.2.map (·.1))=J):=λr d g=>by have z:=GoodW.endsN C B (ident_freeW hu F H) m j R.2.2.1 (by rw[g1];show g);show#[z.1,z.2.1,z.2.2,λq=>(gE q)]
 show#[vs,b,k,aL<|cW<|(looks_nsIn t<|aaX w.params).here ?_];show aL<|dK h (λv d g=>bB #[_,rfl,fin _ _ g]) λe d g=>fin _ _ g
end
def Uh:List Me:=[
 #[107,107,["octets"],X,A,1,1,[],NJ],
 #[112,112,["text", "numbers", "number"],X,A,3,1,[],GZ],
 #[119,119,["octets", "found", "octet"],X,A,3,1,[],PK],
 #[124,124,["number", "many"],X,A,2,2,[],Ep],
 #[131,131,["number"],X,A,1,1,[],ZN],
 #[138,138,["octets", "at", "many", "number", "octet"],X,A,5,3,[],yZ],
 #[145,145,["octets", "at"],X,A,2,2,[],NT],
 #[152,152,["number", "found"],X,A,2,1,[],J6],
 #[159,159,["octets", "at", "number", "shift", "octet"],X,A,5,2,[],M5],
 #[166,166,["number", "found"],X,A,2,1,[],Ec],
 #[173,173,["octets", "at", "number", "octet"],X,A,4,2,[],G2],
 #[198,188,["self", "size"],X,I 198,2,2,[(.int 4)],rG],
 #[195,195,["self", "octets", "content"],X,A,3,2,[],qA],
 #[228,217,["self", "place", "many", "octets"],X,I 228,4,4,[.none],t6],
 #[224,224,["self"],X,A,1,1,[],rh],
 #[278,246,["self", "delta", "at"],X,I 278,3,2,[],uG],
 #[253,253,["self"],X,A,1,1,[],rF],
 #[261,261,["self", "found"],X,A,2,1,[],t7],
 #[275,275,["self", "first", "begun", "place", "many"],X,A,5,1,[],rK],
 #[289,289,["delta", "reader", "found", "told", "command"],X,A,5,1,[],xR],
 #[296,296,["base", "delta", "made", "command"],X,A,4,2,[],BR],
 #[306,306,["hasher", "kind", "content"],X,A,3,3,[],xG],
 #[313,313,["number", "size", "piece", "out"],X,A,4,2,[],EX],
 #[320,320,["octets", "at", "piece", "number", "size", "shift"],X,A,6,2,[],yY],
 #[345,335,["self", "oid", "kind", "content", "base", "delta"],X,I 345,6,6,[.none,.none,.none],qk],
 #[342,342,["self"],X,A,1,1,[],sX],
 #[388,364,["self", "hasher", "codec", "by_offset"],X,I 388,4,4,[(.bool J)],uN],
 #[371,371,["self", "entry", "number", "packed", "back"],X,A,5,2,[],qZ],
 #[378,378,["self", "entry", "piece", "place"],X,A,4,2,[],vJ],
 #[385,385,["self"],X,A,1,1,[],tZ],
 #[399,399,["count", "body", "hasher", "whole"],X,A,4,3,[],B5],
 #[407,407,["entries", "hasher", "codec", "by_offset", "builder", "entry"],X,A,6,4,[(.bool J)],D8],
 #[414,414,["entries", "by_id", "entry", "done", "found", "first", "stack", "waits", "here"],X,A,9,1,[],jm],
 #[422,422,["entries", "hasher", "codec", "most", "by_offset", "contents", "packs", "builder", "entry", "content", "chosen", "length"],X,A,12,5,[(.bool J)],nM],
 #[429,429,["entry", "content", "builder"],X,A,3,3,[],JI],
 #[436,436,["base", "delta", "content", "words", "e"],X,A,5,2,[],Aa],
 #[460,450,["self", "at", "number", "size", "base_at", "base_id", "data", "behind"],X,I 460,8,8,[],AH],
 #[457,457,["self"],X,A,1,1,[],uA],
 #[471,471,["octets", "hasher", "end"],X,A,3,2,[],DA],
 #[478,478,["codec", "octets", "at", "found", "words", "e"],X,A,6,3,[],yW],
 #[485,485,["body", "at", "hasher", "codec", "starts", "number", "size", "spot", "base_at", "base_id", "back", "data", "after"],X,A,13,5,[],Ez],
 #[492,492,["octets", "hasher", "codec", "count", "body", "found", "starts", "at", "one"],X,A,9,3,[],Gi],
 #[523,506,["self", "most"],X,I 523,2,2,[],xd],
 #[513,513,["self", "at", "found"],X,A,3,2,[],zc],
 #[520,520,["self", "at", "kind", "content", "eldest", "gone"],X,A,6,4,[],yU],
 #[586,541,["self", "scanned", "hasher", "lookup"],X,I 586,4,4,[],tY],
 #[548,548,["self", "one"],X,A,2,1,[],oK],
 #[555,555,["self", "one", "oid"],X,A,3,1,[],pA],
 #[569,569,["self", "at", "kind", "content", "depth", "stack", "oid", "later"],X,A,8,5,[],jA],
 #[576,576,["self", "stack", "places", "kind", "content", "depth", "at", "made", "e"],X,A,9,6,[],oH],
 #[707,610,["self", "octets", "hasher", "codec", "lookup", "cache"],X,I 707,6,6,[.none,(.int 1048576)],vC],
 #[617,617,["self"],X,A,1,1,[],rJ],
 #[624,624,["self", "at", "found"],X,A,3,2,[],rI],
 #[631,631,["self", "at", "facts"],X,A,3,2,[],sj],
 #[638,638,["self", "at", "chain", "seen", "found", "one", "kind", "content"],X,A,8,2,[],mW],
 #[645,645,["self", "one", "facts"],X,A,3,2,[],q8],
 #[650,650,["self"],X,A,1,1,[],wX],
 #[657,657,["self", "at"],X,A,2,2,[],uR],
 #[664,664,["self", "oid"],X,A,2,2,[],uL],
 #[671,671,["self", "at"],X,A,2,2,[],tu],
 #[678,678,["self", "at"],X,A,2,2,[],rH],
 #[685,685,["self", "at", "one"],X,A,3,2,[],sJ],
 #[692,692,["self", "at"],X,A,2,2,[],t8],
 #[704,704,["self", "oid", "at", "kind", "content"],X,A,5,1,[],uJ],
 #[718,718,["reader", "wanted", "places", "oid", "at", "found", "base", "kind", "content"],X,A,9,2,[],um],
 #[723,723,["reader", "rows", "oid", "at", "one", "words", "depths", "depth", "what"],X,A,9,1,[],jB],
 #[737,737,["self", "octets"],X,A,2,2,[],uQ],
 #[745,745,["self", "octets", "at", "size", "begin"],X,A,5,3,[(.int 0)],sE],
 #[759,759,["deck", "below", "turn", "cells", "cell", "mixed"],X,A,6,2,[],Iv],
 #[764,764,["octets"],X,A,1,1,[],NF],
 #[769,769,["deck", "hasher", "rows", "k", "content", "base"],X,A,6,2,[],Gd],
 #[776,776,["rows", "number", "is_whole", "is_beside", "oid", "content", "base", "delta"],X,A,8,4,[],ye],
 #[781,781,["rows", "order", "found", "number", "chain", "at"],X,A,6,2,[],vB],
 #[788,788,["rows", "number", "there", "count"],X,A,4,3,[],FE],
 #[795,795,["way", "some", "hasher", "found"],X,A,4,3,[],xq],
 #[800,800,["rows", "numbers", "pack", "reader", "told", "oid", "at", "number", "lines", "depths", "end", "content", "base", "depth", "size", "raw", "row", "count"],X,A,18,4,[],fK],
 #[805,805,["rows", "order", "entries", "most", "hasher", "codec", "left", "last", "pack", "reader", "many", "numbers", "some"],X,A,13,6,[],pP],
 #[810,810,["script", "deck", "hasher", "codec", "rows", "left", "order", "is_beside", "entries", "due", "pack", "reader", "some", "kept", "one", "other", "lone"],X,A,17,1,[],adE],
 #[748,0,[],{ bare:=J,cls:=I 748,n:=0,np:=0,dv:=[],body:=.nil }]]
theorem NZ(P:bY):Uh.all (UX<|KK P)=J:=by kernel_rfl
abbrev F3(w:dY):Pw:=#[pw,w,KK w.params]
theorem XR(P:bY)(h:Heap)(X:(KK P).In h):h.NoLimit:=by
 have e:h.get? cStatics=I (o2 P):=X _ _ (by kernel_rfl);show#[_,.of_isNs ?_,?_]
 ·unfold Heap.isNs;rw[e];kernel_rfl
 ·unfold Heap.nsMap;rw[e];kernel_rfl
theorem Yx{W:Pw}{o:Obj}(h:W.K.lookup a=I o):Frag.R W.K a=.fz o:=by unfold Frag.R;rw[h]
theorem abF(P:bY)(b:List UInt8):hashW P (.bytes b)=kB P b:=by change reduceHash (iW P ⟨b.toArray.map (·.toNat)⟩)=_;rw[List.map_toArray];change reduceHash (kB P b)=kB P b;unfold reduceHash;rw[if_pos (Ku P b).1,if_neg<|by rw[(Ku P b).2];show aD]
theorem FH{b:Bool}{d:List Ky}{c:List P}{Z:List cZ}{n:Nat}{kvs:List<|Ky×aq}(l:(KK w.params).lookup a=I (ob (.type "dict")<|dc Z n))(f:a≠sysModules)(g:∀e∈Z,∃k,(jh (F3 w) b).is k e.key=J/\e.hash=(jh (F3 w) b).hash k)
  (h:Pairs (jh (F3 w) b) Z kvs) (nd:(kvs.map (·.1)).Nodup) (i:d=kvs.map (·.1)) (j:c.length<=gr) (r:cC (PR (F3 w)<|Frag.R<|KK w.params) c (kvs.map (·.2))):PR (F3 w) (Frag.R<|KK w.params) (.mw b d c)<|.ref a:=
 .mw (Yx (W:=F3 w) l) f #[Z.toArray,n,#[rfl,rfl,rfl],rfl,λe m=>g e<|by simpa using m,h,nd] i j r
theorem Ll(w:dY)(k:List UInt8)(t:Tok)(v:aq):∃q,(jh (F3 w) J).is q (eb w.params k t v).key=J/\(eb w.params k t v).hash=(jh (F3 w) J).hash q:=#[.b k,by change isBytes k (.bytes k.toArray t)=J;simp[isBytes],(abF w.params k).symm]
theorem JH(w:dY):PR (F3 w) (Frag.R<|KK w.params) (.mw J [.b [99,111,109,109,105,116],.b [116,114,101,101],.b [98,108,111,98],.b [116,97,103]] [.int 1,.int 2,.int 3,.int 4])<|vr 298:=by
 show FH (kvs:=[(.b [99,111,109,109,105,116],.int 1 600),(.b [116,114,101,101],.int 2 602),(.b [98,108,111,98],.int 3 604),(.b [116,97,103],.int 4 606)]) (Z:=[eb w.params [99,111,109,109,105,116] 599<|vi 1 600,eb w.params [116,114,101,101] 601<|vi 2 602,eb w.params [98,108,111,98] 603<|vi 3 604,eb w.params [116,97,103] 605<|vi 4 606]) (n:=4) (by kernel_rfl) (by decide) ?_ ?_ (by decide +kernel) B (by decide)<|.cons (.int _ _)<|.cons (.int _ _)<|.cons (.int _ _)<|.cons (.int _ _) .nil
 ·show bU.mpr #[Ll ..,bU.mpr #[Ll ..,bU.mpr #[Ll ..,all1<|Ll ..]]]
 ·show .cons (by kernel_rfl) B<|.cons (by kernel_rfl) B<|.cons (by kernel_rfl) B<|.cons (by kernel_rfl) B .nil
theorem Dq(w:dY):PR (F3 w) (Frag.R<|KK w.params) (.mw X [.i 1,.i 2,.i 3,.i 4] [.bytes [99,111,109,109,105,116],.bytes [116,114,101,101],.bytes [98,108,111,98],.bytes [116,97,103]])<|vr 299:=by
 show FH (kvs:=[(.i 1,.bytes [99,111,109,109,105,116].toArray 613),(.i 2,.bytes [116,114,101,101].toArray 615),(.i 3,.bytes [98,108,111,98].toArray 617),(.i 4,.bytes [116,97,103].toArray 619)]) (Z:=[#[1,vi 1 612,vy [99,111,109,109,105,116] 613],#[2,vi 2 614,vy [116,114,101,101] 615],#[3,vi 3 616,vy [98,108,111,98] 617],#[4,vi 4 618,vy [116,97,103] 619]]) (n:=4) (by kernel_rfl) (by decide) ?_ ?_ (by decide +kernel) B (by decide)<|.cons (.bytes _ _<|by decide)<|.cons (.bytes _ _<|by decide)<|.cons (.bytes _ _<|by decide)<|.cons (.bytes _ _<|by decide) .nil
 ·show bU.mpr #[#[.i 1,by kernel_rfl,by kernel_rfl],bU.mpr #[#[.i 2,by kernel_rfl,by kernel_rfl],bU.mpr #[#[.i 3,by kernel_rfl,by kernel_rfl],all1 #[.i 4,by kernel_rfl,by kernel_rfl]]]]
 ·show .cons (by kernel_rfl) B<|.cons (by kernel_rfl) B<|.cons (by kernel_rfl) B<|.cons (by kernel_rfl) B .nil
theorem ad6(w:dY)(j:Nat)(x:String)(p:P)(b:zW[j]?=I x)(c:RJ[j]?=I p):∃v,mq (KK w.params) (cG x)=I v/\PR (F3 w) (Frag.R<|KK w.params) p v:=by have a:cC (λ(x:String) p=>∃v,mq (KK w.params) (cG x)=I v/\PR (F3 w) (Frag.R<|KK w.params) p v) zW RJ:=.cons #[_,by kernel_rfl,.str _ 196<|by decide]<|.cons #[_,by kernel_rfl,.int _ 440]<|.cons #[_,by kernel_rfl,.int _ 448]<|.cons #[_,by kernel_rfl,.bytes _ 586<|by decide]<|.cons #[_,by kernel_rfl,.int _ 588]<|.cons #[_,by kernel_rfl,.tup (a:=297) (n:=0) (Yx (W:=F3 w)<|by kernel_rfl) (by decide)<|.cons (.int 2 590)<|.cons (.int 3 591) .nil]<|.cons #[_,by kernel_rfl,.int _ 593]<|.cons #[_,by kernel_rfl,.int _ 595]<|.cons #[_,by kernel_rfl,.int _ 597]<|.cons #[_,by kernel_rfl,JH w]<|.cons #[_,by kernel_rfl,Dq w]<|.cons #[_,by kernel_rfl,.int _ 444]<|.cons #[_,by kernel_rfl,.int _ 442]<|.cons #[_,by kernel_rfl,.int _ 446] .nil;show(a.get b).elim λy h=>aV (h.1.symm.trans c)▸h.2
noncomputable def r36:Me:=#[36,36,["self", "told"],{ cls:=A,n:=2,np:=2,dv:=[],body:=.cons .dead .nil }]
theorem WN(P:bY):∃b,Jb (KK P) 36 b:=by
 obtain⟨b,hd⟩:∃b,(o36 P).data=.func b:=#[_,rfl];have d:(KK P).lookup 36=I (o36 P):=by kernel_rfl
 have e:∀{g:Type} (f:i8->g) (x),(match (o36 P).data with | .func b=>f b|_=>x)=f b:=λf x=>by rw[hd]
 obtain⟨body,c,_⟩:=Yi #[_,d,hd]<|(e (fnB (KK P) r36) J).symm.trans (by kernel_rfl);have i:b.body=.stmts [.Assign [.Attribute (.Name mR #[9,8,9,12]) jG #[9,8,9,17]] (.Name jG #[9,20,9,24]) #[9,8,9,24]]:=(e (·.body)<|.stmts []).symm.trans (by kernel_rfl);obtain rfl:body=_:=by have:=c.body.symm.trans i;injection this
 show aZ ((e (λb=>xo b.params&&(b.params.args.map (·.arg)==[mR,jG]&&(b.scope.names.lookup mR==I .local&&(b.scope.names.lookup jG==I .local&&b.defaults==.ref 29)))) J).symm.trans<|by kernel_rfl) λj h=>aZ h λk h=>aZ h λl h=>aZ h λm n=>#[b,#[_,_,c,_,_,_,_,rfl],cI l,cI m,#[_,_,_,vz j,cI k],#[29,_,_,cI n,(by kernel_rfl:(KK P).lookup 29=I (o29 P)),rfl]]
theorem adH(w:dY):ab3 (F3 w) BP:=by obtain⟨b,h⟩:=WN w.params;show#[#[#[_,_,_,39,(by kernel_rfl:_=I (Hd.Internal.aex w.params)),rfl,rfl,rfl,rfl],by kernel_rfl,by kernel_rfl,by kernel_rfl,by kernel_rfl,by kernel_rfl,by kernel_rfl,by kernel_rfl,by kernel_rfl],by kernel_rfl,by kernel_rfl,#[36,b,h,by kernel_rfl,by kernel_rfl],by kernel_rfl,XR w.params]
theorem ZS(w:dY):Mod<|F3 w:=#[XR w.params,#[o1 w.params,by kernel_rfl],ad6 w,adH w]
noncomputable def R1(h:Heap):RM:=λa=>match h.get? a with
 |some o=>.fz o
 |none=>.iP
theorem KP{h:Heap}{o:Obj}(e:h.get? a=I o):R1 h a=.fz o:=by unfold R1;rw[e]
noncomputable abbrev c1(s:aA):Cx:=#[R1 s.heap,s.gens,s.drawn,s.os,[]]
noncomputable abbrev g1(s:aA):G:=#[R1 s.heap,[],#[[],[]],s]
theorem ahO{W:Pw}(X:W.K.In s.heap):Inv #[W,c1 s,Fm.nil] (g1 s) where
 ok a:=by
  change(R1 s.heap a).ok<|s.heap.get? a
  unfold R1
  induction e:s.heap.get? a with
  |none=>trivial
  |some o=>show B
 kF a o e:=KP<|X _ _ e
 len:=rfl
 nd:=bV
 yo a ha:=cO ha
 hr i o e:=nomatch (e)
 zN:=bV
 own a ha:=cO ha
 zw:=bV
 lr:=#[rfl,λd hd=>(cO hd),λp b=>(cO b),λi x l e=>(nomatch (show(A:Option<|Str×Option Nat)=I _ from e)),λi x e=>(nomatch (show(A:Option<|Str×Option Nat)=I _ from e))]
 base a _:=rfl
 gens:=rfl
 drawn:=rfl
 os:=rfl
 pre:=bH _
theorem NV:Fj (3*20) callerA:=#[rfl,rfl,by decide +kernel,by decide +kernel]
set_option tactic.hygienic true in
theorem U0(f:∀ns:List Int,ns.length<=63->BG (uv Uh) 20 810 [.p<|.lst<|ns.map .int] [] λr Z=>r=.ok (.p<|.bool J)):Walk:=by
 intro w k c X args K M n q L g i;have j:=L.reads;wrow_args n q j g i;rename_i ns _ _ _ _ _ t x a vs y z _ _ _ T _ B _;have C:=PySem.W.X.script_obj L z;have s:=ahO (W:=F3 w) X;have m:ns.length<=63:=by lia
 show oB (OY (ZS w) (aaM<|NZ w.params) 20 810 NV #[[],rfl,λe D=>(cO D)] s (.cons (show VR (F3 w) (g1 c) (.p<|.lst<|ns.map .int) (.ref a)from PR.lst (KP C) (by rw[ay];show av m<|by decide)<|Dw T) .nil) (f ns m) (λv F u Z R H d=>?_) λcc F Q e l Z Z Z d=>by cases d);injection d with d;subst d;obtain rfl:=PR.zG H;show#[.inl #[_,.bool J,[],rfl,?_,.bool J,?_,λZ=>#[bV,λa h=>(cO h)]],λb o e=>?_,R.os,R.gens.trans L.gens]
 ·show λcls=>rfl
 ·wrow_post
 ·have:=R.base b (by change(R1 c.heap b).stable=J;rw[KP e];rfl);show R.fh<|this.trans<|KP e
theorem said:LW.wellSaid=J:=(congrFun Fast.te9446332074065402090 _).trans<|by kernel_rfl
theorem RO:RW.wellSaid=J:=row_said said
end
end
end Mine.Internal
namespace Mine.Internal
noncomputable section
open PySem PySem.W
noncomputable def lq5(a b c d e:Option V):List<|Option V:=[a,b,c,d,e]
noncomputable def wI(a b c d e f:Option V):List<|Option V:=[a,b,c,d,e,f]
noncomputable def lq7(a b c d e f g:Option V):List<|Option V:=[a,b,c,d,e,f,g]
noncomputable def lq8(a b c d e f g h:Option V):List<|Option V:=[a,b,c,d,e,f,g,h]
noncomputable def wG(a b c d e f g h i:Option V):List<|Option V:=[a,b,c,d,e,f,g,h,i]
noncomputable def ZM(a b c d e f g h i j:Option V):List<|Option V:=[a,b,c,d,e,f,g,h,i,j]
noncomputable def yS(a b c d e f g h i j k l m:Option V):List<|Option V:=[a,b,c,d,e,f,g,h,i,j,k,l,m]
noncomputable def afX(a b c d e f g h i j k l m n:Option V):List<|Option V:=[a,b,c,d,e,f,g,h,i,j,k,l,m,n]
noncomputable def lT(d e f g h i j k l m n o p q a b c:Option V):List<|Option V:=[d,e,f,g,h,i,j,k,l,m,n,o,p,q,a,b,c]
noncomputable def vN(e f g h i j k l m n o p q r a b c d:Option V):List<|Option V:=[e,f,g,h,i,j,k,l,m,n,o,p,q,r,a,b,c,d]
noncomputable def afT(f g h i j k l m n o p q r s a b c d e:Option V):List<|Option V:=[f,g,h,i,j,k,l,m,n,o,p,q,r,s,a,b,c,d,e]
theorem LVs(k:Nat):∃f:gI,f=BG (uv Uh) k:=#[_,rfl]
@[irreducible]def LV(k:Nat):gI:=Classical.choose<|LVs k
theorem YE(k:Nat):LV k=BG (uv Uh) k:=by unfold LV;show BI<|LVs k
variable{Q:gT->List O->Prop}
theorem aaB(k:Nat){f:Nat}{vs:List V}{a:List O}(h:bO (uv Uh f) λd=>d.spec (LV k) vs a Q):LV (k+1) f vs a Q:=by rw[YE]at h ⊢;show h
noncomputable def O.tag:O->Nat
 |.list _=>0
 |.dict a _=>a.toNat+3
 |.inst c _=>c+5
 |.sA _=>1
 |_=>2
structure Keeps(I:List Nat)(U Y:List O):Prop where
 len:U.length<=Y.length
 at_:∀i,i<U.length->i∉I->Y[i]?=U[i]?
theorem Keeps.refl{b:List Nat}{a:List O}:Keeps b a a:=#[aE _,λz z z=>rfl]
variable{J:List Nat}
theorem Keeps.trans{d:List Nat}{a b c:List O}(x:Keeps d a b)(y:Keeps J b c):Keeps (d++J) a c:=
 #[av x.len y.len,λi h n=>(y.at_ i (aH h x.len) λm=>n<|aG _ m).trans<|x.at_ i h λm=>n<|aU _ m]
theorem Keeps.mono{d:List Nat}{a b:List O}(x:Keeps d a b)(h:∀i∈d,i<a.length->i∈J):Keeps J a b:=#[x.len,λi c n=>x.at_ i c λm=>n<|h i m c]
variable{i:Nat}
theorem Keeps.get{c:List Nat}{a b:List O}{o:O}(x:Keeps c a b)(e:a[i]?=I o)(n:i∉c):b[i]?=I o:=(x.at_ i (aR.mp e).1 n).trans e
theorem Keeps.app{I:List Nat}{a j:List O}:Keeps I a<|a++j:=#[bS (aj)<|bg _ _,λi h z=>bM h]
theorem Keeps.set{a:List O}{i:Nat}{o:O}:Keeps [i] a<|a.set i o:=#[by rw[cD];show aE _,λj z n=>dw λe=>n<|by show e▸.head _]
theorem bJ{a:List O}{o:O}{r:List O}:(a++o::r)[a.length]?=I o:=by rw[bN<|aE _,jV];rfl
theorem cM{a:List O}{o o':O}(e:a[i]?=I o):(a.set i o')[i]?=I o':=ik (aR.mp e).1
theorem iC{a:List O}{o:O}(e:a[i]?=I o):i<a.length:=(aR.mp e).1
variable{kb:Bool}{fs:List (Option V)}{b:List UInt8}{j:Nat}{y:V}
section
variable {U:List O}{c:Nat}{z:V}{Z:List (Ky×V)}{L:List P}{bs:List UInt8}
theorem bL{k:V->Prop}(e:U[i]?=I (.inst c fs))(a:(fs[j]?).join=I y)(h:k y):bO (u5 U c j<|.ref i) k:=by show bq ?_ h;change(U[i]?.bind _)=_;rw[e];change(match gB c c with|true=>(fs[j]?).join|false=>A)=_;rw[oU];show a
theorem iY{a:List<|Option V}{U:List O}{k:St->Prop}(e:U[i]?=I (.inst c fs))(d:j<fs.length)(h:k #[a,U.set i<|.inst c<|fs.set j<|I y]):qt #[a,U] c j y (.ref i) k:=bq e #[#[oU _,d],h]
theorem bF(e:U[i]?=I (.inst c fs)):qO U c (.ref i)=aB:=by change(match U[i]? with|some (.inst a _)=>gB a c|_=>X)=aB;show(e)▸oU _
theorem AZ(e:U[i]?=I (.dict kb Z)):mU U (.ref i)=I (kb,Z):=by change(U[i]?.bind _)=_;show(e)▸?_;rfl
theorem ae0(e:U[i]?=I (.dict kb Z)):mdO U (.ref i)=I (i,kb,Z):=by change(U[i]?.bind _)=_;show(e)▸?_;rfl
theorem aak(e:U[i]?=I (.list L)):Kr U (.ref i)=I (i,L):=by change(U[i]?.bind _)=_;show(e)▸?_;rfl
theorem afF(e:U[i]?=I (.dict kb Z)):Kr U (.ref i)=A:=by change(U[i]?.bind _)=_;show(e)▸?_;rfl
theorem adF(e:U[i]?=I (.sA bs)):mbO U (.ref i)=I (i,bs):=by change(U[i]?.bind _)=_;show(e)▸?_;rfl
theorem kL(e:U[i]?=I (.list L)):g9 U (.ref i)=I L:=by change(U[i]?.bind _)=_;show(e)▸?_;rfl
theorem RH(e:U[i]?=I (.dict kb Z)):g9 U (.ref i)=A:=by change(U[i]?.bind _)=_;show(e)▸?_;rfl
theorem DM(e:U[i]?=I (.list L))(a:jr iD L=I b):sN U (.ref i)=I b:=by unfold sN;show(kL e)▸a
theorem aev(e:U[i]?=I (.dict kb Z)):F7 U (.ref i)=I Z.length:=by unfold F7;rw[RH e];change(U[i]?.bind _)=_;show bS e ?_;rfl
theorem aeN(e:U[i]?=I (.list L)):F7 U (.ref i)=I L.length:=by unfold F7;rw[kL e]
theorem aet{q:Ky}{y:P}(e:U[i]?=I (.dict kb Z))(a:y.Ax kb=I q)(f:fR Z q=I z):yT U (.ref i) (.p y)=I z:=by change(match mU U (.ref i)with|some d=>_|none=>_)=_;rw[AZ e];change(y.Ax kb).bind (fR Z)=_;show bS a f
theorem adY{q:Ky}{y:P}(e:U[i]?=I (.dict kb Z))(a:y.Ax kb=I q):Ui U y (.ref i)=I (fR Z q).isSome:=by unfold Ui;rw[AZ e];change(y.Ax kb).map _=_;show bS a ?_;rfl
theorem adl{q:Ky}{y:P}(e:U[i]?=I (.dict kb Z))(a:y.Ax kb=I q):Qc U .In (.p y) (.ref i)=I (fR Z q).isSome:=adY e a
theorem abx{q:Ky}{y:P}(e:U[i]?=I (.dict kb Z))(a:y.Ax kb=I q):Qc U .NotIn (.p y) (.ref i)=I !(fR Z q).isSome:=by change(Ui U y<|.ref i).map _=_;show bS (adY e a) ?_;rfl
theorem lD{q:Ky}{y:P}{k:V->Prop}(e:U[i]?=I (.dict kb Z))(a:y.Ax kb=I q)(d:fR Z q=I z)(h:k z):bO (yT U (.ref i)<|.p y) k:=bq (aet e a d) h
theorem vL{q:Ky}{y:P}{k:Bool->Prop}(e:U[i]?=I (.dict kb Z))(a:y.Ax kb=I q)(h:k (fR Z q).isSome):bO (lq U .In (.p y)<|.ref i) k:=bq ((jP ..).trans<|adl e a) h
theorem ur{q:Ky}{y:P}{k:Bool->Prop}(e:U[i]?=I (.dict kb Z))(a:y.Ax kb=I q)(h:k !(fR Z q).isSome):bO (lq U .NotIn (.p y)<|.ref i) k:=bq ((jP ..).trans<|abx e a) h
theorem Va{k:Nat->Prop}(e:U[i]?=I (.dict kb Z))(h:k Z.length):bO (F7 U<|.ref i) k:=bq (aev e) h
theorem vp{k:Nat->Prop}(e:U[i]?=I (.list L))(h:k L.length):bO (F7 U<|.ref i) k:=bq (aeN e) h
theorem j3{k:Nat×List P->Prop}(e:U[i]?=I (.list L))(h:k (i,L)):bO (Kr U<|.ref i) k:=bq (aak e) h
theorem ae6{k:Nat×Bool×List (Ky×V)->Prop}(e:U[i]?=I (.dict kb Z))(h:k (i,kb,Z)):bO (mdO U<|.ref i) k:=bq (ae0 e) h
theorem Be{k:Bool×List (Ky×V)->Prop}(e:U[i]?=I (.dict kb Z))(h:k (kb,Z)):bO (mU U<|.ref i) k:=bq (AZ e) h
theorem adR{k:Nat×List UInt8->Prop}(e:U[i]?=I (.sA bs))(h:k (i,bs)):bO (mbO U<|.ref i) k:=bq (adF e) h
theorem kD{b:List UInt8}{k:List UInt8->Prop}(e:U[i]?=I (.list L))(a:jr iD L=I b)(h:k b):bO (sN U<|.ref i) k:=bq (DM e a) h
theorem sZ{a:List<|Option V}{U:List O}{k:St->Prop}{y:P}{q:Ky}(e:U[i]?=I (.dict kb Z))(d:y.Ax kb=I q)(f:Z.length<gr)(h:k #[a,U.set i<|.dict kb<|kU Z q z]):qN #[a,U] z (.ref i) (.p y) k:=by show bq B ?_;change(match Kr U (.ref i)with|some l=>_|none=>_);show bS (afF e)<|bq (ae0 e)<|bq d #[f,h]
end
theorem Iu{step:P->List P->St->(List P->St->Prop)->Prop}{C:St->Prop}{g:P->List P}:∀{e:List P}{c:List P}{d:St}{k:List P->St->Prop} (N:Nat),
  (∀x∈e,∀c d k,c.length<N->C d->(∀f,C f->k (c++g x) f)->step x c d k)->(∀x∈e,(g x).length<=1)->c.length+e.length<=N->C d->(∀f,C f->k (c++e.flatMap g) f)->j0 step e c d k:=by
 intro e;induction e with
 |nil=>intro c d k N _ _ _ h l;have:=l d h;rwa [List.flatMap_nil,aY]at this
 |cons x r t=>
  intro c d k N q s o h l;rw[aX]at o;show q x (.head _) c d _ (dO [_,_,_] (.a (.v 0)<|.n 1) (.v 1) (.a (.v 0)<|.a (.v 2)<|.n 1) (.v 1) B o) h λf w=>t N (λy m=>q y<|.tail _ m) (λy m=>s y<|.tail _ m) ?_ w λz p=>?_
  ·rw[aj];have:=s x<|.head _;show fZ [_,_,_,_] (.a (.a (.v 0)<|.v 1)<|.v 2) (.v 3) (.a (.v 0)<|.a (.v 2)<|.n 1) (.v 3) (.v 1) (.n 1) B o this
  ·have:=l z p;rwa [iN,<- aJ]at this
variable{σ:St}
theorem xD{step:P->List P->St->(List P->St->Prop)->Prop}{I:St->Prop}{f:P->P}{d:List P}{σ:St}{k:List P->St->Prop}
  (e:∀x∈d,∀a σ k,a.length<gr->I σ->(∀c,I c->k (a++[f x]) c)->step x a σ k) (g:d.length<=gr) (l:I σ) (m:∀c,I c->k (d.map f) c):j0 step d [] σ k:=
 Iu gr e (λz z=>aE _) (by rw[kr,eY];show g) l λc h=>by rw[jq,<- Km];show m c h
variable{α β:Type}
theorem j1{a:Type}{f:β->Option a}{g:α->β}{h:α->a} {L:List α}(e:∀x∈L,f (g x)=I (h x)):jr f (L.map g)=I (L.map h):=by
 induction L with
 |nil=>rfl
 |cons x r c=>rw[bK,SO,e x<|.head _,c λy m=>e y<|.tail _ m];rfl
theorem qj{c:List O}{a:Int}(h:0<=a/\a<=1000000):items c (.p<|.Tj 0 a)=I ((List.range a.toNat).map λ(i:Nat)=>.int i):=by change(match decide (0<=(0:Int)/\(0:Int)<=1000000/\-1000000<=a/\a<=1000000)with|true=>_|false=>_)=_;rw[decide_eq_true #[acV 0,by decide,gm (by decide) h.1,h.2]];change I _=I _;rw[acm];congr 1;show cL λi z=>by rw[aco]
noncomputable def BF(m:Nat):List UInt8:=[0,0,0,aP m]
theorem kh{x:Int}(h:0<=x/\x<256):iD (.int x)=I (aP x.toNat):=by change(match decide _ with|true=>_|false=>_)=_;rw[decide_eq_true h]
variable{m:Nat}
theorem Vo(c:m<256)(j:Nat)(a:8<=j):dj ((m:Int).fdiv<|2^j) 255=0:=by
 have h:(256:Int)<=2^j:=by show(kW a)▸?_;rw[Int.pow_add];have:(0:Int)<2^(j-8):=Int.pow_pos (by decide);lia
 show bS (HD (bj m)<|by lia) ?_;rfl
theorem VZ(a:m<256):dj ((m:Int).fdiv<|2^0) 255=m:=by rw[show(m:Int).fdiv (2^0)=m from Int.fdiv_one _,acW];show Int.emod_eq_of_lt (bj m)<|fD.mpr a
variable{n:Nat}
theorem bz(h:iG (i+1) n=aB):i<n:=bZ h
theorem ls{p:Prop}(e:iG (i+1) n=aB)(h:p):i<n/\p:=#[bz e,h]
theorem lz{p:Prop}(e:iG i n=aB)(h:p):i<=n/\p:=#[bZ e,h]
theorem jF{c:List O}{a b:O}(x:c[i]?=I a)(y:c[j]?=I b)(n:gB a.tag b.tag=X):i≠j:=λz=>by
 subst z
 cases x.symm.trans y
 rw[oU]at n
 show vZ n
variable{k np:Nat}
theorem enter{k f:Nat}{a:List P}{body:S}{vs:List V}{d:List O}{loc:List<|Option V}{Q:gT->List O->Prop}(e:uv Uh f=I #[X,A,n,np,a,body])(g:Cq.argsOk #[X,A,n,np,a,body] vs.length=aB)(l:r9 n (nk np a vs)=loc)
  (h:ex (LV k) (λc σ=>Q (.exc c) σ.U) body #[loc,d] λf σ=>Q (.ok<|kJ f) σ.U):LV (k+1) f vs d Q:=by show aaB k<|bS (e) ?_;subst l;show#[g,h]
noncomputable def bx(m n i:Nat):Int:=dj ((m:Int).fdiv<|2^(8*((n:Int)-1-i)).toNat) 255
theorem af5(a:m<256)(c:i<4):iD (.int<|bx m 4 i)=I (if i=3 then aP m else 0):=by
 unfold bx;by_cases e:i=3
 ·subst e;show bS (show(8*(((4:Nat))-1-((3:Nat):Int))).toNat=0 by decide)<|bS (VZ a)<|bS (if_pos B) ?_;show(kh (x:=m) #[bj m,fD.mpr a])▸?_;rfl
 ·rw[Vo a _<|by lia,if_neg e];rfl
theorem Qx{d:List O}(g:m<256)(h:∀a,Keeps [] d a->Q (.ok<|.p<|.bytes<|BF m) a):LV (k+1) 124 [.p<|.int m,.p<|.int 4] d Q:=by
 show enter (loc:=[ae<|.p<|.int m,ae<|.p<|.int (4:Nat)]) B B B<|aN (by decide)<|bq (qj<|by decide) ?_;show xD (I:=λσ=>∃v,σ=#[[ae<|.p<|.int m,ae<|.p<|.int<|4,v],d]) (f:=λp=>match p with | .int i=>.int (bx m 4 i.toNat) | p=>p) (λp a l σ k o e q=>?_) (by decide) #[_,rfl] λs e=>?_
 ·obtain⟨v,rfl⟩:=e;show gO a λi c r=>?_;subst r;rw[cY]at c;show ls B<|aN (by decide)<|aN (by change 0<=(8)*(((4:Nat):Int)-1-i);have:i<4:=c;lia)<|aN o<|q _ #[_,rfl]
 ·obtain⟨v,rfl⟩:=e;show bq (DM bJ ?_)<|h _ .app;rw[bw];show j1 λi c=>af5 g<|cY.mp c
theorem KG{a:List O}(d:m<256)(e:∀c,Keeps [] a c->Q (.ok<|.p<|.bytes<|BF m) c):LV (k+2) 131 [.p<|.int m] a Q:=
 enter B B B (Qx d e)
noncomputable def uI(n:Nat)(l:List<|List UInt8):List<|Ky×V:=l.foldr (λc k n=>(.b c,.p<|.int (n+1:Nat))::k (n+1)) (λz=>[]) n
variable{c:List UInt8}
theorem Ah{r:List<|List UInt8}:uI n (c::r)=(.b c,.p<|.int (n+1:Nat))::uI (n+1) r:=rfl
abbrev known(H:List<|List UInt8):List<|Ky×V:=uI 0 H
noncomputable def pZ(H:List<|List UInt8)(c:List UInt8):List<|List UInt8:=if c∈H then H else H++[c]
def uu(H:List<|List UInt8)(c:List UInt8):List UInt8:=BF<|H.idxOf c+1
theorem kI{a:List<|Ky×α}{e:Ky×α}{q:Ky}:fR (e::a) q=if e.1=q then I e.2 else fR a q:=by
 unfold fR;rw[gu];by_cases h:e.1=q
 ·rw[if_pos h,decide_eq_true h];rfl
 ·rw[if_neg h,decide_eq_false h]
variable{H:List (List UInt8)}
theorem wV:∀{n:Nat},fR (uI n H) (.b c)=if c∈H then I (.p<|.int (n+H.idxOf c+1:Nat)) else A:=by
 induction H with
 |nil=>show B
 |cons a r d=>
  intro n;show bS Ah<|bS kI<|bS d<|bS List.idxOf_cons ?_;by_cases h:a=c
  ·show bS (if_pos<|congrArg Ky.b h)<|bS (if_pos<|h▸.head _)<|bS (beq_iff_eq.mpr h) ?_;rfl
  ·rw[if_neg λe=>h<|by injection e,beq_eq_false_iff_ne.mpr h];by_cases m:c∈r
   ·rw[if_pos m,if_pos<|.tail _ m];change _=I (V.p<|.int (n+(r.idxOf c+1)+1:Nat));rw[show n+1+r.idxOf c+1=n+(r.idxOf c+1)+1 by show di (Fo [_,_] (V0+1+V1+1) (V0+(V1+1)+1) B)<|Fo [_,_] (V0+(V1+1)+1) (V0+1+V1+1) B]
   ·rw[if_neg m,if_neg λz=>m<|(aC.mp z).resolve_left<|Ne.symm h]
theorem MI:∀{n:Nat},uI n (H++[c])=uI n H++[(.b c,.p<|.int (n+H.length+1:Nat))]:=by
 induction H with
 |nil=>show B
 |cons a r d=>intro n;rw[cT,Ah,d,aX,show n+1+r.length+1=n+(r.length+1)+1 from congrArg (· + 1)<|pD n 1 r.length];rfl
theorem mQ{q:Ky}{v:α}{a:List<|Ky×α}:fR a q=A->kU a q v=a++[(q,v)]:=by
 induction a with
 |nil=>show λx=>rfl
 |cons e r d=>
  intro h;rw[kI]at h;by_cases z:e.1=q
  ·replace h:=(if_pos z)▸h;show pO h
  ·rw[if_neg z]at h;show bS EL<|bS (if_neg z)<|bS (d h) ?_;rfl
theorem CP:∀{n:Nat},(uI n H).length=H.length:=by
 induction H with
 |nil=>show B
 |cons a r d=>intro n;rw[Ah,aX,d];rfl
structure bP(U:List O)(h d:Nat)(H:_):Prop where
 obj:U[h]?=I (.inst 198 [I<|.p<|.int 4,I<|.ref d])
 mw:U[d]?=I (.dict aB<|known H)
variable{Y:List O}{d h:Nat}
theorem bP.keeps{a:List O}{e:List Nat}(x:bP a h d H)(k:Keeps e a Y)(n:h∉e)(m:d∉e):bP Y h d H:=#[k.get x.obj n,k.get x.mw m]
theorem bP.ne{a:List O}(x:bP a h d H):d≠h:=λe=>by have:=x.mw;have this:=(x.obj)▸(e)▸this;cases this
theorem qw{k:Nat}{c:List UInt8}{g:List O}{Q:gT->List O->Prop}(X:bP g h d H)(r:H.length<250)
  (l:∀Y,Keeps [d] g Y->bP Y h d (pZ H c)->Q (.ok<|.p<|.bytes<|uu H c) Y):LV (k+2) 195 [.ref h,.p<|.bytes c] g Q:=by
 show enter B B B ?_;show ls B<|bL X.obj B ?_;show ur X.mw B ?_;have fin:∀{o:List O}{e:List<|List UInt8},bP o h d e->c∈e->e.length<=250->e.idxOf c=H.idxOf c->(∀Y,Keeps [] o Y->Q (.ok<|.p<|.bytes<|uu H c) Y)->ex (LV<|k+1) (λc σ=>Q (.exc c) σ.U) (.cons (.ret<|.call 124<|.cons (.sub (.attr (.loc 0) 198 1)<|.loc 2)<|.cons (.attr (.loc 0) 198 0) .nil) .nil) #[[I<|.ref h,I<|.p<|.bytes c,I<|.p<|.bytes c],o] λf σ=>Q (.ok<|kJ f) σ.U:=λ{o e} C m s t l=>by
  show bL C.obj B<|lD (q:=.b c) C.mw B (by rw[wV,if_pos m,eY])<|bL C.obj B<|Qx ?_ λY K=>?_
  ·have:=n9 m;show fZ [_,_] (.a (.a (.v 0)<|.n 1)<|.n 1) (.n 256) (.v 1) (.n 250) (.a (.v 0)<|.n 1) (.v 1) B s this
  ·show bS (t)<|l Y K
 show bS (wV) ?_;by_cases m:c∈H
 ·rw[if_pos m];show fin X m (dO [_] V0 250 (V0+1) 250 B r) B λY K=>l Y (K.mono λi m=>(cO m))<|by rw[pZ,if_pos m];show X.keeps K ai ai
 ·rw[if_neg m];have w:fR (known H) (.b c)=A:=bS wV<|bS (if_neg m) B;have x:pZ H c=H++[c]:=if_neg m;show bL X.obj B<|Va X.mw<|bL X.obj B<|sZ X.mw B (bS CP<|aW r<|by decide) ?_;have C:bP (g.set d<|.dict aB<|known<|H++[c]) h d<|H++[c]:=#[(Keeps.set).get X.obj λz=>X.ne (ah.mp z).symm,cM X.mw];have D:kU (known H) (.b c) (.p<|.int<|(known H).length+1)=known (H++[c]):=by rw[mQ w,CP];show Eq.trans ?_ (MI).symm;rw[show((0+H.length+1:Nat))=(H.length:Int)+1 by lia]
  show bS D<|fin C (aG _<|.head _) (bS (aj)<|bS (fV)<|dO [_] (V0+1) 250 (V0+1) 250 B r) (by rw[wR,if_neg m,tX m];simp) λY K=>l Y ((Keeps.set (i:=d)).trans K) ?_;rw[x];show C.keeps K ai ai
section
variable {U:List O}{a b:Int}{k:Bool->Prop}
theorem Hp(r:Bool)(e:decide (a<b)=r)(h:k r):bO (lq U .Lt (.p<|.int a)<|.p<|.int b) k:=by rw[jP];subst e;show h
theorem WT(r:Bool)(e:decide (a<=b)=r)(h:k r):bO (lq U .LtE (.p<|.int a)<|.p<|.int b) k:=by rw[jP];subst e;show h
theorem mT(r:Bool)(e:decide (b<a)=r)(h:k r):bO (lq U .Gt (.p<|.int a)<|.p<|.int b) k:=by rw[jP];subst e;show h
theorem PB(r:Bool)(e:decide (b<=a)=r)(h:k r):bO (lq U .GtE (.p<|.int a)<|.p<|.int b) k:=by rw[jP];subst e;show h
theorem kT(r:Bool)(e:(a==b)=r)(h:k r):bO (lq U .Eq (.p<|.int a)<|.p<|.int b) k:=by rw[jP];subst e;show h
theorem FQ(r:Bool)(e:(!(a==b))=r)(h:k r):bO (lq U .NotEq (.p<|.int a)<|.p<|.int b) k:=by rw[jP];subst e;show h
theorem YK{x:Int}(r:Bool)(e:(x != 0)=r)(h:k r):bO (AE U<|.p<|.int x) k:=by rw[zA];subst e;show h
theorem fj{r:Bool}(h:k r):bO (AE U<|.p<|.bool r) k:=by rw[zA];show h
theorem sO{f:List P}(r:Bool)(e:U[i]?=I (.list f))(g:(!f.isEmpty)=r)(h:k r):bO (AE U<|.ref i) k:=by show bq ?_ h;rw[zA];change(U[i]?.bind _)=_;show bS (e)<|sB (g) ?_;rfl
theorem nE{x:V}(r:Bool)(e:Eu x (.p .none)=I r)(h:k r):bO (lq U .Is x<|.p .none) k:=bq ((jP ..).trans e) h
theorem fy{x:V}(r:Bool)(e:Eu x (.p .none)=I r)(h:k !r):bO (lq U .IsNot x<|.p .none) k:=bq ((jP ..).trans<|by change(Eu x<|.p .none).map _=_;show bS (e) ?_;rfl) h
theorem FT{x y:List UInt8}(r:Bool)(e:(!(x==y))=r)(h:k r):bO (lq U .NotEq (.p<|.bytes x)<|.p<|.bytes y) k:=by rw[jP];subst e;show h
end
variable{z:UInt8}
theorem vQ{a:List O}{i:Nat}{z:UInt8}{k:V->Prop}(e:b[i]?=I z)(h:k<|.p<|.int z.toNat):bO (yT a (.p<|.bytes b)<|.p<|.int i) k:=by show bq ?_ h;change(match decide (0<=(i:Int))with|true=>b[(i:Int).toNat]? | X=>A).map (λz=>V.p<|.int<|pS z)=_;rw[decide_eq_true<|bj i];change(b[i]?).map _=_;rw[e];rfl
theorem qR(n j d:Nat):yq n (I (j:Int)) d=min j n:=by change(if (j:Int)<0 then ((j:Int)+n).toNat else min (j:Int).toNat n)=_;rw[if_neg<|by lia,gZ]
theorem Ej{f a b c:List α}{g o:Nat}(e:f=a++b++c)(p:g=a.length)(q:o=a.length+b.length):cut f (I (g:Int)) (I (o:Int))=b:=by subst e p q;have l:(a++b++c).length=a.length+b.length+c.length:=sB (aj)<|sB (aj) B;unfold cut;rw[qR,qR,iM<|by show dO [_,_,_,_] (V0+V1) V2 (V0+V1+V3) V2 B<|ak l.symm,iM<|by show dO [_,_,_,_] V0 V1 (V0+V2+V3) V1 B<|ak l.symm,aJ,BK,dW,jK]
theorem xm:(1000000:Int)<yj/\-yj<0:=by decide +kernel
theorem abj{i:Int}(h:-yj<i/\i<yj):ixO (.p<|.int i)=I i:=by rw[Pf];show if_pos h
theorem Pg{k:Int->Prop}(a:n<1000000)(h:k n):bO (ixO<|.p<|.int n) k:=by rw[(abj #[f9 xm.2<|bj n,fM (by lia) xm.1])];show h
variable{K:Fl->St->Prop}{test:St->(Bool->St->Prop)->Prop}{body:St->(Fl->St->Prop)->Prop}
theorem wh1(h:test σ λb a=>match b with|true=>body a λf e=>(match f with | .ret v=>K (.ret v) e | _=>sy test body 0 e K) | X=>K .next a):∃n,sy test body n σ K:=#[1,h]
theorem c6(h:iG i n=aB):i<=n:=bZ h
theorem gf{a:List O}{f:List P}(e:a[i]?=I (.list f)):yX a .Add (.ref i)=aB:=by change(g9 a<|.ref i).isSome=aB;show(kL e)▸?_;rfl
theorem Tu{a:List O}{f:List P}(e:a[i]?=I (.list f)):yX a .Pow (.ref i)=aB:=by change(g9 a<|.ref i).isSome=aB;show(kL e)▸?_;rfl
theorem WC{a:List O}{f:List P}(e:a[i]?=I (.list f)):yX a .LShift (.ref i)=aB:=by change(g9 a<|.ref i).isSome=aB;show(kL e)▸?_;rfl
theorem ZL{a:List O}{f:List P}(e:a[i]?=I (.list f)):yX a .FloorDiv (.ref i)=aB:=by change(g9 a<|.ref i).isSome=aB;show(kL e)▸?_;rfl
theorem Xm{a:List O}(e:a[i]?=I (.sA b)):yX a .BitOr (.ref i)=aB:=by change(mbO a<|.ref i).isSome=aB;show bS (adF e) ?_;rfl
theorem AR{a:List O}{f:List<|Ky×V}(e:a[i]?=I (.dict kb f)):yX a .Div (.ref i)=aB:=by change(mU a<|.ref i).isSome=aB;show(AZ e)▸?_;rfl
theorem KW{a:List O}{f:List<|Ky×V}(e:a[i]?=I (.dict kb f)):yX a .Mod (.ref i)=aB:=by change(mU a<|.ref i).isSome=aB;show(AZ e)▸?_;rfl
theorem Wz{a:List O}{f:List<|Ky×V}(e:a[i]?=I (.dict kb f)):yX a .Mult (.ref i)=aB:=by change(mU a<|.ref i).isSome=aB;show(AZ e)▸?_;rfl
theorem UT{a:List O}{f:List<|Ky×V}(e:a[i]?=I (.dict kb f)):yX a .RShift (.ref i)=aB:=by change(mU a<|.ref i).isSome=aB;show(AZ e)▸?_;rfl
theorem Qj(h:n<128):dj (n:Int) 127=n:=by rw[acX];lia
theorem u8(h:n<256):(aP n).toNat=n:=bS (UInt8.toNat_ofNat')<|Nat.mod_eq_of_lt h
theorem or0(x:Int):lZ 0 x=x:=by rw[acY,acZ,ac0];lia
theorem age(h:n<128):lZ 0 (dj (n:Int) 127*2^(0:Int).toNat)=n:=by rw[or0,Qj h];show Int.mul_one _
theorem GI{e:List O}(g:n<128)(f:∀Y,Keeps [] e Y->Q (.ok<|.p<|.bytes [aP n]) Y):LV (k+1) 152 [.p<|.int n] e Q:=by
 show enter (loc:=[ae<|.p<|.int n,A]) B B B ?_;show aN (by decide)<|ls B<|wh1 ?_;show mT X ?_ ?_
 ·show decide_eq_false<|by lia
 show aN (gf bJ)<|j3 bJ<|ls B ?_;show kD (cM bJ) ?_<|f _<|((Keeps.app (I:=[]) (a:=e) (j:=[.list []])).trans<|Keeps.set (i:=e.length)).mono λi m h=>?_
 ·change(iD<|.int n).bind _=_;rw[kh #[by lia,by lia]];rfl
 ·rw[ah.mp m]at h;show absurd h<|cP _
theorem uD{f:List O}(e:b[i]?=I z)(a:z.toNat<128)(g:Q (.ok<|.p<|.tup [.int z.toNat,.int (i+1:Nat)]) f):LV (k+1) 159 [.p<|.bytes b,.p<|.int i] f Q:=by
 show enter (loc:=[I<|.p<|.bytes b,I<|.p<|.int i,A,A,A]) B B B ?_;show ls B<|ls B<|wh1<|fj ?_;show PB X ?_ ?_
 ·show decide_eq_false<|m7.mpr<|fD.mpr<|(aR.mp e).1
 show vQ e ?_;show ls B<|ls B ?_;show aN #[by decide,by decide,f9 xm.2 ?_,fM ?_ xm.1] ?_
 ·show bS (Qj a)<|bj _
 ·rw[Qj a];lia
 show ls B<|ls B ?_;show Hp aB ?_ ?_
 ·show decide_eq_true<|by lia
 show lz B<|bS (age a) g
theorem wg{x:Int}{n:Nat}{k:Int->Prop}(e:x=n)(a:n<1000000)(h:k n):bO (ixO<|.p<|.int x) k:=by subst e;show Pg a h
theorem qn{a:List O}{f:CmpOp}{x:V}{k:Bool->Prop}(r:Bool)(e:Qc a f x y=I r)(h:k r):bO (lq a f x y) k:=bq ((jP ..).trans e) h
theorem YF{a:List O}{f:List P}{k:P->Prop}(e:a[i]?=I (.list f))(h:k<|.lst f.reverse):bO (aaC a<|.ref i) k:=by show bq ?_ h;change(g9 a<|.ref i).map _=_;show(kL e)▸?_;rfl
theorem xu{f:List O}{a:List P}{k:List UInt8->Prop}(e:jr iD a=I b)(h:k b):bO (sN f<|.p<|.lst a) k:=bq (e) h
theorem CF{a:List O}{b:List UInt8}{k:List UInt8->Prop}(e:a[i]?=I (.sA b))(h:k b):bO (sN a<|.ref i) k:=by show bq ?_ h;change(match g9 a (.ref i)with|some b=>_|none=>_)=_;rw[show g9 a (.ref i)=A by change(a[i]?.bind _)=_;rw[e];rfl];change(a[i]?.bind _)=_;rw[e];rfl
theorem u9{g:List O}{c:List UInt8}{a f:Option Int}{k:P->Prop}(e:cut b a f=c)(h:k<|.bytes c):bO (QK g (.p<|.bytes b) a f) k:=by subst e;show h
theorem abK{x:P}{z:UInt8}{k:UInt8->Prop}(e:iD x=I z)(h:k z):bO (iD x) k:=bq e h
variable{s:Nat}
theorem sh0{s:Nat}(h:n<2^s):(n:Int).fdiv (2^s)=0:=HD (bj n) (by have:(n)<((2^s:Nat):Int):=fD.mpr h;rwa [Int.natCast_pow]at this)
theorem BQ{a:List O}(e:n<128)(f:∀Y,Keeps [] a Y->Q (.ok<|.p<|.bytes [aP n]) Y):LV (k+1) 166 [.p<|.int n] a Q:=by
 show enter B B B ?_;show lz B<|ls B<|aN (by decide)<|ls B<|wh1 ?_;show mT X ?_ ?_
 ·rw[show(n:Int).fdiv (2^(7:Int).toNat)=0 from sh0 (s:=7)<|by omega];rfl
 show YF bJ ?_;show xu ?_<|f _ .app;change(iD<|.int<|dj (n) 127).bind _=_;rw[Qj e,kh #[bj n,fD.mpr<|aW e<|by decide]];rfl
theorem ahe(x:Int):lZ ((-1+1)*2^(7:Int).toNat) x=x:=or0 x
theorem WS:(-yj<(256:Int)/\(256:Int)<yj):=by decide +kernel
theorem aeU:(0:Int)<=7/\(7:Int)<=400/\-yj<(-1+1:Int)/\(-1+1:Int)<yj:=by decide +kernel
theorem ED{i:Nat}{z:UInt8}{a:List O}(e:b[i]?=I z)(f:z.toNat<128)(g:Q (.ok<|.p<|.tup [.int z.toNat,.int (i+1:Nat)]) a):LV (k+1) 173 [.p<|.bytes b,.p<|.int i] a Q:=by
 show enter B B B ?_;show ls B<|wh1<|fj ?_;show PB X ?_ ?_
 ·show decide_eq_false<|m7.mpr<|fD.mpr<|(aR.mp e).1
 show vQ e ?_;show ls B<|ls B ?_;show aN aeU<|ls B<|Hp aB ?_ ?_
 ·show decide_eq_true<|fD.mpr f
 show lz B ?_;rw[ahe,Qj f];show g
theorem Qv{a:List UInt8}{f:List O}(eb:b=a++BF m++c)(e:i=a.length)(o:m<256)(l:b.length<999000)(q:Q (.ok<|.p<|.int m) f):LV (k+1) 138 [.p<|.bytes b,.p<|.int i,.p<|.int 4] f Q:=by
 have g:b.length=a.length+4+c.length:=by rw[eb,aj,aj];rfl
 show enter (loc:=[I<|.p<|.bytes b,I<|.p<|.int i,I<|.p<|.int 4,A,A]) B B B<|Hp X ?_ ?_
 ·show decide_eq_false<|gK.mpr<|bj i
 show mT X ?_ ?_
 ·show decide_eq_false<|gK.mpr<|gM.mpr ((fZ [_,_,_,_] (V0+4) V1 V0 V2 (V2+4+V3) V1 B (ak e)<|ak g.symm):i+4<=b.length)
 show ls B<|wg (n:=i) B (rj [_,_,_,_] (V0+1) 1000000 V0 V1 (V2+1) 999000 (V1+4+V3) V2 B (ak e) l<|ak g.symm)<|wg (n:=i+4) B (rj [_,_,_,_] (V0+4+1) 1000000 V0 V1 (V2+1) 999000 (V1+4+V3) V2 B (ak e) l<|ak g.symm)<|u9 (c:=BF m) (Ej eb e<|by show(e)▸?_;rfl) ?_;show ls B<|aN WS<|ls B ?_;show ls B<|aN WS<|ls B ?_;show ls B<|aN WS<|ls B ?_;show ls B<|aN WS<|ls B ?_;change Q (.ok<|.p<|.int<|256*(256*(256*(256*0+0)+0)+0)+((aP m).toNat)) f;rw[u8 o,show(256*(256*(256*(256*0+0)+0)+0)+(m:Int))=m from aco _];show q
theorem z8{i m:Nat}{a c:List UInt8}{e:List O}(eb:b=a++BF m++c)(f:i=a.length)(g:m<256)(l:b.length<999000)(o:Q (.ok<|.p<|.int m) e):LV (k+2) 145 [.p<|.bytes b,.p<|.int i] e Q:=
 enter B B B (Qv eb f g l o)
theorem VJ:((List.range 16).all λs=>([3,6]:List Nat).all λn=>
  lZ ((n)*2^(4:Int).toNat) (dj (s:Int) 15)==(n*16+s:Nat)&&dj (((n*16+s:Nat):Int).fdiv<|2^(4:Int).toNat) 7==n
  && dj ((n*16+s:Nat)) 15==s&&dj ((n*16+s:Nat):Int) 128==0)=aB:=by decide +kernel
theorem YW(a:n∈[3,6])(e:s<16):lZ ((n:Int)*2^(4:Int).toNat) (dj (s:Int) 15)=(n*16+s:Nat)/\dj (((n*16+s:Nat):Int).fdiv<|2^(4:Int).toNat) 7=n
  /\ dj ((n*16+s:Nat):Int) 15=s/\dj ((n*16+s:Nat)) 128=0:=by have:=cQ.mp (cQ.mp VJ s<|cY.mpr e) n a;simp only[fg,beq_iff_eq]at this;show#[this.1.1.1,this.1.1.2,this.1.2,this.2]
theorem YQ(e:n∈[3,6])(a:s<16):n*16+s<128:=by
 rcases aC.mp e with rfl|h
 ·show dO [_] ((lm 3 16)+V0+1) 128 (V0+1) 16 B a
 ·cases ah.mp h;show dO [_] ((lm 6 16)+V0+1) 128 (V0+1) 16 B a
theorem sh4:(0:Int)<=4/\(4:Int)<=400:=by decide
theorem La{n:Nat}{e:List O}(f:n∈[3,6])(g:s<16)(l:∀Y,Keeps [] e Y->Q (.ok<|.p<|.bytes [aP<|n*16+s]) Y):LV (k+1) 313 [.p<|.int n,.p<|.int s] e Q:=by
 have o:=YQ f g;show enter B B B ?_;show aN #[sh4.1,sh4.2,f9 xm.2<|bj n,fM (by lia) xm.1] ?_;show ls B<|aN sh4.1<|ls B<|aN B<|ls B<|wh1 ?_;show mT X ?_ ?_
 ·rw[show(s:Int).fdiv (2^(4:Int).toNat)=0 from sh0 (s:=4)<|by omega];rfl
 show aN (Xm bJ)<|adR bJ<|abK (z:=aP<|n*16+s) ?_ ?_
 ·show((YW f g).1)▸(kh (x:=(n*16+s:Nat)) #[(bj _),((zl [_,_] (.c<|.a (.v 0)<|.v 1)<|.n 256).mpr<|dO [_,_] (.a (.a (.v 0)<|.v 1)<|.n 1) (.n 256) (.a (.a (.v 0)<|.v 1)<|.n 1) (.n 128) B o)])▸?_;rfl
 show ls B ?_;show CF (b:=[aP<|n*16+s]) (cM bJ)<|l _<|((Keeps.app (I:=[]) (a:=e) (j:=[.sA []])).trans<|Keeps.set (i:=e.length)).mono λi m h=>?_;rw[ah.mp m]at h;show absurd h<|cP _
theorem adT{e:List O}{v:Int}{k:Bool->Prop}(a:v=n)(f:n∈[3,6])(g:n=3->k X)(l:n=6->k aB):bO (lq e .NotIn (.p<|.int v)<|.p<|.mw X [.i 1,.i 2,.i 3,.i 4] [.bytes [99,111,109,109,105,116],.bytes [116,114,101,101],.bytes [98,108,111,98],.bytes [116,97,103]]) k:=by
 rcases aC.mp f with rfl|h
 ·subst a;show qn X B<|g B
 ·cases ah.mp h;subst a;show qn aB B<|l B
theorem Aj{g:List O}(f:n∈[3,6])(l:s<16)(e:b[i]?=I (aP<|n*16+s))(o:Q (.ok<|.p<|.tup [.int n,.int s,.int (i+1:Nat)]) g):LV (k+1) 320 [.p<|.bytes b,.p<|.int i] g Q:=by
 have q:=YQ f l;have r:(aP<|n*16+s).toNat=n*16+s:=u8<|dO [_,_] (V0+V1+1) 256 (V0+V1+1) 128 B q;have a:=YW f l;show enter (loc:=[I<|.p<|.bytes b,I<|.p<|.int i,A,A,A,A]) B B B<|Hp X ?_ ?_
 ·show decide_eq_false<|by lia
 show PB X ?_ ?_
 ·show decide_eq_false<|m7.mpr<|fD.mpr<|(aR.mp e).1
 show vQ e ?_;rw[r];show ls B<|ls B<|aN sh4.1<|ls B<|ls B<|ls B<|wh1 ?_;show YK X ?_ ?_
 ·rw[a.2.2.2];rfl
 have fin:=by show(a.2.1)▸(a.2.2.1)▸o
 show adT a.2.1 f (λv=>?_) λt=>?_
 ·show lz B fin
 ·show FQ X ?_ ?_
  ·show(a.2.1)▸(t)▸?_;rfl
  ·show lz B fin
theorem Keeps.bG{g:List Nat}{a b:List O}{o:O}(K:Keeps g a b)(h:a.length<=i):Keeps g a<|b.set i o:=#[by rw[cD];show K.len,λj e n=>(dw<|by show λf=>jX<|rj [_,_,_] 1 0 V0 V1 V2 V0 (V1+1) V2 B (ak f) h e).trans<|K.at_ j e n]
theorem Keeps.xA{g:List Nat}{a b:List O}{o:O}(K:Keeps g a b)(h:i∈g):Keeps g a<|b.set i o:=#[by rw[cD];show K.len,λj f n=>(dw λe=>n<|by show(e)▸h).trans<|K.at_ j f n]
theorem Keeps.push{I:List Nat}{a b j:List O}(K:Keeps I a b):Keeps I a<|b++j:=#[av K.len (Keeps.app (I:=I)).len,λi e n=>((Keeps.app).at_ i (aH e K.len) n).trans<|K.at_ i e n]
theorem Keeps.step{f:List Nat}{a b c:List O}(K:Keeps f a b)(L:Keeps J b c)(h:∀i∈J,i<a.length->i∈f):Keeps f a c:=#[av K.len L.len,λi e n=>(L.at_ i (aH e K.len) λm=>n<|h i m e).trans<|K.at_ i e n]
theorem Keeps.none{I:List Nat}{a b:List O}(K:Keeps [] a b):Keeps I a b:=#[K.len,λi e x=>K.at_ i e ai]
theorem Keeps.and{e:List Nat}{a b c:List O}(K:Keeps e a b)(L:Keeps [] b c):Keeps e a c:=K.step L λx m=>(cO m)
theorem jg:1000<=gr:=c6 B
theorem Ja{k f C nf:Nat}{g:List P}{body:S}{vs:List V}{a:List O}{loc:List<|Option V}{Q:gT->List O->Prop}(e:uv Uh f=I #[X,I C,n,np,g,body])(l:Cq.argsOk #[X,I C,n,np,g,body] (vs.length+1)=aB)(o:r9 n (nk np g (.ref a.length::vs))=loc)(en:(nu C).length=nf)
  (h:ex (LV k) D3 body #[loc,a++[.inst C<|eJ nf A,.aux]] λf σ=>kJ f=.p .none/\Q (.ok<|.ref a.length) σ.U):LV (k+1) f vs a Q:=by show aaB k<|bS (e) ?_;subst o en;show#[l,h]
theorem Bp{a:List<|Option V}{f:List O}{c:Nat}{g:List P}{k:V->St->Prop}(e:f[i]?=I (.inst c fs))(l:jr (λv=>v.bind V.p?) fs=I g)(h:k (.p<|.inst c g)<|#[a,f.set i .gone]):Yw #[a,f] (.ref i) k:=bq e<|bq l h
theorem ua{a:List<|Option V}{U:List O}{i:Nat}{f:List P}{k:V->St->Prop}(e:U[i]?=I (.list f))(h:k (.p<|.lst f)<|#[a,U.set i .gone]):Yw #[a,U] (.ref i) k:=bq e h
theorem C0{step:P->List P->St->(List P->St->Prop)->Prop}{a:List P}{k:List P->St->Prop}(h:k a σ):j0 step [] a σ k:=h
theorem wh2(h:test σ λb a=>match b with|true=>body a λf e=>(match f with | .ret v=>K (.ret v) e | _=>sy test body 1 e K) | X=>K .next a):∃n,sy test body n σ K:=#[2,h]
theorem KY{x:V}{a:List O}(e:c.length<128)(f:∀Y,Keeps [] a Y->Q (.ok<|.p<|.bytes (aP c.length::c)) Y):LV (k+2) 737 [x,.p<|.bytes c] a Q:=by show enter B B B<|GI e λY K=>(aN (by show av (by show dO [_] (1+V0) 1000 (V0+1) 128 B e) jg)<|f Y K)
theorem Nq{k:Nat}{x:V}{a r:List UInt8}{l:List O}{Q:gT->List O->Prop}(o:b.length<999000)(eb:b=a++(aP n::c)++r)(e:i=a.length)(f:n=c.length)(q:n<128)
  (v:Q (.ok<|.p<|.tup [.bytes c,.int<|i+1+n]) l):LV (k+2) 745 [x,.p<|.bytes b,.p<|.int i] l Q:=by
 have g:b.length=a.length+(c.length+1)+r.length:=by rw[eb,aj,aj];rfl
 have t:(aP n).toNat=n:=u8<|dO [_] (V0+1) 256 (V0+1) 128 B q;show enter B B B<|uD (by rw[eb,e,aJ,bN<|aE _,jV];rfl) (by rw[t];show q) ?_;rw[t];show aN B<|ls B<|ls B<|aN B ?_;show mT X ?_ ?_
 ·show decide_eq_false<|gK.mpr<|gM.mpr ((rj [_,_,_,_,_,_] (V0+1+V1) V2 V0 V3 V1 V4 (V3+(V4+1)+V5) V2 B (ak e) (ak f)<|ak g.symm):i+1+n<=b.length)
 show wg (n:=i+1) B (rj [_,_,_,_,_] (V0+1+1) 1000000 (V1+1) 999000 V0 V2 (V2+(V3+1)+V4) V1 B o (ak e)<|ak g.symm)<|wg B (Um [_,_,_,_,_,_] (V0+1+V1+1) 1000000 (V2+1) 999000 V0 V3 V1 V4 (V3+(V4+1)+V5) V2 B o (ak e) (ak f)<|ak g.symm)<|u9 (c:=c) (Ej (a:=a++[aP n]) (b:=c) (c:=r) (by rw[eb];simp only[aJ,cT,jq]) (by rw[aj,e];rfl)<|by rw[aj,e];show sB (f) ?_;rfl)<|lz B v
theorem ML:((List.range 10).all λn=>gq (n:Nat)==[48+n])=aB:=by decide +kernel
theorem vY(h:n<10):gq (n:Int)=[48+n]:=beq_iff_eq.mp<|cQ.mp ML n<|cY.mpr h
theorem MA{z:Nat}{a:List O}(f:z<128)(e:∀Y,Keeps [] a Y->Q (.ok<|.p<|.bytes [aP z]) Y):LV (k+1) 112 [.p<|.str [z]] a Q:=by
 show enter (loc:=[I<|.p<|.str [z],A,A]) B B B ?_;show ls B<|ls B ?_;show C0 ?_;show ua bJ ?_;show ls B<|ls B ?_;show mT X ?_ ?_
 ·show decide_eq_false<|by lia
 show xu ?_<|e _<|Keeps.bG .app<|aE _;change(iD<|.int<|z).bind _=_;rw[kh #[by lia,by lia]];rfl
noncomputable def zP(c:List UInt8):List UInt8:=[98,108,111,98]++[32]++[aP<|48+c.length]++[0]++c
theorem UL{d:List UInt8}(e:zP c=zP d):c=d:=by have:(zP c).drop 7=(zP d).drop 7:=bS (e) B;show this
theorem vm{k:Nat}{e:List O}{Q:gT->List O->Prop}(X:bP e h d H)(g:H.length<250)(a:c.length<10)
  (l:∀Y,Keeps [d] e Y->bP Y h d (pZ H<|zP c)->Q (.ok<|.p<|.bytes<|uu H<|zP c) Y):LV (k+3) 306 [.ref h,.p<|.bytes [98,108,111,98],.p<|.bytes c] e Q:=by
 show enter B B B<|aN (bF X.obj) ?_;show lz B<|aN #[#[f9 (by decide)<|bj c.length,by change(c.length:Int)<1000000000;lia],?_] ?_
 ·change(gq<|c.length).length<=gr;rw[vY a];show c6 B
 show(vY a)▸(MA (dO [_] (48+V0+1) 128 (V0+1) 10 B a) λt f=>?_);show lz B<|lz B<|aN ?_ ?_
 ·change 7+c.length<=gr;show av (dO [_] (7+V0) 1000 (V0+1) 10 B a) jg
 show qw (X.keeps f ai ai) g λo q r=>l o (f.none.step q λi m x=>m) r
noncomputable def dl(s:Nat)(c:List UInt8):List UInt8:=aP s::aP c.length::aP c.length::c
theorem w4:(dl s c).length=c.length+3:=rfl
variable{v:V}{X:XX}{Γ:gI}
theorem pM{o:E}{c:Nat}{K:St->Prop}(e:∀k:V->St->Prop,k (.ref i) σ->ev Γ X o σ k)(h:qt σ c j v (.ref i) K):asg Γ X (.attr o c j) v σ K:=e _ h
theorem yv{o:E}{K:V->St->Prop}(e:∀k:V->St->Prop,k (.ref i) σ->ev Γ X o σ k)(h:Yw σ (.ref i) K):ev Γ X (.fz o) σ K:=e _ h
theorem tg{t a:E}{vs:List V}{K:St->Prop}(h:asg Γ X t v σ λσ=>Kc Γ X a vs σ K):Kc Γ X (.cons t a) (v::vs) σ K:=h
theorem MP:((List.range 128).all λn=>dj ((n:Nat):Int) 128==0)=aB:=by decide +kernel
theorem af9(h:n<128):dj (n:Int) 128=0:=beq_iff_eq.mp<|cQ.mp MP n<|cY.mpr h
abbrev Xo(e:List O)(r:Nat)(s:Nat)(c:List UInt8)(a:Int):Prop:=e[r]?=I (.inst 278 [I<|.p<|.bytes<|dl s c,I<|.p<|.int s,I<|.p<|.int c.length,I<|.p<|.int a])
theorem C1{a:List O}(e:s<128)(f:c.length<128)(o:∀Y,Keeps [] a Y->Xo Y a.length s c 2->Q (.ok<|.ref a.length) Y):LV (k+2) 278 [.p<|.bytes<|dl s c] a Q:=by show Ja (loc:=[I<|.ref a.length,I<|.p<|.bytes<|dl s c,A]) B B B B ?_;show iY (bJ) (bz B) ?_;have g:(aP s).toNat=s:=u8<|dO [_] (V0+1) 256 (V0+1) 128 B e;have l:(aP c.length).toNat=c.length:=u8<|dO [_] (V0+1) 256 (V0+1) 128 B f;show uD B (by rw[g];show e) ?_;rw[g];show aN B<|tg<|pM (λx h=>h)<|iY (cM bJ) (by show bz B) ?_;show ls B<|aN B ?_;show uD B (by rw[l];show f) ?_;rw[l];show aN B<|tg<|pM (λx h=>h)<|iY (cM<|cM bJ) (by show bz B)<|tg<|pM (λx h=>h)<|iY (by show cM<|cM<|cM bJ) (by show bz B) ?_;show aN B<|aN B ?_;show o _ (Keeps.bG (Keeps.bG (Keeps.bG (Keeps.bG .app<|aE _)<|aE _)<|aE _)<|aE _)<|cM<|cM<|cM<|cM bJ
theorem DK{r:Nat}{a:Int}{f:List O}(R:Xo f r s c a)(b:Bool)(e:decide (((c.length+3:Nat):Int)<=a)=b)(g:Q (.ok<|.p<|.bool b) f):LV (k+1) 253 [.ref r] f Q:=by show enter B B B<|bL R B<|bL R B<|PB b e g
theorem OZ{r:Nat}{e:List O}(R:Xo e r s c 2)(f:c.length<128)(g:∀Y,Keeps [r] e Y->Xo Y r s c 3->Q (.ok<|.p<|.int c.length) Y):LV (k+2) 261 [.ref r] e Q:=by show enter B B B<|aN (bF R)<|DK R au (decide_eq_false<|by lia)<|fj<|bL R B<|bL R B<|vQ (i:=2) (z:=aP c.length) B ?_;rw[u8<|show c.length<256 by show dO [_] (.a (.v 0)<|.n 1) (.n 256) (.a (.v 0)<|.n 1) (.n 128) B f];show ls B<|bL R B<|iY R (bz B)<|g _ .set<|cM R
noncomputable abbrev cmd(c:List UInt8):P:=.inst 228 [.int 0,.int c.length,.bytes c]
theorem NH{a:List O}(e:∀Y,Keeps [] a Y->Y[a.length]?=I (.inst 228 [I<|.p<|.int 0,I<|.p<|.int c.length,I<|.p<|.bytes c])->Q (.ok<|.ref a.length) Y):LV (k+1) 228 [.p<|.int 0,.p<|.int c.length,.p<|.bytes c] a Q:=by show Ja (nf:=3) B B B B<|iY (bJ) (by show bz B)<|iY (cM bJ) (by show bz B)<|iY (cM<|cM bJ) (by show bz B)<|aN B<|e _ (Keeps.bG (Keeps.bG (Keeps.bG .app<|aE _)<|aE _)<|aE _)<|cM<|cM<|cM bJ
theorem IB{r:Nat}{f:List O}(R:Xo f r s c 2)(g:c.length<128)(x:0<c.length)(o:∀Y,Keeps [r] f Y->Xo Y r s c (3+c.length)->Q (.ok<|.p<|cmd c) Y):LV (k+3) 275 [.ref r] f Q:=by
 show enter B B B<|aN (bF R)<|OZ R g λq t R1=>(ls B<|kT au (beq_eq_false_iff_ne.mpr<|by lia)<|YK au ?_ ?_)
 ·rw[af9 g];rfl
 show bL R1 B<|ls B<|bL R1 B<|iY R1 (bz B) ?_;have e:Xo (q.set r<|.inst 278 [I<|.p<|.bytes<|dl s c,I<|.p<|.int s,I<|.p<|.int c.length,I<|.p<|.int<|3+c.length]) r s c<|3+c.length:=cM R1;show bL e B<|bL e B<|mT au ?_ ?_
 ·show decide_eq_false<|by change ¬(((c.length+3:Nat):Int)<3+c.length);lia
 show bL e B<|wg (n:=3) B (bz B)<|bL e B<|wg (n:=3+c.length) (by lia) (dO [_] (3+V0+1) 1000000 (V0+1) 128 B g)<|u9 (c:=c) (Ej (a:=[aP s,aP c.length,aP c.length]) (b:=c) (by rw[aY];rfl) B B)<|NH λC l w=>(Bp w B<|o _ ?_ ?_)
 ·show(t.xA<|.head _).step (l.bG<|aE _) λi m=>(cO m)
 ·show(l.bG<|aE _).get e ai
theorem AV{a:List O}(e:Q (.ok<|.p<|.bool au) a):LV (k+1) 224 [.p<|cmd c] a Q:=by show enter B B B<|nE au B e
theorem GL{a:List O}(w:s<128)(o:c.length<128)(x:0<c.length)(A:∀Y,Keeps [] a Y->Q (.ok<|.p<|.lst [cmd c]) Y):LV (k+4) 289 [.p<|.bytes<|dl s c] a Q:=by
 show enter (loc:=[I<|.p<|.bytes<|dl s c,az,az,az,az]) B B B<|C1 w o λq f R1=>?_;show lz B<|aN B<|ls B<|ls B<|ls B<|wh2 ?_;have e:Xo (q++[.list []]) a.length s c 2:=(Keeps.app).get R1 ai;show aN (bF e)<|DK e au (decide_eq_false<|by lia)<|fj<|aN (bF e)<|IB e o x λC r t=>?_;have g:=r.get bJ λm=>absurd (ah.mp m)<|bT<|iC R1;show ls B<|aN B<|AV<|fj<|ls B<|bL t B<|mT au ?_ ?_
 ·show decide_eq_false<|by lia
 show aN (gf g)<|j3 g<|ls B ?_;have l:Xo (C.set q.length<|.list [cmd c]) a.length s c<|3+c.length:=(Keeps.set).get t λm=>absurd (ah.mp m).symm<|bT<|iC R1;show aN (bF l)<|DK l aB (decide_eq_true<|by lia)<|fj<|bL l B<|Hp au ?_ ?_
 ·show decide_eq_false<|by lia
 show yv (λZ h=>h)<|ua (cM g) ?_;show A _<|Keeps.bG (Keeps.bG (f.push.step r λi m h=>?_) f.len) f.len;rw[ah.mp m]at h;show absurd h<|cP _
theorem Hh{e:List O}(f:b.length<128)(a:c.length<128)(q:0<c.length)(r:∀Y,Keeps [] e Y->Q (.ok<|.p<|.bytes c) Y):LV (k+5) 296 [.p<|.bytes b,.p<|.bytes<|dl b.length c] e Q:=by show enter (loc:=[I<|.p<|.bytes b,I<|.p<|.bytes<|dl b.length c,A,A]) B B B<|C1 f a λt g R1=>(bL R1 B<|FQ au (by simp) ?_);show aN B<|ls B ?_;show GL f a q λw l=>?_;have o:=l.get bJ ai;show ls B<|aN B ?_;show AV<|fj<|adR o ?_;show aN (av (by show dO [_] (0+V0) 1000 (V0+1) 128 B a) jg)<|ls B ?_;show CF (cM o)<|r _<|Keeps.bG (g.push.and l) g.len
noncomputable def dm(f:β->V)(l:List<|List UInt8×β):List<|Ky×V:=l.map λx=>(.b x.1,f x.2)
noncomputable def lk(l:List<|List UInt8×β)(q:List UInt8):Option β:=(l.find? λx=>x.1=q).map (·.2)
theorem tG{x:List UInt8×β}{l:List<|List UInt8×β}{q:List UInt8}:lk (x::l) q=if x.1=q then I x.2 else lk l q:=by
 unfold lk;rw[gu];by_cases h:x.1=q
 ·rw[if_pos h,decide_eq_true h];rfl
 ·rw[if_neg h,decide_eq_false h]
theorem se{f:β->V}{q:List UInt8}:∀{l:List<|List UInt8×β},fR (dm f l) (.b q)=(lk l q).map f:=by
 intro l;induction l with
 |nil=>show B
 |cons x l a=>
  change fR ((_,_)::dm f l) _=_;rw[kI,a,tG];by_cases h:x.1=q
  ·rw[if_pos<|congrArg Ky.b h,if_pos h];rfl
  ·rw[if_neg λe=>h<|by injection e,if_neg h]
theorem JA{f:β->V}{q:List UInt8}{v:β}{l:List<|List UInt8×β}(h:lk l q=A):kU (dm f l) (.b q) (f v)=dm f (l++[(q,v)]):=by rw[mQ<|by rw[se,h];rfl];unfold dm;rw[aO];rfl
theorem aaz{l m:List<|List UInt8×β}{q:List UInt8}:lk (l++m) q=(lk l q).or (lk m q):=by unfold lk;show bS (wU) ?_;induction ac1 (λx=>decide (x.1=q)) l<;>rfl
theorem tK{l:List<|List UInt8×β}{q:List UInt8}:lk l q=A ↔ q∉l.map (·.1):=by
 induction l with
 |nil=>show#[λw=>ai,λw=>rfl]
 |cons x l a=>
  show bS (tG) ?_;rw[bK,aC,not_or];by_cases h:x.1=q
  ·rw[if_pos h];show#[λe=>(pO e),λe=>absurd h.symm e.1]
  ·rw[if_neg h];show a.trans #[λe=>#[Ne.symm h,e],λe=>e.2]
theorem IZ{f:β->V}{l:List<|List UInt8×β}:(dm f l).length=l.length:=ay ..
noncomputable abbrev blob:P:=.bytes [98,108,111,98]
structure cJ where
 o:List UInt8
 c:List UInt8
 wc:Bool
 base:Option (List UInt8×Nat)
noncomputable def cJ.con(e:cJ):P:=match e.base with
 |none=>.bytes e.c
 |some _=>match e.wc with
  |true=>.bytes e.c
  |false=>.none
noncomputable def cJ.bo(e:cJ):P:=match e.base with
 |none=>.none
 |some b=>.bytes b.1
noncomputable def cJ.de(e:cJ):P:=match e.base with
 |none=>.none
 |some b=>.bytes<|dl b.2 e.c
def cJ.val(e:cJ):P:=.inst 345 [.bytes e.o,blob,e.con,e.bo,e.de]
noncomputable def cJ.isD(e:cJ):Bool:=e.base.isSome
noncomputable def cJ.size(e:cJ):Nat:=match e.base with
 |none=>e.c.length+2
 |some _=>e.c.length+6
noncomputable def cJ.back(e:cJ)(f:List<|List UInt8×Nat)(a:Nat):Nat:=match e.base with
 |none=>0
 |some b=>a-(lk f b.1).getD 0
noncomputable def cJ.piece(e:cJ)(a:Nat):List UInt8:=match e.base with
 |none=>aP (3*16+e.c.length)::aP e.c.length::e.c
 |some b=>aP (6*16+(e.c.length+3))::aP a::aP (e.c.length+3)::dl b.2 e.c
variable{bk:Nat}{e:cJ}
theorem cJ.mE:(e.piece bk).length=e.size:=by unfold cJ.piece cJ.size;induction e.base<;>rfl
structure cJ.Ok(e:cJ):Prop where
 c0:0<e.c.length
 c9:e.c.length<10
 b9:∀b,e.base=I b->b.2<10
theorem sG{a:List O}(f:Q (.ok<|.p<|.bool e.isD) a):LV (k+1) 342 [.p e.val] a Q:=by
 show enter B B B ?_;obtain⟨o,c,g,base⟩:=e;induction base with
 |none=>show fy aB B<|fj f
 |some b=>show fy au B<|fj<|fy au B f
structure iZ(U:List O)(b h ci lp ld:Nat)(ps:List (List UInt8))(pl:List (List UInt8×Nat))(at_:Nat):Prop where
 obj:U[b]?=I (.inst 388 [I<|.ref h,I<|.ref ci,I<|.p<|.bool aB,I<|.ref lp,I<|.p<|.int at_,I<|.ref ld])
 pq:U[lp]?=I (.list<|ps.map .bytes)
 plc:U[ld]?=I (.dict aB<|dm (λn=>.p<|.int (n:Nat)) pl)
 cod:U[ci]?=I (.inst 748 [])
noncomputable abbrev nV(n:Nat):V:=.p<|.int n
theorem EB{n:Nat}{x:Int}{a:List O}(e:x=n)(f:n<128)(g:∀Y,Keeps [] a Y->Q (.ok<|.p<|.bytes [aP n]) Y):LV (k+1) 166 [.p<|.int x] a Q:=by subst e;show BQ f g
theorem zy{l:List<|List UInt8×β}{q:List UInt8}(h:q∈l.map (·.1)):∃v,lk l q=I v:=by
 induction e:lk l q with
 |some v=>show#[v,rfl]
 |none=>show absurd h<|tK.mp e
variable{ps:List (List UInt8)}{pl:List (List UInt8×Nat)}{at_ ci ld lp:Nat}
theorem yh{k b:Nat}{l:List O}{Q:gT->List O->Prop}(d:iZ l b h ci lp ld ps pl at_)(A:e.Ok)(F:∀x,e.base=I x->∃p,lk pl x.1=I p/\p<=at_/\at_-p<128)
  (r:∀Y,Keeps [] l Y->Q (.ok<|.p<|.bytes<|e.piece<|e.back pl at_) Y):LV (k+3) 371 [.ref b,.p e.val] l Q:=by
 obtain⟨o,c,i,base⟩:=e;show enter B B B ?_;show aN B<|sG ?_;have U:0<c.length:=A.c0;have f:c.length<10:=A.c9;induction base with
 |none=>show fj<|aN B<|ls B<|nE au B<|nE au B<|La (n:=3) (.head _) (dO [_] (V0+1) 16 (V0+1) 10 B f) λL a=>(bL (a.get d.obj ai) B<|aN (bF<|a.get d.cod ai)<|KY (aW f<|bz B) λC t=>?_);show aN ?_<|r C<|a.and t;show av (dO [_] (1+(V0+1)) 1000 (V0+1) 10 B f) jg
 |some x=>
  obtain⟨p,w,W,M⟩:=F x B;show fj<|bL d.obj B<|aN (bF d.cod)<|KY (by rw[w4];show dO [_] (V0+3+1) 128 (V0+1) 10 B f) λL a=>?_;have g:=a.get d.obj ai;have D:=a.get d.plc ai;show ls B<|bL g B<|fj<|bL g B<|vL (q:=.b x.1) D B<|(se)▸(w)▸(bL g B<|bL g B<|lD (q:=.b x.1) (z:=nV p) D B (by rw[se,w];rfl)<|EB (n:=at_-p) (by omega) M λC t=>(ls B<|La (n:=6) (.tail _<|.head _) (dO [_] (V0+3+1) 16 (V0+1) 10 B f) λR T=>(lz B<|aN ?_ ?_)))
  ·change 2+(c.length+3+1)<=gr;show av (dO [_] (2+(V0+3+1)) 1000 (V0+1) 10 B f) jg
  have e:cJ.back #[o,c,i,I x] pl at_=at_-p:=by change at_-(lk pl x.1).getD 0=_;rw[w];rfl
  rw[e]at r;show r R<|(a.and t).and T
theorem O0{k b:Nat}{t:List O}{Q:gT->List O->Prop}(c:iZ t b h ci lp ld ps pl at_)(R:e.Ok)(L:lk pl e.o=A)(T:∀x,e.base=I x->∃p,lk pl x.1=I p/\p<=at_/\at_-p<128)(w:ps.length<100)(U:pl.length<100)
  (W:∀Y,Keeps [b,lp,ld] t Y->iZ Y b h ci lp ld (ps++[e.piece<|e.back pl at_]) (pl++[(e.o,at_)]) (at_+e.size)->Q (.ok<|nV at_) Y):LV (k+4) 378 [.ref b,.p e.val] t Q:=by
 show enter B B B<|bL c.obj B<|vL c.plc B ?_;show bS (se)<|bS (L)<|aN (bF c.obj)<|yh c R T λd f=>?_;have o1:=f.get c.obj ai;have a:=f.get c.pq ai;have r:=f.get c.plc ai;have c1:=f.get c.cod ai;have g:=jF a o1 B;have l:=jF r o1 B;have q:=jF r a B;have C:=jF c1 r B;show ls B<|bL o1 B<|ls B<|bL o1 B<|aN (gf a)<|j3 a<|aN (by rw[ay];show aH (dO [_] (V0+1) 1000 (V0+1) 100 B w) jg) ?_;have D:=@Keeps.set d lp<|.list<|ps.map P.bytes++[.bytes<|e.piece<|e.back pl at_];have o2:=D.get o1 λm=>g (ah.mp m).symm;have M:=D.get r λm=>q<|ah.mp m;show bL o2 B<|sZ M B (by rw[IZ];show aH (by show dO [_] (V0+1) 1000 (V0+1) 100 B U) jg) ?_;have F:=@Keeps.set (d.set lp<|.list<|ps.map P.bytes++[.bytes<|e.piece<|e.back pl at_]) ld<|.dict aB<|kU (dm nV pl) (.b e.o)<|nV at_;have o3:=F.get o2 λm=>l (ah.mp m).symm;show bL o3 B<|pM (λZ h=>h)<|iY o3 (bz B) ?_;have i:=λo=>@Keeps.set ((d.set lp<|.list<|ps.map P.bytes++[.bytes<|e.piece<|e.back pl at_]).set ld<|.dict aB<|kU (dm nV pl) (.b e.o)<|nV at_) b o;show W _ ?_ #[?_,?_,?_,?_]
 ·show((((f.none).xA<|.tail _<|.head _).xA<|.tail _<|.tail _<|.head _).xA<|.head _)
 ·show(cM o3).trans ?_;rw[show((at_+e.size:Nat))=(at_:Int)+((e.piece<|e.back pl at_).length:Nat)by rw[cJ.mE];show Uq ..];rfl
 ·show(i _).get (F.get (cM a) λm=>q (ah.mp m).symm) (λm=>g<|ah.mp m)|>.trans ?_;rw[aO];rfl
 ·show((i _).get (cM M) λm=>l<|ah.mp m).trans<|sB (JA L) B
 ·show(i _).get (F.get (D.get c1 λm=>(jF c1 a B)<|ah.mp m) λm=>C<|ah.mp m) λm=>(jF c1 o1 B)<|ah.mp m
theorem sa{a:List<|Option V}{f:List O}{c:Nat}{K:St->Prop}(e:f[i]?=I (.inst c fs))(g:j<fs.length)(h:∀Y,Keeps [i] f Y->Y.length=f.length->Y[i]?=I (.inst c<|fs.set j<|I y)->K #[a,Y]):qt #[a,f] c j y (.ref i) K:=iY e g<|h _ .set (cD ..)<|cM e
theorem Keeps.s1{g:List Nat}{a b c:List O}(K:Keeps g a b)(L:Keeps [i] b c)(h:a.length<=i):Keeps g a c:=K.step L λx m f=>absurd f<|cH.mpr<|ah.mp m▸h
theorem ss{a:List<|Option V}{f:List O}{g:List<|Ky×V}{y:P}{q:Ky}{z:V}{k:St->Prop}(e:f[i]?=I (.dict kb g))(l:y.Ax kb=I q)(o:g.length<gr)(h:∀Y,Keeps [i] f Y->Y.length=f.length->Y[i]?=I (.dict kb<|kU g q z)->k #[a,Y]):qN #[a,f] z (.ref i) (.p y) k:=sZ e l o<|h _ .set (cD ..)<|cM e
theorem ap{k:V->St->Prop}{f:List<|Option V}{a:List O}{g:List P}{y:P}(e:a[i]?=I (.list g))(l:g.length<gr)(h:∀Y,Keeps [i] a Y->Y.length=a.length->Y[i]?=I (.list<|g++[y])->k (.p .none) #[f,Y]):yX a .Add (.ref i)=aB/\bO (Kr a<|.ref i) (adi k #[f,a] y):=#[gf e,bq (aak e) #[l,h _ .set (cD ..)<|cM e]]
theorem Th{test:St->(Bool->St->Prop)->Prop}{body:St->(Fl->St->Prop)->Prop}{K:Fl->St->Prop}{I:Nat->St->Prop}
  (h:∀m σ,I m σ->∀W:St->Prop,(∀j a,j<m->I j a->W a)->test σ λb a=>match b with|true=>body a λf o=>(match f with | .ret v=>K (.ret v) o | _=>W o) | au=>K .next a) :
  ∀{n m:Nat}{σ:St},m<n->I m σ->sy test body n σ K:=by
 intro n;induction n with
 |zero=>show λg=>absurd g<|fc _
 |succ n p=>show λ{m σ} g q=>h m σ q _ λj a r l=>p (aH r<|gn g) l
variable{τ:Type}
theorem nD{τ:Type}{test:St->(Bool->St->Prop)->Prop}{body:St->(Fl->St->Prop)->Prop}{K:Fl->St->Prop}(L:τ->List (Option V))(I:Nat->τ->List O->Prop)
  (h:∀m t a,I m t a->∀W:St->Prop,(∀j t' Y,j<m->I j t' Y->W #[L t',Y])->test #[L t,a] λb o=>match b with|true=>body o λf p=>(match f with | .ret v=>K (.ret v) p | _=>W p) | au=>K .next o)
  (m) (t) {a:List O} (g:I m t a):∃n,sy test body n #[L t,a] K:=
 #[m+1,Th (I:=λm σ=>∃t a,σ=#[L t,a]/\I m t a) (λm σ g W q=>g.elim λt g=>g.elim λa g=>bS (g.1)<|h m t a g.2 W λj t' Y r l=>q j _ r #[t',Y,rfl,l]) (bE m) #[t,a,rfl,g]]
theorem HQ{t:E}{r:S}{a:List<|Option V}{f:List O}(h:∀Y,Keeps [] f Y->Y.length=f.length+1->Y[f.length]?=I (.list [])->asg Γ X t (.ref f.length) #[a,Y] λτ=>ex Γ X r τ K):ex Γ X (.cons (.asg t<|.lst .nil) r) #[a,f] K:=lz B<|h _ .app (aj ..) bJ
theorem Dr{t:E}{r:S}{a:List<|Option V}{f:List O}(h:∀Y,Keeps [] f Y->Y.length=f.length+1->Y[f.length]?=I (.dict kb [])->asg Γ X t (.ref f.length) #[a,Y] λτ=>ex Γ X r τ K):ex Γ X (.cons (.asg t<|.dict kb) r) #[a,f] K:=h _ .app (aj ..) bJ
theorem AY{k f C nf:Nat}{g:List P}{body:S}{vs:List V}{a:List O}{loc:List<|Option V}{Q:gT->List O->Prop}(e:uv Uh f=I #[au,I C,n,np,g,body])(l:Cq.argsOk #[au,I C,n,np,g,body] (vs.length+1)=aB)(o:r9 n (nk np g (.ref a.length::vs))=loc)(en:(nu C).length=nf)
  (h:∀Y,Keeps [] a Y->Y.length=a.length+2->Y[a.length]?=I (.inst C<|eJ nf A)->ex (LV k) D3 body #[loc,Y] λf σ=>kJ f=.p .none/\Q (.ok<|.ref a.length) σ.U):LV (k+1) f vs a Q:=
 Ja e l o en (h _ .app (aj ..) bJ)
theorem cX(h:i≠j):i∉[j]:=λm=>h<|ah.mp m
variable{a:Nat}
theorem iZ.keeps{f:List O}{l:List Nat}{b:Nat}(g:iZ f b h ci lp ld ps pl a)(K:Keeps l f Y)(n:∀i∈[b,lp,ld,ci],i∉l):iZ Y b h ci lp ld ps pl a:=
 #[K.get g.obj<|n _<|.head _,K.get g.pq<|n _<|.tail _<|.head _,K.get g.plc<|n _<|.tail _<|.tail _<|.head _,K.get g.cod<|n _<|.tail _<|.tail _<|.tail _<|.head _]
theorem qU{f:List O}(c:f[ci]?=ae (.inst 748 []))(I:∀Y lp ld,Keeps [] f Y->f.length<lp->f.length<ld->iZ Y f.length h ci lp ld [] [] 12->Q (.ok<|.ref f.length) Y):LV (k+1) 388 [.ref h,.ref ci,.p<|.bool aB] f Q:=by show AY (nf:=6) B B B B λdH L M R=>(sa R (bz B) λeR T U W=>(sa W (bz B) λgY Y' Z d=>(sa d (bz B) λA e g j=>(HQ λqu B' n s=>(pM (λ_ h=>h)<|sa (B'.get j ai) (bz B) λsL C v z=>(sa z (bz B) λH D l J=>(Dr λW3 o l8 X=>(pM (λ_ h=>h)<|sa (o.get J ai) (bz B) λq r l9 e9=>?_))))))));have g:=g.trans<|Z.trans<|U.trans M;have l:=l.trans (v.trans (n.trans (congrArg (· + 1) g)));have t:A.length≠f.length:=(λw=>jX<|fZ [_,_] 1 0 V0 V1 (V1+2) V0 B (ak w)<|ak g.symm);have K:∀{a b:List O},Keeps [] f a->Keeps [f.length] a b->Keeps [] f b:=λx y=>x.step y λi m h=>absurd (ah.mp m)<|aS h;have F:=K ((K (K ((K (K (K L T) Y') e).and B') C) D).and o) r;show aN B ?_;show I q A.length H.length F (dO [_,_] (V0+1) V1 (V0+2) V1 B<|ak g.symm) (dO [_,_] (V0+1) V1 (V0+3) V1 B<|ak l.symm) #[e9,?_,r.get X<|cX<|(λw=>jX<|fZ [_,_] 1 0 V0 V1 (V1+3) V0 B (ak w)<|ak l.symm),F.get c ai];show r.get (o.get (D.get (C.get s<|cX t)<|cX t) ai)<|cX t
def fq(ps:List<|List UInt8):List UInt8:=[80,65,67,75]++BF 2++BF ps.length++ps.flatten
def DN(H ps:List<|List UInt8):List UInt8:=fq ps++uu H (fq ps)
theorem rf{ps:List<|List UInt8}:(fq ps).length=12+ps.flatten.length:=by unfold fq;rw[aj];rfl
theorem NW{k:Nat}{f:List O}{Q:gT->List O->Prop}(X:bP f h d H)(r:H.length<250)(t:ps.length<256)(g:ps.flatten.length<900)
  (w:∀Y,Keeps [d] f Y->bP Y h d (pZ H<|fq ps)->Q (.ok<|.p<|.bytes<|DN H ps) Y):LV (k+3) 399 [nV ps.length,.p<|.bytes ps.flatten,.ref h] f Q:=by
 show enter B B B ?_;show KG (bz B) λC l=>(lz B ?_);show KG t λD o=>?_;show lz B<|aN ?_<|ls B ?_
 ·change 12+ps.flatten.length<=gr;show av (dO [_] (12+V0) 1000 (V0+1) 900 B g) jg
 have q:=(X.keeps l ai ai).keeps o ai ai;show aN (bF q.obj)<|qw q r λx R M=>?_;show aN ?_<|w x ((l.and o).none.step R λZ m Z=>m) M;change(fq ps).length+4<=gr;show bS (rf)<|av (dO [_] (12+V0+4) 1000 (V0+1) 900 B g) jg
theorem nJ{ps:List<|List α}:eg [] ps=ps.flatten:=by
 induction ps with
 |nil=>rfl
 |cons x r=>show congrArg (x++·)<|congrArg Zo<|p8 r
theorem Jw:jr P.iQ (ps.map P.bytes)=I ps:=by have:=j1 (f:=P.iQ) (g:=P.bytes) (h:=id) (L:=ps) λx x=>rfl;rwa [p8]at this
theorem ahg{f:List O}{k:List (List UInt8)->Prop}(e:f[i]?=I (.list<|ps.map .bytes))(h:k ps):bO (((one [V.ref i]).bind<|g9 f).bind<|jr P.iQ) k:=by show bq ?_ h;change(g9 f<|.ref i).bind _=_;show bS (kL e) Jw
theorem AU{k b:Nat}{f:List O}{Q:gT->List O->Prop}(r:iZ f b h ci lp ld ps pl at_)(X:bP f h d H)(l:H.length<250)(o:ps.length<256)(g:ps.flatten.length<900)
  (q:∀Y,Keeps [d] f Y->bP Y h d (pZ H<|fq ps)->Q (.ok<|.p<|.bytes<|DN H ps) Y):LV (k+4) 385 [.ref b] f Q:=by show enter B B B<|bL r.obj B<|vp r.pq<|aN B<|bL r.obj B<|ahg r.pq<|aN (by rw[nJ];show av (dO [_] V0 1000 (V0+1) 900 B g) jg)<|bL r.obj B ?_;rw[nJ,ay];show NW X l o g q
noncomputable def iE(a:Nat)(l:List cJ):List<|List UInt8×Nat:=l.foldr (λe k a=>(e.o,a)::k (a+e.size)) (λx=>[]) a
noncomputable def pq(pl:List<|List UInt8×Nat)(a:Nat)(l:List cJ):List<|List UInt8:=l.foldr (λe k pl a=>e.piece (e.back pl a)::k (pl++[(e.o,a)]) (a+e.size)) (λx x=>[]) pl a
variable{r:List cJ}
theorem xN:iE a (e::r)=(e.o,a)::iE (a+e.size) r:=rfl
theorem QD:pq pl a (e::r)=e.piece (e.back pl a)::pq (pl++[(e.o,a)]) (a+e.size) r:=rfl
noncomputable def gz(f:List cJ):Nat:=(f.map cJ.size).sum
theorem nB{a b:List cJ}:gz (a++b)=gz a+gz b:=by unfold gz;rw[aO,List.sum_append]
theorem sD{f fs:List cJ}:iE a (f++fs)=iE a f++iE (a+gz f) fs:=by
 induction f generalizing a with
 |nil=>rfl
 |cons e r g=>rw[cT,xN,xN,g,cT,show gz (e::r)=e.size+gz r from iz ..,eE]
theorem zu:∀{f fs:List cJ}{a:Nat}{pl:List<|List UInt8×Nat},pq pl a (f++fs)=pq pl a f++pq (pl++iE a f) (a+gz f) fs:=by
 intro f;induction f with
 |nil=>intro fs a pl;change _=pq (pl++[]) a fs;rw[aY];rfl
 |cons e r g=>intro fs a pl;rw[cT,QD,QD,g,cT,xN,show gz (e::r)=e.size+gz r from iz ..,eE,aJ];rfl
theorem jM{f:List cJ}:(pq pl a f).length=f.length/\(pq pl a f).flatten.length=gz f:=by
 induction f generalizing a pl with
 |nil=>show#[rfl,rfl]
 |cons e r g=>show#[congrArg (· + 1) g.1,?_];show bS QD<|bS fT<|bS aj<|bS g.2<|bS cJ.mE ?_;show(iz ..).symm
theorem qx{f:List cJ}:(iE a f).map (·.1)=f.map cJ.o:=by
 induction f generalizing a with
 |nil=>rfl
 |cons e r g=>show congrArg (e.o::·) g
theorem vU{f:List cJ}:(iE a f).length=f.length:=by rw[<- ay,qx,ay]
theorem A0{q:List UInt8}{p:Nat}:∀{f:List cJ}{a:Nat},lk (iE a f) q=I p->a<=p/\p<a+gz f+1:=by
 intro f;induction f with
 |nil=>intro _ h;show(bh h)
 |cons e r g=>
  intro a h;rw[xN,tG]at h;rw[show gz (e::r)=e.size+gz r from iz ..];by_cases z:e.o=q
  ·replace h:=(if_pos z)▸h;cases h;show#[aE _,by lia]
  ·rw[if_neg z]at h;have:=g h;show#[dO [_,_,_] V0 V1 (V0+V2) V1 B this.1,dO [_,_,_,_] (V0+1) (V1+(V2+V3)+1) (V0+1) (V1+V2+V3+1) B this.2]
theorem wm(h:e.Ok):e.size<16:=by
 obtain⟨o,c,f,base⟩:=e;induction base with
 |none=>change c.length+2<16;show dO [_] (V0+2+1) 16 (V0+1) 10 B h.c9
 |some b=>change c.length+6<16;show dO [_] (V0+6+1) 16 (V0+1) 10 B h.c9
theorem Jv{f:List cJ}(h:∀e∈f,e.Ok):gz f<=16*f.length:=by
 induction f with
 |nil=>show aE _
 |cons e r g=>show bS (show gz (e::r)=e.size+gz r from iz ..)<|bS aX ?_;show fZ [_,_,_] (V0+V1) (lm 16<|V2+1) (V0+1) 16 V1 (lm 16 V2) B (wm<|h e<|.head _)<|g λx m=>h x<|.tail _ m
structure Good(Z:List cJ):Prop where
 ok:∀e∈Z,e.Ok
 once:∀p x r,Z=p++x::r->x.o∉p.map cJ.o
 base:∀p x r,Z=p++x::r->∀b,x.base=I b->b.1∈p.map cJ.o
 few:Z.length<=7
def mX(H:List<|List UInt8)(f:List cJ):List UInt8:=DN H<|pq [] 12 f
def cz(f:List cJ):List UInt8:=fq<|pq [] 12 f
theorem Sp(f:α->P){step:P->St->(Fl->St->Prop)->Prop}(R:List α->St->Prop){o:List α}{k:Fl->St->Prop}:∀{pre:List α}{σ:St},
  (∀p x r,pre++o=p++x::r->∀σ k,R p σ->(∀g,R (p++[x]) g->k .next g)->(∀g,R (p++[x]) g->k .cont g)->step (f x) σ k)->R pre σ->(∀g,R (pre++o) g->k .next g)->Cp step (o.map f) σ k:=by
 induction o with
 |nil=>intro pre σ _ h t;show t σ<|by rw[aY];show h
 |cons x r M=>intro pre σ w h t;have T:∀g,R (pre++[x]) g->Cp step (r.map f) g k:=λg C=>M (λp y q e=>w p y q<|by rw[<- e,aJ];rfl) C λD l=>t D (by rw[aJ]at l;show l);show w pre x r B σ _ h T T
theorem AL{k:Nat}{f:List cJ}{g:List O}{Q:gT->List O->Prop}(G:Good f)(X:bP g h d H)(c:g[ci]?=I (.inst 748 []))(I':H.length<250)
  (L:∀Y,Keeps [d] g Y->bP Y h d (pZ H<|cz f)->Q (.ok<|.p<|.bytes<|mX H f) Y):LV (k+5) 407 [.p<|.lst<|f.map cJ.val,.ref h,.ref ci] g Q:=by
 show enter (loc:=wI (I<|.p<|.lst<|f.map cJ.val) (I<|.ref h) (I<|.ref ci) (I<|.p<|.bool aB) az az) B B B ?_;have M:=Jv G.ok;have l:=G.few;show qU c λR lp ld T U W Y'=>?_;show ls B<|Sp cJ.val (pre:=[]) (λp σ=>∃v o,σ=#[wI (I<|.p<|.lst<|f.map cJ.val) (I<|.ref h) (I<|.ref ci) (I<|.p<|.bool aB) (I<|.ref g.length) v,o]/\Keeps [] g o/\iZ o g.length h ci lp ld (pq [] 12 p) (iE 12 p) (12+gz p)) ?_ #[_,R,rfl,T,Y'] ?_
 ·rintro p x r e σ K ⟨v,o,rfl,A,t⟩ Z _;have e:f=p++x::r:=e;have j:=G.ok x<|bS e<|aG _<|.head _;have Y:=Jv λy m=>G.ok y<|bS e<|aU _ m;have B':p.length+1<=f.length:=by show bS e<|bS aj<|bS aX ?_;show Fo [_,_] (V0+1) (V0+(V1+1)) B
  show ls B<|aN (bF t.obj)<|O0 t j (tK.mpr<|bS (qx)<|G.once p x r e) (λb s=>?_) (by rw[jM.1];show fZ [_,_] (V0+1) 100 V1 7 (V0+1) V1 B l B') (by rw[vU];show fZ [_,_] (V0+1) 100 V1 7 (V0+1) V1 B l B') λC D z=>?_
  ·obtain⟨q,w⟩:=zy (show b.1∈(iE 12 p).map (·.1)by show bS qx<|G.base p x r e b s);have:=A0 w;show#[q,w,(dO [_,_] V0 (12+V1) (V0+1) (12+V1+1) B this.2),(Um [_,_,_,_] (.a (.v 0)<|.n 1) (.n 128) (.m 16<|.v 1) (.m 16<|.n 7) (.v 2) (.m 16<|.v 3) (.m 16<|.a (.v 3)<|.n 1) (.m 16<|.v 1) (.v 0) (.a (.n 12)<|.v 2) B (bW 16 l) Y (bW 16 B')<|rQ _ _)]
  ·show Z _ #[_,C,rfl,?_,?_]
   ·show A.step D λi m F=>?_;rcases aC.mp m with rfl|m
    ·show absurd F<|cP _
    ·rcases aC.mp m with rfl|m
     ·show absurd F<|cH.mpr<|dO [_,_] V1 V0 (V1+1) V0 B U
     ·cases ah.mp m;show absurd F<|cH.mpr<|dO [_,_] V1 V0 (V1+1) V0 B W
   ·rw[zu,sD,nB,<- eE];show z
 ·rintro ji ⟨v,o,rfl,A,t⟩;show aN (bF t.obj)<|AU t (X.keeps A ai ai) I' (by change(pq [] 12 f).length<256;rw[jM.1];show dO [_] (V0+1) 256 V0 7 B l) (by change(pq [] 12 f).flatten.length<900;show rj [_,_,_] (V0+1) 900 V1 (lm 16 V2) (lm 16 V2) (lm 16 7) V0 V1 B M (bW 16 l)<|ak jM.2) λC D J=>L C (A.none.step D λ_ m _=>m) J
theorem PW{f a c:List α}{g:Nat}(e:f=a++c)(h:g=a.length):cut f A (I (g:Int))=a:=by subst e h;unfold cut;rw[qR,iM<|by rw[aj];lia];show jK ..
theorem adG{f a b:List α}{g:Nat}(e:f=a++b)(h:g=a.length):cut f (I (g:Int)) A=b:=by subst e h;have l:(a++b).length=a.length+b.length:=aj;unfold cut;rw[qR,iM<|by lia,BK];change b.take ((a++b).length-a.length)=b;show Fx<|by lia
theorem Ad(h:c∈H):pZ H c=H:=if_pos h
noncomputable abbrev scan(a:Nat)(f s:Nat)(b:P)(c:List UInt8)(z:Nat):P:=.inst 460 [.int a,.int f,.int s,b,.none,.bytes c,.int z]
theorem Ag{g l o q t w A:P}{f:List O}(B':∀Y,Keeps [] f Y->Y[f.length]?=I (.inst 460 [I<|.p g,I<|.p l,I<|.p o,I<|.p q,I<|.p t,I<|.p w,I<|.p A])->Q (.ok<|.ref f.length) Y):LV (k+1) 460 [.p g,.p l,.p o,.p q,.p t,.p w,.p A] f Q:=by show AY (nf:=7) B B B B λr C s D=>?_;show sa D (bz B) λv F z I'=>?_;show sa I' (bz B) λH L J M=>(sa M (bz B) λX R l3 T=>?_);show sa T (bz B) λkQ U l4 W=>(sa W (bz B) λqu Y' l5 Z=>?_);show sa Z (bz B) λsL c l6 d=>(sa d (bz B) λe j l7 n=>?_);have K:∀{a b:List O},Keeps [] f a->Keeps [f.length] a b->Keeps [] f b:=λx y=>x.step y λi m h=>absurd (ah.mp m)<|aS h;show aN B<|B' e (K (K (K (K (K (K (K C F) L) R) U) Y') c) j) n
theorem yi{k:Nat}{a r:List UInt8}{f:List O}{Q:gT->List O->Prop}(g:f[ci]?=I (.inst 748 []))(l:b.length<999000)(eb:b=a++(aP n::c)++r)(o:i=a.length)(q:n=c.length)(t:n<128)
  (w:Q (.ok<|.p<|.tup [.bytes c,.int<|i+1+n]) f):LV (k+3) 478 [.ref ci,.p<|.bytes b,.p<|.int i] f Q:=by show enter B B B ?_;show aN (bz B)<|aN (bz B) ?_;show aN (bF g)<|Nq l eb o q t<|aN (bz B)<|nE au B w
structure Xp(b:List UInt8)(a:_)(kn s bk p:Nat)(c:List UInt8)(pre post:List UInt8):Prop where
 k36:kn=3∨kn=6
 s0:0<s
 s9:s<16
 sc:s=c.length
 at_:a=pre.length
 small:b.length<999000
 whole:kn=3->b=pre++(aP (kn*16+s)::(aP s::c))++post
 delta:kn=6->b=pre++(aP (kn*16+s)::aP bk::(aP s::c))++post/\0<bk/\bk<128/\a=p+bk
noncomputable def AA(ps:List Nat):List<|Ky×V:=ps.map λ(p:Nat)=>(.i p,.p<|.bool aB)
theorem G1{p:Nat}:∀{ps:List Nat},fR (AA ps) (.i p)=if p∈ps then I (.p<|.bool aB) else A:=by
 intro ps;induction ps with
 |nil=>show B
 |cons x r f=>
  change fR ((_,_)::AA r) _=_;show bS kI<|bS f ?_;by_cases h:x=p
  ·rw[if_pos<|bS h B,if_pos<|by rw[h];show .head _]
  ·rw[if_neg λe=>h<|jf<|by injection e];by_cases m:p∈r
   ·rw[if_pos m,if_pos<|.tail _ m]
   ·rw[if_neg m,if_neg λz=>m<|(aC.mp z).resolve_left<|Ne.symm h]
def ZR(a f s p:Nat)(c:List UInt8):P:=scan a f s (if f=6 then .int p else .none) c<|a+(if f=6 then 3 else 2)+s
variable{post pre:List UInt8}{sd:Nat}
theorem Jp{k p h:Nat}{ps:List Nat}{f:List O}{Q:gT->List O->Prop}(L:Xp b a 3 s bk p c pre post)(q:f[ci]?=I (.inst 748 []))(t:f[sd]?=I (.dict au<|AA ps))(R:(3:Nat)=6->p∈ps)
  (o:∀Y,Keeps [] f Y->Q (.ok<|.p<|ZR a 3 s p c) Y):LV (k+4) 485 [.p<|.bytes b,nV a,.ref h,.ref ci,.ref sd] f Q:=by
 have w:=L.s9;have g:=L.sc;have l:=L.at_;have e:=L.whole B;have C:b.length=a+(s+2)+post.length:=bS e<|bS aj<|bS aj<|bS aX<|bS aX<|sB g<|bS l B;show enter (loc:=[I<|.p<|.bytes b,I<|nV a,I<|.ref h,I<|.ref ci,I<|.ref sd,A,A,A,A,A,A,A,A]) B B B ?_;show Aj (.head _) w (by rw[e,l,aJ,bN<|aE _,jV];rfl) ?_;show aN B<|aN (bz B)<|aN (bz B)<|aN (bz B)<|aN B<|aN (bz B)<|aN (bz B) ?_;show kT au B<|kT au B<|yi (a:=pre++[aP<|3*16+s]) (r:=post) q L.small (by rw[e];simp only[aJ,cT,jq]) (by show bS aj<|bS l ?_;rfl) g (by lia) ?_;show aN B<|aN (bz B)<|aN (bz B)<|aN B ?_;show mT au ?_ ?_
 ·show decide_eq_false<|gK.mpr<|gM.mpr<|by lia
 show FQ au (by rw[g];simp)<|Ag λD x M=>(Bp M B ?_);have z:ZR a 3 s p c=scan a 3 s .none c (a+1+1+s):=rfl;rw[z]at o;show o _<|x.bG<|aE _
theorem JJ{k p h:Nat}{ps:List Nat}{f:List O}{Q:gT->List O->Prop}(L:Xp b a 6 s bk p c pre post)(t:f[ci]?=I (.inst 748 []))(l:f[sd]?=I (.dict au<|AA ps))(w:(6:Nat)=6->p∈ps)
  (q:∀Y,Keeps [] f Y->Q (.ok<|.p<|ZR a 6 s p c) Y):LV (k+4) 485 [.p<|.bytes b,nV a,.ref h,.ref ci,.ref sd] f Q:=by
 have x:=L.s9;have o:=L.sc;have g:=L.at_;obtain⟨e,b0,b1,D⟩:=L.delta B;have F:b.length=a+(s+3)+post.length:=bS e<|bS aj<|bS aj<|bS aX<|bS aX<|bS aX<|sB o<|bS g B;show enter (loc:=[I<|.p<|.bytes b,I<|nV a,I<|.ref h,I<|.ref ci,I<|.ref sd,A,A,A,A,A,A,A,A]) B B B ?_;show Aj (.tail _<|.head _) x (by rw[e,g,aJ,bN<|aE _,jV];rfl) ?_;show aN B<|aN (bz B)<|aN (bz B)<|aN (bz B)<|aN B<|aN (bz B)<|aN (bz B) ?_;show kT aB B ?_;show ED (z:=aP bk) (i:=a+1) (by rw[e,g,aJ,bN<|bg _ 1,dW];rfl) (bS (u8<|by lia) b1) ?_;show bS (u8<|by lia) ?_;show aN B<|aN (bz B)<|aN (bz B)<|aN B<|aN (bz B) ?_;show WT au ?_ ?_
 ·show decide_eq_false<|by lia
 have R:(a:Int)-bk=p:=by lia
 show bS R ?_;show ur l B ?_;show bS G1<|bS (if_pos<|w B) ?_;show kT au B<|yi (a:=pre++[aP<|6*16+s,aP bk]) (r:=post) t L.small (by rw[e];simp only[aJ,cT,jq]) (by show bS aj<|bS g ?_;rfl) o (by lia) ?_;show aN B<|aN (bz B)<|aN (bz B)<|aN B ?_;show mT au ?_ ?_
 ·show decide_eq_false<|gK.mpr<|gM.mpr<|by lia
 show FQ au (by rw[o];simp)<|Ag λT M C=>(Bp C B ?_);have z:ZR a 6 s p c=scan a 6 s (.int p) c (a+1+1+1+s):=rfl;rw[z]at q;show q _<|M.bG<|aE _
theorem Cj{k l p h:Nat}{ps:List Nat}{g:List O}{Q:gT->List O->Prop}(L:Xp b a l s bk p c pre post)(o:g[ci]?=I (.inst 748 []))(f:g[sd]?=I (.dict au<|AA ps))(q:l=6->p∈ps)
  (t:∀Y,Keeps [] g Y->Q (.ok<|.p<|ZR a l s p c) Y):LV (k+4) 485 [.p<|.bytes b,nV a,.ref h,.ref ci,.ref sd] g Q:=by
 rcases L.k36 with rfl|rfl
 ·show Jp L o f q t
 ·show JJ L o f q t
theorem Ks{m:(V->St->Prop)->Prop}{k:Option Int->St->Prop}(h:k A σ):evO E.nil.isNil m σ k:=h
variable{sg:List UInt8}
theorem SR{k:Nat}{f:List O}{Q:gT->List O->Prop}(X:bP f h d H)(q:H.length<250)(t:fq ps∈H)(hd:uu H (fq ps)=sg)(w:ps.length<256)(D:ps.flatten.length<900)
  (x:∀Y,Keeps [d] f Y->bP Y h d H->Q (.ok<|nV ps.length) Y):LV (k+3) 471 [.p<|.bytes<|fq ps++sg,.ref h] f Q:=by
 have g:sg.length=4:=by show sB (hd) ?_;rfl
 have R:=rf (ps:=ps);have lp:(fq ps++sg).length=16+ps.flatten.length:=bS (aj)<|bS (R)<|bS (g)<|di (Fo [_] (12+V0+4) (16+V0) B)<|Fo [_] (16+V0) (12+V0+4) B;show enter (loc:=[I<|.p<|.bytes<|fq ps++sg,I<|.ref h,A]) B B B<|bL X.obj B ?_;have l:(((fq ps++sg).length):Int)-4=((fq ps).length):=by show bS (aj)<|bS (g) ?_;show wo ((fq ps).length:Int) 4
 show ls B<|Hp au ?_ ?_
 ·show decide_eq_false<|show ¬((((fq ps++sg).length):Int)-4<12)by lia
 show wg (n:=4) B (bz B)<|u9 (c:=[80,65,67,75]) (PW (c:=BF 2++BF ps.length++ps.flatten++sg) (by unfold fq;simp only[aJ]) B)<|FT au B<|z8 (i:=4) (m:=2) (a:=[80,65,67,75]) (c:=BF ps.length++ps.flatten++sg) (by unfold fq;simp only[aJ]) B (bz B) (by lia)<|qn au B<|aN (bF X.obj)<|wg l (by lia)<|u9 (c:=fq ps) (PW B B)<|qw (c:=fq ps) X q λM C o=>?_;rw[Ad t]at o;show wg l (by lia)<|Ks<|u9 (adG B B)<|FT au ?_ ?_
 ·rw[hd,beq_self_eq_true];rfl
 show z8 (i:=8) (m:=ps.length) (by unfold fq;rw[aJ]) B w (by lia)<|x M C o
noncomputable def cJ.kn(e:cJ):Nat:=match e.base with
 |none=>3
 |some _=>6
noncomputable def cJ.raw(e:cJ):List UInt8:=match e.base with
 |none=>e.c
 |some b=>dl b.2 e.c
noncomputable def cJ.bp(e:cJ)(pl:List<|List UInt8×Nat):Nat:=match e.base with
 |none=>0
 |some b=>(lk pl b.1).getD 0
def cJ.sc(e:cJ)(pl:List<|List UInt8×Nat)(a:Nat):P:=ZR a e.kn e.raw.length (e.bp pl) e.raw
noncomputable def Ig(pl:List<|List UInt8×Nat)(a:Nat)(l:List cJ):List P:=l.foldr (λe k pl a=>e.sc pl a::k (pl++[(e.o,a)]) (a+e.size)) (λx x=>[]) pl a
theorem Yn:Ig pl a (e::r)=e.sc pl a::Ig (pl++[(e.o,a)]) (a+e.size) r:=rfl
theorem Xj:∀{f fs:List cJ}{a:Nat}{pl:List<|List UInt8×Nat},Ig pl a (f++fs)=Ig pl a f++Ig (pl++iE a f) (a+gz f) fs:=by
 intro f;induction f with
 |nil=>intro fs a pl;change _=Ig (pl++[]) a fs;rw[aY];rfl
 |cons e r g=>intro fs a pl;rw[cT,Yn,Yn,g,cT,xN,show gz (e::r)=e.size+gz r from iz ..,eE,aJ];rfl
theorem Eb:∀{f:List cJ}{a:Nat}{pl:List<|List UInt8×Nat},(Ig pl a f).length=f.length:=by
 intro f;induction f with
 |nil=>intro _ _;show B
 |cons e r g=>intro a pl;show congrArg (· + 1) g
variable{x:cJ}
theorem Lo{p:List cJ}:gz (p++x::r)=gz p+(x.size+gz r):=bS nB<|congrArg _<|iz ..
theorem kG{Z:List cJ}:(cz Z).length=12+gz Z:=bS (rf)<|bS (jM.2) B
theorem Good.gz{f:List cJ}(G:Good f):Mine.Internal.gz f<=112:=by have:=Jv G.ok;have:=G.few;show fZ [_,_] V0 112 V0 (lm 16 V1) (lm 16 V1) (lm 16 7) B ‹_› (bW 16 this)
theorem oR{e:cJ}:0<e.size:=by unfold cJ.size;induction e.base<;>show iT _
theorem Vv{q:List UInt8}{p:Nat}{f:List cJ}(h:lk (iE a f) q=I p):a<=p/\p<a+gz f:=by
 induction f generalizing a with
 |nil=>show bh h
 |cons e r g=>
  rw[xN,tG]at h;rw[show gz (e::r)=e.size+gz r from iz ..];by_cases z:e.o=q
  ·rw[if_pos z]at h;obtain rfl:=aV h;have:=oR (e:=e);lia
  ·rw[if_neg z]at h;have:=g h;show#[dO [_,_,_] V0 V1 (V0+V2) V1 B this.1,dO [_,_,_,_] (V0+1) (V1+(V2+V3)) (V0+1) (V1+V2+V3) B this.2]
theorem Good.bp{f p:List cJ}{b:List UInt8×Nat}(G:Good f)(e:f=p++x::r)(l:x.base=I b):∃q,lk (iE 12 p) b.1=I q/\12<=q/\q<12+Mine.Internal.gz p:=by obtain⟨q,g⟩:=zy (show b.1∈(iE 12 p).map (·.1)by show bS (qx)<|G.base p x r e b l);show#[q,g,Vv g]
theorem Wa{f p:List cJ}(G:Good f)(e:f=p++x::r):∃pre post,Xp (cz f) (12+gz p) x.kn x.raw.length (x.back (iE 12 p)<|12+gz p) (x.bp<|iE 12 p) x.raw pre post:=by
 have w:=G.ok x<|bS e<|aG _<|.head _;have L:=w.c0;have h:=w.c9;have d:=G.gz;have M:gz p+(x.size+gz r)=gz f:=bS e<|bS Lo B;have t:cz f=([80,65,67,75]++BF 2++BF (pq [] 12 f).length++(pq [] 12 p).flatten)++x.piece (x.back (iE 12 p)<|12+gz p)++(pq (iE 12 p++[(x.o,12+gz p)]) (12+gz p+x.size) r).flatten:=by
  unfold cz fq;conv=>lhs;rw[show(pq [] 12 f).flatten=(pq [] 12 p++(x.piece (x.back (iE 12 p)<|12+gz p)::pq (iE 12 p++[(x.o,12+gz p)]) (12+gz p+x.size) r)).flatten by show bS e<|bS zu ?_;rfl]
  show bS eG<|bS fT ?_;simp only[aJ]
 have C:(cz f).length<999000:=bS (kG)<|dO [_] (12+V0+1) 999000 V0 112 B d;have D:12+gz p=([80,65,67,75]++BF 2++BF (pq [] 12 f).length++(pq [] 12 p).flatten).length:=by show bS aj<|bS jM.2 ?_;rfl
 show#[[80,65,67,75]++BF 2++BF (pq [] 12 f).length++(pq [] 12 p).flatten,(pq (iE 12 p++[(x.o,12+gz p)]) (12+gz p+x.size) r).flatten,?_];induction g:x.base with
 |none=>
  have k:x.kn=3:=by unfold cJ.kn;show bS (g) B
  have l:x.raw=x.c:=by unfold cJ.raw;show bS (g) B
  show bS (k)<|bS (l)<|#[.inl B,L,(dO [_] (V0+1) 16 (V0+1) 10 B h),rfl,D,C,λZ=>by rw[t];congr 2;unfold cJ.piece;rw[g],λz=>absurd z<|by decide]
 |some b=>
  show hd λT R=>?_;obtain⟨q,F,U,i⟩:=G.bp e g;show R ?_;have k:x.kn=6:=by unfold cJ.kn;show bS (g) B
  have l:x.raw=dl b.2 x.c:=by unfold cJ.raw;show bS (g) B
  have bk:x.back (iE 12 p) (12+gz p)=12+gz p-q:=by unfold cJ.back;show bS (g) ?_;change _-(lk _ _).getD 0=_;rw[F];rfl
  have bp:x.bp (iE 12 p)=q:=by unfold cJ.bp;show bS (g) ?_;change(lk _ _).getD 0=_;rw[F];rfl
  rw[bk]at t;show bS (k)<|bS (l)<|bS (bp)<|bS (bk) ?_;show#[.inr B,iT _,by rw[w4];show dO [_] (V0+3+1) 16 (V0+1) 10 B h,rfl,D,C,λz=>absurd z<|by decide,λZ=>#[by rw[t];congr 2;unfold cJ.piece;show bS g ?_;rfl,(fZ [_,_,_] (.a (.n 0)<|.n 1) (.v 0) (.a (.v 1)<|.n 1) (.a (.n 12)<|.v 2) (.a (.n 12)<|.v 2) (.a (.v 0)<|.v 1) B i<|oJ _ _),(rj [_,_,_,_,_] (.a (.v 0)<|.n 1) (.n 128) (.v 1) (.n 112) (.a (.v 2)<|.a (.v 3)<|.v 4) (.v 1) (.v 0) (.a (.n 12)<|.v 2) B d (ak M)<|rQ _ _),(di (dO [_,_,_] (.a (.n 12)<|.v 0) (.a (.v 1)<|.v 2) (.a (.n 12)<|.v 0) (.a (.v 2)<|.v 1) B<|oJ _ _)<|dO [_,_,_] (.a (.v 0)<|.v 1) (.a (.n 12)<|.v 2) (.a (.v 1)<|.v 0) (.a (.n 12)<|.v 2) B<|k8<|dO [_,_] (.v 0) (.a (.n 12)<|.v 1) (.a (.v 0)<|.n 1) (.a (.n 12)<|.v 1) B i)]]
abbrev cf(f:List cJ):List Nat:=(iE 12 f).map (·.2)
theorem abv{l:List<|List UInt8×β}{q:List UInt8}{v:β}:lk l q=I v->v∈l.map (·.2):=by
 induction l with
 |nil=>show λh=>(bh h)
 |cons x l f=>
  show bS (tG) ?_;by_cases h:x.1=q
  ·rw[if_pos h];intro e;obtain rfl:=aV e;show .head _
  ·show bS (if_neg h) λe=>.tail _<|f e
variable{q:Nat}
theorem Vy{f:List cJ}(h:q∈(iE a f).map (·.2)):q<a+gz f:=by
 induction f generalizing a with
 |nil=>show cO h
 |cons e r g=>
  show sB (iz ..) ?_;rcases aC.mp h with h|h
  ·have:=oR (e:=e);show fZ [_,_,_,_] (V0+1) (V1+(V2+V3)) (0+1) V2 V0 V1 B this<|ak h
  ·have:=g h;show dO [_,_,_,_] (V0+1) (V1+(V2+V3)) (V0+1) (V1+V2+V3) B this
theorem S6:a+(if e.kn=6 then 3 else 2)+e.raw.length=a+e.size:=by
 obtain⟨o,c,f,base⟩:=e;induction base with
 |none=>change a+2+c.length=a+(c.length+2);lia
 |some b=>change a+3+(c.length+3)=a+(c.length+6);lia
theorem AF{o q:E}{z:V}{i:Nat}{K:St->Prop}(e:∀k:V->V->St->Prop,k (.ref i) z σ->ev Γ X o σ λx σ=>ev Γ X q σ λy σ=>k x y σ)(h:qN σ v (.ref i) z K):asg Γ X (.sub o q) v σ K:=e (λx y σ=>qN σ v x y K) h
structure SI(U:List O)(d h ci a b:Nat)(H:List (List UInt8))(Z p r:List cJ)(kQ:List O):Prop where
 ee:Z=p++r
 K:Keeps [d] U kQ
 X:bP kQ h d H
 c:kQ[ci]?=I (.inst 748 [])
 l:kQ[a]?=I (.list<|Ig [] 12 p)
 p:kQ[b]?=I (.dict au<|AA<|cf p)
theorem ET{k:Nat}{Z:List cJ}{g:List O}{Q:gT->List O->Prop}(G:Good Z)(X:bP g h d H)(rL:g[ci]?=ae (.inst 748 []))(hl:H.length<250)(hm:cz Z∈H)(hd:uu H (cz Z)=sg)
  (hQ:∀Y,Keeps [d] g Y->bP Y h d H->Q (.ok<|.p<|.lst<|Ig [] 12 Z) Y):LV (k+5) 492 [.p<|.bytes<|cz Z++sg,.ref h,.ref ci] g Q:=by
 have s4:sg.length=4:=by show sB (hd) ?_;rfl
 have lb:=kG (Z:=Z);have hz:=G.gz;have hf:=G.few;have Z':(pq [] 12 Z).length=Z.length:=jM.1;have e1:(((cz Z++sg).length):Int)-4=((cz Z).length):=by show bS (aj)<|bS (s4) ?_;lia
 show enter (loc:=wG (ae<|.p<|.bytes<|cz Z++sg) (ae<|.ref h) (ae<|.ref ci) az az az az az az) B B B<|SR X hl hm hd (fZ [_,_] (V0+1) 256 V1 7 V0 V1 B hf<|ak Z') (bS (jM.2)<|dO [_] (V0+1) 900 V0 112 B hz) λa o X1=>?_;have c1:=o.get rL λm=>(by have z:=X.mw;replace z:=(rL)▸(ah.mp m)▸z;cases z);show ls B<|bL X1.obj B<|wg e1 (fZ [_,_] (V0+1) 1000000 V0 (12+V1) V1 112 B (ak lb) hz)<|u9 (c:=cz Z) (PW B B)<|ls B<|HQ λj M l2 e2=>(ls B<|Dr λgY R l3 e3=>(ls B<|ls B ?_));have l2:=l2;show nD (λ(t:List cJ×List cJ×Option V)=>wG (ae<|.p<|.bytes<|cz Z++sg) (ae<|.ref h) (ae<|.ref ci) (ae<|nV (pq [] 12 Z).length) (ae<|.p<|.bytes<|cz Z) (ae<|.ref a.length) (ae<|.ref j.length) (ae<|nV<|12+gz t.1) t.2.2) (λm t n=>SI g d h ci a.length j.length H Z t.1 t.2.1 n/\t.2.1.length=m) ?_ _ ([],Z,_) #[#[rfl,(o.and M).and R,(X1.keeps M ai ai).keeps R ai ai,R.get (M.get c1 ai) ai,R.get e2 ai,e3],rfl];rintro m ⟨p,r,v8⟩ n ⟨I,hr⟩ W hW;have I:SI g d h ci a.length j.length H Z p r n:=I;have f:=I.ee;have w:=I.l;show vp w<|(Eb)▸?_;cases r with
 |nil=>
  rw[aY]at f;subst f;show Hp au (decide_eq_false<|by rw[Z'];lia)<|FQ au (show(!(((12+gz Z:Nat):Int)==((cz Z).length)))=au by rw[lb,beq_self_eq_true];rfl)<|yv (λ_ h=>h)<|ua w<|hQ _ (I.K.bG ?_) ?_
  ·show o.len
  ·show I.X.keeps .set (cX<|jF I.X.obj w B)<|cX<|jF I.X.mw w B
 |cons x r=>
  show Hp aB (decide_eq_true<|by show bS Z'<|bS f<|bS aj<|bS aX ?_;lia) ?_;have hm2:gz p+(x.size+gz r)=gz Z:=bS f<|bS Lo B;have hx:=oR (e:=x);have Xq:p.length<Z.length:=by show bS f<|bS aj<|bS aX ?_;show Fo [_,_] (V0+1) (V0+(V1+1)) B
  show PB au (decide_eq_false<|show ¬(((cz Z).length):Int)<=((12+gz p:Nat))by lia) ?_;obtain⟨pre,post,L⟩:=Wa G f;show Cj L I.c I.p (λT=>?_) λqu A=>?_
  ·induction s:x.base with
   |none=>unfold cJ.kn at T;replace T:=(s)▸T;cases T
   |some b=>
    obtain⟨q,hq,_⟩:=G.bp f s;have:x.bp (iE 12 p)=q:=by unfold cJ.bp;show bS s ?_;change(lk _ _).getD 0=_;show(hq)▸?_;rfl
    show bS (this)<|abv hq
  have B':=A.get w ai;have C:=A.get I.p ai;have D:=I.X.keeps A ai ai;have F:=jF B' C B;have TF:12+gz p+(if x.kn=6 then 3 else 2)+x.raw.length=12+gz (p++[x]):=by rw[S6,nB,eE];rfl
  have v:kU (AA<|cf p) (.i (12+gz p:Nat)) (.p<|.bool aB)=AA (cf<|p++[x]):=by rw[mQ<|bS G1<|bS (if_neg λz=>absurd (Vy z)<|cP _) B,show cf (p++[x])=cf p++[12+gz p]by change(iE 12<|p++[x]).map _=_;show bS sD<|bS aO ?_;rfl,AA,AA,aO];rfl
  show ls B<|AF (λ_ h=>h)<|ss C B (by rw[AA,ay,cf,ay,vU];show aH (by lia) jg) λsL U _ g6=>?_;show ap (U.get B'<|cX F) (bS Eb (aH<|by lia) jg) λMR Y' _ g7=>ls B ?_;have y:=jF D.obj B' B;have J:=jF D.mw B' B;have nh6:=jF D.obj C B;have nd6:=jF D.mw C B;have c5:=A.get I.c ai;show bS TF ?_;show hW r.length (p++[x],r,ae<|.p<|x.sc (iE 12 p)<|12+gz p) MR (hr▸bE _) #[#[f.trans<|OT ..,?_,((D.keeps U (cX nh6)<|cX nd6).keeps Y' (cX y)<|cX J),Y'.get (U.get c5<|cX<|jF c5 C B)<|cX<|jF c5 B' B,g7.trans<|by rw[Xj];rfl,(Y'.get g6<|cX F.symm).trans<|bS v B],rfl];show((I.K.and A).s1 U<|av o.len M.len).s1 Y' o.len
theorem Ru{f:List O}(q:∀Y dc,Keeps [] f Y->f.length<dc->Y[f.length]?=I (.inst 523 [I<|.p<|.int 1048576,I<|.ref dc,I<|.p<|.int 0])->Y[dc]?=I (.dict au [])->Q (.ok<|.ref f.length) Y):LV (k+1) 523 [.p<|.int 1048576] f Q:=by show AY (nf:=3) B B B B λs C D F=>(sa F (bz B) λl r g L=>(Dr λZ o c M=>(pM (λn h=>h)<|sa (o.get L ai) (bz B) λd t e R=>(sa R (bz B) λT w j U=>?_))));have g:=g.trans D;have v:l.length≠f.length:=(λW=>jX<|fZ [_,_] 1 0 V0 V1 (V1+2) V0 B (ak W)<|ak g.symm);have K:∀{a b:List O},Keeps [] f a->Keeps [f.length] a b->Keeps [] f b:=λx y=>x.step y λi m h=>absurd (ah.mp m)<|aS h;show aN B<|q T l.length (K (K ((K C r).and o) t) w) (dO [_,_] (V0+1) V1 (V0+2) V1 B<|ak g.symm) U<|w.get (t.get M<|cX v)<|cX v
noncomputable def Kd(pl:List<|List UInt8×Nat)(a:Nat)(l:List cJ):List<|Nat×P:=l.foldr (λe k pl a=>(a,e.sc pl a)::k (pl++[(e.o,a)]) (a+e.size)) (λw w=>[]) pl a
theorem aeF:Kd pl a (e::r)=(a,e.sc pl a)::Kd (pl++[(e.o,a)]) (a+e.size) r:=rfl
theorem EJ:∀{f:List cJ}{a:Nat}{pl:List<|List UInt8×Nat},(Kd pl a f).map (·.2)=Ig pl a f:=by
 intro f;induction f with
 |nil=>intro _ _;show B
 |cons e r g=>intro a pl;show congrArg (e.sc pl a::·) g
theorem RZ:∀{f:List cJ}{a:Nat}{pl:List<|List UInt8×Nat},∀x∈Kd pl a f,a<=x.1/\∃fs,x.2=.inst 460 (.int x.1::fs):=by
 intro f;induction f with
 |nil=>intro _ _ x h;show(cO h)
 |cons e r g=>
  intro a pl x h;rcases aC.mp h with rfl|h
  ·show#[aE _,_,rfl]
  ·have:=g x h;show#[by lia,this.2]
noncomputable def Fp(l:List<|Nat×P):List<|Ky×V:=l.map λx=>(.i x.1,.p x.2)
theorem Wu:∀{l:List<|Nat×P},fR (Fp l) (.i a)=((l.find? λx=>x.1=a).map (·.2)).map .p:=by
 intro l;induction l with
 |nil=>show B
 |cons x l f=>
  change fR ((_,_)::Fp l) _=_;show bS kI<|bS f<|bS gu ?_;by_cases h:x.1=a
  ·rw[if_pos<|bS h B,decide_eq_true h];rfl
  ·rw[if_neg λe=>h<|jf<|by injection e,decide_eq_false h]
theorem N7{l:List<|Nat×P}(h:∀x∈l,x.1≠a):(l.find? λx=>x.1=a)=A:=uV.mpr λx m=>by rw[decide_eq_true_iff];show h x m
theorem PZ:∀{f:List cJ}{a:Nat}{pl:List<|List UInt8×Nat}{l:List<|Nat×P},(∀x∈l,x.1<a)->(Fp<|Kd pl a f).foldl (λd e=>kU d e.1 e.2) (Fp l)=Fp (l++Kd pl a f):=by
 intro f;induction f with
 |nil=>intro a pl l _;change Fp l=Fp (l++[]);rw[aY]
 |cons e r g=>
  intro a pl l h;change(Fp<|Kd _ _ r).foldl _ (kU (Fp l) (.i a)<|.p<|e.sc pl a)=_;rw[mQ<|by show bS Wu<|bS (N7 λx m=>aS<|h x m) ?_;rfl,show Fp l++[(Ky.i a,V.p<|e.sc pl a)]=Fp (l++[(a,e.sc pl a)])by unfold Fp;rw[aO];rfl];rw[g λx m=>?_]
  ·rw[aJ];rfl
  ·have:=oR (e:=e);rcases aM.mp m with m|m
   ·have:=h x m;show dO [_,_,_] (V0+1) (V1+V2) (V0+1) V1 B this
   ·cases ah.mp m
    show dO [_,_] (V0+1) (V0+V1) (0+1) V1 B this
noncomputable def Gu:P->P
 |.inst c (a::r)=>.tup [a,.inst c (a::r)]
 |x=>x
theorem NB{f:List cJ}:(Ig pl a f).map Gu=(Kd pl a f).map λx=>.tup [.int x.1,x.2]:=by show sB EJ<|bS bw ?_;show cL λx m=>?_;obtain⟨_,fs,e⟩:=RZ x m;change Gu x.2=_;show bS (e) ?_;rfl
structure SX(U:List O)(r h ci de ca dc:Nat)(Z:List cJ)(sg:List UInt8)(st:V)(cs:List (Ky×V))(ct:Int):Prop where
 obj:U[r]?=I (.inst 707 [I<|.p<|.bytes<|cz Z++sg,I<|.ref h,I<|.ref ci,I<|.p .none,I<|.p<|.lst<|Ig [] 12 Z,I<|.ref de,I<|.ref ca,I st])
 de:U[de]?=I (.dict au<|Fp<|Kd [] 12 Z)
 ca:U[ca]?=I (.inst 523 [I<|.p<|.int 1048576,I<|.ref dc,I<|.p<|.int ct])
 dc:U[dc]?=I (.dict au cs)
 ci:U[ci]?=I (.inst 748 [])
theorem Ve{K:List V->St->Prop}(h:K [] σ):yt Γ X .nil σ K:=h
theorem ZQ{f:List<|Option V}{g:List O}{vs:List P}{Z:List<|Ky×V}{k:V->St->Prop}(e:jr Ka vs=I Z)(h:∀Y,Keeps [] g Y->Y.length=g.length+1->Y[g.length]?=I (.dict au<|Z.foldl (λd e=>kU d e.1 e.2) [])->k (.ref g.length) #[f,Y]):HP #[f,g] .Pow [.p<|.lst vs] k:=bq e<|h _ .app (aj ..) bJ
theorem I8{k:Nat}{Z:List cJ}{g:List O}{Q:gT->List O->Prop}(G:Good Z)(X:bP g h d H)(R:g[ci]?=ae (.inst 748 []))(Y':H.length<250)(hm:cz Z∈H)(hd:uu H (cz Z)=sg)
  (hQ:∀Y Z' c dc,Keeps [d] g Y->g.length<Z'->Z'<c->c<dc->bP Y h d H->SX Y g.length h ci Z' c dc Z sg (.p .none) [] 0->Q (.ok<|.ref g.length) Y):LV (k+6) 707 [.p<|.bytes<|cz Z++sg,.ref h,.ref ci] g Q:=by
 show AY (loc:=wI (ae<|.ref g.length) (ae<|.p<|.bytes<|cz Z++sg) (ae<|.ref h) (ae<|.ref ci) (ae<|.p .none)<|ae<|.p<|.int 1048576) B B B B λcu K0 l0 e0=>(sa e0 (bz B) λdH K1 l1 e1=>(sa e1 (bz B) λeR K2 l2 e2=>(sa e2 (bz B) λgY K3 l3 e3=>(sa e3 (bz B) λkQ K4 l4 e4=>?_))));have K:∀{a b:List O},Keeps [] g a->Keeps [g.length] a b->Keeps [] g b:=λx y=>x.step y λi m h=>absurd (ah.mp m)<|aS h;have q:=K (K (K (K K0 K1) K2) K3) K4;have A:=iC X.mw;have hcc:=iC R;show ET G (X.keeps q ai ai) (q.get R ai) Y' hm hd λqu K5 X5=>(pM (λ_ h=>h)<|sa (K5.get e4<|cX<|bT A) (bz B) λw K6 l6 T=>(bL T B<|xD (I:=λσ=>∃v,σ=#[lq7 (ae<|.ref g.length) (ae<|.p<|.bytes<|cz Z++sg) (ae<|.ref h) (ae<|.ref ci) (ae<|.p .none) (ae<|.p<|.int 1048576) v,w]) (f:=Gu) ?_ (by rw[Eb];show av (by have:=G.few;show dO [_] V0 1000 V0 7 B this) jg) #[_,rfl] ?_))
 ·rintro x m acc σ k Y' ⟨v,rfl⟩ hk;rw[<- EJ]at m;show gO m λy hy B'=>?_;subst B';obtain⟨_,fs,e⟩:=RZ y hy;rw[e]at hk ⊢;show ls B<|lz B<|aN Y'<|hk _ #[_,rfl]
 rintro ji ⟨v,rfl⟩;have e6':=(Keeps.app (j:=[O.list<|(Ig [] 12 Z).map Gu])).get T ai;show ua bJ ?_;have C:=iC T;show Ve<|ZQ (Z:=Fp<|Kd [] 12 Z) ?_ λW3 K8 F e8=>?_
 ·show bS (NB)<|j1 λx _=>rfl
 rw[show(Fp<|Kd [] 12 Z).foldl (λd e=>kU d e.1 e.2) []=Fp (Kd [] 12 Z)from PZ λ_ m=>(cO m)]at e8;have l:=(Keeps.bG (Keeps.app (I:=[]) (a:=w))<|aE _).and K8;show pM (λ_ h=>h)<|sa (l.get T ai) (bz B) λr s z e9=>(Ru λTe dc U W eA dA=>(pM (λ_ h=>h)<|sa (U.get e9 ai) (bz B) λhpB KB lB eB=>(sa eB (bz B) λL J lC eC=>?_)));have F:=F.trans (by change((w++[_]).set _ _).length+1=_;show bS cD<|bS aj ?_;rfl);have W:=W;have D:∀{a b:List O},Keeps [d] g a->Keeps [g.length] a b->Keeps [d] g b:=λx y=>x.step y λi m h=>absurd (ah.mp m)<|aS h;have M:=D (D ((D ((D (q.none.step K5 λ_ m _=>m) K6).and l) s).and U) KB) J;have nh:=cX<|aS<|iC X.obj;have nd:=cX<|aS A;have t:∀{i:Nat}{o:O},i≠g.length->Te[i]?=ae o->L[i]?=ae o:=λn e=>J.get (KB.get e<|cX n)<|cX n;show aN B ?_;show hQ L ((w++[O.list<|(Ig [] 12 Z).map Gu]).set w.length O.gone).length r.length dc M ?_ ?_ (dO [_,_] (V0+1) V1 (V0+1) V1 B W) ((((((X5.keeps K6 nh nd).keeps l ai ai).keeps s nh nd).keeps U ai ai).keeps KB nh nd).keeps J nh nd) #[eC,?_,t (λB'=>jX<|Um [_,_,_,_] 1 0 V0 V1 (V1+1) V2 (V2+1+1) V3 V3 V0 B (ak B') C (ak F.symm)<|ak z.symm) eA,t (λB'=>jX<|M8 [_,_,_,_,_] 1 0 V0 V1 (V1+1) V2 (V2+1+1) V3 V3 V4 (V4+1) V0 B (ak B') C (ak F.symm) (ak z.symm) W) dA,M.get R λm=>?_]
 ·rw[cD,aj];show iS C
 ·show bS cD<|bS aj ?_;show fZ [_,_,_] (V0+1+1) V1 (V0+1+1) V2 V2 V1 B (ak F.symm)<|ak z.symm
 ·show t (by rw[cD,aj];show bT<|iS C)<|U.get (s.get e8<|cX<|by change((w++[_]).set _ _).length≠_;rw[cD,aj];show bT<|iS C) ai
 ·have y:=X.mw;replace y:=(R)▸(ah.mp m)▸y;cases y
theorem V9{x y:Int}:∀{l:List Int},y∈Oa x l ↔ y=x∨y∈l:=by
 intro l;induction l with
 |nil=>change y∈[x] ↔ _;rw[ah];show#[.inl,λh=>h.resolve_right ai]
 |cons z r f=>
  change y∈(if x<=z then x::z::r else z::Oa x r) ↔ _;by_cases h:x<=z
  ·rw[if_pos h,aC]
  ·rw[if_neg h,aC,f,aC];show#[λe=>e.elim (λe=>.inr<|.inl e) λe=>e.elim .inl λe=>.inr<|.inr e,λe=>e.elim (λe=>.inr<|.inl e) λe=>e.elim .inl λe=>.inr<|.inr e]
theorem xn{y:Int}:∀{l:List Int},y∈lY l ↔ y∈l:=by
 intro l;induction l with
 |nil=>show Iff.rfl
 |cons x r f=>change y∈Oa x (lY r) ↔ _;rw[V9,f,aC]
theorem WR{x:Int}:∀{l:List Int},(Oa x l).length=l.length+1:=by
 intro l;induction l with
 |nil=>show B
 |cons z r f=>
  change(if x<=z then x::z::r else z::Oa x r).length=_;by_cases h:x<=z
  ·rw[if_pos h];rfl
  ·rw[if_neg h];show congrArg (· + 1) f
theorem C4:∀{l:List Int},(lY l).length=l.length:=by
 intro l;induction l with
 |nil=>show B
 |cons x r f=>show WR.trans (congrArg (· + 1) f)
variable{l:List Nat}
theorem we:jr P.int? (l.map λ(n:Nat)=>.int n)=I (l.map λ(n:Nat)=>(n:Int)):=j1 λw w=>rfl
theorem lG{τ:Type}(f:α->P){step:P->St->(Fl->St->Prop)->Prop}(L:τ->List (Option V))(R:List α->τ->List O->Prop){A:List α}{k:Fl->St->Prop}
  (T:∀p x r,A=p++x::r->∀t g k,R p t g->(∀t' Y,R (p++[x]) t' Y->k .next #[L t',Y]/\k .cont #[L t',Y])->step (f x) #[L t,g] k) (t) {g:List O} (h:R [] t g) (C:∀t' Y,R A t' Y->k .next #[L t',Y]):Cp step (A.map f) #[L t,g] k:=
 Sp f (λp σ=>∃t g,σ=#[L t,g]/\R p t g) (λp x r e σ k o D F=>o.elim λt o=>o.elim λg o=>by rw[o.1];show T p x r e t g k o.2 λt' Y w=>#[D _ #[t',Y,rfl,w],F _ #[t',Y,rfl,w]]) #[t,g,rfl,h] λM o=>o.elim λt o=>o.elim λg o=>bS (o.1)<|C t g o.2
noncomputable def nd(f:Nat->V)(S:List Nat):List<|Ky×V:=S.map λ(a:Nat)=>(.i a,f a)
theorem Cf{b:Nat}:(Ky.i a=Ky.i b) ↔ a=b:=#[λe=>jf<|by injection e,λe=>(e)▸rfl]
theorem ki{f:Nat->V}:∀{S:List Nat},fR (nd f S) (.i a)=if a∈S then I (f a) else A:=by
 intro S;induction S with
 |nil=>show B
 |cons x r g=>
  change fR ((_,_)::nd f r) _=_;show bS kI<|bS g ?_;by_cases h:x=a
  ·rw[if_pos<|Cf.mpr h,if_pos<|(h)▸.head _,h]
  ·rw[if_neg λe=>h<|Cf.mp e];by_cases m:a∈r
   ·rw[if_pos m,if_pos<|.tail _ m]
   ·rw[if_neg m,if_neg λz=>m<|(aC.mp z).resolve_left<|Ne.symm h]
theorem rY{f:Nat->V}{S:List Nat}(h:a∉S):kU (nd f S) (.i a) (f a)=nd f (S++[a]):=by rw[mQ<|bS ki<|bS (if_neg h) B];unfold nd;rw[aO];rfl
theorem sC{f:Nat->V}{S:List Nat}:(nd f S).length=S.length:=ay ..
theorem Sa{f:Nat->V}:∀{S:List Nat},B0 (nd f S) (.i a)=nd f (S.erase a):=by
 intro S;induction S with
 |nil=>show B
 |cons x r g=>
  change(if Ky.i x=.i a then nd f r else (.i x,f x)::B0 (nd f r) (.i a))=_;by_cases h:x=a
  ·rw[if_pos<|Cf.mpr h,h,List.erase_cons_head]
  ·rw[if_neg λe=>h<|Cf.mp e,g,List.erase_cons_tail<|by rw[beq_iff_eq];show h];rfl
structure pI(U:List O)(ca dc:Nat)(f:Nat->V)(C:List Nat)(ct:Nat):Prop where
 obj:U[ca]?=I (.inst 523 [I<|.p<|.int 1048576,I<|.ref dc,I<|nV ct])
 mw:U[dc]?=I (.dict au<|nd f C)
 nodup:C.Nodup
 few:C.length<500
 ct9:ct<=9*C.length
variable{C:List Nat}{ca ct:Nat}
theorem pI.keeps{g:List O}{o:List Nat}{dc:Nat}{f:Nat->V}(X:pI g ca dc f C ct)(K:Keeps o g Y)(n:ca∉o)(m:dc∉o):pI Y ca dc f C ct:=#[K.get X.obj n,K.get X.mw m,X.nodup,X.few,X.ct9]
theorem VY{k dc:Nat}{g:Nat->P}{f:List O}{Q:gT->List O->Prop}(X:pI f ca dc (λa=>.p<|g a) C ct)(L:Eu (.p<|g a) (.p .none)=I au)
  (t:∀Y w,Keeps [dc] f Y->pI Y ca dc (λa=>.p<|g a) w ct->(∀x,x∈w ↔ x∈C)->Q (.ok<|.p<|if a∈C then g a else .none) Y):LV (k+1) 513 [.ref ca,nV a] f Q:=by
 show enter B B B<|bL X.obj B ?_;show aN (AR X.mw)<|Be X.mw ?_;have e:fR (nd (λa=>V.p<|g a) C) (.i a)=if a∈C then I (V.p<|g a) else A:=ki
 by_cases m:a∈C
 ·rw[if_pos m]at e t;show ls B ?_;rw[e];show fy au L<|bL X.obj B<|aN (UT X.mw)<|ae6 X.mw<|bq B<|bq (a:=V.p<|g a) e ?_;have b:=cM (o':=O.dict au<|B0 (nd (λa=>V.p<|g a) C)<|.i a) X.mw;have c:=jF X.obj X.mw B;have D:=(Keeps.set (o:=O.dict au<|B0 (nd (λa=>V.p<|g a) C)<|.i a)).get X.obj<|cX c;show bL D B ?_;have M:(B0 (nd (λa=>V.p<|g a) C)<|.i a).length<gr:=by show bS Sa<|bS sC<|bS (qd m) ?_;have:=X.few;show aH (fZ [_,_] (.a (.v 0)<|.n 1) (.n 1000) (.a (.v 1)<|.n 1) (.n 500) (.v 0) (.v 1) B this<|rQ _ _) jg
  show sZ b B M ?_;have F:a∉C.erase a:=λz=>by have:=X.nodup.mem_erase_iff.mp z;show this.1 B
  have j:(C.erase a++[a]).length=C.length:=by show bS aj<|bS (qd m)<|bS fV ?_;have:=Fy m;show kW this
  show t _ (C.erase a++[a]) ((Keeps.set).xA<|.head _) #[Keeps.set.get D<|cX c,(cM b).trans ?_,?_,?_,?_] λx=>?_
  ·show bS Sa<|congrArg (λd=>I<|O.dict au d)<|rY F
  ·show bA.mpr #[X.nodup.erase a,bX.mpr #[ai,bV],λx R y T z=>F<|(z.trans<|ah.mp T)▸R]
  ·show(j)▸X.few
  ·show(j)▸X.ct9
  ·rw[aM,X.nodup.mem_erase_iff,ah];by_cases h:x=a
   ·show#[λZ=>bS h m,λZ=>.inr h]
   ·show#[λz=>z.elim (·.2) λz=>absurd z h,λz=>.inl #[h,z]]
 ·rw[if_neg m]at e t;show ls B ?_;rw[e];show fy aB B<|t f C .refl X λZ=>Iff.rfl
theorem WX{k dc:Nat}{g:Nat->P}{t:List O}{Q:gT->List O->Prop}(X:pI t ca dc (λa=>.p<|g a) C ct)(T:g a=.tup [blob,.bytes c])(U:c.length<10)(D:C.length<499)
  (F:∀Y w A,Keeps [ca,dc] t Y->pI Y ca dc (λa=>.p<|g a) w A->(∀x,x∈w ↔ x=a∨x∈C)->w.length<=C.length+1->Q (.ok<|.p .none) Y):LV (k+1) 520 [.ref ca,nV a,.p blob,.p<|.bytes c] t Q:=by
 show enter B B B<|bL X.obj B<|vL X.mw B ?_;rw[ki];by_cases m:a∈C
 ·rw[if_pos m];show F t C ct .refl X (λx=>#[.inr,λz=>z.elim (λz=>z▸m) id])<|eV _
 ·rw[if_neg m];show bL X.obj B (mT au ?_ ?_)
  ·show decide_eq_false<|show ¬((1048576:Int)<(c.length))by lia
  show lz B<|bL X.obj B<|sZ X.mw B (by rw[sC];show aH (by show dO [_] (V0+1) 1000 (V0+1) 499 B D) jg) ?_;have r:=jF X.obj X.mw B;have W:=(T)▸rY (f:=λa=>V.p<|g a) m;have L:=(Keeps.set (o:=O.dict au<|kU (nd (λa=>V.p<|g a) C) (.i a)<|.p<|.tup [blob,.bytes c])).get X.obj<|cX r;show bL L B<|pM (λj h=>h)<|sa L (bz B) λq M e n=>?_;have R:=M.get ((cM (o':=O.dict au<|kU (nd (λa=>V.p<|g a) C) (.i a)<|.p<|.tup [blob,.bytes c]) X.mw))<|cX r.symm;rw[W]at R;have Z:=X.ct9;show wh1<|bL n B<|bL n B<|mT au ?_ ?_
  ·show decide_eq_false<|show ¬((1048576)<(ct:Int)+(c.length))by lia
  have l:(C++[a]).length=C.length+1:=aj;show F q (C++[a]) (ct+c.length) (((Keeps.set).mono λi m j=>.tail _ m).step M λi m j=>bS (ah.mp m)<|.head _) #[n,R,?_,(fZ [_,_] (V0+1) 500 (V1+1) 499 V0 (V1+1) B D<|ak l),(rj [_,_,_,_] (V0+V1) (lm 9 V2) (V1+1) 10 V0 (lm 9 V3) (lm 9<|V3+1) (lm 9 V2) B U Z<|bW 9<|ak l.symm)] (λx=>?_)<|ak l
  ·show bA.mpr #[X.nodup,bX.mpr #[ai,bV],λx b y d z=>m<|(z.trans<|ah.mp d)▸b]
  ·rw[aM,ah,or_comm]
theorem vo:gz (e::r)=e.size+gz r:=iz ..
noncomputable def D6(a:Nat)(l:List cJ):List<|Nat×cJ:=l.foldr (λe k a=>(a,e)::k (a+e.size)) (λw=>[]) a
theorem LG:D6 a (e::r)=(a,e)::D6 (a+e.size) r:=rfl
def eu(f:List cJ)(a:Nat):cJ:=(((D6 12 f).find? λx=>x.1=a).map (·.2)).getD #[[],[],au,A]
def nT(f:List cJ)(a:Nat)(x:cJ):Prop:=∃p q,f=p++x::q/\a=12+gz p
theorem Kx:∀{p q:List cJ}{a:Nat},D6 a (p++q)=D6 a p++D6 (a+gz p) q:=by
 intro p;induction p with
 |nil=>intro _ _;show B
 |cons e p f=>intro q a;rw[cT,LG,LG,f,vo,eE];rfl
theorem abV:∀{f:List cJ}{a:Nat},∀x∈D6 a f,x.1<a+gz f:=by
 intro f;induction f with
 |nil=>intro _ _ h;show(cO h)
 |cons e r g=>
  intro a x h;rw[vo];have:=oR (e:=e);rcases aC.mp h with rfl|h
  ·show(jd (aH this<|bg _ _):a<_)
  ·rw[<- eE];show g x h
theorem nT.en{f:List cJ}(h:nT f a x):eu f a=x:=by obtain⟨p,q,rfl,rfl⟩:=h;unfold eu;rw[Kx,wU,uV.mpr λy m=>by rw[decide_eq_true_iff];show aS<|abV y m,LG,gu,decide_eq_true B];rfl
theorem zv:∀{f:List cJ}{a b:Nat}{x:cJ},(b,x)∈D6 a f->∃p q,f=p++x::q/\b=a+gz p:=by
 intro f;induction f with
 |nil=>show λh=>cO h
 |cons e r g=>
  intro a b x h;rcases aC.mp h with h|h
  ·cases h;show#[[],r,rfl,rfl]
  ·obtain⟨p,q,rfl,rfl⟩:=g h;show#[e::p,q,rfl,by rw[vo,eE]]
theorem RQ:∀{f:List cJ}{a:Nat},iE a f=(D6 a f).map λx=>(x.2.o,x.1):=by
 intro f;induction f with
 |nil=>intro _;show B
 |cons e r g=>intro a;show congrArg ((e.o,a)::·) g
theorem uM{f:List cJ}:cf f=(D6 12 f).map (·.1):=by unfold cf;rw[RQ,bw];rfl
theorem nT.of{f:List cJ}(h:a∈cf f):nT f a<|eu f a:=by replace h:=(uM)▸h;obtain⟨⟨b,x⟩,m,rfl⟩:=dD.mp h;have l:nT f b x:=zv m;rw[l.en];show l
theorem nT.mem{f:List cJ}(h:nT f a x):x∈f:=by obtain⟨p,q,rfl,_⟩:=h;show aG _<|.head _
theorem nT.pos{f:List cJ}(h:nT f a x):a∈cf f:=by obtain⟨p,q,rfl,rfl⟩:=h;show(uM)▸(Kx)▸(dD.mpr #[_,aG _<|.head _,rfl])
theorem PA{q:List UInt8}{v:β}{l:List<|List UInt8×β}(h:lk l q=I v):(q,v)∈l:=by
 induction l with
 |nil=>show bh h
 |cons x l f=>
  rw[tG]at h;by_cases e:x.1=q
  ·rw[if_pos e]at h;obtain rfl:=aV h;induction e;show .head _
  ·rw[if_neg e]at h;show .tail _<|f h
abbrev zZ(f:List cJ)(o:List UInt8):Option Nat:=lk (iE 12 f) o
theorem uH{f:List cJ}{o:List UInt8}(h:zZ f o=I a):∃x,nT f a x/\x.o=o:=by
 have:=PA h;replace this:=(RQ)▸this;obtain⟨⟨b,x⟩,m,e⟩:=dD.mp this;cases e
 show#[x,zv m,rfl]
def nt(f:List cJ)(a:Nat):Option Nat:=(eu f a).base.bind λb=>zZ f b.1
def qE(f:List cJ)(a:Nat):P:=scan a (eu f a).kn (eu f a).raw.length (match nt f a with|some q=>.int q|none=>.none) (eu f a).raw<|a+(eu f a).size
section
variable {Z:List cJ}
theorem SH{p q:List cJ}{o:List UInt8}(h:lk (iE 12 p) o=I a):zZ (p++q) o=I a:=by unfold zZ;rw[sD,aaz,h];rfl
theorem QN(G:Good Z)(h:nT Z a x):match x.base with
  |none=>nt Z a=A
  |some b=>∃q,nt Z a=I q/\lk (iE 12 Z) b.1=I q/\q<a/\12<=q:=by
 unfold nt;rw[h.en];show hd λg f=>?_;obtain⟨p,r,e,rfl⟩:=h;show f ?_;induction o:x.base with
 |none=>rfl
 |some b=>show hd λg f=>?_;obtain⟨q,t,w,D⟩:=G.bp e o;show f ?_;have:zZ Z b.1=I q:=(e)▸SH t;show#[q,this,this,D,w]
theorem aeD{p:List cJ}(G:Good Z)(e:Z=p++x::r):x.sc (iE 12 p) (12+gz p)=qE Z (12+gz p):=by
 have L:nT Z (12+gz p) x:=#[p,r,e,rfl];unfold qE nt cJ.sc ZR;rw[L.en,S6];induction f:x.base with
 |none=>rw[if_neg<|by unfold cJ.kn;rw[f];decide];rfl
 |some b=>show hd λt o=>?_;obtain⟨q,g,_⟩:=G.bp e f;show o ?_;rw[if_pos<|by unfold cJ.kn;rw[f]];change scan _ _ _ (.int<|x.bp<|iE 12 p) _ _=scan _ _ _ (match zZ Z b.1 with|some q=>.int q|none=>.none) _ _;rw[show zZ Z b.1=I q by show(e)▸SH g,show x.bp (iE 12 p)=q by unfold cJ.bp;rw[f];change(lk _ _).getD 0=_;show(g)▸?_;rfl]
theorem abN(G:Good Z):∀{r p:List cJ},Z=p++r->Kd (iE 12 p) (12+gz p) r=(D6 (12+gz p) r).map λx=>(x.1,qE Z x.1):=by
 intro r;induction r with
 |nil=>intro _ _;show B
 |cons e r f=>intro p h;have t:=f (p:=p++[e]) (by rw[h,aJ];rfl);rw[sD,nB,<- eE]at t;rw[aeF,LG,aeD G h];show congrArg (_::·) t
theorem Yr(G:Good Z):Kd [] 12 Z=(cf Z).map λa=>(a,qE Z a):=by rw[uM,bw];show abN G (p:=[]) B
theorem aeo(G:Good Z):Ig [] 12 Z=(cf Z).map (qE Z):=by rw[<- EJ,Yr G,bw];rfl
theorem ae9(G:Good Z):Fp (Kd [] 12 Z)=nd (λa=>.p<|qE Z a) (cf Z):=by rw[Yr G];unfold Fp nd;rw[bw];rfl
theorem G6(G:Good Z){b:Nat}{y:cJ}(h:nT Z a x)(k:nT Z b y)(e:x.o=y.o):a=b:=by
 obtain⟨p,q,R,rfl⟩:=h;obtain⟨r,s,M,rfl⟩:=k;have D:∀{x y:cJ}{p q r s:List cJ},Z=p++x::q->p++x::q=r++y::s->x.o=y.o->gz p<=gz r:=λ{x y p q r s} g h e=>by
  rcases Cv.mp h with ⟨t,f,w⟩ | ⟨t,f,w⟩
  ·rw[f,nB];show bg _ _
  ·induction t with
   |nil=>rw[f,aY];show aE _
   |cons z t=>injection w with w;subst w;show absurd ?_<|G.once p x q g;rw[f,aO,e];show aG _<|.head _
 show congrArg _<|di (D R (R.symm.trans M) e)<|D M (M.symm.trans R) e.symm
theorem nW(G:Good Z)(h:nT Z a x):zZ Z x.o=I a:=by obtain⟨v,f⟩:=zy (q:=x.o)<|(qx)▸fQ h.mem;obtain⟨y,g,e⟩:=uH f;show(show zZ Z x.o=I v from f)▸(G6 G g h e)▸rfl
end
def dpF(f:List cJ)(n a:Nat):Nat:=n.rec (λw=>0) (λw k a=>(nt f a).elim 0 λb=>k b+1) a
theorem Li{f:List cJ}:dpF f (n+1) a=(nt f a).elim 0 λb=>dpF f n b+1:=rfl
def lS(f:List cJ)(a:Nat):Nat:=dpF f a a
def s7(f:List cJ)(a:Nat):List Nat:=(cf f).filter λk=>nt f k=I a
section
variable {Z:List cJ}
theorem sQ{b:Nat}(G:Good Z)(h:a∈cf Z)(e:nt Z a=I b):b<a/\b∈cf Z:=by
 have:=QN G<|nT.of h;induction f:(eu Z a).base with
 |none=>rw[f]at this;replace e:=(this)▸e;show bh e
 |some c=>rw[f]at this;obtain⟨q,g,o,p,_⟩:=this;rw[g]at e;obtain rfl:=aV e;obtain⟨y,t,_⟩:=uH o;show#[p,t.pos]
theorem Jr(h:a∈cf Z)(z:a<=0){P:Prop}:P:=by obtain⟨p,q,_,e⟩:=nT.of h;show absurd (av (bg 12 _)<|e▸z)<|Kg 11
theorem abE(G:Good Z)(h:a∈cf Z)(f:a<=n)(g:a<=m):dpF Z n a=dpF Z m a:=by
 induction n generalizing m a with
 |zero=>show Jr h f
 |succ n o=>
  induction m with
  |zero=>show Jr h g
  |succ m=>
   rw[Li,Li];induction e:nt Z a with
   |none=>rfl
   |some b=>have:=sQ G h e;show congrArg (· + 1)<|o this.2 (fZ [_,_,_] V0 V1 V2 (V1+1) (V0+1) V2 B f this.1)<|fZ [_,_,_] V0 V1 V2 (V1+1) (V0+1) V2 B g this.1
theorem Rh(G:Good Z)(h:a∈cf Z):lS Z a=match nt Z a with|none=>0|some b=>lS Z b+1:=by
 unfold lS;induction a with
 |zero=>show Jr h<|aE _
 |succ n=>
  rw[Li];induction e:nt Z (n+1)with
  |none=>rfl
  |some b=>have:=sQ G h e;show congrArg (· + 1)<|abE G this.2 (dO [_,_] V0 V1 (V0+1) (V1+1) B this.1)<|aE _
theorem pK:k∈s7 Z a ↔ k∈cf Z/\nt Z k=I a:=by unfold s7;rw[jo,decide_eq_true_iff]
theorem iI:(cf Z).length=Z.length:=by rw[ay,vU]
theorem Ld{a:Nat}(G:Good Z):(s7 Z a).length<=7:=av (fk ..)<|(iI)▸G.few
end
structure oE(H:_)(Z):Prop extends Good Z where
 dg:∀e∈Z,uu H (zP e.c)=e.o/\zP e.c∈H
 bl:∀e∈Z,∀b,e.base=I b->∀x∈Z,x.o=b.1->x.c.length=b.2
 hl:H.length<250
theorem IM{g:List cJ}(F:oE H g)(h:k∈s7 g a):∃t,(eu g k).base=I (t,(eu g a).c.length):=by
 obtain⟨w,f⟩:=pK.mp h;unfold nt at f;induction o:(eu g k).base with
 |none=>replace f:=(o)▸f;show bh f
 |some b=>rw[o]at f;obtain⟨x,p,e⟩:=uH f;show(p.en)▸(F.bl _ (nT.of w).mem b o x p.mem e)▸(#[_,rfl])
structure Wd where
 H:List (List UInt8)
 Z:List cJ
 sg:List UInt8
 h:Nat
 d:Nat
 ci:Nat
 r:Nat
 de:Nat
 ca:Nat
 dc:Nat
 s:Nat
 B:Nat
 D9:List (Ky×V)
 S:List Nat
noncomputable abbrev iL(l:List Nat):List P:=l.map λ(n:Nat)=>.int n
abbrev Wd.so(W:Wd):O:=.inst 586 [I<|.p<|.lst<|(cf W.Z).map<|qE W.Z,I<|.ref W.h,I<|.p .none,I<|.ref<|W.s+2,I<|.ref<|W.s+3,I<|.ref<|W.s+4,I<|.ref<|W.s+5,I<|.ref<|W.s+6,I<|.ref<|W.s+7,I<|.ref<|W.s+8,I<|.ref<|W.s+9,I<|.ref<|W.s+10]
structure SE(U:List O)(W:Wd)(S:List Nat):Prop where
 obj:U[W.s]?=I W.so
 e3:U[W.s+2]?=I (.dict au<|nd (λa=>.p<|.bytes (eu W.Z a).o) S)
 e4:U[W.s+3]?=I (.dict au<|nd (λ_=>.p blob) S)
 e5:U[W.s+4]?=I (.dict au<|nd (λa=>nV<|lS W.Z a) S)
 e6:U[W.s+5]?=I (.dict aB<|dm nV<|S.map λa=>((eu W.Z a).o,a))
 e7:U[W.s+6]?=I (.dict aB [])
 e9:U[W.s+8]?=I (.dict au W.D9)
 Uo:U[W.s+9]?=I (.dict aB [])
 NY:U[W.s+10]?=I (.dict au<|nd (λa=>.p<|qE W.Z a)<|cf W.Z)
 kd:∀a,(∃l,fR W.D9 (.i (a:Nat))=I (.ref l)/\W.s+11<=l/\l<W.B/\U[l]?=I (.list<|iL<|s7 W.Z a))∨(fR W.D9 (.i<|a)=A/\s7 W.Z a=[])
variable{js:List Nat}
theorem nf{i l:Nat}(f:iG i 10=aB)(o:s+11<=l)(p:s+11<=m)(h:js.contains i=au):s+i∉js.map (s+·)++[l,m]:=λz=>by
 have f:=bZ f
 rcases aM.mp z with z|z
 ·show gO z λj g e=>?_
  rw[fS e,<- HB,h]at g
  show gE g
 ·rcases aC.mp z with rfl|z
  ·show absurd (av (Dk o) f)<|by decide
  ·induction ah.mp z;show absurd (av (Dk p) f)<|by decide
theorem nl{l:Nat}(f:i<s)(g:s+11<=l)(o:s+11<=m):i∉js.map (s+·)++[l,m]:=λz=>by
 rcases aM.mp z with z|z
 ·show gO z λj t p=>?_
  subst p
  show jX<|dO [_,_] 1 0 (V0+V1+1) V0 B f
 ·rcases aC.mp z with rfl|z
  ·show absurd (aI g f)<|cH.mpr<|bg ..
  ·induction ah.mp z;show absurd (aI o f)<|cH.mpr<|bg ..
theorem nh{l:Nat}(f:s+11<=i)(g:i<l)(o:i<m)(h:js.all (iG · 10)=aB):i∉js.map (s+·)++[l,m]:=λz=>by
 rcases aM.mp z with z|z
 ·show gO z λj p t=>?_
  subst t
  have:=bZ<|cQ.mp h j p
  show jX<|fZ [_,_] 1 0 (V0+11) (V0+V1) V1 10 B f this
 ·rcases aC.mp z with rfl|z
  ·show cP _ g
  ·show aS o<|ah.mp z
variable{W:Wd}
theorem SE.keeps{f:List O}{S R:List Nat}(M:SE f W S)(K:Keeps R f Y)(h:∀i,W.s<=i->i<W.s+11->i∉R)(g:∀i,W.s+11<=i->i<W.B->i∉R):SE Y W S:=
 have h:=λj (t)=>h (W.s+j) (bg _ _)<|uU (qe<|bZ t) _
 #[K.get M.obj<|h 0 B,K.get M.e3<|h 2 B,K.get M.e4<|h 3 B,K.get M.e5<|h 4 B,K.get M.e6<|h 5 B,K.get M.e7<|h 6 B,K.get M.e9<|h 8 B,K.get M.Uo<|h 9 B,K.get M.NY<|h 10 B,λa=>(M.kd a).imp (λw=>by obtain⟨l,T,o,p,D⟩:=w;show#[l,T,o,p,K.get D<|g l o p]) id]
def elt(f:List cJ)(a:Nat):P:=.tup [.int a,blob,.bytes (eu f a).c,.int<|lS f a]
theorem Et{f:List cJ}(F:oE H f)(h:k∈s7 f a):(eu f k).raw=dl (eu f a).c.length (eu f k).c/\lS f k=lS f a+1:=by
 constructor
 ·obtain⟨p,e⟩:=IM F h;unfold cJ.raw;rw[e]
 ·obtain⟨g,o⟩:=pK.mp h;rw[Rh F.toGood g,o]
variable{ks:List Nat}
theorem adq{ks:List Nat}:∃L:List Nat,((lY<|ks.map λ(n:Nat)=>(n:Int)).map P.int).reverse=iL L/\L.length=ks.length/\∀a,a∈L ↔ a∈ks:=by
 show#[(lY<|ks.map λ(n:Nat)=>(n)).reverse.map Int.toNat,?_,?_,λa=>?_]
 ·rw[iL,bw];show sB (gF) ?_;show cL λx m=>(gO (xn.mp<|cR.mp m) λn w f=>f▸?_);rfl
 ·rw[ay,i6,C4,ay]
 ·rw[dD];constructor
  ·rintro⟨x,m,rfl⟩;show gO (xn.mp<|cR.mp m) λn g f=>f▸g
  ·show λm=>#[a,cR.mpr<|xn.mpr<|dD.mpr #[a,m,rfl],rfl]
variable{T:List Nat}
theorem Xg{k f x:Nat}{g:List O}{Q:gT->List O->Prop}(F:oE W.H W.Z)(b:g[W.s]?=I W.so)(d:g[W.s+10]?=I (.dict au<|nd (λa=>.p<|qE W.Z a)<|cf W.Z))(i:g[f]?=I (.list<|T.map<|elt W.Z))(j:x∈cf W.Z)(l:T.length<64)(M:W.s+11<=f)
  (m:∀Y L,Keeps [f] g Y->Y[f]?=I (.list<|(T++L).map<|elt W.Z)->L.length=(s7 W.Z x).length->(∀a,a∈L ↔ a∈s7 W.Z x)->Q (.ok<|.p .none) Y):LV (k+6) 576 [.ref W.s,.ref f,.p<|.lst<|iL<|s7 W.Z x,.p blob,.p<|.bytes (eu W.Z x).c,nV<|lS W.Z x+1] g Q:=by show enter (loc:=wG (I<|.ref W.s) (I<|.ref f) (I<|.p<|.lst<|iL<|s7 W.Z x) (I<|.p blob) (I<|.p<|.bytes (eu W.Z x).c) (I<|nV<|lS W.Z x+1) A A A) B B B<|bq (we) ?_;have R:=Ld (a:=x) F.toGood;have w:=(F.ok _ (nT.of j).mem).c9;show aN (by rw[ay];show dO [_] (V0+1) 64 V0 7 B R)<|(adq (ks:=s7 W.Z x)).elim λL h=>?_;change Cp _ ((lY<|(s7 W.Z x).map λ(n:Nat)=>(n)).map P.int).reverse _ _;rw[h.1];show lG (τ:=Option V×Option V×Option V) (λ(n:Nat)=>P.int n) (λt=>wG (I<|.ref W.s) (I<|.ref f) (I<|.p<|.lst<|iL<|s7 W.Z x) (I<|.p blob) (I<|.p<|.bytes (eu W.Z x).c) (I<|nV<|lS W.Z x+1) t.1 t.2.1 t.2.2) (λp z o=>Keeps [f] g o/\o[f]?=I (.list<|(T++p).map<|elt W.Z)) (λp a r e t o v C q=>?_) (A,A,A) #[.refl,by rw[aY];show i] λz o C=>m o L C.1 C.2 h.2.1 h.2.2;have K:=(h.2.2 a).mp<|e▸aG _ (.head _);have U:=(pK.mp K).1;have Y':=F.ok _ (nT.of U).mem;show ls B<|ls B ?_;show bL (C.1.get b<|cX λB'=>jX<|fZ [_,_] 1 0 V1 V0 (V0+11) V1 B (ak B'.symm) M) B ?_;show lD (C.1.get d<|cX λB'=>jX<|fZ [_,_] 1 0 V1 (V0+10) (V0+11) V1 B (ak B'.symm) M) B (ki.trans<|if_pos U) ?_;change LV (k+5) 296 [_,.p<|.bytes (eu W.Z a).raw] _ _;rw[(Et F K).1];show Hh (dO [_] (V0+1) 128 (V0+1) 10 B w) (aW Y'.c9<|bz B) Y'.c0 λy Z=>?_;have D:=Z.get C.2 ai;show ls B<|fy au B<|aN (gf D)<|lz B<|j3 D<|aN (by rw[ay,aj];show aH (by show rj [_,_,_] (V0+V1+1) 1000 (V0+1) 64 V2 7 (V1+1) V2 B l R<|(h.2.1)▸(e)▸(aj)▸(aX)▸Fo [_,_] (V0+1) (V0+(V1+1)) B) jg) ?_;show(q (I<|.p<|.int a,I<|.p<|.bytes (eu W.Z a).c,t.2.2) _ #[(C.1.and Z).xA<|.head _,(cM D).trans ?_]).1;rw[<- aJ,aO (l₁:=T++p),dR,show elt W.Z a=.tup [.int a,blob,.bytes (eu W.Z a).c,.int (lS W.Z x+1:Nat)]by rw[elt,(Et F K).2]]
noncomputable def cnt(S l:List Nat):Nat:=l.foldr (λx k=>(if x∈S then 0 else 1)+k) 0
theorem O3{S:List Nat}{x:Nat}{r:List Nat}:cnt S (x::r)=(if x∈S then 0 else 1)+cnt S r:=rfl
theorem SW{S:List Nat}:∀{ps:List Nat},cnt S ps<=ps.length:=by
 intro ps;induction ps with
 |nil=>show aE _
 |cons x r f=>rw[O3,aX,iy];show gP f (by by_cases h:x∈S<;>simp only[h,if_true,if_false]<;>decide)
theorem abR{S:List Nat}{y:Nat}(h:y∉S){ps:List Nat}:cnt (S++[y]) ps<=cnt S ps/\(y∈ps->cnt (S++[y]) ps<cnt S ps):=by
 induction ps with
 |nil=>show#[aE _,λm=>(cO m)]
 |cons x r g=>
  obtain⟨a,b⟩:=g;rw[O3,O3,aC];by_cases e:y=x
  ·show(e)▸(if_neg h)▸(if_pos<|aG S<|ah.mpr B)▸(#[(dO [_,_] (0+V0) (1+V1) V0 V1 B a),λw=>(dO [_,_] (0+V0+1) (1+V1) V0 V1 B a)])
  ·have:(if x∈S++[y] then 0 else 1)=if x∈S then 0 else 1:=by
    by_cases f:x∈S
    ·rw[if_pos f,if_pos<|aU _ f]
    ·rw[if_neg f,if_neg λz=>(aM.mp z).elim f λz=>e (ah.mp z).symm]
   show(this)▸#[j5 a _,λm=>uU (b<|m.resolve_left e) _]
theorem Qs{t:E}{l:Nat}{o:List P}{y:P}{r:S}{f:List<|Option V}{g:List O}(w:f[i]?.join=I (.ref l))(e:g[l]?=I (.list<|o++[y]))(h:∀Y,Keeps [l] g Y->Y[l]?=I (.list o)->asg Γ X t (.p y) #[f,Y] λτ=>ex Γ X r τ K):ex Γ X (.cons (.asg t<|.bm .Pow (.loc i) .nil) r) #[f,g] K:=bq w<|aN (Tu e)<|aN B<|j3 e<|bq (a:=y) (HW ..)<|h _ .set<|(cM e).trans<|by show(List.dropLast_concat)▸rfl
theorem snoc(T:List Nat):T=[]∨∃f x,T=f++[x]:=by
 rcases HG T with e | ⟨f,x,e⟩
 ·show .inl e
 ·show .inr #[f,x,e.trans<|HH ..]
variable{D9:List (Ky×V)}{B:Nat}
theorem aa5{Γ:gI}{X:XX}{t:E}{r:S}{f:List<|Option V}{g:List O}{K:Fl->St->Prop}{o x B m:Nat}{ks:List P}(w:f[0]?.join=ae (.ref s))(A:g[s]?=ae (.inst 586 fs))(D:(fs[9]?).join=ae (.ref o))(hd:g[o]?=ae (.dict au D9))(F:f[1]?.join=ae (nV x))
  (L:(∃l,fR D9 (.i<|x)=ae (.ref l)/\m<=l/\l<B/\g[l]?=ae (.list ks))∨(fR D9 (.i<|x)=az/\ks=[]))
  (h:∀Y l,Keeps [] g Y->g.length<=l->Y[l]?=ae (.list ks)->asg Γ X t (.ref l) #[f,Y] λτ=>ex Γ X r τ K):ex Γ X (.cons (.asg t<|.bi .Mod<|.cons (.bm .Mod (.attr (.loc 0) 586 9)<|.cons (.loc 1)<|.cons (.lst .nil) .nil) .nil) r) #[f,g] K:=by
 show bq w<|bL A D<|aN (KW hd)<|bq F<|lz af<|Be ((Keeps.app).get hd ai) ?_;change HP #[f,g++[.list []]] .Mod [(fR D9<|.i<|x).getD<|.ref g.length] λv τ=>asg Γ X t v τ λτ=>ex Γ X r τ K;have p:∀{i:Nat},(g++[O.list []])[i]?=ae (.list ks)->HP #[f,g++[.list []]] .Mod [.ref i] (λv τ=>asg Γ X t v τ λτ=>ex Γ X r τ K):=λ{i} e=>bq (kL e)<|h _ _ (Keeps.push .app) (Keeps.app (I:=[])).len bJ;rcases L with ⟨l,e,_,_,M⟩ | ⟨e,rfl⟩
 ·show(e)▸(p<|(Keeps.app).get M ai)
 ·show(e)▸(p bJ)
theorem aay{Γ:gI}{X:XX}{t:E}{r:S}{f:List<|Option V}{g:List O}{K:Fl->St->Prop}{w l:Nat}{o:List UInt8}{ks:List P}(F:f[7]?.join=I (.ref l))(e:g[l]?=I (.list ks))(a:f[0]?.join=I (.ref s))(D:g[s]?=I (.inst 586 fs))(L:(fs[10]?).join=I (.ref w))(hd:g[w]?=I (.dict aB []))(M:f[6]?.join=I (.p<|.bytes o))(R:ks.length<=900)
  (h:∀Y,Keeps [l] g Y->asg Γ X t (.p<|.lst ks) #[f,Y] λτ=>ex Γ X r τ K):ex Γ X (.cons (.asg t<|.bin .BitXor (.fz<|.loc 7)<|.fz<|.bm .Mod (.attr (.loc 0) 586 10)<|.cons (.loc 6)<|.cons (.lst .nil) .nil) r) #[f,g] K:=by have nd:=jF hd e af;have b:=@Keeps.set g l .gone;show bq F<|ua e<|bq a<|bL (b.get D<|cX<|jF D e af) L<|aN (KW<|b.get hd<|cX nd) ?_;show bq M<|lz af ?_;show Be ((Keeps.app).get (b.get hd<|cX nd) ai)<|bq af ?_;show ua bJ ?_;show aN (av (show ks.length+0<=1000 by show dO [_] (V0+0) 1000 V0 900 af R) jg) ?_;rw[aY];show h _<|(b.push).bG<|by rw[cD];show aE _
noncomputable abbrev Wd.I(W:Wd):List Nat:=[W.d,W.s+2,W.s+3,W.s+4,W.s+5]
noncomputable def S.tl:S->S
 |.cons _ r=>r
 |s=>s
noncomputable def S.bd:S->S
 |.cons (.yu _ b) _=>b
 |.cons (.kP _ _ b) _=>b
 |.cons (.MY _ _ _ b) _=>b
 |s=>s
def tuL(W:Wd)(x f:Nat)(g o:Option V):List<|Option V:=[I<|.ref W.s,I<|nV x,I<|.p blob,I<|.p<|.bytes (eu W.Z x).c,I<|nV<|lS W.Z x,I<|.ref f,g,o]
variable{v6 v7:Option V}
theorem UW{k t x:Nat}{S:List Nat}{v6 v7:Option V}{Q:List O}{Z:XX}{K:Fl->St->Prop}(F:oE W.H W.Z)(X:bP Q W.h W.d W.H)(Y':SE Q W S)(hs:Q[t]?=I (.list<|T.map<|elt W.Z))(hx:x∈cf W.Z)(hn:x∉S)(hS:∀y∈S,y∈cf W.Z)(hl:T.length<64)(hc:S.length<64)(f:W.s+11<=t)(hB:W.B<=t)(hh:W.h<W.s)(hd:W.d<W.s)
  (hK:∀Y L v,Keeps (W.I++[t]) Q Y->Y[t]?=I (.list<|(T++L).map<|elt W.Z)->L.length<=7->(∀a,a∈L ↔ a∈s7 W.Z x)->bP Y W.h W.d W.H->SE Y W (S++[x])->K .next #[tuL W x t (I<|.p<|.bytes (eu W.Z x).o) v,Y]) :
  ex (LV<|k+6) Z jA.tl.bd.tl.tl #[tuL W x t v6 v7,Q] K:=by
 have g:=F.dg _ (nT.of hx).mem;have hk:=Ld (a:=x) F.toGood;have R:=aH (dO [_] (V0+1) 1000 (V0+1) 64 af hc) jg;have st1:=iC hs;show bL Y'.obj af<|vm X F.hl (F.ok _ (nT.of hx).mem).c9 λgY K3 X3=>((g.1)▸?_);rw[Ad g.2]at X3;have nd:∀i,W.s<=i->i∉[W.d]:=λi h=>cX λA=>jX<|rj [_,_,_] 1 0 (V0+1) V1 V1 V2 V2 V0 af hd h<|ak A;have w:=Y'.keeps K3 (λi h _=>nd i h) λi h _=>nd i<|dO [_,_] V0 V1 (V0+11) V1 af h;have s3:=K3.get hs<|nd _<|dO [_,_] V0 V1 (V0+11) V1 af f;have l3:=K3.len;show ls af<|bL w.obj af<|ss w.e3 af (by rw[sC];show R) λkQ c l4 e4=>?_;have q4:∀j,gB j 2=au->W.s+j∉[W.s+2]:=λj h=>cX λz=>by replace h:=(fS z)▸h;show vZ h
 show bL (c.get w.obj<|q4 0 af) af<|ss (c.get w.e4<|q4 3 af) af (by rw[sC];show R) λqu K5 l5 e5=>?_;have K45:Keeps ([2,3].map (W.s+·)++[t,t]) gY qu:=(c.trans K5).mono λi m _=>aU [t,t] m;show bL (K45.get w.obj<|nf (i:=0) af f f af) af<|ss (K45.get w.e5<|nf af f f af) af (by rw[sC];show R) λsL K6 l6 e6=>?_;have M:Keeps ([2,3,4].map (W.s+·)++[t,t]) gY sL:=((c.trans K5).trans K6).mono λi m _=>aU [t,t] m;show aa5 af (M.get w.obj<|nf (i:=0) af f f af) af (M.get w.e9<|nf af f f af) af ((w.kd x).imp (λEx=>by obtain⟨l,z1,z2,C,z4⟩:=Ex;show#[l,z1,z2,C,M.get z4<|nh z2 (aH C hB) (aH C hB) af]) λz=>#[z.1,by rw[z.2];rfl]) λMR q K7 r e7=>?_;have r:=r;have l6:sL.length=gY.length:=l6.trans<|l5.trans l4;have o7:=(M.and K7).get w.obj<|nf (i:=0) af f f af;have p7:=(M.and K7).get w.e6<|nf af f f af;have hlk:lk (S.map λa=>((eu W.Z a).o,a)) (eu W.Z x).o=az:=tK.mpr λz=>by rw[bw]at z;show gO z λy hy e=>(hn<|G6 F.toGood (nT.of<|hS y hy) (nT.of hx) e▸hy)
 show ls af<|bL o7 af ?_;show ur p7 af ?_;rw[se,hlk];show bL o7 af<|ss p7 af (by rw[IZ,ay];show R) λW3 K8 l8 e8=>?_;rw[JA hlk]at e8;have U:Keeps ([2,3,4,5].map (W.s+·)++[t,t]) gY W3:=(((((c.trans K5).trans K6).trans K7).trans K8)).mono λi m _=>aU [t,t] m;have o8:=U.get w.obj<|nf (i:=0) af f f af;show bL o8 af<|ur (U.get w.e7<|nf af f f af) af<|aay af (K8.get e7<|cX<|by lia) af o8 af (U.get w.Uo<|nf af f f af) af (by rw[ay];show dO [_] (.v 0) (.n 900) (.v 0) (.n 7) af hk) λhp9 K9=>?_;have D:W.s+11<=q:=(M8 [_,_,_,_,_,_] (V0+11) V1 (V0+11) V2 (V2+1) V3 V3 V4 V5 V1 V4 V5 af f st1 l3 r<|ak l6.symm);have o9:=K9.get o8<|cX λA=>jX<|fZ [_,_] 1 0 (V0+11) V1 V1 V0 af D<|ak A.symm;have kd3:=w.kd;show ls af<|aN (bF o9) ?_;show Xg F o9 (K9.get (U.get w.NY<|nf af f f af)<|cX<|by lia) (K9.get (K8.get (K7.get (K6.get (K5.get (c.get s3<|cX λA=>jX<|fZ [_,_] 1 0 (V0+11) V1 V1 (V0+2) af f<|ak A)<|cX λA=>jX<|fZ [_,_] 1 0 (V0+11) V1 V1 (V0+3) af f<|ak A)<|cX λA=>jX<|fZ [_,_] 1 0 (V0+11) V1 V1 (V0+4) af f<|ak A) ai)<|cX λA=>jX<|fZ [_,_] 1 0 (V0+11) V1 V1 (V0+5) af f<|ak A)<|cX λA=>jX<|M8 [_,_,_,_,_] 1 0 (V0+1) V1 V1 V2 V3 V4 V2 V3 V4 V0 af st1 l3 r (ak l6.symm)<|ak A.symm) hx hl f λJ L KA eA lL mL=>?_;have K9A:Keeps ([].map (W.s+·)++[q,t]) W3 J:=K9.trans KA;have K7A:Keeps ([5].map (W.s+·)++[q,t]) sL J:=K7.trans<|K8.trans K9A;have K6A:Keeps ([4,5].map (W.s+·)++[q,t]) qu J:=K6.trans K7A;have K5A:Keeps ([3,4,5].map (W.s+·)++[q,t]) kQ J:=K5.trans K6A;have b:Keeps ([2,3,4,5].map (W.s+·)++[q,t]) gY J:=c.trans K5A;show hK J L _ ?_ eA ((fZ [_,_] V0 7 V1 7 V0 V1 af hk<|ak lL)) mL (X3.keeps b (nl hh D f)<|nl hd D f) #[b.get w.obj<|nf (i:=0) af D f af,(K5A.get e4<|nf af D f af).trans ?_,(K6A.get e5<|nf af D f af).trans ?_,(K7A.get e6<|nf af D f af).trans ?_,(K9A.get e8<|nf af D f af).trans ?_,b.get w.e7<|nf af D f af,b.get w.e9<|nf af D f af,b.get w.Uo<|nf af D f af,b.get w.NY<|nf af D f af,λa=>(w.kd a).imp (λEx=>by obtain⟨l,z1,z2,C,z4⟩:=Ex;show#[l,z1,z2,C,b.get z4<|nh z2 (by lia) (fZ [_,_,_] (V0+1) V1 V2 V1 (V0+1) V2 af hB C) af]) id]
 ·show(K3.trans b).mono λi m hi=>?_;rcases aC.mp m with rfl|m
  ·show .head _
  have m:i∈[2,3,4,5].map (W.s+·)++[q,t]:=m;rcases aM.mp m with m|m
  ·show aU _<|.tail _ m
  ·rcases aC.mp m with rfl|m
   ·have r:=(fZ [_,_,_] V0 V1 V0 V2 V2 V1 af (ak l6.symm) r);show absurd hi<|cH.mpr<|av l3 r
   ·show aG _ m
 ·show congrArg (λd=>I<|O.dict au d)<|rY hn
 ·show congrArg (λd=>I<|O.dict au d)<|rY hn
 ·show congrArg (λd=>I<|O.dict au d)<|rY hn
 ·rw[aO];rfl
structure ST(cu U)(W:Wd)(T S:List Nat):Prop where
 K:Keeps W.I cu U
 X:bP U W.h W.d W.H
 Y:SE U W S
 s1:∀x∈S,x∈cf W.Z
 cl:∀x∈S,∀q∈s7 W.Z x,q∈S∨q∈T
 cn:S.length+cnt S (cf W.Z)<=7
structure TI(cu:List O)(st:Nat)(W:Wd)(S:List Nat)(a:Nat)(U:List O)(T S1:List Nat):Prop extends ST cu U W T S1 where
 eT:U[st]?=I (.list<|T.map<|elt W.Z)
 ss:∀x∈S,x∈S1
 aT:a∈S1∨a∈T
 tp:∀x∈T,x∈cf W.Z
 m57:T.length+8*cnt S1 (cf W.Z)<=57
variable{cu:List O}
theorem ST.keeps{g:List O}{S:List Nat}{l:Nat}(Z:ST cu g W T S)(K:Keeps [l] g Y)(h:W.s+11<=l)(o:W.B<=l)(p:cu.length<=l)(t:W.h<W.s)(hd:W.d<W.s):ST cu Y W T S:=
 #[Z.K.step K λi m w=>absurd w<|(ah.mp m)▸cH.mpr p,Z.X.keeps K (cX λf=>jX<|rj [_,_,_] 1 0 V1 V0 (V2+11) V1 (V0+1) V2 af (ak f.symm) h t)<|cX λf=>jX<|rj [_,_,_] 1 0 V1 V0 (V2+11) V1 (V0+1) V2 af (ak f.symm) h hd,Z.Y.keeps K (λi F F=>cX λf=>jX<|rj [_,_,_] 1 0 V1 V0 (V2+11) V1 (V0+1) (V2+11) af (ak f.symm) h ‹_›) λi F F=>cX λf=>jX<|rj [_,_,_] 1 0 V1 V0 V2 V1 (V0+1) V2 af (ak f.symm) o ‹_›,Z.s1,Z.cl,Z.cn]
theorem NC{k:Nat}{S:List Nat}{b:List O}{Q:gT->List O->Prop}(F:oE W.H W.Z)(Z:ST cu b W [] S)(ha:a∈cf W.Z)(hB:W.B<=b.length)(hs:W.s+11<=b.length)(hh:W.h<W.s)(hd:W.d<W.s)
  (hQ:∀Y S',ST cu Y W [] S'->(∀x∈S,x∈S')->a∈S'->Q (.ok<|.p .none) Y):LV (k+7) 569 [.ref W.s,nV a,.p blob,.p<|.bytes (eu W.Z a).c,nV<|lS W.Z a] b Q:=by
 show enter (loc:=lq8 (ae<|.ref W.s) (ae<|nV a) (ae<|.p blob) (ae<|.p<|.bytes (eu W.Z a).c) (ae<|nV<|lS W.Z a) az az az) af af af ?_;show lz af<|lz af<|ls af ?_;have hc:=SW (S:=S) (ps:=cf W.Z);have hf:(cf W.Z).length<=7:=by rw[iI];show F.few
 show nD (λt=>lq8 (ae<|.ref W.s) t.1.1 t.1.2.1 t.1.2.2.1 t.1.2.2.2.1 (ae<|.ref b.length) t.1.2.2.2.2.1 t.1.2.2.2.2.2) (λm t C=>TI cu b.length W S a C t.2.1 t.2.2/\m=t.2.1.length+8*cnt t.2.2 (cf W.Z)) ?_ _ ((_,_,_,_,_,_),[a],S) #[#[#[Z.K.push,Z.X.keeps (Keeps.app) ai ai,Z.Y.keeps (Keeps.app (I:=[])) (λ_ _ _=>ai) λ_ _ _=>ai,Z.s1,λx n q j=>.inl<|(Z.cl x n q j).resolve_right ai,Z.cn],bJ,λ_ h=>h,.inr<|.head _,λx h=>by rw[ah.mp h];show ha,by change 1+8*cnt S (cf W.Z)<=57;show fZ [_,_] (1+(lm 8 V0)) 57 (lm 8 V0) (lm 8 V1) (lm 8 V1) (lm 8 7) af (bW 8 hc)<|bW 8 hf],rfl];rintro m ⟨v,T,A⟩ C ⟨o,hm⟩ U hU;have o:TI cu b.length W S a C T A:=o;have R:=o.m57;rcases snoc T with rfl | ⟨M,x,rfl⟩
 ·show sO au o.eT af<|hQ C A o.toST o.ss<|o.aT.resolve_right ai
 ·have eT:=o.eT;show sO aB eT (by show bS (aO)<|bS (dR) ?_;induction M.map (elt W.Z)<;>rfl) ?_;rw[aO]at eT;rw[aj,fV]at hm R;have xT:x∈M++[x]:=aG _<|.head _;have n:=o.tp x xT;have J:∀{P:Prop}{y:Nat},(y∈M->P)->(y=x->P)->y∈M++[x]->P:=λf g z=>(aM.mp z).elim f λz=>g<|ah.mp z;show Qs af eT λeR S2 r=>?_;show aN af<|ls af<|ls af<|ls af<|ls af<|aN af ?_;have D:=o.toST.keeps S2 hs hB Z.K.len hh hd;show bL D.Y.obj af<|vL D.Y.e3 af ?_;rw[ki];by_cases l:x∈A
  ·rw[if_pos l];show hU (M.length+8*cnt A (cf W.Z)) ((_,_,_,_,_,_),M,A) eR (dO [_,_,_] (V0+(lm 8 V1)+1) V2 (V0+1+(lm 8 V1)) V2 af<|ak hm.symm) #[#[#[D.K,D.X,D.Y,D.s1,λy w q j=>?_,D.cn],r,o.ss,?_,λy w=>o.tp y<|aU _ w,?_],rfl]
   ·show(o.cl y w q j).elim .inl<|J .inr λe=>.inl<|bS e l
   ·show o.aT.elim .inl<|J .inr λe=>.inl<|bS e l
   ·change M.length+8*cnt A (cf W.Z)<=57;show dO [_,_] (V0+(lm 8 V1)) 57 (V0+1+(lm 8 V1)) 57 af R
  ·rw[if_neg l];have hl:=(abR l).2 n;show UW F D.X D.Y r n l D.s1 (dO [_,_] (V0+1) 64 (V0+1+(lm 8 V1)) 57 af R) (dO [_,_] (V0+1) 64 (V0+V1) 7 af o.cn) hs hB hh hd λTe L v KA eA lL mL XA YA=>?_;show hU ((M++L).length+8*cnt (A++[x]) (cf W.Z)) ((_,_,_,_,_,_),M++L,A++[x]) Te (bS (aj)<|rj [_,_,_,_,_] (V0+V1+(lm 8 V2)+1) V3 (V0+1+(lm 8 V4)) V3 (lm 8<|V2+1) (lm 8 V4) V1 7 af (ak hm.symm) (bW 8 hl) lL) #[#[#[?_,XA,YA,λy w=>?_,λy w q j=>?_,?_],eA,λy w=>aU _<|o.ss y w,?_,λy w=>?_,?_],rfl]
   ·show D.K.step KA λi m hi=>(aM.mp m).elim id λm=>absurd hi ?_;rw[ah.mp m];show cH.mpr Z.K.len
   ·show(aM.mp w).elim (o.s1 y) λz=>ah.mp z▸n
   ·show(aM.mp w).elim (λw=>?_) λw=>?_
    ·show(o.cl y w q j).elim (λz=>.inl<|aU _ z)<|J (λz=>.inr<|aU _ z) λe=>.inl<|aG _<|ah.mpr e
    ·rw[ah.mp w]at j;show .inr<|aG _<|(mL q).mpr j
   ·change(A++[x]).length+cnt (A++[x]) (cf W.Z)<=7;rw[aj,fV];show fZ [_,_,_] (V0+1+V1) 7 (V1+1) V2 (V0+V2) 7 af hl o.cn
   ·show o.aT.elim (λz=>.inl<|aU _ z)<|J (λz=>.inr<|aU _ z) λe=>.inl<|aG _<|ah.mpr e
   ·show(aM.mp w).elim (λz=>o.tp y<|aU _ z) λz=>(pK.mp<|(mL y).mp z).1
   ·change(M++L).length+8*cnt (A++[x]) (cf W.Z)<=57;rw[aj];show rj [_,_,_,_] (V0+V1+(lm 8 V2)) 57 (V0+1+(lm 8 V3)) 57 (lm 8<|V2+1) (lm 8 V3) V1 7 af R (bW 8 hl) lL
abbrev Bu(f:List cJ)(p:List Nat)(q:Nat):List Nat:=p.filter λk=>nt f k=I q
structure SK(cu U:List O)(W:Wd)(D9:List (Ky×V))(p p':List Nat):Prop where
 K:Keeps [W.s+8,W.s+10] cu U
 obj:U[W.s]?=I W.so
 e9:U[W.s+8]?=I (.dict au D9)
 NY:U[W.s+10]?=I (.dict au<|nd (λa=>.p<|qE W.Z a) p')
 kd:∀q,(∃l,fR D9 (.i (q:Nat))=I (.ref l)/\W.s+11<=l/\U[l]?=I (.list<|iL<|Bu W.Z p q))∨(fR D9 (.i<|q)=A/\Bu W.Z p q=[])
 inj:∀q q' l,fR D9 (.i (q:Nat))=I (.ref l)->fR D9 (.i (q':Nat))=I (.ref l)->q=q'
 len:D9.length<=p.length
variable{p:List Nat}
theorem GY{g:List cJ}{f:Nat}(o:nt g a=I q):Bu g (p++[a]) f=if q=f then Bu g p f++[a] else Bu g p f:=by
 unfold Bu;rw[pg,jc,o];by_cases h:q=f
 ·rw[if_pos h,if_pos<|by rw[h];show decide_eq_true af];rfl
 ·rw[if_neg h,if_neg<|by rw[decide_eq_true_iff];show λe=>h<|aV e];show aY _
theorem Ao{q f:Ky}{v:α}{g:List<|Ky×α}(h:fR g q=A):fR (kU g q v) f=if q=f then I v else fR g f:=by
 rw[mQ h];unfold fR at h ⊢;rw[wU];by_cases e:q=f
 ·subst e;rw[if_pos af,Option.map_eq_none_iff.mp h,gu,decide_eq_true af];rfl
 ·rw[if_neg e,gu,decide_eq_false e];induction ac1 (λe=>decide (e.1=f)) g<;>rfl
variable{p':List Nat}
theorem SK.none{f:List O}(Y:SK cu f W D9 p p')(g:nt W.Z a=.none):SK cu f W D9 (p++[a]) p':=by
 have e:∀q,Bu W.Z (p++[a]) q=Bu W.Z p q:=λq=>by unfold Bu;rw[pg,jc,g,if_neg<|by rw[decide_eq_true_iff];show λe=>(bh e)];show aY _
 show#[Y.K,Y.obj,Y.e9,Y.NY,λq=>by rw[e];show Y.kd q,Y.inj,by rw[aj];show iA Y.len]
theorem PV{Γ:gI}{X:XX}{r:S}{f:List O}{Q T x4 x5 x6:P}{K:Fl->St->Prop}(Y':SK cu f W D9 p p')(hb:nt W.Z a=I q)(h0:cu.length<=W.s+11)(c:W.s+11<=f.length)(hl:p.length<100)
  (h:∀Y d,SK cu Y W d (p++[a]) p'->f.length<=Y.length->ex Γ X r #[[I<|.ref W.s,I<|.p<|.inst 460 [.int a,Q,T,.int q,x4,x5,x6]],Y] K) :
  ex Γ X (.cons (.ex<|.bm .Add (.bm .Mult (.attr (.loc 0) 586 9)<|.cons (.attr (.loc 1) 460 3)<|.cons (.lst .nil) .nil)<|.cons (.attr (.loc 1) 460 0) .nil) r) #[[I<|.ref W.s,I<|.p<|.inst 460 [.int a,Q,T,.int q,x4,x5,x6]],f] K:=by
 have A:Keeps [] f<|f++[.list []]:=.app;have z9:=A.get Y'.e9 ai;have k:∀g,(Bu W.Z p g).length<gr:=λg=>aI (fk ..)<|aW hl<|bz af;have D:∀{j},acn j 11=aB->W.s+j<W.s+11:=λe=>uU (bZ e) _;have v:∀{j},acn j 11=aB->W.s+j≠f.length:=λe=>aS<|aH (D e) c;have n8:=v (j:=8) af;have x:=v (j:=10) af;have n0:=v (j:=0) af;show bL Y'.obj af<|aN (Wz Y'.e9)<|aN (c6 af)<|ae6 z9 ?_;change(match fR D9 (.i<|q)with|some z=>_|none=>_);rcases Y'.kd q with ⟨l,e,y,B⟩ | ⟨e,e0⟩
 ·have n:∀i,i<W.s+11->i≠l:=λi h=>aS<|aH h y;rw[e];have L:=A.get B ai;show aN (gf L)<|j3 L<|aN (by rw[ay];show k q) ?_;have F:=@Keeps.set (f++[O.list []]) l<|.list<|iL (Bu W.Z p q)++[.int a];have t:=λ{i:Nat}{o:O} (z:f[i]?=I o) n=>F.get (A.get z ai)<|cX n;show h _ D9 #[(Y'.K.and A).step F λi m C=>absurd C<|by rw[ah.mp m];show cH.mpr<|av h0 y,t Y'.obj<|n _<|D (j:=0) af,t Y'.e9<|n _<|D af,t Y'.NY<|n _<|D af,λg=>?_,Y'.inj,by rw[aj];show iA Y'.len]<|av A.len F.len;rw[GY hb];by_cases h:q=g
  ·subst h;rw[if_pos af];show .inl #[l,e,y,(cM L).trans<|by rw[iL,iL,aO];rfl]
  ·rw[if_neg h];show(Y'.kd g).imp (λ⟨U,w,I',M⟩=>#[U,w,I',t M λe'=>h<|Y'.inj q g l e<|by rw[<- e'];show w]) id
 ·rw[e];show aN (aI Y'.len<|aW hl<|bz af) ?_;have Z:=@Keeps.set (f++[O.list []]) (W.s+8)<|.dict au<|kU D9 (.i<|q)<|.ref f.length;have l0:(f++[O.list []])[f.length]?=I (.list []):=bJ;have L:=Z.get l0<|cX n8.symm;show aN (gf L)<|j3 L<|aN (bz af) ?_;have F:=@Keeps.set ((f++[O.list []]).set (W.s+8)<|.dict au<|kU D9 (.i<|q)<|.ref f.length) f.length<|.list<|[]++[.int a];have t:=λ{i:Nat}{o:O} (z:f[i]?=I o) n m=>F.get (Z.get (A.get z ai)<|cX n)<|cX m;show h _ (kU D9 (.i<|q)<|.ref f.length) #[((Y'.K.and A).step Z λi m _=>by rw[ah.mp m];show .head _).step F λi m C=>absurd C<|by rw[ah.mp m];show cH.mpr<|av h0 c,t Y'.obj (aS<|jd<|by decide) n0,F.get (cM z9)<|cX n8,t Y'.NY (λz=>absurd (fS z)<|by decide) x,λg=>?_,λH b l=>?_,?_] (av A.len<|av Z.len F.len)
  ·rw[GY hb,Ao e];by_cases h:q=g
   ·subst h;rw[if_pos af,if_pos af,e0];show .inl #[_,rfl,c,cM L]
   ·rw[if_neg λz=>h<|Cf.mp z,if_neg h];show(Y'.kd g).imp (λ⟨U,w,I',M⟩=>#[U,w,I',t M (bT<|aH (D af) I')<|aS<|iC M]) id
  ·have old:∀g l,fR D9 (.i (g:Nat))=I (.ref l)->l<f.length:=λg l z=>by
    rcases Y'.kd g with ⟨U,w,_,M⟩ | ⟨w,_⟩
    ·rw[w]at z;cases z;show iC M
    ·rw[w]at z;cases z
   rw[Ao e,Ao e]
   by_cases J:q=H
   ·by_cases R:q=b
    ·show λ_ _=>J.symm.trans R
    ·rw[if_pos<|Cf.mpr J,if_neg λz=>R<|Cf.mp z]
     show λw I'=>by cases w;show absurd (old b _ I')<|cP _
   ·rw[if_neg λz=>J<|Cf.mp z]
    by_cases R:q=b
    ·rw[if_pos<|Cf.mpr R]
     show λw I'=>by cases I';show absurd (old H _ w)<|cP _
    ·rw[if_neg λz=>R<|Cf.mp z]
     show Y'.inj H b l
  ·rw[mQ e,aj,aj];show fH Y'.len 1
theorem abg:∀{f:List cJ}{a:Nat},∀x∈D6 a f,a<=x.1:=by
 intro f;induction f with
 |nil=>show λx h=>cO h
 |cons e r g=>
  intro a x h;rcases aC.mp h with rfl|h
  ·show aE _
  ·show av (bg _ _)<|g x h
theorem Jc{f:List cJ}:(cf f).Nodup:=by
 rw[uM];have g:∀{f:List cJ}{a:Nat},((D6 a f).map (·.1)).Nodup:=by
  intro f;induction f with
  |nil=>show bV
  |cons e r o=>intro a;show bX.mpr #[λm=>?_,o];obtain⟨x,t,z⟩:=dD.mp m;have z:=z;have:=abg x t;have:=oR (e:=e);lia
 show g
theorem SK.agl{f:List O}{o:List Nat}(D:SK cu f W D9 p o)(K:Keeps [W.s+10] f Y)(e:Y[W.s+10]?=I (.dict au<|nd (λa=>.p<|qE W.Z a) p')):SK cu Y W D9 p p':=
 #[D.K.step K λi m Z=>.tail _ m,K.get D.obj<|cX<|aS<|jd<|by decide,K.get D.e9<|cX λz=>absurd (fS z)<|by decide,e,λq=>(D.kd q).imp (λt=>by obtain⟨l,w,g,M⟩:=t;show#[l,w,g,K.get M<|cX<|bT<|Nat.lt_of_succ_le g]) id,D.inj,D.len]
theorem Wv{k:Nat}{W:Wd}{f:List O}{Q:gT->List O->Prop}(G:Good W.Z)(obj:f[W.s]?=I W.so)(U:f[W.s+8]?=I (.dict au []))(K:f[W.s+10]?=I (.dict au []))(D:f.length=W.s+11)
  (Z:∀Y D9,SK f Y W D9 (cf W.Z) (cf W.Z)->Q (.ok<|.p .none) Y):LV (k+1) 548 [.ref W.s] f Q:=by
 show enter af af af ?_;have F:(cf W.Z).length<=7:=by rw[iI];show G.few
 show bL obj af ?_;show lG (τ:=Option V×List (Ky×V)) (qE W.Z) (λt=>[I<|.ref W.s,t.1]) (λp t g=>SK f g W t.2 p p/\W.s+11<=g.length) (λp a r e t g v H L=>?_) (_,[]) #[#[.refl,obj,U,K,λq=>.inr #[rfl,rfl],λC C C e=>(bh e),aE _],ak D.symm] λt g H=>Z g t.2 H.1;have b:=λm=>by have:=@Jc W.Z;rw[e]at this;show(bA.mp this).2.2 a m a (.head _) af
 have M:p.length<=7:=by rw[e,aj]at F;show fN F
 show aN (bz af)<|AF (i:=W.s+10) (z:=.p<|.int (a:Nat)) (λC h=>?_) ?_
 ·show bL H.1.obj af h
 show ss H.1.NY af (by rw[sC];show aI M<|bz af) λx c w j=>?_;have R:=H.1.agl c (p':=p++[a])<|j.trans<|congrArg (λd=>I<|O.dict au d)<|rY b;have w:=w;induction o:nt W.Z a with
 |none=>show fy aB (show Eu (.p (match nt W.Z a with|some q=>.int q|none=>.none)) _=_ by rw[o];rfl)<|fy aB af<|(L (I<|.p<|qE W.Z a,t.2) _ #[R.none o,by rw[w];show H.2]).1
 |some q=>
  show fy au (show Eu (.p (match nt W.Z a with|some q=>.int q|none=>.none)) _=_ by rw[o];rfl) ?_;have l:qE W.Z a=scan a (eu W.Z a).kn (eu W.Z a).raw.length (.int q) (eu W.Z a).raw (a+(eu W.Z a).size):=by unfold qE;rw[o]
  change ex _ _ _ #[[I<|.ref W.s,I<|.p<|qE W.Z a],_] _;rw[l];show PV R o (ak D) (by rw[w];show H.2) (aI M<|by decide) λy T n B=>(fy aB af<|(L (I<|.p<|scan a (eu W.Z a).kn (eu W.Z a).raw.length (.int q) (eu W.Z a).raw<|a+(eu W.Z a).size,T) _ #[n,by lia]).1)
theorem zM{f:List cJ}(G:Good f)(h:a∈cf f):nt f a=A ↔ (eu f a).base=A:=by
 have:=QN G<|nT.of h;induction g:(eu f a).base with
 |none=>rw[g]at this;show#[λw=>rfl,λw=>this]
 |some b=>rw[g]at this;obtain⟨q,e,_⟩:=this;show bS (e)<|#[λz=>(pO z),λz=>(pO z)]
theorem zI{f:List cJ}(G:Good f)(h:a∈cf f)(e:nt f a=A):qE f a=scan a 3 (eu f a).c.length .none (eu f a).c (a+(eu f a).size):=by unfold qE;rw[e,show(eu f a).kn=3 by unfold cJ.kn;rw[((zM G h).mp e)],show(eu f a).raw=(eu f a).c by unfold cJ.raw;rw[((zM G h).mp e)]]
theorem vE{f:List cJ}(G:Good f)(h:a∈cf f)(e:nt f a=I q):qE f a=scan a 6 (eu f a).raw.length (.int q) (eu f a).raw (a+(eu f a).size):=by
 unfold qE;show(e)▸?_;induction b:(eu f a).base with
 |none=>replace e:=((zM G h).mpr b)▸e;show bh e
 |some _=>rw[show(eu f a).kn=6 by unfold cJ.kn;show bS (b) af]
theorem Ri{g o t w A D:P}{f:List O}(F:Q (.ok<|.p<|.bool au) f):LV (k+1) 457 [.p<|.inst 460 [g,.int 3,o,t,w,A,D]] f Q:=by show enter af af af ?_;show kT au af<|fj ?_;show kT au af F
theorem Ry{g o t w A D:P}{f:List O}(F:Q (.ok<|.p<|.bool aB) f):LV (k+1) 457 [.p<|.inst 460 [g,.int 6,o,t,w,A,D]] f Q:=by show enter af af af<|kT aB af<|fj F
theorem aaA{f:List cJ}{S:List Nat}(G:Good f)(g:∀a∈cf f,nt f a=A->a∈S)(o:∀x∈S,∀q∈s7 f x,q∈S):∀n a,a<n->a∈cf f->a∈S:=by
 intro n;induction n with
 |zero=>show λa h=>absurd h<|fc _
 |succ n t=>
  intro a w m;induction e:nt f a with
  |none=>show g a m e
  |some b=>have:=sQ G m e;show o b (t b (aH this.1<|gn w) this.2) a<|pK.mpr #[m,e]
theorem UB{k:Nat}{W:Wd}{g:List O}{Q:gT->List O->Prop}(F:oE W.H W.Z)(Z:ST g g W [] [])(l:W.B<=g.length)(n:W.s+11<=g.length)(v:W.h<W.s)(hd:W.d<W.s)
  (y:∀Y S,ST g Y W [] S->(∀a∈cf W.Z,a∈S)->Q (.ok<|.p .none) Y):LV (k+8) 555 [.ref W.s] g Q:=by
 show enter af af af<|bL Z.Y.obj af ?_;show lG (qE W.Z) (λt=>[ae<|.ref W.s,t.1,az]) (λp t o=>ST g o W [] t.2/\∀a∈p,nt W.Z a=az->a∈t.2) (λp a r e t o C I A=>?_) (_,[]) #[Z,λ_ h=>(cO h)] λt o I=>?_
 ·have D:=e▸aG _ (.head _);show ls af ?_;have f:=I.1;cases L':nt W.Z a with
  |some q=>
   rw[vE F.toGood D L'];show aN af<|Ry<|fj ?_;show(A (ae<|.p _,t.2) _ #[f,λb w z=>?_]).1;rcases aM.mp w with m|m
   ·show I.2 b m z
   ·replace z:=(L')▸(ah.mp m)▸z;show pO z
  |none=>
   rw[zI F.toGood D L'];show aN af<|Ri<|fj<|aN (bF f.Y.obj) ?_;have i:=Rh F.toGood D;rw[L']at i;change LV (k+7) 569 [.ref W.s,nV a,.p blob,.p<|.bytes (eu W.Z a).c,nV<|0] _ _;show sB (show lS W.Z a=0 from i)<|NC F f D (av l f.K.len) (av n f.K.len) v hd λM J T X R=>?_;show(A (ae<|.p _,J) _ #[T,λb w z=>?_]).1;rcases aM.mp w with m|m
   ·show X b<|I.2 b m z
   ·show bS (ah.mp m) R
 ·have f:=I.1;have j:=λa=>aaA F.toGood I.2 (λx hx q hq=>(f.cl x hx q hq).resolve_right ai) _ a<|bE a;show bL f.Y.obj af<|bq (a:=[]) (show(match g9 o (.ref<|W.s+9)with|some L=>_|none=>_)=_ by rw[RH f.Y.Uo];change(o[W.s+9]?.bind _)=_;show bS (f.Y.Uo) ?_;rfl)<|ls af<|bL f.Y.obj af ?_;show lG (qE W.Z) (λt=>[ae<|.ref W.s,t,az]) (λp _ M=>M=o) (λp a r e t' M C U A=>?_) t.1 af λ_ M U=>(U)▸y o t.2 f j;cases U
  show ls af<|bL f.Y.obj af<|ur f.Y.e3 af ?_;rw[ki,if_pos<|j a<|e▸aG _ (.head _)];show(A _ _ af).1
noncomputable def mkD(r:S)(l:List<|Nat×Bool):S:=l.foldr (λx k=>.cons (.asg (.attr (.loc 0) 586 x.1)<|.dict x.2) k) r
noncomputable def fsD(a:Nat)(fs:List<|Option V)(l:List<|Nat×Bool):List<|Option V:=l.foldr (λx k a fs=>k (a+1)<|fs.set x.1<|I<|.ref a) (λw fs=>fs) a fs
theorem exD{Γ:gI}{X:XX}{r:S}{o:List<|Option V}{K:Fl->St->Prop}(L:(o[0]?).join=I (.ref s)):∀{l:List<|Nat×Bool}{a:Nat}{f:List O}{fs:List<|Option V},f[s]?=I (.inst 586 fs)->fs.length=n->(∀x∈l,x.1<n)->f.length=a->
  (∀Y,Keeps [s] f Y->Y.length=a+l.length->Y[s]?=I (.inst 586<|fsD a fs l)->(∀i x,l[i]?=I x->Y[a+i]?=I (.dict x.2 []))->ex Γ X r #[o,Y] K)->ex Γ X (mkD r l) #[o,f] K:=by
 intro l;induction l with
 |nil=>show λe p p t h=>h _ .refl t e λp p z=>(bh z)
 |cons x l M=>
  intro a f fs e w C t h;subst t;show Dr λd D R U=>(pM (λk z=>bq L z)<|sa (D.get e ai) ((w)▸C x (.head _)) λj F v Z=>?_);have ns:=bT<|iC e;show M Z (by rw[cD];show w) (λy m=>C y<|.tail _ m) (v.trans R) λY q b c g=>(h Y ((D.none.step F λp m p=>m).step q λp m p=>m) (by rw[b,aX];change _=f.length+(l.length+1);show di (Fo [_,_] (V0+1+V1) (V0+(V1+1)) af)<|Fo [_,_] (V0+(V1+1)) (V0+1+V1) af) c λi y z=>?_);induction i with
  |zero=>obtain rfl:=aV z;show q.get (F.get U<|cX ns)<|cX ns
  |succ i=>show bS (show f.length+(i+1)=f.length+1+i by show di (Fo [_,_] (V0+(V1+1)) (V0+1+V1) af)<|Fo [_,_] (V0+1+V1) (V0+(V1+1)) af)<|g i y z
noncomputable abbrev Wd.on(W:Wd)(s B:Nat)(D9:List<|Ky×V)(S:List Nat):Wd:={ W with s:=s,B:=B,D9:=D9,S:=S }
theorem Jg{b:Nat}(h:i≠a)(k:i≠b):i∉[a,b]:=λm=>(aC.mp m).elim h λm=>k<|ah.mp m
theorem aba{k:Nat}{t:List O}{Q:gT->List O->Prop}(F:oE W.H W.Z)(X:bP t W.h W.d W.H)
  (s:∀Y B D9 S,ST t Y (W.on t.length B D9 S) [] S->(∀a∈cf W.Z,a∈S)->t.length+11<=B->B<=Y.length->Q (.ok<|.ref t.length) Y):LV (k+9) 586 [.p<|.lst<|(cf W.Z).map<|qE W.Z,.ref W.h,.p .none] t Q:=by
 have M:=iC X.obj;have hd:=iC X.mw;show AY (loc:=[ae<|.ref t.length,ae<|.p<|.lst<|(cf W.Z).map<|qE W.Z,ae<|.ref W.h,ae<|.p .none]) (nf:=12) af af af af λcu v y C=>(sa C (bz af) λdH J T e1=>(sa e1 (bz af) λeR K2 l2 e2=>(sa e2 (bz af) λgY K3 l3 e3=>(exD (r:=.cons _<|.cons _ .nil) af e3 af (λx h=>by have:=cQ.mp (show([(3,au),(4,au),(5,au),(6,aB),(7,aB),(8,au),(9,au),(10,aB),(11,au)]:List<|Nat×Bool).all (λx=>iG (x.1+1) 12)=aB from rfl) x h;show bz this) (l3.trans<|l2.trans<|T.trans y) λkQ K4 Z b g=>?_))));have R:=((((v.none.step J λ_ m _=>m).step K2 λ_ m _=>m).step K3 λ_ m _=>m).step K4 λ_ m _=>m);have g:=λi {x} (z:([(3,au),(4,au),(5,au),(6,aB),(7,aB),(8,au),(9,au),(10,aB),(11,au)])[i]?=ae x)=>(eE t.length 2 i)▸g i x z;show aN (bF b)<|Wv (W:=W.on t.length 0 [] []) F.toGood b (g 6 af) (g 8 af) Z λI D9 w=>?_;have D:=λ{i:Nat}{o:O} (e:kQ[t.length+i]?=ae o) (h:gB i 8=au) (U:gB i 10=au)=>w.K.get e λm=>by
  rcases aC.mp m with z|m
  ·replace h:=(fS z)▸h;show vZ h
  ·replace U:=(fS<|ah.mp m)▸U;show vZ U
 have A:=w.K.len;have c:=(fZ [_,_,_] (V0+11) V1 (V0+11) V2 V2 V1 af (ak Z.symm) A);have X4:=X.keeps R (cX<|aS M)<|cX<|aS hd;have Z5:ST I I (W.on t.length I.length D9 []) [] []:=#[.refl,(X4.keeps w.K (Jg (aS<|aH M<|bg _ 8)<|aS<|aH M<|bg _ 10)<|Jg (aS<|aH hd<|bg _ 8)<|aS<|aH hd<|bg _ 10),#[w.obj,D (g 0 af) af af,D (g 1 af) af af,D (g 2 af) af af,D (g 3 af) af af,D (g 4 af) af af,w.e9,D (g 7 af) af af,w.NY,λa=>(w.kd a).imp (λEx=>by obtain⟨l,z1,z2,j⟩:=Ex;show#[l,z1,z2,iC j,j]) id],λ_ h=>(nomatch h),λ_ h=>(nomatch h),by have:=SW (S:=[]) (ps:=cf W.Z);rw[iI]at this;show av (ak<|eY _)<|av this F.few];show aN (bF w.obj)<|UB (W:=W.on t.length I.length D9 []) F Z5 (aE _) c M hd λsL S f N9=>?_;show aN af<|s sL I.length D9 S #[#[?_,?_],f.X,#[f.Y.obj,f.Y.e3,f.Y.e4,f.Y.e5,f.Y.e6,f.Y.e7,f.Y.e9,f.Y.Uo,f.Y.NY,f.Y.kd],f.s1,f.cl,f.cn] N9 c f.K.len
 ·show av R.len<|av A f.K.len
 ·intro i L n;have q:=aH L R.len;show((f.K.at_ i (aH q A) n).trans<|w.K.at_ i q<|Jg (aS<|aH L<|bg _ 8)<|aS<|aH L<|bg _ 10).trans<|R.at_ i L<|cX<|aS L
abbrev Yz(f:List cJ)(a:Nat):P:=.tup [blob,.bytes (eu f a).c]
inductive FL (U:List O) (Z:List cJ) (c d:Nat):Prop
 |mk (C ct:_):pI U c d (λa=>.p<|Yz Z a) C ct->(∀x∈C,x∈cf Z)->FL U Z c d
structure RB(U:List O)(W:Wd)(st:V):Prop where
 obj:U[W.r]?=I (.inst 707 [I<|.p<|.bytes<|cz W.Z++W.sg,I<|.ref W.h,I<|.ref W.ci,I<|.p .none,I<|.p<|.lst<|(cf W.Z).map<|qE W.Z,I<|.ref W.de,I<|.ref W.ca,I st])
 de:U[W.de]?=I (.dict au<|nd (λa=>.p<|qE W.Z a)<|cf W.Z)
 ci:U[W.ci]?=I (.inst 748 [])
 X:bP U W.h W.d W.H
 ca:FL U W.Z W.ca W.dc
 lo:2<=W.h/\2<=W.d/\2<=W.ci
 lt:W.h<W.r/\W.d<W.r/\W.ci<W.r/\W.r<W.de/\W.de<W.ca/\W.ca<W.dc
 F:oE W.H W.Z
structure RS(U:List O)(W:Wd):Prop extends RB U W (.ref W.s) where
 Y:SE U W W.S
 all:∀a∈cf W.Z,a∈W.S
 sub:∀a∈W.S,a∈cf W.Z
 hi:W.dc<W.s/\W.s+11<=W.B
variable{st:V}
theorem YV{f:List O}(Z:RB f W st):W.ci≠W.d:=λe=>by have:=Z.ci;replace this:=(Z.X.mw)▸(e)▸this;cases this
theorem FL.keeps{f:List O}{g:List cJ}{c:Nat}{t:List Nat}(Z:FL f g c d)(K:Keeps t f Y)(n:c∉t)(m:d∉t):FL Y g c d:=by obtain⟨C,ct,z,o⟩:=Z;show#[C,ct,z.keeps K n m,o]
theorem RB.chn{f:List O}(Z:RB f W st):W.d<W.de/\W.d<W.ca/\W.d<W.dc/\W.de<W.dc/\W.r<W.ca/\W.r<W.dc:=have t:=Z.lt;#[aW t.2.1 t.2.2.2.1,aW t.2.1<|aW t.2.2.2.1 t.2.2.2.2.1,aW t.2.1<|aW t.2.2.2.1<|aW t.2.2.2.2.1 t.2.2.2.2.2,aW t.2.2.2.2.1 t.2.2.2.2.2,aW t.2.2.2.1 t.2.2.2.2.1,aW t.2.2.2.1<|aW t.2.2.2.2.1 t.2.2.2.2.2]
theorem RB.keeps{f:List O}{g:V}{o:List Nat}(Z:RB f W st)(K:Keeps o f Y)(h:∀i∈o,i<2∨W.dc<i∨i=W.d∨i=W.r)(X:bP Y W.h W.d W.H)(obj:Y[W.r]?=I (.inst 707 [I<|.p<|.bytes<|cz W.Z++W.sg,I<|.ref W.h,I<|.ref W.ci,I<|.p .none,I<|.p<|.lst<|(cf W.Z).map<|qE W.Z,I<|.ref W.de,I<|.ref W.ca,I g])):RB Y W g:=by have t:=Z.lt;have u:=Z.chn;have n:∀{j},2<=j->j<=W.dc->j≠W.d->j≠W.r->j∉o:=λa b c d m=>(h _ m).elim (cH.mpr a) λz=>z.elim (cH.mpr b) λz=>z.elim c d;have w:∀{j},W.d<j->j<=W.dc->j≠W.r->j∉o:=λa b=>n (fO<|aI Z.lo.2.1 a) b<|bT a;show#[obj,K.get Z.de<|w u.1 (fO u.2.2.2.1)<|bT t.2.2.2.1,K.get Z.ci<|n Z.lo.2.2 (fO<|aW t.2.2.1 u.2.2.2.2.2) (YV Z)<|aS t.2.2.1,X,Z.ca.keeps K (w u.2.1 (fO t.2.2.2.2.2)<|bT u.2.2.2.2.1)<|w u.2.2.1 (aE _)<|bT u.2.2.2.2.2,Z.lo,t,Z.F]
theorem RS.set{g Y:List O}{W:Wd}{D:List Nat}{f:List<|List UInt8}(Z:RS g W)(K:Keeps D g Y)(h:∀{i},2<=i->i<W.B->i≠W.d->i≠W.ca->i≠W.dc->i∉D)(X:bP Y W.h W.d f)(F:oE f W.Z)(ca:FL Y W.Z W.ca W.dc):RS Y { W with H:=f }:=by
 have t:=Z.lt;have u:=Z.chn;have q:=Z.hi;have b:=aH (aH q.1<|bg _ _) q.2;have w:∀{j},W.d<j->j<W.B->j≠W.ca->j≠W.dc->j∉D:=λa b=>h (fO<|aI Z.lo.2.1 a) b<|bT a;have c:=YV Z.toRB;have v:∀{j},W.s<=j->j<W.B->j∉D:=λa b=>
  have a:=aH q.1 a
  w (aW u.2.2.1 a) b (bT<|aW t.2.2.2.2.2 a) (bT a)
 have o:=Z.Y.keeps K (λi a c=>v a<|aH c q.2) λi a=>v<|av (bg _ _) a;show#[#[K.get Z.obj<|w t.2.1 (aW u.2.2.2.2.2 b) (aS u.2.2.2.2.1)<|aS u.2.2.2.2.2,K.get Z.de<|w u.1 (aW u.2.2.2.1 b) (aS t.2.2.2.2.1)<|aS u.2.2.2.1,K.get Z.ci<|h Z.lo.2.2 (aW t.2.2.1<|aW u.2.2.2.2.2 b) c (aS<|aW t.2.2.1 u.2.2.2.2.1)<|aS<|aW t.2.2.1 u.2.2.2.2.2,X,ca,Z.lo,t,F],#[o.obj,o.e3,o.e4,o.e5,o.e6,o.e7,o.e9,o.Uo,o.NY,o.kd],Z.all,Z.sub,q]
theorem RS.upd{f:List O}{g:List Nat}(Z:RS f W)(K:Keeps g f Y)(h:∀i∈g,i<2∨W.B<=i∨i=W.d∨i=W.ca∨i=W.dc)(X:bP Y W.h W.d W.H)(ca:FL Y W.Z W.ca W.dc):RS Y W:=
 Z.set K (λa b c d e m=>(h _ m).elim (cH.mpr a) λz=>z.elim (wq.mpr b) λz=>z.elim c λz=>z.elim d e) X Z.F ca
theorem RS.old{f:List O}{g:List Nat}(Z:RS f W)(K:Keeps g f Y)(h:∀{i},W.d<i->i<W.B->i∉g):FL Y W.Z W.ca W.dc:=by have b:=aH (aH Z.hi.1<|bg _ _) Z.hi.2;show Z.ca.keeps K (h Z.chn.2.1<|aW Z.lt.2.2.2.2.2 b)<|h Z.chn.2.2.1 b
theorem RS.keeps{f:List O}{g:List Nat}(Z:RS f W)(K:Keeps g f Y)(h:∀i∈g,i<2∨W.B<=i):RS Y W:=by have n:∀{j},2<=j->j<W.B->j∉g:=λa b m=>(h _ m).elim (cH.mpr a)<|wq.mpr b;have b:=aW Z.chn.2.2.2.2.2<|aH (aH Z.hi.1<|bg _ _) Z.hi.2;show Z.set K (λa b w w w=>n a b) (Z.X.keeps K (n Z.lo.1<|aW Z.lt.1 b)<|n Z.lo.2.1<|aW Z.lt.2.1 b) Z.F<|Z.old K λa=>n<|fO<|aI Z.lo.2.1 a
section
variable {U:List O}
theorem sH(Z:RS U W)(f:Q (.ok<|.ref W.s) U):LV (k+1) 617 [.ref W.r] U Q:=by show enter af af af<|bL Z.obj af<|nE au af<|bL Z.obj af f
theorem Bl(Z:RB U W<|.p .none)(D:W.dc<U.length)(L:∀Y s B D9 S,Keeps [W.d,W.r] U Y->RS Y (W.on s B D9 S)->B<=Y.length->Q (.ok<|.ref s) Y):LV (k+10) 617 [.ref W.r] U Q:=by
 have l:=Z.lo;have t:=Z.lt;show enter af af af<|bL Z.obj af<|nE aB af<|bL Z.obj af<|bL Z.obj af<|bL Z.obj af<|aba Z.F Z.X λM B D9 S f R x a=>?_;have o:Keeps [W.d] U M:=f.K.mono λi m b=>(aC.mp m).elim (λz=>(z)▸.head _) λm=>by have m:i∈[2,3,4,5].map (U.length+·):=m;show gO m λj v c=>?_;subst c;show absurd b<|cH.mpr<|bg _ _
 have o1:=o.get Z.obj<|cX<|bT t.2.1;show pM (λv h=>h)<|sa o1 (bz af) λe g q w=>(bL w af ?_);have n:∀{i},U.length<=i->i∉[W.r]:=λh=>cX<|bT<|aH (aW Z.chn.2.2.2.2.2 D) h;have C:=f.X.keeps g (cX<|aS t.1)<|cX<|aS t.2.1;have y:=(Z.keeps o (λi m=>.inr<|.inr<|.inl<|ah.mp m) f.X o1).keeps g (λi m=>.inr<|.inr<|.inr<|ah.mp m) C w;show L e U.length B D9 S (o.trans g) #[#[w,y.de,y.ci,C,y.ca,l,t,Z.F],f.Y.keeps g (λi h v=>n h) λi h v=>n<|av (bg _ _) h,R,f.s1,D,x]<|av a g.len
theorem kH(Z:RB U W st)(f:a∈cf W.Z)(g:Q (.ok<|.p<|qE W.Z a) U):LV (k+1) 624 [.ref W.r,nV a] U Q:=by show enter af af af ?_;show bL Z.obj af<|aN (AR Z.de) ?_;show Be Z.de<|ls af ?_;rw[ki,if_pos f];show nE au af g
theorem Mb(Z:RS U W)(f:a∈cf W.Z)(g:Q (.ok<|nV a) U):LV (k+2) 631 [.ref W.r,nV a] U Q:=by show enter af af af<|aN (bF Z.obj)<|kH Z.toRB f<|aN (bF Z.obj)<|sH Z<|ls af<|bL Z.Y.obj af<|ur (q:=.i a) Z.Y.e3 af ?_;rw[ki,if_pos<|Z.all a f];show g
theorem Ed{Z:XX}{l:Nat}{g:E}{f:Nat->V}{loc:List<|Option V}{K:V->St->Prop}(R:RS U W)(o:a∈cf W.Z)(t:loc[0]?.join=I (.ref W.r))(w:∀K:V->St->Prop,K (nV a) #[loc,U]->ev (LV<|k+2) Z g #[loc,U] K)(A:∀K:V->Prop,K (.ref l)->bO (u5 U 586 j<|.ref W.s) K)(e:U[l]?=I (.dict au<|nd f W.S))(h:K (f a) #[loc,U]) :
  ev (LV<|k+2) Z (.sub (.attr (.eN (.loc 0) 707 617 .nil) 586 j)<|.eN (.loc 0) 707 631<|.cons g .nil) #[loc,U] K:=by show bq t<|aN (bF R.obj)<|sH R<|A _<|bq t<|aN (bF R.obj)<|w _<|Mb R o<|lD e af (ki.trans<|if_pos<|R.all a o) h
theorem Tr(Z:RS U W)(f:a∈cf W.Z)(g:Q (.ok<|.p<|.bytes (eu W.Z a).o) U):LV (k+3) 657 [.ref W.r,nV a] U Q:=by show enter af af af<|Ed Z f af (λw h=>h) (λw h=>bL Z.Y.obj af h) Z.Y.e3 g
theorem uF(Z:RS U W)(f:a∈cf W.Z)(g:Q (.ok<|.p blob) U):LV (k+3) 671 [.ref W.r,nV a] U Q:=by show enter af af af<|Ed Z f af (λw h=>h) (λw h=>bL Z.Y.obj af h) Z.Y.e4 g
theorem yk(Z:RS U W)(f:a∈cf W.Z)(g:Q (.ok<|nV<|lS W.Z a) U):LV (k+3) 678 [.ref W.r,nV a] U Q:=by show enter af af af<|Ed Z f af (λw h=>h) (λw h=>bL Z.Y.obj af h) Z.Y.e5 g
noncomputable def Ow(f:List cJ)(a:Nat):P:=match nt f a with
 |some q=>.bytes (eu f q).o
 |none=>.none
theorem uO(Z:RS U W)(o:a∈cf W.Z)(f:Q (.ok<|.p<|Ow W.Z a) U):LV (k+4) 685 [.ref W.r,nV a] U Q:=by
 show enter af af af ?_;show aN (bF Z.obj)<|kH Z.toRB o ?_;unfold Ow at f;induction g:nt W.Z a with
 |none=>replace f:=(g)▸f;rw[zI Z.F.toGood o g];show ls af<|fy aB af<|fy aB af f
 |some q=>rw[g]at f;rw[vE Z.F.toGood o g];show ls af<|fy aB af<|fy au af<|aN (bF Z.obj)<|Tr Z (sQ Z.F.toGood o g).2 f
theorem ahu{f:List cJ}{S:List Nat}{o:List UInt8}(G:Good f)(h:∀a∈cf f,a∈S)(t:∀a∈S,a∈cf f):lk (S.map λa=>((eu f a).o,a)) o=zZ f o:=by
 cases e:lk (S.map λa=>((eu f a).o,a)) o with
 |some v=>
  show gO (PA e) λa m z=>?_;cases z
  show(nW G<|nT.of<|t v m).symm
 |none=>
  induction w:zZ f o with
  |none=>rfl
  |some v=>obtain⟨x,g,z⟩:=uH w;show absurd ?_<|tK.mp e;rw[bw];show dD.mpr #[v,h v g.pos,by show sB (z)<|sB (g.en) ?_;rfl]
abbrev oV(o:Option Nat):V:=(o.map nV).getD<|.p .none
theorem uZ{o:List UInt8}(Z:RS U W)(f:Q (.ok<|oV<|zZ W.Z o) U):LV (k+2) 664 [.ref W.r,.p<|.bytes o] U Q:=by show enter af af af ?_;show aN (bF Z.obj)<|sH Z ?_;show bL Z.Y.obj af<|aN (AR Z.Y.e6)<|Be Z.Y.e6 ?_;change Q (.ok<|(fR (dm nV<|W.S.map λa=>((eu W.Z a).o,a))<|.b o).getD<|.p .none) U;show bS (se)<|bS (ahu Z.F.toGood Z.all Z.sub) f
end
theorem Xe{f p q:List cJ}(e:f=p++x::q):∃pre post,cz f=pre++x.piece (x.back (iE 12 p)<|12+gz p)++post/\pre.length=12+gz p:=by
 show#[[80,65,67,75]++BF 2++BF (pq [] 12 f).length++(pq [] 12 p).flatten,(pq (iE 12 p++[(x.o,12+gz p)]) (12+gz p+x.size) q).flatten,?_,?_]
 ·unfold cz fq;conv=>lhs;rw[show(pq [] 12 f).flatten=(pq [] 12 p++(x.piece (x.back (iE 12 p)<|12+gz p)::pq (iE 12 p++[(x.o,12+gz p)]) (12+gz p+x.size) q)).flatten by rw[e,zu];rfl]
  rw[eG,fT];simp only[aJ]
 ·rw[aj,jM.2];rfl
def vq(W:Wd)(a:Nat):List UInt8:=cut (cz W.Z++W.sg) (I a)<|I<|a+(eu W.Z a).size
theorem LX(h:a∈cf W.Z):(∃bk,vq W a=(eu W.Z a).piece bk)/\a+(eu W.Z a).size<=(cz W.Z).length:=by
 show hd λo g=>?_;obtain⟨p,q,e,z⟩:=nT.of h;obtain⟨pre,post,f,l⟩:=Xe e;show g ?_;constructor
 ·show#[_,Ej (by rw[f,aJ<|pre++_]) (z.trans l.symm) ?_];rw[cJ.mE,z,l]
 ·rw[f,aj,aj,cJ.mE,l,<- z];show bg _ _
def aeA(Γ:gI)(X:XX):P->List P->St->(List P->St->Prop)->Prop:=λx f σ g=>asg Γ X (.loc 1) (.p x) σ λσ=>Br Γ X .nil σ λb σ=>B7 b (ev Γ X (.tup<|.cons (.sub (.attr (.eN (.loc 0) 707 617 .nil) 586 3)<|.eN (.loc 0) 707 631<|.cons (.attr (.loc 1) 460 0) .nil)<|.cons (.attr (.loc 1) 460 0) .nil) σ λw σ=>bO w.p? λy=>f.length<gr/\g (f++[y]) σ)<|g f σ
abbrev C5(f:List cJ)(a:Nat):P:=.tup [.bytes (eu f a).o,.int a]
section
variable {U:List O}
theorem Nx(Z:RS U W)(g:a∈cf W.Z)(t:Q (.ok<|.p<|.bytes<|vq W a) U):LV (k+2) 692 [.ref W.r,nV a] U Q:=by have o:=Z.F.toGood.gz;have f:=(LX g).2;rw[kG]at f;show enter af af af<|bL Z.obj af<|wg (n:=a) af (fZ [_,_,_] (V0+1) 1000000 V1 112 (V0+V2) (12+V1) af o f)<|aN (bF Z.obj)<|kH Z.toRB g<|wg (n:=a+(eu W.Z a).size) af (fZ [_,_,_] (V0+V1+1) 1000000 V2 112 (V0+V1) (12+V2) af o f)<|u9 af t
theorem Qd{X:XX}{f:List P}{v:Option V}{g:List P->St->Prop}(Z:RS U W)(o:a∈cf W.Z)(t:f.length<gr)(h:g (f++[C5 W.Z a]) #[[I<|.ref W.r,I<|.p<|qE W.Z a],U]) :
  aeA (LV<|k+2) X (qE W.Z a) f #[[I<|.ref W.r,v],U] g:=by show ls af<|Ed (loc:=[I<|.ref W.r,I<|.p<|qE W.Z a]) Z o af (λw h=>h) (λw h=>bL Z.Y.obj af h) Z.Y.e3<|lz af<|aN t h
theorem oO{step:P->List P->St->(List P->St->Prop)->Prop}{x:P}{r f:List P}{k:List P->St->Prop}(h:step x f σ λf g=>j0 step r f g k):j0 step (x::r) f σ k:=h
theorem FN{r p:List Nat}{X:XX}{v:Option V}{f:List P->St->Prop}(Z:RS U W)(e:cf W.Z=p++r)(h:∀v,f ((cf W.Z).map<|C5 W.Z) #[[I<|.ref W.r,v],U]) :
  j0 (aeA (LV<|k+2) X) (r.map<|qE W.Z) (p.map<|C5 W.Z) #[[I<|.ref W.r,v],U] f:=by
 induction r generalizing p v with
 |nil=>rw[e,aY]at h;show h v
 |cons a r o=>have g:(cf W.Z).length<=7:=bS (iI) Z.F.few;show bS (bK)<|oO<|Qd Z (e▸aG _ (.head _)) (by rw[e,aj]at g;rw[ay];show aI (av (bg _ _) g)<|bz af) ?_;have:=o (p:=p++[a]) (v:=I<|.p<|qE W.Z a) (by show(e)▸?_;rw[aJ];rfl);rwa [aO]at this
theorem IK(Z:RS U W)(f:∀Y,Keeps [] U Y->Q (.ok<|.p<|.lst<|(cf W.Z).map<|C5 W.Z) Y):LV (k+3) 650 [.ref W.r] U Q:=by show enter af af af<|bL Z.obj af<|FN (p:=[]) Z af λv=>(ua (U:=U++[.list _]) (i:=U.length) bJ<|f _<|Keeps.bG .app<|aE _)
theorem CX(Z:RB U W<|.p .none)(t:W.dc<U.length)(w:W.Z≠[])(A:∀Y s B D9 S,Keeps [W.d,W.r] U Y->RS Y (W.on s B D9 S)->B<=Y.length->Q (.ok<|.p<|.lst<|(cf W.Z).map<|C5 W.Z) Y):LV (k+11) 650 [.ref W.r] U Q:=by
 show enter af af af<|bL Z.obj af ?_;induction e:cf W.Z with
 |nil=>show absurd (gX.mp<|by show sB (iI)<|bS (e) ?_;rfl) w
 |cons a r=>show ls af<|aN (bF Z.obj)<|Bl Z t λD s B D9 S F f R=>(bL f.Y.obj af<|aN (bF f.obj)<|Mb (W:=W.on s B D9 S) f (e▸.head _)<|lD (q:=.i a) f.Y.e3 af (ki.trans<|if_pos<|f.all a<|e▸.head _) ?_);show lz af<|ls af ?_;show FN (W:=W.on s B D9 S) (p:=[a]) f e λv=>?_;show ua bJ ?_;have g:Keeps [] D _:=Keeps.bG (o:=.gone) (Keeps.app (j:=[.list<|(cf W.Z).map<|C5 W.Z]))<|aE _;show A _ s B D9 S (F.and g) (f.keeps g λM m=>(cO m))<|av R g.len
theorem Rl(Z:RB U W<|.p .none)(f:W.Z=[])(g:∀Y,Keeps [] U Y->Q (.ok<|.p<|.lst []) Y):LV (k+1) 650 [.ref W.r] U Q:=by show enter af af af<|bL Z.obj af ?_;change j0 _ ((cf W.Z).map<|qE W.Z) [] #[[I<|.ref W.r,A],U] _;rw[show cf W.Z=[]by rw[f];rfl];show C0<|ua (i:=U.length) bJ<|g _<|Keeps.bG .app<|aE _
end
theorem Ai{f:List O}(g:b.length<128)(o:c.length<128)(cu:0<c.length)(t:∀Y,Keeps [] f Y->Q (.ok<|.p<|.bytes c) Y):LV (k+6) 436 [.p<|.bytes b,.p<|.bytes<|dl b.length c] f Q:=by show enter (loc:=lq5 (I<|.p<|.bytes b) (I<|.p<|.bytes<|dl b.length c) A A A) af af af ?_;show ls af<|ls af ?_;show Hh g o cu λw D=>(ls af<|nE au af<|t w D)
noncomputable abbrev Wd.U(W:Wd):List Nat:=[W.d,W.ca,W.dc]
theorem qm:∀{C L:List Nat},C.Nodup->(∀x∈C,x∈L)->C.length<=L.length:=by
 intro C;induction C with
 |nil=>intro _ _ _;show dU _
 |cons x C g=>intro L o h;have n:=bX.mp o;have:=g n.2 λy f=>(List.mem_erase_of_ne λ(e:y=x)=>n.1<|e▸f).mpr<|h y<|.tail _ f;rw[qd<|h x<|.head _]at this;have:=Fy<|h x<|.head _;rw[aX];show fZ [_,_,_] (.a (.v 0)<|.n 1) (.v 1) (.v 0) (.v 2) (.a (.v 2)<|.n 1) (.v 1) af ‹_› (k8<|dO [_] (.n 1) (.v 0) (.a (.n 0)<|.n 1) (.v 0) af this)
section
variable {U:List O}
theorem nH(F:Good W.Z):(cf W.Z).length<=7:=bS (iI) F.few
theorem VV(Z:RS U W)(w:∀Y b,Keeps [W.dc] U Y->RS Y W->Q (.ok<|.p<|ite (b=aB) (Yz W.Z a) .none) Y):LV (k+1) 513 [.ref W.ca,nV a] U Q:=by
 show hd λR c=>?_;obtain⟨C,ct,X,D⟩:=Z.ca;show c ?_;have t:=Z.lt;show VY X af λF d f L g=>?_;have:=w F (decide (a∈C)) f<|Z.upd f (λi m=>.inr<|.inr<|.inr<|.inr<|ah.mp m) (Z.X.keeps f (cX λo=>jX<|M8 [_,_,_,_,_] 1 0 V1 V0 (V0+1) V2 (V2+1) V3 (V3+1) V4 (V4+1) V1 af (ak o.symm) t.1 t.2.2.2.1 t.2.2.2.2.1 t.2.2.2.2.2)<|cX λo=>jX<|M8 [_,_,_,_,_] 1 0 V1 V0 (V0+1) V2 (V2+1) V3 (V3+1) V4 (V4+1) V1 af (ak o.symm) t.2.1 t.2.2.2.1 t.2.2.2.2.1 t.2.2.2.2.2) #[d,ct,L,λx M=>D x<|(g x).mp M];by_cases m:a∈C
 ·rw[if_pos m];rw[decide_eq_true m]at this;show this
 ·rw[if_neg m];rw[decide_eq_false m]at this;show this
theorem VT(Z:RS U W)(w:a∈cf W.Z)(M:∀Y,Keeps W.U U Y->RS Y W->Q (.ok<|.p .none) Y):LV (k+1) 520 [.ref W.ca,nV a,.p blob,.p<|.bytes (eu W.Z a).c] U Q:=by show hd λh R=>?_;obtain⟨C,ct,X,n⟩:=Z.ca;show R ?_;have t:=Z.lt;show WX X af (Z.F.ok _ (nT.of w).mem).c9 (aI (av (qm X.nodup n)<|nH Z.F.toGood)<|bz af) λD l g q b o j=>?_;have L:Keeps W.U U D:=q.mono λi m j=>.tail _ m;show M D L<|Z.upd L (λi m=>.inr<|.inr<|by simpa only[aC,ai,or_false]using m) (Z.X.keeps q (Jg (λf=>jX<|Um [_,_,_,_] 1 0 V1 V0 (V0+1) V2 (V2+1) V3 (V3+1) V1 af (ak f.symm) t.1 t.2.2.2.1 t.2.2.2.2.1) λf=>jX<|M8 [_,_,_,_,_] 1 0 V1 V0 (V0+1) V2 (V2+1) V3 (V3+1) V4 (V4+1) V1 af (ak f.symm) t.1 t.2.2.2.1 t.2.2.2.2.1 t.2.2.2.2.2)<|Jg (λf=>jX<|Um [_,_,_,_] 1 0 V1 V0 (V0+1) V2 (V2+1) V3 (V3+1) V1 af (ak f.symm) t.2.1 t.2.2.2.1 t.2.2.2.2.1) λf=>jX<|M8 [_,_,_,_,_] 1 0 V1 V0 (V0+1) V2 (V2+1) V3 (V3+1) V4 (V4+1) V1 af (ak f.symm) t.2.1 t.2.2.2.1 t.2.2.2.2.1 t.2.2.2.2.2) #[l,g,b,λx d=>((o x).mp d).elim (λe=>e▸w)<|n x]
end
def Dn(g:List cJ)(f:Nat)(l:List Nat)(a:Nat):Prop:=l.foldr (λc k f=>f=c/\∃b,nt g c=I b/\k b) (λf=>f=a) f
theorem Lf{o:List cJ}{c:Nat}:∀{f:List Nat}{g:Nat},Dn o g (f++[c]) a ↔ Dn o g f c/\nt o c=I a:=by
 intro f;induction f with
 |nil=>intro g;show#[λt=>by obtain⟨e,b,h,z⟩:=t;show#[e,(h)▸congrArg I z],λw=>by obtain⟨e,h⟩:=w;show#[e,a,h,rfl]]
 |cons x f D=>intro g;show#[λt=>by obtain⟨e,b,h,z⟩:=t;show#[#[e,b,h,(D.mp z).1],(D.mp z).2],λw=>by obtain⟨⟨e,b,h,z⟩,q⟩:=w;show#[e,b,h,D.mpr #[z,q]]]
structure RI(cu U:List O)(W:Wd)(a0 l:Nat)(cs:List Nat)(a:Nat):Prop where
 Z:RS U W
 K:Keeps W.U cu U
 el:U[l]?=I (.list<|cs.map<|qE W.Z)
 dn:Dn W.Z a0 cs a
 ha:a∈cf W.Z
 hc:∀c∈cs,c∈cf W.Z
variable{a0:Nat}{v1 v3 v4 v5:Option V}
section
variable {U:List O}
theorem aaG(Z:RS U W):∀i∈W.U,i<W.B:=by have b:=aH (aH Z.hi.1<|bg _ _) Z.hi.2;show bU.mpr #[aW Z.chn.2.2.1 b,bU.mpr #[aW Z.lt.2.2.2.2.2 b,all1 b]]
theorem RI.step{l:Nat}{g:List Nat}{t:List Nat}(f:RI cu U W a0 l g a)(K:Keeps t U Y)(Z:RS Y W)(h:∀i∈t,i∈W.U)(o:W.B<=l):RI cu Y W a0 l g a:=
 #[Z,f.K.step K λi m w=>h i m,K.get f.el λm=>cH.mpr o<|aaG Z _<|h _ m,f.dn,f.ha,f.hc]
theorem VC{l:Nat}{o:List Nat}{v1 v3 v4 v5:Option V}(L:W.B<=l)(h:cu.length<=l)(g:RI cu U W a0 l o a)(M:∀Y,Keeps W.U cu Y->RS Y W->Q (.ok<|.p<|Yz W.Z a0) Y) :
  ex (LV<|k+6) (λc σ=>Q (.exc c) σ.U) mW.tl.tl.tl.tl.tl #[lq8 (I<|.ref W.r) v1 (I<|.ref l) v3 v4 v5 (I<|.p blob)<|I<|.p<|.bytes (eu W.Z a).c,U] λf σ=>Q (.ok<|kJ f) σ.U:=by
 show nD (λt=>lq8 (I<|.ref W.r) v1 (I<|.ref l) v3 v4 t.1 (I<|.p blob)<|I<|.p<|.bytes (eu W.Z t.2.2).c) (λm t w=>RI cu w W a0 l t.2.1 t.2.2/\m=t.2.1.length) ?_ _ (v5,o,a) #[g,rfl];rintro m ⟨v,o,a⟩ w ⟨g,j⟩ U' n;have g:RI cu w W a0 l o a:=g;rcases snoc o with rfl | ⟨o,c,rfl⟩
 ·show sO au g.el af<|lz af ?_;replace M:=(g.dn)▸M;show M w g.K g.Z
 ·have A:=g.el;show sO aB A (by show bS (aO)<|bS (dR) ?_;induction o.map (qE W.Z)<;>rfl) ?_;replace A:=(aO)▸A;have R:=Lf.mp g.dn;have D:=g.hc c<|aG _<|.head _;have Y':=g.Z.F.ok _ (nT.of D).mem;show Qs af A λq b s=>?_;have d:=g.Z.keeps b λi m=>.inr (by rw[ah.mp m];show L);have y:RI cu q W a0 l o c:=#[d,g.K.step b λi m z=>absurd z<|bS (ah.mp m)<|cH.mpr h,s,R.1,D,λx H=>g.hc x<|aU _ H];show ls af ?_;change LV (k+6) 436 [.p<|.bytes (eu W.Z a).c,.p<|.bytes (eu W.Z c).raw] _ _;rw[(Et g.Z.F<|pK.mpr #[D,R.2]).1];show Ai (aW (g.Z.F.ok _ (nT.of g.ha).mem).c9<|bz af) (aW Y'.c9<|bz af) Y'.c0 λgY e=>?_;have I':=d.keeps e λi m=>(nomatch m);show ls af<|bL I'.obj af<|hd λΩ J=>?_;obtain⟨C,ct,X,_⟩:=I'.ca;show J<|aN (bF X.obj)<|VT I' D λT K4 Z4=>?_;show n o.length (I<|.p<|qE W.Z c,o,c) T (by rw[j];change o.length<(o++[c]).length;rw[aj];show bE _) #[(y.step e I' (λi m=>(nomatch m)) L).step K4 Z4 (λi m=>m) L,rfl]
end
structure RD(cu U:List O)(W:Wd)(a0:Nat)(cs:List Nat)(a:Nat)(fd:Bool):Prop extends RI cu U W a0 cu.length cs a where
 m:cs.length+a<=a0
 sn:fd=au->U[cu.length+1]?=I (.dict au<|nd (λ_=>.p<|.bool aB) cs)/\∀c∈cs,a<c
section
variable {U:List O}
theorem Dz{b z:Nat}(f:Q (.ok<|.p<|.tup [.int b,.none]) U):LV (k+1) 645 [.ref W.r,.p<|scan a 6 s (.int b) c z] U Q:=enter (loc:=[I<|.ref W.r,I<|.p<|scan a 6 s (.int b) c z,A]) af af af<|fy au af<|lz af f
theorem tJ(G:Good W.Z)(h:a∈cf W.Z):a<=124:=by have:=(LX h).2;rw[kG]at this;have:=G.gz;show fZ [_,_,_] V0 124 (V0+V1) (12+V2) V2 112 af ‹_› this
theorem uP(Z:RS U W)(J:a0∈cf W.Z)(R:W.B<=U.length)(hQ:∀Y,Keeps W.U U Y->RS Y W->Q (.ok<|.p<|Yz W.Z a0) Y):LV (k+7) 638 [.ref W.r,nV a0] U Q:=by
 have T:=tJ Z.F.toGood J;show enter af af af<|HQ λY' K1 e e1=>?_;show ls af<|Dr λeR A l2 w=>?_;show ls af<|ls af ?_;have Un:=K1.and A;have e:=e;have w:=w;rw[e]at w;show(e)▸?_;show nD (λt=>lq8 (ae<|.ref W.r) (ae<|nV t.1) (ae<|.ref U.length) (ae<|.ref<|U.length+1) (ae<|.p<|ite (t.2.1=aB) (Yz W.Z t.1) .none) t.2.2.2 az az) (λm t Y'=>RD U Y' W a0 t.2.2.1 t.1 t.2.1/\m=ite (t.2.1=aB) 0 (t.1+1)) ?_ _ (a0,au,[],az) #[#[#[Z.keeps Un λ_ m=>(nomatch m),Un.none,A.get e1 ai,rfl,J,λ_ m=>(nomatch m)],ak<|eY _,λ_=>#[w,λ_ m=>(cO m)]],rfl];rintro m ⟨a,fd,D,v⟩ Y' ⟨f,n⟩ U' s;have f:RD U Y' W a0 D a fd:=f;have o:=f.Z;cases fd with
 |true=>show nE au af ?_;show aN af<|ls af<|ls af<|aN af ?_;show VC R (aE _) f.toRI hQ
 |false=>
  have j:=f.sn af;have g:=f.m;have na:=λz=>cP _<|j.2 a z;show nE aB af<|aN (bF o.obj)<|kH o.toRB f.ha<|ls af<|vL j.1 af ?_;rw[ki,if_neg na];show AF (λ_ h=>h) ?_;show ss (q:=.i a) j.1 af (bS (sC)<|aI (av (fN g) T)<|bz af) λeR A l2 w=>?_;have w:=w.trans<|congrArg (λd=>ae<|O.dict au d)<|rY na;have x:=o.keeps A λi m=>.inr<|bS (ah.mp m)<|dP R;show bL x.obj af ?_;obtain⟨C,ct,X,_⟩:=x.ca;show aN (bF X.obj) ?_;have t:=o.lt;have q:=o.hi;show VV x λl b y Z3=>?_;have I:RI U l W a0 U.length D a:=#[Z3,(f.K.step A λi m hi=>absurd hi<|by rw[ah.mp m];show cH.mpr<|eV _).step y λi m _=>.tail _<|.tail _ m,y.get (A.get f.el<|cX<|aS<|bE _)<|cX λζ=>jX<|Um [_,_,_,_] 1 0 V0 V1 V2 V0 (V1+1) V3 (V3+11) V2 af (ak ζ) R q.1 q.2,f.dn,f.ha,f.hc];show ls af ?_;induction b with
  |true=>show nE au af<|nE au af ?_;show s 0 (a,aB,D,ae<|.p<|qE W.Z a) l (by rw[n];show iT _) #[#[I,g,λz=>(vZ z)],rfl]
  |false=>
   show nE aB af<|aN af ?_;induction M:nt W.Z a with
   |none=>rw[zI o.F.toGood f.ha M];show Ri<|fj ?_;show lz af<|ls af ?_;show nE au af<|s 0 (a,aB,D,_) l (by rw[n];show iT _) #[#[I,g,λz=>(vZ z)],rfl]
   |some q=>have L:=sQ o.F.toGood f.ha M;show(vE o.F.toGood f.ha M)▸(Ry<|fj<|nE aB af<|aN (gf I.el)<|j3 I.el<|aN (by rw[ay];show aI (av (fN g) T)<|bz af) ?_);have S4:=@Keeps.set l U.length<|.list<|D.map (qE W.Z)++[scan a 6 (eu W.Z a).raw.length (.int q) (eu W.Z a).raw<|a+(eu W.Z a).size];have Z4:=Z3.keeps S4 λi m=>.inr<|bS (ah.mp m) R;show aN (bF Z4.obj)<|Dz ?_;show aN af<|ls af<|ls af<|aN af ?_;show s (q+1) (q,au,D++[a],_) _ (bS (n)<|jW L.1) #[#[#[Z4,I.K.bG<|aE _,(cM I.el).trans<|by rw[aO,dR,vE o.F.toGood f.ha M],Lf.mpr #[f.dn,M],L.2,λc H=>(aM.mp H).elim (f.hc c) λz=>ah.mp z▸f.ha],?_,λ_=>#[S4.get (y.get w<|cX<|by lia)<|cX<|bT<|bE _,λc H=>(aM.mp H).elim (λz=>aW L.1<|j.2 c z) λz=>ah.mp z▸L.1]],rfl];show bS (aj) ?_;have:=L.1;show fZ [_,_,_,_] (V0+1+V1) V2 (V0+V3) V2 (V1+1) V3 af g L.1
end
section
variable {U:List O}
theorem Wr(Z:RS U W)(D:a∈cf W.Z)(j:∀Y,Keeps [W.d] U Y->RS Y W->Q (.ok<|.p<|.bytes (eu W.Z a).o) Y):LV (k+3) 306 [.ref W.h,.p blob,.p<|.bytes (eu W.Z a).c] U Q:=by have m:=(nT.of D).mem;have g:=Z.F.dg _ m;have t:=Z.lt;show vm Z.X Z.F.hl (Z.F.ok _ m).c9 λL f e=>(bS (g.1) ?_);rw[Ad g.2]at e;show hd λb M=>?_;obtain⟨C,ct,X,R⟩:=Z.ca;show M<|j L f<|Z.upd f (λi m=>.inr<|.inr<|.inl<|ah.mp m) e #[C,ct,X.keeps f (cX λw=>jX<|Um [_,_,_,_] 1 0 V0 V1 (V1+1) V2 (V2+1) V3 (V3+1) V0 af (ak w) t.2.1 t.2.2.2.1 t.2.2.2.2.1)<|cX λw=>jX<|M8 [_,_,_,_,_] 1 0 V0 V1 (V1+1) V2 (V2+1) V3 (V3+1) V4 (V4+1) V0 af (ak w) t.2.1 t.2.2.2.1 t.2.2.2.2.1 t.2.2.2.2.2,R]
theorem Sq(Z:RS U W)(A:W.B<=U.length)(D:∀Y,Keeps W.U U Y->RS Y W->Q (.ok<|.p .none) Y):LV (k+8) 704 [.ref W.r] U Q:=by show enter af af af ?_;show aN (bF Z.obj)<|IK Z λcu g=>?_;show lG (C5 W.Z) (λt=>lq5 (I<|.ref W.r) t.1 t.2.1 t.2.2.1 t.2.2.2) (λp t f=>RS f W/\Keeps W.U U f) (λp a r e t f b h F=>?_) (_,_,_,_) #[Z.keeps g λd m=>(nomatch m),g.none] λt f h=>D f h.2 h.1;have o:=e▸aG _ (.head _);show aN af<|ls af<|ls af<|aN af ?_;show aN (bF h.1.obj)<|uP h.1 o (av A h.2.len) λc L w=>?_;show aN af<|ls af<|ls af<|aN af ?_;show bL w.obj af<|Wr w o λM R j=>(FT au (by rw[beq_self_eq_true];rfl)<|(F (_,_,_,_) M #[j,(h.2.step L λd m d=>m).step R λi m d=>(ah.mp m)▸.head _]).1)
end
theorem kE{k:Nat}{x1 x2 x3 x4 x5:P}{vs:List V}{f:List O}{Q:gT->List O->Prop}(g:Cq.argsOk #[au,I 345,6,6,[.none,.none,.none],qk] (vs.length+1)=aB)(o:r9 6 (nk 6 [.none,.none,.none] (.ref f.length::vs))=[I<|.ref f.length,I<|.p x1,I<|.p x2,I<|.p x3,I<|.p x4,I<|.p x5])
  (t:∀Y,Keeps [] f Y->Y[f.length]?=I (.inst 345 [I<|.p x1,I<|.p x2,I<|.p x3,I<|.p x4,I<|.p x5])->Q (.ok<|.ref f.length) Y):LV (k+1) 345 vs f Q:=by show AY af g o af λcu w e T=>(sa T (bz af) λj D l F=>(sa F (bz af) λn C q L=>(sa L (bz af) λr M s R=>(sa R (bz af) λv U z H=>(sa H (bz af) λZ c B d=>?_)))));have K:∀{a b:List O},Keeps [] f a->Keeps [f.length] a b->Keeps [] f b:=λx y=>x.step y λi m h=>absurd (ah.mp m)<|aS h;show aN af<|t Z (K (K (K (K (K w D) C) M) U) c) d
def w6(f:List cJ)(g:List Nat)(a:Nat):cJ:=#[(eu f a).o,(eu f a).c,au,(nt f a).bind λq=>if q∈g then (eu f a).base else A]
theorem UN{g:List O}{l:Nat}{f:Nat->V}{S:List Nat}(e:g[l]?=I (.dict au<|nd f S)):Pj g (.ref l)=I (S.map λ(n:Nat)=>(n:Int)):=by change(match g9 g (.ref l)with|some o=>_|none=>_)=_;rw[RH e];change(g[l]?.bind _)=_;show bS e ?_;show j1 λw w=>rfl
structure RU(cu U:List O)(W:Wd)(ws p:List Nat):Prop where
 Z:RS U W
 K:Keeps W.U cu U
 dc:U[cu.length]?=I (.dict au<|nd (λa=>.p<|.bytes (eu W.Z a).o) ws)
 li:U[cu.length+1]?=I (.list<|p.map λa=>(w6 W.Z ws a).val)
variable{kk:Fl->St->Prop}{v8:Option V}
section
variable {U:List O}
theorem RU.step{g t:List Nat}(f:RU cu U W g p)(K:Keeps t U Y)(Z:RS Y W)(h:∀i∈t,i∈W.U)(o:W.B<=cu.length):RU cu Y W g p:=
 have n:∀j,cu.length+j∉t:=λj m=>absurd (aaG Z _<|h _ m)<|cH.mpr<|iA o
 #[Z,f.K.step K λi m w=>h i m,K.get f.dc<|n 0,K.get f.li<|n 1]
theorem YR{t:E}{K:Bool->St->Prop}{b:Bool}(h:∀K:Bool->St->Prop,K b σ->BH Γ X t σ K)(f:K b σ):BH Γ X t σ K:=h K f
theorem Ge{f:List Nat}{X:XX}{U' Y' v6 v7 v8:Option V}{kk:Fl->St->Prop}(I:RU cu U W f p)(t:a∈cf W.Z)(D:a∈f)(L:W.B<=cu.length)(C:p.length<gr)
  (H:∀v1 v2 v3 v4 Y,RU cu Y W f (p++[a])->kk .next #[wG (ae<|.ref W.r) U' (ae<|.ref cu.length) Y' v1 (ae<|.ref<|cu.length+1) v2 v3 v4,Y]) :
  ex (LV<|k+7) X um.tl.tl.tl.bd #[wG (ae<|.ref W.r) U' (ae<|.ref cu.length) Y' (ae<|nV a) (ae<|.ref<|cu.length+1) v6 v7 v8,U] kk:=by
 have fin:∀{d M:List O}{v1 v2 v3 v4:Option V},RU cu d W f p->Keeps [cu.length+1] d M->M[cu.length+1]?=ae (.list<|(p.map λa=>(w6 W.Z f a).val)++[(w6 W.Z f a).val])->kk .next #[wG (ae<|.ref W.r) U' (ae<|.ref cu.length) Y' v1 (ae<|.ref<|cu.length+1) v2 v3 v4,M]:=λ{d M v1 v2 v3 v4} j l J=>
  H v1 v2 v3 v4 M #[j.Z.keeps l λi m=>.inr<|(ah.mp m)▸dP L,j.K.step l λi m Q=>absurd Q<|bS (ah.mp m)<|cH.mpr<|eV _,l.get j.dc<|cX<|aS<|bE _,J.trans<|by rw[aO];rfl]
 have v:(p.map λa=>(w6 W.Z f a).val).length<gr:=by rw[ay];show C
 have G:=I.Z.F.toGood;show aN (bF I.Z.obj)<|uO I.Z t<|ls af ?_;by_cases c:∃q,nt W.Z a=ae q/\q∈f
 ·obtain⟨q,g,y⟩:=c;have n:(w6 W.Z f a).val=.inst 345 [.bytes (eu W.Z a).o,blob,.none,.bytes (eu W.Z q).o,.bytes (eu W.Z a).raw]:=by
   unfold w6;show bS g ?_;change(cJ.val #[_,_,_,if q∈f then _ else _])=_;show bS (if_pos y) ?_;obtain⟨T,z⟩:=IM I.Z.F<|pK.mpr #[t,g];have zo:(eu W.Z q).o=T:=by unfold nt at g;rw[z]at g;obtain⟨x,hx,e⟩:=uH g;show bS (hx.en) e
   show(z)▸(zo)▸?_;unfold cJ.raw;show(z)▸?_;rfl
  rw[show Ow W.Z a=.bytes (eu W.Z q).o by unfold Ow;rw[g]];show fy au af<|aN (bF I.Z.obj)<|uZ I.Z ?_;show bS (nW G<|nT.of (sQ G t g).2)<|vL I.dc af ?_;show bS ki<|bS (if_pos y) ?_;show aN (gf I.li)<|lD (q:=.i a) I.dc af (ki.trans<|if_pos D)<|aN (bF I.Z.obj)<|uF I.Z t<|aN (bF I.Z.obj)<|kH I.Z.toRB t<|kE (x1:=.bytes (eu W.Z a).o) (x2:=blob) (x3:=.none) (x4:=.bytes (eu W.Z q).o) af af λdH s e1=>(Bp e1 af ?_);have w:=s.bG (o:=.gone)<|aE _;have A:=I.step w (I.Z.keeps w λ_ m=>(nomatch m)) (λ_ m=>(nomatch m)) L;show j3 A.li<|aN v<|fin A .set<|bS n<|cM A.li
 ·have n:(w6 W.Z f a).val=.inst 345 [.bytes (eu W.Z a).o,blob,.bytes (eu W.Z a).c,.none,.none]:=by
   unfold w6
   induction g:nt W.Z a with
   |none=>rfl
   |some q=>
    change(cJ.val #[_,_,_,if q∈f then _ else _])=_
    rw[if_neg λz=>c #[q,g,z]];rfl
  show YR (b:=au) (λK=>?_) ?_
  ·unfold Ow
   induction g:nt W.Z a with
   |none=>show λh=>fy aB af h
   |some q=>
    intro h
    show fy au af<|aN (bF I.Z.obj)<|uZ I.Z ?_
    show bS (nW G<|nT.of (sQ G t g).2)<|vL I.dc af ?_
    show bS ki<|bS (if_neg λz=>c #[q,g,z]) ?_
    show h
  show aN (bF I.Z.obj)<|uP I.Z t (av L I.K.len) λdH s Z1=>?_
  have R:=I.step s Z1 (λ_ m=>m) L
  show aN af<|ls af<|ls af<|aN af ?_
  show aN (gf R.li)<|lD R.dc af (ki.trans<|if_pos D) ?_
  show kE (x2:=blob) (x4:=.none) (x5:=.none) af af λeR w e2=>?_
  show Bp e2 af ?_
  have w:=w.bG (o:=.gone)<|aE _
  have A:=R.step w (R.Z.keeps w λ_ m=>(nomatch m)) (λ_ m=>(nomatch m)) L
  show j3 A.li<|aN v<|fin A .set<|bS n<|cM A.li
theorem NR{f qs:List Nat}(Z:RS U W)(b:W.B<=U.length)(c:∀a∈f,a∈cf W.Z)(j:f.Nodup)(v:lY (f.map λ(n:Nat)=>(n:Int))=qs.map λ(n:Nat)=>(n:Int))(l:∀a∈qs,a∈f)
  (H:∀Y,Keeps W.U U Y->RS Y W->Q (.ok<|.p<|.lst<|qs.map λa=>(w6 W.Z f a).val) Y):LV (k+8) 718 [.ref W.r,.p<|.lst<|f.map λa=>.bytes (eu W.Z a).o] U Q:=by
 have L:=av (qm j c)<|nH Z.F.toGood;show enter (loc:=wG (ae<|.ref W.r) (ae<|.p<|.lst<|f.map λa=>.bytes (eu W.Z a).o) A A A A A A A) af af af ?_;show Dr λx y J T=>(ls af ?_);show lG (λa=>P.bytes (eu W.Z a).o) (λt=>wG (ae<|.ref W.r) (ae<|.p<|.lst<|f.map λa=>.bytes (eu W.Z a).o) (ae<|.ref U.length) t.1 t.2 A A A A) (λp t g=>(RS g W/\Keeps [U.length] x g/\g.length=x.length)/\g[U.length]?=ae (.dict au<|nd (λa=>.p<|.bytes (eu W.Z a).o) p)) (λp a r e t g kk I q=>?_) (A,A) #[#[Z.keeps y λ_ m=>(cO m),.refl,rfl],T] λt g I=>?_
 ·have X:=e▸aG _ (.head _);have na:=λm=>by rw[e]at j;show(bA.mp j).2.2 a m a (.head _) af
  have Xq:=by rw[e,aj]at L;show av (bg _ _) L
  show ls af<|aN (bF I.1.1.obj)<|uZ I.1.1 ?_;show bS (nW Z.F.toGood<|nT.of<|c a X) ?_;show ls af<|nE au af ?_;show AF (z:=nV a) (λ_ h=>h)<|ss I.2 af (bS sC<|aI Xq<|bz af) λM w R A'=>((q (_,_) M #[#[I.1.1.keeps w λi m=>.inr<|by rw[ah.mp m];show b,I.1.2.1.step w λ_ m _=>m,R.trans I.1.2.2],A'.trans<|congrArg (λd=>ae<|O.dict au d)<|rY na]).1)
 ·show HQ λM w R A'=>(ls af ?_);have R:=R;have l2:=I.1.2.2.trans J;have A':=A';rw[l2]at A' ⊢;have C:=w.get I.2 ai;show bq (UN C)<|aN (by rw[ay];show aI L<|bz af)<|bS (v) ?_;show bS bw ?_;show lG (λ(n:Nat)=>P.int n) (λY'=>wG (ae<|.ref W.r) (ae<|.p<|.lst<|f.map λa=>.bytes (eu W.Z a).o) (ae<|.ref U.length) t.1 Y'.1 (ae<|.ref<|U.length+1) Y'.2.1 Y'.2.2.1 Y'.2.2.2) (λp t g=>RU U g W f p) (λp a r e t g kk I q=>?_) (_,A,A,A) #[I.1.1.keeps w λ_ m=>(nomatch m),(((y.none (I:=W.U)).step I.1.2.1 λi m hi=>absurd hi<|by show(ah.mp m)▸cP _).and w),C,A'] λt kQ s=>?_
  ·have D:=l a<|e▸aG _ (.head _);have hl:p.length<gr:=by have:=congrArg List.length v;rw[C4,ay,ay,e,aj]at this;show aI (show p.length<=7 by show fZ [_,_,_] V0 7 V1 7 (V0+V2) V1 af L<|ak this.symm) (bz af)
   show ls af<|Ge I (c a D) D b hl λv1 v2 v3 v4 M I3=>(q (v1,v2,v3,v4) M I3).1
  ·show yv (λ_ h=>h)<|ua s.li<|H _ (s.K.bG<|eV _)<|s.Z.keeps Keeps.set λi m=>.inr<|bS (ah.mp m)<|dP b
end
noncomputable def VF(g:Nat->Option Nat)(n k:Nat):List Nat:=n.rec (λw=>[]) (λw f k=>k::(g k).elim [] f) k
variable{bs:Nat->Option Nat}
theorem LU:VF bs (n+1) k=k::(bs k).elim [] (VF bs n):=rfl
def uY(bs:Nat->Option Nat)(k:Nat):List Nat:=VF bs (k+1) k
def Uk(bs:Nat->Option Nat)(o:Option Nat):List Nat:=o.elim []<|uY bs
def fF(bs:Nat->Option Nat)(f l:List Nat):List Nat:=l.foldl (λf k=>f++(uY bs k).reverse.filter λx=>x∉f) f
variable{f:List Nat}
section
theorem Wn(o:∀k b,bs k=I b->b<k)(h:k<n)(g:k<m):VF bs n k=VF bs m k:=by
 induction n generalizing m k with
 |zero=>show absurd h<|fc _
 |succ n t=>
  induction m with
  |zero=>show absurd g<|fc _
  |succ m=>
   rw[LU,LU];induction e:bs k with
   |none=>rfl
   |some b=>show congrArg (k::·)<|t (aH (o k b e)<|gn h)<|aH (o k b e)<|gn g
theorem abo(g:∀k b,bs k=I b->b<k)(h:k<n):VF bs n k=uY bs k:=Wn g h<|bE k
theorem yE(g:∀k b,bs k=I b->b<k):uY bs k=k::Uk bs (bs k):=by
 change VF bs (k+1) k=_;rw[LU];induction e:bs k with
 |none=>rfl
 |some b=>show congrArg (k::·)<|abo g<|g k b e
def P5(bs:Nat->Option Nat)(f:List Nat):Prop:=∀k∈f,∀b,bs k=I b->b∈f
theorem Rx(g:∀k b,bs k=I b->b<k)(o:P5 bs f)(h:k<n)(m:k∈f):∀x∈uY bs k,x∈f:=by
 induction n generalizing k with
 |zero=>show absurd h<|fc _
 |succ n t=>
  intro x hx;replace hx:=(yE g)▸hx;rcases aC.mp hx with rfl|hx
  ·show m
  ·induction e:bs k with
   |none=>rw[e]at hx;show absurd hx ai
   |some b=>rw[e]at hx;show t (aH (g k b e)<|gn h) (o k m b e) x hx
theorem Q7(g:∀k b,bs k=I b->b<k){st:List Nat}{h:Option Nat}(e:uY bs k=st++Uk bs h)(o:∀x∈st,x∉f)(t:P5 bs f)(w:∀x,h=I x->x∈f):(uY bs k).reverse.filter (λx=>x∉f)=st.reverse:=by
 rw[e,Kn,pg,jk.mpr λx m=>?_,jq,Ko.mpr λx m=>?_]
 ·show decide_eq_true<|o x<|cR.mp m
 ·rw[decide_eq_true_iff];induction h with
  |none=>show absurd (cR.mp m) ai
  |some y=>show λn=>n<|Rx g t (bE y) (w y af) x<|cR.mp m
end
abbrev dk(o:Nat->List UInt8)(g:Nat->V)(l:List Nat):List<|Ky×V:=dm g<|l.map λk=>(o k,k)
section
variable {o:Nat->List UInt8}{g:Nat->V}
theorem aeH(h:∀j∈l,o j=o k->j=k):lk (l.map λk=>(o k,k)) (o k)=if k∈l then I k else A:=by
 induction e:lk (l.map λk=>(o k,k)) (o k)with
 |some v=>show gO (PA e) λa m z=>?_;injection z with z1 z2;have:=h a m z1;show(if_pos<|this▸m)▸(z2)▸(this)▸rfl
 |none=>rw[if_neg λm=>?_];show tK.mp e ?_;rw[bw];show fQ m
theorem xr(h:∀j∈l,o j=o k->j=k):fR (dk o g l) (.b<|o k)=if k∈l then I (g k) else A:=by
 rw[se,aeH h];by_cases m:k∈l
 ·rw[if_pos m,if_pos m];rfl
 ·rw[if_neg m,if_neg m];rfl
theorem EM(h:∀j∈l,o j=o k->j=k)(n:k∉l):kU (dk o g l) (.b<|o k) (g k)=dk o g (l++[k]):=by rw[JA<|by rw[aeH h,if_neg n],<- dR (f:=λk=>(o k,k)),<- aO]
theorem DS:(dk o g l).length=l.length:=by rw[IZ,ay]
end
theorem aaf(g:∀k b,bs k=I b->b<k)(h:k<n):P5 bs<|uY bs k:=by
 induction n generalizing k with
 |zero=>show absurd h<|fc _
 |succ n t=>
  intro x hx b e;have u:b∈Uk bs (bs k)->b∈uY bs k:=λm=>bS (yE g)<|.tail _ m;replace hx:=(yE g)▸hx;rcases aC.mp hx with rfl|hx
  ·show u ?_;rw[e];change b∈uY bs b;show bS (yE g)<|.head _
  ·show u ?_;induction o:bs k with
   |none=>rw[o]at hx;show absurd hx ai
   |some c=>rw[o]at hx;show t (aH (g k c o)<|gn h) x hx b e
theorem qL:fF bs f (p++[k])=fF bs f p++(uY bs k).reverse.filter λx=>x∉fF bs f p:=Oj ..
structure Srt(en:Nat->cJ)(bs:Nat->Option Nat)(ks:List Nat):Prop where
 inj:∀i∈ks,∀j∈ks,(en i).o=(en j).o->i=j
 b0:∀k∈ks,bs k=A->(en k).base=A
 b1:∀k∈ks,∀b,bs k=I b->b∈ks/\∃n,(en k).base=I ((en b).o,n)
 lt:∀k b,bs k=I b->b<k
 few:ks.length<=5
abbrev vl(en:Nat->cJ)(k:Nat):P:=(en k).val
structure PS(cu U:List O)(en:Nat->cJ)(L f:List Nat):Prop where
 K:Keeps [] cu U
 e1:U[cu.length]?=I (.dict aB<|dk (λk=>(en k).o) (λk=>.p<|vl en k) L)
 e2:U[cu.length+1]?=I (.dict aB<|dk (λk=>(en k).o) (λ_=>.p<|.bool aB) f)
 e3:U[cu.length+2]?=I (.list<|f.map<|vl en)
variable{v0 v2:Option V}
section
variable {U:List O}{en:Nat->cJ}{L:List Nat}
theorem PS.keeps{w:List Nat}(t:PS cu U en L f)(K:Keeps w U Y)(h:∀i∈w,cu.length+3<=i):PS cu Y en L f:=
 have n:∀j,j<3->cu.length+j∉w:=λj g m=>by have:=h _ m;show jX<|fZ [_,_] 1 0 (V0+1) 3 (V1+3) (V1+V0) af g this
 #[t.K.step K λi m o=>absurd o (by have:=h _ m;show cH.mpr<|dO [_,_] V1 V0 (V1+3) V0 af this),K.get t.e1<|n 0<|by decide,K.get t.e2<|n 1<|by decide,K.get t.e3<|n 2<|by decide]
theorem O5{v0 v2 v5 v7 v8:Option V}{F st:List Nat}(Y':PS cu U en L f)(R:cu.length+3<=s)(w:U[s]?=I (.list<|st.map<|vl en))(g:f++st.reverse=F)(q:F.Nodup)(Z:∀k∈F,k∈ks)(r:Srt en bs ks)
  (B:∀Y v8,PS cu Y en L F->kk .next #[wG v0 (I<|.ref cu.length) v2 (I<|.ref<|cu.length+1) (I<|.ref<|cu.length+2) v5 (I<|.ref s) v7 v8,Y]) :
  ex (LV k) X jm.tl.tl.tl.tl.bd.tl.tl.tl.tl #[wG v0 (I<|.ref cu.length) v2 (I<|.ref<|cu.length+1) (I<|.ref<|cu.length+2) v5 (I<|.ref s) v7 v8,U] kk:=by
 have C:=av (qm q Z) r.few;show nD (λt=>wG v0 (I<|.ref cu.length) v2 (I<|.ref<|cu.length+1) (I<|.ref<|cu.length+2) v5 (I<|.ref s) v7 t.1) (λm t A=>(PS cu A en L t.2.1/\A[s]?=I (.list<|t.2.2.map<|vl en))/\t.2.1++t.2.2.reverse=F/\m=t.2.2.length) ?_ _ (v8,f,st) #[#[Y',w],g,rfl];rintro m ⟨v,f,st⟩ A ⟨⟨Y',w⟩,g,a⟩ U' H;have w:=w;have g:f++st.reverse=F:=g;have a:m=st.length:=a;rcases snoc st with rfl | ⟨st,x,rfl⟩
 ·show sO au w af ?_;rw[List.reverse_nil,aY]at g;show B A v<|g▸Y'
 ·show sO aB w (by show bS (aO)<|bS (dR) ?_;induction st.map (vl en)<;>rfl) ?_;rw[aO]at w;rw[Kn,<- aJ]at g;have g:=g;have z:∀y,y∈f++[x]->y∈F:=λy m=>g▸aU _ m;have J:=λm=>(bA.mp<|(bA.mp<|bS g q).1).2.2 x m x (.head _) af;have fl:f.length<gr:=aI (show f.length<=5 by have:=congrArg List.length g;rw[aj,aj]at this;show fZ [_,_,_,_] V0 5 V1 5 (V0+V2+V3) V1 af C<|ak this)<|bz af;have inj:=λj Q e=>r.inj j (Z j<|z j<|aU _ Q) x (Z x<|z x<|aG _<|.head _) e;show Qs af w λeR T b=>?_;have D:=Y'.keeps T λi m=>bS (ah.mp m) R;show ls af ?_;show AF (λ_ h=>h) ?_;show ss D.e2 af (by rw[DS];show fl) λW I' l3 c=>?_;have c:=c.trans<|congrArg (λd=>I<|O.dict aB d)<|EM inj J;have l:=I'.get D.e3<|cX λo=>jX<|dO [_] 1 0 (V0+2) (V0+1) af<|ak o;show aN (gf l)<|j3 l<|aN (by rw[ay];show fl) ?_;have M:=@Keeps.set W (cu.length+2)<|.list<|f.map (vl en)++[vl en x];show H st.length (I<|.p<|vl en x,f++[x],st) _ (by rw[a,aj];show bE _) #[#[#[D.K.step (I'.trans M) λi m n=>?_,(I'.trans M).get D.e1<|Jg (λo=>jX<|dO [_] 1 0 (V0+1) V0 af<|ak o.symm) λo=>jX<|dO [_] 1 0 (V0+2) V0 af<|ak o.symm,M.get c<|cX λo=>jX<|dO [_] 1 0 (V0+2) (V0+1) af<|ak o.symm,(cM l).trans<|by rw[aO];rfl],(I'.trans M).get b<|Jg (λo=>jX<|fZ [_,_] 1 0 V0 (V1+1) (V1+3) V0 af (ak o) R) λo=>jX<|fZ [_,_] 1 0 V0 (V1+2) (V1+3) V0 af (ak o) R],g,rfl];rcases aC.mp m with rfl|m
  ·show absurd n<|cH.mpr<|eV _
  ·rw[ah.mp m]at n;show absurd n<|cH.mpr<|bg _ 2
end
noncomputable abbrev hV(en:Nat->cJ)(h:Option Nat):V:=match h with
 |none=>.p .none
 |some x=>.p<|vl en x
structure PI(cu U:List O)(en)(bs:_)(ks L f:List Nat)(k s:Nat)(h:Option Nat)(st:List Nat):Prop extends PS cu U en L f where
 Z:U[s]?=I (.list<|st.map<|vl en)
 ew:U[s+1]?=I (.dict aB<|dk (λk=>(en k).o) (λ_=>.p<|.bool aB) st)
 up:uY bs k=st++Uk bs h
 nf:∀x∈st,x∉f/\x∈ks
 nd:st.Nodup
 hh:∀x,h=I x->x∈ks/\∀y∈st,x<y
section
variable {U:List O}{en:Nat->cJ}{L:List Nat}
theorem Nz{v8:Option V}(Y9:PS cu U en L f)(g:Srt en bs ks)(C:∀k,k∈L ↔ k∈ks)(r:j∈ks)(J:cu.length+3<=U.length)(nF:f.Nodup)(sF:∀k∈f,k∈ks)(K:P5 bs f){v0 v2 v6 v7:Option V}
  (hk:∀Y v6 v7 v8 F,PS cu Y en L F->F=f++(uY bs j).reverse.filter (λx=>x∉f)->F.Nodup->(∀k∈F,k∈ks)->P5 bs F->cu.length+3<=Y.length->kk .next #[wG v0 (I<|.ref cu.length) v2 (I<|.ref<|cu.length+1) (I<|.ref<|cu.length+2) (I<|.p<|vl en j) v6 v7 v8,Y]) :
  ex (LV<|k+1) X jm.tl.tl.tl.tl.bd #[wG v0 (I<|.ref cu.length) v2 (I<|.ref<|cu.length+1) (I<|.ref<|cu.length+2) (I<|.p<|vl en j) v6 v7 v8,U] kk:=by
 have inj:∀{l:List Nat}{x:Nat},(∀k∈l,k∈ks)->x∈ks->∀j∈l,(en j).o=(en x).o->j=x:=λh hx j r e=>g.inj j (h j r) _ hx e;show HQ λdH K1 Q T=>(ls af<|Dr λeR K2 l2 H=>(ls af ?_));have Q:=Q;have l2:=l2;have H:=H;change ex _ _ _ #[wG _ _ _ _ _ _ _ (I<|.ref dH.length) _,_] _;rw[Q]at H ⊢;have Y2:=Y9.keeps (K1.and K2) λ_ m=>(cO m);have T:=K2.get T ai;show lD Y2.e1 af ((xr<|inj (λk m=>(C k).mp m) r).trans<|if_pos<|(C j).mpr r) ?_;show ls af ?_;show nD (τ:=Option Nat×List Nat) (λt=>wG v0 (I<|.ref cu.length) v2 (I<|.ref<|cu.length+1) (I<|.ref<|cu.length+2) (I<|.p<|vl en j) (I<|.ref U.length) (I<|.ref<|U.length+1)<|I<|hV en t.1) (λm t s=>(PI cu s en bs ks L f j U.length t.1 t.2/\eR.length<=s.length)/\m=(t.1.map (· + 1)).getD 0) ?_ _ (I j,[]) #[#[#[Y2,T,H,rfl,λ_ m=>(cO m),bV,λx e=>by obtain rfl:=aV e;show#[r,λ_ m=>(cO m)]],aE _],rfl];rintro m ⟨h,st⟩ s ⟨⟨Z,D⟩,hm⟩ U' hU;have Z:PI cu s en bs ks L f j U.length h st:=Z;have D:=D;have v:(∀x,h=I x->x∈f)->ex (LV<|k+1) X jm.tl.tl.tl.tl.bd.tl.tl.tl.tl #[wG v0 (I<|.ref cu.length) v2 (I<|.ref<|cu.length+1) (I<|.ref<|cu.length+2) (I<|.p<|vl en j) (I<|.ref U.length) (I<|.ref<|U.length+1)<|I<|hV en h,s] kk:=λI'=>by
  have nd:=bA.mpr #[nF,rX.mpr<|Z.nd.imp Ne.symm,λa W b A z=>(Z.nf b<|cR.mp A).1<|z▸W];have sub:=λk m=>(aM.mp m).elim (sF k) λm=>(Z.nf k<|cR.mp m).2;show O5 Z.toPS J Z.Z af nd sub g λY v8 Y'=>(hk Y _ _ v8 _ Y' (bS (Q7 g.lt Z.up (λx m=>(Z.nf x m).1) K I') af) nd sub ?_ ?_)
  ·intro x hx b A;rcases aM.mp hx with hx|hx
   ·show aU _<|K x hx b A
   ·have:=aaf g.lt (bE j) x (bS (Z.up)<|aU _<|cR.mp hx) b A;replace this:=(Z.up)▸this;rcases aM.mp this with m|m
    ·show aG _<|cR.mpr m
    ·induction h with
     |none=>show absurd m ai
     |some y=>show aU _<|Rx g.lt K (bE y) (I' y af) b m
  ·show iC Y'.e3
 induction h with
 |none=>show fy aB af<|v λx e=>(nomatch e)
 |some x=>
  have hx:=Z.hh x af;have M:=λm=>cP _<|hx.2 x m;have lst:st.length<gr:=aI (av (qm Z.nd λx m=>(Z.nf x m).2) g.few)<|bz af;show fy au af<|ur Z.e2 af ?_;rw[xr<|inj sF hx.1];by_cases I':x∈f
  ·rw[if_pos I'];show v λy e=>by obtain rfl:=aV e;show I'
  ·rw[if_neg I'];show vL (q:=.b (en x).o) Z.ew af<|bS (xr (o:=λk=>(en k).o)<|inj (λx m=>(Z.nf x m).2) hx.1)<|bS (if_neg M)<|AF (i:=U.length+1) (λ_ h=>h)<|ss (q:=.b (en x).o) Z.ew af (bS DS lst) λkQ K4 l4 d4=>?_;have s4:=K4.get Z.Z<|cX<|aS<|bE _;show aN (gf s4)<|j3 s4<|aN (by rw[ay];show lst) ?_;have S5:=@Keeps.set kQ U.length<|.list<|st.map (vl en)++[vl en x];have Y5:=(Z.toPS.keeps K4 λi m=>bS (ah.mp m)<|dP J).keeps S5 λi m=>bS (ah.mp m) J;show aN af<|sG ?_;have go:∀R,bs x=R->(∀y,R=I y->y∈ks)->U' #[wG v0 (I<|.ref cu.length) v2 (I<|.ref<|cu.length+1) (I<|.ref<|cu.length+2) (I<|.p<|vl en j) (I<|.ref U.length) (I<|.ref<|U.length+1)<|I<|hV en R,kQ.set U.length<|.list<|st.map (vl en)++[vl en x]]:=λR e he=>by
    show hU ((R.map (· + 1)).getD 0) (R,st++[x]) _ ?_ #[#[#[Y5,(cM s4).trans<|by show bS aO ?_;rfl,S5.get (d4.trans<|congrArg (λd=>I<|O.dict aB d)<|EM (inj (λx m=>(Z.nf x m).2) hx.1) M)<|cX<|bT<|bE _,by rw[Z.up,aJ,<- e];show congrArg (st++·)<|yE g.lt,λy m=>?_,?_,λy z=>#[he y z,λw m=>?_]],av D<|av K4.len S5.len],rfl]
    ·rw[hm];induction R with
     |none=>show iT _
     |some y=>show jW<|g.lt x y e
    ·show(aM.mp m).elim (Z.nf y) λz=>bS (ah.mp z) #[I',hx.1]
    ·show bA.mpr #[Z.nd,bX.mpr #[ai,bV],λa W b A z=>M<|ah.mp A▸z▸W]
    ·have q:=g.lt x y<|e.trans z;show(aM.mp m).elim (λm=>aW q<|hx.2 w m) λm=>bS (ah.mp m) q
   induction A:bs x with
   |none=>
    have:(en x).isD=au:=by unfold cJ.isD;rw[g.b0 x hx.1 A];rfl
    rw[this];show fj<|ls af<|go az A λ_ e=>(bh e)
   |some b=>
    show hd λΩ ω=>?_;obtain⟨c,n,B⟩:=g.b1 x hx.1 b A;show ω ?_;have:(en x).isD=aB:=by unfold cJ.isD;show bS B ?_;rfl
    show bS this ?_;show fj<|aN (AR Y5.e1)<|Be Y5.e1<|bq (by change P.Ax aB (en x).bo=_;unfold cJ.bo;show bS B ?_;rfl) ?_;unfold ac2;rw[xr<|inj (λk m=>(C k).mp m) c,if_pos<|(C b).mpr c];show ls af (go (I b) A λy e=>by injection e with e;subst e;show c)
end
structure SB(cu U:List O)(en:Nat->cJ)(p l:List Nat):Prop where
 K:Keeps [] cu U
 e:U[cu.length]?=I (.dict aB<|dk (λk=>(en k).o) (λk=>.p<|vl en k) l)
 m:∀k,k∈l ↔ k∈p
 n:l.length<=p.length
 ln:U.length=cu.length+1
theorem xP{k:Nat}{en:Nat->cJ}{o:List O}{Q:gT->List O->Prop}(M:Srt en bs ks)
  (H:∀Y,Keeps [] o Y->(fF bs [] ks).Nodup->(∀k∈fF bs [] ks,k∈ks)->P5 bs (fF bs [] ks)->Q (.ok<|.p<|.lst<|(fF bs [] ks).map<|vl en) Y):LV (k+2) 414 [.p<|.lst<|ks.map<|vl en] o Q:=by
 show enter (loc:=[ae<|.p<|.lst<|ks.map<|vl en,A,A,A,A,A,A,A,A]) af af af<|Dr λl J T W=>(ls af<|lG (τ:=Option V×List Nat) (vl en) (λt=>[ae<|.p<|.lst<|ks.map<|vl en,ae<|.ref o.length,t.1,A,A,A,A,A,A]) (λp t l=>SB o l en p t.2) (λp a r e t R kk I D=>?_) (A,[]) #[J,W,λ_=>Iff.rfl,aE _,T] λt R I=>?_)
 ·have X:=e▸aG _ (.head _);have U:=λj m=>e▸aU _ ((I.m j).mp m);have inj:=λj m z=>M.inj j (U j m) a X z;show ls af<|ur I.e af ?_;rw[xr inj];by_cases m:a∈t.2
  ·rw[if_pos m];show(D (ae<|.p<|vl en a,t.2) R #[I.K,I.e,λx=>?_,bS (aj)<|iA I.n,I.ln]).1;rw[I.m x,aM,ah];show#[.inl,λz=>z.elim id λz=>z▸(I.m a).mp m]
  ·rw[if_neg m];have q:=M.few;show ss I.e af (by rw[DS];have:=I.n;rw[e,aj]at q;show aI (show t.2.length<=5 by show fZ [_,_,_] V0 5 (V1+V2) 5 V0 V1 af q this)<|bz af) λY' L Z w=>?_;show(D (ae<|.p<|vl en a,t.2++[a]) Y' #[I.K.step L λi m h=>absurd h<|by show(ah.mp m)▸cP _,w.trans<|congrArg (λd=>ae<|O.dict aB d)<|EM inj m,λx=>?_,by rw[aj,aj];show fH I.n 1,Z.trans I.ln]).1;rw[aM,aM,I.m x]
 ·show Dr λY' L Z w=>(ls af<|HQ λkQ b s c=>(ls af ?_));have s:=s;have w:=w;change ex _ _ _ #[[_,_,_,ae<|.ref R.length,ae<|.ref Y'.length,_,_,_,_],_] _;rw[Z]at c ⊢;rw[I.ln]at w c ⊢;show lG (vl en) (λA'=>[ae<|.p<|.lst<|ks.map<|vl en,ae<|.ref o.length,t.1,ae<|.ref<|o.length+1,ae<|.ref<|o.length+2,A'.1,A'.2.1,A'.2.2.1,A'.2.2.2]) (λp _ f=>PS o f en t.2 (fF bs [] p)/\(fF bs [] p).Nodup/\(∀k∈fF bs [] p,k∈ks)/\P5 bs (fF bs [] p)) (λp a r e A' f kk g D=>?_) (A,A,A,A) #[(#[(I.K.and L).and b,b.get (L.get I.e ai) ai,b.get w ai,c]),bV,λ_ m=>(nomatch m),λ_ m=>(cO m)] λA' f g=>?_
  ·show ls af<|Nz g.1 M I.m (e▸aG _ (.head _)) (iC g.1.e3) g.2.1 g.2.2.1 g.2.2.2 λsL v6 v7 v8 F v hF y B C _=>?_;rw[(hF.trans qL.symm)]at v y B C;show(D (_,v6,v7,v8) sL #[v,y,B,C]).1
  ·show yv (λ_ h=>h)<|ua g.1.e3<|H _ (g.1.K.bG<|bg _ _) g.2.1 g.2.2.1 g.2.2.2
structure Ro where
 n:Nat
 c:Nat->List UInt8
 bs:Nat->Option Nat
abbrev oN(k:Nat):List UInt8:=BF<|k+1
def Ro.b2(R:Ro)(b:Nat):List UInt8×Nat:=(oN b,(R.c b).length)
def Ro.ef(R:Ro)(o:Bool)(g:List Nat)(k:Nat):cJ:=#[oN k,R.c k,o,((R.bs k).filter λb=>b∈g).map R.b2]
def Ro.en(R:Ro)(g:Bool)(k:Nat):cJ:=#[oN k,R.c k,g,(R.bs k).map R.b2]
noncomputable def Ro.Z(R:Ro)(o:Bool)(g:List Nat):List cJ:=g.map<|R.ef o g
structure Ro.Ok(R:Ro):Prop where
 lt:∀k b,R.bs k=I b->b<k
 few:R.n<=4
 c0:∀k,k<R.n->0<(R.c k).length
 c9:∀k,k<R.n->(R.c k).length<10
 inj:∀i j,i<R.n->j<R.n->R.c i=R.c j->i=j
structure Ord(R:Ro)(cur:List Nat):Prop where
 lt:∀k∈cur,k<R.n
 nd:cur.Nodup
 pre:∀p k q,cur=p++k::q->∀b,R.bs k=I b->b∈cur->b∈p
theorem Lp(g:i<256)(o:j<256)(e:BF i=BF j):i=j:=by injection e with _ e;injection e with _ e;injection e with _ e;injection e with e _;have:=congrArg pS e;rwa [u8 g,u8 o]at this
variable{wc:Bool}{cur:List Nat}
section
variable {R:Ro}
theorem rZ(h:R.Ok)(g:i<R.n)(o:j<R.n)(e:oN i=oN j):i=j:=by have:=h.few;show ja<|Lp (by lia) (by lia) e
theorem Ord.len(h:R.Ok)(O:Ord R cur):cur.length<=4:=by have:=qm O.nd λx m=>cY.mpr<|O.lt x m;rw[cA]at this;show av this h.few
theorem RX(h:R.Ok)(g:k<R.n):(R.ef wc cur k).Ok:=⟨h.c0 k g,h.c9 k g,λb e=>by
 show mS e λx m o=>o▸?_
 have:=h.lt k x (gx.mp m).1
 show h.c9 x<|aW this g⟩
theorem Em{b:List UInt8×Nat}:(R.ef wc cur k).base=I b ↔ ∃x,R.bs k=I x/\x∈cur/\R.b2 x=b:=by
 unfold Ro.ef;rw[cB];constructor
 ·rintro⟨x,m,e⟩;have:=gx.mp m;show#[x,this.1,decide_eq_true_iff.mp this.2,e]
 ·rintro⟨x,m,g,e⟩;show#[x,gx.mpr #[m,decide_eq_true g],e]
theorem Hj{p:List cJ}(e:R.Z wc cur=p++x::r):∃p' k g,cur=p'++k::g/\p=p'.map (R.ef wc cur)/\x=R.ef wc cur k:=by show hd λa o=>?_;obtain⟨p',s,t,w,M⟩:=List.map_eq_append_iff.mp e;obtain⟨k,g,D,F,_⟩:=List.map_eq_cons_iff.mp M;show o<|#[p',k,g,by show bS (t)<|bS (D) af,w.symm,F.symm]
theorem kZ(h:R.Ok)(O:Ord R cur):Good<|R.Z wc cur:=by
 show#[λe m=>?_,λp x r e m=>?_,λp x r e b w=>?_,by unfold Ro.Z;rw[ay];show av (O.len h)<|c6 af]
 ·show gO m λk a D=>sB D ?_;show RX h<|O.lt k a
 ·obtain⟨p',k,o,g,rfl,rfl⟩:=Hj e;rw[bw]at m;show gO m λj t z=>?_;have:=rZ h (O.lt j<|g▸aU _ t) (O.lt k<|g▸aG _ (.head _)) z;have nd:=O.nd;rw[g]at nd;show(bA.mp nd).2.2 j t k (.head _) this
 ·obtain⟨p',k,o,g,rfl,rfl⟩:=Hj e;obtain⟨y,F,M,rfl⟩:=Em.mp w;rw[bw];show fQ<|O.pre p' k o g y F M
def Ak(R:Ro)(H:List<|List UInt8):Prop:=(∀k,k<R.n->uu H (zP<|R.c k)=oN k/\zP (R.c k)∈H)/\H.length<250
theorem Du(h:R.Ok)(O:Ord R cur)(g:Ak R H):oE H<|R.Z wc cur:=by
 show#[kZ h O,λe m=>?_,λe m b t x w z=>?_,g.2]
 ·obtain⟨k,o,rfl⟩:=dD.mp m;show g.1 k<|O.lt k o
 ·obtain⟨k,o,rfl⟩:=dD.mp m;show gO w λj M D=>?_;subst D;obtain⟨y,a,F,rfl⟩:=Em.mp t;show sB (rZ h (O.lt j M) (O.lt y F) z) ?_;rfl
theorem Kv{x:Nat}(g:R.bs k≠I x):R.ef wc (cur++[x]) k=R.ef wc cur k:=by
 unfold Ro.ef;induction e:R.bs k with
 |none=>rfl
 |some b=>
  have:(b∈cur++[x]) ↔ b∈cur:=by rw[aM,ah];show#[λz=>z.elim id λz=>absurd (z▸e) g,.inl]
  rw[fX,fX];simp only[this]
theorem zC(g:∀k b,R.bs k=I b->b<k){x:Nat}(h:∀k∈cur,R.bs k≠I x):R.Z wc (cur++[x])=R.Z wc cur++[R.ef wc cur x]:=by unfold Ro.Z;rw[aO,dR,Kv λe=>cP _<|g x x e];show congrArg (·++_)<|cL λk m=>Kv<|h k m
end
def B8(bs:Nat->Option Nat)(l:List Nat):Prop:=∀p k q,l=p++k::q->∀b,bs k=I b->b∈p
section
theorem Nm(h:B8 bs l)(A:∀b,bs k=I b->b∈l):B8 bs<|l++[k]:=λp x q e b w=>by
 rcases Cv.mp e with ⟨t,o,g⟩ | ⟨t,o,g⟩
 ·cases t with
  |nil=>
   injection g with g;subst g
   rw[o,aY]
   show A b w
  |cons z t=>
   injection g with _ g
   show absurd g.symm<|dS _<|fL _ _
 ·induction t with
  |nil=>injection g with g;subst g;rw[aY]at o;show o▸A b w
  |cons z t=>injection g with g;subst g;show h p x t o b w
theorem U3(o:∀k b,bs k=I b->b<k)(t:B8 bs f)(h:k<n):B8 bs (f++(uY bs k).reverse.filter λx=>x∉f)/\k∈f++(uY bs k).reverse.filter λx=>x∉f:=by
 induction n generalizing k with
 |zero=>show absurd h<|fc _
 |succ n w=>
  rw[yE o,lJ,pg,<- aJ];have g:B8 bs (f++(Uk bs<|bs k).reverse.filter λx=>x∉f)/\∀b,bs k=I b->b∈f++(Uk bs<|bs k).reverse.filter λx=>x∉f:=by
   induction e:bs k with
   |none=>show#[by rw[show((Uk bs A).reverse.filter λx=>decide (x∉f))=[]from rfl,aY];show t,λZ z=>(bh z)]
   |some b=>have:=w<|aH (o k b e)<|gn h;show#[this.1,λx z=>by obtain rfl:=aV z;show this.2]
  by_cases m:k∈f
  ·rw[show([k].filter λx=>decide (x∉f))=[]from jk.mpr λx z=>by rw[ah.mp z,decide_eq_true_iff];show λz=>z m,aY];show#[g.1,aU _ m]
  ·rw[show([k].filter λx=>decide (x∉f))=[k]from Ko.mpr λx z=>bS (ah.mp z)<|decide_eq_true m];show#[Nm g.1 g.2,aG _<|.head _]
theorem xK(o:∀k b,bs k=I b->b<k):∀{ks f:List Nat},B8 bs f->B8 bs (fF bs f ks)/\(∀k∈f,k∈fF bs f ks)/\∀k∈ks,k∈fF bs f ks:=by
 intro ks;induction ks with
 |nil=>intro f g;show#[g,λZ m=>m,λZ m=>(cO m)]
 |cons k r w=>
  intro f g;have u:=U3 o g<|bE k;have t:=w u.1;show#[t.1,λx m=>t.2.1 x<|aU _ m,λx m=>?_];rcases aC.mp m with rfl|m
  ·show t.2.1 _ u.2
  ·show t.2.2 x m
end
variable{gk:List Nat}
section
variable {R:Ro}
theorem tL(o:∀k∈gk,k<R.n)(nd:gk.Nodup)(t:B8 R.bs gk){a b:List Nat}(e:gk=a++cur++b):Ord R cur:=by rw[e]at nd;have g:=(bA.mp nd).1;show#[λk m=>o k<|bS e<|aU _<|aG _ m,(bA.mp g).2.1,λp k q w x D m=>?_];have:=t (a++p) k (q++b) (by show bS (e)<|bS (w) ?_;simp only[aJ,cT]) x D;show(aM.mp this).resolve_left λz=>(bA.mp g).2.2 x z x m af
theorem CE(nd:gk.Nodup)(o:B8 R.bs gk){a b:List Nat}(e:gk=a++cur++k::b):∀j∈cur,R.bs j≠I k:=λj w z=>by
 obtain⟨s,t,g⟩:=pn w
 have:=o (a++s) j (t++k::b) (by show bS (e)<|bS (g) ?_;simp only[aJ,cT]) k z
 rw[e]at nd
 show(bA.mp nd).2.2 k ?_ k (.head _) af
 rcases aM.mp this with m|m
 ·show aU _ m
 ·show aG _<|bS g<|aU _ m
end
def uc(n:Nat)(H g:List<|List UInt8):Prop:=∃t,g=H++t/\t.length<=n
variable{H':List (List UInt8)}
section
variable {H'':List (List UInt8)}{R:Ro}
theorem uc.mem(h:uc n H H')(m:c∈H):c∈H':=by obtain⟨t,rfl,_⟩:=h;show aU _ m
theorem uc.dig(h:uc n H H')(m:c∈H):Mine.Internal.uu H' c=Mine.Internal.uu H c:=by obtain⟨t,rfl,_⟩:=h;unfold Mine.Internal.uu;rw[wR,if_pos m]
theorem uc.len(h:uc n H H'):H'.length<=H.length+n:=by obtain⟨t,rfl,z⟩:=h;show bS (aj)<|j5 z _
theorem uc.refl:uc n H H:=#[[],(aY _).symm,dU _]
theorem uc.trans(h:uc n H H')(g:uc m H' H''):uc (n+m) H H'':=by obtain⟨t,rfl,z⟩:=h;obtain⟨s,rfl,y⟩:=g;show#[t++s,aJ ..,bS (aj)<|gP z y]
theorem uc.mono(h:uc n H H')(g:n<=m):uc m H H':=by obtain⟨t,e,z⟩:=h;show#[t,e,av z g]
theorem mK:uc 1 H (pZ H c)/\c∈pZ H c/\Mine.Internal.uu (pZ H c) c=Mine.Internal.uu H c:=by
 unfold pZ;by_cases m:c∈H
 ·show bS (if_pos m) #[.refl,m,rfl]
 ·rw[if_neg m];show#[#[[c],rfl,aE _],aG _<|.head _,?_];unfold Mine.Internal.uu;rw[wR,if_neg m,tX m,List.idxOf_cons_self,eY]
theorem uc.abG(h:uc n H H')(K:Ak R H)(g:H.length+n<250):Ak R H':=
 #[λk o=>#[bS (h.dig (K.1 k o).2)<|(K.1 k o).1,h.mem (K.1 k o).2],aI h.len g]
end
section
variable {R:Ro}
theorem Ls{a x:Nat}(h:R.Ok)(O:Ord R cur)(o:x<R.n):(lk (iE a<|R.Z wc cur)<|oN x).isSome=decide (x∈cur):=by
 have e:(iE a<|R.Z wc cur).map (·.1)=cur.map oN:=by rw[qx];unfold Ro.Z;rw[bw];rfl
 by_cases m:x∈cur
 ·obtain⟨v,t⟩:=zy<|bS e<|fQ m;show bS t<|bS (decide_eq_true m) ?_;rfl
 ·rw[tK.mpr<|show oN x∉_ by rw[e];intro z;show gO z λj g z=>?_;show m<|rZ h (O.lt j g) o z▸g,decide_eq_false m];rfl
theorem QX{q b t:Nat}{o:List O}{Q:gT->List O->Prop}(h:R.Ok)(O:Ord R cur)(w:k<R.n)(B:iZ o b t ci lp ld ps (iE a<|R.Z wc cur) at_)
  (g:∀Y,Keeps [] o Y->Q (.ok<|.p (R.ef wc cur k).val) Y):LV (q+2) 429 [.p (R.en wc k).val,.p<|.bytes<|R.c k,.ref b] o Q:=by
 show enter (loc:=[I<|.p (R.en wc k).val,I<|.p<|.bytes<|R.c k,I<|.ref b]) af af af<|aN af<|sG ?_;unfold Ro.ef at g;unfold Ro.en;induction e:R.bs k with
 |none=>replace g:=(e)▸g;show fj<|g o .refl
 |some x=>
  replace g:=(fX)▸(e)▸g;show fj<|bL B.obj af<|vL B.plc af ?_;show bS se<|bS Option.isSome_map<|bS (Ls h O<|aW (h.lt k x e) w) ?_;by_cases m:x∈cur
  ·rw[decide_eq_true m]at g ⊢;show g o .refl
  ·rw[decide_eq_false m]at g ⊢;show nE au af<|kE (x1:=.bytes<|oN k) (x2:=blob) (x4:=.none) (x5:=.none) af af λF M D=>(Bp D af<|g _<|M.bG<|aE _)
end
theorem Am{l pre post:List α}{c c1 g:α}(e:l++[c]=pre++c1::g::post):(l=pre++[c1]/\g=c)∨∃o,l=pre++c1::g::o:=by
 rcases HG post with rfl | ⟨t,x,rfl⟩
 ·have:l++[c]=(pre++[c1])++[g]:=by rw[e,aJ];rfl
  have:=yL this rfl;show .inl #[this.1,(zh this.2).1.symm]
 ·have:l++[c]=(pre++c1::g::t)++[x]:=by rw[e,HH,aJ];rfl
  show .inr #[t,(yL this rfl).1]
structure Gr(R:Ro)(wc:_)(mo)(l:List (List Nat)):Prop where
 p1:∀ch∈l,1<ch.length->16+gz (R.Z wc ch)<=mo
 p2:∀pre c1 c2 post,l=pre++c1::c2::post->∃k r,c2=k::r/\mo<16+gz (R.Z wc c1)+(R.ef wc c1 k).size
variable{mo:Nat}
section
variable {R:Ro}{done:List (List Nat)}
theorem Gr.cut(G:Gr R wc mo<|done++[cur])(h:mo<16+gz (R.Z wc cur)+(R.ef wc cur k).size):Gr R wc mo<|done++[cur]++[[k]]:=by
 show#[λw m g=>?_,λpre c1 D post e=>?_]
 ·rcases aM.mp m with m|m
  ·show G.p1 w m g
  ·rw[ah.mp m]at g;show absurd g<|cP 1
 ·rcases Am e with ⟨o,rfl⟩ | ⟨t,o⟩
  ·induction (zh (yL o af).2).1;show#[k,[],rfl,h]
  ·show G.p2 pre c1 D t o
theorem Gr.more(G:Gr R wc mo<|done++[cur])(h:cur≠[]->16+gz (R.Z wc<|cur++[k])<=mo):Gr R wc mo<|done++[cur++[k]]:=by
 show#[λw m g=>?_,λpre c1 D post e=>?_]
 ·rcases aM.mp m with m|m
  ·show G.p1 w (aU _ m) g
  ·rw[ah.mp m]at g ⊢;show h λz=>?_;rw[z]at g;show cP 1 g
 ·rcases Am e with ⟨o,rfl⟩ | ⟨t,o⟩
  ·obtain⟨j,r,z,y⟩:=G.p2 pre c1 cur [] (by rw[o,aJ];rfl);show#[j,r++[k],by rw[z];rfl,y]
  ·show G.p2 pre c1 D (t++[cur])<|by rw[o,aJ];rfl
end
structure Yk where
 h:Nat
 d:Nat
 ci:Nat
 b:Nat
 lp:Nat
 ld:Nat
 H:List (List UInt8)
 done:List (List Nat)
 cur:List Nat
structure SP(cu U:List O)(R:Ro)(wc:Bool)(x:Yk)(q:List Nat):Prop where
 K:Keeps [x.d] cu U
 X:bP U x.h x.d x.H
 B:iZ U x.b x.h x.ci x.lp x.ld (pq [] 12<|R.Z wc x.cur) (iE 12<|R.Z wc x.cur) (12+gz (R.Z wc x.cur))
 e5:U[cu.length]?=I (.dict aB<|dk oN (λk=>.p<|.bytes<|R.c k) q)
 e6:U[cu.length+1]?=I (.list<|x.done.map λch=>.bytes<|mX x.H<|R.Z wc ch)
 hb:∀ch∈x.done,cz (R.Z wc ch)∈x.H
 lb:cu.length+1<x.b/\cu.length+1<x.lp/\cu.length+1<x.ld
 l0:x.h<cu.length/\x.d<cu.length/\x.ci<cu.length
variable{v10 v11 v9:Option V}
section
variable {R:Ro}{x:Yk}{q:List Nat}{U:List O}
theorem SP.and(S:SP cu U R wc x q)(K:Keeps [] U Y):SP cu Y R wc x q:=
 #[S.K.and K,S.X.keeps K ai ai,S.B.keeps K λw w=>ai,K.get S.e5 ai,K.get S.e6 ai,S.hb,S.lb,S.l0]
abbrev OA(v0:Option V)(cu:List O)(x:Yk)(mo:Nat)(b:Nat)(v8 v9 v10 v11:Option V):List<|Option V:=[v0,I<|.ref x.h,I<|.ref x.ci,I<|nV mo,I<|.p<|.bool aB,I<|.ref cu.length,I<|.ref<|cu.length+1,I<|.ref b,v8,v9,v10,v11]
theorem Lz{a:Nat}(h:R.Ok)(O:Ord R cur):∀y,(R.ef wc cur k).base=I y->∃p,lk (iE 12<|R.Z wc cur) y.1=I p/\p<=12+gz (R.Z wc cur)/\12+gz (R.Z wc cur)-p<128:=λy e=>by
 obtain⟨z,t,g,rfl⟩:=Em.mp e
 have:=Ls (a:=12) (wc:=wc) h O<|O.lt z g
 rw[decide_eq_true g]at this
 obtain⟨v,o⟩:=bQ.mp this
 have:=(kZ (wc:=wc) h O).gz
 show#[v,o,(dO [_,_] (.v 0) (.a (.n 12)<|.v 1) (.a (.v 0)<|.n 1) (.a (.a (.n 12)<|.v 1)<|.n 1) af (A0 o).2),(fZ [_,_] (.a (.v 0)<|.n 1) (.n 128) (.v 1) (.n 112) (.v 0) (.a (.n 12)<|.v 1) af this<|rQ _ _)]
theorem CY(h:R.Ok)(S:SP cu U R wc x q)(O:Ord R x.cur)(D:k<R.n)(L:k∉x.cur)(M:∀j∈x.cur,R.bs j≠I k)
  (d:∀Y v8 v9 v10 v11,SP cu Y R wc { x with cur:=x.cur++[k] } q->kk .next #[OA v0 cu x mo x.b v8 v9 v10 v11,Y]) :
  ex (LV<|n+5) X (.cons (.ex<|.eN (.loc 7) 388 378<|.cons (.loc 10) .nil) .nil) #[OA v0 cu x mo x.b v8 v9 (I<|.p (R.ef wc x.cur k).val) v11,U] kk:=by
 have F:(R.Z wc x.cur).length<=4:=by unfold Ro.Z;rw[ay];show(O.len h)
 show aN (bF S.B.obj) ?_
 have c:=Ls (a:=12) (wc:=wc) h O D
 rw[decide_eq_false L]at c
 show O0 S.B (RX h D) (Option.not_isSome_iff_eq_none.mp<|by rw[show(R.ef wc x.cur k).o=oN k from rfl,c];decide) (Lz (a:=0) h O) (bS (jM.1)<|aI F<|bz af) (bS vU<|aI F<|bz af) λe w Z=>?_
 have f:=S.lb
 have t:∀i,i<=cu.length+1->i∉[x.b,x.lp,x.ld]:=λi g m=>by
  rcases aC.mp m with rfl|m
  ·show jX<|fZ [_,_] 1 0 (V0+1+1) V1 V1 (V0+1) af f.1 g
  rcases aC.mp m with rfl|m
  ·show jX<|fZ [_,_] 1 0 (V0+1+1) V1 V1 (V0+1) af f.2.1 g
  ·rw[ah.mp m]at g;show jX<|fZ [_,_] 1 0 (V0+1+1) V1 V1 (V0+1) af f.2.2 g
 show d e _ _ _ _ #[S.K.step w λi m g=>absurd m<|t i<|dP<|fO g,S.X.keeps w (t _<|dO [_,_] V0 (V1+1) (V0+1) V1 af S.l0.1)<|t _<|dO [_,_] V0 (V1+1) (V0+1) V1 af S.l0.2.1,?_,w.get S.e5<|t _<|eV _,w.get S.e6<|t _<|aE _,S.hb,f,S.l0]
 rw[zC h.lt M,zu,sD,nB,<- eE]
 show Z
end
theorem De{g:List O}{o:List P}{k:Bool->Prop}(r:Bool)(e:g[i]?=I (.list o))(t:g[j]?=I (.list []))(w:(!o.isEmpty)=r)(h:k r):bO (lq g .NotEq (.ref i)<|.ref j) k:=by show qn r ?_ h;change((g9 g<|.ref i).map P.lst).bind _=_;rw[kL e];change((g9 g<|.ref j).map P.lst).bind _=_;show(kL t)▸(w)▸?_;induction o<;>rfl
theorem aeQ{g:List O}{o:List P}{k:Bool->Prop}(r:Bool)(e:g[i]?=I (.list o))(t:g[j]?=I (.list []))(w:o.isEmpty=r)(h:k r):bO (lq g .Eq (.ref i)<|.ref j) k:=by show qn r ?_ h;change((g9 g<|.ref i).map P.lst).bind _=_;rw[kL e];change((g9 g<|.ref j).map P.lst).bind _=_;show(kL t)▸(w)▸?_;induction o<;>rfl
theorem xg{g:List cJ}(h:uc n H H')(m:cz g∈H):mX H' g=mX H g:=congrArg (cz g++·)<|h.dig m
theorem Dc{g:List cJ}:mX (pZ H<|cz g) g=mX H g:=congrArg (cz g++·) mK.2.2
structure Gp(R:Ro)(wc:Bool)(mo:Nat)(H0:List (List UInt8))(x:Yk)(p:List Nat):Prop extends Gr R wc mo (x.done++[x.cur]) where
 fl:(x.done++[x.cur]).flatten=p
 ne:x.cur=[]->x.done=[]
 ch:∀c∈x.done,c≠[]
 ext:uc x.done.length H0 x.H
 dl:x.done.length<=p.length
structure Due(R:Ro)(gk:List Nat):Prop where
 lt:∀k∈gk,k<R.n
 nd:gk.Nodup
 pre:B8 R.bs gk
variable{H0:List (List UInt8)}
section
variable {R:Ro}{x:Yk}{r:List Nat}{U:List O}
theorem Due.len(h:R.Ok)(D:Due R gk):gk.length<=4:=by have:=qm D.nd λx m=>cY.mpr<|D.lt x m;rw[cA]at this;show av this h.few
theorem G3(h:R.Ok)(S:SP cu U R wc x p)(Q:Ord R x.cur)(T:x.H.length<250)(hd:x.done.length<900)
  (Z:∀Y b lp ld H',SP cu Y R wc { x with b:=b,lp:=lp,ld:=ld,H:=H',done:=x.done++[x.cur],cur:=[] } p->uc 1 x.H H'->U.length<=b->ex (LV<|n+5) X (.cons (.asg (.loc 10)<|.call 429<|.cons (.loc 8)<|.cons (.loc 9)<|.cons (.loc 7) .nil) .nil) #[OA v0 cu x mo b v8 v9 v10 v11,Y] kk) :
  ex (LV<|n+5) X (.cons (.ex<|.bm .Add (.loc 6)<|.cons (.eN (.loc 7) 388 385 .nil) .nil)<|.cons (.asg (.loc 7)<|.call 388<|.cons (.loc 1)<|.cons (.loc 2)<|.cons (.loc 4) .nil)<|.cons (.asg (.loc 10)<|.call 429<|.cons (.loc 8)<|.cons (.loc 9)<|.cons (.loc 7) .nil) .nil) #[OA v0 cu x mo x.b v8 v9 v10 v11,U] kk:=by
 have t:=S.l0
 have v:=S.lb
 have a:=(kZ (wc:=wc) h Q).gz
 have e:(R.Z wc x.cur).length<=4:=by unfold Ro.Z;rw[ay];show Q.len h
 show aN (gf S.e6)<|aN (bF S.B.obj)<|AU S.B S.X T (by rw[jM.1];show aI e<|bz af) (by rw[jM.2];show dO [_] (V0+1) 900 V0 112 af a) λF w f=>?_
 have nd:∀{i},cu.length<=i->i∉[x.d]:=λh=>cX λg=>jX<|rj [_,_,_] 1 0 (V0+1) V1 V1 V2 V2 V0 af t.2.1 h<|ak g
 have C:=w.get S.e6<|nd<|eV _
 show j3 C<|aN (by rw[ay];show aW hd<|bz af) ?_
 have L:=@Keeps.set F (cu.length+1)<|.list<|x.done.map (λo=>.bytes<|mX x.H<|R.Z wc o)++[.bytes<|mX x.H<|R.Z wc x.cur]
 have A:=mK (H:=x.H) (c:=cz<|R.Z wc x.cur)
 have j:=f.keeps L (cX λg=>jX<|fZ [_,_] 1 0 (V0+1) V1 (V1+1) V0 af t.1<|ak g.symm)<|cX λg=>jX<|fZ [_,_] 1 0 (V0+1) V1 (V1+1) V0 af t.2.1<|ak g.symm
 show qU (L.get (w.get S.B.cod λm=>?_)<|cX λg=>jX<|fZ [_,_] 1 0 (V0+1) V1 (V1+1) V0 af t.2.2<|ak g.symm) λk lp ld D q r s=>?_
 ·have:=S.X.mw
  replace this:=(S.B.cod)▸(ah.mp m)▸this;cases this
 show ls af ?_
 have M:=iC C
 have ls:(F.set (cu.length+1)<|.list<|x.done.map (λo=>.bytes<|mX x.H<|R.Z wc o)++[.bytes<|mX x.H<|R.Z wc x.cur]).length=F.length:=cD ..
 show Z k _ lp ld (pZ x.H<|cz<|R.Z wc x.cur) #[((S.K.step w λy m y=>m).bG<|eV _).and D,j.keeps D ai ai,s,D.get (L.get (w.get S.e5<|nd<|aE _)<|cX<|aS<|bE _) ai,(D.get (cM C) ai).trans ?_,λo m=>?_,#[wu M ls.symm,aW (wu M ls.symm) q,aW (wu M ls.symm) r],t] A.1<|av w.len<|ak ls.symm
 ·show congrArg (λl=>I<|O.list l) ?_
  rw[aO]
  show congr (congrArg _<|cL λo m=>?_) ?_
  ·show congrArg P.bytes (xg A.1<|S.hb o m).symm
  ·show congrArg (λz=>[P.bytes z]) Dc.symm
 ·rcases aM.mp m with m|m
  ·show A.1.mem<|S.hb o m
  ·rw[ah.mp m];show A.2.1
end
section
variable {R:Ro}{x:Yk}{r:List Nat}{U:List O}
theorem Gp.add(G:Gp R wc mo H0 x p)(g:∀k b,R.bs k=I b->b<k)(o:∀j∈x.cur,R.bs j≠I k)(h:x.cur≠[]->16+gz (R.Z wc x.cur)+(R.ef wc x.cur k).size<=mo):Gp R wc mo H0 { x with cur:=x.cur++[k] }<|p++[k]:=
 #[G.toGr.more λz=>by rw[zC g o,nB,<- eE];show h z,by rw[<- G.fl,eG,eG,lP,lP,aJ],λz=>absurd z<|dS _<|fL _ _,G.ch,G.ext,by change x.done.length<=(p++[k]).length;rw[aj];show iA G.dl]
theorem Gp.agq{b:Nat}(G:Gp R wc mo H0 x p)(h:mo<16+gz (R.Z wc x.cur)+(R.ef wc x.cur k).size)(g:x.cur≠[])(o:uc 1 x.H H'):Gp R wc mo H0 { x with b:=b,lp:=lp,ld:=ld,H:=H',done:=x.done++[x.cur],cur:=[k] }<|p++[k]:=
 ⟨G.toGr.cut h,by
  show bS eG<|bS G.fl ?_;rfl,λz=>(zB z),λc m=>(aM.mp m).elim (G.ch c) λm=>by rw[ah.mp m];show g,by
  rw[aj];show G.ext.trans o,by
  show bS aj<|bS aj ?_;show fH G.dl 1⟩
structure SG(cu U:List O)(R:Ro)(wc:Bool)(mo:Nat)(H0:_)(x:Yk)(p:_):Prop extends SP cu U R wc x p,Gp R wc mo H0 x p
theorem Eh(G:Gp R wc mo H0 x p)(D:Due R gk)(e:gk=p++r):Ord R x.cur/\∀k o,r=k::o->k∉x.cur/\∀j∈x.cur,R.bs j≠I k:=by have fl:=G.fl;rw[eG,lP]at fl;have g:=(fl)▸e;show#[tL D.lt D.nd D.pre g,λk o z=>?_];replace g:=(z)▸g;have nd:=D.nd;rw[g]at nd;show#[λm=>(bA.mp nd).2.2 k (aG _ m) k (.head _) af,CE D.nd D.pre g]
theorem C3(h:R.Ok)(D:Due R gk)(e:gk=p++k::r)(S:SP cu U R wc x p)(G:Gp R wc mo H0 x p)(hH:H0.length<240)
  (W:∀Y b lp ld H' done cur v8 v9 v10 v11,SG cu Y R wc mo H0 { x with b:=b,lp:=lp,ld:=ld,H:=H',done:=done,cur:=cur } (p++[k])->kk .next #[OA v0 cu x mo b v8 v9 v10 v11,Y]) :
  ex (LV<|n+5) X nM.tl.tl.tl.bd.tl.tl #[OA v0 cu x mo x.b (ae<|.p (R.en wc k).val) (ae<|.p<|.bytes<|R.c k) v10 v11,U] kk:=by
 have y:=(Eh G D e).2 k r af
 have M:=(Eh G D e).1
 have w:=D.lt k<|bS e<|aG _<|.head _
 have kp:=λm=>by
  have:=D.nd
  rw[e]at this
  show(bA.mp this).2.2 k m k (.head _) af
 have I:=D.len h
 have I:=(aX)▸(aj)▸(e)▸I
 have C:=aI G.ext.len (by have:=G.dl;show rj [_,_,_,_] (V0+V1+1) 250 (V0+1) 240 (V2+(V3+1)) 4 V1 V2 af hH I this)
 have inj:=λj m z=>rZ h (D.lt j<|e▸aU _ m) w z
 show fy au af ?_
 show AF (λ_ h=>h) ?_
 show ss S.e5 af (by rw[DS];show aI (show p.length<=4 by show dO [_,_] V0 4 (V0+(V1+1)) 4 af I)<|bz af) λdH U' l1 e1=>?_
 have Y':=S.lb
 have Z:=S.l0
 have S1:SP cu dH R wc x<|p++[k]:=⟨S.K.step U' λi m hi=>absurd hi<|(ah.mp m)▸cP _,S.X.keeps U' (cX<|aS Z.1)<|cX<|aS Z.2.1,S.B.keeps U' (λi m=>cX (by
  rcases aC.mp m with rfl|m
  ·show λg=>jX<|fZ [_,_] 1 0 (V0+1+1) V1 V1 V0 af Y'.1<|ak g
  rcases aC.mp m with rfl|m
  ·show λg=>jX<|fZ [_,_] 1 0 (V0+1+1) V1 V1 V0 af Y'.2.1<|ak g
  rcases aC.mp m with rfl|m
  ·show λg=>jX<|fZ [_,_] 1 0 (V0+1+1) V1 V1 V0 af Y'.2.2<|ak g
  ·rw[ah.mp m];show λg=>jX<|fZ [_,_] 1 0 (V0+1) V1 V1 V0 af Z.2.2<|ak g.symm)),e1.trans<|congrArg (λd=>ae<|O.dict aB d)<|EM inj kp,U'.get S.e6<|cX<|bT<|bE _,S.hb,Y',Z⟩
 show QX h M w S1.B λeR K2=>?_
 have f:=S1.and K2
 show ls af<|bL f.B.obj af<|aN (bF f.B.obj)<|yh f.B (RX h w) (Lz (a:=0) h M) λgY K3=>?_
 have l:=f.and K3
 have ep:∀bk,(((R.ef wc x.cur k).piece bk).length:Int)=((R.ef wc x.cur k).size):=λbk=>bS cJ.mE af
 show bL l.X.obj af<|ls af ?_
 have last:(x.cur≠[]->16+gz (R.Z wc x.cur)+(R.ef wc x.cur k).size<=mo)->∀{J v8 v9 v11},SP cu J R wc x (p++[k])->ex (LV<|n+5) X (.cons (.ex<|.eN (.loc 7) 388 378<|.cons (.loc 10) .nil) .nil) #[OA v0 cu x mo x.b v8 v9 (ae<|.p (R.ef wc x.cur k).val) v11,J] kk:=λA {J v8 v9 v11} F=>
  CY h F M w y.1 y.2 λY Q T o t s=>W Y x.b x.lp x.ld x.H x.done (x.cur++[k]) Q T o t #[s,G.add h.lt y.2 A]
 by_cases A:mo<16+gz (R.Z wc x.cur)+(R.ef wc x.cur k).size
 ·show mT aB (decide_eq_true ?_) ?_
  ·change(mo)<((12+gz (R.Z wc x.cur):Nat):Int)+(((R.ef wc x.cur k).piece _).length:Nat)+4
   rw[ep];show(zl [_,_,_] (.c V0)<|.a (.a (.c<|12+V1)<|.c V2)<|.n 4).mpr<|dO [_,_,_] (V0+1) (12+V1+V2+4) (V0+1) (16+V1+V2) af A
  show bL l.B.obj af<|lz af ?_
  have K4:Keeps [] gY<|gY++[.list []]:=.app
  have F:=l.and K4
  have L:((pq [] 12<|R.Z wc x.cur).map P.bytes).isEmpty=x.cur.isEmpty:=by induction x.cur<;>rfl
  by_cases v:x.cur=[]
  ·show De au F.B.pq bJ (by rw[L];show(v)▸?_;rfl)<|last (λz=>absurd v z) F
  ·show De aB F.B.pq bJ (by rw[L];induction hx:x.cur with|nil=>show absurd hx v|cons _ _=>rfl) (G3 h F M C (aI G.dl<|show p.length<900 by show dO [_,_] (V0+1) 900 (V0+(V1+1)) 4 af I) λqu b lp ld H' s E5 _=>?_)
   have On:Ord R []:=#[λ_ m=>(cO m),bV,λp k q e=>by cases p<;>cases e]
   show QX h On w s.B λsL K6=>(ls af ?_)
   show CY h (s.and K6) On w ai (λ_ m=>(cO m)) λY Q T o t S7=>?_
   show W Y b lp ld H' (x.done++[x.cur]) [k] Q T o t #[S7,G.agq A v E5]
 ·show mT au (decide_eq_false ?_) ?_
  ·change ¬(mo)<((12+gz (R.Z wc x.cur):Nat):Int)+(((R.ef wc x.cur k).piece _).length:Nat)+4
   rw[ep];show gK.mpr<|(ze [_,_,_] (.a (.a (.c<|12+V0)<|.c V1)<|.n 4)<|.c V2).mpr<|dO [_,_,_] (12+V0+V1+4) V2 (16+V0+V1) V2 af<|m6 A
  show last (λ_=>cH.mp A) l
end
section
variable {R:Ro}{x:Yk}{r:List Nat}{U:List O}
theorem aa8:(R.en wc k).con=.bytes (R.c k)∨((R.en wc k).con=.none/\∃y,R.bs k=I y):=by
 unfold Ro.en cJ.con;induction R.bs k with
 |none=>show .inl af
 |some y=>
  induction wc with
  |true=>show .inl af
  |false=>show .inr #[rfl,y,rfl]
theorem JT(h:R.Ok)(D:Due R gk)(e:gk=p++k::r)(S:SG cu U R wc mo H0 x p)(A:H0.length<240)
  (F:∀Y b lp ld H' done cur v8 v9 v10 v11,SG cu Y R wc mo H0 { x with b:=b,lp:=lp,ld:=ld,H:=H',done:=done,cur:=cur } (p++[k])->kk .next #[OA v0 cu x mo b v8 v9 v10 v11,Y]) :
  ex (LV<|n+6) X nM.tl.tl.tl.bd #[OA v0 cu x mo x.b (I<|.p (R.en wc k).val) v9 v10 v11,U] kk:=by
 have o:=D.lt k<|bS e<|aG _<|.head _
 show ls af ?_
 rcases aa8 (k:=k)with z | ⟨z,y,t⟩
 ·rw[z]
  show nE au af<|C3 h D e S.toSP S.toGp A F
 ·show bS z ?_
  have a:=h.lt k y t
  have inj:=λj m w=>rZ h (D.lt j<|e▸aU _ m) (aW a o) w
  have eb:(R.en wc k).base=I (R.b2 y):=by unfold Ro.en;show bS (t) ?_;rfl
  have L:P.Ax aB (R.en wc k).bo=I (.b<|oN y):=by unfold cJ.bo;show bS eb ?_;rfl
  have M:=(xr (g:=λk=>V.p<|.bytes<|R.c k) inj).trans<|if_pos<|D.pre p k r e y t
  show nE aB af<|vL S.e5 L<|bS (M)<|lD (q:=.b<|oN y) S.e5 L M ?_
  change LV (n+6) 436 [.p<|.bytes<|R.c y,.p (R.en wc k).de] _ _
  rw[show(R.en wc k).de=.bytes (dl (R.c y).length<|R.c k)by unfold cJ.de;show bS eb ?_;rfl]
  show Ai (aW (h.c9 y<|aW a o)<|bz af) (aW (h.c9 k o)<|bz af) (h.c0 k o) λf d=>(ls af<|C3 h D e (S.toSP.and d) S.toGp A F)
theorem NS{Q:gT->List O->Prop}(h:R.Ok)(D:Due R gk)(S:SG cu U R wc mo H0 x gk)(q:H0.length<240)
  (r:∀Y H' o,Keeps [x.d] cu Y->bP Y x.h x.d H'->uc 5 H0 H'->Gr R wc mo o->o.flatten=gk->(gk≠[]->∀c∈o,c≠[])->(gk=[]->o=[[]])->(∀c∈o,cz (R.Z wc c)∈H')->Q (.ok<|.p<|.lst<|o.map λc=>.bytes<|mX H'<|R.Z wc c) Y) :
  ex (LV<|n+6) X nM.tl.tl.tl.tl #[OA v0 cu x mo x.b v8 v9 v10 v11,U] λf σ=>Q (.ok<|kJ f) σ.U:=by
 have Z:=(Eh S.toGp D (aY _).symm).1;have I:=D.len h;have dl:=S.dl;have fin:∀{L:List O},SP cu L R wc x gk->ex (LV<|n+6) X (.cons (.ex<|.bm .Add (.loc 6)<|.cons (.eN (.loc 7) 388 385 .nil) .nil) .nil) #[OA v0 cu x mo x.b v8 v9 v10 v11,L] λf σ=>match f with | .next=>ex (LV<|n+6) X (.cons (.ret<|.fz<|.loc 6) .nil) σ λf σ=>Q (.ok<|kJ f) σ.U|f=>Q (.ok<|kJ f) σ.U:=λ{L} g=>by
  have s:=(kZ (wc:=wc) h Z).gz;have y:(R.Z wc x.cur).length<=4:=by unfold Ro.Z;rw[ay];show Z.len h
  have t:=S.l0;show aN (gf g.e6)<|aN (bF g.B.obj)<|AU g.B g.X (aI S.ext.len<|rj [_,_,_] (V0+V1+1) 250 (V0+1) 240 V2 4 V1 V2 af q I dl) (bS jM.1<|aI y<|bz af) (by rw[jM.2];show dO [_] (V0+1) 900 V0 112 af s) λeR e C=>?_;have k:=e.get g.e6<|cX λM=>jX<|fZ [_,_] 1 0 (V0+1) V1 (V1+1) V0 af t.2.1<|ak M;show j3 k<|aN (by rw[ay];show aI (show x.done.length<=4 by show fZ [_,_] V0 4 V1 4 V0 V1 af I dl)<|bz af)<|yv (λ_ h=>h)<|ua (cM k) ?_;have A:=mK (H:=x.H) (c:=cz<|R.Z wc x.cur);have J:x.done.map (λU'=>P.bytes<|mX x.H<|R.Z wc U')++[.bytes<|DN x.H<|pq [] 12<|R.Z wc x.cur]=(x.done++[x.cur]).map λc=>P.bytes<|mX (pZ x.H<|cz<|R.Z wc x.cur)<|R.Z wc c:=by
   rw[aO];show congr (congrArg _<|cL λU' m=>?_) ?_
   ·show congrArg P.bytes (xg A.1<|g.hb U' m).symm
   ·show congrArg (λz=>[P.bytes z]) Dc.symm
  show bS J ?_;have F:∀{i},i<cu.length->i∉[cu.length+1]:=λT=>cX λM=>jX<|fZ [_,_] 1 0 (V0+1) V1 (V1+1) V0 af T<|ak M.symm;show r _ _ (x.done++[x.cur]) (((g.K.step e λ_ m _=>m).bG<|eV _).bG<|eV _) ((C.keeps Keeps.set (F t.1)<|F t.2.1).keeps Keeps.set (F t.1)<|F t.2.1) ((S.ext.trans A.1).mono<|fZ [_,_] (.a (.v 0)<|.n 1) (.n 5) (.v 1) (.n 4) (.v 0) (.v 1) af I dl) S.toGr S.fl (λhd c m=>?_) (λhd=>?_) λc m=>?_
  ·rcases aM.mp m with m|m
   ·show S.ch c m
   ·rw[ah.mp m];intro z;have fl:=S.fl;rw[z,S.ne z]at fl;show hd fl.symm
  ·have fl:=S.fl;rw[hd,eG,lP]at fl;have:=(jj.mp fl).2;show(this)▸?_;show bS (S.ne this) ?_;rfl
  ·rcases aM.mp m with m|m
   ·show A.1.mem<|g.hb c m
   ·show bS (ah.mp m) A.2.1
 show bL S.B.obj af<|lz af ?_;have g:=S.toSP.and<|Keeps.app (j:=[.list []]);have w:((pq [] 12<|R.Z wc x.cur).map P.bytes).isEmpty=x.cur.isEmpty:=by induction x.cur<;>rfl
 by_cases Y':x.cur=[]
 ·show De au g.B.pq bJ (by rw[w];show(Y')▸?_;rfl)<|lz af ?_;have l:=g.and<|Keeps.app (j:=[.list []]);show aeQ aB l.e6 bJ (by show bS (S.ne Y') ?_;rfl)<|fin l
 ·show De aB g.B.pq bJ (by rw[w];induction W:x.cur with|nil=>show absurd W Y'|cons _ _=>rfl)<|fin g
end
theorem FY{n mo:Nat}{R:Ro}{wc:Bool}{ks:List Nat}{A:List O}{Q:gT->List O->Prop}(v:R.Ok)(x:Srt (R.en wc) R.bs ks)(Z:∀k∈ks,k<R.n)(X:bP A h d H0)(y:A[ci]?=I (.inst 748 []))(B:H0.length<240)
  (W:∀Y H' o,Keeps [d] A Y->bP Y h d H'->uc 5 H0 H'->Gr R wc mo o->o.flatten=fF R.bs [] ks->(ks≠[]->∀c∈o,c≠[])->(ks=[]->o=[[]])->(∀c∈o,cz (R.Z wc c)∈H')->Due R (fF R.bs [] ks)->Q (.ok<|.p<|.lst<|o.map λc=>.bytes<|mX H'<|R.Z wc c) Y):LV (n+7) 422 [.p<|.lst<|ks.map<|vl<|R.en wc,.ref h,.ref ci,nV mo] A Q:=by
 show enter (loc:=[I<|.p<|.lst<|ks.map<|vl<|R.en wc,I<|.ref h,I<|.ref ci,I<|nV mo,I<|.p<|.bool aB,az,az,az,az,az,az,az]) af af af ?_;have lh:=iC X.obj;have ld:=iC X.mw;have lc:=iC y;show Dr λM K1 F e1=>(ls af<|HQ λL C U H=>(ls af ?_));have F:=F;have U:L.length=M.length+1:=U;change ex _ _ _ #[[_,_,_,_,_,_,I<|.ref M.length,_,_,_,_,_],_] _;rw[F]at H ⊢;have i:=K1.and C;show qU (i.get y ai) λgY lp Y' K3 j s B3=>?_;have j:L.length<lp:=j;have s:L.length<Y':=s;show ls af<|xP x λJ K nd sub cl=>?_;have T:=(xK x.lt (ks:=ks) (f:=[]) λp k q e=>by cases p<;>cases e);have D:Due R<|fF R.bs [] ks:=#[λk m=>Z k<|sub k m,nd,T.1];have g:Keeps [] L J:=K3.and K;have S0:SG A J R wc mo H0 #[h,d,ci,L.length,lp,Y',H0,[],[]] []:=#[#[(i.and g).none,X.keeps (i.and g) ai ai,B3.keeps K λ_ _=>ai,g.get (C.get e1 ai) ai,g.get H ai,λ_ m=>(nomatch m),#[by show fZ [_,_,_] (V0+1+1) V1 (V0+1) V2 (V2+1) V1 af (ak F.symm)<|ak U.symm,by change _<lp;show rj [_,_,_,_] (V0+1+1) V1 (V0+1) V2 (V2+1) V3 (V3+1) V1 af (ak F.symm) (ak U.symm) j,by change _<Y';show rj [_,_,_,_] (V0+1+1) V1 (V0+1) V2 (V2+1) V3 (V3+1) V1 af (ak F.symm) (ak U.symm) s],lh,ld,lc],#[#[λc m z=>by rw[ah.mp m]at z;show absurd z<|fc _,λp a b q e=>(Am (l:=[]) e).elim (λz=>absurd z.1.symm<|dS _<|fL _ _) λEx=>by obtain⟨_,z⟩:=Ex;show absurd z.symm<|dS _<|fL _ _],rfl,λ_=>rfl,λ_ m=>(nomatch m),.refl,aE _]];show lG (vl<|R.en wc) (λt=>OA (I<|.p<|.lst<|ks.map<|vl<|R.en wc) A #[h,d,ci,t.1.1,t.1.2.1,t.1.2.2.1,t.1.2.2.2.1,t.1.2.2.2.2.1,t.1.2.2.2.2.2] mo t.1.1 t.2.1 t.2.2.1 t.2.2.2.1 t.2.2.2.2) (λp t M=>SG A M R wc mo H0 #[h,d,ci,t.1.1,t.1.2.1,t.1.2.2.1,t.1.2.2.2.1,t.1.2.2.2.2.1,t.1.2.2.2.2.2] p) (λp a r e t M kk I' Z=>?_) ((L.length,lp,Y',H0,[],[]),az,az,az,az) S0 λt qu I'=>?_
 ·show ls af<|JT v D e I' B λY b lp ld H' done cur v8 v9 v10 v11 S'=>(Z ((b,lp,ld,H',done,cur),v8,v9,v10,v11) Y S').1
 ·show NS v D I' B λY H' o K' X' E' G' fl ne mt hb=>W Y H' o K' X' E' G' fl (λz=>ne λw=>by
   induction ks with
   |nil=>show z af
   |cons a r=>have:=T.2.2 a<|.head _;replace this:=(w)▸this;show cO this) (λz=>mt<|by rw[z];rfl) hb D
noncomputable def GU(pre:List UInt8):List (List UInt8)->List (List UInt8)
 |[]=>[]
 |h::t=>(pre++h)::t
def UE(c:UInt8)(l:List UInt8):List<|List UInt8:=l.foldr (λx k=>if x=c then []::k else GU [x] k) [[]]
noncomputable def PX(c:UInt8)(k:Nat)(l:List UInt8):List Nat:=l.foldr (λx f k=>if x=c then k::f (k+1) else f (k+1)) (λw=>[]) k
theorem Yy{c x:UInt8}{r:List UInt8}:UE c (x::r)=if x=c then []::UE c r else GU [x] (UE c r):=rfl
theorem Pz{c x:UInt8}{r:List UInt8}:PX c k (x::r)=if x=c then k::PX c (k+1) r else PX c (k+1) r:=rfl
theorem M4{a:List UInt8}{l:List<|List UInt8}:GU a (GU b l)=GU (a++b) l:=by
 induction l with
 |nil=>rfl
 |cons h t=>change(a++(b++h))::t=_;rw[<- aJ];rfl
theorem Gf{l:List<|List UInt8}:GU [] l=l:=by induction l<;>rfl
theorem P4{c:UInt8}{r:List UInt8}:∀{l:List UInt8},c∉l->UE c (l++c::r)=l::UE c r:=by
 intro l;induction l with
 |nil=>intro _;show if_pos af
 |cons x l g=>intro h;show bS cT<|bS Yy<|bS (if_neg λe=>h<|by show(e)▸.head _)<|bS (g λm=>h<|.tail _ m) ?_;rfl
theorem Mv{c:UInt8}:∀{ls:List<|List UInt8},(∀l∈ls,c∉l)->UE c (ls.map (·++[c])).flatten=ls++[[]]:=by
 intro ls;induction ls with
 |nil=>intro _;show af
 |cons l ls g=>intro h;rw[bK,fT,aJ];show(P4<|h l<|.head _).trans (congrArg (l::·)<|g λx m=>h x<|.tail _ m)
theorem af1{x c:UInt8}{r:List UInt8}(e:b.drop i=x::r):(b.toArray.extract i (i+(#[c]:Array UInt8).size)==#[c])=decide (x=c):=by
 have:b.toArray.extract i (i+(#[c]).size)=#[x]:=by rw[HX];change((b.drop i).take<|i+1-i).toArray=_;rw[e,dW];rfl
 rw[this];by_cases h:x=c
 ·show h▸bS (decide_eq_true af) (beq_self_eq_true _)
 ·rw[decide_eq_false h];show beq_eq_false_iff_ne.mpr λz=>h (by injection z with z;injection z)
theorem RA{b:List UInt8}{c:UInt8}:∀{m k:Nat}{acc:List Nat}{a:Nat},k+m=b.length->a<=k->
  ((ack k m).foldl (λ(acc:List Nat×Nat) (i:Nat)=>if i ≥ acc.2&&b.toArray.extract i (i+(#[c]).size)==#[c] then (i::acc.1,i+(#[c]).size) else acc) (acc,a)).1=(PX c k<|b.drop k).reverse++acc:=by
 intro m;induction m with
 |zero=>intro k acc a h _;show bS (Fw<|ak h.symm) ?_;rfl
 |succ m g=>
  intro k acc a h o;have t:k<b.length:=(dO [_,_,_] (.a (.v 0)<|.n 1) (.v 1) (.a (.v 0)<|.a (.v 2)<|.n 1) (.v 1) af<|ak h);rw[yI,gv,af1<|gA t,decide_eq_true<|o,Xx,gA  t,Pz];by_cases e:b[k]=c
  ·rw[if_pos<|decide_eq_true e,if_pos e];show(g (k:=k+1) ((Fg ..).trans h)<|aE _).trans ?_;rw[lJ,aJ];rfl
  ·rw[if_neg<|by rw[decide_eq_true_iff];show e,if_neg e];show g ((Fg ..).trans h)<|dP o
theorem ab6{c:UInt8}:mZ b.toArray #[c] 0 b.length=PX c 0 b:=by have:=RA (b:=b) (c:=c) (acc:=[]) (a:=0) (eY _)<|aE _;rw[oX,aY]at this;show sB (HY<|PX c 0 b)<|sB (this) ?_;show congrArg List.reverse<|congrArg (λl=>(List.foldl _ (([]),0) l).1) ?_;change(List.range<|b.length+1-(0+1)).map (· + 0)=_;rw[eY,kX,List.range_eq_range'];show List.map_id' _
theorem xW:(b.toArray.extract i k).toList=(b.drop i).take (k-i):=bS HX af
theorem Sm{b:List UInt8}{c:UInt8}:∀{n k:Nat}{parts:Array<|Array UInt8}{last:Nat},b.length-k=n->last<=k->k<=b.length->
  ((((PX c k<|b.drop k).foldl (λ(q:Array (Array UInt8)×Nat) p=>(q.1.push<|b.toArray.extract q.2 p,p+1)) (parts,last)).1.push<|b.toArray.extract ((PX c k<|b.drop k).foldl (λ(q:Array (Array UInt8)×Nat) p=>(q.1.push<|b.toArray.extract q.2 p,p+1)) (parts,last)).2 b.toArray.size).toList).map lH=parts.toList.map lH++GU ((b.drop last).take<|k-last) (UE c<|b.drop k):=by
 intro n;induction n with
 |zero=>intro k parts last h g t;have e:k=b.length:=(di (dO [_,_] (.v 0) (.v 1) (.v 0) (.v 1) af t)<|fZ [_,_,_] (.v 0) (.v 1) (.v 2) (.n 0) (.v 0) (.a (.v 2)<|.v 1) af (ak h)<|oJ _ _);subst e;show bS yH ?_;change((parts.push<|b.toArray.extract last b.length).toList).map lH=_++[_++[]];rw[lI,aO,aY,dR,xW]
 |succ n w=>
  intro k parts last h g t;have o:k<b.length:=(fZ [_,_,_,_] (.a (.v 0)<|.n 1) (.v 1) (.a (.v 2)<|.n 1) (.v 3) (.a (.v 3)<|.v 0) (.v 1) af (ak h.symm)<|k8<|dO [_,_] (.v 0) (.v 1) (.v 0) (.v 1) af t);show bS (gA o)<|bS Pz<|bS Yy ?_;by_cases e:b[k]=c
  ·rw[if_pos e,if_pos e,gv,w (congrArg Nat.pred h) (aE _) o,lI,aO,dR,xW,jV,Uy,Gf,aJ];change _++(_::_)=_++((_++[])::_);rw[aY];rfl
  ·show bS (if_neg e)<|bS (if_neg e)<|bS (w (congrArg Nat.pred h) (dP g) o)<|bS M4 ?_;show congrArg (_++GU · _) ?_;show bS (Nat.succ_sub g)<|bS List.take_succ<|bS uW<|bS (j7 g)<|bS (bD o) ?_;rfl
theorem WW{c:UInt8}:j2 b c=UE c b:=by
 have key:=Sm (b:=b) (c:=c) (k:=0) (parts:=#[]) af (aE _)<|dU _;replace key:=(Gf)▸(Uy)▸(oX)▸key;have o:(PX c 0 b).length<=b.length+1:=by
  have:∀{b:List UInt8}{k},(PX c k b).length<=b.length:=by
   intro b;induction b with
   |nil=>show λ{_}=>aE _
   |cons x r g=>
    intro k;rw[Pz];by_cases e:x=c
    ·show bS (if_pos e)<|cU g
    ·show bS (if_neg e)<|dP g
  show dP this
 unfold j2;show(ab6)▸?_;show bS (Fx o) ?_;induction e:PX c 0 b with
 |nil=>rw[if_pos<|show([]).isEmpty=aB from rfl];rw[e]at key;show Eq.trans ?_ key;change [b]=[(b.toArray.extract 0 b.length).toList];rw[xW,oX,xZ,qI]
 |cons _ _=>show bS (if_neg<|aD)<|sB (e) key
def abp(w:List UInt8):Prop:=w≠[]/\∀c∈w,fJ c=au
def jn(g:List<|List UInt8):List UInt8:=eg [32] g
noncomputable def jt(l:List<|List UInt8):List UInt8:=l.foldr (λw t=>32::(w++t)) []
variable{w:List UInt8}
theorem abw{r:List<|List UInt8}:jt (w::r)=32::(w++jt r):=rfl
theorem tN{r:List<|List UInt8}:jn (w::r)=w++jt r:=by
 show congrArg (w++·) ?_;induction r with
 |nil=>rfl
 |cons x r g=>rw[iN,g];rfl
set_option backward.match.sparseCases true in
theorem Bc{ws:List<|List UInt8}{fuel left:Nat}(h:∀w∈ws,abp w)(o:ws.length<fuel)(A:ws.length<=left):Builtin.Bytes.words fuel left (jt ws)=ws:=by
 induction ws generalizing fuel left with
 |nil=>induction fuel with
  |zero=>show absurd o<|fc _
  |succ fuel=>rfl
 |cons w r F=>
  obtain⟨fuel,rfl⟩:=zV<|bT<|aI (dU _) o;obtain⟨left,rfl⟩:=zV<|bT<|aH (iT _) A;have g:=h w<|.head _;have f:∀t,(w++t).dropWhile fJ=w++t:=λt=>by
   induction e:w with
   |nil=>show absurd e g.1
   |cons c d=>rw[cT,uy,g.2 c<|(e)▸.head _,if_neg aD]
  have D:∀c∈w,(!Builtin.Bytes.isSpace c)=aB:=λc m=>by rw[g.2 c m];rfl
  rw[vK,abw,uy,if_pos<|show fJ 32=aB from rfl,f];have L:w++jt r≠[]:=λz=>g.1 (jj.mp z).1;have M:(w++jt r).takeWhile (!Builtin.Bytes.isSpace ·)=w:=by rw[List.takeWhile_append_of_pos D];induction r<;>show aY w
  have R:(w++jt r).dropWhile (!Builtin.Bytes.isSpace ·)=jt r:=by rw[List.dropWhile_append_of_pos D];induction r<;>rfl
  have U:∀l:List UInt8,l≠[]->l.takeWhile (!Builtin.Bytes.isSpace ·)=w->l.dropWhile (!Builtin.Bytes.isSpace ·)=jt r->(match l with | []=>[] | rest=>if (left+1==0)=aB then [rest] else rest.takeWhile (!Builtin.Bytes.isSpace ·)::Builtin.Bytes.words fuel (left+1-1) (rest.dropWhile (!Builtin.Bytes.isSpace ·)))=w::r:=λl Y Z b=>by
   induction l with
   |nil=>show absurd af Y
   |cons a l=>change(if (left+1==0)=aB then [a::l] else (a::l).takeWhile (!Builtin.Bytes.isSpace ·)::Builtin.Bytes.words fuel left ((a::l).dropWhile (!Builtin.Bytes.isSpace ·)))=_;rw[if_neg<|by show aD,Z,b,F (λx m=>h x<|.tail _ m) (Nat.lt_of_succ_lt_succ o)<|Nat.le_of_succ_le_succ A]
  show U _ L M R
theorem QL:∀{ws:List<|List UInt8},ws.length<=(jt ws).length:=by
 intro ws;induction ws with
 |nil=>show aE _
 |cons w r g=>rw[abw,aX,aX,aj];show cU<|av g<|Nat.le_add_left _ _
theorem adP{r:List<|List UInt8}(h:∀x∈w::r,abp x):mO (jn (w::r))=w::r:=by
 have o:jn (w::r)≠[]:=(tN)▸λz=>(h w<|.head _).1 (jj.mp z).1;have e:Builtin.Bytes.words ((jn (w::r)).length+1) ((jn (w::r)).length+1) (jn (w::r))=w::r:=by
  have g:=Bc (fuel:=(jn (w::r)).length+2) (left:=(jn (w::r)).length+1) h;have z:(jt (w::r)).length=(jn (w::r)).length+1:=by rw[tN];rfl
  have l:=QL (ws:=w::r);replace l:=(z)▸l;have g:=Bc (ws:=w::r) h (qe l) l;show Eq.trans ?_<|Bc (fuel:=(jn (w::r)).length+1) h ?_ l
  ·rw[vK,vK,tN,abw,uy,if_pos<|show fJ 32=aB from rfl]
  ·have:w.length≠0:=λz=>(h w<|.head _).1<|gX.mp z;have:=QL (ws:=r);show(tN)▸(aj)▸(aX)▸?_;lia
 unfold mO;by_cases b:(!(jn (w::r)).isEmpty&&!(jn (w::r)).any fJ)=aB
 ·rw[if_pos b];induction r with
  |nil=>show(tN)▸congrArg (·::[]) (aY w)
  |cons x r=>show absurd (fg ..▸b).2 ?_;rw[tN,List.any_append,show(jt (x::r)).any fJ=aB from rfl,Bool.or_true];show aD
 ·rw[if_neg b];show e
noncomputable def AG(n:Nat):Nat:=if n<10 then 48+n else 87+n
def hx2(x:UInt8):List Nat:=[AG<|x.toNat/16,AG<|x.toNat%16]
def mY(b:List UInt8):List Nat:=b.flatMap hx2
noncomputable def pH(s:List Nat):List UInt8:=s.map aP
noncomputable abbrev Yq:List Nat:=[48,49,50,51,52,53,54,55,56,57,97,98,99,100,101,102]
theorem Pe:((List.range 256).all λn=>Ac Yq ((n:Int).fdiv<|2^(4:Int).toNat)==I (AG<|n/16)&&Ac Yq (dj (n:Int) 15)==I (AG<|n%16)
  && Ac (Yq.map aP) (((n:Int).fdiv<|(16)^(1:Int).toNat).fmod 16)==I (aP<|AG<|n/16)&&Ac (Yq.map aP) (((n:Int).fdiv<|(16)^(0:Int).toNat).fmod 16)==I (aP<|AG<|n%16)
  && decide (AG (n/16)<128)&&decide (AG (n%16)<128))=aB:=by decide +kernel
theorem P1(x:UInt8):Ac Yq ((x.toNat:Int).fdiv<|2^(4:Int).toNat)=I (AG<|x.toNat/16)/\Ac Yq (dj (x.toNat:Int) 15)=I (AG<|x.toNat%16)
  /\ Ac (Yq.map aP) (((x.toNat:Int).fdiv<|(16:Int)^(1:Int).toNat).fmod 16)=I (aP<|AG<|x.toNat/16)/\Ac (Yq.map aP) (((x.toNat:Int).fdiv<|(16:Int)^(0:Int).toNat).fmod 16)=I (aP<|AG<|x.toNat%16)
  /\ AG (x.toNat/16)<128/\AG (x.toNat%16)<128:=by have:=cQ.mp Pe x.toNat<|cY.mpr x.toNat_lt;simp only[fg,beq_iff_eq,decide_eq_true_eq]at this;show#[this.1.1.1.1.1,this.1.1.1.1.2,this.1.1.1.2,this.1.1.2,this.1.2,this.2]
theorem KU{g:List O}{s:List Nat}{i:Int}{z:Nat}{k:V->Prop}(e:Ac s i=I z)(h:k<|.p<|.str [z]):bO (yT g (.p<|.str s)<|.p<|.int i) k:=by show bq ?_ h;change(Ac s i).map _=_;show bS (e) ?_;rfl
theorem Gx{g:List O}{s:List UInt8}{i:Int}{k:V->Prop}(e:Ac s i=I z)(h:k<|.p<|.int z.toNat):bO (yT g (.p<|.bytes s)<|.p<|.int i) k:=by show bq ?_ h;change(Ac s i).map _=_;show bS (e) ?_;rfl
theorem qy{b:List UInt8}:(mY b).length=2*b.length:=by
 induction b with
 |nil=>rfl
 |cons x b g=>change(hx2 x++mY b).length=_;rw[aj,g,aX,zR,iy];rfl
theorem Qq{ps:List<|List Nat}:jr P.AO (ps.map P.str)=I ps:=by have:=j1 (f:=P.AO) (g:=P.str) (h:=id) (L:=ps) λZ Z=>rfl;rwa [p8]at this
theorem V6{g:List O}{ps:List<|List Nat}{k:List (List Nat)->Prop}(e:g[i]?=I (.list<|ps.map .str))(h:k ps):bO (((one [V.ref i]).bind<|g9 g).bind<|jr P.AO) k:=by show bq ?_ h;change(g9 g<|.ref i).bind _=_;show bS (kL e) Qq
theorem NN{s:List α}:(s.map λc=>[c]).flatten=s:=by
 induction s with
 |nil=>rfl
 |cons c s g=>show congrArg (c::·) g
section
variable {U:List O}
theorem CM(o:b.length<100)(L:∀Y,Keeps [] U Y->Q (.ok<|.p<|.str<|mY b) Y):LV (k+1) 119 [.p<|.bytes b] U Q:=by
 show enter af af af ?_;show HQ λZ M a R=>(ls af ?_);have i:∀{p:List UInt8}{x:UInt8},((mY p).map λc=>P.str [c])++[.str [AG<|x.toNat/16]]++[.str [AG<|x.toNat%16]]=(mY<|p++[x]).map λc=>P.str [c]:=λ{p x}=>by unfold mY;rw[uz,aO,aJ];rfl
 show lG (λx:UInt8=>P.int x.toNat) (λt=>[I<|.p<|.bytes b,I<|.ref U.length,t]) (λp d g=>Keeps [] U g/\g[U.length]?=I (.list<|(mY p).map λc=>.str [c])) (λp x r e t g kk f j=>?_) A #[M,R] λt g f=>?_
 ·have D:=P1 x;have F:(mY p).length<200:=by rw[qy];rw[e,aj]at o;show dO [_,_] ((lm 2 V0)+1) 200 (lm 2<|V0+V1+1) (lm 2 100) af (bW 2 o)
  show ls af<|aN (gf f.2)<|aN (by decide)<|KU D.1<|j3 f.2<|aN (by rw[ay];show aW F<|bz af) ?_;have h:=cM (o':=.list<|((mY p).map λc=>P.str [c])++[.str [AG<|x.toNat/16]]) f.2;show aN (gf h)<|KU D.2.1<|j3 h<|aN (by rw[aj,ay];show aW (jW F)<|bz af)<|(j (I<|.p<|.int x.toNat) _ #[(f.1.bG<|aE _).bG<|aE _,(cM h).trans<|by rw[i]]).1
 ·show aN af<|V6 (bS bw f.2) ?_;unfold aaL;show bS nJ<|bS NN ?_;show aN #[c6 af,?_]<|L g f.1;rw[qy];show av (show 2*b.length<=200 by show dO [_] (lm 2 V0) 200 (lm 2<|V0+1) (lm 2 100) af<|bW 2 o)<|c6 af
theorem II(g:∀Y,Keeps [] U Y->Q (.ok<|.p<|.str [98,108,111,98]) Y):LV (k+1) 107 [.p blob] U Q:=by
 show enter af af af ?_;have st:(0:Int)<=98/\(98:Int)<256:=by decide
 show aN af ?_;show ls af<|aN st<|ls af ?_;show ls af<|aN (by decide)<|ls af ?_;show ls af<|aN (by decide)<|ls af ?_;show ls af<|aN (by decide)<|ls af ?_;show V6 (ps:=[[98],[108],[111],[98]]) bJ<|aN #[c6 af,c6 af]<|g _ .app
theorem JM{s:List Nat}(F:∀c∈s,c<128)(L:s.length<100000)(M:∀Y,Keeps [] U Y->Q (.ok<|.p<|.bytes<|pH s) Y):LV (k+1) 112 [.p<|.str s] U Q:=by
 show enter af af af<|xD (I:=λσ=>∃v,σ=#[[ae<|.p<|.str s,A,A,v],U]) (f:=λp=>match p with | .str [c]=>.int c|p=>p) (λx m R σ kk h d D=>?_) (by rw[ay];show av (fO L)<|c6 af) #[_,rfl] λZ d=>?_
 ·obtain⟨v,rfl⟩:=d;show gO m λc a j=>?_;subst j;show ls af<|aN h<|D _ #[_,rfl]
 ·obtain⟨v,rfl⟩:=d;show bS bw (ua (i:=U.length) bJ<|ls af<|lG (λ(c:Nat)=>P.int c) (λt=>[ae<|.p<|.str s,ae<|.p<|.lst<|s.map λ(c:Nat)=>.int c,t]) (λp b g=>g=(U++[O.list<|s.map λ(c:Nat)=>P.int c]).set U.length O.gone) (λp x r e t g kk I D=>?_) A af λt g I=>?_)
  ·have:=F x<|e▸aG _ (.head _);show ls af<|mT au (decide_eq_false<|by lia)<|(D _ g I).1
  ·show xu ?_<|M g<|bS I<|Keeps.bG (o:=.gone) (Keeps.app)<|aE _;show j1 λc m=>by have:=F c m;rw[kh (x:=(c)) #[(bj _),((zl [_] (.c V0)<|.n 256).mpr<|dO [_] (V0+1) 256 (V0+1) 128 af this)]];rfl
theorem A7(A:b.length<100)(R:∀Y,Keeps [] U Y->Q (.ok<|.p<|.bytes<|pH<|mY b) Y):LV (k+1) 764 [.p<|.bytes b] U Q:=by
 show enter af af af ?_;have L:∀{r p:List UInt8}{v1 v2:Option V}{step:P->List P->St->(List P->St->Prop)->Prop}{kk:List P->St->Prop},(∀(x:UInt8) g v1 v2 kk,g.length<200->kk (g++[.int (aP<|AG<|x.toNat/16).toNat]++[.int (aP<|AG<|x.toNat%16).toNat]) #[[I<|.p<|.bytes b,I<|.p<|.int x.toNat,I<|.p<|.int 0],U]->step (.int x.toNat) g #[[I<|.p<|.bytes b,v1,v2],U] kk)->b=p++r->(∀v1 v2,kk ((mY b).map λc=>.int (aP c).toNat) #[[I<|.p<|.bytes b,v1,v2],U])->j0 step (r.map λx=>P.int x.toNat) ((mY p).map λc=>.int (aP c).toNat) #[[I<|.p<|.bytes b,v1,v2],U] kk:=by
  intro r;induction r with
  |nil=>intro p v1 v2 step kk o e t;show(e.trans<|aY p)▸t v1 v2
  |cons x r M=>intro p v1 v2 step kk o e t;show bS bK ?_;show oO<|o x _ v1 v2 _ (by rw[ay,qy];rw[e,aj,aX]at A;show dO [_,_] ((lm 2 V0)+1) 200 (lm 2<|V0+(V1+1)+1) (lm 2 100) af<|bW 2 A) ?_;have:=M (p:=p++[x]) (v1:=I<|.p<|.int x.toNat) (v2:=I<|.p<|.int 0) o (by rw[e,aJ];rfl) t;unfold mY at this ⊢;rw[uz,aO]at this;rw[aJ];show this
 show L (p:=[]) (λx g v1 v2 kk D h=>?_) af λv1 v2=>?_
 ·have F:=P1 x;show ls af<|lz af ?_;show ls af<|aN #[rfl,.inr af]<|aN (by decide)<|aN (by decide) ?_;show Gx F.2.2.1<|aN (aW D<|bz af) ?_;show ls af<|aN #[rfl,.inl af]<|aN (by decide)<|aN (by decide) ?_;show Gx F.2.2.2.1<|aN (bS aj (aW<|jW D)<|bz af) h
 ·show kD bJ ?_<|R _ .app;show j1 λc m=>by have:=(aP c).toNat_lt;rw[kh #[(bj _),by lia]];show congrArg I<|Mp
end
theorem JZ:((List.range 150).all λn=>(gq (n:Nat)).all (λc=>iG 48 c&&iG c 57)&&iG 1 (gq (n:Nat)).length&&iG (gq (n:Nat)).length 3)=aB:=by decide +kernel
theorem j4(h:n<150):(∀c∈gq (n:Int),48<=c/\c<=57)/\1<=(gq (n:Int)).length/\(gq (n:Int)).length<=3:=by have:=cQ.mp JZ n<|cY.mpr h;simp only[fg]at this;show#[λc m=>by have:=cQ.mp this.1.1 c m;simp only[fg]at this;show#[bZ this.1,bZ this.2],bZ this.1.2,bZ this.2]
theorem Ba{i:Int}(e:i=n)(g:n<150):(-1000000000<i/\i<1000000000)/\(gq i).length<=gr:=by subst e;show#[#[f9 (by decide)<|bj n,((zl [_] (.c V0)<|.n 1000000000).mpr<|dO [_] (V0+1) 1000000000 (V0+1) 150 af g)],av (j4 g).2.2<|c6 af]
def jN(g:List<|List Nat):List Nat:=eg [32] g
variable{ws:List (List Nat)}
theorem PL(h:∀w∈ws,w.length<=B):(jN ws).length<=(B+1)*ws.length:=by
 induction ws with
 |nil=>show aE _
 |cons w r g=>
  have a:=h w<|.head _;induction r with
  |nil=>change(w++[]).length<=(B+1)*1;rw[aY,zS];show dP a
  |cons x r=>change(eg [32] (w::x::r)).length<=_;rw[iO,aj,aj,aX (as:=x::r),zR];show av (gP (cU a)<|g λy m=>h y<|.tail _ m)<|by rw[zS,iy];show aE _
noncomputable def mu(g:List cJ)(a:Nat):List<|List Nat:=[mY (eu g a).o,[98,108,111,98],gq (eu g a).raw.length,gq (eu g a).size,gq a]++(match nt g a with
 |none=>[]
 |some q=>[gq<|lS g a,mY (eu g q).o])
def u6(g:List Nat)(d:Nat):List<|List Nat:=if d=0 then [[119,104,111,108,101,58],gq (g.filter (· = d)).length] else [[99,104,97,105,110],[111,102],gq d++[58],gq (g.filter (· = d)).length]
def mx(g:List Nat):Nat:=(xQ (-1::g.map λ(n:Nat)=>(n))+1).toNat
def sV(g:List cJ):List<|List<|List Nat:=(cf g).map (mu g)++(List.range<|mx<|(cf g).map<|lS g).map (u6<|(cf g).map<|lS g)
theorem fold_max{B:Int}:∀{l:List Int}{x:Int},x<=B->(∀y∈l,y<=B)->l.foldl max x<=B/\x<=l.foldl max x:=by
 intro l;induction l with
 |nil=>intro x h _;show#[h,acV _]
 |cons y l o=>intro x h g;have:=o (Int.max_le.mpr #[h,g y<|.head _]) λz m=>g z<|.tail _ m;show#[this.1,gm (Int.le_max_left _ _) this.2]
variable{ds:List Nat}
theorem GX(h:∀d∈ds,d<=124):xQ (-1::ds.map λ(n:Nat)=>(n:Int))+1=(mx ds:Nat)/\mx ds<=125:=by
 have:=fold_max (B:=124) (l:=ds.map λ(n:Nat)=>(n)) (x:=-1) (by decide) λy m=>by show gO m λd hd g=>g▸?_;have:=h d hd;show(ze [_] (.c V0)<|.n 124).mpr<|dO [_] V0 124 V0 124 af this
 have e:xQ (-1::ds.map λ(n:Nat)=>(n:Int))+1=(mx ds:Nat):=(nZ<|uf this.2 1).symm;show#[e,gM.mp<|e▸uf this.1 1]
section
variable {U:List O}{Z:List cJ}
theorem Gg(G:Good Z):lS Z a<=a:=by
 have g:∀n a,dpF Z n a<=n:=by
  intro n;induction n with
  |zero=>show λt=>aE _
  |succ n o=>
   intro a;rw[Li];induction nt Z a with
   |none=>show dU _
   |some b=>show cU<|o b
 show g a a
theorem uC(F:oE H Z)(h:a∈cf Z):(eu Z a).o.length=4:=by show sB ((F.dg _ (nT.of h).mem).1) ?_;rfl
structure LI(cu U:List O)(W:Wd)(p:List Nat):Prop where
 Z:RS U W
 K:Keeps [] cu U
 e:U[cu.length]?=I (.list<|p.map λa=>.str<|jN<|mu W.Z a)
theorem LI.and(o:LI cu U W p)(K:Keeps [] U Y):LI cu Y W p:=#[o.Z.keeps K λg m=>(cO m),o.K.and K,K.get o.e ai]
theorem MK{v4 v5 v6 v7 v8:Option V}(I':LI cu U W p)(g:a∈cf W.Z)(H:W.B<=cu.length)(J:p.length<100)
  (Q:∀Y v4 v5,LI cu Y W (p++[a])->kk .next #[wG (I<|.ref W.r) (I<|.ref cu.length) (I<|.p<|.bytes (eu W.Z a).o) (I<|nV a) v4 v5 v6 v7 v8,Y]) :
  ex (LV<|k+5) X jB.tl.bd #[wG (I<|.ref W.r) (I<|.ref cu.length) (I<|.p<|.bytes (eu W.Z a).o) (I<|nV a) v4 v5 v6 v7 v8,U] kk:=by
 have G:=I'.Z.F.toGood;have L:=tJ G g;have v:=I'.Z.F.ok _ (nT.of g).mem;have T:=wm v;have r12:(eu W.Z a).raw.length<=12:=by
  have:=v.c9;unfold cJ.raw;induction (eu W.Z a).base with
  |none=>change(eu W.Z a).c.length<=12;show dO [_] V0 12 (V0+1) 10 af this
  |some b=>show bS (w4)<|dO [_] (V0+3) 12 (V0+1) 10 af this
 have fin:∀{Y':List O}{v4 v5:Option V},LI cu Y' W p->kk .next #[wG (I<|.ref W.r) (I<|.ref cu.length) (I<|.p<|.bytes (eu W.Z a).o) (I<|nV a) v4 v5 v6 v7 v8,Y'.set cu.length<|.list<|(p.map λa=>P.str<|jN<|mu W.Z a)++[.str<|jN<|mu W.Z a]]:=λ{Y' v4 v5} d=>
  Q _ v4 v5 #[d.Z.keeps Keeps.set λi m=>.inr<|(ah.mp m)▸H,d.K.bG<|aE _,(cM d.e).trans<|by rw[aO];rfl]
 have f:∀w∈mu W.Z a,w.length<=8:=λw m=>by
  have M:∀{n:Nat},n<150->(gq<|n).length<=8:=λh=>av (j4 h).2.2<|c6 af;have x:∀{q},q∈cf W.Z->(mY (eu W.Z q).o).length<=8:=λh=>bS (qy)<|bS (uC I'.Z.F h)<|aE _;rcases aM.mp m with m|m
  ·rcases aC.mp m with rfl|m
   ·show x g
   rcases aC.mp m with rfl|m
   ·show c6 af
   rcases aC.mp m with rfl|m
   ·show M<|by lia
   rcases aC.mp m with rfl|m
   ·show M<|by lia
   ·rw[ah.mp m];show M<|aI L<|by decide
  ·induction t:nt W.Z a with
   |none=>rw[t]at m;show absurd m ai
   |some q=>
    replace m:=(t)▸m;rcases aC.mp m with rfl|m
    ·show M<|aI (Gg G)<|aI L<|by decide
    ·rw[ah.mp m];show x (sQ G g t).2
 have A:(jN<|mu W.Z a).length<=gr:=av (PL f)<|av (bW _<|show(mu W.Z a).length<=7 by unfold mu;induction nt W.Z a<;>show c6 af)<|c6 af;have pl:(p.map λa=>P.str<|jN<|mu W.Z a).length<gr:=by rw[ay];show aW J<|bz af
 show aN (bF I'.Z.obj)<|kH I'.Z.toRB g<|ls af<|CM (by rw[(uC I'.Z.F g)];show bz af) λdH j=>(aN (bF (I'.and j).Z.obj)<|uF (I'.and j).Z g<|II λy K2=>?_);have R:=(I'.and j).and K2;show aN (Ba af<|by lia) ?_;have z:((a+(eu W.Z a).size:Nat):Int)-(a)=((eu W.Z a).size):=by change(a:Int)+((eu W.Z a).size:Nat)-a=_;rw[HJ,wo]
 show aN (Ba z<|by lia) ?_;rw[z];show aN (Ba af<|aI L<|by decide)<|lz af<|ls af ?_;have U':Keeps [] y<|y++[O.list [.str<|mY (eu W.Z a).o,.str [98,108,111,98],.str<|gq<|(eu W.Z a).raw.length,.str<|gq<|(eu W.Z a).size,.str<|gq (a:Nat)]]:=.app;show aN af ?_;induction t:nt W.Z a with
 |none=>
  have l:mu W.Z a=[mY (eu W.Z a).o,[98,108,111,98],gq (eu W.Z a).raw.length,gq (eu W.Z a).size,gq a]:=by unfold mu;show(t)▸?_;rfl
  rw[zI G g t];show Ri<|fj<|aN (gf (R.and U').e)<|aN af<|V6 (ps:=[mY (eu W.Z a).o,[98,108,111,98],gq (eu W.Z a).raw.length,gq (eu W.Z a).size,gq a]) bJ<|sB (l)<|aN #[c6 af,A]<|j3 (R.and U').e<|aN pl<|fin<|R.and U'
 |some q=>
  have l:mu W.Z a=[mY (eu W.Z a).o,[98,108,111,98],gq (eu W.Z a).raw.length,gq (eu W.Z a).size,gq a,gq<|lS W.Z a,mY (eu W.Z q).o]:=by unfold mu;rw[t];rfl
  show bS (vE G g t)<|Ry<|fj<|bq (bJ (r:=[]) (o:=O.list [.str<|mY (eu W.Z a).o,.str [98,108,111,98],.str<|gq ((eu W.Z a).raw.length:Nat),.str<|gq ((eu W.Z a).size:Nat),.str<|gq (a:Nat)])) ?_;have D:=R.and<|U'.bG (o:=.gone)<|aE _;show aN (bF D.Z.obj)<|yk D.Z g<|aN (Ba af<|aI (Gg G)<|aI L<|by decide)<|aN (bF D.Z.obj)<|uO D.Z g ?_;show(show Ow W.Z a=.bytes (eu W.Z q).o by unfold Ow;show bS (t) af)▸(CM ((uC I'.Z.F<|(sQ G g t).2)▸bz af) λC K5=>(lz af ?_));have A6:Keeps [] C<|C++[O.list [.str<|gq<|lS W.Z a,.str<|mY (eu W.Z q).o]]:=.app;show bq (bJ (r:=[])) ?_;have s:=(D.and K5).and<|A6.bG (o:=.gone)<|aE _;show lz af<|ls af ?_;show aN (gf s.e)<|aN af ?_;rw[l]at A fin;show aN #[c6 af,A]<|j3 s.e<|aN pl<|fin s
end
theorem Ey(f:α->P)(g:α->List P){step:P->List P->St->(List P->St->Prop)->Prop}(L:τ->List (Option V))(c:List α->List O->Prop){A:List α}{k:List P->St->Prop}
  (F:∀p a r,A=p++a::r->∀t o kk,c p o->(p.flatMap g).length<gr->(∀t' Y,c (p++[a]) Y->kk (p.flatMap g++g a) #[L t',Y])->step (f a) (p.flatMap g) #[L t,o] kk) (M:∀a,(g a).length<=1) (R:A.length<=gr) (t) {o:List O} (h:c [] o) (U:∀t' Y,c A Y->k (A.flatMap g) #[L t',Y]):j0 step (A.map f) [] #[L t,o] k:=by
 have fl:∀p:List α,(p.flatMap g).length<=p.length:=λp=>by
  induction p with
  |nil=>show aE _
  |cons a p D=>rw[iN,aj,aX,iy];show gP D<|M a
 have b:∀{r p:List α}{t:τ}{o:List O},A=p++r->c p o->j0 step (r.map f) (p.flatMap g) #[L t,o] k:=by
  intro r;induction r with
  |nil=>intro p t o e h;have e:=e.trans<|aY p;show sB (e) ?_;rw[<- e]at h;show U t o h
  |cons a r D=>
   intro p t o e h;show bS bK ?_;show oO<|F p a r e t o _ h (aI (fl p)<|aH ?_ R) λt' Y Z=>?_
   ·show bS e<|bS aj<|bS aX<|jd<|iT _
   ·have:=D (t:=t') (by rw[e,aJ];rfl) Z;rwa [uz,List.flatMap_singleton]at this
 show b af h
theorem mC(f g:α->P){step:P->List P->St->(List P->St->Prop)->Prop}(L:τ->List (Option V))(b:List α->List O->Prop){D:List α}{k:List P->St->Prop}
  (U:∀p a r,D=p++a::r->∀t o A kk,b p o->A.length<gr->(∀t' Y,b (p++[a]) Y->kk (A++[g a]) #[L t',Y])->step (f a) A #[L t,o] kk) (F:D.length<=gr) (t) {o:List O} (h:b [] o) (M:∀t' Y,b D Y->k (D.map g) #[L t',Y]):j0 step (D.map f) [] #[L t,o] k:=
 Ey f (λa=>[g a]) L b (λp a r e t o kk R F M=>U p a r e t o _ kk R F M) (λZ=>aE _) F t h λt' Y R=>(Km)▸M t' Y R
def TW(w:List Nat):Prop:=w≠[]/\∀c∈w,33<=c/\c<127
theorem qV(h:n<150):TW<|gq n:=by have:=j4 h;show#[λe=>by rw[e]at this;show absurd this.2.1<|by decide,λc m=>by have:=this.1 c m;show#[dO [_] 33 V0 48 V0 af this.1,dO [_] (V0+1) 127 V0 57 af this.2]]
theorem Xl:((List.range 16).all λn=>iG 33 (AG n)&&iG (AG n) 126)=aB:=by decide +kernel
theorem Ra(h:b.length=4):TW<|mY b:=by
 show#[λe=>?_,λc m=>?_]
 ·have:=qy (b:=b);replace this:=(h)▸(e)▸this;cases this
 ·obtain⟨x,_,m⟩:=List.mem_flatMap.mp m;have g:=x.toNat_lt;have f:∀n,n<16->33<=AG n/\AG n<127:=λn o=>by have:=cQ.mp Xl n<|cY.mpr o;rw[fg]at this;show#[bZ this.1,qe<|bZ this.2]
  rcases aC.mp m with rfl|m
  ·show f _<|Nat.div_lt_of_lt_mul g
  ·show(ah.mp m)▸f _ (aft _<|by decide)
theorem Vf(w:List Nat)(h:(!w.isEmpty&&w.all λc=>iG 33 c&&iG c 126)=aB):TW w:=by rw[fg]at h;show#[λe=>(by replace h:=(e)▸h;cases h.1),λc m=>?_];have:=cQ.mp h.2 c m;rw[fg]at this;show#[bZ this.1,qe<|bZ this.2]
theorem abL{g:List cJ}(F:oE H g)(h:a∈cf g):∀w∈mu g a,TW w:=λw m=>by
 have G:=F.toGood
 have D:=tJ (W:=#[H,g,[],0,0,0,0,0,0,0,0,0,[],[]]) G h
 have M:=F.ok _ (nT.of h).mem
 have o:(eu g a).raw.length<150:=by
  have:=M.c9
  unfold cJ.raw
  induction (eu g a).base with
  |none=>change(eu g a).c.length<150;show dO [_] (V0+1) 150 (V0+1) 10 af this
  |some b=>show bS (w4)<|dO [_] (V0+3+1) 150 (V0+1) 10 af this
 rcases aM.mp m with m|m
 ·rcases aC.mp m with rfl|m
  ·show Ra<|uC F h
  rcases aC.mp m with rfl|m
  ·show Vf _ af
  rcases aC.mp m with rfl|m
  ·show qV o
  rcases aC.mp m with rfl|m
  ·show qV<|dO [_] (V0+1) 150 (V0+1) 16 af<|wm M
  ·show bS (ah.mp m)<|qV<|by lia
 ·induction t:nt g a with
  |none=>rw[t]at m;show absurd m ai
  |some q=>
   rw[t]at m
   rcases aC.mp m with rfl|m
   ·show qV<|aI (Gg G)<|by lia
   ·show bS (ah.mp m)<|Ra<|uC F (sQ G h t).2
theorem ZJ(g:ds.length<=7)(h:d<150):∀w∈u6 ds d,TW w:=λw m=>by
 have c:(ds.filter (· = d)).length<150:=aI (av (fk ..) g)<|bz af
 unfold u6 at m
 by_cases e:d=0
 ·replace m:=(if_pos e)▸m
  rcases aC.mp m with rfl|m
  ·show Vf _ af
  ·show bS (ah.mp m)<|qV c
 ·replace m:=(if_neg e)▸m
  rcases aC.mp m with rfl|m
  ·show Vf _ af
  rcases aC.mp m with rfl|m
  ·show Vf _ af
  rcases aC.mp m with rfl|m
  ·show#[dS _<|fL _ _,λc m=>(aM.mp m).elim ((qV h).2 c) λm=>by show bS (ah.mp m) ?_;decide]
  ·show bS (ah.mp m)<|qV c
theorem Lx{g:List cJ}(F:oE H g):∀d∈(cf g).map (lS g),d<=124:=λd m=>by
 show gO m λa o t=>sB t<|av (Gg F.toGood)<|tJ (W:=#[H,g,[],0,0,0,0,0,0,0,0,0,[],[]]) F.toGood o
theorem Jt{o:List cJ}(F:oE H o):∀ws∈sV o,∀w∈ws,TW w:=λws m=>by
 rcases aM.mp m with m|m
 ·show gO m λa t g=>sB g<|abL F t
 ·show gO m λd D g=>sB g ?_
  have:=(GX<|Lx F).2
  show ZJ (by rw[ay];show av (ak iI) F.few)<|aH (cY.mp D)<|av this<|c6 af
structure LJ(cu U:List O)(W:Wd)(rs:List (List Nat)):Prop where
 Z:RS U W
 K:Keeps [] cu U
 e:U[cu.length]?=I (.list<|rs.map .str)
theorem F0:∀{ls:List<|List α},(∀l∈ls,l.length<=B)->ls.flatten.length<=B*ls.length:=by
 intro ls;induction ls with
 |nil=>intro _;show dU _
 |cons l ls g=>intro h;rw[fT,aj,aX,Nat.mul_succ,iy];show gP (g λx m=>h x<|.tail _ m)<|h l<|.head _
theorem jw1{x:List Nat}:eg [32] [x]=x:=aY x
theorem abh:jN (u6 ds d)=(if d=0 then [119,104,111,108,101] else [99,104,97,105,110,32,111,102,32]++gq d)++[58,32]++gq (ds.filter (· = d)).length:=by
 unfold u6 jN;by_cases e:d=0
 ·show bS (if_pos e)<|bS (if_pos e)<|bS iO<|bS jw1 ?_;rfl
 ·rw[if_neg e,if_neg e];show bS iO<|bS iO<|bS iO<|bS jw1 ?_;simp only[aJ,cT,jq]
def lsB(g:List cJ):List UInt8:=pH<|((sV g).map λws=>jN ws++[10]).flatten
section
variable {U:List O}
theorem LJ.and{g:List<|List Nat}(t:LJ cu U W g)(K:Keeps [] U Y):LJ cu Y W g:=#[t.Z.keeps K λo m=>(cO m),t.K.and K,K.get t.e ai]
theorem Pn{F:List<|List Nat}{v2 v3 v4 v5 v8:Option V}(s:LJ cu U W F)(y:W.B<=cu.length)(g:F.length<900)(L:ds.length<=7)(hd:d<150)
  (M:∀Y v8,LJ cu Y W (F++[jN<|u6 ds d])->kk .next #[wG (I<|.ref W.r) (I<|.ref cu.length) v2 v3 v4 v5 (I<|.p<|.lst<|iL ds) (I<|nV d) v8,Y]) :
  ex (LV k) X jB.tl.tl.tl.bd #[wG (I<|.ref W.r) (I<|.ref cu.length) v2 v3 v4 v5 (I<|.p<|.lst<|iL ds) (I<|nV d) v8,U] kk:=by
 have b:(ds.filter (· = d)).length<=7:=av (fk ..) L;have key:∀(w:List Nat),w=(if d=0 then [119,104,111,108,101] else [99,104,97,105,110,32,111,102,32]++gq d)->∀v8:V,v8=.p (.str w)->ex (LV k) X jB.tl.tl.tl.bd.tl #[wG (I<|.ref W.r) (I<|.ref cu.length) v2 v3 v4 v5 (I<|.p<|.lst<|iL ds) (I<|nV d)<|I v8,U] kk:=λw R v8 ev=>by
  subst ev;have v:w.length<=12:=by
   rw[R];by_cases e:d=0
   ·show bS (if_pos e)<|c6 af
   ·rw[if_neg e,aj];show j5 (j4 hd).2.2 9
  show aN (gf s.e)<|aN (av (show w.length+2<=14 by show dO [_] (V0+2) 14 V0 12 af v)<|c6 af)<|Ey (λ(n:Nat)=>P.int n) (λn=>if n=d then [.int n] else []) (λt=>ZM (I<|.ref W.r) (I<|.ref cu.length) v2 v3 v4 v5 (I<|.p<|.lst<|iL ds) (I<|nV d) (I<|.p<|.str w) t) (λl Y=>Y=U) (λp a r e t Y h o g q=>?_) (λa=>by by_cases e:a=d<;>simp[e]) (av L<|c6 af) A af λt Y o=>?_
  ·show ls af ?_;by_cases e:a=d
   ·rw[if_pos e]at q;show kT aB ((e)▸beq_self_eq_true _)<|aN g<|q _ _ o
   ·rw[if_neg e,aY]at q;show kT au (beq_eq_false_iff_ne.mpr λz=>e<|jf z)<|q _ _ o
  ·subst o;have c:(ds.flatMap λn=>if n=d then [P.int n] else [])=(ds.filter (· = d)).map λ(n:Nat)=>P.int n:=by
    clear L b M g;induction ds with
    |nil=>rfl
    |cons x r f=>
     show bS iN<|bS f<|bS jc ?_;by_cases e:x=d
     ·rw[if_pos e,if_pos<|decide_eq_true e];rfl
     ·rw[if_neg e,if_neg<|by rw[decide_eq_true_iff];show e];rfl
   rw[c];show vp bJ ?_;rw[ay];show aN (Ba af<|by lia)<|aN (av (show(w++[58,32]).length+_<=17 by show bS aj (gP<|fH v 2)<|(j4<|by lia).2.2)<|c6 af) ?_;show bS R<|sB abh ?_;have D:=s.and (Keeps.app (j:=[O.list ((ds.filter (· = d)).map λ(n:Nat)=>P.int n)]));show j3 D.e<|aN (by rw[ay];show aW g<|bz af)<|M _ _ #[D.Z.keeps Keeps.set λi m=>.inr<|by rw[ah.mp m];show y,D.K.bG<|aE _,(cM D.e).trans<|by show bS aO ?_;rfl]
 by_cases e:d=0
 ·show kT aB (by rw[e];rfl)<|ls af<|key _ (bS (if_pos e) af) _ af
 ·show kT au (beq_eq_false_iff_ne.mpr λz=>e<|jf z)<|aN (Ba af hd)<|aN (av (j5 (j4 hd).2.2 9)<|c6 af)<|ls af<|key _ (bS (if_neg e) af) _ af
end
theorem DX{g:List cJ}(F:oE H g):(sV g).length<=132:=by have:=(GX<|Lx F).2;unfold sV;show bS aj<|bS ((ay ..).trans iI)<|bS ((ay ..).trans<|cA ..) ?_;show gP F.few this
theorem adn(h:∀w∈ws,TW w):∀c∈jN ws,c<127:=by
 induction ws with
 |nil=>show λZ m=>(cO m)
 |cons w r g=>
  induction r with
  |nil=>show λc m=>((h w<|.head _).2 c<|aY w▸m).2
  |cons x r=>
   intro c m;have m:c∈eg [32] (w::x::r):=m;rw[iO]at m;rcases aM.mp m with m|m
   ·rcases aM.mp m with m|m
    ·show((h w<|.head _).2 c m).2
    ·show bS (ah.mp m) ?_;decide
   ·show g (λy o=>h y<|.tail _ o) c m
theorem Qh{g:List cJ}(F:oE H g):∀ws∈sV g,(jN ws++[10]).length<=100:=λws m=>by
 have t:∀{n:Nat},n<150->(gq<|n).length<=9:=λh=>av (j4 h).2.2<|c6 af
 have M:∀{q},q∈cf g->(mY (eu g q).o).length<=9:=λh=>bS (qy)<|bS (uC F h)<|c6 af
 have R:(∀w∈ws,w.length<=9)->ws.length<=7->(jN ws++[10]).length<=100:=λh Y=>by
  rw[aj]
  show av (fH (av (PL h)<|bW 10 Y) _)<|c6 af
 have i:∀{a},a∈cf g->(eu g a).raw.length<150/\(eu g a).size<150/\a<150:=λ{a} h=>by
  have U:=F.ok _ (nT.of h).mem
  have:=wm U
  show#[?_,(dO [_] (V0+1) 150 (V0+1) 16 af this),aI (tJ (W:=#[H,g,[],0,0,0,0,0,0,0,0,0,[],[]]) F.toGood h)<|bz af]
  have:=U.c9
  unfold cJ.raw
  induction (eu g a).base with
  |none=>change(eu g a).c.length<150;show dO [_] (V0+1) 150 (V0+1) 10 af this
  |some b=>show bS (w4)<|dO [_] (V0+3+1) 150 (V0+1) 10 af this
 rcases aM.mp m with m|m
 ·show gO m λa D f=>?_
  subst f
  have r:=i D
  show R (λw m=>?_)<|by unfold mu;induction nt g a<;>show c6 af
  rcases aM.mp m with m|m
  ·rcases aC.mp m with rfl|m
   ·show M D
   rcases aC.mp m with rfl|m
   ·show c6 af
   rcases aC.mp m with rfl|m
   ·show t r.1
   rcases aC.mp m with rfl|m
   ·show t r.2.1
   ·show bS (ah.mp m)<|t r.2.2
  ·induction L:nt g a with
   |none=>rw[L]at m;show absurd m ai
   |some q=>
    replace m:=(L)▸m
    rcases aC.mp m with rfl|m
    ·show t<|aI (Gg F.toGood) r.2.2
    ·show bS (ah.mp m)<|M (sQ F.toGood D L).2
 ·show gO m λd hd f=>?_
  subst f
  have c:(((cf g).map<|lS g).filter (· = d)).length<150:=aI (fk ..)<|by rw[ay,iI];show aI F.few<|bz af
  show R (λw m=>?_) (by unfold u6;by_cases e:d=0<;>simp[e])
  unfold u6 at m
  by_cases e:d=0
  ·replace m:=(if_pos e)▸m
   rcases aC.mp m with rfl|m
   ·show c6 af
   ·show bS (ah.mp m)<|t c
  ·replace m:=(if_neg e)▸m
   rcases aC.mp m with rfl|m
   ·show c6 af
   rcases aC.mp m with rfl|m
   ·show c6 af
   rcases aC.mp m with rfl|m
   ·show bS aj<|av (fH (j4<|aH (aH (cY.mp hd) (GX<|Lx F).2)<|c6 af).2.2 1)<|c6 af
   ·show bS (ah.mp m)<|t c
section
variable {U:List O}
theorem Si{v2 v3 v4 v5 v6 v7 v8:Option V}(y:LJ cu U W<|(sV W.Z).map jN)(d:W.B<=cu.length)(h:∀Y,Keeps [] cu Y->RS Y W->Q (.ok<|.p<|.bytes<|lsB W.Z) Y) :
  ex (LV<|k+1) (λc σ=>Q (.exc c) σ.U) jB.tl.tl.tl.tl #[wG (I<|.ref W.r) (I<|.ref cu.length) v2 v3 v4 v5 v6 v7 v8,U] λf σ=>Q (.ok<|kJ f) σ.U:=by
 have g:=DX y.Z.F;have D:=Qh y.Z.F;have L:∀ws∈sV W.Z,(jN ws).length+1<=gr:=λws m=>by have:=D ws m;rw[aj]at this;show av this<|c6 af
 have H:=av (F0 λl m=>by obtain⟨ws,M,rfl⟩:=dD.mp m;show D ws M)<|by rw[ay];show bW 100 g
 show aN af<|bq y.e ?_;rw[bw];show mC (λws=>P.str<|jN ws) (λws=>.str<|jN ws++[10]) (λt=>ZM (I<|.ref W.r) (I<|.ref cu.length) v2 v3 v4 v5 v6 v7 v8 t) (λx Y=>Y=U.set cu.length .gone) (λp a r e t Y n w R z q=>?_) (av g<|c6 af) A af λt Y R=>?_
 ·show ls af<|aN (L a<|bS e<|aG _<|.head _)<|aN z<|q _ _ R
 ·subst R;have C:Keeps [] (U.set cu.length .gone) _:=Keeps.app (j:=[O.list<|(sV W.Z).map λws=>P.str<|jN ws++[10]]);show V6 (bS bw bJ) ?_;unfold aaL;show bS nJ<|aN #[c6 af,av H<|c6 af] ?_;show JM (λc m=>?_) (aI H<|bz af) λs b=>h s (((y.K.bG<|aE _).and C).and b)<|((y.Z.keeps (Keeps.set (o:=.gone)) λi m=>.inr<|bS (ah.mp m) d).keeps C λx m=>(nomatch m)).keeps b λx m=>(nomatch m);obtain⟨l,z,m⟩:=List.mem_flatten.mp m;show gO z λws M v=>?_;subst v;rcases aM.mp m with m|m
  ·show iS<|adn (Jt y.Z.F ws M) c m
  ·rw[ah.mp m];decide
theorem Jf(Z:RS U W)(M:W.B<=U.length)(w:∀Y,Keeps [] U Y->RS Y W->Q (.ok<|.p<|.bytes<|lsB W.Z) Y):LV (k+6) 723 [.ref W.r] U Q:=by
 show enter af af af ?_;show HQ λdH q l1 x=>(ls af ?_);have R:=Z.keeps q λ_ m=>(cO m);show aN (bF R.obj)<|IK R λeR U'=>?_;show lG (C5 W.Z) (λt=>wG (ae<|.ref W.r) (ae<|.ref U.length) t.1 t.2.1 t.2.2.1 t.2.2.2 A A A) (λp t L=>LI U L W p) (λp a r e t L kk I Y'=>?_) (A,A,A,A) #[R.keeps U' λ_ m=>(nomatch m),q.and U',U'.get x ai] λt L I=>?_
 ·show aN af<|ls af<|ls af<|aN af ?_;have s:=nH Z.F.toGood;rw[e,aj]at s;show MK I (e▸aG _ (.head _)) M (show p.length<100 by show dO [_,_] (V0+1) 100 (V0+V1) 7 af s) λy v4 v5 z=>(Y' (_,_,v4,v5) y z).1
 ·have v:((cf W.Z).map<|lS W.Z).length<=7:=by rw[ay];show nH Z.F.toGood
  have D:=GX<|Lx Z.F;show bL I.Z.obj af<|mC (qE W.Z) (λa=>.int<|lS W.Z a) (λA'=>ZM (ae<|.ref W.r) (ae<|.ref U.length) t.1 t.2.1 t.2.2.1 t.2.2.2 A A A A') (λ_ Y=>Y=L) (λp a r e A' Y C El b H J=>?_) (av (nH Z.F.toGood)<|c6 af) A af λA' Y b=>?_
  ·subst b;show ls af<|aN (bF I.Z.obj)<|yk I.Z (bS e<|aG _<|.head _)<|aN H<|J _ _ af
  ·subst b;show bq bJ ?_;show(((bw (f:=lS W.Z) (g:=λ(n:Nat)=>P.int n)).symm))▸?_;show ls af ?_;have T:LJ U Y W<|(cf W.Z).map λa=>jN<|mu W.Z a:=#[I.Z,I.K,I.e.trans<|congrArg (λl=>ae<|O.list l) (bw (g:=P.str)).symm];have X:=T.and<|(Keeps.app (j:=[O.list<|iL<|(cf W.Z).map<|lS W.Z])).bG (o:=.gone)<|aE _;show lz af (bq bJ<|aN (av (show 1+(iL<|(cf W.Z).map<|lS W.Z).length<=8 by rw[iL,ay];show dO [_] (1+V0) 8 V0 7 af v)<|c6 af)<|bq (by change(jr P.int?<|iL<|(cf W.Z).map<|lS W.Z).map _=_;rw[we];rfl)<|aN (fL _ _)<|aN #[by rw[D.1];lia,by rw[D.1];lia]<|bq (a:=(List.range<|mx<|(cf W.Z).map<|lS W.Z).map λ(i:Nat)=>.int i) (bS D.1<|qj #[(bj _),by lia])<|lG (τ:=Option V×Option V) (λ(d:Nat)=>P.int d) (λA'=>wG (ae<|.ref W.r) (ae<|.ref U.length) t.1 t.2.1 t.2.2.1 t.2.2.2 (ae<|.p<|.lst<|iL<|(cf W.Z).map<|lS W.Z) A'.1 A'.2) (λp _ c=>LJ U c W<|((cf W.Z).map λa=>jN<|mu W.Z a)++p.map λd=>jN<|u6 ((cf W.Z).map<|lS W.Z) d) (λp d r e A' c kk h Y'=>?_) (A,A) (by rw[wN,aY];show(X.and<|(Keeps.app (j:=[O.list [.int<|-1]])).bG (o:=.gone)<|aE _)) λA' c h=>?_)
   ·have hd:=congrArg List.length e;rw[cA,aj,aX]at hd;show ls af ?_;show Pn h M ?_ v ?_ λMR v8 I7=>(Y' (_,v8) MR<|by rw[aO,<- aJ];show I7).1
    ·rw[aj,ay (as:=p)];show bS (show((cf W.Z).map λa=>jN<|mu W.Z a).length=(cf W.Z).length from ay ..) ?_;have:=nH Z.F.toGood;have:=D.2;show rj [_,_,_,_] (V0+V1+1) 900 V2 125 (V1+(V3+1)) V2 V0 7 af D.2 (ak hd.symm) ‹_›
    ·have m:=e▸aG _ (.head _);have:=cY.mp m;have:=D.2;show fZ [_,_] (V0+1) 150 V1 125 (V0+1) V1 af D.2 ‹_›
   ·show Si ?_ M w;unfold sV;show bS aO<|bS (bw (l:=List.range _))<|bS (show((cf W.Z).map<|mu W.Z).map jN=(cf W.Z).map λa=>jN (mu W.Z a)from bw ..) ?_;show h
end
noncomputable def nP(o:Option Nat):P:=match o with
 |none=>.none
 |some b=>.int b
abbrev Eg(R:Ro)(k:Nat):P:=.tup [.bytes<|oN k,.bytes<|R.c k,nP<|R.bs k]
abbrev dX(R:Ro):P:=.lst<|(List.range R.n).map<|Eg R
theorem lA{o:List O}{g:List P}{z:P}{k:V->Prop}(e:g[i]?=I z)(h:k<|.p z):bO (yT o (.p<|.lst g)<|.p<|.int i) k:=by show bq ?_ h;change(match decide (0<=(i:Int))with|true=>g[(i:Int).toNat]? | au=>A).map V.p=_;rw[decide_eq_true<|bj i,gZ];rw[e];rfl
theorem jE{R:Ro}(h:k<R.n):((List.range R.n).map<|Eg R)[k]?=I (Eg R k):=by rw[cj,nN h];rfl
variable{o:Option Nat}
theorem Ir:Wm (iL l) (nP o)=I (match o with|none=>au|some b=>decide (b∈l)):=by
 unfold Wm;rw[we];induction o with
 |none=>show sB (lK.mpr λx Z=>aD) af
 |some b=>
  change I ((l.map λ(n:Nat)=>(n:Int)).any λj=>I (b:Int)==I j)=I (decide (b∈l));congr 1;by_cases m:b∈l
  ·rw[decide_eq_true m];show yG.mpr #[b,fQ m,beq_self_eq_true _]
  ·rw[decide_eq_false m];show lK.mpr λx g z=>m ?_;show gO g λn t D=>?_;subst D;have:b=n:=jf<|aV<|beq_iff_eq.mp z;show this▸t
noncomputable abbrev oin(o:Option Nat)(l:List Nat):Bool:=match o with
 |none=>au
 |some b=>decide (b∈l)
theorem YZ{g:List O}{k:Bool->Prop}(h:k<|oin o l):bO (lq g .In (.p<|nP o)<|.p<|.lst<|iL l) k:=qn _ (Ir) h
theorem Se{g:List O}{k:Bool->Prop}(h:k !(oin o l)):bO (lq g .NotIn (.p<|nP o)<|.p<|.lst<|iL l) k:=qn _ (show(Wm (iL l)<|nP o).map _=_ by rw[Ir];rfl) h
theorem ab0{g:List O}{b:Nat}{k:Bool->Prop}(e:g[i]?=I (.list<|iL l))(h:k !(decide (b∈l))):bO (lq g .NotIn (.p<|.int b)<|.ref i) k:=qn _ (by
 change(Ui g (.int b)<|.ref i).map _=_
 unfold Ui
 rw[show mU g (.ref i)=A by change(g[i]?.bind _)=_;show(e)▸?_;rfl,kL e]
 change(Wm (iL l)<|nP<|I b).map _=_
 rw[Ir];rfl) h
theorem adj{g:List O}{k:Bool->Prop}(h:k o.isNone):bO (lq g .Is (.p<|nP o)<|.p .none) k:=nE _ (by induction o<;>rfl) h
theorem ab4{g:List O}{k:Bool->Prop}(h:k !o.isNone):bO (lq g .IsNot (.p<|nP o)<|.p .none) k:=fy _ (by induction o<;>rfl) h
def Ro.el(R:Ro)(w wc:Bool)(k:Nat):cJ:=#[oN k,R.c k,wc,if w=aB then A else (R.bs k).map R.b2]
section
variable {R:Ro}{U:List O}
theorem qQ{w:Bool}(h:R.Ok)(i:j<R.n)(g:∀Y,Keeps [] U Y->Q (.ok<|.p (R.el w wc j).val) Y):LV (k+2) 776 [.p<|dX R,nV j,.p<|.bool w,.p<|.bool wc] U Q:=by
 show enter af af af ?_;show lA (jE i) ?_;show aN af<|ls af<|ls af<|ls af<|aN af ?_;have whole:(∀Y,Keeps [] U Y->Q (.ok<|.p<|.inst 345 [.bytes<|oN j,blob,.bytes<|R.c j,.none,.none]) Y)->ex (LV<|k+1) (λc σ=>Q (.exc c) σ.U) (.cons (.ret<|.fz<|.call 345<|.cons (.loc 4)<|.cons (.c blob)<|.cons (.loc 5) .nil) .nil) #[lq8 (I<|.p<|dX R) (I<|nV j) (I<|.p<|.bool w) (I<|.p<|.bool wc) (I<|.p<|.bytes<|oN j) (I<|.p<|.bytes<|R.c j) (I<|.p<|nP<|R.bs j) A,U] λf σ=>match f with | .next=>ex (LV<|k+1) (λc σ=>Q (.exc c) σ.U) ye.tl.tl σ λf σ=>Q (.ok<|kJ f) σ.U|f=>Q (.ok<|kJ f) σ.U:=λg=>by show kE (x1:=.bytes<|oN j) (x2:=blob) (x4:=.none) (x5:=.none) af af λL t D=>?_;show Bp D af<|g _<|t.bG<|aE _
 unfold Ro.el at g;show adj ?_;induction e:R.bs j with
 |none=>rw[e]at g;replace whole:=(e)▸whole;show whole λY K=>(by have:=g Y K;cases w<;>show this)
 |some b=>
  have F:=aW (h.lt j b e) i;rw[e]at g;rw[e]at whole;show fj ?_;induction w with
  |true=>show whole g
  |false=>
   show lA (jE F) ?_;have M:=h.c9 j i;show lz af<|kD (b:=[aP (R.c b).length,aP (R.c j).length,aP (R.c j).length]) bJ ?_ ?_
   ·change((iD<|.int<|(R.c b).length).bind λa=>(((iD<|.int ((R.c j).length:Nat)).bind λa=>(((iD<|.int ((R.c j).length:Nat)).bind λa=>I [a]).map (a::·))).map (a::·)))=_;rw[kh (x:=((R.c b).length:Nat)) #[(bj _),((zl [_] (.c V0)<|.n 256).mpr<|dO [_] (V0+1) 256 (V0+1) 10 af<|h.c9 b F)],kh (x:=((R.c j).length:Nat)) #[(bj _),((zl [_] (.c V0)<|.n 256).mpr<|dO [_] (V0+1) 256 (V0+1) 10 af M)]];rfl
   show aN (av (show 3+(R.c j).length<=1000 by show dO [_] (3+V0) 1000 (V0+1) 10 af M) jg)<|ls af ?_;have d:Keeps [] U<|U++[O.list [.int<|(R.c b).length,.int ((R.c j).length:Nat),.int ((R.c j).length:Nat)]]:=.app;show fj ?_;induction wc with
   |true=>show lA (jE F)<|kE (x1:=.bytes<|oN j) (x2:=blob) (x3:=.bytes<|R.c j) (x4:=.bytes<|oN b) (x5:=.bytes<|dl (R.c b).length<|R.c j) af af λL t D=>(Bp D af<|g _<|(d.and t).bG d.len)
   |false=>show lA (jE F)<|kE (x1:=.bytes<|oN j) (x2:=blob) (x3:=.none) (x4:=.bytes<|oN b) (x5:=.bytes<|dl (R.c b).length<|R.c j) af af λL t D=>(Bp D af<|g _<|(d.and t).bG d.len)
end
theorem Qe:∀{n k:Nat},(VF bs n k).length<=n:=by
 intro n;induction n with
 |zero=>intro _;show aE _
 |succ n g=>
  intro k;show bS LU ?_;induction bs k with
  |none=>show cU<|dU _
  |some b=>show cU g
theorem adW{N:Nat}(g:∀k b,bs k=I b->b<k)(h:k<N):∀x∈VF bs n k,x<N:=by
 induction n generalizing k with
 |zero=>show λZ m=>cO m
 |succ n t=>
  intro x m;rcases aC.mp m with rfl|m
  ·show h
  ·induction e:bs k with
   |none=>rw[e]at m;show absurd m ai
   |some b=>rw[e]at m;show t (aW (g k b e) h) x m
structure LS(cu U:List O)(f:List Nat):Prop where
 K:Keeps [] cu U
 e:U[cu.length]?=I (.list<|iL f)
section
variable {R:Ro}{U:List O}
theorem Dy{D:Nat->Nat}(h:R.Ok)(L:∀k∈cur,k<R.n)(M:∀k∈cur,D k=match (R.bs k).filter (λb=>b∈cur)with|none=>0|some b=>D b+1)(f:j∈cur)(A:Q (.ok<|nV<|D j) U):LV (k+1) 788 [.p<|dX R,nV j,.p<|.lst<|iL cur] U Q:=by
 show enter (loc:=[I<|.p<|dX R,I<|nV j,I<|.p<|.lst<|iL cur,az]) af af af<|ls af ?_;show nD (λt=>[I<|.p<|dX R,I<|nV t.1,I<|.p<|.lst<|iL cur,I<|nV t.2]) (λm t Y=>Y=U/\t.1∈cur/\D t.1+t.2=D j/\m=t.1) ?_ _ (j,0) #[rfl,f,rfl,rfl];rintro m ⟨i,c⟩ Y ⟨rfl,F,g,Z⟩ l a;have g:=g;have hd:=M i F;show lA (jE<|L i F)<|YZ ?_;induction e:R.bs i with
 |none=>replace hd:=(e)▸hd;have hd:D i=0:=hd;rw[hd,eY]at g;rw[<- g]at A;show A
 |some b=>
  rw[e,fX]at hd;by_cases d:b∈cur
  ·change(match decide (b∈cur)with|true=>_|false=>_);rw[decide_eq_true d]at hd ⊢;show lA ((jE<|L i F).trans<|by change I (P.tup [_,_,nP<|R.bs i])=_;show bS e ?_;rfl) ?_;show aN af<|ls af<|ls af ?_;show a b (b,c+1) Y (bS Z<|h.lt i b e) #[rfl,d,by change D b+(c+1)=D j;show di (fZ [_,_,_,_] (V0+(V1+1)) V2 (V3+V1) V2 (V0+1) V3 af (ak g)<|ak hd.symm)<|fZ [_,_,_,_] V0 (V1+(V2+1)) V0 (V3+V2) V3 (V1+1) af (ak g.symm)<|ak hd,rfl]
  ·change(match decide (b∈cur)with|true=>_|false=>_);rw[decide_eq_false d]at hd ⊢;have hd:D i=0:=hd;rw[hd,eY]at g;rw[<- g]at A;show A
theorem yR{v1 v4 v5:Option V}(h:R.Ok)(S:LS cu U f)(Z:j<R.n)(d:f.length<100)
  (i:∀Y v4 v5,LS cu Y (f++(uY R.bs j).reverse.filter λx=>x∉f)->kk .next #[wI (I<|.p<|dX R) v1 (I<|.ref cu.length) (I<|nV j) v4 v5,Y]) :
  ex (LV k) X vB.tl.bd #[wI (I<|.p<|dX R) v1 (I<|.ref cu.length) (I<|nV j) v4 v5,U] kk:=by
 have q:=h.few;have b:(uY R.bs j).length<=4:=av Qe (show j+1<=4 by show fZ [_,_] (V0+1) 4 (V0+1) V1 V1 4 af Z q);have I':(uY R.bs j).length<gr:=aI b<|bz af;show lz af ?_;show aN af<|ls af<|ls af ?_;have A:Keeps [] U<|U++[O.list []]:=.app;show nD (λt=>wI (I<|.p<|dX R) v1 (I<|.ref cu.length) (I<|nV j) (I<|.ref U.length)<|I<|.p<|nP t.1) (λm t L=>LS cu L f/\L[U.length]?=I (.list<|iL t.2)/\uY R.bs j=t.2++Uk R.bs t.1/\m=(t.1.map (· + 1)).getD 0) ?_ _ (I j,[]) #[#[S.K.and A,A.get S.e ai],bJ,rfl,rfl];rintro m ⟨o,st⟩ L ⟨D,g,F,s⟩ U' v;have g:=g;have F:uY R.bs j=st++Uk R.bs o:=F;show ab4 ?_;induction o with
 |none=>
  replace g:=((F.trans<|aY st))▸g;show aN (ZL D.e)<|YF g ?_;rw[show(iL<|uY R.bs j).reverse=iL (uY R.bs j).reverse from(gF ..).symm];show Ey (λ(n:Nat)=>P.int n) (λn=>if n∈f then [] else [.int n]) (λt=>lq7 (I<|.p<|dX R) v1 (I<|.ref cu.length) (I<|nV j) (I<|.ref U.length) (I<|.p .none) t) (λT Y=>Y=L) (λp a r e t Y Q Y' w M=>?_) (λa=>by by_cases e:a∈f<;>simp[e]) (bS i6<|fO I') az af λt Y Y'=>?_
  ·cases Y'
   show ls af<|ab0 D.e ?_;by_cases e:a∈f
   ·rw[if_pos e,aY]at M;rw[decide_eq_true e];show M _ _ af
   ·rw[if_neg e]at M;rw[decide_eq_false e];show aN w<|M _ _ af
  ·subst Y';have C:∀l:List Nat,(l.flatMap λn=>if n∈f then [] else [P.int n])=iL (l.filter λx=>x∉f):=λl=>by
    induction l with
    |nil=>rfl
    |cons x r H=>
     show bS iN<|bS H<|bS jc ?_;by_cases e:x∈f
     ·rw[if_pos e,if_neg<|by rw[decide_eq_true_iff];show λz=>z e];rfl
     ·rw[if_neg e,if_pos<|decide_eq_true e];rfl
   rw[C];show bq bJ ?_;have B:Keeps [] Y<|(Y++[O.list<|iL<|(uY R.bs j).reverse.filter λx=>x∉f]).set Y.length .gone:=Keeps.bG .app<|aE _;have c:=B.get D.e ai;show j3 c ?_;show aN ?_<|i _ _ _ #[(D.K.and B).bG<|aE _,(cM c).trans<|by rw[iL,iL,iL,<- aO]];rw[ay,ay];have:=fk (λx=>decide (x∉f)) (uY R.bs j).reverse;rw[i6]at this;show av (show _<=104 by show rj [_,_,_] (V0+V1) 104 (V0+1) 100 V2 4 V1 V2 af d b this)<|c6 af
 |some x=>
  have J:=by show adW h.lt Z x (n:=j+1) ?_;change x∈uY R.bs j;rw[F];show aG _ ?_;change x∈uY R.bs x;show bS (yE h.lt)<|.head _
  show aN (gf g)<|j3 g<|aN (by rw[ay];show(aI (by show bS F<|bS aj<|bg _ _) I'))<|lA (jE J)<|ls af ?_;show v (((R.bs x).map (· + 1)).getD 0) (R.bs x,st++[x]) _ ?_ #[#[D.K.bG<|fO<|iC S.e,Keeps.set.get D.e<|cX<|aS<|iC S.e],(cM g).trans<|by rw[iL,iL,aO];rfl,?_,rfl]
  ·rw[s];induction e:R.bs x with
   |none=>show iT _
   |some y=>show jW<|h.lt x y e
  ·change uY R.bs j=(st++[x])++Uk R.bs (R.bs x);rw[F,aJ];show congrArg (st++·)<|yE h.lt
theorem uo{order:List Nat}(h:R.Ok)(F:∀k∈order,k<R.n)(g:order.length<=5)(L:∀Y,Keeps [] U Y->Q (.ok<|.p<|.lst<|iL<|fF R.bs [] order) Y):LV (k+1) 781 [.p<|dX R,.p<|.lst<|iL order] U Q:=by
 show enter (loc:=wI (I<|.p<|dX R) (I<|.p<|.lst<|iL order) A A A A) af af af ?_;show HQ λc M d l=>(ls af ?_);show lG (λ(n:Nat)=>P.int n) (λt=>wI (I<|.p<|dX R) (I<|.p<|.lst<|iL order) (I<|.ref U.length) t.1 t.2.1 t.2.2) (λp f j=>LS U j (fF R.bs [] p)/\(fF R.bs [] p).length<=4*p.length) (λp a r e t j kk i m=>?_) (A,A,A) #[#[M,l],aE _] λt j i=>?_
 ·replace g:=(aj)▸(e)▸g;have D:=F a<|e▸aG _ (.head _);show ls af<|yR h i.1 D (by have:=i.2;show fZ [_,_,_] (V0+1) 100 (lm 4<|V1+V2) (lm 4 5) V0 (lm 4 V1) af (bW 4 g) i.2) λZ v4 v5 b=>?_;show(m (_,v4,v5) Z #[bS (qL) b,?_]).1;show bS qL<|bS aj<|bS aj ?_;have u:(uY R.bs a).length<=a+1:=Qe;have:=fk (λx=>decide (x∉fF R.bs [] p)) (uY R.bs a).reverse;rw[i6]at this;have:=i.2;show M8 [_,_,_,_,_,_] (V0+V1) (lm 4<|V2+1) V3 4 V0 (lm 4 V2) (V4+1) V3 V5 (V4+1) V1 V5 af h.few i.2 D u ‹_›
 ·show yv (λf h=>h)<|ua i.1.e<|L _<|i.1.K.bG<|aE _
end
noncomputable abbrev Zw(ws:List<|List UInt8):P:=.lst<|ws.map .bytes
theorem oQ{f:P->P->Option Bool}:∀{g:List P},(∀x∈g,f x x=I aB)->To f g g=I aB:=by
 intro g;induction g with
 |nil=>intro _;show af
 |cons x r t=>intro h;change(f x x).bind (λa=>(To f r r).map (a&&·))=_;rw[h x<|.head _,t λy m=>h y<|.tail _ m];rfl
theorem GO{n:Nat}:CH n (.bytes b) (.bytes b)=I aB:=by induction n<;>show congrArg I<|beq_self_eq_true b
theorem adL{ws:List<|List UInt8}:CH (n+1) (Zw ws) (Zw ws)=I aB:=by show oQ λx m=>(gO m λb Z g=>g▸GO)
theorem En{g:List O}{L:List P}{k:Bool->Prop}(e:g[i]?=I (.list L))(t:g[j]?=I (.list L))(A:To (CH 4) L L=I aB)(h:k au):bO (lq g .NotEq (.ref i)<|.ref j) k:=by show qn au ?_ h;change(((g9 g<|.ref i).map P.lst).bind λa=>((g9 g<|.ref j).map P.lst).bind λb=>(CH 5 a b).map (!·))=_;show bS (kL e) ?_;rw[kL t];change(To (CH 4) L L).map _=_;show(A)▸?_;rfl
section
variable {R:Ro}
theorem YU{f:Nat->cJ}:∀{l:List Nat}{s:Nat}{p r:List<|Nat×Nat}{z:Nat×Nat},l.zip ((D6 s<|l.map f).map (·.1))=p++z::r->z.2=s+gz (p.map λy=>f y.1)/\z.1∈l/\(z.2,f z.1)∈D6 s (l.map f)
 |[],s,p,r,z,e=>by induction p<;>cases e
 |x::l,s,[],r,z,e=>by
  injection e with e;subst e
  show#[rfl,.head _,.head _]
 |x::l,s,y::p,r,z,e=>by
  injection e with e1 e2
  have:=YU e2
  subst e1
  show#[?_,.tail _ this.2.1,.tail _ this.2.2]
  rw[this.1,bK,vo,eE]
theorem KZ{p r:List<|Nat×Nat}(e:cur.zip (cf<|R.Z wc cur)=p++(k,a)::r):a=12+gz (p.map λy=>R.ef wc cur y.1)/\k∈cur/\nT (R.Z wc cur) a (R.ef wc cur k):=by rw[uM]at e;have:=YU e;show#[this.1,this.2.1,zv this.2.2]
def dN(R:Ro)(wc:Bool)(cur:List Nat)(k:Nat):Nat:=lS (R.Z wc cur)<|(zZ (R.Z wc cur)<|oN k).getD 0
theorem Ek(h:R.Ok)(O:Ord R cur)(g:k∈cur):∃a,zZ (R.Z wc cur) (oN k)=I a/\nT (R.Z wc cur) a (R.ef wc cur k):=by have G:=kZ (wc:=wc) h O;have:=Ls (a:=12) (wc:=wc) h O<|O.lt k g;rw[decide_eq_true g]at this;obtain⟨a,t⟩:=bQ.mp this;obtain⟨x,M,e⟩:=uH t;show#[a,t,?_];show gO M.mem λj D F=>?_;subst F;show(rZ h (O.lt j D) (O.lt k g) e)▸M
theorem JW(h:R.Ok)(L:nT (R.Z wc cur) a<|R.ef wc cur k):nt (R.Z wc cur) a=((R.bs k).filter λb=>b∈cur).bind λb=>zZ (R.Z wc cur)<|oN b:=by unfold nt;show(L.en)▸?_;unfold Ro.ef;cases (R.bs k).filter λb=>b∈cur<;>rfl
theorem Lv(h:R.Ok)(O:Ord R cur)(L:nT (R.Z wc cur) a<|R.ef wc cur k):dN R wc cur k=lS (R.Z wc cur) a:=by unfold dN;show(nW (kZ h O) L)▸?_;rfl
theorem RV(h:R.Ok)(O:Ord R cur):∀k∈cur,dN R wc cur k=match (R.bs k).filter (λb=>b∈cur)with|none=>0|some b=>dN R wc cur b+1:=λk g=>by
 show hd λF t=>?_
 obtain⟨a,c,L⟩:=Ek h O g
 show t<|bS (Lv h O L)<|bS (Rh (kZ h O) L.pos)<|bS (JW h L) ?_
 cases e:(R.bs k).filter λb=>b∈cur with
 |none=>rfl
 |some b=>
  obtain⟨q,M,D⟩:=Ek h O<|decide_eq_true_iff.mp (gx.mp e).2
  change(match zZ (R.Z wc cur) (oN b)with|none=>0|some b=>lS (R.Z wc cur) b+1)=_
  show(M)▸(congrArg (· + 1) (Lv h O D).symm)
theorem YS(h:R.Ok)(O:Ord R cur):∀{n k:Nat},k<n->k∈cur->dN R wc cur k<=k
 |n+1,k,hn,hk=>by
  rw[RV h O k hk]
  cases e:(R.bs k).filter λb=>b∈cur with
  |none=>show dU _
  |some b=>
   have f:=gx.mp e
   show av (cU<|YS h O (aH (h.lt k b f.1)<|gn hn)<|decide_eq_true_iff.mp f.2)<|h.lt k b f.1
theorem adU(h:R.Ok)(O:Ord R cur):∀d∈(cf<|R.Z wc cur).map (lS<|R.Z wc cur),d<=3:=λd m=>by
 show gO m λa t D=>D▸?_
 have L:=nT.of t
 show gO L.mem λk g e=>?_
 rw[<- e]at L
 show(Lv h O L)▸?_
 have:=YS (wc:=wc) h O (bE k) g
 have:=O.lt k g
 have:=h.few
 show rj [_,_,_] V0 3 V0 V1 (V1+1) V2 V2 4 af ‹_› ‹_› this
theorem agH(h:∀d∈ds,d<=3):mx ds<=4:=by
 have:=fold_max (B:=3) (l:=ds.map λ(n:Nat)=>(n)) (x:=-1) (by decide) λy m=>by show gO m λd hd g=>g▸?_;have:=h d hd;show(ze [_] (.c V0)<|.n 3).mpr<|dO [_] V0 3 V0 3 af this
 unfold mx;have e:xQ (-1::ds.map λ(n:Nat)=>(n))=(ds.map λ(n:Nat)=>(n:Int)).foldl max (-1):=rfl;show(e)▸(acg.mpr<|uf this.1 1)
end
theorem aav{e:E}{K:V->St->Prop}(v:V)(h:∀K:V->St->Prop,K v σ->ev Γ X e σ K)(g:K v σ):ev Γ X e σ K:=h K g
theorem Yb{e:E}{g:List<|Option V}{t:List O}{K:V->St->Prop}(v:V)(h:∀K:V->St->Prop,(∀Y,Keeps [] t Y->K v #[g,Y])->ev Γ X e #[g,t] K)(A:∀Y,Keeps [] t Y->K v #[g,Y]):ev Γ X e #[g,t] K:=h K A
theorem vG{l:List α}{x y:α}:(l++[x]).set l.length y=l++[y]:=by
 induction l with
 |nil=>rfl
 |cons z l g=>show congrArg (z::·) g
theorem Gh{l:List α}{x:α}:(l++[x])[l.length]?=I x:=by rw[bN<|aE _,jV];rfl
theorem xX{Γ:gI}{X:XX}{i n:Nat}{g:List<|Option V}{A:List O}{K:V->St->Prop}(D:g[i]?.join=I (nV n))(L:g.length=i+1)(F:n<150)(h:∀Y,Keeps [] A Y->K (.p<|.bytes<|pH<|gq n) #[g,Y]) :
  ev Γ X (.bi .Sub<|.cons (.comp 1 (.loc<|i+1) (.bi .Mult<|.cons (.loc i) .nil) .nil<|.bi .LShift<|.cons (.loc<|i+1) .nil) .nil) #[g,A] K:=by
 show bq D<|aN (Ba af F)<|mC (λ(c:Nat)=>P.str [c]) (λ(c:Nat)=>.int c) (λt=>g++[t]) (λZ Y=>Y=A) (λp a r e t Y M R d U f=>?_) (av (j4 F).2.2<|c6 af) az af λt Y d=>?_
 ·subst d;show aN (bS (aj)<|bS (L)<|bE _) ?_;change bO (((g++[t]).set (i+1)<|I<|.p<|.str [a])[i+1]?.join) _;rw[<- L,vG];show bq (by rw[Gh];rfl) ?_;show aN U ?_;change R _ #[(g++[t]).set g.length _,_];rw[vG];show f _ _ af
 ·subst d;show kD (b:=pH<|gq n) bJ (j1 λc m=>by have:=(j4 F).1 c m;rw[kh (x:=(c)) #[(bj _),((zl [_] (.c V0)<|.n 256).mpr<|dO [_] (V0+1) 256 V0 57 af this.2)]];rfl) ?_
  change K _ #[(g++[t]).take<|(g++[t]).length-1,_];rw[aj,show g.length+[t].length-1=g.length from kX ..,jK];show h _ .app
inductive PFb (R:Ro) (W:Wd) (k a:_):Prop
 |inl:nt W.Z a=A->lS W.Z a=0->PFb R W k a
 |inr (b q:_):R.bs k=I b->b<R.n->nt W.Z a=I q->(eu W.Z q).o=oN b->q∈cf W.Z->0<lS W.Z a->PFb R W k a
structure PF(R:Ro)(cur:List Nat)(W:Wd)(k a:_):Prop where
 hk:k∈cur
 ha:a∈cf W.Z
 c:(eu W.Z a).c=R.c k
 D:∃D:Nat->Nat,(∀k∈cur,D k=match (R.bs k).filter (λb=>b∈cur)with|none=>0|some b=>D b+1)/\D k=lS W.Z a
 d4:lS W.Z a<10
 b:PFb R W k a
theorem aez{R:Ro}(h:R.Ok)(g:Ord R cur)(A:W.Z=R.Z wc cur)(c:k∈cur)(L:nT (R.Z wc cur) a<|R.ef wc cur k):PF R cur W k a:=by
 have D:=Lv h g L;have t:=RV (wc:=wc) h g k c;have bp:=JW h L;have M:=adU h g (lS (R.Z wc cur) a)<|fQ L.pos;rw[<- A]at D bp M;show#[c,A▸L.pos,by show(A)▸bS (L.en) ?_;rfl,#[_,RV h g,D],aI M<|bz af,?_];replace t:=(D)▸t;cases e:(R.bs k).filter λb=>b∈cur with
 |none=>rw[e]at bp t;show .inl bp t
 |some b=>rw[e]at bp t;have f:=gx.mp e;have U:=decide_eq_true_iff.mp f.2;obtain⟨q,Y,F⟩:=Ek h g U;rw[<- A]at Y F;show .inr b q f.1 (g.lt b U) (bp.trans Y) (by rw[F.en];rfl) F.pos<|bS (t)<|iT _
structure Oz(cu U:List O)(W:Wd)(p:List Nat):Prop where
 Z:RS U W
 K:Keeps W.U cu U
 e8:U[cu.length]?=I (.list<|p.map λa=>Zw<|(mu W.Z a).map pH)
 e9:U[cu.length+1]?=I (.list<|iL<|p.map<|lS W.Z)
theorem Pu{R:Ro}{g:List O}{b:Nat}{k:V->Prop}(e:o=I b)(t:b<R.n)(h:k<|.p<|Eg R b):bO (yT g (.p<|dX R)<|.p<|nP o) k:=by subst e;show lA (jE t) h
theorem Ip{x:cJ}{bk:Nat}:∃t,x.piece bk=aP (x.kn*16+x.raw.length)::t:=by
 unfold cJ.piece cJ.kn cJ.raw;induction x.base with
 |none=>show#[_,rfl]
 |some b=>show#[_,rfl]
theorem Rj(h:x.Ok):x.raw.length<16/\(x.kn=3∨x.kn=6):=by
 have:=h.c9;unfold cJ.raw cJ.kn;induction x.base with
 |none=>show#[by change x.c.length<16;show dO [_] (V0+1) 16 (V0+1) 10 af this,.inl af]
 |some b=>show#[by change(dl b.2 x.c).length<16;rw[w4];show dO [_] (V0+3+1) 16 (V0+1) 10 af this,.inr af]
theorem UR{g:List O}{x:P}{k:Bool->Prop}(e:CH 5 x x=I aB)(h:k au):bO (lq g .NotEq (.p x)<|.p x) k:=qn au (show(CH 5 x x).map (!·)=_ by show(e)▸?_;rfl) h
abbrev prL(R:Ro)(cur:List Nat)(W:Wd)(v4 v5 v6 v7:Option V)(g t:Nat)(v11 A D F a L M:Option V):List<|Option V:=[I<|.p<|dX R,I<|.p<|.lst<|iL cur,I<|.p<|.bytes<|cz W.Z++W.sg,I<|.ref W.r,v4,v5,v6,v7,I<|.ref g,I<|.ref<|g+1,I<|nV t,v11,A,D,F,a,L,M]
variable{DP jR jy kK kR lU:Option V}
section
variable {R:Ro}{U:List O}
theorem Oz.step{M:List Nat}(g:Oz cu U W p)(K:Keeps M U Y)(Z:RS Y W)(h:∀i∈M,i∈W.U)(t:W.B<=cu.length):Oz cu Y W p:=
 have n:∀j,cu.length+j∉M:=λj m=>absurd (aaG Z _<|h _ m)<|cH.mpr<|iA t
 #[Z,g.K.step K λi m D=>h i m,K.get g.e8<|n 0,K.get g.e9<|n 1]
theorem Oz.and(g:Oz cu U W p)(K:Keeps [] U Y):Oz cu Y W p:=#[g.Z.keeps K λt m=>(cO m),g.K.and K,K.get g.e8 ai,K.get g.e9 ai]
theorem abT(F:PF R cur W k a)(h:R.Ok)(I:Oz cu U W p)(M:W.B<=cu.length)(U':p.length<100)(r:∀Y jR,Oz cu Y W (p++[a])->kk .next #[prL R cur W v4 (ae<|.p<|.bytes (eu W.Z a).o) (ae<|nV a) (ae<|nV k) cu.length (a+(eu W.Z a).size) v11 (ae<|.p<|nP<|R.bs k) (ae<|nV<|lS W.Z a) (ae<|nV (eu W.Z a).raw.length) (ae<|.p<|.bytes<|vq W a) jR DP,Y]) :
  ex (LV<|q+11) X fK.tl.tl.tl.bd.tl.tl.tl.tl.tl.tl #[prL R cur W v4 (ae<|.p<|.bytes (eu W.Z a).o) (ae<|nV a) (ae<|nV k) cu.length (a+(eu W.Z a).size) v11 (ae<|.p<|nP<|R.bs k) (ae<|nV<|lS W.Z a) (ae<|nV (eu W.Z a).raw.length) (ae<|.p<|.bytes<|vq W a) jR DP,U] kk:=by
 have Y':=I.Z.F.ok _ (nT.of F.ha).mem;have s:=(Rj Y').1;have A:=wm Y';have v:=tJ I.Z.F.toGood F.ha;have d:(vq W a).length=(eu W.Z a).size:=by obtain⟨bk,e⟩:=(LX F.ha).1;show bS (e)<|bS (cJ.mE) af
 show A7 (bS (uC I.Z.F F.ha)<|bz af) λdH w=>(lz af<|bq bJ ?_);show lz af<|ls af<|xX (i:=18) (n:=(eu W.Z a).raw.length) af af (dO [_] (V0+1) 150 (V0+1) 16 af s) λgY z=>(ls af<|ls af<|xX (i:=18) (n:=(vq W a).length) af af (by rw[d];show dO [_] (V0+1) 150 (V0+1) 16 af A) λkQ C=>(ls af<|ls af<|xX (i:=18) (n:=a) af af (dO [_] (V0+1) 150 V0 124 af v) λqu H=>(ls af<|bq bJ ?_)));have f:=(((((I.and w).and<|(Keeps.app (j:=[O.list [.bytes<|pH<|mY (eu W.Z a).o,blob]])).bG (o:=.gone)<|aE _).and z).and C).and H).and<|(Keeps.app (j:=[O.list [.bytes<|pH<|gq ((eu W.Z a).raw.length:Nat),.bytes<|pH<|gq ((vq W a).length:Nat),.bytes<|pH<|gq (a:Nat)]])).bG (o:=.gone)<|aE _;show lz af<|ls af<|aN (gf f.e8)<|Yb (.p<|Zw<|(mu W.Z a).map pH) (λK g=>?_) λJ Q=>?_
 ·unfold mu at g;rw[show gq ((eu W.Z a).size)=gq ((vq W a).length:Nat)by show sB (d) af]at g;rcases F.b with ⟨b0,D⟩ | ⟨b,y,T,bn,e2,e3,hy,D⟩
  ·rw[b0]at g;show mT au (decide_eq_false<|by rw[D];decide)<|lz af<|bq bJ<|lz af<|g _<|Keeps.bG .app<|aE _
  ·replace g:=(e2)▸g;simp only[e3]at g;show mT aB (decide_eq_true<|fD.mpr D)<|lz af ?_;show kD (b:=pH<|gq<|lS W.Z a) bJ ?_ ?_
   ·change(iD<|.int<|48+(lS W.Z a)).bind _=_;rw[kh (x:=48+(lS W.Z a:Nat)) #[((ze [_] (.n 0)<|.a (.n 48)<|.c V0).mpr<|Fo [_] 0 (48+V0) af),((zl [_] (.a (.n 48)<|.c V0)<|.n 256).mpr<|dO [_] (48+V0+1) 256 (V0+1) 10 af F.d4)],vY F.d4,show((48:Int)+(lS W.Z a:Nat)).toNat=48+lS W.Z a by lia];rfl
   show Pu T bn<|A7 (bz af) λW3 K8=>(lz af<|bq bJ<|lz af<|g _<|((Keeps.app (I:=[])).and K8).and<|Keeps.bG .app<|aE _)
 ·have t:=f.and Q;show j3 t.e8<|aN (by rw[ay];show aW U'<|bz af) ?_;have l:=@Keeps.set J cu.length<|.list<|(p.map λa=>Zw<|(mu W.Z a).map pH)++[Zw<|(mu W.Z a).map pH];have L:=l.get t.e9<|cX<|bT<|bE _;show aN (gf L)<|j3 L<|aN (by rw[ay,ay];show aW U'<|bz af) ?_;show r _ _ #[(t.Z.keeps l λi m=>.inr<|bS (ah.mp m) M).keeps Keeps.set λi m=>.inr<|by rw[ah.mp m];show dP M,(t.K.bG<|aE _).bG<|eV _,(Keeps.set.get (cM t.e8)<|cX<|aS<|bE _).trans<|by rw[aO];rfl,(cM L).trans<|by rw[iL,iL,aO,aO];rfl]
end
theorem UO{g:List cJ}:CH 5 (Ow g a) (Ow g a)=I aB:=by
 unfold Ow;induction nt g a with
 |none=>rfl
 |some q=>show GO
theorem Vq{g:List cJ}:CH 5 (Yz g a) (Yz g a)=I aB:=by
 show oQ λx m=>?_;rcases aC.mp m with rfl|m
 ·show GO (n:=4)
 ·show(ah.mp m)▸GO (n:=4)
section
variable {R:Ro}{U:List O}{Tv QJ VD:Option V}
theorem yn{s r:S}(h:ex Γ X s σ<|aeO (ex Γ X r) K):ex Γ X (.cons s r) σ K:=h
theorem YN{c:Nat}{g:List<|Option V}{K:V->St->Prop}{z:P}(h:k<R.n)(t:g[i]?.join=I (.p<|dX R))(A:g[j]?.join=I (nV k))(D:[P.bytes<|oN k,.bytes<|R.c k,nP<|R.bs k][c]?=I z)(F:K (.p z) #[g,U]):ev Γ X (.sub (.sub (.loc i)<|.loc j)<|.c<|.int c) #[g,U] K:=by show bq t<|bq A<|lA (jE h) ?_;show bq ?_ F;change(match decide (0<=(c:Int))with|true=>[P.bytes<|oN k,.bytes<|R.c k,nP<|R.bs k][(c:Int).toNat]? | au=>az).map V.p=_;rw[decide_eq_true<|bj c,gZ];rw[D];rfl
theorem Tt{e r:E}{K:List V->St->Prop}(h:ev Γ X e σ<|YD (yt Γ X r) K):yt Γ X (.cons e r) σ K:=h
theorem ade{t:Bool}{g A:E}(h:yt Γ X A σ<|aeP g.len t (Lj Γ X g.list.reverse) (Kc Γ X g) kk):ex Γ X (.mV t g A) σ kk:=h
theorem WB(F:PF R cur W k a)(h:R.Ok)(g:∀k∈cur,k<R.n)(A:kk .next #[vN (I<|.p<|dX R) (I<|.p<|.lst<|iL cur) jy lU v4 v5 v6 (I<|nV k) v8 v9 v10 (I<|.p<|.bytes<|R.c k) (I<|.p<|nP<|R.bs k) (I<|nV<|lS W.Z a) kR kK jR DP,U]) :
  ex (LV<|q+11) X (.mV au (.cons (.loc 11)<|.cons (.loc 12)<|.cons (.loc 13) .nil)<|.cons (.sub (.sub (.loc 0)<|.loc 7)<|.c<|.int 1)<|.cons (.sub (.sub (.loc 0)<|.loc 7)<|.c<|.int 2)<|.cons (.call 788<|.cons (.loc 0)<|.cons (.loc 7)<|.cons (.loc 1) .nil) .nil) #[vN (I<|.p<|dX R) (I<|.p<|.lst<|iL cur) jy lU v4 v5 v6 (I<|nV k) v8 v9 v10 Tv QJ VD kR kK jR DP,U] kk:=by obtain⟨D,M,t⟩:=F.D;show ade<|Tt<|YN (g k F.hk) af af af<|Tt<|YN (g k F.hk) af af af<|Tt ?_;show Dy h g M F.hk<|bS (t)<|aN af<|ls af<|ls af<|ls af<|aN af A
theorem VL(F:PF R cur W k a)(h:R.Ok)(d:∀k∈cur,k<R.n)(I:Oz cu U W p)(L:W.B<=cu.length)(v:p.length<100)(w:∀Y v11 jy lU kR kK jR,Oz cu Y W (p++[a])->kk .next #[prL R cur W v4 (ae<|.p<|.bytes (eu W.Z a).o) (ae<|nV a) (ae<|nV k) cu.length (a+(eu W.Z a).size) v11 jy lU kR kK jR DP,Y]) :
  ex (LV<|q+11) X fK.tl.tl.tl.bd #[prL R cur W v4 (ae<|.p<|.bytes (eu W.Z a).o) (ae<|nV a) (ae<|nV k) cu.length a v11 jy lU kR kK jR DP,U] kk:=by
 have G:=I.Z.F.toGood;have x:=I.Z.F.ok _ (nT.of F.ha).mem;have rl:=Rj x;have z:=d k F.hk;show hd λΩ C=>?_;obtain⟨D,hD,H⟩:=F.D;obtain⟨⟨bk,e⟩,M⟩:=LX F.ha;obtain⟨t,J⟩:=@Ip (eu W.Z a) bk;show C ?_;have f:(vq W a).length=(eu W.Z a).size:=bS e<|bS cJ.mE af;have Q:(vq W a)[0]?=ae (aP<|(eu W.Z a).kn*16+(eu W.Z a).raw.length):=by show bS e<|bS J ?_;rfl
 have j:=G.gz;rw[kG]at M;show yn<|WB F h d ?_;show aav (nV (eu W.Z a).raw.length) (λK g=>?_) ?_
 ·rcases F.b with ⟨b0,A⟩ | ⟨b,y,l,r,U',s,T,A⟩
  ·have eb:=(zM G F.ha).mp b0;rw[show(eu W.Z a).raw=R.c k by unfold cJ.raw;show bS (eb) F.c]at g;show kT aB (by show bS (A) ?_;rfl) g
  ·obtain⟨bo,eb⟩:=IM I.Z.F<|pK.mpr #[F.ha,U'];rw[show(eu W.Z a).raw=dl (eu W.Z y).c.length (R.c k)by unfold cJ.raw;show bS (eb)<|bS (F.c) af]at g;show kT au (beq_eq_false_iff_ne.mpr λζ=>jX<|fZ [_] 1 0 (0+1) V0 V0 0 af A<|ak<|(zq [_] (.c V0)<|.n 0).mp ζ) g
 show ls af<|aN (bF I.Z.obj)<|Nx I.Z F.ha<|ls af<|FQ au (by rw[beq_self_eq_true];rfl)<|wg (n:=a) af (fZ [_,_,_] (V0+1) 1000000 (V0+V1) (12+V2) V2 112 af M j)<|wg (by change((a:Nat):Int)+((vq W a).length:Nat)=_;show bS f ?_;rfl) (fZ [_,_,_] (V0+V1+1) 1000000 (V0+V1) (12+V2) V2 112 af M j)<|u9 af<|FT au (by change(!(vq W a==vq W a))=au;rw[beq_self_eq_true];rfl)<|vQ (i:=0) Q<|aN (by decide) ?_;show FQ au (by show bS (u8<|by lia)<|bS (Cw _<|by decide) ?_;rw[show(((eu W.Z a).kn*16+(eu W.Z a).raw.length:Nat):Int)%16=((eu W.Z a).raw.length)by lia,beq_self_eq_true];rfl) ?_
 show aN (bF I.Z.obj)<|uF I.Z F.ha<|FT au af<|aN (bF I.Z.obj)<|uP I.Z F.ha (av L I.K.len) λdH K1 Y'=>?_;show lz af (qn au (show(CH 5 (Yz W.Z a)<|.tup [blob,.bytes<|R.c k]).map (!·)=_ by show sB (F.c)<|(Vq)▸?_;rfl)<|aN (bF Y'.obj)<|uO Y' F.ha<|aav (.p<|Ow W.Z a) (λK g=>?_) ?_)
 ·unfold Ow at g;rcases F.b with ⟨b0,A⟩ | ⟨b,y,l,r,U',s,T,A⟩
  ·rw[b0]at g;show mT au (decide_eq_false<|by rw[A];decide) g
  ·rw[U']at g;simp only[s]at g;show mT aB (decide_eq_true<|fD.mpr A)<|Pu l r g
 show UR UO<|ls af ?_;change ex _ _ fK.tl.tl.tl.bd.tl.tl.tl.tl.tl.tl #[prL R cur W v4 _ _ _ _ (a+(vq W a).length) _ _ _ _ _ _ _,dH] _;show(f)▸(abT F h (I.step K1 Y' (λ_ m=>m) L) L v λY jR I2=>w Y _ _ _ _ _ jR I2)
end
theorem qX{a b:List Nat}:pH (a++b)=pH a++pH b:=aO ..
theorem ZV:pH (jN ws)=jn (ws.map pH):=by
 induction ws with
 |nil=>rfl
 |cons w r g=>
  induction r with
  |nil=>show qX
  |cons x r=>change pH (eg [32] (w::x::r))=eg [32] (pH w::pH x::r.map pH);show bS iO<|bS iO<|bS qX<|bS qX ?_;show congrArg (_++·) g
theorem UA:((List.range 127).all λn=>iG n 32||!Builtin.Bytes.isSpace (aP n)&&!(aP n==10))=aB:=by decide +kernel
theorem Ym(h:33<=n/\n<127):fJ (aP n)=au/\aP n≠10:=by have:=cQ.mp UA n<|cY.mpr h.2;rw[TY,fg,Oo,Oo]at this;have:=this.resolve_left λz=>absurd (bZ z)<|wq.mpr<|dO [_] (32+1) V0 33 V0 af h.1;show#[this.1,beq_eq_false_iff_ne.mp this.2]
theorem Vg{w:List Nat}(h:TW w):abp<|pH w:=⟨λe=>h.1<|nO.mp e,λc m=>by
 show gO m λn g t=>t▸?_
 show(Ym<|h.2 n g).1⟩
theorem abD(g:ws≠[])(h:∀w∈ws,TW w):mO (pH<|jN ws)=ws.map pH:=by
 show bS (ZV) ?_;induction ws with
 |nil=>show absurd af g
 |cons w r=>show adP λx m=>by show gO (show x∈(w::r).map pH from m) λy t D=>sB D<|Vg<|h y t
theorem adC(h:∀w∈ws,TW w):(10:UInt8)∉pH (jN ws):=by
 induction ws with
 |nil=>show λm=>(cO m)
 |cons w r t=>
  have g:(10)∉pH w:=λm=>by show gO m λn M e=>((Ym<|(h w<|.head _).2 n M).2 e)
  induction r with
  |nil=>show λm=>g<|aY w▸m
  |cons x r=>
   intro m;have m:(10)∈pH (eg [32] (w::x::r)):=m;rw[iO,qX,qX]at m;rcases aM.mp m with m|m
   ·show(aM.mp m).elim g λm=>absurd (ah.mp m)<|by decide
   ·show t (λy D=>h y<|.tail _ D) m
theorem Qk{g:List cJ}(F:oE H g):j2 (lsB g) 10=((sV g).map λws=>pH<|jN ws)++[[]]:=by
 have:=Mv λl m=>by obtain⟨ws,t,rfl⟩:=dD.mp m;show adC<|Jt F ws t
 show bS (WW)<|sB (this)<|congrArg (UE 10) ?_;unfold lsB pH;show bS List.map_flatten<|bS bw<|bS bw ?_;show congrArg Zo<|cL λws Z=>?_;show qX
theorem aag{g:List cJ}(F:oE H g):(lsB g).length<=13200:=by unfold lsB pH;rw[ay];show av (F0 λl m=>?_) (by rw[ay];show bW 100<|DX F);show gO m λws t D=>D▸(Qh F ws t)
theorem Sz{l:List α}{x:α}:cut (l++[x]) A (I<|-1)=l:=by
 unfold cut;have e:∀n:Nat,yq (n+1) (I<|-1) (n+1)=n:=λn=>by change(if (-1)<0 then ((-1)+((n+1:Nat):Int)).toNat else min (-1:Int).toNat (n+1))=n;rw[if_pos<|by decide];show congrArg Int.toNat<|(HJ ..).trans<|Int.add_neg_cancel_right (n:Int) 1
 rw[aj,show l.length+[x].length=l.length+1 from rfl,e];show jK
theorem aaZ{t:List cJ}:∀ws∈sV t,ws≠[]:=λws m=>by
 rcases aM.mp m with m|m
 ·show gO m λa Z g=>sB g<|fL _ _
 ·show gO m λd Z g=>sB g ?_
  unfold u6
  by_cases e:d=0
  ·show bS (if_pos e)<|fL _ _
  ·show bS (if_neg e)<|fL _ _
noncomputable def S.fr:S->S
 |.Ug _ r=>r
 |s=>s
abbrev wsP(ws:List<|List Nat):P:=Zw<|ws.map pH
structure PD(cu U:List O)(W:Wd)(rs:List (List (List Nat))):Prop where
 Z:RS U W
 K:Keeps W.U cu U
 e8:U[cu.length]?=I (.list<|rs.map wsP)
section
variable {U:List O}{rs:List (List (List Nat))}
theorem PD.and(t:PD cu U W rs)(K:Keeps [] U Y):PD cu Y W rs:=#[t.Z.keeps K λg m=>(cO m),t.K.and K,K.get t.e8 ai]
theorem Hg:(ds.flatMap λn=>if n=d then [P.int n] else [])=(ds.filter (· = d)).map λ(n:Nat)=>P.int n:=by
 induction ds with
 |nil=>rfl
 |cons x r g=>
  show bS iN<|bS g<|bS jc ?_;by_cases e:x=d
  ·rw[if_pos e,if_pos<|decide_eq_true e];rfl
  ·rw[if_neg e,if_neg<|by rw[decide_eq_true_iff];show e];rfl
theorem b48{n:Nat}(h:n<10){U:List O}(e:U[i]?=I (.list [.int<|48+(n:Nat)])):sN U (.ref i)=I (pH<|gq n):=DM e (by
 change(iD<|.int<|48+(n)).bind _=_
 rw[kh (x:=48+(n)) #[((ze [_] (.n 0)<|.a (.n 48)<|.c V0).mpr<|Fo [_] 0 (48+V0) af),((zl [_] (.a (.n 48)<|.c V0)<|.n 256).mpr<|dO [_] (48+V0+1) 256 (V0+1) 10 af h)],vY h,show((48:Int)+(n)).toNat=48+n by lia];rfl)
theorem WJ(v:PD cu U W rs)(w:W.B<=cu.length)(L:rs.length<900)(M:ds.length<=7)(hd:d<10)
  (s:∀Y DP,PD cu Y W (rs++[u6 ds d])->kk .next #[vN v0 v1 v2 v3 v4 v5 v6 v7 (I<|.ref cu.length) (I<|.p<|.lst<|iL ds) v10 v11 jy (I<|nV d) kR kK jR DP,Y]) :
  ex (LV q) X fK.tl.tl.tl.tl.fr.bd #[vN v0 v1 v2 v3 v4 v5 v6 v7 (I<|.ref cu.length) (I<|.p<|.lst<|iL ds) v10 v11 jy (I<|nV d) kR kK jR DP,U] kk:=by
 have b:∀{n:Nat},n<10->(pH<|gq n).length=1:=λh=>by rw[vY h];rfl
 show Ey (λ(n:Nat)=>P.int n) (λn=>if n=d then [.int n] else []) (λt=>afT v0 v1 v2 v3 v4 v5 v6 v7 (I<|.ref cu.length) (I<|.p<|.lst<|iL ds) v10 v11 jy (I<|nV d) kR kK jR DP t) (λl Y=>Y=U) (λp a r e t Y f o L D=>?_) (λa=>by by_cases e:a=d<;>simp[e]) (av M<|c6 af) A af λt Y o=>?_
 ·show ls af ?_;by_cases e:a=d
  ·rw[if_pos e]at D;show kT aB ((e)▸beq_self_eq_true _)<|aN L<|D _ _ o
  ·rw[if_neg e,aY]at D;show kT au (beq_eq_false_iff_ne.mpr λz=>e<|jf z)<|D _ _ o
 ·subst o;show bS Hg<|vp bJ ?_;rw[ay];show lz af (bq (b48 (n:=(ds.filter (· = d)).length) (dO [_] (V0+1) 10 V0 7 af<|av (fk ..) M) bJ)<|ls af ?_);have R:=(v.and (Keeps.app (j:=[O.list ((ds.filter (· = d)).map λ(n:Nat)=>P.int n)]))).and (Keeps.app (j:=[O.list [.int (48+((ds.filter (· = d)).length:Nat))]]));show aN (gf R.e8) (Yb (.p<|wsP<|u6 ds d) (λK g=>?_) λk c=>?_)
  ·unfold u6 at g;by_cases e:d=0
   ·rw[if_pos e]at g;show kT aB (by rw[e];rfl)<|lz af<|bq bJ<|g _<|Keeps.bG .app<|aE _
   ·rw[if_neg e]at g;show kT au (beq_eq_false_iff_ne.mpr λz=>e<|jf z)<|lz af<|bq (b48 hd bJ)<|aN (bS (b hd)<|c6 af)<|lz af<|bq bJ ?_;rw[show wsP [[99,104,97,105,110],[111,102],gq (d)++[58],gq ((ds.filter (· = d)).length:Nat)]=.lst [.bytes [99,104,97,105,110],.bytes [111,102],.bytes<|pH (gq<|d)++[58],.bytes (pH (gq ((ds.filter (· = d)).length:Nat)))]by change P.lst [_,_,.bytes<|pH<|_++_,_]=_;show bS (qX) ?_;rfl]at g
    show g _<|(Keeps.app).and<|Keeps.bG .app<|aE _
  ·have F:=R.and c;show j3 F.e8<|aN (by rw[ay];show aW L<|bz af)<|s _ _ #[F.Z.keeps Keeps.set λi m=>.inr<|by rw[ah.mp m];show w,F.K.bG<|aE _,(cM F.e8).trans<|by show bS aO ?_;rfl]
end
theorem agc:-yj<(-1:Int)/\(-1:Int)<yj:=by decide +kernel
section
variable {U:List O}
theorem WY{kk:Bool->St->Prop}{l:List<|Option V}(v:PD cu U W<|sV W.Z)(R:W.B<=cu.length)(w:l[3]?.join=I (.ref W.r))(y:l[8]?.join=I (.ref cu.length))(L:l.length=18)(b:∀Y,PD cu Y W (sV W.Z)->kk au #[l,Y]) :
  BH (LV<|q+11) X (.cmp .NotEq (.comp 1 (.loc 18) (.slice (.bm .BitAnd (.call 723<|.cons (.loc 3) .nil)<|.cons (.c<|.bytes [10]) .nil) .nil<|.neg<|.c<|.int 1) .nil<|.bm .BitXor (.loc 18) .nil)<|.loc 8) #[l,U] kk:=by
 show bq w<|Jf v.Z (av R v.K.len) λd f g=>(aN af<|aN (av (fH (aag g.F) 2)<|c6 af)<|bq (abj agc) ?_);show bq (a:=.lst<|(sV W.Z).map λws=>P.bytes<|pH<|jN ws) (by change I (P.lst<|cut ((j2 (lsB W.Z) 10).map P.bytes) A<|I<|-1)=_;show bS (Qk g.F)<|bS aO<|bS dR<|bS Sz<|bS bw ?_;rfl) ?_
 show mC (λws=>P.bytes<|pH<|jN ws) wsP (λt=>l++[t]) (λo Y=>Y=d) (λp ws r e t Y h i s k n=>?_) (av (DX g.F)<|c6 af) A af λt Y s=>?_
 ·subst s;have D:ws∈sV W.Z:=bS e<|aG _<|.head _;show aN (bS aj<|bS L<|bE _) ?_;change bO (((l++[t]).set 18<|I<|.p<|.bytes<|pH<|jN ws)[18]?.join) _;show sB L<|bS vG ?_;show bq (a:=V.p<|.bytes<|pH<|jN ws) (by rw[Gh];rfl) ?_;show aN af (aN af<|aN ?_ ?_)
  ·have:=Qh g.F ws D;rw[aj]at this;unfold pH;rw[ay];show av (fH (av (bg _ _) this) 2)<|c6 af
  ·rw[abD (aaZ ws D)<|Jt g.F ws D];show aN k ?_;change i _ #[(l++[t]).set l.length _,_];rw[vG];show n _ _ af
 ·subst s;change bO ((((l++[t]).take<|(l++[t]).length-1)[8]?).join) _;rw[aj,show l.length+[t].length-1=l.length from kX ..,jK];have M:=(v.and f).and<|Keeps.app (j:=[O.list<|(sV W.Z).map wsP]);show bq y (En bJ M.e8 (oQ λx m=>?_) ?_)
  ·obtain⟨ws,_,rfl⟩:=dD.mp m;show adL
  ·change kk au #[(l++[t]).take<|(l++[t]).length-1,_];rw[aj,show l.length+[t].length-1=l.length from kX ..,jK];show b _ M
theorem abt(a:PD cu U W<|sV W.Z)(t:W.B<=cu.length)(A:W.sg.length=4)(D:∀Y,Keeps W.U cu Y->RS Y W->Q (.ok<|.p<|.bool aB) Y) :
  ex (LV<|q+11) X fK.tl.tl.tl.tl.fr.tl #[vN v0 v1 (I<|.p<|.bytes<|cz W.Z++W.sg) (I<|.ref W.r) v4 v5 v6 v7 (I<|.ref cu.length) v9 (I<|nV<|12+gz W.Z) v11 jy lU kR kK jR DP,U] λf σ=>Q (.ok<|kJ f) σ.U:=by
 have e:(((cz W.Z++W.sg).length:Nat):Int)-4=(12+gz W.Z:Nat):=by show bS (aj)<|sB (kG)<|bS (A) ?_;lia
 show FQ au (by rw[e,beq_self_eq_true];rfl)<|WY a t af af af λR g=>(aN (bF g.Z.obj) ?_);show Sq g.Z (av t g.K.len) λF L M=>(nE aB af<|D F (g.K.step L λi m b=>m) M)
theorem adz(h:ds≠[]):xQ (ds.map λ(n:Nat)=>(n:Int))=xQ (-1::ds.map λ(n:Nat)=>(n:Int)):=by
 induction ds with
 |nil=>show absurd af h
 |cons x r=>change(r.map _).foldl max (x:Int)=(r.map _).foldl max (max (-1) (x:Int));rw[TX<|by lia]
theorem aa4{R:Ro}{v11 jy lU kR kK jR DP:Option V}(h:R.Ok)(k:Ord R cur)(b:W.Z=R.Z wc cur)(o:cur≠[])(I':Oz cu U W<|cf W.Z)(D:W.B<=cu.length)(s:W.sg.length=4)(w:∀Y,Keeps W.U cu Y->RS Y W->Q (.ok<|.p<|.bool aB) Y) :
  ex (LV<|q+11) X fK.tl.tl.tl.tl #[prL R cur W v4 v5 v6 v7 cu.length (12+gz W.Z) v11 jy lU kR kK jR DP,U] λf σ=>Q (.ok<|kJ f) σ.U:=by
 have c:∀d∈(cf W.Z).map (lS W.Z),d<=3:=bS (b)<|adU h k;have A:(cf W.Z).map (lS W.Z)≠[]:=λz=>by have:=congrArg List.length z;rw[ay,iI,b,Ro.Z,ay]at this;show o<|gX.mp this
 have j:=agH c;have L:=(GX λd m=>av (c d m)<|c6 af).1;have x:((cf W.Z).map<|lS W.Z).length<=7:=by rw[ay];show nH I'.Z.F.toGood
 have y:PD cu (U.set (cu.length+1) .gone) W<|(cf W.Z).map<|mu W.Z:=#[I'.Z.keeps Keeps.set λi m=>.inr<|by rw[ah.mp m];show dP D,I'.K.bG<|eV _,(Keeps.set.get I'.e8<|cX<|aS<|bE _).trans<|congrArg (λl=>I<|O.list l) (bw (g:=wsP) (l:=cf W.Z)).symm];show bq af ?_;show bq I'.e9 ?_;show bq (show jr P.int? (iL _)=_ from we) ?_;show aN (λz=>A<|nO.mp z) ?_;rw[adz A];show aN #[by rw[L];lia,by rw[L];lia]<|bq (a:=(List.range<|mx<|(cf W.Z).map<|lS W.Z).map λ(i:Nat)=>.int i) (bS L<|qj #[(bj _),by lia]) ?_;show lG (λ(d:Nat)=>P.int d) (λt=>vN (I<|.p<|dX R) (I<|.p<|.lst<|iL cur) (I<|.p<|.bytes<|cz W.Z++W.sg) (I<|.ref W.r) v4 v5 v6 v7 (I<|.ref cu.length) (I<|.p<|.lst<|iL<|(cf W.Z).map<|lS W.Z) (I<|nV<|12+gz W.Z) v11 jy t.1 kR kK jR t.2) (λp T Y=>PD cu Y W<|((cf W.Z).map<|mu W.Z)++p.map (u6<|(cf W.Z).map<|lS W.Z)) (λp d r e t Y kk M C=>?_) (lU,DP) (by rw[wN,aY];show y) λt Y M=>?_
 ·have hd:=congrArg List.length e;rw[cA,aj,aX]at hd;have:=cY.mp<|e▸aG _ (.head _);show aN (bz af) ?_;show WJ M D ?_ x (fZ [_,_] (.a (.v 0)<|.n 1) (.n 10) (.v 1) (.n 4) (.a (.v 0)<|.n 1) (.v 1) af j this) λH Y' J=>(C (_,Y') H<|by rw[aO,<- aJ];show J).1;have:=nH I'.Z.F.toGood;rw[aj,ay,ay (as:=p)];show rj [_,_,_,_] (.a (.a (.v 0)<|.v 1)<|.n 1) (.n 900) (.v 2) (.n 4) (.a (.v 1)<|.a (.v 3)<|.n 1) (.v 2) (.v 0) (.n 7) af j (ak hd.symm) this
 ·show abt M D s w
end
structure Tp where
 a5:Option V
 a6:Option V
 a7:Option V
 e:Nat
 a11:Option V
 a12:Option V
 a13:Option V
 a14:Option V
 a15:Option V
 a16:Option V
 a17:Option V
theorem afi{R:Ro}:(cf<|R.Z wc cur).map (λa=>P.bytes (eu (R.Z wc cur) a).o)=cur.map λn=>.bytes<|oN n:=by
 have:∀{g l:List cJ}{s:Nat},(∀x∈D6 s l,eu g x.1=x.2)->((D6 s l).map (·.1)).map (λa=>P.bytes (eu g a).o)=l.map λe=>.bytes e.o:=by
  intro g l;induction l with
  |nil=>show λZ=>rfl
  |cons x l t=>intro s h;change P.bytes (eu g s).o::_=P.bytes x.o::_;show bS (h (s,x)<|.head _) (congrArg (_::·)<|t λy m=>h y<|.tail _ m)
 show bS uM<|bS (this λx m=>(show nT _ x.1 x.2 from zv m).en) ?_;unfold Ro.Z;show bS bw ?_;rfl
section
variable {R:Ro}{U:List O}
theorem Wt(h:R.Ok)(D:Ord R cur)(A:W.Z=R.Z wc cur)(n:cur≠[])(s:W.sg.length=4)(Z:RS U W)(Y':W.B<=U.length)(v:∀Y,Keeps W.U U Y->RS Y W->Q (.ok<|.p<|.bool aB) Y) :
  ex (LV<|q+11) X fK.tl.tl #[[I<|.p<|dX R,I<|.p<|.lst<|iL cur,I<|.p<|.bytes<|cz W.Z++W.sg,I<|.ref W.r,I<|.p<|.lst<|(cf W.Z).map<|C5 W.Z,az,az,az,az,az,az,az,az,az,az,az,az,az],U] λf σ=>Q (.ok<|kJ f) σ.U:=by
 have w:=D.len h;have F:cur.length=(cf W.Z).length:=by rw[iI,A,Ro.Z,ay]
 show lz af<|lz af ?_;show aN af<|ls af<|ls af<|ls af ?_;have b:Keeps [] U<|U++[O.list []]:=.app;have L:Keeps [] (U++[O.list []])<|(U++[O.list []])++[O.list []]:=.app;have x:=by have:=bJ (a:=U++[O.list []]) (o:=.list []) (r:=[]);rwa [aj]at this
 change Cp _ (((iL cur).zip<|(cf W.Z).map<|C5 W.Z).map λz=>P.tup [z.1,z.2]) _ _;rw[show(((iL cur).zip<|(cf W.Z).map<|C5 W.Z).map λz=>P.tup [z.1,z.2])=(cur.zip<|cf W.Z).map λz=>P.tup [.int<|z.1,C5 W.Z z.2]by rw[iL,List.zip_map,bw];rfl];change Cp _ _ #[[I<|.p<|dX R,I<|.p<|.lst<|iL cur,I<|.p<|.bytes<|cz W.Z++W.sg,I<|.ref W.r,I<|.p<|.lst<|(cf W.Z).map<|C5 W.Z,az,az,az,I<|.ref U.length,I<|.ref (U++[O.list []]).length,I<|nV 12,az,az,az,az,az,az,az],_] _;show bS (aj ..) (lG (τ:=Tp) (λ(z:Nat×Nat)=>P.tup [.int (z.1:Nat),C5 W.Z z.2]) (λt=>prL R cur W (I<|.p<|.lst<|(cf W.Z).map<|C5 W.Z) t.a5 t.a6 t.a7 U.length t.e t.a11 t.a12 t.a13 t.a14 t.a15 t.a16 t.a17) (λp t Y=>Oz U Y W (p.map (·.2))/\t.e=12+gz (p.map λy=>R.ef wc cur y.1)) (λp z r e t Y kk I' M=>?_) #[az,az,az,12,az,az,az,az,az,az,az] #[(#[Z.keeps (b.and L) λ_ m=>(cO m),(b.and L).none,L.get bJ ai,x]),rfl] λt Y I'=>?_)
 ·have c:=e;rw[A]at c;obtain⟨d,C,i⟩:=KZ c;have pl:=congrArg List.length e;rw[TZ,aj,aX]at pl;show aN af<|ls af<|aN af<|ls af<|ls af<|aN af<|aN af ?_;rw[I'.2.trans d.symm];show VL (aez h D A C i) h (λk M=>D.lt k M) I'.1 Y' ?_ λH v11 jy lU kR kK jR J=>(M #[_,_,_,z.2+(eu W.Z z.2).size,v11,jy,lU,kR,kK,jR,_] H #[bS (aO) J,?_]).1
  ·rw[ay];show rj [_,_,_,_] (V0+1) 100 V1 4 (V0+(V2+1)) V3 V3 V1 af w (ak pl.symm)<|Uv _ _
  ·change z.2+(eu W.Z z.2).size=_;show bS A<|bS i.en<|bS d<|bS aO<|bS nB ?_;show eE ..
 ·have K:=yJ<|ak F.symm;have T:((cur.zip<|cf W.Z).map λy=>R.ef wc cur y.1)=W.Z:=by rw[A]at F ⊢;rw[show((cur.zip<|cf<|R.Z wc cur).map λy=>R.ef wc cur y.1)=((cur.zip<|cf<|R.Z wc cur).map (·.1)).map (R.ef wc cur)from(bw (g:=R.ef wc cur)).symm,yK<|ak F];rfl
  have j:=I'.1;have l:=I'.2;rw[K]at j;rw[T]at l;show(l)▸(aa4 h D A n j Y' s v)
theorem KQ(h:R.Ok)(D:Ord R cur)(c:W.Z=R.Z wc cur)(d:cur≠[])(k:W.sg.length=4)(Z:RS U W)(s:W.B<=U.length)(v:∀Y,Keeps W.U U Y->RS Y W->Q (.ok<|.p<|.bool aB) Y) :
  ex (LV<|q+11) X fK.tl #[[I<|.p<|dX R,I<|.p<|.lst<|iL cur,I<|.p<|.bytes<|cz W.Z++W.sg,I<|.ref W.r,I<|.p<|.lst<|(cf W.Z).map<|C5 W.Z,A,A,A,A,A,A,A,A,A,A,A,A,A],U] λf σ=>Q (.ok<|kJ f) σ.U:=by
 show mC (C5 W.Z) (λa=>.bytes (eu W.Z a).o) (λt=>[I<|.p<|dX R,I<|.p<|.lst<|iL cur,I<|.p<|.bytes<|cz W.Z++W.sg,I<|.ref W.r,I<|.p<|.lst<|(cf W.Z).map<|C5 W.Z,A,A,A,A,A,A,A,A,A,A,A,A,A,t.1,t.2]) (λT Y=>Y=U) (λp a r e t Y I' w g L' M=>?_) (av (nH Z.F.toGood)<|c6 af) (A,A) af λt Y g=>?_
 ·cases g
  show aN af<|ls af<|ls af<|aN af ?_;show aN L'<|M (_,_) _ af
 subst g;show mC (λ(n:Nat)=>P.int n) (λn=>.bytes<|oN n) (λt=>[I<|.p<|dX R,I<|.p<|.lst<|iL cur,I<|.p<|.bytes<|cz W.Z++W.sg,I<|.ref W.r,I<|.p<|.lst<|(cf W.Z).map<|C5 W.Z,A,A,A,A,A,A,A,A,A,A,A,A,A,t]) (λT Y'=>Y'=Y++[O.list<|(cf W.Z).map λa=>P.bytes (eu W.Z a).o]) (λp a r e t Y' I' w g L' M=>?_) (av (D.len h)<|c6 af) A af λt Y' g=>?_
 ·subst g;show ls af<|lA (jE<|D.lt a<|e▸aG _ (.head _))<|aN L'<|M _ _ af
 subst g;have b:Keeps [] Y<|Y++[O.list<|(cf W.Z).map λa=>P.bytes (eu W.Z a).o]:=.app;have A':Keeps [] (Y++[O.list<|(cf W.Z).map λa=>P.bytes (eu W.Z a).o]) _:=.app (j:=[O.list<|cur.map λn=>P.bytes<|oN n]);have y:=A'.get (bJ (r:=[])) ai;have z:=(c)▸afi;show En (L:=cur.map λn=>P.bytes<|oN n) (y.trans<|congrArg (λl=>I<|O.list l) z) (bJ (r:=[])) (oQ λx m=>?_) ?_
 ·show gO m λn T C=>C▸GO
 show Wt h D c d k (Z.keeps (b.and A') λT m=>(nomatch m)) (av s (b.and A').len) λH J K=>v H ((b.and A').none.step J λi m T=>m) K
theorem BO(h:R.Ok)(t:Ord R cur)(A:W.Z=R.Z wc cur)(D:cur≠[])(F:W.sg.length=4)(Z:RS U W)(d:W.B<=U.length)(L:∀Y,Keeps W.U U Y->RS Y W->Q (.ok<|.p<|.bool aB) Y):LV (q+12) 800 [.p<|dX R,.p<|.lst<|iL cur,.p<|.bytes<|cz W.Z++W.sg,.ref W.r] U Q:=enter (loc:=[I<|.p<|dX R,I<|.p<|.lst<|iL cur,I<|.p<|.bytes<|cz W.Z++W.sg,I<|.ref W.r,az,az,az,az,az,az,az,az,az,az,az,az,az,az]) af af af<|aN (bF Z.obj)<|IK Z λb g=>(ls af<|KQ h t A D F (Z.keeps g λc m=>(nomatch m)) (av d g.len) λM e a=>L M (g.none.step e λi m c=>m) a)
theorem qi(h:R.Ok)(F:Ord R cur)(g:W.Z=R.Z wc cur)(t:cur≠[])(j:W.sg.length=4)(Z:RB U W<|.p .none)(L:W.dc<U.length)(M:∀Y s B D9 S,Keeps (W.r::W.U) U Y->RS Y (W.on s B D9 S)->B<=Y.length->Q (.ok<|.p<|.bool aB) Y):LV (q+12) 800 [.p<|dX R,.p<|.lst<|iL cur,.p<|.bytes<|cz W.Z++W.sg,.ref W.r] U Q:=by
 show enter (loc:=[I<|.p<|dX R,I<|.p<|.lst<|iL cur,I<|.p<|.bytes<|cz W.Z++W.sg,I<|.ref W.r,A,A,A,A,A,A,A,A,A,A,A,A,A,A]) af af af<|aN (bF Z.obj)<|CX Z L (λz=>?_) λd s B D9 S k a f=>?_
 ·rw[g]at z;show t<|nO.mp z
 show ls af ?_;show KQ (W:=W.on s B D9 S) h F g t j a f λb D c=>M b s B D9 S ?_ c<|av f D.len;show(k.mono λi m e=>(aC.mp m).elim (λz=>bS z<|.tail _<|.head _) λm=>(ah.mp m)▸.head _).step D λi m e=>.tail _ m
end
theorem U8{a b:List α}:cut (a++b) A (I (a.length:Int))=a:=by unfold cut;rw[qR,aj,iM<|bg _ _];show jK
theorem PJ{a b:List α}:cut (a++b) (I (a.length:Int)) A=b:=by unfold cut;rw[qR,aj,iM<|bg _ _,BK];change b.take (a.length+b.length-a.length)=b;rw[dW];show qI
theorem Jl{A:List O}{b c:List P}{g t:Option Int}{k:P->Prop}(e:cut b g t=c)(h:k<|.lst c):bO (QK A (.p<|.lst b) g t) k:=by subst e;show h
theorem Yu{R:Ro}:R.el (!(oin (R.bs k) cur)) wc k=R.ef wc cur k:=by
 unfold Ro.el Ro.ef;induction R.bs k with
 |none=>rfl
 |some b=>
  show bS (fX) ?_;change cJ.mk _ _ _ (if (!(decide (b∈cur)))=aB then A else _)=_;by_cases m:b∈cur
  ·rw[decide_eq_true m];rfl
  ·rw[decide_eq_false m];rfl
theorem aa1{R:Ro}:gz (R.Z wc cur)=gz (R.Z au cur):=by unfold gz Ro.Z;show bS bw<|bS bw ?_;rfl
theorem qY{k:Nat}{t:List cJ}{g:List O}{Q:gT->List O->Prop}(F:oE H t)(X:bP g h d H)(M:g[ci]?=I (.inst 748 []))(U:cz t∈H)(e:2<=h/\2<=d/\2<=ci)
  (Z:∀Y D ca dc,Keeps [d] g Y->RB Y #[H,t,uu H<|cz t,h,d,ci,g.length,D,ca,dc,0,0,[],[]] (.p .none)->g.length<ca/\g.length<dc/\dc<Y.length->Q (.ok<|.ref g.length) Y):LV (k+6) 707 [.p<|.bytes<|cz t++uu H (cz t),.ref h,.ref ci] g Q:=
 I8 F.toGood X M F.hl U af λY D ca dc K c L R a f=>
  Z Y D ca dc K #[f.obj.trans<|sB (aeo F.toGood) af,f.de.trans<|bS (ae9 F.toGood) af,f.ci,a,#[[],0,#[f.ca,f.dc,bV,bz af,aE _],λb m=>(cO m)],e,#[iC X.obj,iC X.mw,iC M,c,L,R],F] #[aW c L,aW c<|aW L R,iC f.dc]
section
variable {R:Ro}{c lf:List Nat}{U:List O}{rest:S}
theorem Xd(g:R.Ok)(t:Ord R c)(M:c≠[])(K:Ak R H)(Z:bP U h d H)(a:U[ci]?=I (.inst 748 []))(b:cz (R.Z wc c)∈H)(f:2<=h/\2<=d/\2<=ci)
  (j:∀Y W,Keeps [d] U Y->RS Y W->W.B<=Y.length->W.Z=R.Z wc c->W.sg=uu H (cz<|R.Z wc c)->W.H=H->W.h=h->W.d=d->W.r=U.length->(∀i∈W.U,i=d∨U.length<=i)->ex (LV<|q+12) X rest #[yS v0 v1 v2 v3 (I<|.ref h) (I<|.ref ci) (I<|.p<|.lst<|iL lf) v7 (I<|.p<|.bytes<|cz (R.Z wc c)++uu H (cz<|R.Z wc c)) (I<|.ref U.length) (I<|nV c.length) (I<|.p<|.lst<|iL c) jy,Y] kk) :
  ex (LV<|q+12) X (.cons (.asg (.loc 9)<|.call 707<|.cons (.loc 8)<|.cons (.loc 4)<|.cons (.loc 5) .nil)<|.cons (.asg (.loc 10)<|.bi .Add<|.cons (.eN (.loc 9) 707 650 .nil) .nil)<|.cons (.mV aB (.cons (.loc 11)<|.cons (.loc 6) .nil)<|.cons (.slice (.loc 6) .nil<|.loc 10)<|.cons (.slice (.loc 6) (.loc 10) .nil) .nil) rest)
   #[yS v0 v1 v2 v3 (I<|.ref h) (I<|.ref ci) (I<|.p<|.lst<|iL<|c++lf) v7 (I<|.p<|.bytes<|cz (R.Z wc c)++uu H (cz<|R.Z wc c)) v9 v10 v11 jy,U] kk:=by
 show qY (Du g t K) Z a b f λx y ca dc k D Q=>(ls af<|aN (bF D.obj)<|CX D Q.2.2 (λz=>M<|nO.mp z) λl s B D9 S n o v=>?_);have w:((cf<|R.Z wc c).map<|C5<|R.Z wc c).length=c.length:=by rw[ay,iI,Ro.Z,ay]
 show ls af<|(w)▸?_;have F:iL (c++lf)=iL c++iL lf:=aO ..;have C:(iL c).length=c.length:=ay ..;show Pg (aI (t.len g)<|bz af)<|Jl (c:=iL c) (by rw[F,<- C,U8])<|Pg (aI (t.len g)<|bz af)<|Ks<|Jl (bS F<|sB C<|bS PJ af) ?_;show aN af<|ls af<|ls af ?_;show j l _ (k.step n λi m L=>?_) o v af af af af af af λi m=>?_
 ·rcases aC.mp m with e|m
  ·show bS e<|.head _
  ·rw[ah.mp m]at L;show absurd L<|cP _
 ·rcases aC.mp m with e|m
  ·show .inl e
  ·rcases aC.mp m with e|m
   ·show bS e<|.inr<|fO Q.1
   ·show bS (ah.mp m)<|.inr<|fO Q.2.1
theorem WH(i:R.Ok)(L:Ord R c)(t:c≠[])(A:W.Z=R.Z wc c)(D:W.sg.length=4)(Z:RS U W)(M:W.B<=U.length)(j:1<c.length->16+gz (R.Z wc c)<=mo)
  (a:∀Y,Keeps W.U U Y->RS Y W->ex (LV<|q+12) X rest #[yS (I<|.p<|dX R) v1 v2 (I<|nV mo) v3 v7 v8 v9 (I<|.p<|.bytes<|cz W.Z++W.sg) (I<|.ref W.r) (I<|nV c.length) (I<|.p<|.lst<|iL c) jy,Y] kk) :
  ex (LV<|q+12) X (.cons (.ifs (.zH<|.cons (.cmp .Eq (.loc 10)<|.c<|.int 0)<|.cons (.nK<|.cons (.cmp .Gt (.loc 10)<|.c<|.int 1)<|.cons (.cmp .Gt (.bi .Add<|.cons (.loc 8) .nil)<|.loc 3) .nil)<|.cons (.not<|.v<|.call 800<|.cons (.loc 0)<|.cons (.loc 11)<|.cons (.loc 8)<|.cons (.loc 9) .nil) .nil) (.cons (.ret<|.c<|.bool au) .nil) .nil) rest)
   #[yS (I<|.p<|dX R) v1 v2 (I<|nV mo) v3 v7 v8 v9 (I<|.p<|.bytes<|cz W.Z++W.sg) (I<|.ref W.r) (I<|nV c.length) (I<|.p<|.lst<|iL c) jy,U] kk:=by
 show kT au (beq_eq_false_iff_ne.mpr λd=>jX<|fZ [_] 1 0 (0+1) V0 V0 0 af (jZ.mpr t)<|ak<|(zq [_] (.c V0)<|.n 0).mp d)<|YR (b:=au) (λK F=>?_) ?_
 ·by_cases g:1<c.length
  ·show mT aB (decide_eq_true<|(zl [_] (.n 1)<|.c V0).mpr<|dO [_] (1+1) V0 (1+1) V0 af g) ?_;have:=j g;show mT au (decide_eq_false ?_) F;change ¬((mo:Nat):Int)<((cz W.Z++W.sg).length);show bS aj<|bS kG<|bS D<|bS A ?_;show gK.mpr<|(ze [_,_] (.c<|12+V0+4)<|.c V1).mpr<|dO [_,_] (12+V0+4) V1 (16+V0) V1 af this
  ·show mT au (decide_eq_false<|gK.mpr<|(ze [_] (.c V0)<|.n 1).mpr<|dO [_] V0 1 V0 1 af<|m6 g) F
 show BO i L A t D Z M λe f h=>(fj<|a e f h)
end
noncomputable def laP:Option (List Nat)->P
 |none=>.none
 |some c=>.lst<|iL c
section
variable {k0:Nat}{R:Ro}{lc c lf:List Nat}{U:List O}{rest:S}
theorem Wo(A:R.Ok)(D:∀k∈lc,k<R.n)(F:lc.length<=4)(h:∀Y i,Keeps [] U Y->U.length<=i->Y[i]?=I (.list<|lc.map λk=>(R.ef au lc k).val)->kk .next #[yS (I<|.p<|dX R) v1 v2 v3 v6 v7 v8 (I<|.p<|.lst<|iL lc) v9 v10 v11 jy<|I<|.ref i,Y]){lU:Option V} :
  ex (LV<|q+12) X (.yV 12 1 au (.loc 13) (.loc 7) .nil<|.call 776<|.cons (.loc 0)<|.cons (.loc 13)<|.cons (.cmp .NotIn (.sub (.sub (.loc 0)<|.loc 13)<|.c<|.int 2)<|.loc 7)<|.cons (.c<|.bool au) .nil)
   #[yS (I<|.p<|dX R) v1 v2 v3 v6 v7 v8 (I<|.p<|.lst<|iL lc) v9 v10 v11 jy lU,U] kk:=by
 show mC (λ(n:Nat)=>P.int n) (λk=>(R.ef au lc k).val) (λt=>afX (I<|.p<|dX R) v1 v2 v3 v6 v7 v8 (I<|.p<|.lst<|iL lc) v9 v10 v11 jy lU t) (λd Y=>Keeps [] U Y) (λp a r e t Y L Z K M j=>?_) (av F<|c6 af) az .refl λt Y K=>?_
 ·have g:=D a<|e▸aG _ (.head _);show ls af<|lA (jE g)<|Se<|qQ A g λb f=>((Yu)▸(aN M<|j _ _<|K.and f))
 ·show ls af<|h _ _ (K.and .app) K.len bJ
theorem UG(g:R.Ok)(D:Ord R<|lc++[k0])(F:k0<R.n)(T:∀j∈lc,R.bs j≠I k0)(L:c.head?=I k0)(e:mo<16+gz (R.Z au lc)+(R.ef au lc k0).size)(f:bP U h d H)(l:U[ci]?=I (.inst 748 []))(r:H.length<250)
  (s:∀Y jy,Keeps [d] U Y->bP Y h d (pZ H<|cz<|R.Z au<|lc++[k0])->kk .next #[yS (I<|.p<|dX R) v1 v2 (I<|nV mo) (I<|.ref h) (I<|.ref ci) v6 (I<|.p<|.lst<|iL lc) v8 v9 v10 (I<|.p<|.lst<|iL c) jy,Y]) :
  ex (LV<|q+12) X (.cons (.yV 12 1 au (.loc 13) (.loc 7) .nil<|.call 776<|.cons (.loc 0)<|.cons (.loc 13)<|.cons (.cmp .NotIn (.sub (.sub (.loc 0)<|.loc 13)<|.c<|.int 2)<|.loc 7)<|.cons (.c<|.bool au) .nil)<|.cons (.ex<|.bm .Add (.loc 12)<|.cons (.call 776<|.cons (.loc 0)<|.cons (.sub (.loc 11)<|.c<|.int 0)<|.cons (.cmp .NotIn (.sub (.sub (.loc 0)<|.sub (.loc 11)<|.c<|.int 0)<|.c<|.int 2)<|.loc 7)<|.cons (.c<|.bool au) .nil) .nil)<|.cons (.ifs (.cmp .LtE (.bi .Add<|.cons (.call 407<|.cons (.fz<|.loc 12)<|.cons (.loc 4)<|.cons (.loc 5) .nil) .nil)<|.loc 3) (.cons (.ret<|.c<|.bool au) .nil) .nil) .nil)
   #[yS (I<|.p<|dX R) v1 v2 (I<|nV mo) (I<|.ref h) (I<|.ref ci) v6 (I<|.p<|.lst<|iL lc) v8 v9 v10 (I<|.p<|.lst<|iL c) jy,U] kk:=by
 have M:=av (by rw[aj];show bg _ _)<|D.len g;have v:=λk m=>D.lt k<|aU _ m;have w:∃Q,c=k0::Q:=by cases c<;>first|show bh L|cases L;show#[_,rfl]
 obtain⟨Q,rfl⟩:=w;have t:(R.Z au<|lc++[k0]).map cJ.val=(lc.map λk=>(R.ef au lc k).val)++[(R.ef au lc k0).val]:=by rw[zC g.lt T,aO,Ro.Z,bw];rfl
 show yn<|Wo g v M λC i x Y' Z=>?_;show aN (gf Z)<|lA (jE F)<|Se<|qQ g F λJ a=>?_;show(Yu)▸?_;have b:=a.get Z ai;show j3 b<|aN (by rw[ay];show aI M<|bz af) ?_;have A:=((x.and a).bG (o:=.list<|(lc.map λk=>(R.ef au lc k).val)++[(R.ef au lc k0).val]) Y').bG (o:=.gone) Y';show bq (cM (o':=O.list<|(lc.map λk=>(R.ef au lc k).val)++[(R.ef au lc k0).val]) b) ?_;rw[<- t];rw[<- t]at A;show AL (kZ g D) (f.keeps A ai ai) (A.get l ai) r λy z B=>(WT au (decide_eq_false ?_) ?_)
 ·have:(mX H<|R.Z au<|lc++[k0]).length=16+gz (R.Z au lc)+(R.ef au lc k0).size:=by
   change(cz _++uu H (cz _)).length=_
   rw[aj,kG,zC g.lt T,nB]
   change 12+(gz (R.Z au lc)+(R.ef au lc k0).size)+4=_
   lia
  change ¬(((mX H<|R.Z au<|lc++[k0]).length:Nat):Int)<=mo
  rw[this];show m7.mpr<|(zl [_,_,_] (.c V0)<|.c<|16+V1+V2).mpr<|dO [_,_,_] (V0+1) (16+V1+V2) (V0+1) (16+V1+V2) af e
 ·show s y _ (A.none.step z λi m K=>m) B
end
theorem YB{g:List O}{k:Bool->Prop}(e:g[i]?=I (.list []))(h:k aB):bO (lq g .Eq (.p<|.lst [])<|.ref i) k:=by show qn aB ?_ h;change((g9 g<|.ref i).map P.lst).bind _=_;show bS (kL e) ?_;rfl
theorem WZ{g:List<|List Nat}(h:∀c∈g,c≠[]):g.length<=g.flatten.length:=by
 induction g with
 |nil=>show aE _
 |cons c r t=>have:=jZ.mpr<|h c<|.head _;have:=t λx m=>h x<|.tail _ m;rw[fT,aj,aX];show fZ [_,_,_] (V0+1) (V1+V2) (0+1) V1 V0 V2 af ‹_› this
structure Ts where
 H:List (List UInt8)
 lf:List Nat
 la:Option (List Nat)
 a8:Option V
 a9:Option V
 a10:Option V
 a11:Option V
 a12:Option V
section
variable {R:Ro}{c:List Nat}{xB p r:List (List Nat)}{U:List O}
theorem Vm(I':R.Ok)(D:Due R gk)(G:Gr R wc mo xB)(e:xB=p++c::r)(s:xB.flatten=gk)(t:∀c∈xB,c≠[])(j:Ak R H)(l:bP U h d H)(F:U[ci]?=I (.inst 748 []))(v:cz (R.Z wc c)∈H)(w:2<=h/\2<=d/\2<=ci)
  (n:∀Y H' v9 v10 jy,Keeps [d] U Y->bP Y h d H'->uc 1 H H'->kk .next #[yS (I<|.p<|dX R) v1 v2 (I<|nV mo) (I<|.ref h) (I<|.ref ci) (I<|.p<|.lst<|iL r.flatten) (I<|.p<|laP<|I c) (I<|.p<|.bytes<|cz (R.Z wc c)++uu H (cz<|R.Z wc c)) v9 v10 (I<|.p<|.lst<|iL c) jy,Y]) :
  ex (LV<|q+12) X pP.tl.bd #[yS (I<|.p<|dX R) v1 v2 (I<|nV mo) (I<|.ref h) (I<|.ref ci) (I<|.p<|.lst<|iL<|c++r.flatten) (I<|.p<|laP p.getLast?) (I<|.p<|.bytes<|cz (R.Z wc c)++uu H (cz<|R.Z wc c)) v9 v10 v11 jy,U] kk:=by
 have L:=e▸aG _ (.head _);have fl:gk=p.flatten++c++r.flatten:=by rw[<- s,e,eG,fT,aJ]
 have M:=tL D.lt D.nd D.pre fl;have cd:=jF F l.mw af;have x:=iC F;show Xd I' M (t c L) j l F v w λdH W y B C U' g J K Q T hU=>((g)▸(U')▸(T)▸(WH I' M (t c L) U' (by rw[g];rfl) B C (G.p1 c L) λeR K2 Z2=>?_));rw[g,U']at *;have o:=by have:=Z2.X;rwa [K,Q,J]at this
 have Y':=y.step K2 λi m hi=>(hU i m).elim (λz=>(z)▸.head _) λz=>absurd hi<|cH.mpr z;induction el:p.getLast? with
 |none=>show fy aB af<|ls af<|n eR H _ _ _ Y' o .refl
 |some Z=>show fy au af ?_;obtain⟨p',rfl⟩:=List.getLast?_eq_some_iff.mp el;obtain⟨f,c',rfl,A⟩:=G.p2 p' Z c r (by rw[e,aJ];rfl);rw[eG,fT,OU,aY]at fl;have O2:Ord R<|Z++[f]:=tL D.lt D.nd D.pre (a:=p'.flatten) (b:=c'++r.flatten) (by rw[fl];simp only[aJ,cT,jq]);have hn:=CE D.nd D.pre (cur:=Z) (k:=f) (by rw[fl];rw[aJ,cT]);rw[aa1]at A;show UG I' O2 (M.lt f<|.head _) hn af A o (Y'.get F<|cX cd) j.2 λgY jy K3 X3=>(ls af<|n gY _ _ _ _ (Y'.step K3 λi m _=>m) X3 mK.1)
end
structure SRI(cu U:List O)(h d:Nat)(H2:List (List UInt8))(gk:List Nat)(p:List (List Nat))(t:Ts):Prop where
 K:Keeps [d] cu U
 X:bP U h d t.H
 ex:uc p.length H2 t.H
 lf:p.flatten++t.lf=gk
 la:t.la=p.getLast?
theorem Aq{q h d ci mo:Nat}{R:Ro}{order:List Nat}{H:List<|List UInt8}{g:List O}{Q:gT->List O->Prop}(L:R.Ok)(v:Srt (R.en wc) R.bs ks)(w:∀k∈ks,k<R.n)(x:ks≠[])(y:∀k∈order,k<R.n)(z:order.length<=5)(M:fF R.bs [] ks=fF R.bs [] order)
  (b:bP g h d H) (U:g[ci]?=I (.inst 748 [])) (B:Ak R H) (f:H.length<200) (C:2<=h/\2<=d/\2<=ci)
  (J:∀Y H',Keeps [d] g Y->bP Y h d H'->uc 10 H H'->Q (.ok<|.p<|.bool aB) Y):LV (q+13) 805 [.p<|dX R,.p<|.lst<|iL order,.p<|.lst<|ks.map<|vl<|R.en wc,nV mo,.ref h,.ref ci] g Q:=by
 have cd:=jF U b.mw af;show enter (loc:=yS (I<|.p<|dX R) (I<|.p<|.lst<|iL order) (I<|.p<|.lst<|ks.map<|vl<|R.en wc) (I<|nV mo) (I<|.ref h) (I<|.ref ci) A A A A A A A) af af af<|uo L y z λdH Y'=>?_;show aN af<|ls af<|ls af<|aN af ?_;show FY L v w (b.keeps Y' ai ai) (Y'.get U ai) (aH f<|c6 af) λeR Z xB T W j G fl ne _ bo D=>?_;have A':=ne x;have l:=D.len L;rw[<- fl]at l;have F:=av (WZ A') l;show(M)▸?_;show lG (λc=>P.bytes<|mX Z<|R.Z wc c) (λt=>yS (I<|.p<|dX R) (I<|.p<|.lst<|iL order) (I<|.p<|.lst<|ks.map<|vl<|R.en wc) (I<|nV mo) (I<|.ref h) (I<|.ref ci) (I<|.p<|.lst<|iL t.lf) (I<|.p<|laP t.la) t.a8 t.a9 t.a10 t.a11 t.a12) (λp t Y=>SRI g Y h d Z (fF R.bs [] ks) p t) (λp c r e t Y kk I' jH=>?_) #[Z,fF R.bs [] ks,A,A,A,A,A,A] #[(Y'.none.step T λi m _=>m),W,.refl,rfl,rfl] λt Y I'=>?_
 ·have pl:=congrArg List.length e;rw[aj,aX]at pl;have o:=bo c<|bS e<|aG _<|.head _;have s:=j.trans I'.ex;have e3:=s.len;have a:=by have:=I'.lf;rw[<- fl,e,eG,fT]at this;show List.append_cancel_left this
  show ls af ?_;show bS (a)<|bS (I'.la)<|sB (xg I'.ex o) ?_;show Vm L D G e fl A' (s.abG B<|rj [_,_,_,_] (V0+(5+V1)+1) 250 (V0+1) 200 V2 4 (V1+(V3+1)) V2 af f F<|ak pl.symm) I'.X (I'.K.get U<|cX cd) (I'.ex.mem o) C λkQ H4 v9 v10 jy K4 X4 E4=>(jH #[H4,r.flatten,I c,_,v9,v10,_,jy] kQ #[I'.K.step K4 λi m _=>m,X4,?_,?_,HW.symm]).1
  ·show bS (aj)<|I'.ex.trans E4
  ·change(p++[c]).flatten++r.flatten=_;show sB (fl)<|bS (e) ?_;simp only[eG,fT,OU,aY,aJ]
 ·have a:=by
   have:=I'.lf
   rw[fl]at this
   show List.append_right_eq_self.mp this
  show lz af ?_
  rw[a]
  show YB bJ<|J _ t.H (I'.K.and .app) (I'.X.keeps .app ai ai)<|(j.trans I'.ex).mono<|dO [_] (5+V0) 10 V0 4 af F
abbrev cy(a b:List UInt8):P:=.inst 345 [.bytes a,blob,.none,.bytes b,.bytes [120]]
section
variable {A D F:Nat}{a:List UInt8}{U:List O}
theorem Hs(g:Q (.ok<|.p<|.bool aB) U):LV (k+1) 342 [.p<|cy a b] U Q:=by show enter af af af<|fy au af<|fj<|fy au af g
theorem YG(h:a≠b):fR [(Ky.b a,v)] (.b b)=az:=by rw[kI,if_neg λe=>h<|by injection e];rfl
theorem X7{r:List<|Ky×V}:fR ((Ky.b a,v)::r) (.b a)=I v:=by rw[kI,if_pos af]
theorem EV{R ws:List<|Ky×V}{r:List P}(v:U[A]?=I (.dict aB R))(eD:U[D]?=I (.list r))(s:U[F]?=I (.dict aB ws))(Z:A≠D)(c:A≠F)(L:D≠F)(d:fR ws (.b a)=az)(e:r.length<gr)(f:ws.length<gr)
  (h:∀Y,Keeps [D,F] U Y->Y[D]?=I (.list<|r++[cy a b])->Y[F]?=I (.dict aB<|kU ws (.b a)<|.p<|.bool aB)->kk .next #[[v0,I<|.ref A,v2,v3,v4,v5,I<|.ref D,I<|.ref F,I<|(fR R<|.b b).getD<|.p .none],Y]) :
  ex (LV<|k+1) X jm.tl.tl.tl.tl.bd.tl.tl.tl.bd #[[v0,I<|.ref A,v2,v3,v4,v5,I<|.ref D,I<|.ref F,I<|.p<|cy a b],U] kk:=by show vL s af<|bS (d)<|ss (q:=.b a) s af f λj g n l=>(aN (gf<|g.get eD<|cX L)<|j3 (g.get eD<|cX L)<|aN e ?_);have M:=@Keeps.set j D<|.list<|r++[cy a b];have t:=M.get (g.get v<|cX c)<|cX Z;show aN af<|Hs<|fj<|aN (AR t)<|Be t<|ls af<|h _ ((g.mono λi m o=>.tail _ m).step M λi m o=>by rw[ah.mp m];show .head _) (cM<|g.get eD<|cX L)<|M.get l<|cX<|Ne.symm L
theorem zx{g:List<|Ky×V}{K:Bool->St->Prop}(t:U[B]?=I (.dict aB g))(h:K (!(fR g<|.b a).isSome) #[[v0,v2,v3,I<|.ref B,v4,v5,v6,v7,I<|.p<|cy a b],U]) :
  BH (LV k) X (.nK<|.cons (.cmp .IsNot (.loc 8)<|.c .none)<|.cons (.cmp .NotIn (.attr (.loc 8) 345 0)<|.loc 3) .nil) #[[v0,v2,v3,I<|.ref B,v4,v5,v6,v7,I<|.p<|cy a b],U] K:=by show fy au af<|ur t af ?_;revert h;induction fR g (.b a)<;>show id
theorem Eo{e:P}{o:List UInt8}{g:List<|Ky×V}(M:e=cy o b)(t:U[A]?=I (.dict aB g))(c:fR g (.b o)=az)(R:g.length<gr)
  (d:∀Y,Keeps [A] U Y->Y.length=U.length->Y[A]?=I (.dict aB<|g++[(.b o,.p e)])->kk .next #[[v0,I<|.ref A,I<|.p e,v3,v4,v5,v6,v7,v8],Y]) :
  ex (LV k) X jm.tl.bd #[[v0,I<|.ref A,I<|.p e,v3,v4,v5,v6,v7,v8],U] kk:=by subst M;show ur t af<|(c)▸(ss (q:=.b o) t af R λf Z a L=>?_);rw[mQ c]at L;show d f Z a L
noncomputable abbrev aa:List UInt8:=[97,97,97,97]
noncomputable abbrev bb:List UInt8:=[98,98,98,98]
theorem Pd{U a b:List O}{t:List Nat}(x:Keeps [] U a)(y:Keeps t a b)(h:∀i∈t,U.length<=i):Keeps [] U b:=x.step y λi m g=>absurd g<|cH.mpr<|h i m
theorem k1{x:Nat}(h:n<=x):∀i∈[x],n<=i:=all1<|h
theorem k2{x y:Nat}(h:n<=x)(g:n<=y):∀i∈[x,y],n<=i:=λi m=>(aC.mp m).elim (λz=>bS (z) h) λm=>by rw[ah.mp m];show g
theorem Jj(F:∀Y,Keeps [] U Y->Q (.exc 100) Y):LV (k+2) 414 [.p<|.lst [cy aa bb,cy bb aa]] U Q:=by
 have s:aa≠bb:=by decide
 show enter af af af<|Dr λH J Z K=>(ls af<|ls af<|Eo (o:=aa) af K af (bz af) λT W a X=>(ls af<|Eo (o:=bb) af X (YG s) (bz af) λgY K3 c e3=>(Dr λkQ K4 L e4=>(ls af<|HQ λg v M e5=>(ls af<|ls af<|HQ λR w t e6=>(ls af<|Dr λMR d l7 e7=>(ls af ?_)))))));have Z:=Z;have a:T.length=H.length:=a;have c:=c;have L:=L;have M:=M;have t:R.length=g.length+1:=t;have x:U.length≠g.length:=by lia
 have y:U.length≠R.length:=by lia
 have A:g.length≠R.length:=(λζ=>jX<|fZ [_,_] 1 0 (V0+1) V1 V1 V0 af (ak t.symm)<|ak ζ.symm);have I:=((K4.and v).and w).and d;have e:=I.get e3 ai;have f:=((v.and w).and d).get e4 ai;show lD e af X7<|ls af ?_;show#[3,?_];show zx f<|EV e (d.get e6 ai) e7 x y A af (bz af) (bz af) λW3 U' j l=>?_;have Y':∀{i},i<g.length->i∉[g.length,R.length]:=λh m=>(aC.mp m).elim (λz=>(jX<|fZ [_,_] 1 0 (V0+1) V1 V1 V0 af h<|ak z.symm)) λm=>by have:=ah.mp m;show jX<|rj [_,_,_] 1 0 (V0+1) V1 (V2+1) V0 V1 V2 af (ak t.symm) h<|ak this.symm
 have n:=(M8 [_,_,_,_,_,_] (V0+1) V1 (V0+1) V2 V2 V3 V3 V4 (V4+1) V5 (V5+1) V1 af (ak Z.symm) (ak a.symm) (ak c.symm) (ak L.symm)<|ak M.symm);have q:=(fZ [_,_,_] (V0+1) V1 (V0+1) V2 (V2+1) V1 af (ak L.symm)<|ak M.symm);rw[show fR ([]++[(Ky.b aa,V.p<|cy aa bb)]++[(Ky.b bb,V.p<|cy bb aa)]) (.b bb)=ae (.p<|cy bb aa)from rfl];show zx (U'.get f<|Y' q)<|EV (U'.get e<|Y' n) j l x y A (YG s) (bz af) (bz af) λhp9 B eD9 r=>?_;rw[show fR ([]++[(Ky.b aa,V.p<|cy aa bb)]++[(Ky.b bb,V.p<|cy bb aa)]) (.b aa)=ae (.p<|cy aa bb)from rfl];show zx (B.get (U'.get f<|Y' q)<|Y' q)<|vL r af ?_;have C:=(dO [_,_] V0 V1 (V0+1) V1 af n);have D:=(fZ [_,_,_] V0 V1 (V2+1) V1 (V0+1) V2 af (ak t.symm) n);show F _<|Pd (Pd ((Pd (Pd J W<|k1<|aE _) K3<|k1<|aE _).and I) U'<|k2 C D) B<|k2 C D
theorem Gw(D:∀Y,Keeps [] U Y->Q (.ok<|.p<|.lst [cy aa bb]) Y):LV (k+2) 414 [.p<|.lst [cy aa bb]] U Q:=by
 have ne:aa≠bb:=by decide
 show enter af af af<|Dr λF H c J=>(ls af<|ls af<|Eo (o:=aa) af J af (bz af) λK T d W=>(Dr λX K4 I e4=>(ls af<|HQ λL w M e5=>(ls af<|ls af<|HQ λe l R e6=>(ls af<|Dr λMR f l7 e7=>(ls af ?_))))));have c:=c;have d:K.length=F.length:=d;have I:=I;have M:=M;have R:e.length=L.length+1:=R;have q1:U.length≠L.length:=(λU'=>jX<|M8 [_,_,_,_,_] 1 0 (V0+1) V1 V1 V2 (V2+1) V3 (V3+1) V4 V4 V0 af (ak c.symm) (ak d.symm) (ak I.symm) (ak M.symm)<|ak U'.symm);have q2:U.length≠e.length:=by lia
 have q3:L.length≠e.length:=(λU'=>jX<|fZ [_,_] 1 0 (V0+1) V1 V1 V0 af (ak R.symm)<|ak U'.symm);have Y':=((K4.and w).and l).and f;have x:=Y'.get W ai;have y:=((w.and l).and f).get e4 ai;have eC:=(l.and f).get e5 ai;show lD x af X7<|ls af ?_;show#[2,?_];show zx y<|EV x (f.get e6 ai) e7 q1 q2 q3 af (bz af) (bz af) λW3 n g eF8=>?_;have A:∀{i},i<L.length->i∉[L.length,e.length]:=λh m=>(aC.mp m).elim (λz=>(jX<|fZ [_,_] 1 0 (V0+1) V1 V1 V0 af h<|ak z.symm)) λm=>by have:=ah.mp m;show jX<|rj [_,_,_] 1 0 (V0+1) V1 (V2+1) V0 V1 V2 af (ak R.symm) h<|ak this.symm
 have j:=(fZ [_,_,_] (V0+1) V1 (V0+1) V2 (V2+1) V1 af (ak I.symm)<|ak M.symm);have B:=(dO [_,_] (V0+1) V1 (V0+1) V1 af<|ak M.symm);rw[show fR ([]++[(Ky.b aa,V.p<|cy aa bb)]) (.b bb)=az from rfl];show fy aB af ?_;show#[2,?_];show sO aB g af<|aN (Tu g)<|aN af<|j3 g<|ls af ?_;have q:=@Keeps.set W3 L.length<|.list ([]++[cy aa bb]).dropLast;have Z:=aS B;show ss (q.get (n.get y<|A j)<|cX<|aS j) af (bz af) λr t l10 Uo=>?_;have s:=t.get (q.get (n.get eC<|A B)<|cX Z)<|cX<|Ne.symm<|(λU'=>jX<|fZ [_,_] 1 0 (V0+1) V1 V1 V0 af (ak I.symm)<|ak U'.symm);show aN (gf s)<|j3 s<|ls af ?_;have a:=@Keeps.set r X.length<|.list<|[]++[cy aa bb];show sO au (a.get (t.get (cM g)<|cX<|Ne.symm<|aS j)<|cX<|Ne.symm Z) af<|yv (λ_ h=>h)<|ua (cM s) ?_;have g3:=(fZ [_,_,_] V0 V1 (V0+1) V2 V2 V1 af (ak c.symm)<|ak d.symm);have C:=(fZ [_,_,_] V0 V1 (V2+1) V1 V0 V2 af (ak I.symm) g3);have v:=(fZ [_,_,_] V0 V1 (V2+1) V1 V0 V2 af j g3);show D _<|(Pd (Pd (Pd (Pd ((Pd H T<|k1<|aE _).and Y') n<|k2 v<|(fZ [_,_,_] V0 V1 (V2+1) V1 V0 V2 af (ak R.symm) v)) q<|k1 v) t<|k1 g3) a<|k1 C).bG C
end
section
variable {w:Nat}{o:List UInt8}{U:List O}{I:List Nat}{x:V}
theorem FP(g:∀Y,Keeps [] U Y->Y.length=U.length+2->Y[U.length]?=ae (.inst 748 [])->Q (.ok<|.ref U.length) Y):LV (k+1) 748 [] U Q:=
 aaB k (by
  rw[show uv Uh 748=ae #[aB,ae 748,0,0,[],.nil]from rfl]
  show#[rfl,g _ .app (aj ..) bJ])
theorem oE.ext{g:List cJ}(F:oE H g)(E:uc n H H')(t:H'.length<250):oE H' g:=#[F.toGood,λe m=>#[bS (E.dig (F.dg e m).2)<|(F.dg e m).1,E.mem (F.dg e m).2],F.bl,t]
theorem RS.ext(Z:RS U W)(K:Keeps I U Y)(h:∀i∈I,i<2∨W.B<=i∨i=W.d)(X:bP Y W.h W.d H')(E:uc n W.H H')(t:H'.length<250):RS Y { W with H:=H' }:=by have g:∀{i},2<=i->i<W.B->i≠W.d->i∉I:=λa b c m=>(h _ m).elim (cH.mpr a) λz=>z.elim (wq.mpr b) c;show Z.set K (λa b c D D=>g a b c) X (Z.F.ext E t)<|Z.old K λa b=>g (fO<|aI Z.lo.2.1 a) b<|bT a
theorem Hi(Z:RS U W)(A:zZ W.Z o=az)(D:∀Y,Keeps [] U Y->Q (.exc 100) Y):LV (k+3) 718 [.ref W.r,.p<|.lst [.bytes o]] U Q:=by show enter af af af<|Dr λF g L M=>?_;have t:=Z.keeps g λR m=>(cO m);show ls af<|ls af<|aN (bF t.obj)<|uZ t ?_;rw[A];show ls af<|nE aB af<|D _ g
theorem Je(L:U[ci]?=ae (.inst 748 []))(M:∀Y,Keeps [] U Y->Q (.exc 100) Y):LV (k+3) 422 [.p<|.lst [cy aa bb],.ref h,.ref ci,nV mo] U Q:=by show enter (loc:=[ae<|.p<|.lst [cy aa bb],ae<|.ref h,ae<|.ref ci,ae<|nV mo,ae<|.p<|.bool aB,A,A,A,A,A,A,A]) af af af<|Dr λr n Z R=>(ls af<|HQ λa g c d=>(ls af<|qU ((n.and g).get L ai) λe lp f D i j o=>(ls af<|Gw λl t=>?_)));have F:=o.keeps t λm m=>ai;show ls af<|ls af ?_;show nE aB af<|vL (q:=.b bb) (((g.and D).and t).get R ai) af<|fy aB af<|enter af af af<|aN af<|Hs<|fj<|bL F.obj af<|vL (q:=.b bb) F.plc af<|nE aB af<|M _<|((n.and g).and D).and t
end
noncomputable abbrev ns:List UInt8:=[110,111,110,101,32,115,117,99,104]
theorem UJ{g:List cJ}(F:oE H g):zZ g (uu H ns)=A:=by
 induction e:zZ g (uu H ns)with
 |none=>rfl
 |some a=>obtain⟨x,D,z⟩:=uH e;obtain⟨R,L⟩:=F.dg x D.mem;have M:=F.hl;have t:=n9 L;have i:=ja<|Lp (aI (Nat.succ_le_of_lt t)<|aW M<|by decide) (aI (cU List.idxOf_le_length)<|aH (jW M)<|by decide)<|R.trans z;have g1:=Mq t;simp only[i]at g1;have:zP x.c=ns:=g1.symm.trans<|Mq<|n9<|List.idxOf_lt_length_iff.mp<|sB (i) t;show absurd (congrArg List.head? this)<|show ¬(I (98)=I 110)by decide
section
variable {U:List O}{x:V}
theorem Qu(g:∀Y,Keeps [] U Y->Q (.ok<|.p<|.bool aB) Y):LV (k+3) 795 [.p<|.int 0,.p<|.lst [cy aa bb,cy bb aa],x] U Q:=by show enter af af af ?_;show ls af<|kT aB af ?_;show Jj λD t=>(aN af<|ls af<|g _ t)
theorem Rm(Z:RS U W)(a:W.B<=U.length)(D:W.H.length<240)(R:∀Y,Keeps [W.d] U Y->bP Y W.h W.d (pZ W.H ns)->Q (.ok<|.p<|.bool aB) Y):LV (k+4) 795 [.p<|.int 1,.ref W.r,.ref W.h] U Q:=by
 have E:=mK (H:=W.H) (c:=ns);have e:=by have:=E.1.len;show fZ [_,_] (V0+1) 250 (V1+1) 240 V0 (V1+1) af D this
 have q:=Z.hi;have t:=Z.lt;show enter af af af<|ls af<|kT au af<|kT aB af<|aN (bF Z.X.obj)<|qw Z.X (dO [_] (V0+1) 250 (V0+1) 240 af D) λg l f=>(lz af<|bq bJ ?_);have j:Keeps [] g<|(g++[O.list [.bytes<|uu W.H ns]]).set g.length .gone:=Keeps.bG .app<|aE _;have L:=f.keeps j ai ai;show Hi (W:={ W with H:=pZ W.H ns }) (Z.ext (l.and j) (λi m=>.inr<|.inr<|ah.mp m) L E.1 e) (UJ Z.F) λb M=>(aN af<|ls af<|R _ ((l.and j).and M)<|L.keeps M ai ai)
theorem R6(g:∀Y,Keeps [] U Y->Q (.ok<|.p<|.bool aB) Y):LV (k+4) 795 [.p<|.int 2,.p<|.lst [cy aa bb],.ref h] U Q:=by show enter af af af ?_;show ls af<|kT au af ?_;show kT au af<|FP λF t R M=>(Je M λL D=>?_);show aN af<|ls af<|g _<|t.and D
end
variable{is:List Int}{g t:Nat}
section
variable {b:Nat}{U:List O}{L:List P}{z:P}
theorem zJ{k:V->Prop}(e:U[g]?=I (.list L))(A:L[n]?=I z)(h:k<|.p z):bO (yT U (.ref g)<|.p<|.int n) k:=by show bq ?_ h;change(match mU U (.ref g)with|some d=>_|none=>_)=_;rw[show mU U (.ref g)=az by change(U[g]?.bind _)=_;show(e)▸?_;rfl];rw[kL e];change(match decide (0<=(n:Int))with|true=>L[(n:Int).toNat]? | au=>az).map V.p=_;rw[decide_eq_true<|bj n,gZ];rw[A];rfl
theorem Pp{A:List<|Option V}{U:List O}{k:St->Prop}(e:U[g]?=I (.list L))(D:n<L.length)(h:∀Y,Keeps [g] U Y->Y[g]?=I (.list<|L.set n z)->k #[A,Y]):qN #[A,U] (.p z) (.ref g) (.p<|.int n) k:=by change(match Kr U (.ref g)with|some l=>_|none=>_);show(aak e)▸(aN #[bj n,D]<|h _ .set<|cM e)
theorem Lu{k:Bool->Prop}(r:Bool)(e:U[i]?=I (.list []))(A:(!L.isEmpty)=r)(h:k r):bO (lq U .NotEq (.p<|.lst L)<|.ref i) k:=by show qn r ?_ h;change((g9 U<|.ref i).map P.lst).bind _=_;show(kL e)▸(A)▸?_;induction L<;>rfl
theorem aeR:(100000000000000:Int)<yj/\-yj<0:=by decide +kernel
theorem GW{x:Int}(h:0<=x/\x<100000000000000):-yj<x/\x<yj:=#[f9 aeR.2 h.1,fM h.2 aeR.1]
theorem fm{a:Int}{b:Int}(A:0<b):0<=a.fmod b/\a.fmod b<b:=#[Int.fmod_nonneg_of_pos a A,Int.fmod_lt_of_pos a A]
abbrev pJ(is:List Int)(t:Nat):List P:=[.lst<|is.map .int,nP<|I t]
theorem Nh{rest:S}{v2 v3:Option V}(e:U[g]?=I (.list<|pJ is t))(D:∀Y,Keeps [g] U Y->Y[g]?=I (.list<|pJ is<|t+1)->ex Γ X rest #[wI (I<|.ref g) v1 (I<|nV<|t+1) (I<|.p<|.lst<|is.map .int) v4 v5,Y] kk) :
  ex Γ X (.cons (.asg (.sub (.loc 0)<|.c<|.int 1)<|.bin .Add (.sub (.loc 0)<|.c<|.int 1)<|.c<|.int 1)<|.cons (.mV aB (.cons (.loc 2)<|.cons (.loc 3) .nil)<|.cons (.sub (.loc 0)<|.c<|.int 1)<|.cons (.sub (.loc 0)<|.c<|.int 0) .nil) rest) #[wI (I<|.ref g) v1 v2 v3 v4 v5,U] kk:=by show zJ (n:=1) (z:=nP<|I t) e af<|Pp (n:=1) (L:=pJ is t) e (bz af) λF M R=>(zJ (n:=1) R af<|zJ (n:=0) (z:=.lst<|is.map .int) R af<|aN af<|ls af<|ls af<|D F M R)
section
variable {A B C D E F c m:Int}
theorem Xa{rest:S}(R:0<b)(L:∀r,r<b->kk (.ret<|nV r) #[wI v0 (I<|nV b) (I<|nV<|t+1) (I<|.p<|.lst<|is.map .int) v4 v5,U])(M:ex Γ X rest #[wI v0 (I<|nV b) (I<|nV<|t+1) (I<|.p<|.lst<|is.map .int) v4 v5,U] kk) :
  ex Γ X (.cons (.ifs (.cmp .LtE (.loc 2)<|.bi .Add<|.cons (.loc 3) .nil) (.cons (.ret<|.bin .Mod (.sub (.loc 3)<|.bin .Sub (.loc 2)<|.c<|.int 1)<|.loc 1) .nil) .nil) rest) #[wI v0 (I<|nV b) (I<|nV<|t+1) (I<|.p<|.lst<|is.map .int) v4 v5,U] kk:=by
 by_cases h:t+1<=is.length
 ·show WT aB (decide_eq_true<|by rw[(ay ..)];show(ze [_,_] (.c<|V0+1)<|.c V1).mpr<|dO [_,_] (V0+1) V1 (V0+1) V1 af h) ?_;have e:(is.map P.int)[t]?=I (.int is[t]):=by rw[cj,bD h];rfl
  change bO (yT U (.p<|.lst<|is.map P.int)<|.p<|.int<|((t+1:Nat))-1) _;show((wo (t:Int) 1))▸(lA e<|aN (by lia) ?_);have f:=fm (a:=is[t]) (b:=b)<|(zl [_] (.n 0)<|.c V0).mpr<|dO [_] (0+1) V0 (0+1) V0 af R;have:=L (is[t].fmod b).toNat<|(rR f.1).mpr f.2;rw[nV,nZ f.1]at this;show this
 ·show WT au (decide_eq_false<|by rw[(ay ..)];show m7.mpr<|(zl [_,_] (.c V0)<|.c<|V1+1).mpr<|dO [_,_] (V0+1) (V1+1) (V0+1) (V1+1) af<|Nat.lt_of_not_le h) M
theorem N1(a:∀Y c,Keeps [] U Y->kk .next #[wI v0 v1 (I<|nV t) (I<|.p<|.lst<|is.map .int) (I<|.p<|.int c) v5,Y]) :
  ex Γ X (.asg (.loc 4)<|.ite (.cmp .NotEq (.loc 3)<|.lst .nil) (.sub (.loc 3)<|.bin .Mod (.loc 2)<|.bi .Add<|.cons (.loc 3) .nil)<|.c<|.int 7) #[wI v0 v1 (I<|nV t) (I<|.p<|.lst<|is.map .int) v4 v5,U] kk:=by
 show lz af ?_;by_cases h:is=[]
 ·subst h;show Lu au bJ af<|ls af<|a _ _ .app
 ·have L:=jZ.mpr h;show Lu aB bJ (by induction is<;>first|show absurd rfl h|rfl) ?_;have M:=aft t L;have e:(is.map P.int)[t%is.length]?=I (.int is[t%is.length]):=by rw[cj,bD M];rfl
  have R:(t:Int).fmod ((is.map P.int).length)=(t%is.length:Nat):=by rw[(ay ..),Cw _<|bj _];rfl
  show aN (by rw[(ay ..)];show λb=>jX<|fZ [_] 1 0 (0+1) V0 V0 0 af L<|ak<|(zq [_] (.c V0)<|.n 0).mp b) ?_;rw[R];show lA e<|ls af<|a _ _ .app
theorem SM(b:0<A/\A<10000000000)(L:0<=B/\B<100000)(R:0<=C/\C<100000)(M:0<E)(Y:t<1001)(Z:∀m,0<=m->m<E->kk .next #[wI v0 v1 (I<|nV t) v3 (I<|.p<|.int c)<|I<|.p<|.int m,U]) :
  ex Γ X (.asg (.loc 5)<|.bin .Mod (.bin .Mult (.bin .Add (.bin .Add (.bin .Mod (.loc 4)<|.c<|.int A)<|.bin .Mult (.bin .Mult (.c<|.int B)<|.loc 2)<|.loc 2)<|.c<|.int C)<|.c<|.int D)<|.c<|.int E) #[wI v0 v1 (I<|nV t) v3 (I<|.p<|.int c) v5,U] kk:=by have t0:=bj t;have d:=gM.mpr<|fO Y;have b1:0<=B*t/\B*t<=100000*1001:=#[XD L.1 t0,XE (lV L.2) d t0<|by decide];have b2:0<=B*t*t/\B*t*t<=100000*1001*1001:=#[XD b1.1 t0,XE b1.2 d t0<|by decide];show aN (rO b.1)<|aN (GW #[L.1,fM L.2<|by decide])<|aN (GW #[b1.1,gJ b1.2<|by decide])<|aN (GW #[Cy (Cy (fm (a:=c) b.1).1 b2.1) R.1,fM (Int.add_lt_add (Int.add_lt_add_of_lt_of_le (fM (fm (a:=c) b.1).2 b.2) b2.2) R.2)<|by decide])<|aN (rO M)<|ls af<|Z _ (fm M).1 (fm M).2
theorem Mw(R:0<E)(L:0<=m/\m<10000000000)(M:∀m,0<=m->m<E->kk .next #[wI v0 v1 (I<|nV t) v3 v4<|I<|.p<|.int m,U]) :
  ex Γ X (.asg (.loc 5)<|.bin .Mod (.bin .Add (.bin .Mult (.loc 5)<|.loc 5)<|.loc 2)<|.c<|.int E) #[wI v0 v1 (I<|nV t) v3 v4<|I<|.p<|.int m,U] kk:=by show aN (GW #[L.1,fM L.2<|by decide])<|aN (rO R)<|ls af<|M _ (fm R).1 (fm R).2
theorem Ph(R:0<F/\F<1000)(L:0<b)(M:∀r,r<b->kk (.ret<|nV r) #[wI v0 (I<|nV b) v2 v3 v4<|I<|.p<|.int m,U]) :
  ex Γ X (.cons (.ret<|.bin .Mod (.bin .FloorDiv (.loc 5)<|.c<|.int F)<|.loc 1) .nil) #[wI v0 (I<|nV b) v2 v3 v4<|I<|.p<|.int m,U] kk:=by have b0:=fD.mpr L;show aN #[R.1,fM R.2<|by decide]<|aN (rO b0) ?_;have f:=fm (a:=m.fdiv F) b0;have:=M ((m.fdiv F).fmod b).toNat<|(rR f.1).mpr f.2;rw[nV,nZ f.1]at this;show this
end
theorem tO(e:U[g]?=I (.list<|pJ is t))(f:t<1000)(D:0<b)(F:∀Y r,Keeps [g] U Y->Y[g]?=I (.list<|pJ is<|t+1)->r<b->Q (.ok<|nV r) Y):LV (k+1) 759 [.ref g,nV b] U Q:=by show enter af af af ?_;show Nh e λh d L=>(Xa D (λr i=>F h r d L i) ?_);show yn<|N1 λZ c M=>?_;show yn<|SM #[by decide,by decide] #[by decide,by decide] #[by decide,by decide] (by decide) (dO [_] (V0+1+1) 1001 (V0+1) 1000 af f) λm R a=>?_;show yn<|Mw (by decide) #[R,by lia] λm R a=>?_;show Ph #[by decide,by decide] D λr i=>F Z r (d.and M) (M.get L ai) i
end
theorem ZO{N:Nat}(f:α->P){step:P->List P->St->(List P->St->Prop)->Prop}(L:τ->List (Option V))(n:List P->List O->Prop){k:List P->St->Prop}:∀{F:List α}{A:List P} (t:τ) {D:List O},
  (∀a∈F,∀t A D kk,n A D->A.length<N->(∀t' Y y,n (A++[y]) Y->kk (A++[y]) #[L t',Y])->step (f a) A #[L t,D] kk)->A.length+F.length<=N->n A D->(∀t' Y M,M.length=A.length+F.length->n M Y->k M #[L t',Y])->j0 step (F.map f) A #[L t,D] k:=by
 intro F;induction F with
 |nil=>show λt D j j h R=>R t D _ af h
 |cons a F Z=>
  intro A t D l U h R;rw[aX]at U R;rw[bK];show oO<|l a (.head _) t A D _ h (dO [_,_,_] (V0+1) V1 (V0+(V2+1)) V1 af U) λt' Y y c=>Z t' (λb m=>l b<|.tail _ m) ?_ c λd e M g i=>R d e M ?_ i
  ·show(aj)▸(fV)▸dO [_,_,_] (V0+1+V1) V2 (V0+(V1+1)) V2 af U
  ·rw[g,aj,fV];show di (Fo [_,_] (V0+1+V1) (V0+(V1+1)) af)<|Fo [_,_] (V0+(V1+1)) (V0+1+V1) af
structure CI(cu U:List O)(g t:Nat)(is:List Int)(acc:List P):Prop where
 K:Keeps [g] cu U
 e:U[g]?=I (.list<|pJ is<|t+acc.length)
 b:∃bs:List UInt8,acc=bs.map λx=>P.int x.toNat
theorem QW{bs:List UInt8}:jr iD (bs.map λx=>P.int x.toNat)=I bs:=by
 have:=j1 (f:=iD) (g:=λx:UInt8=>P.int x.toNat) (h:=id) (L:=bs) λx Z=>by have:=x.toNat_lt;rw[kh #[(bj _),by lia],gZ,Mp];rfl
 rwa [p8]at this
section
variable {l:Nat}{U:List O}
theorem MO(e:U[g]?=I (.list<|pJ is t))(R:t<900)(Z:n<256)(d:∀Y t' bs,Keeps [g] U Y->Y[g]?=I (.list<|pJ is t')->t'<=t+9->bs.length<=8->kk .next #[wI (I<|.ref g) v1 v2 (I<|nV n) (I<|.p<|.bytes (aP n::bs)) v5,Y]) :
  ex (LV<|q+1) X (.asg (.loc 4)<|.bin .Div (.bi .Sub<|.cons (.lst<|.cons (.loc 3) .nil) .nil)<|.bi .Sub<|.cons (.comp 1 (.loc 6) (.bi .BitOr<|.cons (.call 759<|.cons (.loc 0)<|.cons (.c<|.int 9) .nil) .nil) .nil<|.call 759<|.cons (.loc 0)<|.cons (.c<|.int 256) .nil) .nil) #[wI (I<|.ref g) v1 v2 (I<|nV n) v4 v5,U] kk:=by
 show lz af<|kD (b:=[aP n]) bJ ?_ ?_
 ·change(iD<|.int<|n).bind _=_;rw[kh (x:=(n)) #[by lia,((zl [_] (.c V0)<|.n 256).mpr<|dO [_] (V0+1) 256 (V0+1) 256 af Z)]];rfl
 have A:Keeps [g] U<|U++[O.list [.int n]]:=.app;have f:=(Keeps.app (j:=[O.list [.int n]])).get e ai;show tO f (dO [_] (V0+1) 1000 (V0+1) 900 af R) (by decide) λh r k l F=>(aN #[by lia,by lia] ?_);show bq (qj #[by lia,by lia]) ?_;show ZO (λ(i:Nat)=>P.int i) (λt=>lq7 (I<|.ref g) v1 v2 (I<|nV n) v4 v5 t) (λD Y=>CI h Y g (t+1) is D) az (λa m x D o B Q T s=>?_) (by rw[kr,cA];show dO [_] (0+V0) 9 (V0+1) 9 af F) #[.refl,l,[],rfl] λx o C L Q=>?_
 ·show ls af<|tO Q.e (fZ [_,_] (V0+1+V1+1) 1000 (V0+1) 900 (V1+1) 9 af R T) (by decide) λH v w y M=>(aN (aH T<|c6 af) ?_);show s _ _ _ #[Q.K.step w λi m J=>m,by rw[aj,<- eE];show y,?_];obtain⟨bs,z⟩:=Q.b;show#[bs++[aP v],by rw[z,aO,dR,u8 M]]
 ·obtain⟨bs,rfl⟩:=Q.b;rw[ay,kr,cA,eY]at L;have Y':=Q.e;rw[ay]at Y';show kD bJ QW<|aN (av (show 1+bs.length<=9 by show fZ [_,_] (1+V0) 9 (V1+1) 9 V0 V1 af F<|ak L)<|c6 af)<|ls af<|d _ _ bs (((A.step k λi m J=>m).step Q.K λi m J=>m).step .app λi m J=>m) ((Keeps.app).get Y' ai) (fZ [_,_,_] (V0+1+V1) (V0+9) (V2+1) 9 V1 V2 af F<|ak L)<|fZ [_,_] V0 8 (V1+1) 9 V0 V1 af F<|ak L
theorem aaw(e:U[g]?=I (.list<|pJ is t))(a:t<900)(A:∀Y t' o,Keeps [g] U Y->Y[g]?=I (.list<|pJ is t')->t'<=t+2->(∀b,o=I b->b<n)->kk .next #[wI (I<|.ref g) v1 v2 (I<|nV n) v4<|I<|.p<|nP o,Y]) :
  ex (LV<|q+1) X (.asg (.loc 5)<|.ite (.nK<|.cons (.cmp .Gt (.loc 3)<|.c<|.int 0)<|.cons (.cmp .Gt (.call 759<|.cons (.loc 0)<|.cons (.c<|.int 3) .nil)<|.c<|.int 0) .nil) (.call 759<|.cons (.loc 0)<|.cons (.loc 3) .nil)<|.c .none) #[wI (I<|.ref g) v1 v2 (I<|nV n) v4 v5,U] kk:=by
 by_cases L:0<n
 ·show mT aB (decide_eq_true<|by lia)<|tO e (by lia) (by decide) λM r F j d=>?_;by_cases f:0<r
  ·show mT aB (decide_eq_true<|by lia)<|tO j (by lia) L λR l k Z D=>(ls af (A R _ (I l) (F.step k λi m h=>m) Z (aE _) λb z=>by injection z with z;subst z;show D))
  ·show mT au (decide_eq_false<|by lia)<|ls af<|A M _ az F j (eV _) λb z=>(nomatch z)
 ·show mT au (decide_eq_false<|by lia)<|ls af<|A U _ az .refl e (bg _ _) λb z=>(nomatch z)
end
def Ro.hs(R:Ro):List<|List UInt8:=(List.range R.n).map λk=>zP<|R.c k
noncomputable def Ro.add(R:Ro)(c:List UInt8)(o:Option Nat):Ro:=#[R.n+1,λk=>if k=R.n then c else R.c k,λk=>if k=R.n then o else R.bs k]
structure RoK(R:Ro):Prop where
 lt:∀k b,R.bs k=I b->b<k
 c9:∀k,k<R.n->(R.c k).length<10
 fst:∀k,k<R.n->∃r,R.c k=aP k::r
 kn:∀k,k<R.n->uu R.hs (zP<|R.c k)=oN k
section
variable {R:Ro}{r:List UInt8}
theorem Il{c:List UInt8}:(R.add c o).c R.n=c:=if_pos af
theorem abZ:(R.add c o).bs R.n=o:=if_pos af
theorem Pr{c:List UInt8}{k:Nat}(h:k<R.n):(R.add c o).c k=R.c k:=if_neg<|aS h
theorem adM(h:k<R.n):(R.add c o).bs k=R.bs k:=if_neg<|aS h
theorem abc:(R.add c o).hs=R.hs++[zP c]:=by change(List.range<|R.n+1).map (λk=>zP<|(R.add c o).c k)=_;show bS (T9) ?_;rw[aO];show congr (congrArg _<|cL λk m=>by rw[Pr<|cY.mp m])<|bS dR<|bS Il af
theorem Ss:(List.range (R.add c o).n).map (Eg<|R.add c o)=(List.range R.n).map (Eg R)++[.tup [.bytes<|oN R.n,.bytes c,nP o]]:=by
 change(List.range<|R.n+1).map _=_;show bS T9<|bS aO ?_;show congr (congrArg _<|cL λk m=>?_) ?_
 ·have:=cY.mp m;unfold Eg;rw[Pr this,adM this]
 ·rw[dR];unfold Eg;rw[Il,abZ]
theorem JE(K:RoK R)(D:R.n<256):zP (aP R.n::r)∉R.hs:=λm=>by
 show gO m λk M e=>?_
 have M:=cY.mp M
 obtain⟨s,F⟩:=K.fst k M
 have e:=UL e
 rw[F]at e
 injection e with e _
 have:=congrArg pS e
 rw[u8 D,u8<|by show fZ [_,_] (V0+1) 256 (V1+1) 256 (V0+1) V1 af D M]at this
 show jX<|fZ [_,_] 1 0 (V0+1) V1 V1 V0 af M<|ak this.symm
theorem DF:R.hs.length=R.n:=(ay ..).trans<|cA ..
theorem Rg(K:RoK R)(A:R.n<256):uu R.hs (zP (aP R.n::r))=oN R.n:=by unfold uu;show bS (tX<|JE K A)<|bS (DF) af
theorem Lb(h:zP c∉R.hs):pZ R.hs (zP c)=(R.add c o).hs:=(if_neg h).trans abc.symm
theorem U7(K:RoK R)(L:R.n<256)(M:r.length<=8)(U:∀b,o=I b->b<R.n):RoK<|R.add (aP R.n::r) o:=by
 have D:=Il (R:=R) (o:=o) (c:=aP R.n::r);have F:=λ{k:Nat}=>Pr (R:=R) (o:=o) (c:=aP R.n::r) (k:=k);have a:∀{k},k<(R.add (aP R.n::r) o).n->k<R.n∨k=R.n:=λh=>Nat.lt_or_eq_of_le<|gn h;show#[λk b e=>?_,λk d=>?_,λk d=>?_,λk d=>?_]
 ·have e:(if k=R.n then o else R.bs k)=I b:=e;by_cases z:k=R.n
  ·rw[if_pos z]at e;show bS (z)<|U b e
  ·rw[if_neg z]at e;show K.lt k b e
 ·rcases a d with h|rfl
  ·show bS (F h)<|K.c9 k h
  ·show bS D<|bS aX ?_;show dO [_] (V0+1+1) 10 V0 8 af M
 ·rcases a d with h|rfl
  ·show bS (F h)<|K.fst k h
  ·show#[r,D]
 ·show sB (Lb<|JE K L) ?_;rcases a d with h|rfl
  ·rw[F h,mK.1.dig<|show zP (R.c k)∈R.hs from dD.mpr #[k,cY.mpr h,rfl]];show K.kn k h
  ·show bS D<|bS mK.2.2<|Rg K L
theorem aao(K:RoK R)(A:R.n<=4):R.Ok:=⟨K.lt,A,λk a=>by obtain⟨r,e⟩:=K.fst k a;show bS (e)<|iT _,K.c9,λi j D F e=>by
 obtain⟨r,L⟩:=K.fst i D
 obtain⟨s,M⟩:=K.fst j F
 rw[L,M]at e
 injection e with e _
 have:=congrArg pS e
 rwa [u8<|by show fZ [_,_] (V0+1) 256 V1 4 (V0+1) V1 af A D,u8<|by show fZ [_,_] (V0+1) 256 V1 4 (V0+1) V1 af A F]at this⟩
theorem RE(K:RoK R)(D:R.n<=4):Ak R R.hs:=#[λk M=>#[K.kn k M,dD.mpr #[k,cY.mpr M,rfl]],bS (DF)<|dO [_] (V0+1) 250 V0 4 af D]
end
section
variable {l:Nat}{L:List P}{U:List O}
theorem ac8(D:bP U h d H)(s:H.length<250)(F:U[l]?=I (.list L))(t:L.length<gr)(ld:l≠d)(Z:l≠h)(r:c.length<10)(e:∀Y,Keeps [d,l] U Y->bP Y h d (pZ H<|zP c)->Y[l]?=I (.list<|L++[.tup [.bytes<|uu H<|zP c,.bytes c,nP o]])->kk .next #[wI v0 (I<|.ref h) (I<|.ref l) v3 (I<|.p<|.bytes c)<|I<|.p<|nP o,Y]) :
  ex (LV<|q+2) X (.ex<|.bm .Add (.loc 2)<|.cons (.tup<|.cons (.eN (.loc 1) 198 195<|.cons (.bin .Div (.bin .Div (.bin .Div (.c<|.bytes [98,108,111,98,32])<|.bi .Sub<|.cons (.lst<|.cons (.bin .Add (.c<|.int 48)<|.bi .Add<|.cons (.loc 4) .nil) .nil) .nil)<|.c<|.bytes [0])<|.loc 4) .nil)<|.cons (.loc 4)<|.cons (.loc 5) .nil) .nil) #[wI v0 (I<|.ref h) (I<|.ref l) v3 (I<|.p<|.bytes c)<|I<|.p<|nP o,U] kk:=by
 show aN (gf F) ?_;show aN (bF D.obj)<|lz af ?_;show kD (b:=[aP<|48+c.length]) bJ ?_ ?_
 ·change(iD<|.int<|48+(c.length)).bind _=_;rw[kh (x:=48+(c.length)) #[((ze [_] (.n 0)<|.a (.n 48)<|.c V0).mpr<|Fo [_] 0 (48+V0) af),((zl [_] (.a (.n 48)<|.c V0)<|.n 256).mpr<|dO [_] (48+V0+1) 256 (V0+1) 10 af r)],show((48:Int)+(c.length)).toNat=48+c.length by lia];rfl
 show lz af<|lz af<|aN ?_ ?_
 ·show av (show 7+c.length<=17 by show dO [_] (7+V0) 17 (V0+1) 10 af r)<|c6 af
 have v:Keeps [] U<|U++[O.list [.int<|48+(c.length)]]:=.app;show qw (c:=zP c) (D.keeps v ai ai) s λf k g=>(lz af ?_);have M:=k.get (v.get F ai)<|cX ld;show j3 M<|aN t ?_;have R:=@Keeps.set f l<|.list<|L++[.tup [.bytes<|uu H<|zP c,.bytes c,nP o]];show e _ (((v.none).step k λi m j=>by rw[ah.mp m];show .head _).step R λi m j=>bS (ah.mp m)<|.tail _<|.head _) (g.keeps R (cX<|Ne.symm Z)<|cX<|Ne.symm ld)<|cM M
theorem Mz{r:List Nat}(e:List.range n=p++k::r):k=p.length:=by have h:=congrArg List.length e;rw[cA,aj,aX]at h;have:=congrArg (λl=>l[p.length]?) e;rw[nN<|by show dO [_,_,_] (V0+1) V1 (V0+(V2+1)) V1 af<|ak h.symm,bN<|aE _,jV]at this;injection this with this;show this.symm
structure WI(cu U:List O)(g h d:Nat)(is:List Int)(R:Ro)(t:Nat):Prop where
 K:Keeps [g,d] cu U
 e:U[g]?=I (.list<|pJ is t)
 t9:t<=1+11*R.n
 X:bP U h d R.hs
 l:U[cu.length]?=I (.list<|(List.range R.n).map<|Eg R)
 ok:RoK R
theorem SN(e:U[g]?=ae (.list<|pJ is 0))(L:bP U h d [])(hQ:∀Y R t,Keeps [g,d] U Y->R.Ok->0<R.n->Ak R R.hs->bP Y h d R.hs->Y[g]?=ae (.list<|pJ is t)->t<=50->Q (.ok<|.p<|dX R) Y):LV (q+3) 769 [.ref g,.ref h] U Q:=by
 have gd:=jF e L.mw af;have Y':=jF e L.obj af;have M:=iC e;have H:=iC L.obj;have ld:=iC L.mw;show enter af af af ?_;show HQ λdH Z l1 e1=>(ls af ?_);show tO (Z.get e ai) (bz af) (by decide) λeR r f e2 U'=>(aN #[gm (by decide)<|Cy (by decide)<|bj r,gm (Int.add_le_add_left (lV<|fD.mpr U') 1)<|by decide] ?_);show bq (a:=(List.range<|r+1).map λ(i:Nat)=>.int i) (by show bS (show(1:Int)+(r)=(r+1)from HJ ..) ?_;show qj #[(bj _),((ze [_] (.c<|V0+1)<|.n 1000000).mpr<|dO [_] (V0+1) 1000000 (V0+1) 4 af U')]) ?_
 show lG (τ:=Ro×Nat×Option V×Option V×Option V) (λ(i:Nat)=>P.int i) (λt=>wI (ae<|.ref g) (ae<|.ref h) (ae<|.ref U.length) t.2.2.1 t.2.2.2.1 t.2.2.2.2) (λp t Y=>WI U Y g h d is t.1 t.2.1/\t.1.n=p.length) (λp k r' D t J kk I hk=>?_) (#[0,λ_=>[],λ_=>az],1,az,az,az) #[#[(Z.none.step f λi m _=>(ah.mp m)▸.head _),e2,aE _,(L.keeps Z ai ai).keeps f (cX<|Ne.symm Y')<|cX<|Ne.symm gd,f.get e1<|cX<|bT M,#[λk b z=>(bh z),λk z=>absurd z<|fc _,λk z=>absurd z<|fc _,λk z=>absurd z<|fc _]],rfl] λt J I=>?_
 ·obtain⟨I,en⟩:=I;have T:=Mz D;have D:=congrArg List.length D;replace D:=(aX)▸(aj)▸(cA)▸D;rw[<- en]at T D;subst T;have t9:=I.t9;have F:∀{i},i≠g->i∉[g]:=cX;have o2:=λm=>(aC.mp m).elim gd λm=>aS M<|ah.mp m;have sg:∀{a b:List O},Keeps [g,d] U a->Keeps [g] a b->Keeps [g,d] U b:=λx y=>x.step y λi m _=>(ah.mp m)▸.head _;show ls af ?_;show yn<|MO I.e (by lia) (by lia) λkQ t4 bs j e4 s hb=>?_;show yn<|aaw e4 (by lia) λqu W o v e5 w ho=>?_;show yn<|ac8 (o:=o) ((I.X.keeps j (F<|Ne.symm Y')<|F<|Ne.symm gd).keeps v (F<|Ne.symm Y')<|F<|Ne.symm gd) (by rw[DF];lia) (v.get (j.get I.l<|F<|bT M)<|F<|bT M) (by rw[ay,cA];show aH (show t.1.n<4 by lia)<|c6 af) (bT ld) (bT H) (by rw[aX];lia) λsL K6 B l6=>?_;have A:t.1.n<256:=by lia
  rw[Rg I.ok A,<- Ss]at l6;replace B:=(Lb (o:=o)<|JE I.ok A)▸B;show(hk (t.1.add (aP t.1.n::bs) o,W,_,_,_) sL #[#[(sg (sg I.K j) v).step K6 λi m hi=>?_,K6.get e5 o2,?_,B,l6,U7 I.ok A hb ho],?_]).1
  ·rcases aC.mp m with rfl|m
   ·show .tail _<|.head _
   ·rw[ah.mp m]at hi;show absurd hi<|cP _
  ·change W<=1+11*(t.1.n+1);show rj [_,_,_,_] V0 (1+(lm 11<|V1+1)) V2 (1+(lm 11 V1)) V3 (V2+9) V0 (V3+2) af t9 s w
  ·change t.1.n+1=_;show bS (en) ?_;rw[aj];rfl
 ·obtain⟨I,en⟩:=I;rw[cA]at en;show yv (λ_ h=>h)<|ua I.l ?_;have S:=@Keeps.set J U.length .gone;have C:∀{i},i<U.length->i∉[U.length]:=λh=>cX<|aS h;show hQ _ t.1 t.2.1 (I.K.bG (o:=.gone)<|aE U.length) (aao I.ok<|fZ [_,_] V0 4 (V1+1) 4 V0 (V1+1) af U'<|ak en) (dO [_,_] (0+1) V0 (V1+1) V0 af<|ak en.symm) (RE I.ok<|fZ [_,_] V0 4 (V1+1) 4 V0 (V1+1) af U'<|ak en) (I.X.keeps S (C H)<|C ld) (S.get I.e<|C M)<|rj [_,_,_] V0 50 (lm 11<|V1+1) (lm 11 4) (lm 11 V2) (lm 11<|V1+1) V0 (1+(lm 11 V2)) af (bW 11 U') (bW 11<|ak en) I.t9
end
structure LZ(U:List O)(is:List Int)(t:Nat)(H:List (List UInt8)):Prop where
 e:U[1]?=I (.list<|pJ is t)
 X:bP U 2 4 H
 ci:U[5]?=I (.inst 748 [])
section
variable {b:Nat}{R:Ro}{U:List O}{I:List Nat}{rest:S}
theorem LZ.keeps(L:LZ U is t H)(K:Keeps I U Y)(h:∀i∈I,6<=i):LZ Y is t H:=
 have n:=λj D m=>absurd (h j m)<|wq.mpr D
 #[K.get L.e<|n 1<|bz af,L.X.keeps K (n 2<|bz af)<|n 4<|bz af,K.get L.ci<|n 5<|bz af]
theorem LZ.and(L:LZ U is t H)(K:Keeps [] U Y):LZ Y is t H:=L.keeps K λZ m=>(cO m)
theorem LZ.hash(L:LZ U is t H)(K:Keeps I U Y)(h:∀i∈I,i=4∨6<=i)(X:bP Y 2 4 H'):LZ Y is t H':=
 have n:∀j,j<6->j≠4->j∉I:=λj M D m=>by have:=h j m;lia
 #[K.get L.e<|n 1 (bz af)<|by decide,X,K.get L.ci<|n 5 (bz af)<|by decide]
theorem LZ.len(L:LZ U is t H):5<U.length:=iC L.ci
theorem A9(L:LZ U is t H)(A:t<1000)(D:0<b)(F:∀Y r,Keeps [1] U Y->LZ Y is (t+1) H->r<b->Q (.ok<|nV r) Y):LV (k+1) 759 [.ref 1,nV b] U Q:=
 tO L.e A D λY r K e M=>F Y r K #[e,L.X.keeps K (cX<|by decide)<|cX<|by decide,K.get L.ci<|cX<|by decide] M
theorem NX(Z:∀Y,Keeps [] U Y->bP Y U.length (U.length+2) []->Y.length=U.length+3->Q (.ok<|.ref U.length) Y):LV (k+1) 198 [.p<|.int 4] U Q:=by show AY (nf:=2) af af af af λi a b c=>(sa c (bz af) λj d q e=>(Dr λl L D F=>(pM (λm h=>h)<|sa (L.get e ai) (bz af) λf M n o=>?_)));have q:=q.trans b;have F:=F;have D:=D;rw[q]at F o;show aN af ?_;show Z f (Pd ((Pd a d<|k1<|aE _).and L) M<|k1<|aE _) #[o,M.get F<|cX λg=>jX<|dO [_] 1 0 (V0+2) V0 af<|ak g]<|di (rj [_,_,_,_] V0 (V1+3) V2 (V1+2) V3 (V2+1) V0 V3 af (ak q) (ak D)<|ak n)<|rj [_,_,_,_] (V0+3) V1 (V0+2) V2 (V2+1) V3 V3 V1 af (ak q.symm) (ak D.symm)<|ak n.symm
theorem abn{A:List Int}(L:∀Y,LZ Y (A.take 40) 0 []->ex (LV<|q+1) X rest #[[v0,ae<|.ref 1,ae<|.ref 2,ae<|.ref 5,v4,v5,v6,v7,v8,v9,v10,v11,jy,lU,kR,kK,jR],Y] kk)(M:v0=ae (.p<|.lst<|A.map .int)) :
  ex (LV<|q+1) X (.cons (.mV au (.cons (.loc 1)<|.cons (.loc 2)<|.cons (.loc 3) .nil)<|.cons (.lst<|.cons (.fz<|.bi .Mod<|.cons (.slice (.loc 0) .nil<|.c<|.int 40) .nil)<|.cons (.c<|.int 0) .nil)<|.cons (.call 198<|.cons (.c<|.int 4) .nil)<|.cons (.call 748 .nil) .nil) rest) #[[v0,v1,v2,v3,v4,v5,v6,v7,v8,v9,v10,v11,jy,lU,kR,kK,jR],[]] kk:=by
 subst M;show bq (abj<|GW #[by decide,by decide]) ?_;show Jl (c:=(A.take 40).map .int) (by unfold cut;rw[show yq (A.map P.int).length az 0=0 from rfl,oX,xZ,show(40)=((40:Nat):Int)from rfl,qR,ay,XF,Nat.min_comm];show List.take_eq_take_iff.mpr<|by rw[ay];lia) ?_
 show lz af<|NX λb U e Z=>(FP λa D d F=>?_);show aN af<|ls af<|ls af<|ls af<|aN af ?_;rw[Z]at F ⊢;show L a #[(U.and D).get af ai,e.keeps D ai ai,F]
structure OI(cu U:List O)(n:Nat)(is:List Int)(t:Nat)(H:List (List UInt8))(lf od:List Nat):Prop where
 L:LZ U is t H
 K:Keeps [1] cu U
 e5:U[cu.length]?=ae (.list<|iL lf)
 e6:U[cu.length+1]?=ae (.list<|iL od)
 t9:t+lf.length<=60
 nd:(lf++od).Nodup
 all:∀k,k∈lf++od ↔ k<n
 len:lf.length+od.length=n
theorem Rw{od:List Nat}{r:Nat}(D:r<l.length)(nd:(l++od).Nodup):(l.eraseIdx r++(od++[l[r]])).Nodup/\∀k,k∈l.eraseIdx r++(od++[l[r]]) ↔ k∈l++od:=by
 have M:(l.eraseIdx r++(od++[l[r]])).Perm<|l++od:=by rw[<- aJ];show(List.perm_append_comm).trans ?_;show List.Perm.append_right od (l₁:=l[r]::l.eraseIdx r) ?_;rw[mj];show(List.perm_middle).symm.trans ?_;rw[List.getElem_cons_drop,List.take_append_drop]
 show#[M.nodup_iff.mpr nd,λk=>M.mem_iff]
theorem Vl(L:LZ U is t H)(T:0<n)(s:n<=4)(B:t<=50)(C:∃F:List P,v4=ae (.p<|.lst F)/\F.length=n)
  (J:∀Y t' od,LZ Y is t' H->Keeps [1] U Y->t'<=60->od.Nodup->(∀k,k∈od ↔ k<n)->od.length=n->∀v5,ex (LV<|q+1) X rest #[[v0,ae<|.ref 1,v2,v3,v4,v5,ae<|.p<|.lst<|iL od,v7,v8,v9,v10,v11,jy,lU,kR,kK,jR],Y] kk) :
  ex (LV<|q+1) X (.cons (.mV aB (.cons (.loc 5)<|.cons (.loc 6) .nil)<|.cons (.bi .Mod<|.cons (.bi .BitOr<|.cons (.bi .Add<|.cons (.loc 4) .nil) .nil) .nil)<|.cons (.lst .nil) .nil)<|.cons (.yu (.cmp .NotEq (.loc 5)<|.lst .nil)<|.cons (.ex<|.bm .Add (.loc 6)<|.cons (.bm .LShift (.loc 5)<|.cons (.call 759<|.cons (.loc 1)<|.cons (.bi .Add<|.cons (.loc 5) .nil) .nil) .nil) .nil) .nil)<|.Ug 6 rest)
   #[[v0,ae<|.ref 1,v2,v3,v4,v5,v6,v7,v8,v9,v10,v11,jy,lU,kR,kK,jR],U] kk:=by
 obtain⟨F,rfl,d⟩:=C;show aN #[by lia,by lia]<|aN #[rfl,bj _,by lia]<|lz af ?_;show aN af<|ls af<|ls af ?_;have M:(U++[O.list<|(List.range ((F.length:Nat):Int).toNat).map λ(i:Nat)=>P.int i]).length=U.length+1:=aj ..;change ex _ _ _ #[[v0,ae<|.ref 1,v2,v3,_,ae<|.ref U.length,ae<|.ref (U++[O.list<|(List.range ((F.length:Nat):Int).toNat).map λ(i:Nat)=>P.int i]).length,v7,v8,v9,v10,v11,jy,lU,kR,kK,jR],(U++[O.list<|(List.range ((F.length:Nat):Int).toNat).map λ(i:Nat)=>P.int i])++[O.list []]] _;have A':=bJ (a:=U++[O.list<|(List.range ((F.length:Nat):Int).toNat).map λ(i:Nat)=>P.int i]) (o:=O.list []) (r:=[]);rw[M]at A' ⊢;have D:((U++[O.list<|(List.range ((F.length:Nat):Int).toNat).map λ(i:Nat)=>P.int i])++[O.list []])[U.length]?=ae (.list<|iL<|List.range n):=((Keeps.app).get bJ ai).trans (by rw[gZ,d]);show nD (τ:=List Nat×List Nat×Nat) (λt=>[v0,ae<|.ref 1,v2,v3,ae<|.p<|.lst F,ae<|.ref U.length,ae<|.ref<|U.length+1,v7,v8,v9,v10,v11,jy,lU,kR,kK,jR]) (λm t Y=>OI U Y n is t.2.2 H t.1 t.2.1/\m=t.1.length) ?_ _ (List.range n,[],t) #[#[L.and<|Keeps.push .app,(Keeps.push .app).none,D,A',(by change t+(List.range n).length<=60;rw[cA];show fZ [_,_] (V0+V1) 60 V1 4 V0 50 af s B),by rw[aY];show List.nodup_range,λk=>by rw[aY];show cY,by rw[cA];rfl],rfl];rintro m ⟨lf,od,t'⟩ Z ⟨I,e⟩ U' Q;have I:OI U Z n is t' H lf od:=I;have e:m=lf.length:=e;have f:=I.t9;have b:=I.len;have c:=L.len;show lz af ?_;have Y':Keeps [] Z<|Z++[O.list []]:=.app;have v:=I.L.and Y';have D:=Y'.get I.e5 ai;have A':=Y'.get I.e6 ai;by_cases z:lf=[]
 ·show De au D bJ (by show(z)▸?_;rfl)<|bq af<|bq A' ?_;show J _ t' od (v.keeps (@Keeps.set (Z++[O.list []]) (U.length+1) .gone)<|k1<|by lia) ((I.K.and Y').bG<|eV _) (dO [_,_] V0 60 (V0+V1) 60 af f) ?_ ?_ ?_ _
  ·have:=I.nd;rwa [z]at this
  ·have:=I.all;rwa [z]at this
  ·rwa [z,kr,eY]at b
 ·have M:=jZ.mpr z;show De aB D bJ (by induction lf<;>first|show absurd rfl z|rfl)<|aN (gf A')<|aN (WC D)<|vp D ?_;rw[ay];show A9 v (dO [_,_] (V0+1) 1000 (V0+V1) 60 af f) M λw r g R h=>?_;have D:=g.get D<|cX λj=>jX<|fZ [_] 1 0 (5+1) V0 V0 1 af c<|ak j;have A':=g.get A'<|cX λj=>jX<|fZ [_] 1 0 (5+1) V0 (V0+1) 1 af c<|ak j;show j3 D ?_;show bq (by change(match decide (0<=(r:Int))with|true=>(iL lf)[(r:Int).toNat]? | au=>A)=_;rw[decide_eq_true<|bj r,gZ];show bS cj<|bS (bD h) ?_;rfl) ?_
  have x:=@Keeps.set w U.length<|.list<|(iL lf).eraseIdx (r:Int).toNat;have A':=x.get A'<|cX<|bT<|bE _;show j3 A'<|aN (by rw[ay];show aI (show od.length<=4 by show fZ [_,_,_] V0 4 V1 4 (V2+V0) V1 af s<|ak b)<|bz af) ?_;have y:=@Keeps.set (w.set U.length<|.list<|(iL lf).eraseIdx (r:Int).toNat) (U.length+1)<|.list<|iL od++[.int lf[r]];have E:=Rw h I.nd;have l:=List.length_eraseIdx_of_lt h;show Q (lf.eraseIdx r).length (lf.eraseIdx r,od++[lf[r]],t'+1) _ (bS (e)<|(l)▸dO [_,_] (V0+1) V1 (V0+1) V1 af (k8<|dO [_] 1 V0 (0+1) V0 af M)) #[#[(R.keeps x<|k1<|dO [_] 6 V0 (5+1) V0 af c).keeps y<|k1<|dO [_] 6 (V0+1) (5+1) V0 af c,(((I.K.and Y').step g λi m W=>m).bG<|aE _).bG<|eV _,(y.get (cM (o':=.list<|(iL lf).eraseIdx (r:Int).toNat) D)<|cX<|aS<|bE _).trans ?_,(cM A').trans<|by rw[iL,iL,aO];rfl,?_,E.1,λk=>(E.2 k).trans<|I.all k,?_],rfl]
  ·rw[gZ,iL,iL,mj,mj,aO,XF,List.map_drop]
  ·change t'+1+(lf.eraseIdx r).length<=60;show(l)▸fZ [_,_,_] (V0+1+V1) 60 (V0+V2) 60 (V1+1) V2 af f (k8<|dO [_] 1 V0 (0+1) V0 af M)
  ·change(lf.eraseIdx r).length+(od++[lf[r]]).length=n;show bS l<|bS aj<|bS fV ?_;show di (fZ [_,_,_,_] (V0+(V1+1)) V2 (V3+V1) V2 (V0+1) V3 af (ak b)<|k8<|dO [_] 1 V0 (0+1) V0 af M)<|fZ [_,_,_,_] V0 (V1+(V2+1)) V0 (V3+V2) V3 (V1+1) af (ak b.symm)<|oJ _ _
end
section
variable {R:Ro}{od:List Nat}{U:List O}{I:List Nat}{rest:S}
theorem u7(D:∀k b,R.bs k=ae b->b<k):P5 R.bs (fF R.bs [] od)/\∀k∈od,k∈fF R.bs [] od:=by
 have M:=xK D (ks:=od) (f:=[]) λp k q e=>by cases p<;>cases e
 show#[λk F b e=>?_,M.2.2];obtain⟨s,u,z⟩:=pn F;have:=M.1 s k u z b e;show(z)▸aU _ this
theorem JQ(A:∀k b,R.bs k=ae b->b<k){o:Nat}(D:o∈od):fF R.bs [] (od++[o])=fF R.bs [] od:=by rw[qL,jk.mpr λx m=>?_,aY];rw[decide_eq_true_iff];show λz=>z<|Rx A (u7 A).1 (bE o) ((u7 A).2 o D) x<|cR.mp m
structure KS(R:Ro)(wc:Bool)(od ks:List Nat):Prop where
 lt:∀k∈ks,k<R.n
 ne:ks≠[]
 eq:fF R.bs [] ks=fF R.bs [] od
 srt:Srt (R.en wc) R.bs ks
 ol:∀k∈od,k<R.n
 o4:od.length<=4
theorem adD(h:R.Ok)(M:0<R.n)(A:∀k,k∈od ↔ k<R.n)(F:od.length=R.n)(L:ks=od∨∃o,o∈od/\ks=od++[o]):KS R wc od ks:=by
 have sub:∀k,k∈ks ↔ k<R.n:=λk=>by
  rcases L with rfl | ⟨o,D,rfl⟩
  ·show A k
  ·rw[aM,A k,ah];show#[λz=>z.elim id λz=>z▸(A o).mp D,.inl]
 have len:ks.length<=5:=by
  rcases L with rfl | ⟨o,D,rfl⟩
  ·show fZ [_,_] V0 5 V1 4 V0 V1 af h.few<|ak F
  ·rw[aj,fV];show fZ [_,_] (V0+1) 5 V0 V1 V1 4 af (ak F) h.few
 show#[λk m=>(sub k).mp m,λz=>?_,?_,#[λi U j Y e=>rZ h ((sub i).mp U) ((sub j).mp Y) e,λk Z e=>by unfold Ro.en;rw[e];rfl,λk m b e=>#[(sub b).mpr<|aW (h.lt k b e)<|(sub k).mp m,(R.c b).length,by unfold Ro.en;rw[e];rfl],h.lt,len],λk m=>(A k).mp m,(fZ [_,_] V0 4 V0 V1 V1 4 af (ak F) h.few)]
 ·have:=(sub 0).mpr M;replace this:=(z)▸this;show cO this
 ·rcases L with rfl | ⟨o,D,rfl⟩
  ·rfl
  ·show JQ h.lt D
theorem MZ(w:R.Ok)(L:LZ U is t H)(f:t<=900)(x:∀k∈od,k<R.n)(y:od≠[])(o4:od.length<=4)
  (g:∀Y t' wc ks v7,LZ Y is t' H->Keeps [1] U Y->t'<=t+2->(ks=od∨∃o,o∈od/\ks=od++[o])->ex (LV<|q+2) X rest #[lT v0 (ae<|.ref 1) v2 v3 (ae<|.p<|dX R) v5 (ae<|.p<|.lst<|iL od) v7 (ae<|.p<|.lst<|ks.map<|vl<|R.en wc) v9 v10 v11 jy lU kR kK jR,Y] kk) :
  ex (LV<|q+2) X (.cons (.asg (.loc 7)<|.cmp .Eq (.call 759<|.cons (.loc 1)<|.cons (.c<|.int 2) .nil)<|.c<|.int 0)<|.cons (.yV 8 1 au (.loc 17) (.loc 6) .nil<|.call 776<|.cons (.loc 4)<|.cons (.loc 17)<|.cons (.c<|.bool au)<|.cons (.loc 7) .nil)<|.cons (.ifs (.cmp .Eq (.call 759<|.cons (.loc 1)<|.cons (.c<|.int 3) .nil)<|.c<|.int 0) (.cons (.ex<|.bm .Add (.loc 8)<|.cons (.sub (.loc 8)<|.c<|.int 0) .nil) .nil) .nil)<|.Ug 8 rest)
   #[lT v0 (ae<|.ref 1) v2 v3 (ae<|.p<|dX R) v5 (ae<|.p<|.lst<|iL od) v7 v8 v9 v10 v11 jy lU kR kK jR,U] kk:=by
 show A9 L (dO [_] (V0+1) 1000 V0 900 af f) (by decide) λz B Z h C=>?_;obtain⟨wc,I⟩:∃wc,(((B:Nat):Int)==0)=wc:=#[_,rfl];show kT wc I<|ls af<|mC (λ(n:Nat)=>P.int n) (vl<|R.en wc) (λt=>vN v0 (ae<|.ref 1) v2 v3 (ae<|.p<|dX R) v5 (ae<|.p<|.lst<|iL od) (ae<|.p<|.bool wc) v8 v9 v10 v11 jy lU kR kK jR t) (λ_ Y=>Keeps [] z Y) (λp a r e t Y J El K Q T=>?_) (av o4<|c6 af) az .refl λt D F=>?_
 ·show ls af<|qQ w (x a<|e▸aG _ (.head _)) λD F=>(aN Q<|T _ _<|K.and F)
 have A:Keeps [] D<|D++[O.list<|od.map<|vl<|R.en wc]:=.app;have j:=(h.and F).and A;have l6:=j.len;show ls af ?_;have l:=bJ (a:=D) (o:=O.list<|od.map<|vl<|R.en wc) (r:=[]);have l2:=iC l;have b:=by have:=(h.and F).len;show this
 show A9 j (dO [_] (V0+1+1) 1000 V0 900 af f) (by decide) λd W s v hr3=>?_;have U':=s.get l<|cX λζ=>jX<|fZ [_] 1 0 (5+1) V0 V0 1 af b<|ak ζ;have Y':Keeps [1] U d:=(((Z.and F).and A)).step s λi m _=>m;by_cases h0:W=0
 ·show kT aB (by rw[h0];rfl) ?_;obtain⟨o,M,rfl⟩:=BL y;show aN (gf U')<|zJ (n:=0) U' af<|j3 U'<|aN (by rw[ay];show aI o4<|bz af)<|bq (cM U') ?_;have:=g _ _ wc (o::M++[o]) (ae<|.p<|.bool wc) ((v.keeps (@Keeps.set d D.length<|.list<|(o::M).map (vl<|R.en wc)++[vl (R.en wc) o])<|k1 b).keeps (@Keeps.set (d.set D.length<|.list<|(o::M).map (vl<|R.en wc)++[vl (R.en wc) o]) D.length .gone)<|k1 b) ((Y'.bG<|(Z.and F).len).bG<|(Z.and F).len) (aE _)<|.inr #[o,.head _,rfl];replace this:=(aO)▸this;show this
 ·show kT au (beq_eq_false_iff_ne.mpr<|by lia)<|bq U'<|g _ _ wc od (ae<|.p<|.bool wc) (v.keeps (@Keeps.set d D.length .gone)<|k1 b) (Y'.bG<|(Z.and F).len) (aE _)<|.inl af
end
theorem Due.ord{R:Ro}(D:Due R gk):Ord R gk:=tL (a:=[]) D.lt D.nd D.pre (aY _).symm
theorem abz{R:Ro}(c:P5 R.bs gk):gk.map (vl<|R.en wc)=(R.Z wc gk).map cJ.val:=by
 unfold Ro.Z;rw[bw];show cL λk D=>congrArg cJ.val ?_;unfold Ro.en Ro.ef;induction e:R.bs k with
 |none=>rfl
 |some b=>rw[fX,if_pos<|decide_eq_true<|c k D b e]
section
variable {R:Ro}{od:List Nat}{U:List O}{I:List Nat}{rest:S}
theorem aey(A:R.Ok)(S:KS R wc od ks)(L:LZ U is t H)
  (d:∀Y,LZ Y is t H->Keeps [] U Y->Due R (fF R.bs [] od)->ex (LV<|q+3) X rest #[lT v0 v1 v2 v3 (ae<|.p<|dX R) v5 (ae<|.p<|.lst<|iL od) v7 (ae<|.p<|.lst<|ks.map<|vl<|R.en wc) (ae<|.p<|.lst<|iL<|fF R.bs [] od) v10 v11 jy lU kR kK jR,Y] kk) :
  ex (LV<|q+3) X (.cons (.asg (.loc 9)<|.call 781<|.cons (.loc 4)<|.cons (.loc 6) .nil)<|.cons (.ifs (.cmp .NotEq (.comp 1 (.loc 17) (.call 414<|.cons (.loc 8) .nil) .nil<|.attr (.loc 17) 345 0)<|.comp 1 (.loc 17) (.loc 9) .nil<|.sub (.sub (.loc 4)<|.loc 17)<|.c<|.int 0) (.cons (.ret<|.c<|.bool au) .nil) .nil) rest)
   #[lT v0 v1 v2 v3 (ae<|.p<|dX R) v5 (ae<|.p<|.lst<|iL od) v7 (ae<|.p<|.lst<|ks.map<|vl<|R.en wc) v9 v10 v11 jy lU kR kK jR,U] kk:=by
 show uo A S.ol (av S.o4<|c6 af) λv f=>(ls af<|xP S.srt λg h nd sub w=>?_);rw[S.eq]at nd sub ⊢;have D:Due R<|fF R.bs [] od:=#[λk m=>S.lt k<|sub k m,nd,(xK A.lt λp k q e=>by cases p<;>cases e).1];show mC (vl<|R.en wc) (λk=>.bytes<|oN k) (λt=>vN v0 v1 v2 v3 (ae<|.p<|dX R) v5 (ae<|.p<|.lst<|iL od) v7 (ae<|.p<|.lst<|ks.map<|vl<|R.en wc) (ae<|.p<|.lst<|iL<|fF R.bs [] od) v10 v11 jy lU kR kK jR t) (λz Y=>Y=g) (λp a r e t Y F i M C Q=>?_) (av (D.len A)<|c6 af) az af λt Z l=>?_
 ·show ls af<|aN C<|Q _ _ M
 subst l;show mC (λ(n:Nat)=>P.int n) (λk=>.bytes<|oN k) (λt=>vN v0 v1 v2 v3 (ae<|.p<|dX R) v5 (ae<|.p<|.lst<|iL od) v7 (ae<|.p<|.lst<|ks.map<|vl<|R.en wc) (ae<|.p<|.lst<|iL<|fF R.bs [] od) v10 v11 jy lU kR kK jR t) (λz Y=>Y=Z++[O.list<|(fF R.bs [] od).map λk=>.bytes<|oN k]) (λp a r e t Y F i M C Q=>?_) (av (D.len A)<|c6 af) az af λt y o=>?_
 ·show ls af<|lA (jE<|D.lt a<|e▸aG _ (.head _))<|aN C<|Q _ _ M
 subst o;have b:Keeps [] (Z++[O.list<|(fF R.bs [] od).map λk=>.bytes<|oN k]) _:=.app (j:=[O.list<|(fF R.bs [] od).map λk=>.bytes<|oN k]);show En (b.get bJ ai) bJ (oQ λx m=>?_) ?_
 ·show gO m λn z s=>s▸GO
 have K:=((f.and h).and .app).and b;show d _ (L.and K) K D
theorem Vn(D:R.Ok)(S:KS R wc od ks)(L:LZ U is t H)(F:t<900)(M:Ak R H)(o:H.length<200)
  (l:∀Y H',LZ Y is (t+1) H'->uc 10 H H'->ex (LV<|q+13) X rest #[lT v0 (ae<|.ref 1) (ae<|.ref 2) (ae<|.ref 5) (ae<|.p<|dX R) v5 (ae<|.p<|.lst<|iL od) v7 (ae<|.p<|.lst<|ks.map<|vl<|R.en wc) v9 v10 v11 jy lU kR kK jR,Y] kk) :
  ex (LV<|q+13) X (.cons (.ifs (.not<|.v<|.call 805<|.cons (.loc 4)<|.cons (.loc 6)<|.cons (.loc 8)<|.cons (.bin .Add (.c<|.int 16)<|.call 759<|.cons (.loc 1)<|.cons (.c<|.int 60) .nil)<|.cons (.loc 2)<|.cons (.loc 3) .nil) (.cons (.ret<|.c<|.bool au) .nil) .nil) rest)
   #[lT v0 (ae<|.ref 1) (ae<|.ref 2) (ae<|.ref 5) (ae<|.p<|dX R) v5 (ae<|.p<|.lst<|iL od) v7 (ae<|.p<|.lst<|ks.map<|vl<|R.en wc) v9 v10 v11 jy lU kR kK jR,U] kk:=by show A9 L (dO [_] (V0+1) 1000 (V0+1) 900 af F) (by decide) λh r j s k=>?_;have Z:(16:Int)+(r)=(16+r):=((zq [_] (.a (.n 16)<|.c V0)<|.c<|16+V0).mpr<|di (Fo [_] (16+V0) (16+V0) af)<|Fo [_] (16+V0) (16+V0) af);change LV (q+13) 805 [_,_,_,.p<|.int<|16+(r),_,_] _ _;show(Z)▸(Aq D S.srt S.lt S.ne S.ol (av S.o4<|c6 af) S.eq s.X s.ci M o #[c6 af,c6 af,c6 af] λb d e f g=>(fj<|l b d (s.hash e (λi m=>.inl<|ah.mp m) f) g))
theorem aaW(M:R.Ok)(S:KS R wc od ks)(D:Due R<|fF R.bs [] od)(L:LZ U is t H)(h:H.length<230)
  (g:∀Y H',LZ Y is t H'->uc 1 H H'->cz (R.Z wc<|fF R.bs [] od)∈H'->ex (LV<|q+6) X rest #[lT v0 v1 (ae<|.ref 2) (ae<|.ref 5) v4 v5 v6 v7 (ae<|.p<|.lst<|ks.map<|vl<|R.en wc) v9 (ae<|.p<|.bytes<|cz (R.Z wc<|fF R.bs [] od)++uu H' (cz<|R.Z wc<|fF R.bs [] od)) v11 jy lU kR kK jR,Y] kk) :
  ex (LV<|q+6) X (.cons (.asg (.loc 10)<|.call 407<|.cons (.call 414<|.cons (.loc 8) .nil)<|.cons (.loc 2)<|.cons (.loc 3) .nil) rest)
   #[lT v0 v1 (ae<|.ref 2) (ae<|.ref 5) v4 v5 v6 v7 (ae<|.p<|.lst<|ks.map<|vl<|R.en wc) v9 v10 v11 jy lU kR kK jR,U] kk:=by show xP S.srt λe Z nd sub f=>((S.eq)▸(abz (u7 M.lt).1)▸?_);have j:=L.and Z;show AL (kZ M D.ord) j.X j.ci (dO [_] (V0+1) 250 (V0+1) 230 af h) λa b d=>(ls af ?_);have F:=mK (H:=H) (c:=cz<|R.Z wc<|fF R.bs [] od);change ex _ _ _ #[lT _ _ _ _ _ _ _ _ _ _ (ae<|.p<|.bytes<|cz (R.Z wc<|fF R.bs [] od)++uu H (cz<|R.Z wc<|fF R.bs [] od)) _ _ _ _ _ _,_] _;show(F.2.2)▸(g a _ (j.hash b (λi m=>.inl<|ah.mp m) d) F.1 F.2.1)
end
theorem ab2{N:Nat}(f:α->P){step:P->List P->St->(List P->St->Prop)->Prop}(L:τ->List (Option V))(l:Nat->List O->Prop){k:List P->St->Prop}:∀{D:List α}{A:List P}{n:Nat} (t:τ) {F:List O},
  (∀a∈D,∀t A n F kk,l n F->n<N->A.length<N->(∀t' Y,l (n+1) Y->kk A #[L t',Y]/\kk (A++[f a]) #[L t',Y])->step (f a) A #[L t,F] kk)->n+D.length<=N->A.length<=n->l n F->(∀t' Y (s:List α),s.Sublist D->l (n+D.length) Y->k (A++s.map f) #[L t',Y])->j0 step (D.map f) A #[L t,F] k:=by
 intro D;induction D with
 |nil=>intro A n t F _ _ _ h M;have:=M t F [] (Cz _) h;rwa [wN,aY]at this
 |cons a D g=>
  intro A n t F U R j h M;rw[aX]at R M;rw[bK];show oO<|U a (.head _) t A n F _ h (dO [_,_,_] (V0+1) V1 (V0+(V2+1)) V1 af R) (fZ [_,_,_,_] (V0+1) V1 (V2+(V3+1)) V1 V0 V2 af R j) λt' Y i=>#[?_,?_]
  ·show g t' (λb m=>U b<|.tail _ m) (show n+1+D.length<=N by show dO [_,_,_] (V0+1+V1) V2 (V0+(V1+1)) V2 af R) (dP j) i λZ c s d e=>M Z c s (d.cons a) ?_;rwa [pD]at e
  ·show g t' (λb m=>U b<|.tail _ m) (show n+1+D.length<=N by show dO [_,_,_] (V0+1+V1) V2 (V0+(V1+1)) V2 af R) ((aj)▸cU j) i λZ c s d e=>?_;have:=M Z c (a::s) (d.cons_cons a) (by rwa [pD]at e);rwa [bK,OT]at this
section
variable {R:Ro}{od:List Nat}{U:List O}{I:List Nat}{rest:S}
theorem R5(F:R.Ok)(D:Due R gk)(w:gk≠[])(L:LZ U is t H)(Z:Ak R H)(a:cz (R.Z wc gk)∈H)
  (b:∀Y W,LZ Y is t H->RS Y W->W.Z=R.Z wc gk->W.H=H->W.h=2->W.d=4->W.B<=Y.length->ex (LV<|q+12) X rest #[lT v0 v1 (ae<|.ref 2) (ae<|.ref 5) (ae<|.p<|dX R) v5 v6 v7 v8 (ae<|.p<|.lst<|iL gk) (ae<|.p<|.bytes<|cz (R.Z wc gk)++uu H (cz<|R.Z wc gk)) (ae<|.ref W.r) jy lU kR kK jR,Y] kk) :
  ex (LV<|q+12) X (.cons (.asg (.loc 11)<|.call 707<|.cons (.loc 10)<|.cons (.loc 2)<|.cons (.loc 3) .nil)<|.cons (.ifs (.not<|.v<|.call 800<|.cons (.loc 4)<|.cons (.loc 9)<|.cons (.loc 10)<|.cons (.loc 11) .nil) (.cons (.ret<|.c<|.bool au) .nil) .nil) rest)
   #[lT v0 v1 (ae<|.ref 2) (ae<|.ref 5) (ae<|.p<|dX R) v5 v6 v7 v8 (ae<|.p<|.lst<|iL gk) (ae<|.p<|.bytes<|cz (R.Z wc gk)++uu H (cz<|R.Z wc gk)) v11 jy lU kR kK jR,U] kk:=by
 show qY (Du (wc:=wc) F D.ord Z) L.X L.ci a #[c6 af,c6 af,c6 af] λl n ca dc f M x=>(ls af<|qi F D.ord af w af M x.2.2 λg s B D9 Sx j o k=>(fj ?_));show b g _ ((L.hash f (λi m=>.inl<|ah.mp m) M.X).hash j (λi m=>?_) o.X) o af af af af k;rcases aC.mp m with e|m
 ·show .inr<|(e)▸L.len
 rcases aC.mp m with e|m
 ·show .inl e
 rcases aC.mp m with e|m
 ·show .inr<|by rw[e];show aW L.len x.1
 ·show .inr<|by rw[ah.mp m];show aW L.len x.2.1
theorem aas(A:gk.length<=4)(L:LZ U is t H)(F:t<900)
  (M:∀Y t' (s),LZ Y is t' H->Keeps [1] U Y->t'<=t+4->s.Sublist gk->ex (LV<|q+1) X rest #[lT v0 (ae<|.ref 1) v2 v3 v4 v5 v6 v7 v8 (ae<|.p<|.lst<|iL gk) v10 v11 (ae<|.p<|.lst<|iL s) lU kR kK jR,Y] kk) :
  ex (LV<|q+1) X (.cons (.asg (.loc 12)<|.fz<|.comp 1 (.loc 17) (.loc 9) (.cons (.cmp .Eq (.call 759<|.cons (.loc 1)<|.cons (.c<|.int 2) .nil)<|.c<|.int 0) .nil)<|.loc 17) rest)
   #[lT v0 (ae<|.ref 1) v2 v3 v4 v5 v6 v7 v8 (ae<|.p<|.lst<|iL gk) v10 v11 jy lU kR kK jR,U] kk:=by
 show ab2 (N:=4) (n:=0) (λ(n:Nat)=>P.int n) (λx=>vN v0 (ae<|.ref 1) v2 v3 v4 v5 v6 v7 v8 (ae<|.p<|.lst<|iL gk) v10 v11 jy lU kR kK jR x) (λn Y=>LZ Y is (t+n) H/\Keeps [1] U Y) az (λa m x z n D k I y Z b=>?_) (dO [_] (0+V0) 4 V0 4 af A) (aE _) #[L,.refl] λx D s d I=>?_
 ·show ls af<|A9 I.1 (fZ [_,_] (V0+V1+1) 1000 (V0+1) 900 (V1+1) 4 af F y) (by decide) λe r f g l=>?_;have:=b (ae<|.p<|.int a) e #[g,I.2.step f λi m w=>m];by_cases h:r=0
  ·show kT aB (by rw[h];rfl)<|aN (aH Z<|c6 af) this.2
  ·show kT au (beq_eq_false_iff_ne.mpr<|by lia) this.1
 ·have v:=I.1.len;show bq bJ ?_;have K:=(Keeps.app (I:=[]) (a:=D) (j:=[O.list<|iL s])).bG (o:=.gone)<|aE _;show ls af ?_;show M _ _ s (I.1.and K) (I.2.and K) ?_ d;rw[eY];show dO [_,_] (V0+V1) (V0+4) V1 4 af A
end
theorem Td{x:Int}:∀{l:List Int},(∀y∈l,y<x)->Oa x l=l++[x]:=by
 intro l;induction l with
 |nil=>intro _;show af
 |cons y r D=>intro h;have:=h y<|.head _;change(if x<=y then x::y::r else y::Oa x r)=_;rw[if_neg<|by lia,D λz m=>h z<|.tail _ m];rfl
theorem MQ{l:List Int}(h:l.reverse.Pairwise λa b=>b<a):lY l.reverse=l:=by
 have D:∀{r:List Int},r.Pairwise (λa b=>b<a)->lY r=r.reverse:=by
  intro r;induction r with
  |nil=>show λZ=>rfl
  |cons x r F=>intro h;have M:=pe.mp h;change Oa x (lY r)=_;rw[F M.2,Td λy m=>M.1 y<|cR.mp m,lJ]
 rw[D h,HY]
theorem VX:∀{Z:List cJ}{s:Nat},((D6 s Z).map (·.1)).Pairwise (· < ·)/\∀x∈(D6 s Z).map (·.1),s<=x:=by
 intro Z;induction Z with
 |nil=>intro _;show#[.nil,λD m=>(cO m)]
 |cons e r M=>
  intro s;show#[pe.mpr #[λx m=>?_,(M).1],λx m=>?_]
  ·have:=(M).2 x m;show aH (jd<|oR) this
  ·rcases aC.mp m with rfl|m
   ·show aE _
   ·show av (bg _ _)<|(M).2 x m
section
variable {R:Ro}{s:List Nat}
def pN(R:Ro)(wc:Bool)(gk:List Nat)(k:Nat):Nat:=(zZ (R.Z wc gk)<|oN k).getD 0
theorem wY(h:R.Ok)(O:Ord R gk)(D:k∈gk):zZ (R.Z wc gk) (oN k)=I (pN R wc gk k)/\nT (R.Z wc gk) (pN R wc gk k) (R.ef wc gk k):=by
 obtain⟨a,M,L⟩:=Ek h O D;have e:pN R wc gk k=a:=by unfold pN;show(M)▸?_;rfl
 show(e)▸#[M,L]
theorem abQ(h:R.Ok)(O:Ord R gk)(A:k∈gk)(D:j∈gk)(e:pN R wc gk k=pN R wc gk j):k=j:=by have a:=(wY (wc:=wc) h O A).2.en;rw[e,(wY h O D).2.en]at a;show(rZ h (O.lt j D) (O.lt k A)<|congrArg cJ.o a).symm
theorem U9(h:R.Ok)(O:Ord R gk):gk.map (pN R wc gk)=cf (R.Z wc gk):=by
 have M:gk.length=(cf<|R.Z wc gk).length:=by rw[iI,Ro.Z,ay]
 show((congrArg (List.map<|pN R wc gk) (yK<|ak M).symm).trans<|(bw (f:=λz:Nat×Nat=>z.1) (g:=pN R wc gk)).trans<|cL λz m=>?_).trans<|yJ<|ak M.symm;show hd λF D=>?_;obtain⟨p,r,e⟩:=pn m;obtain⟨_,a,L⟩:=KZ e;show D ?_;have:=nW (kZ h O) L;change(zZ (R.Z wc gk) (R.ef wc gk z.1).o).getD 0=z.2;show(this)▸?_;rfl
theorem ab1(h:R.Ok)(O:Ord R gk)(A:s.Sublist gk):(s.map<|pN R wc gk).Pairwise (· < ·):=by have:=(VX (Z:=R.Z wc gk) (s:=12)).1;rw[<- uM,<- U9 h O]at this;show this.sublist<|A.map _
theorem U4(h:R.Ok)(O:Ord R gk)(c:P5 R.bs gk)(F:s.Sublist gk)(d:k∈s):w6 (R.Z wc gk) (s.reverse.map<|pN R wc gk) (pN R wc gk k)=R.ef au s k:=by
 have a:=F.subset d;have L:=(wY (wc:=wc) h O a).2;unfold w6;show(JW h L)▸(L.en)▸?_;unfold Ro.ef;induction e:R.bs k with
 |none=>rfl
 |some b=>
  rw[fX,fX,if_pos<|decide_eq_true<|c k a b e];change cJ.mk _ _ _ ((zZ (R.Z wc gk)<|oN b).bind _)=_;rw[(wY h O<|c k a b e).1];change cJ.mk _ _ _ (if _ then I (R.b2 b) else A)=_;by_cases m:b∈s
  ·show(if_pos<|decide_eq_true m)▸(if_pos<|dD.mpr #[b,cR.mpr m,rfl])▸?_;rfl
  ·have M:pN R wc gk b∉List.map (pN R wc gk) s.reverse:=λz=>by
    show gO z λj D z=>?_
    have D:=cR.mp D
    show m<|abQ h O (F.subset D) (c k a b e) z▸D
   have U:¬decide (b∈s)=aB:=by rw[decide_eq_true_iff];show m
   show(if_neg M)▸(if_neg U)▸?_;rfl
end
section
variable {R:Ro}{od s:List Nat}{U:List O}{I:List Nat}{rest:S}
theorem O4(F:R.Ok)(D:Due R gk)(c:P5 R.bs gk)(L:LZ U is t H)(Z:RS U W)(b:W.Z=R.Z wc gk)(hd:W.d=4)(y:W.h=2)(z:W.H=H)(g:W.B<=U.length)(M:s.Sublist gk)
  (f:∀Y,LZ Y is t H->RS Y W->W.B<=Y.length->ex (LV<|q+8) X rest #[lT v0 v1 v2 v3 (ae<|.p<|dX R) v5 v6 v7 v8 v9 v10 (ae<|.ref W.r) (ae<|.p<|.lst<|iL s) (ae<|.p<|.lst<|s.map<|vl<|R.ef au s) kR kK jR,Y] kk) :
  ex (LV<|q+8) X (.cons (.asg (.loc 13)<|.call 718<|.cons (.loc 11)<|.cons (.fz<|.comp 1 (.loc 17) (.rev<|.loc 12) .nil<|.sub (.sub (.loc 4)<|.loc 17)<|.c<|.int 0) .nil) rest)
   #[lT v0 v1 v2 v3 (ae<|.p<|dX R) v5 v6 v7 v8 v9 v10 (ae<|.ref W.r) (ae<|.p<|.lst<|iL s) lU kR kK jR,U] kk:=by
 have Y':=D.ord;have sd:=λk (m:k∈s)=>M.subset m;have inc:=ab1 (wc:=wc) F Y' M;change j0 _ ((iL s).reverse) [] #[vN v0 v1 v2 v3 (ae<|.p<|dX R) v5 v6 v7 v8 v9 v10 (ae<|.ref W.r) (ae<|.p<|.lst<|iL s) lU kR kK jR az,U] _;show((gF ..).symm)▸(mC (λ(n:Nat)=>P.int n) (λk=>.bytes<|oN k) (λx=>vN v0 v1 v2 v3 (ae<|.p<|dX R) v5 v6 v7 v8 v9 v10 (ae<|.ref W.r) (ae<|.p<|.lst<|iL s) lU kR kK jR x) (λ_ Y=>Y=U) (λp a r e x Y C El J K Q=>?_) (by rw[i6];show av (av M.length_le<|D.len F)<|c6 af) az af λx T e1=>?_)
 ·show ls af<|lA (jE<|D.lt a<|sd a<|cR.mp<|e▸aG _ (.head _))<|aN K<|Q _ _ J
 subst e1;have ew:(s.reverse.map λk=>P.bytes<|oN k)=(s.reverse.map<|pN R wc gk).map λa=>.bytes (eu W.Z a).o:=by rw[bw,b];show cL λk m=>?_;change _=P.bytes (eu (R.Z wc gk)<|pN R wc gk k).o;rw[(wY F Y'<|sd k<|cR.mp m).2.en];rfl
 rw[ew];show bq bJ ?_;have A:=(Keeps.app (I:=[]) (a:=T) (j:=[O.list<|(s.reverse.map<|pN R wc gk).map λa=>.bytes (eu W.Z a).o])).bG (o:=.gone)<|aE _;have l:=Z.lo;have t:=Z.lt;show NR (qs:=s.map<|pN R wc gk) (Z.keeps A λ_ m=>(cO m)) (av g A.len) (λa m=>?_) ?_ ?_ (λa m=>?_) λeR v w=>?_
 ·show gO m λk f ζ=>ζ▸((b)▸(wY F Y'<|sd k<|cR.mp f).2.pos)
 ·rw[(gF ..)];show rX.mpr<|inc.imp bT
 ·rw[(gF ..),gF];show MQ ?_;rw[rX,gV];show inc.imp λh=>fD.mpr h
 ·rw[(gF ..)];show cR.mpr m
 ·show ls af ?_;have er:((s.map<|pN R wc gk).map λa=>(w6 W.Z (s.reverse.map<|pN R wc gk) a).val)=s.map (vl<|R.ef au s):=by rw[bw,b];show cL λk m=>?_;change(w6 (R.Z wc gk) _<|pN R wc gk k).val=_;rw[U4 F Y' c M m]
  show(er)▸?_;have X2:=by have:=w.X;rwa [y,hd,z]at this
  show f eR ((L.and A).hash v (λi m=>?_) X2) w<|av g<|av A.len v.len;simp only[Wd.U,aC,ai,or_false]at m;lia
theorem abP(B:R.Ok)(g:∀k∈s,k<R.n)(h:s.length<=4)(L:LZ U is t H)
  (l:∀Y,LZ Y is t H->Keeps [] U Y->ex (LV q) X rest #[lT v0 v1 v2 v3 (ae<|.p<|dX R) v5 v6 v7 v8 v9 v10 v11 (ae<|.p<|.lst<|iL s) (ae<|.p<|.lst<|s.map<|vl<|R.ef au s) kR kK jR,Y] kk) :
  ex (LV q) X (.cons (.ifs (.cmp .NotEq (.comp 1 (.loc 17) (.loc 13) .nil<|.tup<|.cons (.attr (.loc 17) 345 0)<|.cons (.attr (.loc 17) 345 3) .nil)<|.comp 1 (.loc 17) (.loc 12) .nil<|.tup<|.cons (.sub (.sub (.loc 4)<|.loc 17)<|.c<|.int 0)<|.cons (.ite (.cmp .In (.sub (.sub (.loc 4)<|.loc 17)<|.c<|.int 2)<|.loc 12) (.sub (.sub (.loc 4)<|.sub (.sub (.loc 4)<|.loc 17)<|.c<|.int 2)<|.c<|.int 0)<|.c .none) .nil) (.cons (.ret<|.c<|.bool au) .nil) .nil) rest)
   #[lT v0 v1 v2 v3 (ae<|.p<|dX R) v5 v6 v7 v8 v9 v10 v11 (ae<|.p<|.lst<|iL s) (ae<|.p<|.lst<|s.map<|vl<|R.ef au s) kR kK jR,U] kk:=by
 show mC (vl<|R.ef au s) (λk=>.tup [.bytes<|oN k,(R.ef au s k).bo]) (λx=>vN v0 v1 v2 v3 (ae<|.p<|dX R) v5 v6 v7 v8 v9 v10 v11 (ae<|.p<|.lst<|iL s) (ae<|.p<|.lst<|s.map<|vl<|R.ef au s) kR kK jR x) (λI Y=>Y=U) (λp a r e x Y M o D T Y'=>?_) (av h<|c6 af) A af λx F v=>?_
 ·show ls af<|lz af<|aN T<|Y' _ _ D
 subst v;have i:Keeps [] F<|F++[O.list<|s.map λk=>P.tup [.bytes<|oN k,(R.ef au s k).bo]]:=.app;show mC (λ(n:Nat)=>P.int n) (λk=>.tup [.bytes<|oN k,(R.ef au s k).bo]) (λx=>vN v0 v1 v2 v3 (ae<|.p<|dX R) v5 v6 v7 v8 v9 v10 v11 (ae<|.p<|.lst<|iL s) (ae<|.p<|.lst<|s.map<|vl<|R.ef au s) kR kK jR x) (λI Y=>Y=F++[O.list<|s.map λk=>.tup [.bytes<|oN k,(R.ef au s k).bo]]) (λp a r e x Y M o D T Y'=>?_) (av h<|c6 af) A af λx C D=>?_
 ·have Z:=g a<|e▸aG _ (.head _);show ls af<|lA (jE Z) ?_;show aav (e:=.ite _ _ _) (.p (R.ef au s a).bo) (λK Q=>?_)<|lz af<|aN T<|Y' _ _ D;show lA (jE Z)<|YZ ?_;unfold Ro.ef cJ.bo at Q;induction d:R.bs a with
  |none=>replace Q:=(d)▸Q;show Q
  |some b=>
   rw[d,fX]at Q;by_cases m:b∈s
   ·rw[if_pos<|decide_eq_true m]at Q;change B7 (decide (b∈s)) _ _;rw[decide_eq_true m];show lA (jE Z)<|Pu d (g b m) Q
   ·rw[if_neg<|by rw[decide_eq_true_iff];show m]at Q;change B7 (decide (b∈s)) _ _;rw[decide_eq_false m];show Q
 subst D;have f:Keeps [] (F++[O.list<|s.map λk=>P.tup [.bytes<|oN k,(R.ef au s k).bo]]) _:=.app (j:=[O.list<|s.map λk=>P.tup [.bytes<|oN k,(R.ef au s k).bo]]);show En (f.get bJ ai) bJ (oQ λy m=>?_) ?_
 ·show gO m λn I w=>w▸(oQ λz m=>?_);rcases aC.mp m with rfl|m
  ·show GO (n:=3)
  ·show(ah.mp m)▸?_;unfold cJ.bo;induction (R.ef au s n).base with
   |none=>rfl
   |some b=>show GO (n:=3)
 ·show l _ (L.and<|i.and f)<|i.and f
end
section
variable {R:Ro}{od s:List Nat}{U:List O}{I:List Nat}{rest:S}
theorem Vp(D:Due R gk)(A:s.Sublist gk):Ord R s:=by
 show#[λk m=>D.lt k<|A.subset m,D.nd.sublist A,λp k q e b U m=>?_];replace m:=(e)▸m;rcases aM.mp m with m|m
 ·show m
 have nd:=D.nd;show hd λd Y=>?_;obtain⟨f,Z,M,a,c⟩:=List.cons_sublist_iff.mp<|((List.sublist_append_right p (k::q)).trans<|e▸Cz _).trans A;obtain⟨x,y,F⟩:=pn a;show Y ?_;have bx:=D.pre x k (y++Z) (by rw[M,F,aJ];rfl) b U;rw[M]at nd;have L:=bA.mp nd;rcases aC.mp m with rfl|m
 ·rw[F]at L;show absurd af<|(bA.mp L.1).2.2 b bx b<|.head _
 ·show absurd af<|L.2.2 b (bS (F)<|aU _ bx) b<|c.subset m
theorem Xi(e:R.Ok)(D:Due R gk)(sl:s.Sublist gk)(L:LZ U is t H)(KH:Ak R H)(f:H.length<230)(Z':RS U W)(hd:W.d=4)(hh:W.h=2)(Y':W.H=H)(C:W.B<=U.length)
  (j:∀Y H' v10,LZ Y is t H'->RS Y { W with H:=H' }->W.B<=Y.length->uc 1 H H'->ex (LV<|q+12) X rest #[lT v0 v1 (ae<|.ref 2) (ae<|.ref 5) (ae<|.p<|dX R) v5 v6 v7 v8 v9 v10 v11 (ae<|.p<|.lst<|iL s) (ae<|.p<|.lst<|s.map<|vl<|R.ef au s) kR kK jR,Y] kk) :
  ex (LV<|q+12) X (.cons (.ifs (.cmp .NotEq (.loc 12)<|.lst .nil) (.cons (.asg (.loc 10)<|.call 407<|.cons (.loc 13)<|.cons (.loc 2)<|.cons (.loc 3) .nil)<|.cons (.ifs (.not<|.v<|.call 800<|.cons (.loc 4)<|.cons (.loc 12)<|.cons (.loc 10)<|.cons (.call 707<|.cons (.loc 10)<|.cons (.loc 2)<|.cons (.loc 3) .nil) .nil) (.cons (.ret<|.c<|.bool au) .nil) .nil) .nil) .nil) rest)
   #[lT v0 v1 (ae<|.ref 2) (ae<|.ref 5) (ae<|.p<|dX R) v5 v6 v7 v8 v9 v10 v11 (ae<|.p<|.lst<|iL s) (ae<|.p<|.lst<|s.map<|vl<|R.ef au s) kR kK jR,U] kk:=by
 have k:=L.len
 have lW:=Z'.lo
 have tW:=Z'.lt
 have qW:=Z'.hi
 show lz af ?_
 have A:Keeps [] U<|U++[O.list []]:=.app
 have a:=L.and A
 by_cases z:s=[]
 ·show Lu au bJ (by show(z)▸?_;rfl)<|j _ H _ a (by subst Y';show Z'.keeps A λ_ m=>(cO m)) (av C A.len) .refl
 ·show Lu aB bJ (by induction s<;>first|show absurd rfl z|rfl) ?_
  have l:=Vp D sl
  have Z:s.map (vl<|R.ef au s)=(R.Z au s).map cJ.val:=(bw (g:=cJ.val)).symm
  rw[Z]at j ⊢
  show AL (kZ e l) a.X a.ci (dO [_] (V0+1) 250 (V0+1) 230 af f) λeR n X2=>?_
  have M:=mK (H:=H) (c:=cz<|R.Z au s)
  have el:=by have:=M.1.len;show fZ [_,_] (V0+1) 250 (V1+1) 230 V0 (V1+1) af f this
  show ls af ?_
  change ex _ _ _ #[lT _ _ _ _ _ _ _ _ _ _ (ae<|.p<|.bytes<|cz (R.Z au s)++uu H (cz<|R.Z au s)) _ _ _ _ _ _,_] _
  show(M.2.2)▸?_
  have o:=a.hash n (λi m=>.inl<|ah.mp m) X2
  show qY (Du e l<|M.1.abG KH<|dO [_] (V0+1+1) 250 (V0+1) 230 af f) o.X o.ci M.2.1 #[c6 af,c6 af,c6 af] λgY de ca dc I J r=>?_
  have w:=av A.len n.len
  have x:=r.2.1
  show qi e l af z af J r.2.2 λkQ s' B D9 Sx K Z4 hB4=>(fj ?_)
  have Q:=(o.hash I (λi m=>.inl<|ah.mp m) J.X).hash K (λi m=>by
   simp only[Wd.U,aC,ai,or_false]at m
   show m.elim (λy=>.inr<|rj [_,_,_] 6 V0 (5+1) V1 V1 V2 V2 V0 af k w<|ak y.symm) λy=>y.elim (λb=>.inl<|di (dO [_] V0 4 V0 4 af<|ak b)<|dO [_] 4 V0 4 V0 af<|ak b.symm) λb=>b.elim (λF=>.inr<|Um [_,_,_,_] 6 V0 (5+1) V1 V1 V2 (V2+1) V3 V3 V0 af k w r.1<|ak F.symm) λF=>.inr<|Um [_,_,_,_] 6 V0 (5+1) V1 V1 V2 (V2+1) V3 V3 V0 af k w x<|ak F.symm) Z4.X
  have T:=((A.none.step n λi m _=>m).step I λi m _=>m).step K λi m hi=>by
   simp only[Wd.U,aC,ai,or_false]at m
   show(show i=4 by lia)▸.head _
  show j kQ (pZ H<|cz<|R.Z au s) _ Q ?_ (av C T.len) M.1
  show Z'.ext T (λi m=>.inr<|.inr<|(ah.mp m).trans hd.symm) ?_ (bS Y' M.1) el
  show bS (hh)<|bS (hd) Q.X
end
section
variable {R:Ro}{od s:List Nat}{U:List O}{I:List Nat}{rest:S}
theorem ae3(L:LZ U is t H)(F:∀Y,LZ Y is t H->Keeps [] U Y->ex (LV<|q+2) X rest #[lT v0 v1 v2 v3 v4 v5 v6 v7 v8 v9 v10 v11 jy lU (ae<|.p<|cy aa bb) (ae<|.p<|cy bb aa) jR,Y] kk) :
  ex (LV<|q+2) X (.cons (.mV aB (.cons (.loc 14)<|.cons (.loc 15) .nil)<|.cons (.fz<|.call 345<|.cons (.c<|.bytes [97,97,97,97])<|.cons (.c<|.bytes [98,108,111,98])<|.cons (.c .none)<|.cons (.c<|.bytes [98,98,98,98])<|.cons (.c<|.bytes [120]) .nil)<|.cons (.fz<|.call 345<|.cons (.c<|.bytes [98,98,98,98])<|.cons (.c<|.bytes [98,108,111,98])<|.cons (.c .none)<|.cons (.c<|.bytes [97,97,97,97])<|.cons (.c<|.bytes [120]) .nil) .nil) rest)
   #[lT v0 v1 v2 v3 v4 v5 v6 v7 v8 v9 v10 v11 jy lU kR kK jR,U] kk:=by show kE (x2:=blob) (x3:=.none) (x4:=.bytes bb) af af λa M e=>?_;show Bp e af ?_;have f:=M.bG (o:=.gone)<|aE _;show kE (x2:=blob) (x3:=.none) (x4:=.bytes aa) af af λb d Z=>?_;show Bp Z af ?_;have D:=d.bG (o:=.gone)<|aE _;show aN af<|ls af<|ls af<|F _ (L.and<|f.and D)<|f.and D
theorem MU(L:LZ U is t H)(Z:RS U W)(hd:W.d=4)(F:W.h=2)(A:W.H=H)(M:W.B<=U.length)(n:H.length<235)
  (o:∀Y H',LZ Y is t H'->uc 1 H H'->ex (LV<|q+5) X rest #[lT v0 v1 (ae<|.ref 2) v3 v4 v5 v6 v7 v8 v9 v10 (ae<|.ref W.r) jy lU (ae<|.p<|cy aa bb) (ae<|.p<|cy bb aa) jR,Y] kk) :
  ex (LV<|q+5) X (.cons (.ifs (.zH<|.cons (.not<|.v<|.call 795<|.cons (.c<|.int 0)<|.cons (.fz<|.lst<|.cons (.loc 14)<|.cons (.loc 15) .nil)<|.cons (.loc 2) .nil)<|.cons (.not<|.v<|.call 795<|.cons (.c<|.int 1)<|.cons (.loc 11)<|.cons (.loc 2) .nil) .nil) (.cons (.ret<|.c<|.bool au) .nil) .nil) rest)
   #[lT v0 v1 (ae<|.ref 2) v3 v4 v5 v6 v7 v8 v9 v10 (ae<|.ref W.r) jy lU (ae<|.p<|cy aa bb) (ae<|.p<|cy bb aa) jR,U] kk:=by show lz af<|bq bJ<|Qu λb e=>(fj ?_);have K:=((Keeps.app (I:=[]) (a:=U)).bG<|aE _).and e;have D:=λ{Q}=>Rm (k:=q+1) (W:=W) (U:=b) (Q:=Q);rw[F,hd,A]at D;show D (Z.keeps K λl m=>(cO m)) (av M K.len) (dO [_] (V0+1) 240 (V0+1) 235 af n) λf g j=>(fj<|o f _ ((L.and K).hash g (λi m=>.inl<|ah.mp m) j) mK.1)
theorem ZH(M:R.Ok)(L:LZ U is t H)(r:H.length<235)
  (s:∀Y H',LZ Y is t H'->cz []∈H'->H'.length<250->ex (LV<|q+7) X rest #[lT v0 v1 (ae<|.ref 2) (ae<|.ref 5) v4 v5 v6 v7 v8 v9 v10 v11 jy lU kR kK<|ae<|.p<|.lst [.bytes<|cz []++uu H' (cz [])],Y] kk) :
  ex (LV<|q+7) X (.cons (.asg (.loc 16)<|.call 422<|.cons (.fz<|.lst .nil)<|.cons (.loc 2)<|.cons (.loc 3)<|.cons (.c<|.int 60) .nil) rest)
   #[lT v0 v1 (ae<|.ref 2) (ae<|.ref 5) v4 v5 v6 v7 v8 v9 v10 v11 jy lU kR kK jR,U] kk:=by show lz af<|bq bJ ?_;have w:=L.and<|(Keeps.app (j:=[O.list []])).bG (o:=.gone)<|aE _;show FY (R:=R) (wc:=aB) (ks:=[]) M #[λi m=>(nomatch m),λi m=>(nomatch m),λi m=>(nomatch m),M.lt,dU _] (λk m=>(nomatch m)) w.X w.ci (dO [_] (.a (.v 0)<|.n 1) (.n 240) (.a (.v 0)<|.n 1) (.n 235) af r) λZ b h d e f l l l D g l=>?_;have D:=D af;subst D;have F:=f.len;show ls af<|s Z b (w.hash d (λi m=>.inl<|ah.mp m) e) (g []<|.head _)<|fZ [_,_] (V0+1) 250 (V1+1) 235 V0 (V1+5) af r F
theorem ada(L:LZ U is t H)(F:cz []∈H)(M:H.length<250)(n:∀Y,Q (.ok<|.p<|.bool aB) Y) :
  ex (LV<|q+6) X (.cons (.ret<|.nK<|.cons (.call 795<|.cons (.c<|.int 2)<|.cons (.fz<|.lst<|.cons (.loc 14) .nil)<|.cons (.loc 2) .nil)<|.cons (.cmp .Eq (.bi .Add<|.cons (.loc 16) .nil)<|.c<|.int 1)<|.cons (.cmp .Eq (.eN (.call 707<|.cons (.sub (.loc 16)<|.c<|.int 0)<|.cons (.loc 2)<|.cons (.loc 3) .nil) 707 650 .nil)<|.lst .nil) .nil) .nil)
   #[lT v0 v1 (ae<|.ref 2) (ae<|.ref 5) v4 v5 v6 v7 v8 v9 v10 v11 jy lU (ae<|.p<|cy aa bb) kK<|ae<|.p<|.lst [.bytes<|cz []++uu H (cz [])],U] λf σ=>Q (.ok<|kJ f) σ.U:=by show lz af<|bq bJ<|R6 λZ l=>(fj<|kT aB af<|fj ?_);have o:=L.and<|((Keeps.app (I:=[]) (a:=U)).bG<|aE _).and l;show qY (#[#[λk m=>(nomatch m),λp x r e=>absurd e.symm<|dS _<|fL _ _,λp x r e=>absurd e.symm<|dS _<|fL _ _,dU _],λk m=>(nomatch m),λk m=>(nomatch m),M]) o.X o.ci F #[c6 af,c6 af,c6 af] λb d ca dc g D h=>(aN (bF D.obj)<|Rl D af λi j=>(lz af<|YB bJ<|n _))
end
theorem O7:∀ns:List Int,ns.length<=63->BG (uv Uh) 20 810 [.p<|.lst<|ns.map .int] [] λr _=>r=.ok (.p<|.bool aB):=λns _=>by
 rw[<- YE]
 show enter (loc:=lT (ae<|.p<|.lst<|ns.map .int) az az az az az az az az az az az az az az az az) af af af ?_
 show abn (λdH d=>?_) af
 show SN d.e d.X λeR R t2 K2 A f y X2 e2 g=>?_
 have L2:LZ eR (ns.take 40) t2 R.hs:=#[e2,X2,K2.get d.ci λm=>(by have:=aC.mp m;rw[ah]at this;lia)]
 show ls af<|Vl L2 f A.few g #[_,rfl,(ay ..).trans<|cA ..] λgY t3 od L3 K3 L zN M I v5=>?_
 have B:od≠[]:=λz=>by rw[z]at I;show absurd I<|aS f
 have ol:=λk m=>(M k).mp m
 have C:=A.few
 have F:=av (ak DF) C
 show MZ A L3 (dO [_] V0 900 V0 60 af L) ol B (fZ [_,_] V0 4 V0 V1 V1 4 af (ak I) C) λkQ t4 wc ks v7 L4 K4 U h=>?_
 have S:=adD (wc:=wc) A f M I h
 show aey A S L4 λqu L5 K5 D=>?_
 have Y:=u7 (od:=od) A.lt
 have j:fF R.bs [] od≠[]:=λz=>by
  obtain⟨o,od',rfl⟩:=BL B
  have:=Y.2 o<|.head _
  replace this:=(z)▸this;show cO this
 show Vn A S L5 (fZ [_,_] (V0+1) 900 V1 60 V0 (V1+2) af L U) y (dO [_] (V0+1) 200 V0 4 af F) λsL H6 L6 J=>?_
 have b:=J.len
 show aaW A S D L6 (fZ [_,_] (V0+1) 230 V1 4 V0 (V1+10) af F b) λMR H7 L7 K l=>?_
 have n:=K.len
 have Z:=(J.trans K).abG y<|dO [_] (V0+(10+1)+1) 250 V0 4 af F
 show R5 A D j L7 Z l λW3 W L8 Z8 tw a q hd t=>(aas (D.len A) L8 (fZ [_,_] (V0+1+1) 900 V1 60 V0 (V1+2) af L U) λhp9 t9 s L9 T ht9 c=>?_)
 have Z9:=Z8.keeps T λi m=>.inl<|by rw[ah.mp m];decide
 show O4 A D Y.1 L9 Z9 tw hd q a (av t T.len) c λTe LA ZA v=>(abP A (λk m=>D.lt k<|c.subset m) (av c.length_le<|D.len A) LA λhpB LB KB=>?_)
 have ZB:=ZA.keeps KB λ_ m=>(cO m)
 show Xi A D c LB Z (rj [_,_,_] (V0+1) 230 V1 4 V2 (V1+10) V0 (V2+1) af F b n) ZB hd q a (av v KB.len) λhpC HC v10 LC ZC w EC=>?_
 have nC:=EC.len
 show ae3 LC λhpD LD KD=>(MU (W:={ W with H:=HC }) LD (ZC.keeps KD λ_ m=>(cO m)) hd q af (av w KD.len) (Um [_,_,_,_] (V0+1) 235 V1 4 V2 (V1+10) V3 (V2+1) V0 (V3+1) af F b n nC) λhpE HE LE EE=>?_)
 show ZH A LE (M8 [_,_,_,_,_] (V0+1) 235 V1 4 V2 (V1+10) V3 (V2+1) V4 (V3+1) V0 (V4+1) af F b n nC EE.len) λhpF HF LF x nF=>(ada (Q:=λr _=>r=.ok (.p<|.bool aB)) LF x nF λ_=>rfl)
end
end Mine.Internal
open PySem PySem.W PyProof.Rows
theorem PySem.Challenge.cw_nt0307_01_holds : PySem.Challenge.rw_nt0307_01.Holds := by
 show#[Mine.Internal.said,Mine.Internal.M6 Mine.Internal.RO #[[.list []],by decide +kernel,by decide +kernel]<|Mine.Internal.U0 Mine.Internal.O7]
