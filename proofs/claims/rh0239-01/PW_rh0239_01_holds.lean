import PyProof.Rows.All
import Wide.All
import OpenK.AllK
import KE.KPar
import Wide.FinOn
import Lean
import PySem.Challenge.RW_rh0239_01
set_option Elab.async false
set_option genSizeOf false
set_option bootstrap.genMatcherCode false
set_option maxRecDepth 100000
set_option linter.unusedVariables false
open _root_ renaming rfl->E,List->L,Int->U,Nat->ag,Option->aj,String->am,congrArg->aA,if_neg->aG,if_pos->aJ,Bool->aK,UInt8->aP,Array->a9,absurd->bW,decide_eq_true->cN,beq_iff_eq->c4,beq_eq_false_iff_ne->dB,False->d8,beq_self_eq_true->eE,decide_eq_false->e7,cond->gA,of_decide_eq_true->gO,Unit->hK,Except->je,if_false->kU,if_true->nc,bne_iff_ne->oQ,LawfulBEq->qF,decide_eq_true_eq->tB,of_decide_eq_false->tI,decide_true->xH,decide_eq_true_iff->EJ
open Option renaming some->G,none->af,map_eq_some_iff->gm,isSome_iff_exists->jj,map->kL,map_map->mg,map_eq_none_iff->qJ,isSome->DW,isSome_map->Ed,isNone_iff_eq_none->Sd
open PySem.Value renaming ref->J,int->aa,none->ah,bytes->aq,bool->az,str->aE,type->aM,builtin->bS,isInt->xe,casesOn->En
open PySem renaming Value->ab,Addr->ae,Expr->an,Shared->ay,Obj->aC,Pos->aI,wpAny_bind->aR,model->aV,wpAny->aX,Str->a6,Env->a8,World->bh,Around->bj,Tok->bv,Stmt->bz,Heap->bI,wpAny_pure->bY,Flow->b_,wpAny_mono->cf,Scope->cB,Params->cI,Sem->ef,Operator->eW,wpAny_holding->fO,Fin->gk,Model->gB,Program->gC,CmpOp->gD,NameKind->gG,intKind->hf,eval->hg,Result->hH,call->hP,cellsFrom->hR,starEach->ic,execs->iz,DictEntry->iA,mainNs->iB,wpAny_standAt->iG,wpAny_truthy_bool->iI,rawInt->iJ,mainGlobals->jh,codeAny->jl,codeAny_mono->jm,assign->jp,assignEach->jr,clipAt->jX,swappedStores->jZ,table->kO,backTo->kY,swapsWith->l9,builtinsNs->l_,letOwnedTupleGo->mj,denote->m5,sizeLine->m_,isSame->nb,wpAny_rule->oG,valueAt->oJ,wpAny_call->oR,wpAny_execs_nil->oT,wpAny_loadPart_at->oX,wpAny_field->qP,sysModules->s5,wpAny_of_eq->te,compareOp->tk,wpAny_Call_Name_kw->tl,call_meets->tx,strKind->w9,isSubtype_type->xc,wpAny_specialOf->xf,wpAny_mkInt->xh,wpAny_execs_cons->xm,assignInOrder->xn,call_meetsIn->xt,Comprehension->xA,wpAny_isSubtype_exc->xJ,arm_eval_Attribute->D2,wpAny_letTemporaryGo->D3,slot_list_getitem->D4,wpAny_ite_split->D6,wpAny_call_entry->D7,typeLookup_type->D8,builtinLookup_eq_fast->D9,wpAny_newObj_type->Eh,wpAny_storeName_local->Ei,wpAny_assign_Name->Ej,WalksT->Et
open Nat renaming le_trans->ar,le_of_ble_eq_true->aS,le_sub_of_add_le->cj,le_refl->cw,le_of_eq->cR,succ_le_succ->df,beq->dn,le_succ->dY,zero_le->eh,lt_of_lt_of_le->fo,lt_of_le_of_lt->fq,lt_trans->fS,add_le_add_left->gn,add_le_add_right->go,succ_pos->gE,le_add_left->gQ,le_add_right->he,le_of_lt->hO,succ->h9,ne_of_lt->l8,mul_le_mul_left->mf,ne_of_gt->m4,ble->m8,lt_add_of_pos_right->nf,lt_succ_self->nj,le_of_succ_le->nl,add_le_add->nr,succ_lt_succ->oW,add_comm->qC,zero_add->qN,lt_irrefl->qO,le_of_lt_succ->qQ,sub_self->qR,succ_add->s_,add_right_comm->ta,not_lt->tz,add_assoc->tF,le_succ_of_le->xz,sub_add_cancel->xC,le_antisymm->EF,lt_of_le_of_ne->EM,le_mul_of_pos_right->Sp
open Option.some renaming inj->bc
open List renaming mem_cons_self->bn,length_map->bJ,mem_cons_of_mem->bM,mem_cons->bQ,length_append->b3,mem_map->cA,mem_append_right->cO,nodup_cons->cS,mem_append_left->cX,map_append->c0,mem_singleton->de,map_map->dC,contains_iff_mem->dE,mem_append->dG,range->et,map_cons->e6,all_eq_true->fe,append_assoc->fp,length_cons->fu,size_toArray->fP,lookup_cons->fQ,getElem?_map->f_,not_mem_nil->gc,forall_mem_cons->gl,length->hJ,append_nil->hL,nodup_append->hM,getElem?_toArray->ia,mem_filter->ie,getElem?_eq_getElem->iD,find?_cons->iF,length_range->iK,mem_range->ji,map_congr_left->jq,perm_append_comm->js,mem_map_of_mem->jV,filter_cons->kZ,length_reverse->nh,cons_append->no,flatMap_cons->nq,getElem?_eq_some_iff->oK,all_cons->oP,nodup_nil->oU,mem_flatMap->oV,lookup->qG,map_eq_nil_iff->qK,length_filter_le->qM,find?_map->td,findIdx?_cons->th,reverse_append->tj,any_eq_true->tv,reverse_cons->tw,getElem?_eq_none_iff->tA,pairwise_cons->tE,flatMap_append->tH,mem_toArray->w6,forall_mem_append->w7,map_inj_left->w8,any_cons->xa,range_succ->xi,length_drop->xk,drop_eq_nil_of_le->xu,eq_nil_of_length_eq_zero->xB,map_nil->xD,getElem?_append_right->xE,take_left->xG,push_toArray->DV,mem_filterMap->D5,map_id'->D_,mem_reverse->Eb,map_reverse->Eg,filter_map->Er,drop_eq_getElem_cons->Es,map_fst_zip->Ew,length_nil->Ex,filter_nil->Ey,filter_append->Ez,foldl_append->EA,map_singleton->EC,getElem_mem->ED,filter_sublist->EG,append_toArray->EK,range_succ_eq_map->R6,reverse_singleton->Sb,perm_append_comm_assoc->Sq,length_eq_one_iff->Sr,nodup_iff_pairwise_ne->Su,perm_ext_iff_of_nodup->Sv
open Or renaming inl->bt,inr->bF
open PySem.Expr renaming Name->bA,Attribute->eu,Tuple->eG,Call->eV,Constant->iE,BoolOp->jo,ListComp->j0,Dict->kQ,Compare->kV,casesOn->mi,Slice->m9,UnaryOp->na,Subscript->oM
open PySem.CmpOp renaming Eq->bB,Is->b0,IsNot->dq,In->dF,NotEq->eY,NotIn->jn
open Pure renaming pure->b6
open PySem.Flow renaming ret->ck
open PySem.Operator renaming Add->cq,Sub->hh,FloorDiv->qI
open PySem.Data renaming fields->cx,seq->dp,cell->dZ,dict->e5
open LawfulBEq renaming eq_of_beq->cU
open Exists renaming imp->c3
open List.Mem renaming tail->dh,head->d_
open PySem.W renaming look_both->dj,behindTheImports->h_,boot_heap->iC,typeIs_bytes->iH,bytesKind->jg,findIn->jW,dictOf->mb,boot_drawn->oH,boot_toks->oI,looks_findIn->tm,plainGet_of->xb
open PySem.Challenge renaming rw_rh0239_01->dD
open Int renaming natCast_nonneg->dH,ofNat_lt->eH,ofNat_le->ib,lt_succ->ii,le_trans->jY,not_lt->mh,ofNat_inj->ml,lt_of_lt_of_le->tq,toNat_natCast->tG,eq_ofNat_of_zero_le->tJ,lt_trans->tK,toNat_of_nonneg->xw,toNat_le->xx,max_eq_right->xy,le_refl->xI,lt_of_le_of_lt->Eo,min_eq_left->Ev,lt_or_eq_of_le->EH,le_of_lt_add_one->EI,lt_irrefl->ET
open Except renaming ok->dW,error->jf
open Inhabited renaming default->d9
open PySem.NameKind renaming free->eU,cell->ft,globalImplicit->f9
open Bool renaming false_ne_true->eX,and_eq_true->fg,and_eq_true_iff->hQ,not_eq_true'->ma,eq_iff_iff->oN,false_eq_true->oO,or_eq_true->oS,and_false->Ec
open PySem.Sem renaming wp->fc,wp_mono->kM,wp_bind'->m6
open PySem.Heap renaming get?_none_of_le->ga,get?_push_of_some->gF,lt_size->kT,get?_push_size->ng,get?_update_self->tn,get?_update_other->tt,get?_update_ne->Ek
open List.cons renaming inj->gb,injEq->xp
open PySem.BoolOp renaming And->hi
open PySem.Code renaming builtin->hI
open PySem.Stmt renaming Assign->hN,Return->ni,AugAssign->tu
open And renaming imp_right->jk,imp_left->mc
open PySem.ScopeKind renaming function->md
open PySem.Str renaming ofString->m7
open PyProof.Rows renaming tail_any->oL,IntsAre->qH
open PySem.Obj renaming mapDictKeys->qD,data->s3,mapSeq->xl,mapFields->EO,data_mapFields->ER,isFreed_of_fields->ES
open PySem.Value.str renaming elim->qE
open Nat.succ renaming inj->qL
open Prod renaming fst->s4
open PySem.Value.int renaming elim->s6
open PySem.Value.bytes renaming elim->s7
open PySem.Value.ref renaming elim->s8
open PySem.Value.bool renaming elim->s9
open Array renaming toList_inj->tf,getElem?_toList->ti,eq_empty_of_size_eq_zero->DT,getElem?_eq_some_iff->DY,getElem?_modify->R3,getElem?_eq_getElem->R7
open List.Perm renaming refl->tC,trans->tD,append_left->xF,swap->Eu,append_right->EB
open Char renaming toNat->w_
open PySem.W.FB renaming slot_bytes_eq->xd,args_bytes_contains_2->Sc
open PySem.Builtin.Bytes renaming find?->xg,rfind?->xj,containsIn->R8,searchArgs->R9,bound?->R_,searchM->Sa
open PySem.Keeper renaming machine->xo
open PySem.F renaming plainAttrs_list->xq,slot_dict_get->xr,entry_dict_get->Ep,excBase_Exception->EN,slot_list_extend->Se,slot_list_pop->Sf,slot_list_index->Sg,plainAttrs_dict->Sh,slot_dict_pop->Si,args_dict_get_3->Sj
open ForInStep renaming yield->xv
open Except.ok renaming inj->DU
open PySem.Data.fields renaming elim->DX
open PySem.Expr.Name renaming elim->DZ
open PySem.Heap.Ns renaming of_isNs->D0
open PySem.W.WData renaming layableAll->D1
open PySem.W.KBy renaming buffer_eq->Ea
open PySem.Heap.DictOf renaming new->Ee
open PySem.Heap.IsSliceOf renaming new->Ef
open PySem.Around renaming frames_deeper->El
open PySem.Sem.pure renaming elim->Em
open PySem.Stmt.Assign renaming elim->R4
open PySem.Shared renaming asleep_of_life->R5
open PySem.Builtin.List renaming listTooLong->Sk
open PySem.Builtin.Range renaming rangeSize->Sl,small->Sm,rangeFitsLong->Sn
open List.Pairwise renaming map->So
open List.Nodup renaming sublist->Ss
open Classical renaming byContradiction->Sw
open PySem.Builtin.ObjectAttr renaming storeInOwnDict->Sx,storeInDict->Sy
open PySem.EntryCells renaming newEntry->Sz
open PySem PySem.W PySem.Challenge PyProof.Rows PySem.Calls PySem.SeqAt
namespace Mine
structure View where
 objs:L (ag×aC)
 n:ag
 toks:ag
theorem hd{B:Prop}(k:∀a:Prop,(B->a)->a):B:=k B id
theorem gR{α:Type}{x:α}{a:Prop}(h:af=G x):a:=nomatch h
theorem dS{α b:Type}{a:aj α}{f:α->aj b}{x:b}{c:Prop}(h:a.bind f=G x)(g:∀y,a=G y->f y=G x->c):c:=by
 cases a with
 |none=>nomatch h
 |some y=>exact g y E h
theorem gH{α:Type}{o:aj α}(h:∀x,o=G x->d8):o=af:=by
 cases o with
 |none=>rfl
 |some x=>exact(h x E).elim
theorem xK{α:Type}{b:aK}{x:aj α}{r:α}{a:Prop}(h:gA b af x=G r)(g:b=false->x=G r->a):a:=by
 cases b with
 |true=>nomatch h
 |false=>exact g E h
noncomputable def ix{α:Type}{n i:ag}(k:n=i->α):aj α:=if h:n=i then G (k h)else af
theorem j1{α:Type}{n i:ag}{k:n=i->α}{x:α}{a:Prop}(h:ix k=G x)(g:∀e,k e=x->a):a:=by
 unfold ix at h
 by_cases e:n=i
 ·rw [dif_pos e]at h;exact g e (bc h)
 ·rw [dif_neg e]at h;cases h
noncomputable def View.find(l:L (ag×aC))(a:ag):aj aC:=L.rec af (λx _ b=>gA (dn x.1 a) (G x.2) b) l
noncomputable def View.put(l:L (ag×aC))(a:ag)(f:aC->aC):L (ag×aC):=L.rec [] (λx r b=>gA (dn x.1 a) ((x.1,f x.2)::r) (x::b)) l
theorem View.beq_ne{a b:ag}(h:a≠b):dn a b=false:=aK.eq_false_iff.mpr λe=>h (ag.eq_of_beq_eq_true e)
theorem View.find_eq{x:ag×aC}{r:L (ag×aC)}{a:ag}(h:x.1=a):View.find (x::r) a=G x.2:=by show gA (dn x.1 a) _ _=_;rw [h,ag.beq_refl];rfl
theorem View.find_ne{x:ag×aC}{r:L (ag×aC)}{a:ag}(h:x.1≠a):View.find (x::r) a=View.find r a:=by show gA (dn x.1 a) _ _=_;rw [View.beq_ne h];rfl
theorem View.find_put(l:L (ag×aC))(a b:ag)(f:aC->aC):(b=a->View.find (View.put l a f) b=(View.find l a).map f)/\(b≠a->View.find (View.put l a f) b=View.find l b):=by
 induction l with
 |nil=>exact⟨λ_=>E,λ_=>E⟩
 |cons x r g=>
  show(b=a->View.find (gA (dn x.1 a) _ _) b=_)/\(b≠a->View.find (gA (dn x.1 a) _ _) b=_);cases e:dn x.1 a with
  |true=>have c:=ag.eq_of_beq_eq_true e;exact⟨λh=>(View.find_eq (x:=(x.1,f x.2)) (r:=r) (c.trans h.symm)).trans (aA (kL f) (View.find_eq c)).symm,λh=>have n:x.1≠b:=λz=>h (z.symm.trans c);(View.find_ne (x:=(x.1,f x.2)) (r:=r) n).trans (View.find_ne n).symm⟩
  |false=>
   have c:x.1≠a:=ag.ne_of_beq_eq_false e;refine⟨λh=>(View.find_ne (h▸c)).trans ((g.1 h).trans (aA (kL f) (View.find_ne c).symm)),λh=>?_⟩
   by_cases d:x.1=b
   ·exact(View.find_eq d).trans (View.find_eq d).symm
   ·exact(View.find_ne d).trans ((g.2 h).trans (View.find_ne d).symm)
noncomputable abbrev k5:=Ctx->aI->View->aj (hH×View)
noncomputable def jt{α:Type}(i:k5)(S:Setting)(d:Ctx)(t:ef α):aI->View->aj (je ab α×aI×View):=by
 induction t with
 |pure a=>exact λp s=>G (dW a,p,s)
 |raise e=>exact λp s=>G (jf e,p,s)
 |rule _ _ b=>exact b ()
 |point _ _ b=>exact b ()
 |«at» q _ b=>exact λ_=>b () q
 |load a _ _ b=>exact λp s=>(View.find s.objs a).bind λo=>gA o.isFreed af (b o p s)
 |update a _ f _ b=>exact λp s=>(View.find s.objs a).bind λo=>gA o.isFreed af (b () p ⟨View.put s.objs a f,s.n,s.toks⟩)
 |alloc o _ b=>exact λp s=>b s.n p ⟨(s.n,o)::s.objs,s.n+1,s.toks⟩
 |fresh _ b=>exact λp s=>b s.toks p ⟨s.objs,s.n,s.toks+1⟩
 |ask _ b=>exact b S
 |call c h _ _ _ b=>exact λp s=>(i (d.enter c h p) p s).bind λr=>b r.1 p r.2
 |handled g _ b=>exact b (if g then d.own else d.handled)
 |stack _ b=>exact λp s=>b ((d.code,p)::d.below) p s
 |thread _ b=>exact b 0
 |_=>exact λ_ _=>af
noncomputable def oZ(a:Ctx)(b:k5)(r:je ab gk×aI×View):aj (hH×View):=je.rec (λe=>G (jf e,r.2.2)) (λf=>gk.rec (λf=>G (dW f,r.2.2)) (λc=>gA c.quiet (b (a.goto c) r.2.1 r.2.2) af) f) r.1
noncomputable def xL(c:Code->ef gk)(S:Setting)(n:ag):k5:=ag.rec (λ_ _ _=>af) (λ_ b a p s=>(jt b S a (c a.code) p s).bind (oZ a b)) n
noncomputable def View.At(v:View)(s:ay):Prop:=s.heap.objs.size=v.n/\s.toks=v.toks/\∀a o,View.find v.objs a=G o->s.heap.objs[a]? =G o
structure dI(v a:View)(s s':ay):Prop where
 here:a.At s'
 le:v.n<=a.n
 gens:s'.gens=s.gens
 drawn:s'.drawn=s.drawn
 os:s'.os=s.os
 life:s'.heap.life=s.heap.life
 old:∀b,b<v.n->View.find v.objs b=af->View.find a.objs b=af/\s'.heap.objs[b]? =s.heap.objs[b]?
theorem dI.refl{v:View}{s:ay}(h:v.At s):dI v v s s:=⟨h,cw _,E,E,E,E,λ_ _ h=>⟨h,E⟩⟩
theorem dI.trans{v e d:View}{s s' f:ay}(a:dI v e s s')(b:dI e d s' f):dI v d s f:=⟨b.here,ar a.le b.le,b.gens.trans a.gens,b.drawn.trans a.drawn,b.os.trans a.os,b.life.trans a.life,λc g h=>by obtain ⟨x,y⟩:=a.old c g h;obtain ⟨z,u⟩:=b.old c (fo g a.le) x;exact⟨z,u.trans y⟩⟩
theorem nt{h:bI}{a:ag}{o:aC}(e:h.objs[a]? =G o)(f:o.isFreed=false):h.get? a=G o:=by unfold bI.get?;rw [e];obtain ⟨c,d,b,g⟩:=o;cases b<;>first|rfl|(simp [aC.isFreed]at f)
noncomputable def o0{α:Type}(M:gB)(d:Ctx)(t:ef α)(p:aI)(v:View)(s c:ay)(r:je ab α×aI×View):Prop:=fc M d t (λa q b=>r.1=dW a/\q=r.2.1/\dI v r.2.2 c b) (λe q b=>r.1=jf e/\q=r.2.1/\dI v r.2.2 c b) p s
theorem qS{α:Type}{M:gB}{b:Ctx}{t:ef α}{p:aI}{v c:View}{s a:ay}{r:je ab α×aI×View}(d:dI v c s a)(h:o0 M b t p c a a r):o0 M b t p v a s r:=kM M b t (λ_ _ _ x=>⟨x.1,x.2.1,d.trans x.2.2⟩) (λ_ _ _ x=>⟨x.1,x.2.1,d.trans x.2.2⟩) _ _ h
theorem xM{v:View}{s:ay}{a:ag}{f:aC->aC}{o:aC}(hs:v.At s)(d:View.find v.objs a=G o):dI v ⟨View.put v.objs a f,v.n,v.toks⟩ s {s with heap:=s.heap.update a f} where
 here:=⟨(a9.size_modify ..).trans hs.1,hs.2.1,λb i h=>by
  show(s.heap.objs.modify a f)[b]? =_;rw [R3]
  by_cases c:a=b
  ·rw [aJ c,<-c,hs.2.2 a o d,<-h,(View.find_put _ _ _ _).1 c.symm,d]
  ·rw [aG c];exact hs.2.2 b i (((View.find_put _ _ _ _).2 (Ne.symm c)).symm.trans h)⟩
 le:=cw _
 gens:=E
 drawn:=E
 os:=E
 life:=E
 old:=λb _ g=>have c:b≠a:=λe=>nomatch ((e▸g:View.find v.objs a=af).symm.trans d)
  ⟨((View.find_put _ _ _ _).2 c).trans g,by show(s.heap.objs.modify a f)[b]? =_;rw [R3,aG (Ne.symm c)]⟩
theorem xN{v:View}{s:ay}{o:aC}(hs:v.At s):dI v ⟨(v.n,o)::v.objs,v.n+1,v.toks⟩ s {s with heap:=s.heap.push o} where
 here:=⟨(a9.size_push ..).trans (aA h9 hs.1),hs.2.1,λb d a=>by
  show(s.heap.objs.push o)[b]? =_;rw [a9.getElem?_push,hs.1]
  by_cases c:v.n=b
  ·rw [aJ c.symm];exact(View.find_eq (x:=(v.n,o)) c).symm.trans a
  ·rw [aG (Ne.symm c)];exact hs.2.2 b d ((View.find_ne (x:=(v.n,o)) c).symm.trans a)⟩
 le:=dY _
 gens:=E
 drawn:=E
 os:=E
 life:=E
 old:=λb a e=>⟨(View.find_ne (x:=(v.n,o)) (m4 a)).trans e,by show(s.heap.objs.push o)[b]? =_;rw [a9.getElem?_push,aG (by rw [hs.1];exact l8 a)]⟩
noncomputable def EU{α:Type}(M:gB)(b:k5)(a:Ctx)(t:ef α):Prop:=∀(p:aI) (v:View) (r:je ab α×aI×View),jt b ⟨M.prog,M.w.params⟩ a t p v=G r->∀s,v.At s->o0 M a t p v s s r
theorem o1{α:Type}{M:gB}{w:k5}
  (C:∀(i:Ctx) (p:aI) (v:View) (r:hH×View),w i p v=G r->∀s,v.At s->wpCode M i (λu s'=>u=r.1/\dI v r.2 s s') p s)
  (i:Ctx) (t:ef α):EU M w i t:=by
 induction t with
 |pure a=>exact λp v r h s d=>bc h▸⟨E,E,.refl d⟩
 |raise e=>exact λp v r h s d=>bc h▸⟨E,E,.refl d⟩
 |rule _ k b=>exact b ()
 |point _ k b=>exact b ()
 |ask k b=>exact b _
 |handled _ k b=>exact λp v r h s d=>b _ p v r h s d
 |stack k b=>exact λp v r h s d=>b _ p v r h s d
 |thread k b=>exact b 0
 |«at» q k b=>exact λ_=>b () q
 |load a z k b=>exact λp v r h s d=>dS h λo j h=>xK h λm h=>⟨o,nt (d.2.2 a o j) m,b o p v r h s d⟩
 |update a z f k b=>exact λp v r h s d=>dS h λo j h=>xK h λm h=>⟨by rw [nt (d.2.2 a o j) m];rfl,have S:=xM (f:=f) d j;qS S (b () p _ r h _ S.here)⟩
 |alloc o k b=>exact λp v r h s d=>have S:=xN (o:=o) d;(d.1▸qS S (b v.n p _ r h _ S.here):o0 M i (k s.heap.objs.size) p v _ s r)
 |fresh k b=>exact λp v r h s d=>(have S:dI v ⟨v.objs,v.n,v.toks+1⟩ s {s with toks:=s.toks+1}:=⟨⟨d.1,aA h9 d.2.1,d.2.2⟩,cw _,E,E,E,E,λ_ _ B=>⟨B,E⟩⟩
   (qS S (b s.toks p _ r (d.2.1.symm▸h) _ S.here):o0 M i (k s.toks) p v _ s r))
 |call c D g l k b=>exact λp v r h s d=>dS h λx A h=>wpCode_mono (λu s' y=>y.1▸qS y.2 (b _ p x.2 r h s' y.2.here)) (C _ _ _ _ A s d)
 |_=>exact λ_ _ _ h=>gR h
theorem EW{α:Type}{b:aK}{x:aj α}{r:α}{a:Prop}(h:gA b x af=G r)(g:b=true->x=G r->a):a:=by
 cases b with
 |true=>exact g E h
 |false=>nomatch h
theorem EY{M:gB}{b:Ctx}{g:k5}{r:hH×View}{v:View}{s s':ay}{x:je ab gk×aI×View}{a:gk}{q:aI}(y:x.1=dW a)(e:q=x.2.1)(S:dI v x.2.2 s s')(h:oZ b g x=G r)
  (i:∀(b:Ctx) (p:aI) (v:View) (r:hH×View),g b p v=G r->∀s,v.At s->wpCode M b (λd s'=>d=r.1/\dI v r.2 s s') p s):ef.finPost M b (λd s'=>d=r.1/\dI v r.2 s s') a q s':=by
 unfold oZ at h;rw [y]at h;rw [e];cases a with
 |done f=>exact bc h▸⟨E,S⟩
 |again c=>exact EW h λe h=>⟨e,wpCode_mono (λd j y=>⟨y.1,S.trans y.2⟩) (i _ _ _ _ h s' S.here)⟩
theorem EZ{a:Ctx}{b:k5}{r:hH×View}{v:View}{s s':ay}{x:je ab gk×aI×View}{e:ab}(y:x.1=jf e)(S:dI v x.2.2 s s')(h:oZ a b x=G r):(jf e:hH)=r.1/\dI v r.2 s s':=by unfold oZ at h;rw [y]at h;exact bc h▸⟨E,S⟩
theorem E0{M:gB}(n:ag):∀(b:Ctx) (p:aI) (v:View) (r:hH×View),xL M.den ⟨M.prog,M.w.params⟩ n b p v=G r->∀s,v.At s->wpCode M b (λc s'=>c=r.1/\dI v r.2 s s') p s:=by
 induction n with
 |zero=>exact λ_ _ _ _ h=>nomatch h
 |succ n d=>exact λb p v r h s g=>dS h λx f h=>((ef.wp_iff_runs M b (M.den b.code) (λc s'=>c=r.1/\dI v r.2 s s') p s).mp (kM M b _ (λa q s' y=>EY y.1 y.2.1 y.2.2 h d) (λe q s' y=>EZ y.1 y.2.2 h) _ _ (o1 d b (M.den b.code) p v x f s g)))
theorem E1{a:Code->ef gk}{prog:gC}{w:bh}(n:ag):∀(s:ay) (t:Thread) (o:Outcome) (s':ay),runN a prog w n s t= .halted o s'->
  ∃m e c,runN a prog w m s t= .running e c/\step a prog w e c= .halt o s':=by
 induction n with
 |zero=>exact λ_ _ _ _ h=>nomatch h
 |succ n i=>
  intro s t o s' h;have h:(match step a prog w s t with| .go s' d=>runN a prog w n s' d| .halt o s'=> .halted o s')=Run.halted o s':=h
  cases b:step a prog w s t with
  |go f g=>rw [b]at h;exact(i f g o s' h).elim λm x=>⟨m+1,x.imp λe x=>x.imp λc x=>⟨by show(match step a prog w s t with| .go s' d=>runN a prog w m s' d| .halt o s'=> .halted o s')=_;rw [b];exact x.1,x.2⟩⟩
  |halt j f=>rw [b]at h;exact⟨0,s,t,E,b.trans (by rw [(Run.halted.inj h).1,(Run.halted.inj h).2])⟩
noncomputable def iO(x:Step):aK:=Step.rec (λ_ _=>true) (λo _=>ag.blt 0 o.ctorIdx) x
noncomputable def xO(d:Code->ef gk)(prog:gC)(w:bh)(s:ay)(c:Code)(pos:aI)(a:L Frame)(b:ef gk):Prop:=through ⟨b,c,pos,a⟩=true\/iO (step d prog w s ⟨b,c,pos,a⟩)=true
theorem ij{b:Code->ef gk}{prog:gC}{w:bh}{s:ay}{d:Code}{pos:aI}{a:L Frame}{c:ef gk}(h:iO (step b prog w s ⟨c,d,pos,a⟩)=true):xO b prog w s d pos a c:=bF h
theorem E2(u:Code->ef gk)(prog:gC)(w:bh)(s:ay)(y:Code)(pos:aI)(b:L Frame)(j:ef gk):xO u prog w s y pos b j:=by
 induction j with
 |pure t=>
  cases t with
  |done f=>
   cases b with
   |nil=>exact bt E
   |cons h i=>cases h<;>exact ij E
  |again c=>exact ij E
 |raise e=>
  cases b with
  |nil=>exact ij (by show iO (finish _ _)=true;unfold finish;split<;>rfl)
  |cons h i=>cases h<;>exact ij E
 |finish e=>exact ij (by show iO (if _ then _ else _)=true;split<;>rfl)
 |load a q k d=>exact ij (by show iO (match s.heap.get? a with|some o=>_|none=>_)=true;cases s.heap.get? a<;>rfl)
 |update a q g k d=>exact ij (by show iO (if _ then _ else _)=true;split<;>rfl)
 |choose z n k d=>exact ij (by show iO (if _ then _ else _)=true;split<;>rfl)
 |genState g k d=>exact ij (by show iO (match s.gens[g]? with|none=>_|some i=>_)=true;cases s.gens[g]?<;>rfl)
 |resume g r l k d=>exact ij (by
   show iO (match s.gens[g]? with|none=>_|some (.fresh c)=>_|some (.suspended B _ c p m _)=>_|some .running=>_|some .finished=>_)=true
   cases s.gens[g]? with
   |none=>rfl
   |some x=>cases x with
    |fresh c=>cases r with
     |send v=>cases v<;>rfl
     |throw e=>rfl
    |_=>rfl)
 |«yield» v g l k d=>exact ij (by show iO (match splitAtGen b with|some (m,(g,k,c,p),A)=>_|none=>_)=true;cases splitAtGen b<;>rfl)
 |_=>exact ij E
theorem E3{a:Code->ef gk}{prog:gC}{w:bh}{s s':ay}{t:Thread}{f:b_}(h:step a prog w s t= .halt (.done f) s'):through t=true:=(E2 a prog w s t.code t.pos t.stack t.cur).elim id λn=>nomatch (aA iO h).symm.trans n
theorem E4{s s':ay}(h:s.forget=s'.forget)(a:s'.gens=#[]):s=s':=by
 have b:s.gens=#[]:=by
  have z:=aA (λx=>x.gens.size) h;rw [show s.forget.gens.size=s.gens.size from a9.size_map ..,show s'.forget.gens.size=s'.gens.size from a9.size_map ..,a]at z
  exact DT z
 cases s;cases s';cases a;cases b;unfold ay.forget at h;rw [a9.map_empty]at h;exact h
theorem E5{p:gC}{w:bh}{t:ef gk}{s:ay}{R:ay->Prop}(z:s.asleep)
  (h:fc (aV p w) ⟨hI "claim.caller" {},af,af,[],af⟩ t (λy _ s'=>∃v,y= .done (ck v)/\R s'/\s'.gens=#[]) (λ_ _ _=>d8) d9 s):
  ∃f,(∃n d,schedN (m5 kO) p w n (.single s ⟨t,hI "claim.caller" {},d9,[]⟩)= .running (.single f d)/\through d=true)/\R f/\f.gens=#[]:=by
 obtain ⟨n,r,s',C,j⟩:=(wp_iff_halts (M:=aV p w) (c:=hI "claim.caller" {}) t (λr s'=>(∃v,r=dW (ck v))/\R s'/\s'.gens=#[]) d9 s).mp
  (kM _ _ t (λy q s' x=>by obtain ⟨v,rfl,a,b⟩:=x;exact⟨⟨⟨v,E⟩,a,b⟩,by rw [b];simp [leftWithCleanup]⟩) (λ_ _ _ x=>x.elim) _ _ h)
 obtain ⟨⟨v,rfl⟩,j,o⟩:=j;obtain ⟨g,l,F,H⟩:=runNI_real _ _ _ C E;have A:g=s':=E4 F o;subst A
 have B:∀k i,runN (m5 kO) p w k s ⟨t,hI "claim.caller" {},d9,[]⟩≠ .halted (.unsupported "lifetime:generator-with-cleanup-left-suspended") i:=by
  intro k i D;have a:=runN_mono (m5 kO) p w n k s _ _ g l;have b:=runN_mono (m5 kO) p w k n s _ _ i D;rw [qC,b]at a;injection a with N _
  cases N
 obtain ⟨m,f,d,K,u⟩:=E1 _ _ _ _ _ l;have e:=step_halt_same _ _ _ _ _ _ _ u;subst e;refine⟨g,⟨m,d,?_,E3 u⟩,j,o⟩;have I:runN (m5 kO) p w m s ⟨t,hI "claim.caller" {},d9,[]⟩= .running g d:=K;rw [schedN_eq_runN (m5 kO) p w s _ z ⟨H,B⟩ m,I];rfl
theorem xP{M:gB}{a:Ctx}{env:a8}{Q:b_->aI->ay->Prop}{b:ab->aI->ay->Prop}(l r:L bz):∀(p:aI) (s:ay),
  fc M a (iz l env) (λf q s'=>f= .next/\fc M a (iz r env) Q b q s') b p s->fc M a (iz (l++r) env) Q b p s:=by
 induction l with
 |nil=>exact λp s h=>h.2
 |cons x l d=>
  intro p s h;show fc M a (exec x env>>=λf=>match f with| .next=>iz (l++r) env|f=>b6 f) Q b p s
  rw [m6];have c:fc M a (exec x env>>=λf=>match f with| .next=>iz l env|f=>b6 f) (λf q s'=>f= .next/\fc M a (iz r env) Q b q s') b p s:=h
  rw [m6]at c;refine kM M a _ (λf q s'=>?_) (λ_ _ _ x=>x) _ _ c;cases f with
  |next=>exact d q s'
  |_=>exact λe=>nomatch e.1
noncomputable def k6:k5:=λ_ _ _=>af
theorem tL{M:gB}(a:Ctx)(p:aI)(v:View)(r:hH×View)(h:k6 a p v=G r)(s:ay)(_:v.At s):wpCode M a (λb s'=>b=r.1/\dI v r.2 s s') p s:=nomatch h
theorem xQ{α:Type}{prog:gC}{w:bh}{A:bj}{t:ef α}{V d:View}{a:α}{s:ay}(hs:V.At s)
  (h:∀c p,∃q,jt k6 ⟨prog,w.params⟩ c t p V=G (dW a,q,d)):aX (aV prog w) A t (λb s'=>b=a/\dI V d s s') (λ_ _=>d8) s:=λc p _=>
 (h c p).elim λq e=>kM _ _ _ (λb _ s' x=>⟨(DU x.1).symm,x.2.2⟩) (λ_ _ _ x=>nomatch x.1) _ _ (o1 (M:=aV prog w) tL c t p V _ e s hs)
theorem xR{v:View}{s:ay}(hs:v.At s):dI v ⟨v.objs,v.n,v.toks+1⟩ s {s with toks:=s.toks+1}:=⟨⟨hs.1,aA h9 hs.2.1,hs.2.2⟩,cw _,E,E,E,E,λ_ _ a=>⟨a,E⟩⟩
noncomputable abbrev fd:=L aP×bv×ab
noncomputable def iP(prog:gC)(w:bh)(x:fd):iA:=⟨(jg prog w).hash x.1,aq x.1.toArray x.2.1,x.2.2⟩
noncomputable def fi(prog:gC)(w:bh)(l:L fd):aC:={cls:=aM "dict",data:=e5 (l.map (iP prog w)).toArray l.length}
theorem xS(prog:gC)(w:bh)(l:L fd):KeysOf (jg prog w) (l.map (iP prog w)).toArray:=by intro e a;rw [w6,cA]at a;obtain ⟨x,_,rfl⟩:=a;exact⟨x.1,bytesKind_is _ _ _ _,E⟩
theorem E6(prog:gC)(w:bh)(l:L fd)(k:L aP)(h:∀x∈l,x.1≠k):((l.map (iP prog w)).toArray.findIdx? λe=>(jg prog w).is k e.key)=af:=by rw [a9.findIdx?_eq_none_iff];intro e a;rw [w6,cA]at a;obtain ⟨x,b,rfl⟩:=a;have:=h x b;show isBytes k (aq x.1.toArray x.2.1)=false;simp only [isBytes,dB];exact this
theorem E7{prog:gC}{w:bh}{A:bj}{c:ab->ay->Prop}{s:ay}{d:ae}{l:L fd}{x:fd}{Q:hK->ay->Prop}
  (a:s.heap.get? d=G (fi prog w l)) (b:∀y∈l,y.1≠x.1) (e:l.length<=1000)
  (h:Q () {s with heap:=s.heap.update d (qD (·.push (iP prog w x))),toks:=s.toks+1}):
  aX (aV prog w) A (dictSet d (aq x.1.toArray x.2.1) x.2.2) Q c s:=by
 unfold dictSet;refine fO ?_;refine aR ((jg prog w).pyHash (k:=x.1) (bytesKind_is _ _ _ _) ?_);unfold dictSetHashed;refine fO ?_;refine aR (wpAny_dictFind_of (knd:=jg prog w) (s:={s with toks:=s.toks+1}) (k:=x.1) (bytesKind_is _ _ _ _) a E (xS prog w l) ?_)
 rw [E6 prog w l x.1 b];refine aR (oG ?_);exact wpAny_updateDictKeys (s:={s with toks:=s.toks+1}) (part:=keyPart (aq x.1.toArray x.2.1)) a E h (by rw [fP,bJ,sizeLine_eq];omega)
theorem E8(l:L (ag×aC))(a:ag)(f g:aC->aC):View.put (View.put l a f) a g=View.put l a (λo=>g (f o)):=by
 induction l with
 |nil=>rfl
 |cons x r b=>
  show View.put (gA (dn x.1 a) ((x.1,f x.2)::r) (x::View.put r a f)) a g=gA (dn x.1 a) ((x.1,g (f x.2))::r) (x::View.put r a λo=>g (f o));cases e:dn x.1 a with
  |true=>show gA (dn x.1 a) _ _=_;rw [e];rfl
  |false=>show gA (dn x.1 a) _ _=_;rw [e];exact aA (x::·) b
theorem E9(prog:gC)(w:bh)(done:L fd)(x:fd):qD (·.push (iP prog w x)) (fi prog w done)=fi prog w (done++[x]):=by unfold fi qD;rw [c0,b3];show({cls:=_,data:=e5 ((done.map (iP prog w)).toArray.push _) _}:aC)=_;rw [DV];rfl
noncomputable def Bk(prog:gC)(w:bh)(d:ae)(V:View)(l:L fd):View:=⟨View.put V.objs d (λ_=>fi prog w l),V.n,V.toks+l.length⟩
theorem E_{prog:gC}{w:bh}{A:bj}{d:ae}{V:View}{s:ay}{k:aC}(p:View.find V.objs d=G k)(a:L fd):∀(done:L fd) (s':ay),
  dI V (Bk prog w d V done) s s'->((done++a).map (·.1)).Nodup->(done++a).length<=1000->
  aX (aV prog w) A (storeAll d (a.map λx=>(aq x.1.toArray x.2.1,x.2.2))) (λ_ j=>dI V (Bk prog w d V (done++a)) s j) (λ_ _=>d8) s':=by
 induction a with
 |nil=>intro done s' b c g;show aX _ _ (forIn ([]:L (ab×ab)) _ _) _ _ _;rw [L.forIn_nil,hL];exact bY b
 |cons x a m=>
  intro done s' b c g;show aX _ _ (forIn ((_,_)::a.map λx=>((aq x.1.toArray x.2.1:ab),x.2.2)) PUnit.unit _) _ _ _;rw [L.forIn_cons];have i:View.find (Bk prog w d V done).objs d=G (fi prog w done):=((View.find_put _ _ _ λ_=>fi prog w done).1 E).trans (aA (kL _) p)
  have h:=m (done++[x]) {s' with heap:=s'.heap.update d (qD (·.push (iP prog w x))),toks:=s'.toks+1} (by
   have S:=(b.trans (xR b.here)).trans (xM (f:=qD (·.push (iP prog w x))) (xR b.here).here i)
   have e:View.mk (View.put (Bk prog w d V done).objs d (qD (·.push (iP prog w x)))) (Bk prog w d V done).n ((Bk prog w d V done).toks+1)=Bk prog w d V (done++[x]):=by unfold Bk;rw [E8,E9,b3];rfl
   rw [<-e];exact S)
  rw [fp]at h;refine aR (aR (E7 (l:=done) (x:=x) (nt (b.here.2.2 d _ i) E) (λy o e=>?_) (ar (by rw [b3];exact he _ _) g) (bY (h c g))))
  rw [c0,hM]at c;exact c.2.2 y.1 (jV o) x.1 (d_ _) e
theorem Fa{prog:gC}{w:bh}{A:bj}{env:a8}{x:a6}{pos' pos pos2:aI}{keys:L (aj an)}{values:L an}{V a g:View}{kvs:L fd}{s:ay}
  (hs:l9 (kQ keys values pos2) (G (bA x pos')) pos.line env=b6 false)
  (u:keys.all (·.isSome)=true) (r:keys.length=values.length) (z:keys≠ []) (m:keys.length<=15)
  (y:∀b p,∃q,jt k6 ⟨prog,w.params⟩ b (evalPairs (pairTrees keys values env pos2)) p ⟨(V.n,{cls:=aM "dict",data:=e5 #[]})::V.objs,V.n+1,V.toks⟩=
   G (dW (kvs.map λx=>(aq x.1.toArray x.2.1,x.2.2)),q,a))
  (t:View.find a.objs V.n=G {cls:=aM "dict",data:=e5 #[]})
  (k:View.put a.objs V.n (λ_=>fi prog w [])=a.objs)
  (l:(kvs.map (·.1)).Nodup) (j:kvs.length<=1000)
  (v:∀b p,∃q,jt k6 ⟨prog,w.params⟩ b (storeName env x (J V.n)) p ⟨View.put a.objs V.n (λ_=>fi prog w kvs),a.n,a.toks+kvs.length⟩=G (dW (),q,g))
  (e:V.At s):
  aX (aV prog w) A (exec (hN [bA x pos'] (kQ keys values pos2) pos) env) (λf s'=>f= .next/\dI V g s s') (λ_ _=>d8) s:=by
 have i:=xN (o:={cls:=aM "dict",data:=e5 #[]}) e;refine wpAny_Assign_Name (wpAny_Dict_any u r z m (cf (xQ i.here y) (λC d c=>?_) λ_ _ x=>x)) hs;rw [c.1,e.1];refine cf (E_ (A:=A) (V:=a) (s:=d) t kvs [] d (by unfold Bk;rw [k];exact .refl c.2.here) l j) (λ_ F h=>cf (xQ h.here v) (λ_ D B=>⟨E,((i.trans c.2).trans h).trans B.2⟩) λ_ _ x=>x) λ_ _ x=>x
noncomputable abbrev I(x:am):a6:=m7 x
noncomputable def q(P:cI)(x:am)(t:ag)(v:ab):iA:=⟨PyData.keyHash P (I x),aE (I x) t,v⟩
noncomputable def bw:ab:=aE (I "termcore.muxpanes") 884
noncomputable def bO:ab:=aE (I "termcore.muxtargets") 533
noncomputable def cl:ab:=aE (I "law_rh0239_01") 1368
noncomputable def cD:ab:=aE (I "termcore.layouts") 262
noncomputable def ik:ab:=aE (I "termcore.base") 194
noncomputable def mp:ab:=aE (I "__main__") 164
noncomputable def au:gC:=pw_rh0239_01
noncomputable def gp:a8:={scope:=au.main.scope,locals:=iB,globals:=iB,cells:=[],code:=J 13,frame:=G 14}
noncomputable def Γ0:Ctx:=⟨.body (h_ au) gp,af,af,[(hI "claim.caller" {},d9)],af⟩
noncomputable def eb(a b:ag):L bz:=((h_ au).drop a).take (b-a)
noncomputable def as(k:ag):bz:=((h_ au)[k]?).getD (.Pass d9)
noncomputable def Fb(x:bz):L bz:=(ix λh=>bz.ClassDef.elim (motive_2:=λ_=>L bz) x h λ_ _ _ b _ _ _ _ _ _ _=>b).getD []
noncomputable def mt(k j:ag):bz:=((Fb (as k))[j]?).getD (.Pass d9)
noncomputable def qT{α:Type}(d:α)(k:a6->Arguments->L bz->cB->α)(x:bz):α:=(ix λh=>bz.FunctionDef.elim (motive_2:=λ_=>α) x h λn a b _ _ _ s _ _ _=>k n a b s).getD d
noncomputable def nu:bz->a6:=qT (I "") λn _ _ _=>n
noncomputable def j2:bz->Arguments:=qT ⟨[],[],af,[],[],af,[]⟩ λ_ a _ _=>a
noncomputable def gq:bz->L bz:=qT [] λ_ _ b _=>b
noncomputable def c5:bz->cB:=qT au.main.scope λ_ _ _ s=>s
noncomputable def a3(x:bz)(a:am)(c b:ab)(d:ag):aC:=⟨aM "function",af,.func (fnOf (nu x) (I a) (j2 x) (gq x) (c5 x) c ah ah b af (J d) ah),#[]⟩
noncomputable def xT:aC:=⟨(aM "code"),af,(cx [(aE (I "<module>") 182),(aE (I "<module>") 183),(aE (I "/claim/cut.py") 184),(aa (1) 0),(aa (0) 0),(aa (0) 0),(aa (0) 0),(aa (0) 0),(J 11),(az false),(aa (181) 0),(J 12),ah,ah,ah,ah,(aa (185) 0),(aa (1) 0),(aE (I "/claim/cut.py") 186)].toArray),[].toArray⟩
noncomputable def Fc(P:cI):L iA:=
 [q P "__doc__" 166 ah,
 q P "__package__" 167 ah,
 q P "__loader__" 168 (bS "__main__.__loader__#opaque"),
 q P "__spec__" 169 ah,
 q P "__annotations__" 170 (J 6),
 q P "__builtins__" 171 (J 4),
 q P "__file__" 173 (aE (I "/claim/cut.py") 172),
 q P "__cached__" 174 ah,
 q P "_wall" 193 (J 21),
 q P "MOST_FIGURES" 197 (aa (1000) 196),
 q P "TermError" 226 (J 39),
 q P "BadTarget" 242 (J 52),
 q P "decimal_octets" 251 (J 61),
 q P "number_of" 261 (J 68),
 q P "LEAST_SIDE" 265 (aa (1) 264),
 q P "LAYOUT_DEEP" 267 (aa (50) 266),
 q P "Cell" 308 (J 85),
 q P "layout_leaf" 317 (J 96),
 q P "layout_copy" 323 (J 101),
 q P "layout_leaves" 332 (J 108),
 q P "layout_panes" 338 (J 113),
 q P "layout_path" 348 (J 120),
 q P "layout_kind" 355 (J 127),
 q P "layout_side" 363 (J 134),
 q P "layout_set_side" 372 (J 141),
 q P "layout_index" 382 (J 148),
 q P "layout_room" 388 (J 153),
 q P "layout_change" 398 (J 160),
 q P "layout_placed" 408 (J 167),
 q P "layout_exchanged" 417 (J 174),
 q P "split_layout" 439 (J 182),
 q P "layout_melted" 449 (J 189),
 q P "close_pane" 463 (J 196),
 q P "fit_layout" 476 (J 203),
 q P "layout_renumbered" 487 (J 210),
 q P "swap_panes" 493 (J 215),
 q P "pane_at" 503 (J 222),
 q P "neighbours" 518 (J 229),
 q P "format_fits" 532 (J 236),
 q P "TARGET_WORDS" 550 (J 237),
 q P "TARGET_SIDES" 563 (J 238),
 q P "TARGET_CORNERS" 596 (J 239),
 q P "Target" 633 (J 265),
 q P "target_of_session" 640 (J 276),
 q P "target_of_window" 649 (J 283),
 q P "target_of_pane" 660 (J 290),
 q P "target_octets" 669 (J 297),
 q P "target_only" 676 (J 304),
 q P "target_fits" 682 (J 309),
 q P "target_numbered" 690 (J 316),
 q P "target_session" 696 (J 321),
 q P "target_step" 704 (J 328),
 q P "target_stepped" 713 (J 335),
 q P "target_shown" 721 (J 342),
 q P "target_index" 727 (J 347),
 q P "target_pane_numbers" 733 (J 352),
 q P "target_least" 740 (J 359),
 q P "target_spot" 748 (J 366),
 q P "target_corner" 762 (J 373),
 q P "target_beside" 771 (J 380),
 q P "target_pane_number" 784 (J 387),
 q P "target_in_window" 794 (J 394),
 q P "target_sessions" 804 (J 401),
 q P "target_by_number" 810 (J 406),
 q P "target_marked" 822 (J 413),
 q P "target_told" 831 (J 420),
 q P "target_alone" 844 (J 427),
 q P "target_cut" 855 (J 434),
 q P "target_by_parts" 871 (J 441),
 q P "read_target" 883 (J 448),
 q P "Pane" 939 (J 480),
 q P "pane_numbered" 948 (J 491),
 q P "Window" 1172 (J 661),
 q P "break_pane" 1184 (J 672),
 q P "join_pane" 1200 (J 680),
 q P "exchange_panes" 1206 (J 685),
 q P "Session" 1344 (J 790),
 q P "link_window" 1356 (J 802),
 q P "pane_place" 1367 (J 809),
 q P "_law_kinds" 1373 (J 810),
 q P "_law_draw" 1382 (J 817),
 q P "_law_pick" 1390 (J 824),
 q P "_law_figures" 1396 (J 829),
 q P "_law_numbers" 1402 (J 834),
 q P "_law_put" 1416 (J 841),
 q P "_law_window" 1426 (J 848),
 q P "_law_fresh" 1433 (J 855),
 q P "_law_opened" 1443 (J 862),
 q P "_law_split" 1455 (J 869),
 q P "_law_moved" 1473 (J 876),
 q P "_law_placed" 1486 (J 883),
 q P "_law_deed" 1497 (J 890),
 q P "_law_there" 1503 (J 895),
 q P "_law_due" 1516 (J 902),
 q P "_law_read" 1531 (J 909),
 q P "_law_mark_due" 1542 (J 916),
 q P "_law_pane_right" 1554 (J 923),
 q P "_law_first_right" 1560 (J 928),
 q P "_law_place_right" 1566 (J 933),
 q P "_law_whole" 1572 (J 938),
 q P "law" 1578 (J 943)]
noncomputable def Fd:L ab:=[(aa (1) 0),(aa (0) 0),(J 20),(aa (6) 0),(aa (0) 0),(J 27),(aa (10) 0),(aa (0) 0),(J 48),(aa (12) 0),(aa (0) 0),(J 60),(aa (22) 0),(aa (0) 0),(J 67),(aa (37) 0),(aa (0) 0),(J 74),(aa (47) 0),(aa (0) 0),(J 95),(aa (49) 0),(aa (0) 0),(J 100),(aa (52) 0),(aa (0) 0),(J 107),(aa (59) 0),(aa (0) 0),(J 112),(aa (61) 0),(aa (0) 0),(J 119),(aa (69) 0),(aa (0) 0),(J 126),(aa (71) 0),(aa (0) 0),(J 133),(aa (73) 0),(aa (0) 0),(J 140),(aa (78) 0),(aa (0) 0),(J 147),(aa (83) 0),(aa (0) 0),(J 152),(aa (88) 0),(aa (0) 0),(J 159),(aa (102) 0),(aa (0) 0),(J 166),(aa (111) 0),(aa (0) 0),(J 173),(aa (117) 0),(aa (0) 0),(J 181),(aa (140) 0),(aa (0) 0),(J 188),(aa (145) 0),(aa (0) 0),(J 195),(aa (160) 0),(aa (0) 0),(J 202),(aa (166) 0),(aa (0) 0),(J 209),(aa (171) 0),(aa (0) 0),(J 214),(aa (177) 0),(aa (0) 0),(J 221),(aa (182) 0),(aa (0) 0),(J 228),(aa (197) 0),(aa (0) 0),(J 235),(aa (218) 0),(aa (0) 0),(J 253),(aa (226) 0),(aa (0) 0),(J 275),(aa (230) 0),(aa (0) 0),(J 282),(aa (233) 0),(aa (0) 0),(J 289),(aa (239) 0),(aa (0) 0),(J 296),(aa (242) 0),(aa (0) 0),(J 303),(aa (244) 0),(aa (0) 0),(J 308),(aa (255) 0),(aa (0) 0),(J 315),(aa (257) 0),(aa (0) 0),(J 320),(aa (266) 0),(aa (0) 0),(J 327),(aa (273) 0),(aa (0) 0),(J 334),(aa (277) 0),(aa (0) 0),(J 341),(aa (281) 0),(aa (0) 0),(J 346),(aa (299) 0),(aa (0) 0),(J 351),(aa (301) 0),(aa (0) 0),(J 358),(aa (303) 0),(aa (0) 0),(J 365),(aa (305) 0),(aa (0) 0),(J 372),(aa (313) 0),(aa (0) 0),(J 379),(aa (316) 0),(aa (0) 0),(J 386),(aa (335) 0),(aa (0) 0),(J 393),(aa (338) 0),(aa (0) 0),(J 400),(aa (344) 0),(aa (0) 0),(J 405),(aa (358) 0),(aa (0) 0),(J 412),(aa (366) 0),(aa (0) 0),(J 419),(aa (376) 0),(aa (0) 0),(J 426),(aa (387) 0),(aa (0) 0),(J 433),(aa (393) 0),(aa (0) 0),(J 440),(aa (406) 0),(aa (0) 0),(J 447),(aa (416) 0),(aa (0) 0),(J 454),(aa (438) 0),(aa (0) 0),(J 490),(aa (443) 0),(aa (0) 0),(J 497),(aa (560) 0),(aa (0) 0),(J 671),(aa (565) 0),(aa (0) 0),(J 679),(aa (580) 0),(aa (0) 0),(J 684),(aa (593) 0),(aa (0) 0),(J 691),(aa (670) 0),(aa (0) 0),(J 801),(aa (672) 0),(aa (0) 0),(J 808),(aa (681) 0),(aa (0) 0),(J 816),(aa (690) 0),(aa (0) 0),(J 823),(aa (692) 0),(aa (0) 0),(J 828),(aa (694) 0),(aa (0) 0),(J 833),(aa (696) 0),(aa (0) 0),(J 840),(aa (703) 0),(aa (0) 0),(J 847),(aa (708) 0),(aa (0) 0),(J 854),(aa (711) 0),(aa (0) 0),(J 861),(aa (715) 0),(aa (0) 0),(J 868),(aa (721) 0),(aa (0) 0),(J 875),(aa (741) 0),(aa (0) 0),(J 882),(aa (753) 0),(aa (0) 0),(J 889),(aa (765) 0),(aa (0) 0),(J 894),(aa (772) 0),(aa (0) 0),(J 901),(aa (779) 0),(aa (0) 0),(J 908),(aa (789) 0),(aa (0) 0),(J 915),(aa (797) 0),(aa (0) 0),(J 922),(aa (801) 0),(aa (0) 0),(J 927),(aa (811) 0),(aa (0) 0),(J 932),(aa (822) 0),(aa (0) 0),(J 937),(aa (841) 0),(aa (0) 0),(J 942)]
noncomputable def b2(P:cI)(k:ag)(a:ab):aC:={cls:=aM "dict",data:=e5 (q P "__name__" 165 a::(Fc P).take (k-1)).toArray k}
noncomputable def ci(k:ag):aC:={cls:=ah,data:=cx (Fd.take k).toArray}
noncomputable def j3(l:L iA)(n:ag):aC:={cls:=ah,data:=e5 l.toArray n}
noncomputable def cr(P:cI):aC:=j3 [q P "type.__subclasses__.Exception.0" 223 (aa (39) 0),q P "type.__subclasses__.Exception.n" 224 (aa (1) 0)] 2
noncomputable def cb(P:cI)(m c t:aC):L (ag×aC):=[(3,m),(12,c),(13,xT),(4,boot_o_4 P),(0,boot_o_0 P),(2,t)]
noncomputable def pS(v:ab):aj a6:=ix λh=>qE (motive:=λ_=>a6) v h λi _=>i
theorem Fe{v:ab}{x:a6}(h:pS v=G x):∃t,v=aE x t:=j1 h λe=>qE (motive:=λv=>∀e,qE (motive:=λ_=>a6) v e (λi _=>i)=x->∃t,v=aE x t) v e (λj t _ q=>⟨t,aA (aE · t) q⟩) e
noncomputable def xU(o:aC):aj (a9 ab):=ix λh=>DX (motive:=λ_=>a9 ab) o.data h λa=>a
theorem xV{o:aC}{vs:a9 ab}(h:xU o=G vs):o.data=cx vs:=j1 h λe=>DX (motive:=λd=>∀e,DX (motive:=λ_=>a9 ab) d e (λvs=>vs)=vs->d=cx vs) o.data e (λa _ q=>aA _ q) e
noncomputable def mq(o:aC):aj a6:=(xU o).bind λa=>a[1]?.bind pS
noncomputable def Ff(f:b_):aK:=dn f.ctorIdx 0
noncomputable def xW(b c:L ag)(r:aj (je ab b_×aI×View)):aj (ag×ag×L (aj aC)×L (aj a6)):=r.bind λx=>je.rec (λ_=>af) (λf=>gA (Ff f) (G (x.2.2.n,x.2.2.toks,b.map (View.find x.2.2.objs),c.map λa=>(View.find x.2.2.objs a).bind mq)) af) x.1
noncomputable def DD:Code->ef gk:=PySem.W.Fast.tw11892475500146522536 PySem.W.Fast.tw14364793385576792824
noncomputable def XX:L bz->a8->ef b_:=PySem.W.Fast.tw12563942051412417395
theorem Fg:DD=m5 kO:=by rw [table_eq_tree,PySem.W.Fast.te11892475500146522536,PySem.W.Fast.te14364793385576792824];rfl
theorem Fh:XX=iz:=by rw [PySem.W.Fast.te12563942051412417395];rfl
noncomputable def fJ(a b:ag)(F:cI->L (ag×aC))(c:L (ag×am))(n t n' d:ag)(V e:cI->L (ag×aC)):Prop:=
 ∀(w:bh) (p:aI),xW ([3,12,13,4,0,2]++(F w.params).map (·.1)) (c.map (·.1)) (jt (xL DD ⟨au,w.params⟩ 60) ⟨au,w.params⟩ Γ0 (XX (eb a b) gp) p ⟨V w.params,n,t⟩)=
  G (n',d,(e w.params).map (λx=>G x.2)++(F w.params).map (λx=>G x.2),c.map λx=>G (I x.2))
noncomputable def xX(P:cI):L (ag×aC):=[(21,a3 (as 0) "_wall" ah mp 20)]
noncomputable def xY:L (ag×am):=[(20,"_wall")]
theorem Fi:fJ 0 3 (xX) xY 15 187 22 198 (λP=>cb P (b2 P 9 mp) (ci 0) (j3 [] 0)) (λP=>cb P (b2 P 11 ik) (ci 3) (j3 [] 0)):=by intro w p;kernel_rfl!
noncomputable def xZ(P:cI):L (ag×aC):=
 [(29,⟨(aM "tuple"),af,(dp [ah].toArray 0),[].toArray⟩),
 (36,a3 (mt 3 0) "TermError.__init__" (J 29) ik 35),
 (38,⟨(aM "dict"),af,(e5 [q P "__module__" 205 ik,q P "__firstlineno__" 209 (aa (6) 208),q P "__init__" 217 (J 36),q P "__static_attributes__" 219 (J 37),q P "__weakref__" 221 (J 40),q P "__doc__" 222 ah].toArray 3),[].toArray⟩),
 (39,⟨(aM "type"),af,(.cls {name:=(I "TermError"),bases:=[(aM "Exception")],mro:=[(J 39),(aM "Exception"),(aM "BaseException"),(aM "object")],ns:=38,qualname:=(I "TermError"),hasDict:=true,slotNames:=[],subclasses:=[(J 52)],abstract:=false,collection:=af,hasDel:=false}),[(G (J 22)),af,(G (aE (I "TermError") 198)),(G (aE (I "TermError") 206)),(G (bS "Exception.__new__")),(G (az true))].toArray⟩),
 (40,⟨(aM "getset_descriptor"),af,(cx [(aE (I "__weakref__") 220),(J 39),(bS "ExceptionGroup.__weakref__"),ah].toArray),[].toArray⟩),
 (51,⟨(aM "dict"),af,(e5 [q P "__module__" 234 ik,q P "__firstlineno__" 238 (aa (10) 237),q P "__static_attributes__" 239 (J 50),q P "__doc__" 240 ah].toArray 2),[].toArray⟩),
 (52,⟨(aM "type"),af,(.cls {name:=(I "BadTarget"),bases:=[(J 39)],mro:=[(J 52),(J 39),(aM "Exception"),(aM "BaseException"),(aM "object")],ns:=51,qualname:=(I "BadTarget"),hasDict:=true,slotNames:=[],subclasses:=[],abstract:=false,collection:=af,hasDel:=false}),[(G (J 43)),af,(G (aE (I "BadTarget") 227)),(G (aE (I "BadTarget") 235)),(G (bS "Exception.__new__")),(G (az true))].toArray⟩)]
noncomputable def x0:L (ag×am):=[(35,"TermError.__init__")]
theorem Fj:fJ 3 5 (xZ) x0 22 198 55 243 (λP=>cb P (b2 P 11 ik) (ci 3) (j3 [] 0)) (λP=>cb P (b2 P 13 ik) (ci 9) (cr P)):=by intro w p;kernel_rfl!
noncomputable def x1(P:cI):L (ag×aC):=
 [(61,a3 (as 5) "decimal_octets" ah ik 60),
 (68,a3 (as 6) "number_of" ah ik 67)]
noncomputable def x2:L (ag×am):=[(60,"decimal_octets"),(67,"number_of")]
theorem Fk:fJ 5 10 (x1) x2 55 243 69 268 (λP=>cb P (b2 P 13 ik) (ci 9) (cr P)) (λP=>cb P (b2 P 17 cD) (ci 15) (cr P)):=by intro w p;kernel_rfl!
noncomputable def x3(P:cI):L (ag×aC):=
 [(82,a3 (mt 10 0) "Cell.__init__" ah cD 81),
 (84,⟨(aM "dict"),af,(e5 [q P "__module__" 275 cD,q P "__firstlineno__" 279 (aa (37) 278),q P "__init__" 293 (J 82),q P "__static_attributes__" 301 (J 83),q P "__dict__" 303 (J 86),q P "__weakref__" 305 (J 87),q P "__doc__" 306 ah].toArray 4),[].toArray⟩),
 (85,⟨(aM "type"),af,(.cls {name:=(I "Cell"),bases:=[(aM "object")],mro:=[(J 85),(aM "object")],ns:=84,qualname:=(I "Cell"),hasDict:=true,slotNames:=[],subclasses:=[],abstract:=false,collection:=af,hasDel:=false}),[af,af,(G (aE (I "Cell") 268)),(G (aE (I "Cell") 276)),(G (bS "object.__new__")),(G (az true))].toArray⟩),
 (86,⟨(aM "getset_descriptor"),af,(cx [(aE (I "__dict__") 302),(J 85),(bS "function.__dict__"),(bS "function.__dict__#set")].toArray),[].toArray⟩),
 (87,⟨(aM "getset_descriptor"),af,(cx [(aE (I "__weakref__") 304),(J 85),(bS "ExceptionGroup.__weakref__"),ah].toArray),[].toArray⟩)]
noncomputable def x4:L (ag×am):=[(81,"Cell.__init__")]
theorem Fl:fJ 10 11 (x3) x4 69 268 90 309 (λP=>cb P (b2 P 17 cD) (ci 15) (cr P)) (λP=>cb P (b2 P 18 cD) (ci 18) (cr P)):=by intro w p;kernel_rfl!
noncomputable def x5(P:cI):L (ag×aC):=
 [(96,a3 (as 11) "layout_leaf" ah cD 95),
 (101,a3 (as 12) "layout_copy" ah cD 100),
 (108,a3 (as 13) "layout_leaves" ah cD 107),
 (113,a3 (as 14) "layout_panes" ah cD 112),
 (120,a3 (as 15) "layout_path" ah cD 119),
 (127,a3 (as 16) "layout_kind" ah cD 126),
 (134,a3 (as 17) "layout_side" ah cD 133),
 (141,a3 (as 18) "layout_set_side" ah cD 140),
 (148,a3 (as 19) "layout_index" ah cD 147),
 (153,a3 (as 20) "layout_room" ah cD 152)]
noncomputable def x6:L (ag×am):=[(95,"layout_leaf"),(100,"layout_copy"),(107,"layout_leaves"),(112,"layout_panes"),(119,"layout_path"),(126,"layout_kind"),(133,"layout_side"),(140,"layout_set_side"),(147,"layout_index"),(152,"layout_room")]
theorem Fm:fJ 11 21 (x5) x6 90 309 154 389 (λP=>cb P (b2 P 18 cD) (ci 18) (cr P)) (λP=>cb P (b2 P 28 cD) (ci 48) (cr P)):=by intro w p;kernel_rfl!
noncomputable def x7(P:cI):L (ag×aC):=
 [(160,a3 (as 21) "layout_change" ah cD 159),
 (167,a3 (as 22) "layout_placed" ah cD 166),
 (174,a3 (as 23) "layout_exchanged" ah cD 173),
 (175,⟨(aM "tuple"),af,(dp [ah,(az false)].toArray 0),[].toArray⟩),
 (182,a3 (as 24) "split_layout" (J 175) cD 181),
 (189,a3 (as 25) "layout_melted" ah cD 188),
 (196,a3 (as 26) "close_pane" ah cD 195),
 (203,a3 (as 27) "fit_layout" ah cD 202),
 (210,a3 (as 28) "layout_renumbered" ah cD 209)]
noncomputable def x8:L (ag×am):=[(159,"layout_change"),(166,"layout_placed"),(173,"layout_exchanged"),(181,"split_layout"),(188,"layout_melted"),(195,"close_pane"),(202,"fit_layout"),(209,"layout_renumbered")]
theorem Fn:fJ 21 29 (x7) x8 154 389 211 488 (λP=>cb P (b2 P 28 cD) (ci 48) (cr P)) (λP=>cb P (b2 P 36 cD) (ci 72) (cr P)):=by intro w p;kernel_rfl!
noncomputable def x9(P:cI):L (ag×aC):=
 [(215,a3 (as 29) "swap_panes" ah cD 214),
 (222,a3 (as 30) "pane_at" ah cD 221),
 (229,a3 (as 31) "neighbours" ah cD 228),
 (236,a3 (as 33) "format_fits" ah (aE (I "termcore.muxformats") 519) 235)]
noncomputable def x_:L (ag×am):=[(214,"swap_panes"),(221,"pane_at"),(228,"neighbours"),(235,"format_fits")]
theorem Fo:fJ 29 35 (x9) x_ 211 488 237 535 (λP=>cb P (b2 P 36 cD) (ci 72) (cr P)) (λP=>cb P (b2 P 40 bO) (ci 84) (cr P)):=by intro w p;kernel_rfl!
noncomputable def ya(P:cI):L (ag×aC):=
 [(255,⟨(aM "tuple"),af,(dp [ah].toArray 0),[].toArray⟩),
 (262,a3 (mt 38 0) "Target.__init__" (J 255) bO 261),
 (264,⟨(aM "dict"),af,(e5 [q P "__module__" 604 bO,q P "__firstlineno__" 608 (aa (218) 607),q P "__init__" 620 (J 262),q P "__static_attributes__" 626 (J 263),q P "__dict__" 628 (J 266),q P "__weakref__" 630 (J 267),q P "__doc__" 631 ah].toArray 4),[].toArray⟩),
 (265,⟨(aM "type"),af,(.cls {name:=(I "Target"),bases:=[(aM "object")],mro:=[(J 265),(aM "object")],ns:=264,qualname:=(I "Target"),hasDict:=true,slotNames:=[],subclasses:=[],abstract:=false,collection:=af,hasDel:=false}),[af,af,(G (aE (I "Target") 597)),(G (aE (I "Target") 605)),(G (bS "object.__new__")),(G (az true))].toArray⟩),
 (266,⟨(aM "getset_descriptor"),af,(cx [(aE (I "__dict__") 627),(J 265),(bS "function.__dict__"),(bS "function.__dict__#set")].toArray),[].toArray⟩),
 (267,⟨(aM "getset_descriptor"),af,(cx [(aE (I "__weakref__") 629),(J 265),(bS "ExceptionGroup.__weakref__"),ah].toArray),[].toArray⟩)]
noncomputable def yb:L (ag×am):=[(261,"Target.__init__")]
theorem Fp:fJ 38 39 (ya) yb 248 597 270 634 (λP=>cb P (b2 P 43 bO) (ci 84) (cr P)) (λP=>cb P (b2 P 44 bO) (ci 87) (cr P)):=by intro w p;kernel_rfl!
noncomputable def yc(P:cI):L (ag×aC):=
 [(276,a3 (as 39) "target_of_session" ah bO 275),
 (283,a3 (as 40) "target_of_window" ah bO 282),
 (290,a3 (as 41) "target_of_pane" ah bO 289),
 (297,a3 (as 42) "target_octets" ah bO 296),
 (304,a3 (as 43) "target_only" ah bO 303),
 (309,a3 (as 44) "target_fits" ah bO 308),
 (316,a3 (as 45) "target_numbered" ah bO 315),
 (321,a3 (as 46) "target_session" ah bO 320),
 (328,a3 (as 47) "target_step" ah bO 327),
 (335,a3 (as 48) "target_stepped" ah bO 334)]
noncomputable def yd:L (ag×am):=[(275,"target_of_session"),(282,"target_of_window"),(289,"target_of_pane"),(296,"target_octets"),(303,"target_only"),(308,"target_fits"),(315,"target_numbered"),(320,"target_session"),(327,"target_step"),(334,"target_stepped")]
theorem Fq:fJ 39 49 (yc) yd 270 634 336 714 (λP=>cb P (b2 P 44 bO) (ci 87) (cr P)) (λP=>cb P (b2 P 54 bO) (ci 117) (cr P)):=by intro w p;kernel_rfl!
noncomputable def ye(P:cI):L (ag×aC):=
 [(342,a3 (as 49) "target_shown" ah bO 341),
 (347,a3 (as 50) "target_index" ah bO 346),
 (352,a3 (as 51) "target_pane_numbers" ah bO 351),
 (359,a3 (as 52) "target_least" ah bO 358),
 (366,a3 (as 53) "target_spot" ah bO 365),
 (373,a3 (as 54) "target_corner" ah bO 372),
 (380,a3 (as 55) "target_beside" ah bO 379),
 (387,a3 (as 56) "target_pane_number" ah bO 386),
 (394,a3 (as 57) "target_in_window" ah bO 393)]
noncomputable def yf:L (ag×am):=[(341,"target_shown"),(346,"target_index"),(351,"target_pane_numbers"),(358,"target_least"),(365,"target_spot"),(372,"target_corner"),(379,"target_beside"),(386,"target_pane_number"),(393,"target_in_window")]
theorem Fs:fJ 49 58 (ye) yf 336 714 395 795 (λP=>cb P (b2 P 54 bO) (ci 117) (cr P)) (λP=>cb P (b2 P 63 bO) (ci 144) (cr P)):=by intro w p;kernel_rfl!
noncomputable def yg(P:cI):L (ag×aC):=
 [(401,a3 (as 58) "target_sessions" ah bO 400),
 (406,a3 (as 59) "target_by_number" ah bO 405),
 (413,a3 (as 60) "target_marked" ah bO 412),
 (420,a3 (as 61) "target_told" ah bO 419),
 (427,a3 (as 62) "target_alone" ah bO 426),
 (434,a3 (as 63) "target_cut" ah bO 433),
 (441,a3 (as 64) "target_by_parts" ah bO 440),
 (448,a3 (as 65) "read_target" ah bO 447)]
noncomputable def yh:L (ag×am):=[(400,"target_sessions"),(405,"target_by_number"),(412,"target_marked"),(419,"target_told"),(426,"target_alone"),(433,"target_cut"),(440,"target_by_parts"),(447,"read_target")]
theorem Ft:fJ 58 67 (yg) yh 395 795 449 886 (λP=>cb P (b2 P 63 bO) (ci 144) (cr P)) (λP=>cb P (b2 P 71 bw) (ci 168) (cr P)):=by intro w p;kernel_rfl!
noncomputable def yi(P:cI):L (ag×aC):=
 [(456,⟨(aM "tuple"),af,(dp [ah].toArray 0),[].toArray⟩),
 (463,a3 (mt 67 0) "Pane.__init__" (J 456) bw 462),
 (470,a3 (mt 67 1) "Pane.sized" ah bw 469),
 (477,a3 (mt 67 2) "Pane.feed" ah bw 476),
 (479,⟨(aM "dict"),af,(e5 [q P "__module__" 893 bw,q P "__firstlineno__" 897 (aa (416) 896),q P "__init__" 906 (J 463),q P "sized" 915 (J 470),q P "feed" 923 (J 477),q P "__static_attributes__" 932 (J 478),q P "__dict__" 934 (J 481),q P "__weakref__" 936 (J 482),q P "__doc__" 937 ah].toArray 4),[].toArray⟩),
 (480,⟨(aM "type"),af,(.cls {name:=(I "Pane"),bases:=[(aM "object")],mro:=[(J 480),(aM "object")],ns:=479,qualname:=(I "Pane"),hasDict:=true,slotNames:=[],subclasses:=[],abstract:=false,collection:=af,hasDel:=false}),[af,af,(G (aE (I "Pane") 886)),(G (aE (I "Pane") 894)),(G (bS "object.__new__")),(G (az true))].toArray⟩),
 (481,⟨(aM "getset_descriptor"),af,(cx [(aE (I "__dict__") 933),(J 480),(bS "function.__dict__"),(bS "function.__dict__#set")].toArray),[].toArray⟩),
 (482,⟨(aM "getset_descriptor"),af,(cx [(aE (I "__weakref__") 935),(J 480),(bS "ExceptionGroup.__weakref__"),ah].toArray),[].toArray⟩)]
noncomputable def yj:L (ag×am):=[(462,"Pane.__init__"),(469,"Pane.sized"),(476,"Pane.feed")]
theorem Fu:fJ 67 68 (yi) yj 449 886 485 940 (λP=>cb P (b2 P 71 bw) (ci 168) (cr P)) (λP=>cb P (b2 P 72 bw) (ci 171) (cr P)):=by intro w p;kernel_rfl!
noncomputable def yk(P:cI):L (ag×aC):=[(491,a3 (as 68) "pane_numbered" ah bw 490)]
noncomputable def yl:L (ag×am):=[(490,"pane_numbered")]
theorem Fv:fJ 68 69 (yk) yl 485 940 492 949 (λP=>cb P (b2 P 72 bw) (ci 171) (cr P)) (λP=>cb P (b2 P 73 bw) (ci 174) (cr P)):=by intro w p;kernel_rfl!
noncomputable def ym(P:cI):L (ag×aC):=
 [(505,a3 (mt 69 0) "Window.__init__" ah bw 504),
 (512,a3 (mt 69 1) "Window.width" ah bw 511),
 (513,⟨(aM "property"),af,(cx [(J 512),ah,ah,ah,(aE (I "width") 980),(az false)].toArray),[].toArray⟩),
 (520,a3 (mt 69 2) "Window.height" ah bw 519),
 (521,⟨(aM "property"),af,(cx [(J 520),ah,ah,ah,(aE (I "height") 988),(az false)].toArray),[].toArray⟩),
 (528,a3 (mt 69 3) "Window.hand_sizes" ah bw 527),
 (529,⟨(aM "tuple"),af,(dp [].toArray 0),[].toArray⟩),
 (530,⟨(aM "tuple"),af,(dp [(J 529)].toArray 0),[].toArray⟩),
 (535,a3 (mt 69 4) "Window.lay" (J 530) bw 534),
 (542,a3 (mt 69 5) "Window.has" ah bw 541),
 (549,a3 (mt 69 6) "Window.select" ah bw 548),
 (556,a3 (mt 69 7) "Window.select_last" ah bw 555),
 (557,⟨(aM "tuple"),af,(dp [ah].toArray 0),[].toArray⟩),
 (564,a3 (mt 69 8) "Window.select_side" (J 557) bw 563),
 (571,a3 (mt 69 9) "Window.select_next" ah bw 570),
 (578,a3 (mt 69 10) "Window.zoom" ah bw 577),
 (579,⟨(aM "tuple"),af,(dp [ah,(az false),(az true)].toArray 0),[].toArray⟩),
 (586,a3 (mt 69 11) "Window.split" (J 579) bw 585),
 (593,a3 (mt 69 12) "Window.drop" ah bw 592),
 (600,a3 (mt 69 13) "Window.resize" ah bw 599),
 (607,a3 (mt 69 14) "Window.resize_pane" ah bw 606),
 (614,a3 (mt 69 15) "Window.resize_pane_to" ah bw 613),
 (621,a3 (mt 69 16) "Window.swap" ah bw 620),
 (622,⟨(aM "tuple"),af,(dp [(az false)].toArray 0),[].toArray⟩),
 (629,a3 (mt 69 17) "Window.rotate" (J 622) bw 628),
 (630,⟨(aM "tuple"),af,(dp [ah].toArray 0),[].toArray⟩),
 (637,a3 (mt 69 18) "Window.choose_layout" (J 630) bw 636),
 (644,a3 (mt 69 19) "Window.set_layout" ah bw 643),
 (651,a3 (mt 69 20) "Window.note" ah bw 650),
 (658,a3 (mt 69 21) "Window.seen" ah bw 657),
 (660,⟨(aM "dict"),af,(e5 [q P "__module__" 956 bw,q P "__firstlineno__" 960 (aa (443) 959),q P "__init__" 972 (J 505),q P "width" 980 (J 513),q P "height" 988 (J 521),q P "hand_sizes" 997 (J 528),q P "lay" 1003 (J 535),q P "has" 1011 (J 542),q P "select" 1019 (J 549),q P "select_last" 1026 (J 556),q P "select_side" 1035 (J 564),q P "select_next" 1043 (J 571),q P "zoom" 1050 (J 578),q P "split" 1064 (J 586),q P "drop" 1074 (J 593),q P "resize" 1083 (J 600),q P "resize_pane" 1093 (J 607),q P "resize_pane_to" 1103 (J 614),q P "swap" 1113 (J 621),q P "rotate" 1121 (J 629),q P "choose_layout" 1130 (J 637),q P "set_layout" 1138 (J 644),q P "note" 1147 (J 651),q P "seen" 1154 (J 658),q P "__static_attributes__" 1165 (J 659),q P "__dict__" 1167 (J 662),q P "__weakref__" 1169 (J 663),q P "__doc__" 1170 ah].toArray 4),[].toArray⟩),
 (661,⟨(aM "type"),af,(.cls {name:=(I "Window"),bases:=[(aM "object")],mro:=[(J 661),(aM "object")],ns:=660,qualname:=(I "Window"),hasDict:=true,slotNames:=[],subclasses:=[],abstract:=false,collection:=af,hasDel:=false}),[af,af,(G (aE (I "Window") 949)),(G (aE (I "Window") 957)),(G (bS "object.__new__")),(G (az true))].toArray⟩),
 (662,⟨(aM "getset_descriptor"),af,(cx [(aE (I "__dict__") 1166),(J 661),(bS "function.__dict__"),(bS "function.__dict__#set")].toArray),[].toArray⟩),
 (663,⟨(aM "getset_descriptor"),af,(cx [(aE (I "__weakref__") 1168),(J 661),(bS "ExceptionGroup.__weakref__"),ah].toArray),[].toArray⟩)]
noncomputable def yn:L (ag×am):=[(504,"Window.__init__"),(511,"Window.width"),(519,"Window.height"),(527,"Window.hand_sizes"),(534,"Window.lay"),(541,"Window.has"),(548,"Window.select"),(555,"Window.select_last"),(563,"Window.select_side"),(570,"Window.select_next"),(577,"Window.zoom"),(585,"Window.split"),(592,"Window.drop"),(599,"Window.resize"),(606,"Window.resize_pane"),(613,"Window.resize_pane_to"),(620,"Window.swap"),(628,"Window.rotate"),(636,"Window.choose_layout"),(643,"Window.set_layout"),(650,"Window.note"),(657,"Window.seen")]
theorem Fw:fJ 69 70 (ym) yn 492 949 666 1173 (λP=>cb P (b2 P 73 bw) (ci 174) (cr P)) (λP=>cb P (b2 P 74 bw) (ci 177) (cr P)):=by intro w p;kernel_rfl!
noncomputable def yo(P:cI):L (ag×aC):=
 [(672,a3 (as 70) "break_pane" ah bw 671),
 (673,⟨(aM "tuple"),af,(dp [ah,(az false),(az true)].toArray 0),[].toArray⟩),
 (680,a3 (as 71) "join_pane" (J 673) bw 679),
 (685,a3 (as 72) "exchange_panes" ah bw 684)]
noncomputable def yp:L (ag×am):=[(671,"break_pane"),(679,"join_pane"),(684,"exchange_panes")]
theorem Fx:fJ 70 73 (yo) yp 666 1173 686 1207 (λP=>cb P (b2 P 74 bw) (ci 177) (cr P)) (λP=>cb P (b2 P 77 bw) (ci 186) (cr P)):=by intro w p;kernel_rfl!
noncomputable def yq(P:cI):L (ag×aC):=
 [(693,⟨(aM "tuple"),af,(dp [ah,ah].toArray 0),[].toArray⟩),
 (700,a3 (mt 73 0) "Session.__init__" (J 693) bw 699),
 (707,a3 (mt 73 1) "Session.indexes" ah bw 706),
 (714,a3 (mt 73 2) "Session.window" ah bw 713),
 (721,a3 (mt 73 3) "Session.index_of" ah bw 720),
 (722,⟨(aM "tuple"),af,(dp [(aa (0) 1252)].toArray 0),[].toArray⟩),
 (729,a3 (mt 73 4) "Session.free_index" (J 722) bw 728),
 (730,⟨(aM "tuple"),af,(dp [ah,(aa (0) 1261),(az true)].toArray 0),[].toArray⟩),
 (737,a3 (mt 73 5) "Session.add" (J 730) bw 736),
 (744,a3 (mt 73 6) "Session.select" ah bw 743),
 (751,a3 (mt 73 7) "Session.select_last" ah bw 750),
 (752,⟨(aM "tuple"),af,(dp [(az false),(az false)].toArray 0),[].toArray⟩),
 (759,a3 (mt 73 8) "Session.select_next" (J 752) bw 758),
 (764,a3 (mt 73 9) "Session.settle" ah bw 763),
 (771,a3 (mt 73 10) "Session.take" ah bw 770),
 (773,⟨(aM "tuple"),af,(dp [(J 772)].toArray 0),[].toArray⟩),
 (780,a3 (mt 73 11) "Session.make_room" (J 773) bw 779),
 (787,a3 (mt 73 12) "Session.renumbered" ah bw 786),
 (789,⟨(aM "dict"),af,(e5 [q P "__module__" 1214 bw,q P "__firstlineno__" 1218 (aa (593) 1217),q P "__init__" 1229 (J 700),q P "indexes" 1236 (J 707),q P "window" 1243 (J 714),q P "index_of" 1251 (J 721),q P "free_index" 1260 (J 729),q P "add" 1273 (J 737),q P "select" 1281 (J 744),q P "select_last" 1288 (J 751),q P "select_next" 1297 (J 759),q P "settle" 1303 (J 764),q P "take" 1312 (J 771),q P "make_room" 1321 (J 780),q P "renumbered" 1329 (J 787),q P "__static_attributes__" 1337 (J 788),q P "__dict__" 1339 (J 791),q P "__weakref__" 1341 (J 792),q P "__doc__" 1342 ah].toArray 4),[].toArray⟩),
 (790,⟨(aM "type"),af,(.cls {name:=(I "Session"),bases:=[(aM "object")],mro:=[(J 790),(aM "object")],ns:=789,qualname:=(I "Session"),hasDict:=true,slotNames:=[],subclasses:=[],abstract:=false,collection:=af,hasDel:=false}),[af,af,(G (aE (I "Session") 1207)),(G (aE (I "Session") 1215)),(G (bS "object.__new__")),(G (az true))].toArray⟩),
 (791,⟨(aM "getset_descriptor"),af,(cx [(aE (I "__dict__") 1338),(J 790),(bS "function.__dict__"),(bS "function.__dict__#set")].toArray),[].toArray⟩),
 (792,⟨(aM "getset_descriptor"),af,(cx [(aE (I "__weakref__") 1340),(J 790),(bS "ExceptionGroup.__weakref__"),ah].toArray),[].toArray⟩)]
noncomputable def yr:L (ag×am):=[(699,"Session.__init__"),(706,"Session.indexes"),(713,"Session.window"),(720,"Session.index_of"),(728,"Session.free_index"),(736,"Session.add"),(743,"Session.select"),(750,"Session.select_last"),(758,"Session.select_next"),(763,"Session.settle"),(770,"Session.take"),(779,"Session.make_room"),(786,"Session.renumbered")]
theorem Fy:fJ 73 74 (yq) yr 686 1207 795 1345 (λP=>cb P (b2 P 77 bw) (ci 186) (cr P)) (λP=>cb P (b2 P 78 bw) (ci 189) (cr P)):=by intro w p;kernel_rfl!
noncomputable def ys(P:cI):L (ag×aC):=
 [(795,⟨(aM "tuple"),af,(dp [ah,(aa (0) 1345),(az true)].toArray 0),[].toArray⟩),
 (802,a3 (as 74) "link_window" (J 795) bw 801),
 (809,a3 (as 75) "pane_place" ah bw 808),
 (810,⟨(aM "tuple"),af,(dp [(aE (I "pane") 1370),(aE (I "window") 1371),(aE (I "session") 1372)].toArray 0),[].toArray⟩),
 (817,a3 (as 78) "_law_draw" ah cl 816),
 (824,a3 (as 79) "_law_pick" ah cl 823),
 (829,a3 (as 80) "_law_figures" ah cl 828),
 (834,a3 (as 81) "_law_numbers" ah cl 833),
 (841,a3 (as 82) "_law_put" ah cl 840),
 (848,a3 (as 83) "_law_window" ah cl 847),
 (855,a3 (as 84) "_law_fresh" ah cl 854)]
noncomputable def yt:L (ag×am):=[(801,"link_window"),(808,"pane_place"),(816,"_law_draw"),(823,"_law_pick"),(828,"_law_figures"),(833,"_law_numbers"),(840,"_law_put"),(847,"_law_window"),(854,"_law_fresh")]
theorem Fz:fJ 74 85 (ys) yt 795 1345 856 1434 (λP=>cb P (b2 P 78 bw) (ci 189) (cr P)) (λP=>cb P (b2 P 88 cl) (ci 216) (cr P)):=by intro w p;kernel_rfl!
noncomputable def yu(P:cI):L (ag×aC):=
 [(862,a3 (as 85) "_law_opened" ah cl 861),
 (869,a3 (as 86) "_law_split" ah cl 868),
 (876,a3 (as 87) "_law_moved" ah cl 875),
 (883,a3 (as 88) "_law_placed" ah cl 882),
 (890,a3 (as 89) "_law_deed" ah cl 889),
 (895,a3 (as 90) "_law_there" ah cl 894),
 (902,a3 (as 91) "_law_due" ah cl 901),
 (909,a3 (as 92) "_law_read" ah cl 908)]
noncomputable def yv:L (ag×am):=[(861,"_law_opened"),(868,"_law_split"),(875,"_law_moved"),(882,"_law_placed"),(889,"_law_deed"),(894,"_law_there"),(901,"_law_due"),(908,"_law_read")]
theorem FC:fJ 85 93 (yu) yv 856 1434 910 1532 (λP=>cb P (b2 P 88 cl) (ci 216) (cr P)) (λP=>cb P (b2 P 96 cl) (ci 240) (cr P)):=by intro w p;kernel_rfl!
noncomputable def yw(P:cI):L (ag×aC):=
 [(916,a3 (as 93) "_law_mark_due" ah cl 915),
 (923,a3 (as 94) "_law_pane_right" ah cl 922),
 (928,a3 (as 95) "_law_first_right" ah cl 927),
 (933,a3 (as 96) "_law_place_right" ah cl 932),
 (938,a3 (as 97) "_law_whole" ah cl 937),
 (943,a3 (as 98) "law" ah cl 942)]
noncomputable def yx:L (ag×am):=[(915,"_law_mark_due"),(922,"_law_pane_right"),(927,"_law_first_right"),(932,"_law_place_right"),(937,"_law_whole"),(942,"law")]
theorem FD:fJ 93 99 (yw) yx 910 1532 944 1579 (λP=>cb P (b2 P 96 cl) (ci 240) (cr P)) (λP=>cb P (b2 P 102 cl) (ci 258) (cr P)):=by intro w p;kernel_rfl!
noncomputable def k7(P:cI):L (ag×aC):=[(0,boot_o_0 P),(1,boot_o_1 P),(4,boot_o_4 P),(5,boot_o_5 P),(6,boot_o_6 P),(7,boot_o_7 P),(8,boot_o_8 P),(9,boot_o_9 P),(10,boot_o_10 P)]
noncomputable def qU(P:cI):View:=⟨(2,boot_o_2 P)::(3,boot_o_3 P)::k7 P,11,181⟩
structure PG(w:bh)(a s:ay)(m c tb:aC)(n t:ag)(F:L (ag×aC))(C:L (ag×am)):Prop where
 here:View.At ⟨cb w.params m c tb,n,t⟩ s
 facts:∀x∈F,15<=x.1/\s.heap.objs[x.1]? =G x.2
 codes:∀x∈C,15<=x.1/\∃o,s.heap.objs[x.1]? =G o/\mq o=G (I x.2)
 keep:∀x∈k7 w.params,s.heap.objs[x.1]? =G x.2
 gens:s.gens=a.gens
 os:s.os=a.os
 life:s.heap.life=a.heap.life
theorem FE{P:cI}{m c tb:aC}{a:ag}(h:15<=a):View.find (cb P m c tb) a=af:=
 have n:∀{b:ag},ag.blt b 15=true->b≠a:=λq=>l8 (fo (aS q) h)
 (View.find_ne (x:=(3,m)) (n E)).trans ((View.find_ne (x:=(12,c)) (n E)).trans ((View.find_ne (x:=(13,xT)) (n E)).trans ((View.find_ne (x:=(4,boot_o_4 P)) (n E)).trans ((View.find_ne (x:=(0,boot_o_0 P)) (n E)).trans (View.find_ne (x:=(2,tb)) (r:=[]) (n E))))))
theorem o2{l:L (ag×aC)}{a:ag}{o:aC}(h:View.find l a=G o):(a,o)∈l:=by
 induction l with
 |nil=>nomatch h
 |cons x r c=>
  by_cases b:x.1=a
  ·rw [View.find_eq b]at h;exact bc h▸b▸d_ _
  ·exact dh _ (c ((View.find_ne b).symm.trans h))
theorem FA{α:Type}{p:α->Prop}{x:α}{l:L α}(h:p x)(g:∀y∈l,p y):∀y∈x::l,p y:=gl.mpr ⟨h,g⟩
theorem FN{α:Type}{p:α->Prop}(y:α)(h:y∈ []):p y:=nomatch h
noncomputable def tM(P:cI)(x:ag×aC):Prop:=(∀m c t,View.find (cb P m c t) x.1=af)\/∀m c t,View.find (cb P m c t) x.1=G x.2
theorem FF(P:cI):∀x∈k7 P,tM P x:=
 have n:∀{x:ag×aC},(∀m c t,View.find (cb P m c t) x.1=af)->tM P x:=bt;have y:∀{x:ag×aC},(∀m c t,View.find (cb P m c t) x.1=G x.2)->tM P x:=bF
 FA (y λ_ _ _=>E) (FA (n λ_ _ _=>E) (FA (y λ_ _ _=>E) (FA (n λ_ _ _=>E) (FA (n λ_ _ _=>E) (FA (n λ_ _ _=>E) (FA (n λ_ _ _=>E) (FA (n λ_ _ _=>E) (FA (n λ_ _ _=>E) FN))))))))
theorem yy{v:View}{s:ay}(h:v.At s){a:ag}{o:aC}(e:s.heap.objs[a]? =G o):a<v.n:=h.1▸(DY.mp e).1
noncomputable def FG(f:ag->aj aC)(x:ag×am):Prop:=15<=x.1/\∃o,f x.1=G o/\mq o=G (I x.2)
theorem PG.step{w:bh}{j s g:ay}{m c tb m' c' tb':aC}{n t:ag}{F F':L (ag×aC)}{C C':L (ag×am)}{f:View}(h:PG w j s m c tb n t F C)
  (d:dI ⟨cb w.params m c tb,n,t⟩ f s g)
  (l:∀x∈cb w.params m' c' tb',View.find f.objs x.1=G x.2)
  (p:∀x∈F',15<=x.1/\View.find f.objs x.1=G x.2)
  (r:∀x∈C',FG (View.find f.objs) x):PG w j g m' c' tb' f.n f.toks (F'++F) (C'++C):=
 have k:∀a o,15<=a->s.heap.objs[a]? =G o->g.heap.objs[a]? =G o:=λa o u e=>((d.old a (yy h.here e) (FE u)).2).trans e;have i:∀a o,View.find f.objs a=G o->g.heap.objs[a]? =G o:=d.here.2.2
 ⟨⟨d.here.1,d.here.2.1,λa o e=>i a o (l _ (o2 e))⟩,
  w7.mpr ⟨λx b=>⟨(p x b).1,i _ _ (p x b).2⟩,λx b=>⟨(h.facts x b).1,k _ _ (h.facts x b).1 (h.facts x b).2⟩⟩,
  w7.mpr ⟨λx b=>⟨(r x b).1,(r x b).2.imp λo z=>⟨i _ _ z.1,z.2⟩⟩,λx b=>⟨(h.codes x b).1,(h.codes x b).2.imp λo z=>⟨k _ _ (h.codes x b).1 z.1,z.2⟩⟩⟩,
  λx b=>(FF w.params x b).elim (λq=>((d.old x.1 (yy h.here (h.keep x b)) (q m c tb)).2).trans (h.keep x b)) λq=>i _ _ (l x (o2 (q m' c' tb'))),
  d.gens.trans h.gens,d.os.trans h.os,d.life.trans h.life⟩
theorem FH{b c:L ag}{r:aj (je ab b_×aI×View)}{x:ag×ag×L (aj aC)×L (aj a6)}(h:xW b c r=G x):
  ∃q v,r=G (dW .next,q,v)/\x=(v.n,v.toks,b.map (View.find v.objs),c.map λa=>(View.find v.objs a).bind mq):=dS h λy g h=>by
 obtain ⟨d,q,v⟩:=y;cases d with
 |error e=>nomatch h
 |ok f=>cases f with
  |next=>exact⟨q,v,g,(bc h).symm⟩
  |_=>nomatch h
theorem qV{v:L (ag×aC)}{F:L (ag×aC)}(h:(F.map (·.1)).map (View.find v)=F.map (λx=>G x.2)):∀x∈F,View.find v x.1=G x.2:=w8.mp (dC.symm.trans h:F.map (View.find v∘(·.1))=_)
theorem FI{v:L (ag×aC)}{C:L (ag×am)}(h:((C.map (·.1)).map λa=>(View.find v a).bind mq)=C.map (λx=>G (I x.2))):∀x∈C,∃o,View.find v x.1=G o/\mq o=G (I x.2):=λx b=>dS (w8.mp (dC.symm.trans h:C.map ((λa=>(View.find v a).bind mq)∘(·.1))=_) x b) λo c h=>⟨o,c,h⟩
structure EX(w:bh)(l:L bz)(Q:ay->Prop)(p:aI)(s:ay):Prop where
 h:fc (aV au w) Γ0 (iz l gp) (λf _ s'=>f= .next/\Q s') (λ_ _ _=>d8) p s
theorem fT{a b:ag}{l:cI->L (ag×aC)}{o:L (ag×am)}{n t n' j:ag}{w:bh}{m c tb m' c' tb':aC}{V B:cI->L (ag×aC)}(g:fJ a b l o n t n' j V B)
  (P:V w.params=cb w.params m c tb) (N:B w.params=cb w.params m' c' tb')
  (I:∀x∈l w.params,15<=x.1) (K:∀x∈o,15<=x.1)
  {u s:ay} {F:L (ag×aC)} {C:L (ag×am)} {Q:ay->Prop} {A:L bz} {p:aI}
  (h:PG w u s m c tb n t F C)
  (k:∀q s',PG w u s' m' c' tb' n' j (l w.params++F) (o++C)->EX w A Q q s'):
  EX w (eb a b++A) Q p s:=by
 refine(FH (g w p)).elim λq x=>x.elim λv x=>?_;have e:=x.1;rw [P,Fg,Fh]at e;have H:n'=v.n:=aA s4 x.2;have D:j=v.toks:=aA (λy=>y.2.1) x.2;have i:=aA (λy=>y.2.2.1) x.2;have r:=aA (λy=>y.2.2.2) x.2;dsimp only at i r;rw [N,c0]at i;have y:=L.append_inj i E;refine⟨xP _ _ _ _ (kM _ _ _ (λf R s' z=>⟨(DU z.1).symm,?_⟩) (λ_ _ _ z=>nomatch z.1) _ _ (o1 (M:=aV au w) (E0 (M:=aV au w) 60) Γ0 _ _ _ _ e s h.here))⟩;exact(k _ _ (by rw [H,D];exact h.step (m':=m') (c':=c') (tb':=tb') z.2.2 (qV y.1.symm) (λx d=>⟨I x d,qV y.2.symm x d⟩) (λx d=>⟨K x d,FI r.symm x d⟩))).h
noncomputable def o3{α:Type}(d:α)(k:L an->an->aI->α)(x:bz):α:=(ix λh=>R4 (motive_2:=λ_=>α) x h k).getD d
noncomputable def FJ{α:Type}(d:α)(k:a6->aI->α)(x:an):α:=(ix λh=>DZ (motive_1:=λ_=>α) x h k).getD d
noncomputable def tN{α:Type}(d:α)(k:L (aj an)->L an->aI->α)(x:an):α:=(ix λh=>kQ.elim (motive_1:=λ_=>α) x h k).getD d
noncomputable def yz{α:Type}(d:α)(k:a6->aI->α):bz->α:=o3 d λt _ _=>(t.head?.map (FJ d k)).getD d
noncomputable def dX:bz->a6:=yz (I "") λx _=>x
noncomputable def tO:bz->aI:=yz d9 λ_ p=>p
noncomputable def dP:bz->aI:=o3 d9 λ_ _ p=>p
noncomputable def dK:bz->L (aj an):=o3 [] λ_ e _=>tN [] (λk _ _=>k) e
noncomputable def dV:bz->L an:=o3 [] λ_ e _=>tN [] (λ_ v _=>v) e
noncomputable def o4:bz->aI:=o3 d9 λ_ e _=>tN d9 (λ_ _ p=>p) e
noncomputable def yA(k:ag):bz:=hN [bA (dX (as k)) (tO (as k))] (kQ (dK (as k)) (dV (as k)) (o4 (as k))) (dP (as k))
noncomputable def A0:bj:={handled:=af,depth:=1000,frames:=af,guards:=af,units:=1000}
theorem FK:Γ0.In A0:=
 ⟨E,by show frameCount [(hI "claim.caller" {},d9)]+(Code.body (h_ au) gp).weight<=1000;decide+kernel,λl a=>(by cases a),λg b=>(by cases b),
  by show(Code.body (h_ au) gp).cUnits+unitsOf [(hI "claim.caller" {},d9)]<=1000;decide+kernel⟩
noncomputable def kW:L fd:=[([123,115,116,97,114,116,125],535,(aq #[94] 536)),([123,101,110,100,125],537,(aq #[36] 538)),([123,108,97,115,116,125],539,(aq #[33] 540)),([123,110,101,120,116,125],541,(aq #[43] 542)),([123,112,114,101,118,105,111,117,115,125],543,(aq #[45] 544))]
noncomputable def kS:L fd:=[([123,108,101,102,116,45,111,102,125],551,(aE (I "left") 552)),([123,114,105,103,104,116,45,111,102,125],553,(aE (I "right") 554)),([123,117,112,45,111,102,125],555,(aE (I "up") 556)),([123,100,111,119,110,45,111,102,125],557,(aE (I "down") 558))]
noncomputable def kC:L fd:=[([123,116,111,112,125],564,(J 240)),([123,98,111,116,116,111,109,125],567,(J 241)),([123,108,101,102,116,125],570,(J 242)),([123,114,105,103,104,116,125],573,(J 243)),([123,116,111,112,45,108,101,102,116,125],576,(J 244)),([123,116,111,112,45,114,105,103,104,116,125],579,(J 245)),([123,98,111,116,116,111,109,45,108,101,102,116,125],582,(J 246)),([123,98,111,116,116,111,109,45,114,105,103,104,116,125],585,(J 247))]
noncomputable def tp(i a j b:ag):aC:=⟨(aM "tuple"),af,(dp [(aa (i:U) a),(aa (j:U) b)].toArray 0),[].toArray⟩
noncomputable def tP:L (ag×aC):=[(247,tp 2 586 2 587),(246,tp 2 583 0 584),(245,tp 0 580 2 581),(244,tp 0 577 0 578),(243,tp 1 574 2 575),(242,tp 1 571 0 572),(241,tp 2 568 1 569),(240,tp 0 565 1 566)]
structure N(k n t n' d:ag)(kvs:L fd)(ex:L (ag×aC))(w:bh)(a:ab)(j:ag)(c tb:aC):Prop where
 h:∀b p,jt k6 ⟨au,w.params⟩ b (evalPairs (pairTrees (dK (as k)) (dV (as k)) gp (o4 (as k)))) p ⟨(n,{cls:=aM "dict",data:=e5 #[]})::cb w.params (b2 w.params j a) c tb,n+1,t⟩=
   G (dW (kvs.map λx=>(aq x.1.toArray x.2.1,x.2.2)),o4 (as k),⟨ex++(n,{cls:=aM "dict",data:=e5 #[]})::cb w.params (b2 w.params j a) c tb,n',d⟩)
structure o5(k n n' a:ag)(kvs:L fd)(ex:L (ag×aC))(w:bh)(b:ab)(j:ag)(c tb:aC):Prop where
 h:∀d p,jt k6 ⟨au,w.params⟩ d (storeName gp (dX (as k)) (J n)) p ⟨ex++(n,fi au w kvs)::cb w.params (b2 w.params j b) c tb,n',a+kvs.length⟩=
   G (dW (),p,⟨ex++(n,fi au w kvs)::cb w.params (b2 w.params (j+1) b) c tb,n',a+kvs.length+1⟩)
structure H0(k:ag):Prop where
 hst:eb k (k+1)=[yA k]
 hs:l9 (kQ (dK (as k)) (dV (as k)) (o4 (as k))) (G (bA (dX (as k)) (tO (as k)))) (dP (as k)).line gp=b6 false
 k1:(dK (as k)).all (·.isSome)=true
 k2:(dK (as k)).length=(dV (as k)).length
 k3:(dK (as k)).isEmpty=false
 k4:m8 (dK (as k)).length 15=true
theorem yB{ex r:L (ag×aC)}{n:ag}{o:aC}(g:aC->aC)(h:∀x∈ex,n<x.1):View.put (ex++(n,o)::r) n g=ex++(n,g o)::r:=by
 induction ex with
 |nil=>show gA (dn n n) _ _=_;rw [ag.beq_refl];rfl
 |cons y e a=>show gA (dn y.1 n) _ _=_;rw [View.beq_ne (m4 (h y (d_ _)))];exact aA (y::·) (a λx b=>h x (dh _ b))
theorem tQ{ex r:L (ag×aC)}{a n:ag}(h:∀x∈ex,n<x.1)(d:a<=n):View.find (ex++r) a=View.find r a:=by
 induction ex with
 |nil=>rfl
 |cons y e b=>exact(View.find_ne (m4 (fq d (h y (d_ _))))).trans (b λx c=>h x (dh _ c))
theorem tR{k n t n':ag}{kvs:L fd}{ex:L (ag×aC)}{w:bh}{b:ab}{j:ag}{c tb:aC}
  (m:ag) (d:H0 k) (K:N k n t n' m kvs ex w b j c tb) (I:o5 k n n' m kvs ex w b j c tb)
  (g:∀x∈ex,n<x.1) (y:15<=n) (B:(kvs.map (·.1)).Nodup) (z:kvs.length<=1000)
  {u s:ay} {F:L (ag×aC)} {C:L (ag×am)} {Q:ay->Prop} {v:L bz} {p:aI}
  (h:PG w u s (b2 w.params j b) c tb n t F C)
  (H:∀q s',PG w u s' (b2 w.params (j+1) b) c tb n' (m+kvs.length+1) ([(n,fi au w kvs)]++F) ([]++C)->EX w v Q q s'):
  EX w (eb k (k+1)++v) Q p s:=by
 have D:=Fa (prog:=au) (w:=w) (A:=A0) (env:=gp) (x:=dX (as k)) (pos':=tO (as k)) (pos:=dP (as k)) (pos2:=o4 (as k)) (keys:=dK (as k)) (values:=dV (as k)) (V:=⟨cb w.params (b2 w.params j b) c tb,n,t⟩)
  (kvs:=kvs) (s:=s) d.hs d.k1 d.k2 (λe=>nomatch (aA L.isEmpty e).symm.trans d.k3) (aS d.k4) (λi p=>⟨_,K.h i p⟩) ((tQ g (cw n)).trans (View.find_eq E)) (yB _ g) B z (λi p=>⟨_,by rw [yB _ g];exact I.h i p⟩) h.here
 refine⟨xP _ _ _ _ ?_⟩;rw [d.hst];show fc _ _ (exec (yA k) gp>>=λf=>match f with| .next=>iz [] gp|f=>b6 f) _ _ _ _
 rw [m6]
 have o:∀x∈cb w.params (b2 w.params (j+1) b) c tb,x.1<n/\View.find (cb w.params (b2 w.params (j+1) b) c tb) x.1=G x.2:=
  have l:∀{a:ag},ag.blt a 15=true->a<n:=λq=>fo (aS q) y
  FA ⟨l E,E⟩ (FA ⟨l E,E⟩ (FA ⟨l E,E⟩ (FA ⟨l E,E⟩ (FA ⟨l E,E⟩ (FA ⟨l E,E⟩ FN)))))
 exact kM _ _ _ (λf q s' x=>by rw [x.1];exact⟨E,(H q s' (h.step x.2 (λx r=>(tQ g (hO (o x r).1)).trans ((View.find_ne (m4 (o x r).1)).trans (o x r).2)) (FA ⟨y,(tQ g (cw n)).trans (View.find_eq E)⟩ FN) FN)).h⟩) (λ_ _ _ x=>x.elim) _ _ (D Γ0 p FK)
theorem FL:H0 35:=⟨by kernel_rfl!,by kernel_rfl!,by kernel_rfl!,by kernel_rfl!,by kernel_rfl!,by kernel_rfl!⟩
theorem FM:H0 36:=⟨by kernel_rfl!,by kernel_rfl!,by kernel_rfl!,by kernel_rfl!,by kernel_rfl!,by kernel_rfl!⟩
theorem FO:H0 37:=⟨by kernel_rfl!,by kernel_rfl!,by kernel_rfl!,by kernel_rfl!,by kernel_rfl!,by kernel_rfl!⟩
theorem FP(w:bh):N 35 237 535 238 545 kW [] w bO 40 (ci 84) (cr w.params):=⟨by intro a p;kernel_rfl!⟩
theorem FQ(w:bh):o5 35 237 238 545 kW [] w bO 40 (ci 84) (cr w.params):=⟨by intro a p;kernel_rfl!⟩
theorem FR(w:bh):N 36 238 551 239 559 kS [] w bO 41 (ci 84) (cr w.params):=⟨by intro a p;kernel_rfl!⟩
theorem FT(w:bh):o5 36 238 239 559 kS [] w bO 41 (ci 84) (cr w.params):=⟨by intro a p;kernel_rfl!⟩
theorem FU(w:bh):N 37 239 564 248 588 kC tP w bO 42 (ci 84) (cr w.params):=⟨by intro a p;kernel_rfl!⟩
theorem FV(w:bh):o5 37 239 248 588 kC tP w bO 42 (ci 84) (cr w.params):=⟨by intro a p;kernel_rfl!⟩
noncomputable def Γc:Ctx:=⟨hI "claim.caller" {},af,af,[],af⟩
noncomputable def qW:ef (ab×ae):=moduleCode au.main>>=λa=>newBodyFrame a iB iB>>=λb=>b6 (a,b)
noncomputable def yC(a:L ag)(r:aj (je ab (ab×ae)×aI×View)):aj ((ab×ae)×aI×ag×ag×L (aj aC)):=r.bind λx=>je.rec (λ_=>af) (λy=>G (y,x.2.1,x.2.2.n,x.2.2.toks,a.map (View.find x.2.2.objs))) x.1
theorem FW{a:L ag}{r:aj (je ab (ab×ae)×aI×View)}{x:(ab×ae)×aI×ag×ag×L (aj aC)}(h:yC a r=G x):
  ∃v,r=G (dW x.1,x.2.1,v)/\x.2.2=(v.n,v.toks,a.map (View.find v.objs)):=dS h λy c h=>by
 obtain ⟨b,q,v⟩:=y;cases b with
 |error e=>exact gR h
 |ok f=>exact⟨v,bc h▸c,bc h▸E⟩
theorem FX:∀w:bh,yC ([3,12,13,4,0,2]++(k7 w.params).map (·.1)) (jt k6 ⟨au,w.params⟩ Γc qW d9 (qU w.params))=
  G ((J 13,14),d9,15,187,(cb w.params (b2 w.params 9 mp) (ci 0) (j3 [] 0)).map (λx=>G x.2)++(k7 w.params).map (λx=>G x.2)):=by
 intro w;kernel_rfl!
theorem FY:∀(w:bh) (v:View),jt k6 ⟨au,w.params⟩ Γ0 (blockStart (h_ au) gp) d9 v=G (dW (),d9,v):=by intro w v;kernel_rfl!
theorem FZ:h_ au=eb 0 3++(eb 3 5++(eb 5 10++(eb 10 11++(eb 11 21++(eb 21 29++(eb 29 35++(eb 35 36++(eb 36 37++(eb 37 38++(eb 38 39++(eb 39 49++(eb 49 58++(eb 58 67++(eb 67 68++(eb 68 69++(eb 69 70++(eb 70 73++(eb 73 74++(eb 74 85++(eb 85 93++(eb 93 99++[]))))))))))))))))))))):=by kernel_rfl!
theorem fU{F:L (ag×aC)}(h:((F.map (·.1)).all λa=>m8 15 a)=true):∀x∈F,15<=x.1:=λx b=>by have:=fe.mp h x.1 (jV b);exact aS this
theorem fV{F:L (ag×am)}(h:((F.map (·.1)).all λa=>m8 15 a)=true):∀x∈F,15<=x.1:=λx b=>by have:=fe.mp h x.1 (jV b);exact aS this
theorem F0{w:bh}{a s:ay}{F:L (ag×aC)}{C:L (ag×am)}{Q:ay->Prop}{b:L bz}{p:aI}
  (h:PG w a s (b2 w.params 40 bO) (ci 84) (cr w.params) 237 535 F C)
  (c:∀q s',PG w a s' (b2 w.params 41 bO) (ci 84) (cr w.params) 238 551 ([(237,fi au w kW)]++F) ([]++C)->EX w b Q q s'):
  EX w (eb 35 36++b) Q p s:=
 tR (k:=35) (n:=237) (t:=535) (n':=238) (kvs:=kW) (ex:=[]) (j:=40) 545 FL (FP w) (FQ w) (by decide+kernel) (by decide) (by decide+kernel) (by decide+kernel) h c
theorem F1{w:bh}{a s:ay}{F:L (ag×aC)}{C:L (ag×am)}{Q:ay->Prop}{b:L bz}{p:aI}
  (h:PG w a s (b2 w.params 41 bO) (ci 84) (cr w.params) 238 551 F C)
  (c:∀q s',PG w a s' (b2 w.params 42 bO) (ci 84) (cr w.params) 239 564 ([(238,fi au w kS)]++F) ([]++C)->EX w b Q q s'):
  EX w (eb 36 37++b) Q p s:=
 tR (k:=36) (n:=238) (t:=551) (n':=239) (kvs:=kS) (ex:=[]) (j:=41) 559 FM (FR w) (FT w) (by decide+kernel) (by decide) (by decide+kernel) (by decide+kernel) h c
theorem F2{w:bh}{a s:ay}{F:L (ag×aC)}{C:L (ag×am)}{Q:ay->Prop}{b:L bz}{p:aI}
  (h:PG w a s (b2 w.params 42 bO) (ci 84) (cr w.params) 239 564 F C)
  (c:∀q s',PG w a s' (b2 w.params 43 bO) (ci 84) (cr w.params) 248 597 ([(239,fi au w kC)]++F) ([]++C)->EX w b Q q s'):
  EX w (eb 37 38++b) Q p s:=
 tR (k:=37) (n:=239) (t:=564) (n':=248) (kvs:=kC) (ex:=tP) (j:=42) 588 FO (FU w) (FV w) (by decide+kernel) (by decide) (by decide+kernel) (by decide+kernel) h c
noncomputable def yD(w:bh):L (ag×aC):=let P:=w.params;(yw P++(yu P++(ys P++(yq P++(yo P++(ym P++(yk P++(yi P++(yg P++(ye P++(yc P++(ya P++([(239,fi au w kC)]++([(238,fi au w kS)]++([(237,fi au w kW)]++(x9 P++(x7 P++(x5 P++(x3 P++(x1 P++(xZ P++(xX P++[]))))))))))))))))))))))
noncomputable def o6:L (ag×am):=(yx++(yv++(yt++(yr++(yp++(yn++(yl++(yj++(yh++(yf++(yd++(yb++([]++([]++([]++(x_++(x8++(x6++(x4++(x2++(x0++(xY++[]))))))))))))))))))))))
noncomputable abbrev hS(w:bh)(a s:ay):Prop:=PG w a s (b2 w.params 102 cl) (ci 258) (cr w.params) 944 1579 (yD w) o6
theorem F3(w:bh){a s:ay}{p:aI}(h:PG w a s (b2 w.params 9 mp) (ci 0) (j3 [] 0) 15 187 [] []):
  EX w (h_ au) (hS w a) p s:=by
 rw [FZ];refine fT Fi E E (fU (by kernel_rfl!)) (fV (by kernel_rfl!)) h λ_ _ A=>?_
 refine fT Fj E E (fU (by kernel_rfl!)) (fV (by kernel_rfl!)) A λ_ _ z=>?_
 refine fT Fk E E (fU (by kernel_rfl!)) (fV (by kernel_rfl!)) z λ_ _ l=>?_
 refine fT Fl E E (fU (by kernel_rfl!)) (fV (by kernel_rfl!)) l λ_ _ i=>?_
 refine fT Fm E E (fU (by kernel_rfl!)) (fV (by kernel_rfl!)) i λ_ _ g=>?_
 refine fT Fn E E (fU (by kernel_rfl!)) (fV (by kernel_rfl!)) g λ_ _ f=>?_
 refine fT Fo E E (fU (by kernel_rfl!)) (fV (by kernel_rfl!)) f λ_ _ e=>?_
 refine F0 e λ_ _ d=>?_;refine F1 d λ_ _ c=>?_;refine F2 c λ_ _ b=>?_;refine fT Fp E E (fU (by kernel_rfl!)) (fV (by kernel_rfl!)) b λ_ _ y=>?_
 refine fT Fq E E (fU (by kernel_rfl!)) (fV (by kernel_rfl!)) y λ_ _ x=>?_
 refine fT Fs E E (fU (by kernel_rfl!)) (fV (by kernel_rfl!)) x λ_ _ v=>?_
 refine fT Ft E E (fU (by kernel_rfl!)) (fV (by kernel_rfl!)) v λ_ _ u=>?_
 refine fT Fu E E (fU (by kernel_rfl!)) (fV (by kernel_rfl!)) u λ_ _ t=>?_
 refine fT Fv E E (fU (by kernel_rfl!)) (fV (by kernel_rfl!)) t λ_ _ r=>?_
 refine fT Fw E E (fU (by kernel_rfl!)) (fV (by kernel_rfl!)) r λ_ _ q=>?_
 refine fT Fx E E (fU (by kernel_rfl!)) (fV (by kernel_rfl!)) q λ_ _ o=>?_
 refine fT Fy E E (fU (by kernel_rfl!)) (fV (by kernel_rfl!)) o λ_ _ n=>?_
 refine fT Fz E E (fU (by kernel_rfl!)) (fV (by kernel_rfl!)) n λ_ _ m=>?_
 refine fT FC E E (fU (by kernel_rfl!)) (fV (by kernel_rfl!)) m λ_ _ k=>?_
 refine fT FD E E (fU (by kernel_rfl!)) (fV (by kernel_rfl!)) k λ_ _ j=>?_
 exact⟨⟨E,j⟩⟩
noncomputable def mr(P:cI):L aC:=[boot_o_0 P,boot_o_1 P,cr P,b2 P 102 cl,boot_o_4 P,boot_o_5 P,boot_o_6 P,boot_o_7 P,boot_o_8 P,boot_o_9 P,boot_o_10 P]
noncomputable def d2(P:cI):bI:=⟨(mr P).toArray,{}⟩
theorem F4(P:cI):staticsOk [] (iC P) (d2 P)=true:=by kernel_rfl!
theorem F5(P:cI):namesBound au (d2 P)=true:=by kernel_rfl!
theorem F6(P:cI):laidKept (iC P) (d2 P)=true:=by kernel_rfl!
theorem F7(P:cI):(d2 P).accountedOkI []=true:=by kernel_rfl!
theorem tS(P:cI):(d2 P).isNs jh=true:=by kernel_rfl!
theorem tT(P:cI):(d2 P).isNs l_=true:=by kernel_rfl!
theorem F8(P:cI):(d2 P).bltView=bltViewBooted:=by kernel_rfl!
theorem yE:importedModules au.main.body=[]:=by kernel_rfl!
noncomputable def tU(P:cI):L (ag×aC):=(2,cr P)::(3,b2 P 102 cl)::k7 P
theorem F9(P:cI):(et 11).map (View.find (tU P))=(et 11).map ((mr P)[·]?):=by kernel_rfl!
theorem hS.low{w:bh}{d s:ay}(h:hS w d s)(a:ag)(b:a<11):s.heap.get? a=(d2 w.params).get? a:=by have e:View.find (tU w.params) a=(mr w.params)[a]?:=w8.mp (F9 w.params) a (ji.mpr b);have c:(mr w.params)[a]? =G _:=iD b;have g:∀x∈tU w.params,s.heap.objs[x.1]? =G x.2:=FA (h.here.2.2 2 _ E) (FA (h.here.2.2 3 _ E) h.keep);have f:s.heap.objs[a]? =(d2 w.params).objs[a]?:=(g _ (o2 (e.trans c))).trans (c.symm.trans (ia ..).symm);unfold bI.get?;rw [f]
theorem F_{h:bI}{a:ae}{o:aC}(e:h.get? a=G o):a<h.objs.size:=kT e
theorem Ga(P:cI):(iC P).objs=(((mr P).set 2 (boot_o_2 P)).set 3 (boot_o_3 P)).toArray:=by kernel_rfl!
theorem Gb(P:cI)(a:ag)(c:a≠2)(b:a≠3):(iC P).get? a=(d2 P).get? a:=by
 have e:(iC P).objs[a]? =(d2 P).objs[a]?:=by rw [Ga];show(((mr P).set 2 (boot_o_2 P)).set 3 (boot_o_3 P)).toArray[a]? =(mr P).toArray[a]?;rw [ia,ia,L.getElem?_set_ne (Ne.symm b),L.getElem?_set_ne (Ne.symm c)]
 unfold bI.get?;rw [e]
theorem Gc(P:cI):(qU P).objs.map (λx=>(iC P).objs[x.1]?)=(qU P).objs.map (λx=>G x.2):=by kernel_rfl!
theorem Gd(w:bh){a s':ay}(b:PG w a s' (b2 w.params 9 mp) (ci 0) (j3 [] 0) 15 187 [] []):
  wpCode (aV au w) Γ0 (λr s'=>r=dW .next/\hS w a s') d9 s':=by
 refine(ef.wp_iff_runs (aV au w) Γ0 ((aV au w).den Γ0.code) (λr s'=>r=dW .next/\hS w a s') d9 s').mp ?_;show fc (aV au w) Γ0 (blockStart (h_ au) gp>>=λ_=>((iz (h_ au) gp).onRaise (leaving gp))>>=λf=>(b6 (gk.done f):ef gk)) _ _ d9 s';rw [m6];refine kM _ _ _ (λ_ q d z=>?_) (λ_ _ _ z=>nomatch z.1) _ _ (o1 (M:=aV au w) tL Γ0 _ d9 ⟨cb w.params (b2 w.params 9 mp) (ci 0) (j3 [] 0),15,187⟩ _ (FY w _) s' b.here);rw [m6,ef.wp_onRaise];exact kM _ _ _ (λf e c y=>y.1▸⟨E,y.2⟩) (λ_ _ _ x=>x.elim) _ _ (F3 w (p:=q) (b.step (F':=[]) (C':=[]) z.2.2 (FA E (FA E (FA E (FA E (FA E (FA E FN)))))) FN FN)).h
theorem Ge(w:bh)(b:ay)(l:(qU w.params).At b)(k:b.gens=#[]):fc (aV au w) Γc (topStub au).cur (λd _ s'=>∃v,d= .done (ck v)/\hS w b s'/\s'.gens=#[]) (λ_ _ _=>d8) d9 b:=by
 refine(FW (FX w)).elim λv e=>?_;have W:=o1 (M:=aV au w) tL Γc qW d9 _ _ e.1 b l;have t:15=v.n:=aA s4 e.2;have s:187=v.toks:=aA (·.2.1) e.2
 have f:=aA (·.2.2) e.2
 dsimp only at f;rw [c0]at f;have y:=L.append_inj f E
 have g:fc (aV au w) Γc (qW>>=λx=>(run (.body (h_ au) {scope:=au.main.scope,locals:=iB,globals:=iB,cells:=[],code:=x.1,frame:=G x.2})>>=λ_=>(ret ah:ef gk)))
   (λd _ s'=>∃v,d= .done (ck v)/\hS w b s'/\s'.gens=#[]) (λ_ _ _=>d8) d9 b:=by
  rw [m6];refine kM _ _ _ (λx q s' z=>?_) (λ_ _ _ z=>nomatch z.1) _ _ W;have c:=z.2.2;rw [<-DU z.1,z.2.1];have u:PG w b s' (b2 w.params 9 mp) (ci 0) (j3 [] 0) 15 187 [] []:=⟨⟨c.here.1.trans t.symm,c.here.2.1.trans s.symm,λa o p=>c.here.2.2 a o (qV y.1.symm _ (o2 p))⟩,FN,FN,λx j=>c.here.2.2 _ _ (qV y.2.symm x j),c.gens,c.os,c.life⟩;rw [m6];show fc _ _ (ef.call _ af false [] _) _ _ _ _;rw [ef.wp_call];exact wpCode_mono (λr A h=>by rw [h.1];show fc _ _ ((b6 b_.next:ef b_)) _ _ _ _;rw [ef.wp_pure'];exact⟨ah,E,h.2,h.2.gens.trans k⟩) (Gd w u)
 unfold qW at g;show fc (aV au w) Γc (moduleCode au.main>>=λi=>newBodyFrame i iB iB>>=λm=>run (.body (h_ au) {scope:=au.main.scope,locals:=iB,globals:=iB,cells:=[],code:=i,frame:=G m})>>=λ_=>(ret ah:ef gk)) _ _ _ _;simp only [m6,ef.wp_pure']at g⊢;exact g
theorem Gf(w:bh)(c:OsState)(f:({heap:=iC w.params,gens:=#[],drawn:=oH,toks:=oI,os:=c}:ay).asleep):
  ∃b,(∃n d,schedN (m5 kO) au w n (.single {heap:=iC w.params,gens:=#[],drawn:=oH,toks:=oI,os:=c} (topStub au))= .running (.single b d)/\through d=true)/\
   hS w {heap:=iC w.params,gens:=#[],drawn:=oH,toks:=oI,os:=c} b/\b.gens=#[]:=by
 refine E5 (p:=au) (w:=w) (t:=(topStub au).cur) f ?_;refine Ge w _ ⟨E,E,λa o e=>w8.mp (Gc w.params) _ (o2 e)⟩ E
theorem hS.globalOf{w:bh}{a s:ay}(h:hS w a s)(x:a6):globalOf s.heap x=PySem.globalOf (d2 w.params) x:=by unfold PySem.globalOf;rw [h.low iB (by decide)]
theorem hS.staticOf{w:bh}{a s:ay}(h:hS w a s)(x:a6):staticOf s.heap x=PySem.staticOf (d2 w.params) x:=by unfold PySem.staticOf;rw [h.low cStatics (by decide)]
theorem Gg(w:bh)(i:OsState)(r:({heap:=iC w.params,gens:=#[],drawn:=oH,toks:=oI,os:=i}:ay).asleep):
  ∃d,TopRan au w {heap:=iC w.params,gens:=#[],drawn:=oH,toks:=oI,os:=i} d/\
   hS w {heap:=iC w.params,gens:=#[],drawn:=oH,toks:=oI,os:=i} d/\d.gens=#[]:=by
 obtain ⟨d,s,h,p⟩:=Gf w i r;refine⟨d,⟨s,h.life,ay.rest_eq h.os,λb o e l=>?_,?_,?_,?_,?_,?_,?_,?_,?_⟩,h,p⟩
 ·have t:b<11:=F_ e
  have u:b≠3:=λq=>l (bt q);have y:b≠2:=λq=>l (bF (bt q));rw [h.low b t,<-Gb w.params b y u];exact e
 ·rw [yE]
  have:=bI.accountedI_of_ok (F7 w.params);intro j v f;simp only [h.staticOf]at f⊢;exact this j v f
 ·rw [yE]
  have:=statics_of_ok (F4 w.params);intro j;rw [h.staticOf];exact this j
 ·obtain ⟨o,z,n,a,b,c⟩:=Pin.keysAreStrs_of (tS w.params)
  exact⟨o,z,n,(h.low iB (by decide)).trans a,b,c⟩
 ·intro x k
  have e:builtinOf d.heap x=builtinOf (d2 w.params) x:=by unfold builtinOf;rw [h.low l_ (by decide)]
  rw [e];exact(Pin.builtinOf_eq (tT w.params) x).trans (bI.of_bltView (tT w.params) (F8 w.params) x k)
 ·refine⟨4,boot_o_4 w.params,?_,?_,E,E⟩
  ·rw [h.globalOf]
   rfl
  ·rw [h.low 4 (by decide)];rfl
 ·intro g m
  rw [p]at m;simp at m
 ·intro x v f
  rw [h.globalOf]at f;exact names_of_bound (F5 w.params) x v f
 ·intro x k
  rw [h.globalOf];exact laid_of_kept (F6 w.params) x k
theorem Gh{s:ay}{x:bI×a9 GenState×Drawn×ag}(h:(s.heap,s.gens,s.drawn,s.toks)=x):s={heap:=x.1,gens:=x.2.1,drawn:=x.2.2.1,toks:=x.2.2.2,os:=s.os}:=h▸E
theorem yF(w:bh):(∃s,AfterRun (opening au) w s)/\∀s,AfterRun (opening au) w s->∃a,fenceModules? au s=G a/\a={heap:=iC w.params,gens:=#[],drawn:=oH,toks:=oI,os:=a.os}/\a.asleep:=by
 have b:=boot_open (p:=au) (N:=600) (by kernel_rfl!) (by decide) (λs=>by rfl) w
 rw [<-table_eq_tree]at b;exact(gm.mp b).elim λa x=>dS x.1 λs e c=>have A:=AfterImport.of_importEnds e
  ⟨⟨s,A⟩,λf d=>⟨a,(AfterImport.unique d A)▸c,Gh x.2,R5 (fence_lifeW c) A.life⟩⟩
noncomputable def KK(w:bh):Frag:=yD w++(k7 w.params++[(3,b2 w.params 102 cl),(2,cr w.params)])
noncomputable def tV(h:bI):Prop:=∀x∈o6,h.CodeRec (J x.1) (I x.2)
theorem k8{α c:Type} [BEq α] [qF α]{a k:α}{b:c}{r:L (α×c)}(h:a=k):qG a ((k,b)::r)=G b:=by rw [fQ,h,eE]
theorem iQ{α c:Type} [BEq α] [qF α]{a k:α}{b:c}{r:L (α×c)}(h:a≠k):qG a ((k,b)::r)=qG a r:=by rw [fQ,dB.mpr h]
theorem j4{α c:Type} [BEq α] [qF α]{l:L (α×c)}{a:α}{o:c}(h:l.lookup a=G o):(a,o)∈l:=by
 induction l with
 |nil=>nomatch h
 |cons x r d=>
  rw [fQ]at h;cases b:a==x.1 with
  |true=>rw [b]at h;exact bc h▸cU b▸d_ _
  |false=>rw [b]at h;exact dh _ (d h)
theorem Gi(w:bh):((KK w).all λx=>!x.2.isFreed)=true:=by kernel_rfl!
theorem hS.kk{w:bh}{b s:ay}(h:hS w b s):(KK w).In s.heap:=λa o e=>
 have k:∀x∈k7 w.params++[(3,b2 w.params 102 cl),(2,cr w.params)],s.heap.objs[x.1]? =G x.2:=w7.mpr ⟨h.keep,FA (h.here.2.2 3 _ E) (FA (h.here.2.2 2 _ E) FN)⟩;have d:∀x∈KK w,s.heap.objs[x.1]? =G x.2:=w7.mpr ⟨λx c=>(h.facts x c).2,k⟩
 nt (d _ (j4 e)) (ma _▸fe.mp (Gi w) _ (j4 e))
theorem Gj{o:aC}{vs:a9 ab}(h:o.data=cx vs):o.isFreed=false:=by obtain ⟨c,d,b,a⟩:=o;cases h;rfl
theorem hS.codesIn{w:bh}{c s:ay}(h:hS w c s):tV s.heap:=λx d=>(h.codes x d).2.elim λo y=>dS y.2 λb a z=>dS z λv f z=>(Fe z).elim λt e=>⟨x.1,o,b,t,E,nt y.1 (Gj (xV a)),xV a,f.trans (aA G e)⟩
theorem tW{w:bh}{h:bI}(X:(KK w).In h):h.Ns jh ((d2 w.params).nsMap jh):=by obtain ⟨o,a,b,e,r⟩:=D0 (tS w.params);refine⟨o,a,b,?_,r⟩;have c:(d2 w.params).get? jh=G (b2 w.params 102 cl):=E;rw [c]at e;cases e;exact X 3 _ (by kernel_rfl!)
noncomputable def tX:Prop:=∀(w:bh) (s:ay) (v:ab) (d:L U) (a:ae) (e:a9 ab),
 (KK w).In s.heap->tV s.heap->s.gens=#[]->v=J a->s.heap.IsList a e->qH e.toList d->d.length<=63->
  aX (aV au w) callerA (hP (J 943) [v]) (λr c=>r=az true/\(∀b o,s.heap.get? b=G o->c.heap.get? b=G o)/\c.gens=#[]/\c.os=s.os) (λ_ _=>d8) s
theorem yG:dD.row.promised:=⟨[.list []],by kernel_rfl!,by rw [show D1 [.list []]=true by kernel_rfl!,show dD.row.returnsAt [.list []]=true by kernel_rfl!];rfl⟩
theorem Gk:dD.row.prog.bare:=⟨E,E,E,E,E,by decide+kernel⟩
theorem Gl:bearImports (h_ au)=false:=by kernel_rfl!
theorem Gm:opening au=plainProg au.main.scope.names:=by kernel_rfl!
theorem Gn:(plainProg au.main.scope.names).tameTopW=true:=by kernel_rfl!
theorem Go:opensWell dD.row.prog=true:=by show((opening au).tameTopW&&!bearImports (h_ au))=true;rw [Gm,Gn,Gl];rfl
theorem Gp:au.theDef (I "law")=G (j2 (as 98),gq (as 98),c5 (as 98)):=by kernel_rfl!
theorem Gq(w:bh):(KK w).lookup 943=G (a3 (as 98) "law" ah cl 942):=by kernel_rfl!
theorem yH(w:bh):(d2 w.params).nsMap jh (I "law")=G (J 943):=by kernel_rfl!
theorem Gr:nu (as 98)=I "law":=by kernel_rfl!
theorem Gs:(j2 (as 98)).defaults=[]:=by kernel_rfl!
theorem Gt(a:L WData):dD.row.claim.post a (.bool true) a=true:=by wrow_post
theorem Gu{w:bh}{h:bI}{cl:a6->aj ae}{b:L WData}{vs:L ab}{as:L ae}(e:dD.row.claim.pre b=true)(g:D1 b=true)
 (d:ReadsAllW dD.row.claim.records cl h vs b as) (c:WellAll w.params h vs b) (f:∀a∈as,(a==s5)=false):
 ∃v a items ns,vs=[v]/\v=J a/\h.IsList a items/\qH items.toList ns/\ns.length<=63:=by
 wrow_args e g d c f
 exact⟨_,_,_,_,E,E,by assumption,by simpa using (by assumption),by omega⟩
theorem Gv:kwWritten? (j2 (as 98)).kwonlyargs (j2 (as 98)).kw_defaults=G []:=by kernel_rfl!
theorem Gw(z:tX){w:bh}{m d e:ay}(j:hS w m d){f:L WData}{vs:L ab}{as:L ae}(t:dD.row.claim.pre f=true)(u:D1 f=true)(i:Laid dD.row.claim.records w d e f vs as)(l:∀b o,d.heap.get? b=G o->e.heap.get? b=G o)
  (s:ReadsAllW dD.row.claim.records (classAt d.heap) e.heap vs f as):
  aX (aV au w) callerA (hP (J 943) vs) (λr s'=>dD.row.claim.Ends d f vs e (dW (ck r)) s'/\s'.os=d.os/\AllBare s'.gens) (λ_ _=>d8) e:=
 (Gu (w:=w) (h:=e.heap) (cl:=classAt d.heap) t u s i.well (i.low (w:=w) (by rw [j.here.1];show 1<944;decide))).elim λv k=>k.elim λa k=>k.elim λp k=>k.elim λn k=>k.1▸
  cf (z w e v n a p (j.kk.keeps l) (λx q=>(j.codesIn x q).keeps l) i.gens k.2.1 k.2.2.1 k.2.2.2.1 k.2.2.2.2) (λr s' g=>by rw [g.1];have A:GoodW dD.row.claim (classAt d.heap) (ExcName.means d.heap) f e (dW (ck (az true))) s':=⟨bt ⟨_,.bool true,[],E,λ_=>E,.bool true,Gt f,λ_=>⟨.nil,λ_ y=>nomatch y⟩⟩,g.2.1,g.2.2.2,g.2.2.1⟩;exact k.1.symm▸A.toG.laid (c:=dD.row.claim) E E (λa b=>ident_freeW E E E a b) i) λ_ _ x=>x
set_option maxHeartbeats 1000000 in
theorem Gx(C:tX)(u:dD.row.wellSaid=true):dD.row.Holds:=by
 refine⟨u,yG,⟨Gk,Go,E⟩,yG.witness,λw=>⟨(yF w).1,λk A=>((yF w).2 k A).elim λj x=>?_⟩⟩;have T:=Gg w j.os (by rw [<-x.2.1];exact x.2.2)
 rw [<-x.2.1]at T;refine T.elim λb y=>⟨j,x.1,by rw [x.2.1],b,y.1,λn i=>?_,(λx g=>nomatch g),(λx g=>nomatch g),?_⟩
 ·have i:n=I "law":=(de.mp (show n∈ [dD.row.name]from i):n=dD.row.name)
  rw [i];exact⟨943,_,_,_,_,_,(by rw [y.2.1.globalOf];exact(Pin.globalOf_eq (tS w.params) _).trans (yH w)),y.2.1.kk _ _ (Gq w),E,Gp,Gr,E,E,E,E,E,E,E,bt ⟨Gs,E⟩,[],Gv,bt ⟨E,E⟩⟩
 refine ClaimW.callFrom_of_specG (c:=dD.row.claim) (tree:=λt=>do match<-nsGet iB dD.row.name with
   |some f=>do ret (<-hP f t)
   |none=>unsupported "claim.caller:no-such-global") (R5 y.2.1.life x.2.2) y.2.2 λs l o ord m=>?_
 refine(jj.mp (layAllW_isSome (R:=dD.row.claim.records) (cl:=classAt b.heap) (P:=w.params) (ord:=ord) (λc B=>nomatch B) s dD.row.args b (pre_splitW l).1)).elim λz a=>(reads_layAllW m _ _ _ a o z.2.heap (λ_ _ e=>e)).elim λD r=>⟨z.1,z.2,a,?_⟩;have d:=layAllW_keeps _ _ _ a;have p:=layAllW_rest _ _ _ a;have F:Laid dD.row.claim.records w b z.2 s z.1 D:=⟨⟨ord,m,a⟩,r.1,r.2.1,r.2.2,d,p.1.trans y.2.2,p.2.2.1⟩;refine aR (wpAny_nsGet (tW (y.2.1.kk.keeps d)) ?_);rw [show(d2 w.params).nsMap jh dD.row.name=G (J 943)from yH w]
 exact aR (cf (Gw C y.2.1 l o F d r.1) (λv k h=>bY ⟨_,E,h.1,h.2.1,h.2.2,λq=>nomatch q⟩) λ_ _ x=>x.elim)
noncomputable def er:ab->ab
 |aa i _=>aa i 0
 | .float b _=> .float b 0
 |aE s _=>aE s 0
 |aq b _=>aq b 0
 |v=>v
theorem k9(v:ab):(er v).ctorIdx=v.ctorIdx:=by cases v<;>rfl
theorem nv{v u:ab}(h:er v=u):v.ctorIdx=u.ctorIdx:=h▸(k9 v).symm
theorem gS{v:ab}{i:U}{t:bv}(h:er v=aa i t):∃u,v=aa i u:=s6 (motive:=λv=>er v=aa i t->∃u,v=aa i u) v (nv h) (λj u e=>⟨u,aA (aa · u) (aa.inj e).1⟩) h
theorem yI{v:ab}{i:a6}{t:bv}(h:er v=aE i t):∃u,v=aE i u:=qE (motive:=λv=>er v=aE i t->∃u,v=aE i u) v (nv h) (λj u e=>⟨u,aA (aE · u) (aE.inj e).1⟩) h
theorem ny{v:ab}{i:a9 aP}{t:bv}(h:er v=aq i t):∃u,v=aq i u:=s7 (motive:=λv=>er v=aq i t->∃u,v=aq i u) v (nv h) (λj u e=>⟨u,aA (aq · u) (aq.inj e).1⟩) h
theorem nz{v:ab}{i:U}(h:er v=aa i 0):∃t,v=aa i t:=gS h
theorem Gy{v:ab}{x:a6}(h:er v=aE x 0):∃t,v=aE x t:=yI h
theorem Gz{v:ab}{x:a9 aP}(h:er v=aq x 0):∃t,v=aq x t:=ny h
theorem dr{v:ab}{a:ae}(h:er v=J a):v=J a:=s8 (motive:=λv=>er v=J a->v=J a) v (nv h) (λ_ e=>e) h
theorem yJ{v:ab}(h:er v=ah):v=ah:=ah.elim (motive:=λv=>v=ah) v (nv h) E
theorem nA{v:ab}{b:aK}(h:er v=az b):v=az b:=s9 (motive:=λv=>er v=az b->v=az b) v (nv h) (λ_ e=>e) h
noncomputable def pI(v:ab):aj U:=ix λh=>s6 (motive:=λ_=>U) v h λi _=>i
noncomputable def pY(v:ab):aj (a9 aP):=ix λh=>s7 (motive:=λ_=>a9 aP) v h λi _=>i
noncomputable def pR(v:ab):aj ae:=ix λh=>s8 (motive:=λ_=>ae) v h λi=>i
noncomputable def pB(v:ab):aj aK:=ix λh=>s9 (motive:=λ_=>aK) v h λi=>i
noncomputable def pN(v:ab):aj hK:=ix λ(_:v.ctorIdx=0)=>()
theorem k_{v:ab}{i:U}(h:pI (er v)=G i):∃t,v=aa i t:=j1 h λe=>s6 (motive:=λv=>∀e,s6 (motive:=λ_=>U) (er v) e (λi _=>i)=i->∃t,v=aa i t) v (k9 v▸e) (λj t _ q=>⟨t,aA (aa · t) q⟩) e
theorem GA{v:ab}{i:a6}(h:pS (er v)=G i):∃t,v=aE i t:=j1 h λe=>qE (motive:=λv=>∀e,qE (motive:=λ_=>a6) (er v) e (λi _=>i)=i->∃t,v=aE i t) v (k9 v▸e) (λj t _ q=>⟨t,aA (aE · t) q⟩) e
theorem mu{v:ab}{i:a9 aP}(h:pY (er v)=G i):∃t,v=aq i t:=j1 h λe=>s7 (motive:=λv=>∀e,s7 (motive:=λ_=>a9 aP) (er v) e (λi _=>i)=i->∃t,v=aq i t) v (k9 v▸e) (λj t _ q=>⟨t,aA (aq · t) q⟩) e
theorem hk{v:ab}{a:ae}(h:pR (er v)=G a):v=J a:=j1 h λe=>s8 (motive:=λv=>∀e,s8 (motive:=λ_=>ae) (er v) e (λi=>i)=a->v=J a) v (k9 v▸e) (λ_ _ q=>aA J q) e
theorem yK{v:ab}{b:aK}(h:pB (er v)=G b):v=az b:=j1 h λe=>s9 (motive:=λv=>∀e,s9 (motive:=λ_=>aK) (er v) e (λi=>i)=b->v=az b) v (k9 v▸e) (λ_ _ q=>aA az q) e
theorem lb{v:ab}{x:hK}(h:pN (er v)=G x):v=ah:=j1 h λe _=>ah.elim (motive:=λv=>v=ah) v (k9 v▸e) E
noncomputable def eZ{α b:Type}(o:aj α)(f:α->b)(g:b):b:=match o with|some a=>f a|none=>g
theorem fj{α b:Type}{o:aj α}{f:α->aj b}{g:aj b}{r:b}{c:Prop}(h:eZ o f g=G r)(e:∀a,o=G a->f a=G r->c)(d:g=G r->c):c:=by
 cases o with
 |none=>exact d h
 |some a=>exact e a E h
theorem lc{α a:Type}{f:aj α->aj a}{o:aj α}{r:a}{b:Prop}(h:f o=G r)(n:f af=af)(k:∀x,o=G x->f (G x)=G r->b):b:=by
 cases o with
 |none=>rw [n]at h;cases h
 |some x=>exact k x E h
theorem gd{α:Type}{p:Prop} [Decidable p]{b:aj α}{x:α}{a:Prop}(h:(if p then b else af)=G x)(g:p->b=G x->a):a:=by
 by_cases e:p
 ·rw [aJ e]at h;exact g e h
 ·rw [aG e]at h;cases h
theorem qX{a:Type}{v:ab}{f:U->aj a}{x:a}{b:Prop}(h:(pI (er v)).bind f=G x)(g:∀i t,v=aa i t->f i=G x->b):b:=dS h λi e q=>(k_ e).elim λt e=>g i t e q
theorem nB{a:Type}{v:ab}{f:a9 aP->aj a}{x:a}{b:Prop}(h:(pY (er v)).bind f=G x)(g:∀i t,v=aq i t->f i=G x->b):b:=dS h λi e q=>(mu e).elim λt e=>g i t e q
theorem qY{a:Type}{v:ab}{f:a6->aj a}{x:a}{b:Prop}(h:(pS (er v)).bind f=G x)(g:∀i t,v=aE i t->f i=G x->b):b:=dS h λi e q=>(GA e).elim λt e=>g i t e q
theorem GB{b:Type}{v:ab}{f:ae->aj b}{x:b}{c:Prop}(h:(pR (er v)).bind f=G x)(g:∀a,v=J a->f a=G x->c):c:=dS h λa e q=>g a (hk e) q
theorem tY{b:Type}{v:ab}{f:aK->aj b}{x:b}{c:Prop}(h:(pB (er v)).bind f=G x)(g:∀a,v=az a->f a=G x->c):c:=dS h λa e q=>g a (yK e) q
theorem o7{b:Type}{v:ab}{f:hK->aj b}{x:b}{c:Prop}(h:(pN (er v)).bind f=G x)(g:v=ah->f ()=G x->c):c:=dS h λa e q=>g (lb e) q
noncomputable def dJ:ab->aK
 |bS _=>false
 |_=>true
theorem yL{v:ab}:dJ (er v)=dJ v:=by cases v<;>rfl
inductive MO where
 |list (vs:L ab)
 |rol (vs:L ab)
 |tup (vs:L ab)
 |di (a:L (U×ab))
 |ds (a:L (am×ab))
 |db (l:L fd)
 |inst (C:ae) (b:L (am×ab))
 |rng (n:U)
open MO renaming list->ak,di->aO,tup->bm,inst->bZ,rol->eg,ds->eF
noncomputable def MO.rw:MO->aK
 |ak _|aO _|eF _|bZ _ _=>true
 |_=>false
noncomputable abbrev Hp:=ae->aj MO
noncomputable def Hp.set(H:Hp)(a:ae)(o:MO):Hp:=λb=>if b=a then G o else H b
theorem aF(H:Hp)(a:ae)(o:MO):H.set a o a=G o:=aJ E
theorem dT(H:Hp){a b:ae}(o:MO)(h:b≠a):H.set a o b=H b:=aG h
noncomputable abbrev Pr:=ae->aj aC
noncomputable def Pr.set(P:Pr)(a:ae)(o:aC):Pr:=λb=>if b=a then G o else P b
theorem b8(P:Pr)(a:ae)(o:aC):P.set a o a=G o:=aJ E
theorem bg(P:Pr){a b:ae}(o:aC)(h:b≠a):P.set a o b=P b:=aG h
@[elab_as_elim] theorem lg{H:Hp}{d a:ae}{mo m:MO}{M:ae->MO->Prop}(e:H.set d mo a=G m)(f:M d mo)(g:a≠d->H a=G m->M a m):M a m:=by
 by_cases h:a=d
 ·subst h;rw [aF]at e;cases e;exact f
 ·exact g h ((dT _ _ h).symm.trans e)
@[elab_as_elim] theorem gr{P:Pr}{d a:ae}{o q:aC}{M:ae->aC->Prop}(e:P.set d o a=G q)(f:M d o)(g:a≠d->P a=G q->M a q):M a q:=by
 by_cases h:a=d
 ·subst h;rw [b8]at e;cases e;exact f
 ·exact g h ((bg _ _ h).symm.trans e)
theorem c_{α:Type}{o:aj α}{x:α}{a:Prop}(h:o=G x)(k:o=af):a:=by rw [k]at h;cases h
theorem nn{α:Type}{f:ae->aj α}{a b:ae}{x:α}(h:f a=G x)(k:f b=af):a≠b:=λe=>c_ h (e▸k)
inductive fW:L iA->L (am×ab)->Prop
 |nil:fW [] []
 |cons {e:iA} {x:am} {v:ab} {t:bv} {b a}:e.key=aE (I x) t->er e.val=v->dJ e.val=true->fW b a->fW (e::b) ((x,v)::a)
noncomputable abbrev bL:ag:=1000000
noncomputable def hT(w:bh)(h:bI)(i:ae->aj ae)(a:ae):MO->Prop
 |ak c=>c.length<=bL/\∃b:L ab,h.PlainList a b.toArray/\b.map er=c
 |eg c=>c.length<=bL/\∃b:L ab,h.IsList a b.toArray/\b.map er=c
 |bm c=>c.length<=bL/\∃b:L ab,IsTup h a b.toArray/\b.map er=c
 |aO e=>e.length<=bL/\∃d:L (U×ab),h.DictOf (hf au w) a d/\d.map (λp=>(p.1,er p.2))=e
 |eF e=>e.length<=bL/\∃d:L (a6×ab),h.DictOf (w9 au w) a d/\d.map (λp=>(p.1,er p.2))=e.map (λp=>(I p.1,p.2))
 | .db l=>h.get? a=G (fi au w l)
 | .rng n=>∃t u v,IsRange h a 0 n 1 t u v
 |bZ C j=>∃f g n,i f=G a/\h.get? a=G (instObj C f)/\h.get? f=G (mb g n)/\fW g j
theorem hT.keeps{w:bh}{h h':bI}{g f:ae->aj ae}{a:ae}{mo:MO}(x:hT w h g a mo)(b:∀o,h.get? a=G o->h'.get? a=G o)
  (i:∀d,g d=G a->f d=G a/\∀o,h.get? d=G o->h'.get? d=G o):hT w h' f a mo:=by
 cases mo with
 |list e=>exact jk (c3 λc=>mc (c3 λn=>b _)) x
 |rol e=>exact jk (c3 λc=>mc (c3 λo=>mc (b o))) x
 |tup e=>exact jk (c3 λc=>mc (c3 λo=>mc (b o))) x
 |di m=>exact jk (c3 λc=>mc (c3 λo=>c3 λj=>c3 λp=>mc (b o))) x
 |ds m=>exact jk (c3 λc=>mc (c3 λo=>c3 λj=>c3 λp=>mc (b o))) x
 |db l=>exact b _ x
 |rng n=>exact c3 (λt=>c3 λu=>c3 λv=>b _) x
 |inst C r=>exact c3 (λk=>c3 λj=>c3 λn q=>⟨(i k q.1).1,b _ q.2.1,(i k q.1).2 _ q.2.2.1,q.2.2.2⟩) x
theorem hT.alive{w:bh}{h:bI}{f:ae->aj ae}{a:ae}{mo:MO}(x:hT w h f a mo):∃o,h.get? a=G o:=by
 cases e:h.get? a with
 |some o=>exact⟨o,E⟩
 |none=>
  have b:∀{o:aC},h.get? a=G o->d8:=λq=>by rw [e]at q;cases q
  cases mo with
  |list d=>exact(x.2.elim λc q=>q.1.elim λn=>b).elim
  |rol d=>exact(x.2.elim λc q=>q.1.elim λo q=>b q.1).elim
  |tup d=>exact(x.2.elim λc q=>q.1.elim λo q=>b q.1).elim
  |di g=>exact(x.2.elim λc q=>q.1.elim λo q=>q.elim λ_ q=>q.elim λ_ q=>b q.1).elim
  |ds g=>exact(x.2.elim λc q=>q.1.elim λo q=>q.elim λ_ q=>q.elim λ_ q=>b q.1).elim
  |db l=>exact(b x).elim
  |rng n=>exact(x.elim λ_ q=>q.elim λ_ q=>q.elim λ_=>b).elim
  |inst C i=>exact(x.elim λ_ q=>q.elim λ_ q=>q.elim λ_ q=>b q.2.1).elim
noncomputable def dL(o:aC):Prop:=∃a n,o.data=e5 a n
noncomputable def hn(o:aC)(x:aj aC):Prop:=∃a,x=G a/\(a=o\/(dL o/\∃b,a={o with slots:=b}))
theorem hn.refl{o:aC}{x:aj aC}(h:x=G o):hn o x:=⟨o,h,bt E⟩
theorem hn.keep{o:aC}{x y:aj aC}(s:hn o x)(h:∀o',x=G o'->y=G o'):hn o y:=let ⟨o',e,k⟩:=s;⟨o',h _ e,k⟩
theorem hn.hard{o:aC}{x:aj aC}(s:hn o x)(h:¬dL o):x=G o:=by
 obtain ⟨a,e,rfl|⟨k,_⟩⟩:=s
 ·exact e
 ·exact bW k h
theorem hn.alive{o:aC}{x:aj aC}(s:hn o x):∃o',x=G o':=let ⟨o',e,_⟩:=s;⟨o',e⟩
theorem hn.none{o:aC}{x:aj aC}(s:hn o x)(h:x=af):d8:=by obtain ⟨a,e⟩:=s.alive;rw [h]at e;cases e
structure HR(w:bh)(h₀:bI)(H:Hp)(P:Pr)(c:ae->aj ae)(h:bI):Prop where
 stat:∀b o,h₀.get? b=G o->h.get? b=G o
 prot:∀b o,P b=G o->hn o (h.get? b)
 real:∀a mo,H a=G mo->hT w h c a mo
 apart:∀a mo,H a=G mo->c a=af/\P a=af/\(mo.rw=true->h₀.get? a=af)
 owned:∀d a,c d=G a->P d=af/\h₀.get? d=af/\∃o,h.get? d=G o
section
variable{w:bh}{h₀ h h':bI}{H:Hp}{P:Pr}{c9:ae->aj ae}
theorem HR.weaken{c:Hp}(x:HR w h₀ H P c9 h)(b:∀a mo,c a=G mo->H a=G mo):HR w h₀ c P c9 h:=⟨x.stat,x.prot,λa mo e=>x.real a mo (b a mo e),λa mo e=>x.apart a mo (b a mo e),x.owned⟩
theorem HR.keeps(x:HR w h₀ H P c9 h)(c:∀b o,h.get? b=G o->h'.get? b=G o):HR w h₀ H P c9 h':=⟨λb o e=>c _ _ (x.stat b o e),λb o e=>(x.prot b o e).keep λf=>c _ f,λa g e=>(x.real a g e).keeps (c a) λd i=>⟨i,c d⟩,x.apart,λd a e=>let ⟨p,q,o,r⟩:=x.owned d a e;⟨p,q,o,c _ _ r⟩⟩
theorem HR.notP{d:ae}{mo:MO}(x:HR w h₀ H P c9 h)(a:H d=G mo):P d=af:=(x.apart d mo a).2.1
theorem HR.keepsBut{d:ae}(x:HR w h₀ H P c9 h)(f:∀b o,b≠d->h.get? b=G o->h'.get? b=G o)(n:h₀.get? d=af)(g:c9 d=af):(∀b o,h₀.get? b=G o->h'.get? b=G o)/\(∀b o,b≠d->P b=G o->hn o (h'.get? b))/\(∀a mo,a≠d->H a=G mo->hT w h' c9 a mo)/\∀c a,c9 c=G a->P c=af/\h₀.get? c=af/\∃o,h'.get? c=G o:=
 ⟨λb o e=>f b o (nn e n) (x.stat b o e),λb o k e=>(x.prot b o e).keep λj=>f b j k,λa m l e=>(x.real a m e).keeps (λo=>f a o l) λc i=>⟨i,λo=>f c o (nn i g)⟩,
  λc a e=>⟨(x.owned c a e).1,(x.owned c a e).2.1,(x.owned c a e).2.2.imp λo=>f _ o (nn e g)⟩⟩
theorem HR.setAt{d:ae}{mo mo':MO}(x:HR w h₀ H P c9 h)(i:H d=G mo)(c:mo.rw=true)(g:∀b o,b≠d->h.get? b=G o->h'.get? b=G o)
  (f:hT w h' c9 d mo'):HR w h₀ (H.set d mo') P c9 h':=
 have A:=x.apart d mo i;have K:=x.keepsBut g (A.2.2 c) A.1
 ⟨K.1,λb o e=>K.2.1 b o (nn e A.2.1) e,λa m e=>lg e f λj e=>K.2.2.1 a m j e,λa m e=>lg e ⟨A.1,A.2.1,λ_=>A.2.2 c⟩ λ_ e=>x.apart a m e,K.2.2.2⟩
theorem HR.fresh{d:ae}(x:HR w h₀ H P c9 h)(b:h.get? d=af):H d=af/\P d=af/\h₀.get? d=af/\c9 d=af:=⟨gH λc e=>(x.real d c e).alive.elim λ_ q=>c_ q b,gH λo e=>(x.prot d o e).none b,gH λo e=>c_ (x.stat d o e) b,gH λa e=>(x.owned d a e).2.2.elim λ_ q=>c_ q b⟩
theorem HR.tell{d:ae}{mo:MO}(x:HR w h₀ H P c9 h)(g:P d=af)(f:h₀.get? d=af)(c:c9 d=af)(b:hT w h c9 d mo):HR w h₀ (H.set d mo) P c9 h:=⟨x.stat,x.prot,λa m e=>lg e b λ_ e=>x.real a m e,λa m e=>lg e ⟨c,g,λ_=>f⟩ λ_ e=>x.apart a m e,x.owned⟩
theorem HR.alloc{d:ae}{mo:MO}(x:HR w h₀ H P c9 h)(e:h.get? d=af)(c:∀b o,h.get? b=G o->h'.get? b=G o)(a:hT w h' c9 d mo):HR w h₀ (H.set d mo) P c9 h':=
 have F:=x.fresh e
 (x.keeps c).tell F.2.1 F.2.2.1 F.2.2.2 a
theorem HR.allocInst{a dx C:ae}{es:L iA}{n:ag}{fs:L (am×ab)}(x:HR w h₀ H P c9 h)(s:h.get? a=af)(r:h.get? dx=af)
  (l:∀b o,h.get? b=G o->h'.get? b=G o) (i:h'.get? a=G (instObj C dx)) (g:h'.get? dx=G (mb es n)) (p:fW es fs):
  HR w h₀ (H.set a (bZ C fs)) P (λd=>if d=dx then G a else c9 d) h':=
 have j:=x.fresh s;have f:=x.fresh r;have K:=x.keeps l;have k:a≠dx:=λz=>by rw [z,g]at i;cases i
 ⟨K.stat,K.prot,λb m e=>lg e ⟨dx,es,n,aJ E,i,g,p⟩ λ_ e=>(K.real b m e).keeps (λ_ q=>q) λd c=>⟨(aG (nn c f.2.2.2)).trans c,λ_ q=>q⟩,
  λb m e=>lg e ⟨(aG k).trans j.2.2.2,j.2.1,λ_=>j.2.2.1⟩ λ_ e=>⟨(aG (nn e f.1)).trans (K.apart b m e).1,(K.apart b m e).2⟩,
  λd b e=>by
   by_cases c:d=dx
   ·subst c;exact⟨f.2.1,f.2.2.1,_,g⟩
   ·rw [aG c]at e;exact K.owned d b e⟩
theorem HR.setInst{a dx C:ae}{j:L iA}{n':ag}{fs n:L (am×ab)}(x:HR w h₀ H P c9 h)(i:H a=G (bZ C fs))(g:c9 dx=G a)(r:h.get? a=G (instObj C dx))
  (c:∀b o,b≠dx->h.get? b=G o->h'.get? b=G o) (l:h'.get? dx=G (mb j n')) (s:fW j n):HR w h₀ (H.set a (bZ C n)) P c9 h':=
 have p:=x.owned dx a g;have k:∀b m,H b=G m->b≠dx:=λb m e z=>c_ g (z▸(x.apart b m e).1)
 ⟨λb o e=>c b o (nn e p.2.1) (x.stat b o e),λb o e=>(x.prot b o e).keep λq=>c b q (nn e p.1),
  λb m e=>lg e ⟨dx,j,n',g,c _ _ (k a _ i) r,l,s⟩ λt e=>(x.real b m e).keeps (λo=>c b o (k b m e)) λd f=>⟨f,λo=>c d o λz=>t (bc ((z▸f).symm.trans g))⟩,
  λb m e=>lg e ⟨(x.apart a _ i).1,(x.apart a _ i).2.1,λ_=>(x.apart a _ i).2.2 E⟩ λ_ e=>x.apart b m e,
  λd b e=>⟨(x.owned d b e).1,(x.owned d b e).2.1,by
   by_cases f:d=dx
   ·exact f▸⟨_,l⟩
   ·exact(x.owned d b e).2.2.imp λo=>c d o f⟩⟩
theorem HR.allocP{d:ae}{o:aC}(x:HR w h₀ H P c9 h)(j:h.get? d=af)(i:∀b o,h.get? b=G o->h'.get? b=G o)(k:h'.get? d=G o):HR w h₀ H (P.set d o) c9 h':=
 have f:=x.fresh j;have K:=x.keeps i
 ⟨K.stat,λb g e=>gr e (.refl k) λ_ e=>K.prot b g e,K.real,λa m e=>⟨(K.apart a m e).1,(bg _ _ (nn e f.1)).trans (K.apart a m e).2.1,(K.apart a m e).2.2⟩,
  λc a e=>⟨(bg _ _ (nn e f.2.2.2)).trans (K.owned c a e).1,(K.owned c a e).2⟩⟩
theorem HR.setP{d:ae}{o o':aC}(x:HR w h₀ H P c9 h)(g:P d=G o)(p:h₀.get? d=af)(k:∀b c,b≠d->h.get? b=G c->h'.get? b=G c)(l:h'.get? d=G o'):HR w h₀ H (P.set d o') c9 h':=
 have f:c9 d=af:=gH λa e=>c_ g (x.owned d a e).1;have i:H d=af:=gH λm e=>c_ g (x.notP e);have K:=x.keepsBut k p f
 ⟨K.1,λb c e=>gr e (.refl l) λn e=>K.2.1 b c n e,λa m e=>K.2.2.1 a m (nn e i) e,λa m e=>⟨(x.apart a m e).1,(bg _ _ (nn e i)).trans (x.notP e),(x.apart a m e).2.2⟩,
  λj a e=>⟨(bg _ _ (nn e f)).trans (x.owned j a e).1,(K.2.2.2 j a e).2⟩⟩
theorem HR.lessP{P':Pr}(x:HR w h₀ H P c9 h)(c:∀b o,P' b=G o->P b=G o):HR w h₀ H P' c9 h:=
 have K:∀a,P a=af->P' a=af:=λa q=>gH λo z=>c_ (c a o z) q
 ⟨x.stat,λb o e=>x.prot b o (c b o e),x.real,λa m e=>⟨(x.apart a m e).1,K a (x.notP e),(x.apart a m e).2.2⟩,λd a e=>⟨K d (x.owned d a e).1,(x.owned d a e).2⟩⟩
theorem HR.anew{a:ae}{o o':aC}(x:HR w h₀ H (P.set a o) c9 h)(i:h₀.get? a=af)(f:∀b c,b≠a->h.get? b=G c->h'.get? b=G c)(g:h'.get? a=G o'):HR w h₀ H (P.set a o') c9 h':=(x.setP (b8 _ _ _) i f g).lessP λb c e=>gr (M:=λb c=>(P.set a o).set a o' b=G c) e (b8 _ _ _) λd e=>(bg _ _ d).trans ((bg _ _ d).trans e)
end
structure Cx where
 w:bh
 h₀:bI
 os:OsState
 kk:(KK w).In h₀
 codes:tV h₀
noncomputable def hU(o:aC)(m:a6->aj ab):Prop:=∃a c,o.data=e5 a c/\StrKeys a/\∀b,nsFind a b=m b
theorem hU.ns{h:bI}{a:ae}{o:aC}{m:a6->aj ab}(e:h.get? a=G o)(x:hU o m):h.Ns a m:=let ⟨b,c,r⟩:=x;⟨o,b,c,e,r⟩
theorem j5{h:bI}{a:ae}{m:a6->aj ab}(x:h.Ns a m):∃o,h.get? a=G o/\hU o m:=let ⟨o,b,c,e,r⟩:=x;⟨o,e,b,c,r⟩
theorem hU.dict{o:aC}{m:a6->aj ab}(x:hU o m):dL o:=let ⟨a,b,e,_⟩:=x;⟨a,b,e⟩
theorem hU.soft{o:aC}{y:aj aC}{m:a6->aj ab}(x:hU o m)(s:hn o y):∃o',y=G o'/\hU o' m:=by
 obtain ⟨o',e,rfl|⟨_,a,rfl⟩⟩:=s
 ·exact⟨_,e,x⟩
 ·exact⟨_,e,x⟩
noncomputable def eJ(h₀:bI)(l:aj (L a8))(P:Pr):Prop:=∃a,l=G a/\∀b∈a,b.scope.kind≠ .module/\∃f o,b.frame=G f/\P f=G o/\dL o/\h₀.get? f=af
theorem eJ.map0{h₀:bI}{l:aj (L a8)}{P P':Pr}(x:eJ h₀ l P)(h:∀f o,(∃a,l=G a/\∃env∈a,env.frame=G f)->P f=G o->dL o->h₀.get? f=af->∃o',P' f=G o'/\dL o'):eJ h₀ l P':=c3 (λa q=>⟨q.1,λenv b=>⟨(q.2 env b).1,c3 (λf r=>r.elim λo r=>(h f o ⟨a,q.1,env,b,r.1⟩ r.2.1 r.2.2.1 r.2.2.2).imp λo' z=>⟨r.1,z.1,z.2,r.2.2.2⟩) (q.2 env b).2⟩⟩) x
theorem eJ.map{h₀:bI}{l:aj (L a8)}{P P':Pr}(x:eJ h₀ l P)(h:∀f o,P f=G o->dL o->h₀.get? f=af->∃o',P' f=G o'/\dL o'):eJ h₀ l P':=x.map0 λf o _=>h f o
theorem eJ.more{h₀:bI}{l:aj (L a8)}{P P':Pr}(x:eJ h₀ l P)(h:∀b o,P b=G o->P' b=G o):eJ h₀ l P':=x.map λf o a b _=>⟨o,h f o a,b⟩
noncomputable def j6(l:aj (L a8))(d:ae):Prop:=∀a,l=G a->∀b∈a,b.frame≠G d
theorem eJ.but{h₀:bI}{l:aj (L a8)}{P P':Pr}{d:ae}(x:eJ h₀ l P)(n:j6 l d)(h:∀b o,b≠d->P b=G o->P' b=G o):eJ h₀ l P':=x.map0 λf o q a b _=>⟨o,h f o (λz=>q.elim λc q=>q.2.elim λe r=>n c q.1 e r.1 (z▸r.2)) a,b⟩
theorem eJ.not{h₀:bI}{l:aj (L a8)}{P:Pr}{d:ae}(x:eJ h₀ l P)(h:∀o,P d=G o->¬dL o):j6 l d:=λi e c b a=>x.elim λg q=>by cases e.symm.trans q.1;exact(q.2 c b).2.elim λf r=>r.elim λo r=>h o (bc (a.symm.trans r.1)▸r.2.1) r.2.2.1
theorem eJ.own{h₀:bI}{l:aj (L a8)}{P:Pr}{c:ae}{o o':aC}(x:eJ h₀ l (P.set c o))(h:dL o'):eJ h₀ l (P.set c o'):=x.map λf q a b _=>gr (M:=λf q=>dL q->∃o',P.set c _ f=G o'/\dL o') a (λ_=>⟨o',b8 _ _ _,h⟩) (λd e b=>⟨q,(bg _ _ d).trans e,b⟩) b
structure HS(c:Cx)(l:aj (L a8))(P:Pr)(H:Hp)(s:ay):Prop where
 gens:s.gens=#[]
 os:s.os=c.os
 frs:eJ c.h₀ l P
 hr:∃a,HR c.w c.h₀ H P a s.heap
structure FS(c:Cx)(l:aj (L a8))(a:ae)(m:a6->aj ab)(P:Pr)(H:Hp)(s:ay):Prop where
 pl:P a=af
 hl:c.h₀.get? a=af
 st:∃o,hU o m/\HS c l (P.set a o) H s
structure cc(env:a8)(a:ae):Prop where
 kind:env.scope.kind=md
 glob:env.globals=jh
 blt:env.builtins=l_
 loc:env.locals=a
 inj:(env.cells.map (·.2)).Nodup
 cel:∀x,env.kindOf x=G ft->(env.cells.lookup x).isSome=true
noncomputable def fk(x:am):aK:=!(I x==("__debug__":a6))&&!(I x==("__classdict__":a6))
inductive ej(env:a8)(P:Pr)(m:a6->aj ab)(x:am)(v:ab):Prop
 |loc:env.kindOf (I x)=G .local->m (I x)=G v->ej env P m x v
 |cell {a o}:env.kindOf (I x)=G ft\/env.kindOf (I x)=G eU->env.cells.lookup (I x)=G a->P a=G o->o.data=dZ (G v)->ej env P m x v
open ej renaming cell->me
noncomputable abbrev ao:=L (am×ab)
noncomputable def cs(env:a8)(P:Pr)(m:a6->aj ab)(ρ:ao):Prop:=∀x v,ρ.lookup x=G v->fk x=true/\∃a,er a=v/\ej env P m x a
noncomputable def No:ab->ay->Prop:=λ_ _=>d8
theorem eK{α:Type}{M:gB}{A:bj}{t:ef α}{Q:α->ay->Prop}{a:ab->ay->Prop}{s:ay}(h:aX M A t Q No s):aX M A t Q a s:=cf h (λ_ _ x=>x) λ_ _ x=>x.elim
structure bu(A:bj)(D:ag):Prop where
 depth:A.depth+D<=1000
 units:A.units+4*D+40<=cLine
 handled:A.handled=af
theorem bu.le{A:bj}{D a:ag}(r:bu A D)(h:a<=D):bu A a:=⟨ar (gn h _) r.depth,ar (go (gn (mf 4 h) _) 40) r.units,r.handled⟩
theorem bu.deeper{A:bj}{D:ag}{env:a8}(r:bu A (D+1)):bu (A.deeper env) D:=⟨ar (cR (s_ A.depth D)) r.depth,ar (go (ar (cR (ta A.units 3 (4*D))) (dY _)) 40) r.units,r.handled⟩
noncomputable def EV(c:Cx)(A:bj)(env:a8)(a:ae)(P:Pr)(ρ:ao)(H:Hp)(e:an)(Q:ab->Hp->Prop):Prop:=∀s m,FS c A.frames a m P H s->cs env P m ρ->aX (aV au c.w) A (hg e env) (λv d=>∃b,FS c A.frames a m P b d/\Q (er v) b) No s
noncomputable def TV(c:Cx)(A:bj)(env:a8)(a:ae)(P:Pr)(ρ:ao)(H:Hp)(e:an)(Q:aK->Hp->Prop):Prop:=∀s m,FS c A.frames a m P H s->cs env P m ρ->aX (aV au c.w) A (isTrue e env (hg e env)) (λb f=>∃d,FS c A.frames a m P d f/\Q b d) No s
noncomputable def fX(c:Cx)(D:ag)(f:ab)(vs:L ab)(H:Hp)(Q:ab->Hp->Prop):Prop:=
 ∀A P s (a:L ab),bu A D->HS c A.frames P H s->a.map er=vs->
  jl (aV au c.w) A (.call f ⟨a,[]⟩) (λr d=>match r with|dW (ck v)=>∃b,HS c A.frames P b d/\Q (er v) b|_=>d8) s
section
variable{c:Cx}{A:bj}{env:a8}{V:ae}{P:Pr}{ρ:ao}{H:Hp}{D:ag}
theorem fX.mono{f:ab}{vs:L ab}{Q g:ab->Hp->Prop}(h:fX c D f vs H Q)(k:∀v d,Q v d->g v d):fX c D f vs H g:=λA P s i r x e=>jm (h A P s i r x e) λr j y=>by
 rcases r with _|(v|_|_|_)<;>first|exact y.elim|skip
 obtain ⟨d,a,b⟩:=y;exact⟨d,a,k _ _ b⟩
theorem EV.mono{e:an}{Q f:ab->Hp->Prop}(h:EV c A env V P ρ H e Q)(k:∀v d,Q v d->f v d):EV c A env V P ρ H e f:=λs m x r=>cf (h s m x r) (λ_ _ ⟨d,a,b⟩=>⟨d,a,k _ _ b⟩) λ_ _ x=>x
theorem FS.el{l:aj (L a8)}{m s}{b:Prop}(x:FS c l V m P H s)(k:∀o a,hU o m->eJ c.h₀ l (P.set V o)->HR c.w c.h₀ H (P.set V o) a s.heap->b):b:=x.st.elim λo q=>q.2.hr.elim λa z=>k o a q.1 q.2.frs z
theorem FS.map{l:aj (L a8)}{m s s'}{b:Hp}(x:FS c l V m P H s)(e:s'.gens=s.gens)(d:s'.os=s.os)(k:∀o a,hU o m->HR c.w c.h₀ H (P.set V o) a s.heap->HR c.w c.h₀ b (P.set V o) a s'.heap):FS c l V m P b s':=⟨x.pl,x.hl,x.st.imp λo q=>⟨q.1,e.trans q.2.gens,d.trans q.2.os,q.2.frs,q.2.hr.imp λa z=>k o a q.1 z⟩⟩
theorem FS.stat{m s}(x:FS c A.frames V m P H s):∀b o,c.h₀.get? b=G o->s.heap.get? b=G o:=x.el λ_ _ _ _ z=>z.stat
theorem FS.kk{m s}(x:FS c A.frames V m P H s):(KK c.w).In s.heap:=λa o e=>x.stat _ _ (c.kk a o e)
theorem FS.ns{m s}(x:FS c A.frames V m P H s):s.heap.Ns V m:=x.el λ_ _ n _ z=>(n.soft (z.prot _ _ (b8 _ _ _))).elim λ_ q=>q.2.ns q.1
theorem FS.out{m s}(x:FS c A.frames V m P H s){b:ae}{o:aC}(e:P b=G o)(q:aC):P.set V q b=G o:=(bg _ _ (nn e x.pl)).trans e
theorem FS.protS{m s}(x:FS c A.frames V m P H s){b:ae}{o:aC}(e:P b=G o):hn o (s.heap.get? b):=x.el λa _ _ _ z=>z.prot b o (x.out e a)
theorem FS.prot{m s}(x:FS c A.frames V m P H s){b:ae}{o:aC}(e:P b=G o)(a:¬dL o):s.heap.get? b=G o:=(x.protS e).hard a
theorem FS.fr{m s}(x:FS c A.frames V m P H s):∃o,eJ c.h₀ A.frames (P.set V o):=x.el λo _ _ f _=>⟨o,f⟩
theorem o8(P:Pr){a b:ae}(o q:aC)(h:a≠b):(P.set a o).set b q=(P.set b q).set a o:=by
 funext x
 by_cases c:x=b
 ·subst c;rw [b8,bg _ _ (Ne.symm h),b8]
 ·by_cases d:x=a
  ·subst d;rw [bg _ _ c,b8,b8]
  ·rw [bg _ _ c,bg _ _ d,bg _ _ d,bg _ _ c]
theorem FS.notFr{m s}(x:FS c A.frames V m P H s){d:ae}{o:aC}(e:P d=G o)(b:¬dL o):j6 A.frames d:=x.el λa _ _ f _=>f.not λh g=>bc ((x.out e a).symm.trans g)▸b
theorem ek{o:aC}{v:a9 ab}(h:o.data=cx v):¬dL o:=λ⟨_,_,e⟩=>by rw [h]at e;cases e
theorem nC{o:aC}{v:aj ab}(h:o.data=dZ v):¬dL o:=λ⟨_,_,e⟩=>by rw [h]at e;cases e
theorem FS.toks{m s}(x:FS c A.frames V m P H s)(t:ag):FS c A.frames V m P H {s with toks:=t}:=x.map E E λ_ _ _ z=>z
theorem FS.grow{m s s'}(x:FS c A.frames V m P H s)(d:∀b o,s.heap.get? b=G o->s'.heap.get? b=G o)(e:s'.gens=s.gens)(a:s'.os=s.os):FS c A.frames V m P H s':=x.map e a λ_ _ _ z=>z.keeps d
theorem FS.weaken{m s b}(x:FS c A.frames V m P H s)(d:∀a mo,b a=G mo->H a=G mo):FS c A.frames V m P b s:=x.map E E λ_ _ _ z=>z.weaken d
theorem FS.real{m s}(x:FS c A.frames V m P H s){a:ae}{mo:MO}(e:H a=G mo):∃b,hT c.w s.heap b a mo:=x.el λ_ b _ _ z=>⟨b,z.real a mo e⟩
theorem FS.alloc{m s s'}{d:ae}{mo:MO}(x:FS c A.frames V m P H s)(e:s.heap.get? d=af)(h:∀b o,s.heap.get? b=G o->s'.heap.get? b=G o)(i:s'.gens=s.gens)(g:s'.os=s.os)
  (f:∀a,hT c.w s'.heap a d mo):H d=af/\FS c A.frames V m P (H.set d mo) s':=
 ⟨x.el λ_ _ _ _ z=>(z.fresh e).1,x.map i g λ_ a _ z=>z.alloc e h (f a)⟩
theorem FS.setAt{m s s'}{d:ae}{mo mo':MO}(x:FS c A.frames V m P H s)(j:H d=G mo)(e:mo.rw=true)(h:∀b o,b≠d->s.heap.get? b=G o->s'.heap.get? b=G o)(i:s'.gens=s.gens)(g:s'.os=s.os)
  (f:∀a,hT c.w s'.heap a d mo'):FS c A.frames V m P (H.set d mo') s':=x.map i g λ_ a _ z=>z.setAt j e h (f a)
theorem FS.own{m m' s s'}(x:FS c A.frames V m P H s)(d:s'.heap.Ns V m')(e:∀b o,b≠V->s.heap.get? b=G o->s'.heap.get? b=G o)(f:s'.gens=s.gens)(a:s'.os=s.os):FS c A.frames V m' P H s':=⟨x.pl,x.hl,x.st.elim λo q=>(j5 d).imp λh n=>⟨n.2,f.trans q.2.gens,a.trans q.2.os,q.2.frs.own n.2.dict,q.2.hr.imp λg z=>z.anew x.hl e n.1⟩⟩
theorem FS.store{m m' s s'}(x:FS c A.frames V m P H s)(d:s'.heap.Ns V m')(hs:bI.SameBut V s.heap s'.heap)(f:s'.gens=s.gens)(a:s'.os=s.os):FS c A.frames V m' P H s':=x.own d (λb _ g e=>(hs.2 b g).trans e) f a
theorem lh{x:am}{pos:aI}{v:ab}{Q:ab->Hp->Prop}(d:cc env V)(e:ρ.lookup x=G v)(h:Q v H):EV c A env V P ρ H (bA (I x) pos) Q:=λs m a j=>by
 obtain ⟨f,o,rfl,l⟩:=j x v e;simp only [fk,fg,ma]at f;refine wpAny_Name ?_ f.1;cases l with
 |loc k n=>exact wpAny_loadName_local d.kind k (by rw [d.loc];exact a.ns) n ⟨H,a,h⟩
 |cell k i g b=>
  rcases k with k|k
  ·exact wpAny_loadName_cell d.kind k i ⟨_,a.prot g (nC b),b⟩ ⟨H,a,h⟩
  ·exact wpAny_loadName_free d.kind k i ⟨_,a.prot g (nC b),b⟩ ⟨H,a,h⟩ f.2
noncomputable def tZ(c:Cx)(x:am):aj ab:=(d2 c.w.params).nsMap jh (I x)
theorem yM{x:am}{pos:aI}{v:ab}{Q:ab->Hp->Prop}(d:cc env V)(a:fk x=true)(k:env.kindOf (I x)=G f9)(e:tZ c x=G v)(h:Q (er v) H):EV c A env V P ρ H (bA (I x) pos) Q:=λs m b f=>by simp only [fk,fg,ma]at a;exact Name_function_global d.kind k (loadGlobal_global (by rw [d.glob];exact tW b.kk) e ⟨H,b,h⟩) a.1
theorem yN{k pos}{Q:ab->Hp->Prop}(h:Q ah H):EV c A env V P ρ H (iE .none k pos) Q:=λ_ _ a _=>wpAny_Constant_none ⟨H,a,h⟩
theorem GC{b k pos}{Q:ab->Hp->Prop}(h:Q (az b) H):EV c A env V P ρ H (iE (.bool b) k pos) Q:=λ_ _ a _=>wpAny_Constant_bool ⟨H,a,h⟩
theorem GD{i k pos}{Q:ab->Hp->Prop}(h:Q (aa i 0) H):EV c A env V P ρ H (iE (.int i) k pos) Q:=λ_ _ a _=>wpAny_Constant_int ⟨H,a.toks _,h⟩
theorem GF{x k pos}{Q:ab->Hp->Prop}(h:Q (aE x 0) H):EV c A env V P ρ H (iE (.str x) k pos) Q:=λ_ _ a _=>wpAny_Constant_str ⟨H,a.toks _,h⟩
noncomputable def hV:L (ae×am):=[
 (85,"kind"),(85,"width"),(85,"height"),(85,"x"),(85,"y"),(85,"parts"),(85,"pane"),
 (265,"session"),(265,"index"),(265,"window"),(265,"pane"),(265,"mouse"),(265,"sessions"),(265,"marked"),
 (480,"number"),(480,"terminal"),(480,"rows"),(480,"columns"),(480,"bells"),(480,"title"),(480,"is_dead"),(480,"options"),
 (661,"number"),(661,"name"),(661,"panes"),(661,"active"),(661,"last"),(661,"layout"),(661,"is_zoomed"),(661,"has_bell"),(661,"has_activity"),(661,"options"),
 (790,"number"),(790,"name"),(790,"windows"),(790,"group"),(790,"options"),(790,"last"),(790,"current")]
noncomputable def mv:L ((ae×am)×ae):=[
 ((480,"sized"),470),((661,"hand_sizes"),528),((661,"lay"),535),((661,"has"),542),((661,"select"),549),((661,"split"),586),((661,"drop"),593),((661,"swap"),621),((661,"seen"),658),
 ((790,"indexes"),707),((790,"free_index"),729),((790,"add"),737),((790,"select"),744),((790,"settle"),764),((790,"take"),771)]
noncomputable def qZ:L (ae×ae):=[(85,82),(265,262),(480,463),(661,505),(790,700)]
noncomputable def o9:L ((ae×am)×ae):=[((661,"width"),512),((661,"height"),520)]
noncomputable def t0(K:Frag)(C:ae)(f:a6):aK:=plainGet K C f&&hasDictIn K C&&(jW K (J C) f==G af)&&(jW K (J C) "__setattr__"==G (G (bS "object.__setattr__")))&&plainOver K C&&(takerIn K C f==G af)
noncomputable def yO(K:Frag)(C:ae)(f:a6)(a:ae):aK:=plainGet K C f&&(jW K (J C) f==G (G (J a)))&&isFn K (J a)
noncomputable def t1(K:Frag)(C a:ae):aK:=makesIn K C&&(jW K (J C) "__init__"==G (G (J a)))&&(typeIn K (J a)==G (aM "function"))
theorem GG(w:bh):(hV.all λp=>t0 (KK w) p.1 (I p.2))=true:=by kernel_rfl!
theorem GH(w:bh):(mv.all λp=>yO (KK w) p.1.1 (I p.1.2) p.2)=true:=by kernel_rfl!
theorem GI(w:bh):(qZ.all λp=>t1 (KK w) p.1 p.2)=true:=by kernel_rfl!
theorem li{a b:am}(h:I a=I b):a=b:=by
 have g:I a=⟨(a.toList.map w_).toArray⟩:=by show a6.mk _=_;rw [cpsOfBytes_string]
 have f:I b=⟨(b.toList.map w_).toArray⟩:=by show a6.mk _=_;rw [cpsOfBytes_string]
 rw [g,f]at h;have d:a.toList.map w_=b.toList.map w_:=by injection h with h;injection h
 have c:∀x y:Char,x.toNat=y.toNat->x=y:=λx y e=>Char.ext (UInt32.toNat.inj e);exact am.toList_inj.mp ((L.map_inj_right c).mp d)
theorem q0(a b:am):(I a==I b)=(a==b):=by
 by_cases h:a=b
 ·subst h;simp
 ·have:I a≠I b:=λe=>h (li e)
  rw [dB.mpr this,dB.mpr h]
theorem yP{c:Cx}{p:ae×am}(h:hV.contains p=true):t0 (KK c.w) p.1 (I p.2)=true:=fe.mp (GG c.w) p (dE.mp h)
theorem GJ{c:Cx}{p:(ae×am)×ae}(h:mv.contains p=true):yO (KK c.w) p.1.1 (I p.1.2) p.2=true:=fe.mp (GH c.w) p (dE.mp h)
theorem GK{c:Cx}{p:ae×ae}(h:qZ.contains p=true):t1 (KK c.w) p.1 p.2=true:=fe.mp (GI c.w) p (dE.mp h)
theorem yQ{v:ab}(h:dJ v=true):handedIn v=true:=by cases v<;>first|rfl|cases h
theorem GL{es:L iA}{fs:L (am×ab)}(h:fW es fs)(f:am):es.any (·.refKey)=false/\match fs.lookup f with|none=>es.find? (·.key.isStr (I f))=af|some v=>∃e,er e.val=v/\dJ e.val=true/\es.find? (·.key.isStr (I f))=G e:=by
 induction h with
 |nil=>exact⟨E,E⟩
 |@cons e x v t es fs b d g _ a=>
  have k:e.key.isStr (I f)=(f==x):=by rw [b];exact(q0 x f).trans BEq.comm
  have c:e.refKey=false:=by unfold iA.refKey;rw [b]
  rw [fQ,iF,k,xa,c];cases f==x with
  |true=>exact⟨a.1,e,d,g,E⟩
  |false=>exact a
theorem q1{es:L iA}{fs:L (am×ab)}(h:fW es fs)(f:am):(fs.lookup f=af->getL (I f) es=G af)/\(∀v,fs.lookup f=G v->∃c,er c=v/\dJ c=true/\getL (I f) es=G (G c)):=by
 obtain ⟨a,b⟩:=GL h f;refine⟨λq=>?_,λv q=>?_⟩
 ·rw [q]at b;unfold getL;rw [b,a];rfl
 ·rw [q]at b;exact b.imp' (·.val) λe z=>⟨z.1,z.2.1,by unfold getL;rw [z.2.2]⟩
noncomputable def aZ(f:am)(v:ab):L (am×ab)->L (am×ab)
 |[]=>[(f,v)]
 |(x,u)::r=>if x==f then(x,v)::r else(x,u)::aZ f v r
theorem GN{es:L iA}{fs:L (am×ab)}(f:am)(g:U)(t:bv)(v:ab)(h:fW es fs)(b:dJ v=true):fW (putL (I f) g (aE (I f) t) v es) (aZ f (er v) fs):=by
 induction h with
 |nil=>exact .cons E E b .nil
 |@cons e x j l es fs a d i r c=>
  have k:e.key.isStr (I f)=(x==f):=by rw [a];exact q0 x f
  unfold putL aZ;rw [k];cases x==f with
  |true=>exact .cons a E b r
  |false=>exact .cons a d i c
theorem GP{es:L iA}{fs:L (am×ab)}(h:fW es fs):es.length=fs.length:=by
 induction h with
 |nil=>rfl
 |cons _ _ _ _ a=>exact aA h9 a
theorem EV.here{e:an}{Q:ab->Hp->Prop}{m s}{R:ab->ay->Prop}{g:ab->ay->Prop}(h:EV c A env V P ρ H e Q)(fs:FS c A.frames V m P H s)(f:cs env P m ρ)
  (k:∀v s' d,FS c A.frames V m P d s'->Q (er v) d->R v s'):aX (aV au c.w) A (hg e env) R g s:=
 eK (cf (h s m fs f) (λv s' ⟨d,a,b⟩=>k v s' d a b) λ_ _ x=>x)
noncomputable def iR(o:an):aK:=if h:o.ctorIdx=16 then eV.elim (motive_1:=λ_=>aK) o h λ_ a _ _=>!a.isEmpty else true
theorem q2{o:an}{d:a6}{env:a8}{b:ef ab}(h:iR o=true):attributeBase o d env b=b:=by
 cases o with
 |Call g c e p=>cases c with
  |nil=>cases h
  |cons a c=>cases g<;>rfl
 |_=>rfl
theorem GQ{e:an}{f:am}{pos:aI}{Q:ab->Hp->Prop}(ns:iR e=true)
  (h:EV c A env V P ρ H e λv N=>∃a C fs u,v=J a/\N a=G (bZ C fs)/\fs.lookup f=G u/\hV.contains (C,f)=true/\Q u N):EV c A env V P ρ H (eu e (I f) pos) Q:=λs m fs d=>by
 rw [D2,q2 ns];refine aR (h.here fs d λv B N b x=>aR (iG (aR (fO (hd λR g=>?_)))));obtain ⟨a,C,K,u,k,t,p,l,q⟩:=x;obtain rfl:=dr k;obtain ⟨D,M,y,n,F,j,i,w⟩:=b.real t;obtain ⟨z,rfl,o,r⟩:=(q1 w f).2 u p;have T:=yP (c:=c) l;simp only [t0,fg]at T;exact g (get_value (od:=G (mb y n)) b.kk ⟨j,E,E,i⟩ (xb T.1.1.1.1.1).1 (findObj_own T.1.1.1.1.2 (cU T.1.1.1.2) E r) (yQ o) (aR (D3 (bY ⟨N,b.toks _,q⟩))))
noncomputable def fx(vs:L ab)(k:U):aj ab:=if 0<=k then vs[k.toNat]? else if-(vs.length:U)<=k then vs[(k+vs.length).toNat]? else af
noncomputable def e1(kvs:L (U×ab))(k:U):aj ab:=(kvs.find? λp=>decide (p.1=k)).map (·.2)
noncomputable def t2(kvs:L (am×ab))(k:a6):aj ab:=(kvs.find? λp=>I p.1==k).map (·.2)
noncomputable def lj(o:aj MO)(k:U):aj ab:=match o with
 |some (ak a)=>fx a k
 |some (eg a)=>fx a k
 |some (bm a)=>fx a k
 |some (aO b)=>e1 b k
 |_=>af
noncomputable def q3(o:aj MO)(x:a6):aj ab:=match o with
 |some (eF a)=>t2 a x
 |_=>af
noncomputable def c6(H:Hp)(v u:ab):aj ab:=(pR v).bind λa=>match pI u with
 |some k=>lj (H a) k
 |none=>(pS u).bind λx=>q3 (H a) x
theorem t3(a:an)(o i:ab):∃c,subscripted a false o i=operate c (getItem o i):=by
 cases a with
 |Slice l u b p=>cases b<;>exact⟨_,E⟩
 |_=>exact⟨_,E⟩
theorem o_{a:L (U×ab)}{kvs:L (U×ab)}(e:a.map (λp=>(p.1,er p.2))=kvs)(k:U):(oJ a k).map er=e1 kvs k:=by subst e;unfold oJ e1;rw [td,mg,mg];rfl
theorem GR{a:L (a6×ab)}{kvs:L (am×ab)}(e:a.map (λp=>(p.1,er p.2))=kvs.map (λp=>(I p.1,p.2)))(k:a6):(oJ a k).map er=t2 kvs k:=by
 have b:((a.map λp=>(p.1,er p.2)).find? λp=>p.1==k).map (·.2)=(oJ a k).map er:=by unfold oJ;rw [td,mg,mg];rfl
 rw [<-b,e,td,mg];rfl
theorem yR{vs:L ab}{k:U}{r:ab}(h:fx vs k=G r):vs[if 0<=k then k.toNat else(k+vs.length).toNat]? =G r/\((0<=k/\k<vs.length)\/(k<0/\-(vs.length:U)<=k)):=by
 unfold fx at h
 by_cases a:0<=k
 ·rw [aJ a]at h⊢
  exact⟨h,bt ⟨a,(U.toNat_lt a).mp (oK.mp h).1⟩⟩
 ·rw [aG a]at h⊢
  exact gd h λb h=>⟨h,bF ⟨U.not_le.mp a,b⟩⟩
theorem ll{ws vs:L ab}{n:ag}{r:ab}(e:ws.map er=vs)(h:vs[n]? =G r):∃a,er a=r/\ws[n]? =G a:=by subst e;rw [f_]at h;exact(gm.mp h).imp λx q=>q.symm
theorem yS{n:ag}{k:U}(h:(0<=k/\k<n)\/(k<0/\-(n:U)<=k)):seqIndex? k n=G (if 0<=k then k.toNat else(k+n).toNat):=by
 rcases h with ⟨a,b⟩|⟨a,b⟩
 ·unfold seqIndex?
  simp only [mh.mpr a,kU];rw [aJ (by rw [cN a,cN b];rfl),aJ a]
 ·rw [seqIndex_neg a b,aG (U.not_le.mpr a)]
theorem yT{n:ag}{k:U}(a:n<=bL)(h:(0<=k/\k<n)\/(k<0/\-(n:U)<=k)): -1000000<=k/\k<=1000000:=by have:(n:U)<=1000000:=ib.mpr a;omega
theorem yU{l:ae}{ws vs:L ab}{k:U}{t:bv}{r:ab}{s:ay}{Q:ab->ay->Prop}{n}(g:s.heap.IsList l ws.toArray)(e:ws.map er=vs)(i:vs.length<=bL)(h:fx vs k=G r)
  (q:∀b,er b=r->Q b s):aX (aV au c.w) A (getItem (J l) (aa k t)) Q n s:=by
 have f:vs.length=ws.length:=e▸bJ _;obtain ⟨m,a⟩:=yR h;have i:=yT i a;obtain ⟨b,j,d⟩:=ll e m;rcases a with a|a
 ·rw [aJ a.1]at d
  exact wpAny_getItem_list g a.1 (by omega) (by rw [ia];exact d) (q b j)
 ·rw [aG (U.not_le.mpr a.1),f]at d
  exact wpAny_getItem_list_neg g a.1 (by rw [fP,<-f];exact a.2) (by omega) (by rw [ia,fP];exact d) (q b j)
theorem GS{m s}{v u r:ab}{I M:an}{Q:ab->ay->Prop}{Y}(fs:FS c A.frames V m P H s)(h:c6 H (er v) (er u)=G r)(q:∀b s',er b=r->FS c A.frames V m P H s'->Q b s'):
  aX (aV au c.w) A (subscriptTail M I v u) Q Y s:=(t3 I v u).elim λZ l=>GB h λa X h=>hd λac g=>by
 subst X;cases K:pI (er u)with
 |some k=>
  obtain ⟨t,rfl⟩:=k_ K;have h:lj (H a) k=G r:=h;refine lc (f:=λo=>lj o k) h E λo B h=>(fs.real B).elim λ_ F=>?_;cases o with
  |list z=>exact F.2.elim λy i=>g (oL i.1.isList.typeIs D4.lookup (yU i.1.isList i.2 F.1 h λb D=>q b s D fs) l)
  |rol z=>exact F.2.elim λy i=>g (oL i.1.typeIs D4.lookup (yU i.1 i.2 F.1 h λb D=>q b s D fs) l)
  |tup z=>obtain ⟨p,y,d,e⟩:=F;have N:z.length=y.length:=e▸bJ _;obtain ⟨T,C⟩:=yR h;have p:=yT p C;obtain ⟨b,n,j⟩:=ll e T;rw [N]at j C;exact g (oL d.typeIs slot_tuple_getitem.lookup (getItem_tuple d (by omega) (by omega) (by rw [fP];exact yS C) (by rw [ia];exact j) (q b s n fs)) l)
  |di S=>obtain ⟨p,R,d,e⟩:=F;obtain ⟨b,n,j⟩:=gm.mp ((o_ e k).trans h);exact g (oL d.typeIs slot_dict_getitem.lookup (wpAny_getItem_of (knd:=hf au c.w) (k:=k) (eE _) d.mapOf n (q b _ j (fs.toks _))) l)
  |_=>cases h
 |none=>
  have h:((pS (er u)).bind λx=>q3 (H a) x)=G r:=by have e:c6 H (J a) (er u)=_:=h;unfold c6 at e;rw [K]at e;exact e
  refine qY h λx t W h=>?_;subst W;refine lc (f:=λo=>q3 o x) h E λo B h=>(fs.real B).elim λ_ F=>?_;cases o with
  |ds S=>obtain ⟨p,R,d,e⟩:=F;obtain ⟨b,n,j⟩:=gm.mp ((GR e x).trans h);exact g (oL d.typeIs slot_dict_getitem.lookup (wpAny_getItem_of (knd:=w9 au c.w) (k:=x) (eE _) d.mapOf n (q b _ j (fs.toks _))) l)
  |_=>cases h
theorem GU{e i:an}{pos:aI}{Q:ab->Hp->Prop}
  (h:EV c A env V P ρ H e λv N=>EV c A env V P ρ N i λu a=>∃r,c6 a v u=G r/\Q r a):EV c A env V P ρ H (oM e i pos) Q:=λs m k b=>
 Subscript_ (h.here k b λv n N g d=>d.here g b λu l a f x=>x.elim λr x=>GS f x.1 λp o e j=>⟨a,j,e▸x.2⟩)
theorem GV:bL<=16777216:=by decide
theorem gT:bL<=m_:=by decide
noncomputable def ju:bI:={objs:=#[]}
theorem GW(b:ae):ju.get? b=af:=E
noncomputable def nD(h:bI)(a:ae):L (ae×aC):=(et h.objs.size).filterMap λb=>if b=a then af else(h.get? b).map λo=>(b,o)
theorem t4{h:bI}{a b:ae}{o:aC}(e:h.get? b=G o)(n:b≠a):(b,o)∈nD h a:=D5.mpr ⟨b,ji.mpr (kT e),by rw [aG n,e];rfl⟩
theorem q4(h:bI)(a:ae):News ju a h (nD h a):=λp c=>(D5.mp c).elim λb q=>by
 by_cases n:b=a
 ·rw [aJ n]at q;cases q.2
 ·rw [aG n]at q
  obtain ⟨o,e,r⟩:=gm.mp q.2;exact r▸⟨e,n,E⟩
theorem pc{h:bI}{a:ae}{m:a6->aj ab}(n:h.Ns a m):Fr ju a h m:=⟨n,λb o e=>(by rw [GW]at e;cases e),eh _⟩
theorem GX{h h':bI}{a:ae}{new:L (ae×aC)}(N:News ju a h' (new++nD h a)):∀b o,b≠a->h.get? b=G o->h'.get? b=G o:=λ_ _ n e=>(N _ (cO _ (t4 e n))).1
theorem FS.newsAlloc{m s h'}{t:ag}{d:ae}{o:aC}{mo:MO}(x:FS c A.frames V m P H s)(F:Fr ju V h' m)(N:News ju V h' ((d,o)::nD s.heap V))(e:s.heap.get? d=af)(f:∀b,hT c.w h' b d mo):
  H d=af/\FS c A.frames V m P (H.set d mo) {s with heap:=h',toks:=t}:=
 ⟨x.el λ_ _ _ _ z=>(z.fresh e).1,x.pl,x.hl,x.st.elim λg q=>(j5 F.ns).imp λh n=>⟨n.2,q.2.gens,q.2.os,q.2.frs.own n.2.dict,q.2.hr.imp λb z=>
  have a:=z.fresh e
  (z.anew x.hl (GX (new:=[(d,o)]) N) n.1).tell ((bg _ _ (N _ bn).2.1).trans ((bg _ _ (N _ bn).2.1).symm.trans a.2.1)) a.2.2.1 a.2.2.2 (f b)⟩⟩
noncomputable def bD(H:Hp)(a:ae):aj (L ab):=match H a with
 |some (ak b)=>G b
 |some (eg b)=>G b
 |_=>af
theorem FS.list{m s a vs}(x:FS c A.frames V m P H s)(e:bD H a=G vs):vs.length<=bL/\∃ws:L ab,s.heap.IsList a ws.toArray/\ws.map er=vs:=by
 refine lc (f:=λo:aj MO=>match o with|some (ak vs)=>G vs|some (eg vs)=>G vs|_=>af) e E λo b e=>(x.real b).elim λ_ F=>?_
 induction o with
 |list vs=>cases e;exact⟨F.1,F.2.imp λws q=>⟨q.1.isList,q.2⟩⟩
 |rol vs=>cases e;exact F
 |_=>cases e
theorem FS.listK{m s a vs}{b:Prop}(x:FS c A.frames V m P H s)(e:bD H a=G vs)(k:∀ws:L ab,vs.length<=bL->s.heap.IsList a ws.toArray->ws.map er=vs->b):b:=(x.list e).2.elim λws q=>k ws (x.list e).1 q.1 q.2
noncomputable def t5(op:eW)(a b:U):aj ab:=match op with
 |cq=>G (aa (a+b) 0)
 |hh=>G (aa (a-b) 0)
 | .Mult=>if a.natAbs<2^64 then G (aa (a*b) 0)else af
 |qI=>if b≠0/\b.natAbs<1073741824 then G (aa (a.fdiv b) 0)else af
 | .Mod=>if b≠0 then G (aa (a.fmod b) 0)else af
 | .Pow=>if 0<=b/\b<=1000000/\a.natAbs<2^64 then G (aa (a^b.toNat) 0)else af
 |_=>af
noncomputable def yV(op:eW)(a b:a9 aP):aj ab:=match op with
 |cq=>if a.size+b.size<=bL then G (aq (a++b) 0)else af
 |_=>af
noncomputable def hp(op:eW)(v u:ab):aj ab:=eZ (pI v) (λa=>(pI u).bind λb=>t5 op a b) ((pY v).bind λa=>(pY u).bind λb=>yV op a b)
theorem GY{op:eW}{a b:U}{t u:bv}{r:ab}{s:ay}{Q:ab->ay->Prop}{f}(h:t5 op a b=G r)(q:∀e k,er e=r->Q e {s with toks:=k}):aX (aV au c.w) A (binaryOp op (aa a t) (aa b u)) Q f s:=by
 induction op with
 |Add=>exact PySem.P.add_int (q _ _ (bc h))
 |Sub=>exact PySem.P.sub_int (q _ _ (bc h))
 |Mult=>exact gd h λd h=>PySem.P.mul_int (q _ _ (bc h)) (.of_left (intBits_le d))
 |FloorDiv=>exact gd h λd h=>floordiv_int d.1 (q _ _ (bc h)) (bt (PyProof.noPylong_small d.2))
 |Mod=>exact gd h λd h=>mod_int' d (q _ _ (bc h))
 |Pow=>exact gd h λd h=>pow_int_small d.1 d.2.1 d.2.2 (q _ _ (bc h))
 |_=>exact gR h
theorem GZ{op:eW}{a b:a9 aP}{t u:bv}{r:ab}{s:ay}{Q:ab->ay->Prop}{f}(h:yV op a b=G r)(q:∀d k,er d=r->Q d {s with toks:=k}):aX (aV au c.w) A (binaryOp op (aq a t) (aq b u)) Q f s:=by
 induction op with
 |Add=>exact gd h λe h=>PySem.W.KBy.add_bytes (ar e GV) λg k=>q _ _ (bc h)
 |_=>exact gR h
theorem G0{op:eW}{v u r:ab}{s:ay}{Q:ab->ay->Prop}{g}(h:hp op (er v) (er u)=G r)(q:∀f k,er f=r->Q f {s with toks:=k}):aX (aV au c.w) A (binaryOp op v u) Q g s:=fj h (λa e h=>(k_ e).elim λt e=>qX h λb u d h=>e▸d▸GY h q) λh=>nB h λa t e h=>nB h λb u d h=>e▸d▸GZ h q
noncomputable def lm(op:eW)(v u:ab)(H:Hp)(Q:ab->Hp->Prop):Prop:=match hp op v u with
 |some r=>Q r H
 |none=>op=cq/\∃a b e c,v=J a/\u=J b/\bD H a=G e/\bD H b=G c/\e.length+c.length<=bL/\∀d,H d=af->Q (J d) (H.set d (ak (e++c)))
theorem G1{op:eW}{v u:ab}{m s}{Q:ab->Hp->Prop}(fs:FS c A.frames V m P H s)(h:lm op (er v) (er u) H Q):
  aX (aV au c.w) A (binaryOp op v u) (λr s'=>∃p,FS c A.frames V m P p s'/\Q (er r) p) No s:=hd λZ g=>by
 unfold lm at h;cases e:hp op (er v) (er u)with
 |some r=>rw [e]at h;exact g (G0 e λS k R=>⟨H,fs.toks k,R▸h⟩)
 |none=>
  rw [e]at h;obtain ⟨rfl,a,b,f,d,M,K,I,D,i,q⟩:=h;obtain rfl:=dr M;obtain rfl:=dr K;obtain ⟨Y,l,y,o⟩:=fs.list I;obtain ⟨X,j,x,n⟩:=fs.list D;have B:(l++j).map er=f++d:=by rw [c0,o,n]
  have C:(f++d).length<=bL:=b3▸i;refine g (add_lists (pc fs.ns) (q4 _ _) y x (λW F N=>?_) (ar (by rw [<-o,<-n,bJ,bJ]at i;exact i) gT))
  have z:=fs.newsAlloc (t:=s.toks) F N (ga (cw _)) (mo:=ak (f++d)) λT=>⟨C,l++j,⟨_,(N _ bn).1⟩,B⟩;exact⟨_,z.2,q _ z.1⟩
theorem G2{e i:an}{op:eW}{pos:aI}{Q:ab->Hp->Prop}(h:EV c A env V P ρ H e λv N=>EV c A env V P ρ N i λu b=>lm op v u b Q):EV c A env V P ρ H (.BinOp e op i pos) Q:=λs m k a=>wpAny_BinOp (h.here k a λv n N j f=>f.here j a λu l b g d=>G1 g d)
theorem G3{x k pos}{Q:ab->Hp->Prop}(h:Q (aq x.toArray 0) H):EV c A env V P ρ H (iE (.bytes x) k pos) Q:=λ_ _ a _=>Constant_bytes ⟨H,a.toks _,h⟩
theorem G4{e:an}{pos:aI}{Q:ab->Hp->Prop}(h:EV c A env V P ρ H e λv N=>∃i,v=aa i 0/\Q (aa (-i) 0) N):EV c A env V P ρ H (na .USub e pos) Q:=λs m d a=>wpAny_UnaryOp (h.here d a λv f N b x=>x.elim λi x=>(nz x.1).elim λ_ e=>by subst e;exact PySem.P.neg_int ⟨N,b.toks _,x.2⟩)
end
theorem G5:isSubtype (aM "bytes") (aM "NoneType")=b6 false:=by rw [xc];kernel_rfl
theorem yW:isSubtype (aM "NoneType") (aM "bytes")=b6 false:=by rw [xc];kernel_rfl
theorem yX(b:a9 aP)(t:bv):Gives (Builtin.«NoneType.__eq__» ⟨[ah,aq b t],[]⟩) (.val (ab.notImplemented)):=.of_wp λM A f s Q h=>by obtain ⟨e,g,d,a,c⟩:=s;wp_walk;exact⟨_,E,h⟩
theorem yY(b:a9 aP)(t:bv):Gives (Builtin.«bytes.__eq__» ⟨[aq b t,ah],[]⟩) (.val (ab.notImplemented)):=.of_wp λM A a s Q h=>by show aX M A (isInstance ah (aM "bytes")>>=λr=>_) _ a s;refine aR (wpAny_isInstance (T:="NoneType") E yW ?_);refine aR (m:=rule _) (oG ?_);exact bY ⟨_,E,h⟩
section
variable{A:bj}{s:ay}
theorem yZ(b:a9 aP)(u:bv):RcAt A s ah (aq b u) false:=λc w d Q h=>
 rc_eq_decline_or (k:=false) E (iH s b u) (by decide) G5 F.slot_NoneType_eq xd
  (λ_ a=>call_gives F.slot_NoneType_eq E F.entry_NoneType_eq (F.args_NoneType_eq_2 _ _) (yX b u) a)
  (λ_ a=>call_gives xd (iH s b u) FB.entry_bytes_eq (FB.args_bytes_eq_2 _ _) (yY b u) a)
  (λ_ a=>te (E:nb ah (aq b u)=b6 false) a) (bt E) h
theorem y0(b:a9 aP)(u:bv):RcAt A s (aq b u) ah false:=λc w d Q h=>
 rc_eq_decline_or (k:=false) (iH s b u) E (by decide) yW xd F.slot_NoneType_eq_refl
  (λ_ a=>call_gives xd (iH s b u) FB.entry_bytes_eq (FB.args_bytes_eq_2 _ _) (yY b u) a)
  (λ_ a=>call_gives F.slot_NoneType_eq_refl E F.entry_NoneType_eq (F.args_NoneType_eq_2 _ _) (yX b u) a)
  (λ_ a=>te (E:nb (aq b u) ah=b6 false) a) (bt E) h
theorem y1(b c:a9 aP)(t u:bv):RcAt A s (aq b t) (aq c u) (b==c):=λa w d Q h=>eq_bytes (by rw [show(b.toList==c.toList)=(b==c)from by rw [oN,c4,c4,tf]];exact h)
theorem G6(b:a9 aP)(u:bv):EqAt A s ah (aq b u) false:=λa w d Q h=>by unfold eqBool;refine fO ?_;refine D6 (λc=>bW (cU c) nofun) (λ_=>?_);exact aR (yZ b u a w d _ (iI h))
theorem G7(b:a9 aP)(u:bv):EqAt A s (aq b u) ah false:=λa w d Q h=>by unfold eqBool;refine fO ?_;refine D6 (λc=>bW (cU c) nofun) (λ_=>?_);exact aR (y0 b u a w d _ (iI h))
theorem G8(b c:a9 aP)(t u:bv):EqAt A s (aq b t) (aq c u) (b==c):=λa w f Q h=>by
 unfold eqBool;refine fO ?_;refine D6 (λd=>?_) (λ_=>?_)
 ·have:=cU d
  injection this with e _
  subst e;rw [eE]at h;exact aR (oG (bY h))
 ·exact aR (y1 b c t u a w f _ (iI h))
theorem G9(b c:a9 aP)(t u:bv):RcNeAt A s (aq b t) (aq c u) (!(b==c)):=λa w d Q h=>ne_bytes (by rw [show(b.toList !=c.toList)=!(b==c)from by rw [bne,show(b.toList==c.toList)=(b==c)from by rw [oN,c4,c4,tf]]];exact h)
noncomputable def gs(v:ab):aK:=(pY v).isSome
structure nE(v u:ab)(k:aK):Prop where
 rc:∀{A s},RcAt A s v u k
 eq:∀{A s},EqAt A s v u k
 ne:∀{A s},gs (er v)=gs (er u)->RcNeAt A s v u (!k)
theorem nE.to{v u a b:ab}{k c:aK}(e:v=a)(d:u=b)(x:nE a b c)(h:G c=G k):nE v u k:=by subst e d;exact bc h▸x
noncomputable def gt(v u:ab):aj aK:=
 eZ (pI v) (λa=>eZ (pI u) (λb=>G (a==b)) ((pN u).bind λ_=>G false))
  (eZ (pN v) (λ_=>eZ (pN u) (λ_=>G true) (eZ (pI u) (λ_=>G false) ((pY u).bind λ_=>G false)))
   (eZ (pY v) (λa=>eZ (pY u) (λb=>G (a==b)) ((pN u).bind λ_=>G false))
    (eZ (pB v) (λa=>(pB u).bind λb=>G (a==b)) ((pS v).bind λa=>(pS u).bind λb=>G (a==b)))))
theorem pd{v u:ab}{k:aK}(h:gt (er v) (er u)=G k):nE v u k:=
 fj h (λa e h=>(k_ e).elim λt e=>fj h (λb c h=>(k_ c).elim λu c=> .to e c ⟨RcAt.int_int _ _ _ _,EqAt.int_int _ _ _ _,λ_=>RcNeAt.int_int _ _ _ _⟩ h) λh=>o7 h λc h=> .to e c ⟨RcAt.int_none _ _,EqAt.int_none _ _,λ_=>RcNeAt.int_none _ _⟩ h)
 λh=>fj h (λa e h=>fj h (λb c h=> .to (lb e) (lb c) ⟨RcAt.none_none,EqAt.same _,λ_=>RcNeAt.none_none⟩ h) λh=>fj h (λb c h=>(k_ c).elim λu c=> .to (lb e) c ⟨RcAt.none_int _ _,EqAt.none_int _ _,λ_=>RcNeAt.none_int _ _⟩ h) λh=>nB h λb u c h=> .to (lb e) c ⟨yZ _ _,G6 _ _,λz=>bW z eX⟩ h)
 λh=>fj h (λa e h=>(mu e).elim λt e=>fj h (λb c h=>(mu c).elim λu c=> .to e c ⟨y1 _ _ _ _,G8 _ _ _ _,λ_=>G9 _ _ _ _⟩ h) λh=>o7 h λc h=> .to e c ⟨y0 _ _,G7 _ _,λz=>bW z.symm eX⟩ h)
 λh=>fj h (λa e h=>tY h λb c h=> .to (yK e) c ⟨RcAt.bool_bool _ _,EqAt.bool_bool _ _,λ_=>RcNeAt.bool_bool _ _⟩ h)
 λh=>qY h λa t e h=>qY h λb u c h=> .to e c ⟨RcAt.str_str _ _ _ _,EqAt.str_str _ _ _ _,λ_=>RcNeAt.str_str _ _ _ _⟩ h
noncomputable def hq:L ab->L ab->aj aK
 |[],c=>G c.isEmpty
 |v::d,c=>match c with
  |[]=>G false
  |u::c=>(gt v u).bind λa=>(hq d c).bind λb=>G (a&&b)
end
noncomputable def q5:aj U->ab->aK
 |af,v=>v==ah
 |G k,v=>v.isInt k
theorem jv{v:ab}(h:q5 af v=true):v=ah:=cU h
theorem iS{k:U}{v:ab}(h:q5 (G k) v=true):∃t,v=aa k t:=ab.isInt_shape h
theorem q6:Slot "NoneType" "__hash__" "NoneType.__hash__":=PySem.F.slot_NoneType_hash
theorem G_{w:bh}{A:bj}{a:ab->ay->Prop}{s:ay}{Q:U->ay->Prop}(h:Q 0xFCA86420 {s with toks:=s.toks+1}):aX (aV au w) A (PySem.pyHash ah) Q a s:=by
 unfold pyHash;refine aR ?_;rw [cRoomFor,aG (by exact eX)];refine bY ?_
 refine aR (xf (T:="NoneType") E q6.lookup ?_);show aX _ _ (if(G (bS "NoneType.__hash__")==G ah)=true then _ else _) Q a s
 rw [aG (by rw [beq_builtin_none];exact eX)]
 refine aR (xf (T:="NoneType") E q6.lookup ?_);show aX _ _ (callSpecialIfBoundUnlessNone? ah "__hash__" _>>=_) Q a s;refine aR (wpAny_callSpecialIfBoundUnlessNone?_slot (T:="NoneType") E q6
  (D7 q6 E PySem.F.entry_NoneType_hash
   (show aX _ _ (do ret (<-mkInt 0xFCA86420)) _ _ s from wpAny_ret_mkInt ?_) (PySem.F.args_NoneType_hash_1 _)))
 show aX _ _ (if(decide (-(2:U)^63<=0xFCA86420)&&decide ((0xFCA86420:U)<2^63))=true then _ else _) Q a _
 rw [aJ (by decide)]
 exact bY h
noncomputable def t6(w:bh):KeyKind au w (aj U) where
 is:=q5
 hash:=λ
  |af=>0xFCA86420
  |G k=>hashInt k
 inj:=λv a b g f=>by
  cases a<;>cases b
  ·rfl
  ·obtain rfl:=jv g;obtain ⟨t,h⟩:=iS f;cases h
  ·obtain rfl:=jv f;obtain ⟨t,h⟩:=iS g;cases h
  ·obtain ⟨t,rfl⟩:=iS g;obtain ⟨t,h⟩:=iS f;cases h;rfl
 byValue:=λk v h=>by
  cases k
  ·obtain rfl:=jv h;rfl
  ·obtain ⟨t,rfl⟩:=iS h;rfl
 pyHash:=λ{A e s k v Q} c h=>by
  cases k
  ·obtain rfl:=jv c;exact G_ h
  ·obtain ⟨t,rfl⟩:=iS c;exact wpAny_pyHash_int h
 eqBool:=λ{A e s a b u v Q} d c h=>by
  cases a<;>cases b
  ·obtain rfl:=jv d;obtain rfl:=jv c;exact EqAt.same _ au w e Q h
  ·obtain rfl:=jv d;obtain ⟨t,rfl⟩:=iS c;exact EqAt.none_int _ _ au w e Q h
  ·obtain ⟨t,rfl⟩:=iS d;obtain rfl:=jv c;exact EqAt.int_none _ _ au w e Q h
  ·obtain ⟨t,rfl⟩:=iS d;obtain ⟨i,rfl⟩:=iS c
   refine wpAny_eqBool_int ?_;rename_i x y;rw [show(x==y)=decide (G x=G y)from by by_cases h:x=y<;>simp [h]];exact h
 «strs»:=λk x t v h=>by
  cases k
  ·cases jv h
  ·obtain ⟨t,h⟩:=iS h;cases h
theorem y2{w:bh}{h:bI}{d:ae}{c:L (U×ab)}(x:h.DictOf (hf au w) d c):h.MapOf (t6 w) d (λk=>k.bind (oJ c)):=by
 obtain ⟨o,i,r,l,p,n,f,m⟩:=x.mapOf;refine⟨o,i,r,l,p,n,λe a=>?_,λk=>?_⟩
 ·obtain ⟨k,b,q⟩:=f e a;exact⟨G k,b,q⟩
 ·cases k with
  |some k=>exact m k
  |none=>show findBy q5 i af=af;unfold findBy;rw [qJ,a9.find?_eq_none];intro e a j;obtain ⟨k,b,_⟩:=f e a;obtain ⟨t,g⟩:=ab.isInt_shape b;have:=jv j;rw [this]at g;cases g
section
variable{prog:gC}{w:bh}{A:bj}{be:ab->ay->Prop}{s:ay}
theorem Ha:typeName (aM "bytes")=b6 "bytes":=by unfold typeName;rw [find?_eq_fast];kernel_rfl
theorem Hb:typeLookup (aM "bytes") "__index__"=b6 af:=by rw [D8,D9];kernel_rfl
theorem Hc{n:ag}{b:a9 aP}{t:bv}{Q:am->ay->Prop}(h:Q "bytes" s):aX (aV prog w) A (typeNameOfCut n (aq b t)) Q be s:=by
 unfold typeNameOfCut shownTypeOf;refine aR (aR (wpAny_typeOf (iH _ b t) ?_));simp only [show(aM "bytes"==aM "builtin_function_or_method")=false by decide,oO,kU]
 refine bY ?_;rw [show typeNameCut n (aM "bytes")=typeName (aM "bytes")from E,Ha];exact bY h
theorem Hd{b:a9 aP}{t:bv}{Q:je ab U->ay->Prop}(d:A.handled=af)
  (h:∀h' c e,(∀b o,s.heap.get? b=G o->h'.get? b=G o)->Q (jf e) {s with heap:=h',toks:=c}):aX (aV prog w) A (asIndex (aq b t)).attempt Q be s:=by
 refine wpAny_attempt ?_;unfold asIndex;refine aR (m:=asInt? _) (te (a:=af) E ?_);refine aR (m:=callSpecial? _ _) ?_;unfold callSpecial?;refine aR (xf (iH _ b t) Hb (bY ?_));refine aR (Hc ?_);exact wpAny_raiseErrorMade plainExc_TypeError d λh' c e n=>h h' c _ n.1
theorem He(l:L aP)(x:aP):(et l.length).find? (λi=>l[i]? ==G x)=l.findIdx? (·==x):=by
 induction l with
 |nil=>rfl
 |cons y r a=>
  rw [fu,R6,iF,th]
  by_cases h:y=x
  ·subst h;simp
  ·have:(G y==G x)=false:=by simpa using h
   simp only [L.getElem?_cons_zero,this,td,dB.mpr h];rw [show((λi=>(y::r)[i]? ==G x)∘h9)=λi=>r[i]? ==G x from E,a]
   cases r.findIdx? (·==x)<;>rfl
theorem y3(b:a9 aP)(i:ag)(c:i<b.size)(x:aP):(b.extract i (i+1)==#[x])=(b.toList[i]? ==G x):=by
 have:b.extract i (i+1)=#[b[i]]:=by
  apply a9.ext
  ·simp;omega
  ·intro j d a;simp at a;subst a;simp
 rw [this,ti,R7 c,oN];simp
theorem q7{α:Type}{p q:α->aK}:∀l:L α,(∀i∈l,p i=q i)->l.find? p=l.find? q
 |[],_=>E
 |y::r,h=>by rw [iF,iF,h y bn,q7 r λi a=>h i (bM _ a)]
theorem t7(b:a9 aP)(x:aP):xg b #[x] 0 b.size=b.toList.findIdx? (·==x):=by
 unfold xg;rw [<-He];have e:b.size+1-(0+(#[x]:a9 aP).size)=b.toList.length:=by simp
 rw [e];simp only [ag.add_zero,D_];exact q7 _ λi a=>y3 b i (by simpa using a) x
theorem y4(b:a9 aP)(t:bv)(x:aP)(u:bv):Meets (Builtin.«bytes.__contains__» ⟨[aq b t,aq #[x] u],[]⟩)
  (λA R s=>A.handled=af/\∀h' c,(∀a o,s.heap.get? a=G o->h'.get? a=G o)->R (dW (ck (az (b.toList.contains x)))) {s with heap:=h',toks:=c}):=by
 intro prog w A R s h;show aX _ _ (R8 "bytes.__contains__" (aq b t) (aq #[x] u)>>=λr=>ret (az r)) _ _ s;refine aR ?_;unfold R8;refine aR (Hd (A:=A.in1) h.1 λh' c e k=>?_);rw [Ea];refine aR (bY ?_);dsimp only;rw [Ea];refine aR (bY ?_);refine aR (m:=rule _) (oG ?_);refine bY (bY ?_);rw [t7]
 have:(b.toList.findIdx? (·==x)).isSome=b.toList.contains x:=by
  rw [L.findIdx?_isSome,L.contains_eq_any_beq]
  congr 1;funext y;exact BEq.comm
 rw [this];exact h.2 h' c k
theorem Hf(id name:am)(a b:ab):selfAndSome id name 1 3 ⟨[a,b],[]⟩=b6 (a,[b]):=E
theorem y5(name:am)(b:a9 aP)(t:bv)(x:aP)(u:bv):R9 .bytes name ⟨[aq b t,aq #[x] u],[]⟩=b6 (b,#[x],if(min (b.size:U) b.size)-0<1 then af else G (0,(min (b.size:U) b.size).toNat)):=by unfold R9;have c:R_ ([aq #[x] u]:L ab)[1]? =b6 af:=E;have a:R_ ([aq #[x] u]:L ab)[2]? =b6 af:=E;simp only [Hf,pure_bind,c,a,L.headD_cons,Ea];rfl
theorem y6(b:a9 aP){α:Type}(f:ag×ag->aj α)(h:b.size=0->f (0,b.size)=af):(if(min (b.size:U) b.size)-0<1 then af else G ((0,(min (b.size:U) b.size).toNat):ag×ag)).bind f=f (0,b.size):=by
 have e:min (b.size:U) b.size=b.size:=by omega
 rw [e]
 by_cases a:b.size=0
 ·rw [a]at h⊢;simp;exact(h E).symm
 ·rw [aG (by omega)];simp
theorem Hg(b:a9 aP)(t:bv)(x:aP)(u:bv):Meets (Builtin.«bytes.find» ⟨[aq b t,aq #[x] u],[]⟩)
  (λA R s=>∀c d,R (dW (ck (aa (match b.toList.findIdx? (·==x)with|some i=>(i:U)|none=> -1) d))) {s with toks:=c}):=by
 intro prog w A R s h;unfold Builtin.«bytes.find» Sa;rw [y5,pure_bind];simp only [oO,kU];rw [y6 b (λp=>xg b #[x] p.1 p.2) (λe=>by show xg b #[x] 0 b.size=af;rw [t7];have:b=#[]:=DT e;subst this;rfl),t7]
 cases a:b.toList.findIdx? (·==x)with
 |some i=>rw [a]at h;exact aR (xh (bY (h _ _)))
 |none=>rw [a]at h;refine aR (m:=rule _) (oG ?_);exact aR (xh (bY (h _ _)))
noncomputable def il(l:L aP)(x:aP):aj ag:=(l.reverse.findIdx? (·==x)).map λi=>l.length-1-i
theorem Hh(l:L aP)(y x:aP):il (l++[y]) x=if y=x then G l.length else il l x:=by
 unfold il;rw [tj,Sb,L.singleton_append,th]
 by_cases h:y=x
 ·subst h;simp
 ·rw [aG h,dB.mpr h]
  simp only [oO,kU,mg,b3,L.length_singleton]
  congr 1;funext i;simp only [Function.comp];omega
theorem y7(x:aP):∀(n:ag) (l:L aP),l.length=n->(et n).reverse.find? (λi=>l[i]? ==G x)=il l x
 |0,l,e=>by rw [L.length_eq_zero_iff.mp e];rfl
 |n+1,l,e=>by
  obtain ⟨r,y,rfl⟩:∃r y,l=r++[y]:=by
   rcases L.eq_nil_or_concat l with h|⟨r,y,h⟩
   ·rw [h]at e;cases e
   ·exact⟨r,y,by rw [h,L.concat_eq_append]⟩
  have a:r.length=n:=by simpa using e
  rw [Hh,xi,tj,Sb,L.singleton_append,iF];have b:(r++[y])[n]? =G y:=by rw [<-a];simp
  rw [b]
  by_cases h:y=x
  ·subst h;simp [a]
  ·have:(G y==G x)=false:=by simpa using h
   rw [this,aG h,<-y7 x n r a];refine q7 _ λi c=>?_;simp only [Eb,ji]at c;rw [L.getElem?_append_left (by omega)]
theorem y8(b:a9 aP)(x:aP):xj b #[x] 0 b.size=il b.toList x:=by
 unfold xj;rw [<-y7 x b.size b.toList (by simp)]
 have e:b.size+1-(0+(#[x]:a9 aP).size)=b.size:=by simp
 rw [e];simp only [ag.add_zero,D_];exact q7 _ λi a=>y3 b i (by simpa using a) x
theorem Hi(b:a9 aP)(t:bv)(x:aP)(u:bv):Meets (Builtin.«bytes.rfind» ⟨[aq b t,aq #[x] u],[]⟩)
  (λA R s=>∀c d,R (dW (ck (aa (match il b.toList x with|some i=>(i:U)|none=> -1) d))) {s with toks:=c}):=by
 intro prog w A R s h;unfold Builtin.«bytes.rfind» Sa;rw [y5,pure_bind];simp only [oO,kU,nc];rw [y6 b (λp=>xj b #[x] p.1 p.2) (λe=>by show xj b #[x] 0 b.size=af;rw [y8];have:b=#[]:=DT e;subst this;rfl),y8]
 cases a:il b.toList x with
 |some i=>rw [a]at h;exact aR (xh (bY (h _ _)))
 |none=>rw [a]at h;refine aR (m:=rule _) (oG ?_);exact aR (xh (bY (h _ _)))
end
noncomputable def im(H:Hp)(a:ae):aj (aK×L ab):=match H a with
 |some (ak b)=>G (false,b)
 |some (eg b)=>G (false,b)
 |some (bm b)=>G (true,b)
 |_=>af
noncomputable def t8(H:Hp)(a:ae)(v:ab):aj aK:=(pN v).bind λ_=>(im H a).bind λx=>if x.1=true then G false else af
noncomputable def nF(H:Hp)(v u:ab):aj aK:=eZ (pR v) (λa=>eZ (pR u) (λb=>(im H a).bind λx=>(im H b).bind λy=>if x.1=y.1 then hq x.2 y.2 else af) (t8 H a u)) (eZ (pR u) (λb=>t8 H b v) (gt v u))
theorem pe{H:Hp}{a b:ae}{k:aK}{vs us:L ab}(h:im H a=G (k,vs))(g:im H b=G (k,us)):nF H (J a) (J b)=hq vs us:=by
 show((im H a).bind λx=>(im H b).bind λy=>if x.1=y.1 then hq x.2 y.2 else af)=_
 rw [h,g];exact aJ E
noncomputable def fy(H:Hp)(a:ae):aK:=match H a with
 |some (bZ _ _)=>true
 |_=>false
noncomputable def pf(H:Hp)(v u:ab):aj aK:=eZ (pN u)
 (λ_=>eZ (pN v) (λ_=>G true) (if v.ctorIdx=10\/v.ctorIdx=4\/v.ctorIdx=7\/v.ctorIdx=3 then G false else af))
 (eZ (pR u) (λb=>eZ (pR v) (λa=>if a=b then G true else if(fy H a&&fy H b)=true then G false else af) ((pN v).bind λ_=>G false)) ((pB v).bind λa=>(pB u).bind λb=>G (a==b)))
noncomputable def ln(vs:L ab)(v:ab):aj aK:=match vs with
 |[]=>G false
 |y::r=>(gt y v).bind λa=>(ln r v).bind λb=>G (a||b)
noncomputable def j7(o:aj MO)(a:ae)(v:ab):aj aK:=match o with
  |some (aO d)=>eZ (pI v) (λk=>G (e1 d k).isSome) ((pN v).bind λ_=>G false)
  |some (ak c)=>ln c v
  |some (eg c)=>ln c v
  |some (bm c)=>ln c v
  |some (.db l)=>(pY v).bind λb=>if(l.all (λx=>x.1 !=b.toList)&&(a !=1))=true then G false else af
  |_=>af
noncomputable def Hj(b:a9 aP):aj {x:aP//b=⟨[x]⟩}:=match b with
 |⟨[x]⟩=>G ⟨x,E⟩
 |_=>af
noncomputable def q8(H:Hp)(v u:ab):aj aK:=eZ (pR u) (λa=>j7 (H a) a v) ((pY u).bind λb=>(pY v).bind λs=>(Hj s).bind λx=>G (b.toList.contains x.1))
noncomputable def t9(op:gD)(a b:U):aj aK:=match op with
 | .Lt=>G (decide (a<b))
 | .LtE=>G (decide (a<=b))
 | .Gt=>G (decide (a>b))
 | .GtE=>G (decide (a>=b))
 |_=>af
noncomputable def cJ(H:Hp)(op:gD)(v u:ab):aj aK:=match op with
 |bB=>nF H v u
 |eY=>if gs v=gs u then(nF H v u).map (!·)else af
 |b0=>pf H v u
 |dq=>(pf H v u).map (!·)
 |dF=>q8 H v u
 |jn=>(q8 H v u).map (!·)
 |op=>(pI v).bind λa=>(pI u).bind λb=>t9 op a b
theorem Hk{xs ys:L ab}{k:aK}(h:hq xs ys=G k):∃e:ag->aK,(∀j x y,xs[j]? =G x->ys[j]? =G y->gt x y=G (e j))/\k=((et (min xs.length ys.length)).all e&&xs.length==ys.length):=by
 induction xs generalizing ys k with
 |nil=>exact⟨λ_=>true,(λj x y e=>gR e),by cases h;induction ys<;>rfl⟩
 |cons x xs f=>
  induction ys with
  |nil=>exact⟨λ_=>true,(λj x y _ e=>gR e),by cases h;rfl⟩
  |cons y ys=>
   refine dS h λa i h=>dS h λb g h=>?_;obtain ⟨e,p,o⟩:=f g;refine⟨λj=>ag.casesOn j a e,λj d c=>ag.casesOn j (λm l=>by cases m;cases l;exact i) λj=>p j d c,?_⟩
   have n:min (x::xs).length (y::ys).length=min xs.length ys.length+1:=ag.succ_min_succ ..;rw [n,R6,oP,L.all_map,<-bc h,o,aK.and_assoc,show((x::xs).length==(y::ys).length)=(xs.length==ys.length)from by simp];rfl
theorem Hl{vs:L ab}{v:ab}{k:aK}(h:ln vs v=G k):(∀y∈vs,∃b,gt y v=G b)/\k=vs.any λy=>(gt y v).getD false:=by
 induction vs generalizing k with
 |nil=>exact⟨λ_ h=>(nomatch h),by cases h;rfl⟩
 |cons y r d=>refine dS h λa c h=>dS h λb j h=>?_;obtain ⟨g,f⟩:=d j;exact⟨λz i=>(bQ.mp i).elim (λe=>e▸⟨a,c⟩) (g z),by rw [xa,c,<-f];exact(bc h).symm⟩
section
variable{c:Cx}{A:bj}{env:a8}{V:ae}{P:Pr}{ρ:ao}{H:Hp}{D:ag}
theorem Hm{s:ay}{A:bj}{ws zs:L ab}{e:ag->aK}(g:∀j x y,(ws.map er)[j]? =G x->(zs.map er)[j]? =G y->gt x y=G (e j)):
  ∀j (b:j<ws.toArray.size) (a:j<zs.toArray.size),EqAt A s ws.toArray[j] zs.toArray[j] (e j):=λj b a=>
 (pd (g j _ _ (by rw [f_,iD b];rfl) (by rw [f_,iD a];rfl))).eq
theorem FS.seq{m s a x}(fs:FS c A.frames V m P H s)(e:im H a=G x):∃ws:L ab,ws.map er=x.2/\if x.1 then IsTup s.heap a ws.toArray else s.heap.IsList a ws.toArray:=by
 refine lc (f:=λo:aj MO=>match o with|some (ak b)=>G (false,b)|some (eg b)=>G (false,b)|some (bm b)=>G (true,b)|_=>af) e E λo d e=>(fs.real d).elim λ_ F=>?_
 induction o with
 |list b=>cases e;exact F.2.imp λws q=>⟨q.2,q.1.isList⟩
 |rol b=>cases e;exact F.2.imp λws q=>⟨q.2,q.1⟩
 |tup b=>cases e;exact F.2.imp λws q=>⟨q.2,q.1⟩
 |_=>exact gR e
theorem Hn{s:ay}{a b:ae}{j:aK}{ws zs:L ab}{k:aK}(d:A.units<cLine)(i:if j then IsTup s.heap a ws.toArray else s.heap.IsList a ws.toArray)(f:if j then IsTup s.heap b zs.toArray else s.heap.IsList b zs.toArray)(h:hq (ws.map er) (zs.map er)=G k):RcAt A s (J a) (J b) k/\RcNeAt A s (J a) (J b) (!k):=by
 obtain ⟨e,g,rfl⟩:=Hk h;rw [bJ,bJ];have g:=@Hm s A.in1 ws zs e g
 induction j with
 |true=>exact⟨RcAt.tuples i f d g,RcNeAt.tuples i f d g⟩
 |false=>
  by_cases c:ws.length=zs.length
  ·have e:(ws.length==zs.length)=true:=c4.mpr c
   rw [e,aK.and_true,<-c,ag.min_self];exact⟨RcAt.lists i f c d g,RcNeAt.lists i f c d g⟩
  ·have e:(ws.length==zs.length)=false:=dB.mpr c
   rw [e,Ec];exact⟨RcAt.lists_lengths i f (oQ.mpr c) d,RcNeAt.lists_lengths i f (oQ.mpr c) d⟩
theorem nG{m s}{a:ae}{v:ab}{k:aK}(fs:FS c A.frames V m P H s)(h:t8 H a (er v)=G k):v=ah/\k=false/\∃ws:L ab,IsTup s.heap a ws.toArray:=o7 h λe h=>dS h λx b h=>gd h λd h=>⟨e,(bc h).symm,(fs.seq b).imp λws q=>by have:=q.2;rw [aJ d]at this;exact this⟩
theorem t_{m s}{v u:ab}{k:aK}(fs:FS c A.frames V m P H s)(d:A.units<cLine)(h:nF H (er v) (er u)=G k):RcAt A s v u k/\(gs (er v)=gs (er u)->RcNeAt A s v u (!k)):=
 fj h (λa e h=>hk e▸fj h
   (λb e h=>hk e▸dS h λx i h=>dS h λy g h=>gd h λj h=>(fs.seq i).elim λf q=>(fs.seq g).elim λl r=>by
    have:=Hn d q.2 (j▸r.2) (by rw [q.1,r.1];exact h)
    exact⟨this.1,λ_=>this.2⟩)
   λh=>(nG fs h).2.2.elim λf q=>(nG fs h).1▸(nG fs h).2.1▸⟨RcAt.tuple_none q d,λ_=>RcNeAt.tuple_none q d⟩)
  λh=>fj h (λb e h=>(nG fs h).2.2.elim λf q=>(nG fs h).1▸(nG fs h).2.1▸hk e▸⟨RcAt.none_tuple q d,λ_=>RcNeAt.none_tuple q d⟩) λh=>⟨(pd h).rc,(pd h).ne⟩
theorem Ho(a b:aK):(az a==az b)=(a==b):=by cases a<;>cases b<;>rfl
theorem FS.isInst{m s a}(x:FS c A.frames V m P H s)(e:fy H a=true):∃o,s.heap.get? a=G o/\o.cls≠aM "tuple":=by
 unfold fy at e;cases b:H a with
 |none=>rw [b]at e;cases e
 |some o=>
  rw [b]at e;refine(x.real b).elim λ_ F=>?_
  induction o with
  |inst C d=>exact F.elim λg F=>F.elim λf F=>F.elim λn F=>⟨_,F.2.1,λh=>by cases h⟩
  |_=>cases e
theorem y9{m s}{v u:ab}{k:aK}{Q:aK->ay->Prop}(fs:FS c A.frames V m P H s)(h:pf H (er v) (er u)=G k)(q:Q k s):aX (aV au c.w) A (nb v u) Q No s:=by
 have g:∀{v u:ab},PySem.plainIs v u=true->G (v==u)=G k->aX (aV au c.w) A (nb v u) Q No s:=λe h=>wpAny_isSame_plain e (bc h▸q);refine fj h (λ_ e B=>fj B (λ_ i r=>(by rw [lb e,lb i];exact g E r)) λr=>gd r λd l=>?_) λz=>fj z (λb e p=>fj p (λa i f=>?_) λf=>o7 f λi o=>(by rw [hk e,i];exact g E o)) λp=>tY p λa e f=>tY f λb i o=>(by rw [e,i];exact g E ((aA G (Ho a b)).trans o))
 ·rw [lb e]
  rw [k9]at d;rcases d with d|d|d|d
  ·exact s8 (motive:=λv=>aX (aV au c.w) A (nb v ah) Q No s) v d λa=>g E l
  ·exact s6 (motive:=λv=>aX (aV au c.w) A (nb v ah) Q No s) v d λa t=>g E l
  ·exact s7 (motive:=λv=>aX (aV au c.w) A (nb v ah) Q No s) v d λa t=>g E l
  ·exact s9 (motive:=λv=>aX (aV au c.w) A (nb v ah) Q No s) v d λa=>g E l
 ·rw [hk e,hk i]
  by_cases j:a=b
  ·rw [aJ j]at f;exact j▸wpAny_isSame_ref_self (bc f▸q)
  ·rw [aG j]at f
   exact gd f λn h=>by rw [fg]at n;exact(fs.isInst n.1).elim λD x=>(fs.isInst n.2).elim λC y=>wpAny_isSame_ref_other j x.1 y.1 x.2 (bc h▸q)
theorem FS.notModules{m s d mo}(x:FS c A.frames V m P H s)(e:H d=G mo)(a:mo.rw=true):(d==s5)=false:=dB.mpr λq=>x.el λ_ _ _ _ z=>c_ (c.kk 1 (boot_o_1 c.w.params) (by kernel_rfl!)) (by have:=(z.apart d mo e).2.2 a;rw [q]at this;exact this)
theorem FS.dbMap{m s a l}(fs:FS c A.frames V m P H s)(h:H a=G (.db l)){k:L aP}(g:∀x∈l,x.1≠k):∃f,s.heap.MapOf (jg au c.w) a f/\f k=af:=by
 obtain ⟨o,d⟩:=fs.real h;refine⟨λk=>findBy (jg au c.w).is (l.map (iP au c.w)).toArray k,⟨_,_,_,d,⟨E,E,E⟩,E,xS au c.w l,λ_=>E⟩,?_⟩;have n:(l.map (iP au c.w)).toArray.find? (λe=>(jg au c.w).is k e.key)=af:=a9.find?_eq_none.mpr λe j b=>by obtain ⟨x,i,rfl⟩:=cA.mp (w6.mp j);exact g x i (cU b)
 exact aA (kL λx=>x.val) n
noncomputable def y_(w:bh)(A:bj)(v u:ab)(s:ay)(Q:aK->ay->Prop):Prop:=aX (aV au w) A (tk dF v u) (λr a=>∃b,r=az b/\Q b a) No s/\aX (aV au w) A (tk jn v u) (λr a=>∃b,r=az (!b)/\Q b a) No s
theorem ua{s:ay}{v:ab}{ws:L ab}{k:aK}(h:ln (ws.map er) (er v)=G k):∃e:ab->aK,(∀y,y∈ws.toArray->EqAt A.in1 s y v (e y))/\ws.toArray.any e=k:=by
 obtain ⟨g,d⟩:=Hl h;refine⟨λy=>(gt (er y) (er v)).getD false,λy c=>?_,by rw [d,L.any_map,L.any_toArray];rfl⟩
 obtain ⟨b,a⟩:=g (er y) (jV (w6.mp c));show EqAt A.in1 s y v ((gt (er y) (er v)).getD false);rw [a];exact(pd a).eq
theorem Hq{m s}{v:ab}{o:MO}{a:ae}{k:aK}{Q:aK->ay->Prop}(fs:FS c A.frames V m P H s)(n:H a=G o)(h:j7 (G o) a (er v)=G k)(q:∀s',FS c A.frames V m P H s'->Q k s'):y_ c.w A v (J a) s Q:=by
 refine(fs.real n).elim λ_ F=>?_
 induction o with
 |di K=>
  have d:=fs.notModules n E;refine F.2.elim λz F=>fj h (λi e h=>(k_ e).elim λt e=>?_) λh=>o7 h λe h=>?_
  ·have:(oJ z i).isSome=k:=by rw [<-bc h,<-o_ F.2 i,Ed]
   rw [<-this]at q;subst e;exact⟨wpAny_in_of (knd:=hf au c.w) (k:=i) (eE _) d F.1.mapOf ⟨_,E,q _ (fs.toks _)⟩,wpAny_notIn_of (knd:=hf au c.w) (k:=i) (eE _) d F.1.mapOf ⟨_,E,q _ (fs.toks _)⟩⟩
  ·subst e
   cases h;exact⟨wpAny_in_of (knd:=t6 c.w) (k:=af) E d (y2 F.1) ⟨_,E,q _ (fs.toks _)⟩,wpAny_notIn_of (knd:=t6 c.w) (k:=af) E d (y2 F.1) ⟨_,E,q _ (fs.toks _)⟩⟩
 |list r=>exact F.2.elim λp F=>(ua (F.2▸h)).elim λf g=>⟨in_listAt f F.1.isList g.1 ⟨_,E,g.2▸q _ fs⟩,notIn_listAt f F.1.isList g.1 ⟨_,E,g.2▸q _ fs⟩⟩
 |rol r=>exact F.2.elim λp F=>(ua (F.2▸h)).elim λf g=>⟨in_listAt f F.1 g.1 ⟨_,E,g.2▸q _ fs⟩,notIn_listAt f F.1 g.1 ⟨_,E,g.2▸q _ fs⟩⟩
 |tup r=>exact F.2.elim λp F=>(ua (F.2▸h)).elim λf g=>⟨in_tupleAt f F.1 g.1 ⟨_,E,g.2▸q _ fs⟩,notIn_tupleAt f F.1 g.1 ⟨_,E,g.2▸q _ fs⟩⟩
 |db l=>
  refine nB h λb t e I=>gd I λj D=>?_;subst e;rw [fg]at j;have d:(a==s5)=false:=dB.mpr (oQ.mp j.2);obtain ⟨f,u,C⟩:=fs.dbMap n (k:=b.toList) λx B=>oQ.mp (fe.mp j.1 x B);have y:(f b.toList).isSome=k:=by rw [C];exact bc D
  exact⟨wpAny_in_of (knd:=jg au c.w) (k:=b.toList) (eE _) d u ⟨_,E,y.symm▸q _ (fs.toks _)⟩,wpAny_notIn_of (knd:=jg au c.w) (k:=b.toList) (eE _) d u ⟨_,E,y.symm▸q _ (fs.toks _)⟩⟩
 |_=>exact gR h
theorem za{m s}{v u:ab}{k:aK}{Q:aK->ay->Prop}(fs:FS c A.frames V m P H s)(i:A.handled=af)(h:q8 H (er v) (er u)=G k)(q:∀s',FS c A.frames V m P H s'->Q k s'):y_ c.w A v u s Q:=
 fj h (λa e h=>hk e▸lc (f:=λo=>j7 o a (er v)) h E λo l h=>Hq fs l h q) λh=>nB h λb t e h=>nB h λz g p h=>dS h λx _ h=>by
  obtain ⟨x,rfl⟩:=x;subst e p;cases h;exact⟨SeqRoads2.in_meets (iH s b t) FB.slot_bytes_contains FB.entry_bytes_contains (Sc _ _) (y4 b t x g) ⟨i,λn j d=>⟨_,E,_,E,q _ (fs.grow d E E)⟩⟩,
   SeqRoads2.notIn_meets (iH s b t) FB.slot_bytes_contains FB.entry_bytes_contains (Sc _ _) (y4 b t x g) ⟨i,λn j d=>⟨_,E,_,E,q _ (fs.grow d E E)⟩⟩⟩
theorem bu.lt{A:bj}{D:ag}(r:bu A D):A.units<cLine:=fo (fq (he _ (4*D)) (nf (gE 39))) r.units
theorem Hr{s:ay}{op:gD}{a b:U}{t u:bv}{k:aK}{Q:ab->ay->Prop}(h:t9 op a b=G k)(q:Q (az k) s):aX (aV au c.w) A (tk op (aa a t) (aa b u)) Q No s:=by
 induction op with
 |Lt=>exact PySem.P.lt_int (bc h▸q)
 |LtE=>exact PySem.P.le_int (bc h▸q)
 |Gt=>exact PySem.P.gt_int (bc h▸q)
 |GtE=>exact PySem.P.ge_int (bc h▸q)
 |_=>exact gR h
theorem q9{m s}{op:gD}{v u:ab}{k:aK}{Q:ab->ay->Prop}(fs:FS c A.frames V m P H s)(f:bu A D)(h:cJ H op (er v) (er u)=G k)
  (q:∀s',FS c A.frames V m P H s'->Q (az k) s'):aX (aV au c.w) A (tk op v u) Q No s:=by
 have g:∀{op},((pI (er v)).bind λa=>(pI (er u)).bind λb=>t9 op a b)=G k->aX (aV au c.w) A (tk op v u) Q No s:=λh=>qX h λa t e h=>qX h λb l j h=>by rw [e,j];exact Hr h (q s fs)
 induction op with
 |Eq=>exact(t_ fs f.lt h).1 au c.w No Q (q s fs)
 |NotEq=>refine gd h λi h=>?_;obtain ⟨b,d,rfl⟩:=gm.mp h;exact(t_ fs f.lt d).2 i au c.w No Q (q s fs)
 |Is=>exact aR (y9 fs h (bY (q s fs)))
 |IsNot=>obtain ⟨b,d,rfl⟩:=gm.mp h;exact aR (y9 fs d (bY (q s fs)))
 |In=>exact cf (za (Q:=λb s'=>Q (az b) s') fs f.handled h q).1 (λr s' x=>x.elim λb x=>x.1▸x.2) λ_ _ x=>x
 |NotIn=>obtain ⟨b,d,rfl⟩:=gm.mp h;exact cf (za (Q:=λb s'=>Q (az (!b)) s') fs f.handled d q).2 (λr s' x=>x.elim λb x=>x.1▸x.2) λ_ _ x=>x
 |_=>exact g h
theorem Hs{l r:an}{op:gD}{pos:aI}{Q:ab->Hp->Prop}(f:bu A D)(g:behindInMarks op r=false)
  (h:EV c A env V P ρ H l λv N=>EV c A env V P ρ N r λu a=>∃b,cJ a op v u=G b/\Q (az b) a):EV c A env V P ρ H (kV l [op] [r] pos) Q:=λs m o d=>
 wpAny_Compare1 (h.here o d λv t N k i=>i.here k d λu p a j ⟨b,e,q⟩=>q9 j f e λw n=>⟨a,n,q⟩) g
theorem Ht{l r:an}{op:gD}{pos:aI}{Q:aK->Hp->Prop}(f:bu A D)(g:behindInMarks op r=false)
  (h:EV c A env V P ρ H l λv N=>EV c A env V P ρ N r λu a=>∃b,cJ a op v u=G b/\Q b a):TV c A env V P ρ H (kV l [op] [r] pos) Q:=λs m o d=>
 wpAny_isTrue_Compare1 (h.here o d λv t N k i=>i.here k d λu p a j ⟨b,e,q⟩=>q9 j f e λw n=>iI ⟨a,n,q⟩) g
theorem TV.here{e:an}{Q:aK->Hp->Prop}{m s}{R:aK->ay->Prop}{g:ab->ay->Prop}(h:TV c A env V P ρ H e Q)(fs:FS c A.frames V m P H s)(f:cs env P m ρ)
  (k:∀b s' d,FS c A.frames V m P d s'->Q b d->R b s'):aX (aV au c.w) A (isTrue e env (hg e env)) R g s:=
 eK (cf (h s m fs f) (λv s' ⟨d,a,b⟩=>k v s' d a b) λ_ _ x=>x)
theorem q_{e:an}{Q:aK->Hp->Prop}(f:∀a,isTrue e env a=(do let v<-a;standAt e.pos;holding [v] (truthy v)))(h:EV c A env V P ρ H e λv N=>∃b,v=az b/\Q b N):TV c A env V P ρ H e Q:=λs m i d=>wpAny_isTrue_value (h.here i d λv j N g ⟨b,e,q⟩=>by obtain rfl:=nA e;exact iI ⟨N,g,q⟩) (f _)
theorem Hu{e:an}{pos:aI}{Q:aK->Hp->Prop}(h:TV c A env V P ρ H e λb N=>Q (!b) N):TV c A env V P ρ H (na .Not e pos) Q:=λs m f a=>wpAny_isTrue_Not (h.here f a λb g N d q=>⟨N,d,q⟩)
theorem Hv{e:an}{pos:aI}{Q:ab->Hp->Prop}(h:EV c A env V P ρ H e λv N=>∃b,v=az b/\Q (az (!b)) N):EV c A env V P ρ H (na .Not e pos) Q:=λs m f a=>wpAny_UnaryOp (h.here f a λv g N d ⟨b,e,q⟩=>by obtain rfl:=nA e;exact not_value (iI ⟨N,d,q⟩))
theorem zb{t a b:an}{pos:aI}{Q:ab->Hp->Prop}(h:TV c A env V P ρ H t λk N=>if k then EV c A env V P ρ N a Q else EV c A env V P ρ N b Q):EV c A env V P ρ H (.IfExp t a b pos) Q:=λs m g d=>wpAny_IfExp (h.here g d λk j N e q=>by cases k<;>exact q.here e d λv l i f y=>⟨i,f,y⟩)
noncomputable def hW(c:Cx)(A:bj)(env:a8)(a:ae)(P:Pr)(ρ:ao)(op:BoolOp)(H:Hp)(es:L an)(Q:aK->Hp->Prop):Prop:=∀s m,FS c A.frames a m P H s->cs env P m ρ->aX (aV au c.w) A (allTrue op es env) (λb e=>∃d,FS c A.frames a m P d e/\Q b d) No s
theorem Hw{Q:aK->Hp->Prop}(h:Q true H):hW c A env V P ρ hi H [] Q:=λ_ _ a _=>wpAny_allTrue_And_nil ⟨H,a,h⟩
theorem Hx{Q:aK->Hp->Prop}(h:Q false H):hW c A env V P ρ .Or H [] Q:=λ_ _ a _=>wpAny_allTrue_Or_nil ⟨H,a,h⟩
theorem ub{e:an}{es:L an}{Q:aK->Hp->Prop}(h:TV c A env V P ρ H e λk N=>if k then hW c A env V P ρ hi N es Q else Q false N):hW c A env V P ρ hi H (e::es) Q:=λs m f a=>wpAny_allTrue_And_cons (h.here f a λk d N b q=>by cases k;exact⟨N,b,q⟩;exact q d m b a)
theorem Hy{e:an}{es:L an}{Q:aK->Hp->Prop}(h:TV c A env V P ρ H e λk N=>if k then Q true N else hW c A env V P ρ .Or N es Q):hW c A env V P ρ .Or H (e::es) Q:=λs m f a=>wpAny_allTrue_Or_cons (h.here f a λk d N b q=>by cases k;exact q d m b a;exact⟨N,b,q⟩)
theorem zc{op:BoolOp}{es:L an}{pos:aI}{Q:aK->Hp->Prop}(h:hW c A env V P ρ op H es Q):TV c A env V P ρ H (jo op es pos) Q:=λs m b a=>wpAny_isTrue_BoolOp (h s m b a)
theorem zd{a b:an}{pos:aI}{Q:ab->Hp->Prop}(h:EV c A env V P ρ H a λv N=>∃k,v=az k/\if k then EV c A env V P ρ N b Q else Q (az false) N):EV c A env V P ρ H (jo hi [a,b] pos) Q:=λs m i d=>
 wpAny_And2 (h.here i d λv l N g ⟨k,e,q⟩=>by
  obtain rfl:=nA e;cases k
  ·exact iI ⟨N,g,q⟩
  ·exact iI (q.here g d λv n j f y=>⟨j,f,y⟩))
theorem Hz{a b d:an}{pos:aI}{Q:ab->Hp->Prop}
  (h:EV c A env V P ρ H a λv N=>∃k,v=az k/\if k then EV c A env V P ρ N b (λv g=>∃k,v=az k/\if k then EV c A env V P ρ g d Q else Q (az false) g)else Q (az false) N):
  EV c A env V P ρ H (jo hi [a,b,d] pos) Q:=λs m n i=>by
 show aX _ A (do
  let v<-hg a env
  standAt pos
  let t<-holding [v] (truthy v)
  match hi,t with
  |hi,false| .Or,true=>b6 v
  |_,_=>do
   let v<-hg b env
   standAt pos
   let t<-holding [v] (truthy v)
   match hi,t with
   |hi,false| .Or,true=>b6 v
   |_,_=>hg d env) _ _ s
 refine aR (h.here n i λv r N l ⟨k,e,q⟩=>?_);obtain rfl:=nA e;refine aR (iG (aR (fO (iI ?_))));cases k
 ·exact bY ⟨N,l,q⟩
 ·rw [aJ E]at q
  refine aR (EV.here q l i λv p g j ⟨k,e,q⟩=>?_);obtain rfl:=nA e;refine aR (iG (aR (fO (iI ?_))));cases k
  ·exact bY ⟨g,j,q⟩
  ·rw [aJ E]at q
   exact EV.here q j i λv u o f y=>⟨o,f,y⟩
noncomputable def e2(c:Cx)(A:bj)(env:a8)(a:ae)(P:Pr)(ρ:ao)(H:Hp)(es:L an)(Q:L ab->Hp->Prop):Prop:=∀s m f,FS c A.frames a m P H s->cs env P m ρ->aX (aV au c.w) A (spliced (kY f (ic es env))) (λd e=>∃b,FS c A.frames a m P b e/\Q (d.map er) b) No s
theorem ra{Q:L ab->Hp->Prop}(h:Q [] H):e2 c A env V P ρ H [] Q:=λ_ _ _ a _=>wpAny_items_nil ⟨H,a,h⟩
noncomputable def cW(e:an):aK:=e.ctorIdx !=22
theorem ff{a:Prop}(h:false=true):a:=nomatch h
theorem nH{e:an}{a:L an}{env:a8}:cW e=true->ic (e::a) env=(false,hg e env)::ic a env:=by apply mi (motive_1:=λe=>cW e=true->ic (e::a) env=(false,hg e env)::ic a env) e<;>intros<;>first|rfl|exact ff ‹_›
theorem pg{e:an}{es:L an}{Q:L ab->Hp->Prop}(ns:cW e=true)(h:EV c A env V P ρ H e λv N=>e2 c A env V P ρ N es λvs a=>Q (v::vs) a):e2 c A env V P ρ H (e::es) Q:=λs m g j b=>wpAny_items_cons (h.here j b λv d N i q=>cf (q d m g i b) (λvs k ⟨a,f,y⟩=>⟨a,f,y⟩) λ_ _ x=>x) (nH ns)
theorem FS.push{m s}{o:aC}{mo:MO}(x:FS c A.frames V m P H s)(d:∀a,hT c.w (s.heap.push o) a s.heap.objs.size mo):
  H s.heap.objs.size=af/\FS c A.frames V m P (H.set s.heap.objs.size mo) {s with heap:=s.heap.push o}:=
 x.alloc (s':={s with heap:=s.heap.push o}) (ga (cw _)) (λb f e=>gF _ e) E E d
theorem uc{es:L an}{k:ag}{pos:aI}{Q:ab->Hp->Prop}(h:e2 c A env V P ρ H es λvs N=>vs.length<=bL/\∀d,N d=af->Q (J d) (N.set d (bm vs))):EV c A env V P ρ H (eG es k pos) Q:=λs m j b=>
 wpAny_Tuple (cf (h s m pos j b) (λvs l ⟨N,i,a,q⟩=>by
  have e:vs.length<=bL:=by simpa using a
  obtain ⟨f,g⟩:=i.push (o:={cls:=aM "tuple",data:=dp vs.toArray}) (mo:=bm (vs.map er)) λn=>⟨a,vs,⟨_,ng _ E,E,_,E⟩,E⟩;exact⟨ar e gT,_,g,q _ f⟩) λ_ _ x=>x)
theorem HA{es:L an}{pos:aI}{Q:ab->Hp->Prop}(h:e2 c A env V P ρ H es λvs N=>vs.length<=bL/\∀d,N d=af->Q (J d) (N.set d (ak vs))):EV c A env V P ρ H (.List es pos) Q:=λs m j b=>
 wpAny_List (cf (h s m pos j b) (λvs k ⟨N,i,a,q⟩=>by
  have e:vs.length<=bL:=by simpa using a
  obtain ⟨f,g⟩:=i.push (o:={cls:=aM "list",data:=dp vs.toArray}) (mo:=ak (vs.map er)) λl=>⟨a,vs,⟨_,ng _ E⟩,E⟩;exact⟨ar e gT,_,g,q _ f⟩) λ_ _ x=>x)
theorem HB{pos:aI}{Q:ab->Hp->Prop}(h:∀d,H d=af->Q (J d) (H.set d (aO []))):EV c A env V P ρ H (kQ [] [] pos) Q:=λs m e f=>wpAny_Dict_empty (by obtain ⟨a,b⟩:=e.push (o:={cls:=aM "dict",data:=e5 #[]}) (mo:=aO []) λg=>⟨eh _,[],Ee _,E⟩;exact⟨_,b,h _ a⟩)
noncomputable def e8{α:Type}(l:L α)(a b:aj U):L α:=(l.drop (a.elim 0 (jX l.length))).take (b.elim l.length (jX l.length)-a.elim 0 (jX l.length))
noncomputable def nI(c:Cx)(A:bj)(env:a8)(a:ae)(P:Pr)(ρ:ao)(H:Hp)(o:aj an)(K:aj U->Hp->Prop):Prop:=match o with
 |none=>K af H
 |some e=>EV c A env a P ρ H e λv b=>∃i,v=aa i 0/\K (G i) b
theorem nI.here{o:aj an}{K:aj U->Hp->Prop}{m s}{R:ab->ay->Prop}(h:nI c A env V P ρ H o K)(fs:FS c A.frames V m P H s)(f:cs env P m ρ)
  (k:∀v i s' b,FS c A.frames V m P b s'->IsPart v i->K i b->R v s'):aX (aV au c.w) A (valueOrNone (evalOpt o env)) R No s:=by
 cases o with
 |none=>exact bY (k _ _ s H fs .none h)
 |some e=>exact EV.here (show EV c A env V P ρ H e λv a=>∃i,v=aa i 0/\K (G i) a from h) fs f λv d a g x=>x.elim λi x=>(nz x.1).elim λt e=>k _ _ d a g (e▸ .int i t) x.2
noncomputable def nJ(v:ab)(f g e:aj U)(H:Hp)(Q:ab->Hp->Prop):Prop:=
 (∃b,pY v=G b/\e=af/\b.size<=bL/\Q (aq (e8 b.toList f g).toArray 0) H)\/∃a c,pR v=G a/\bD H a=G c/\
  ((e=af/\∀d,H d=af->Q (J d) (H.set d (ak (e8 c f g))))\/(f=af/\g=af/\e=G (-1)/\∀d,H d=af->Q (J d) (H.set d (ak c.reverse))))
theorem ze{α c:Type}(f:α->c)(l:L α)(a b:aj U):(e8 l a b).map f=e8 (l.map f) a b:=by unfold e8;rw [L.map_take,L.map_drop,bJ]
theorem zf{α:Type}(l:L α)(a b:aj U):(e8 l a b).length<=l.length:=by unfold e8;rw [L.length_take,xk];exact ar (ag.min_le_right _ _) (ag.sub_le _ _)
noncomputable def rb(s:ay)(b a vs:ab):ay:={s with heap:=s.heap.push {cls:=aM "slice",data:=cx #[b,a,vs]}}
theorem zg{m s}{a:ae}{ys:L ab}{h g vs:ab}{l t i:aj U}{x:an}{k j step:aj an}{p:aI}{f:L ab->L ab}{Q:ab->Hp->Prop}(fs:FS c A.frames V m P H s)(K:bD H a=G ys)(C:IsPart h l)(y:IsPart g t)(B:IsPart vs i)
  (N:i≠G 0) (M:∀ws:L ab,slicePick ws.toArray l t i=(f ws).toArray) (I:∀ws:L ab,(f ws).map er=f (ws.map er)) (D:(f ys).length<=ys.length) (q:∀d,H d=af->Q (J d) (H.set d (ak (f ys)))):
  aX (aV au c.w) A (subscriptTail x (m9 k j step p) (J a) (J s.heap.objs.size)) (λr s'=>∃v,FS c A.frames V m P v s'/\Q (er r) v) No (rb s h g vs):=
 have u:FS c A.frames V m P H (rb s h g vs):=fs.grow (λb o e=>gF _ e) E E
 (t3 (m9 k j step p) (J a) (J s.heap.objs.size)).elim λS F=>u.listK K λws b n e=>oL n.typeIs D4.lookup (wpAny_getItem_list_slice n (Ef s.heap h g vs) C y B N (by have z:=u.push (o:={cls:=aM "list",data:=dp (f ws).toArray}) (mo:=ak (f ys)) λR=>⟨ar D b,f ws,⟨_,ng _ E⟩,(I ws).trans (aA f e)⟩;rw [M];exact⟨_,z.2,q _ z.1⟩) (ar (cR ((bJ er).symm.trans (aA hJ e))) (ar b gT))) F
theorem HC{m s}{v n j vs:ab}{d g D:aj U}{M:an}{F C step:aj an}{p:aI}{Q:ab->Hp->Prop}(fs:FS c A.frames V m P H s)(B:IsPart n d)(u:IsPart j g)(q:IsPart vs D)(h:nJ (er v) d g D H Q):
  aX (aV au c.w) A (subscriptTail M (m9 F C step p) v (J s.heap.objs.size)) (λr s'=>∃K,FS c A.frames V m P K s'/\Q (er r) K) No (rb s n j vs):=
 h.elim (λx=>x.elim λb x=>(mu x.1).elim λt e=>(t3 (m9 F C step p) v (J s.heap.objs.size)).elim λT I=>by
  have N:FS c A.frames V m P H (rb s n j vs):=fs.grow (λb o e=>gF _ e) E E;rw [e]at I⊢;rw [x.2.1]at q;cases q;refine oL (iH _ _ _) FB.slot_bytes_getitem.lookup (getItem_meets (iH _ _ _) (by decide) FB.slot_bytes_getitem FB.entry_bytes_getitem (FB.args_bytes_getitem_2 _ _) (KBc.meets_slice2 b t _ B u) ⟨Ef s.heap n j ah,ar (KBc.size_picked_le b d g) (ar x.2.2.1 gT),λS k=>?_⟩) I
  rw [KBc.picked_eq];exact⟨H,N.toks k,x.2.2.2⟩) λx=>x.elim λa x=>x.elim λR x=>hk x.1▸x.2.2.elim
   (λy=>zg (f:=λl=>e8 l d g) fs x.2.1 B u q (λz=>nomatch y.1.symm.trans z) (λi=>by rw [y.1,slicePick_plain];rfl) (λi=>ze er i d g) (zf _ _ _) y.2)
   λy=>zg (f:=L.reverse) fs x.2.1 B u q (λz=>nomatch y.2.2.1.symm.trans z) (λi=>by rw [y.1,y.2.1,y.2.2.1,krv_pick]) (λi=>Eg) (cR nh) y.2.2.2
theorem ud{e:an}{f b step:aj an}{p pos:aI}{Q:ab->Hp->Prop}
  (h:EV c A env V P ρ H e λv l=>nI c A env V P ρ l f λg N=>nI c A env V P ρ N b λi k=>nI c A env V P ρ k step λd j=>nJ v g i d j Q):
  EV c A env V P ρ H (oM e (m9 f b step p) pos) Q:=λs m C a=>by
 refine Subscript_ (h.here C a λv S l B w=>?_);rw [arm_eval_Slice];refine aR (w.here B a λI g R N z q u=>aR (fO (u.here z a λD i M k y n t=>aR (fO (t.here y a λF d K j x o r=>?_)))));unfold newFields;exact Eh (HC x q n o r)
noncomputable def mw:L ae:=[61,68,96,101,108,113,120,127,134,141,148,160,167,174,182,189,196,210,215,276,283,290,297,316,321,328,342,347,352,387,394,401,406,413,420,434,441,448,491,672,680,685,802,809,817,824,829,834,841,848,855,862,869,876,883,890,895,902,909,916,923,928,933,938,943,
 470,528,535,542,549,586,593,621,658,707,729,737,744,764,771,39,52,85,265,480,661,790]
theorem HD(w:bh):(mw.all λa=>keepIn (KK w) (J a))=true:=by kernel_rfl!
theorem rd{c:Cx}{a:ae}(h:mw.contains a=true):keepIn (KK c.w) (J a)=true:=fe.mp (HD c.w) a (dE.mp h)
theorem nK{pos:aI}{env:a8}:∀{es:L an},es.all cW=true->(kY pos (ic es env)).all (!·.1)=true/\(kY pos (ic es env)).any (·.1)=false
 |[],_=>⟨E,E⟩
 |e::es,h=>by simp only [oP,fg]at h;obtain ⟨a,b⟩:=nK (pos:=pos) (env:=env) h.2;rw [nH h.1];exact⟨by show(true&&_)=true;rw [aK.true_and];exact a,by show(false||_)=false;rw [aK.false_or];exact b⟩
theorem zh{m:a6->aj ab}{s':ay}{o:aC}{a:Hp}(b:P V=af)(d:c.h₀.get? V=af)(n:hU o m)(y:HS c A.frames (P.set V o) a s'):FS c A.frames V m P a s':=⟨b,d,o,n,y⟩
theorem fX.code{f:ab}{vs:L ab}{ws:L ab}{Q:ab->Hp->Prop}{R:hH->ay->Prop}{m s}(h:fX c D f vs H Q)(fs:FS c A.frames V m P H s)(b:bu A D)(e:ws.map er=vs)(k:∀v s' a,FS c A.frames V m P a s'->Q (er v) a->R (dW (ck v)) s'):
  jl (aV au c.w) A (.call f ⟨ws,[]⟩) R s:=fs.st.elim λo y=>jm (h A (P.set V o) s ws b y.2 e) λr s'=>by
 cases r with
 |error e=>exact d8.elim
 |ok d=>cases d with
  |ret v=>exact λz=>z.elim λa z=>k v s' a (zh fs.pl fs.hl y.1 z.1) z.2
  |_=>exact d8.elim
theorem fX.here{f:ab}{vs:L ab}{ws:L ab}{Q:ab->Hp->Prop}{m s}(h:fX c D f vs H Q)(fs:FS c A.frames V m P H s)(b:bu A D)(e:ws.map er=vs):
  aX (aV au c.w) A (hP f ws) (λv s'=>∃a,FS c A.frames V m P a s'/\Q (er v) a) No s:=oR (h.code fs b e λv s' a f q=>⟨a,f,q⟩)
theorem zi{es:L an}{a:ae}{first vs0:L ab}{pos:aI}{Q:ab->Hp->Prop}{m s}(ns:es.all cW=true)(g:mw.contains a=true)(fs:FS c A.frames V m P H s)(f:cs env P m ρ)(d:bu A D)(i:first.map er=vs0)
  (h:e2 c A env V P ρ H es λvs N=>fX c D (J a) (vs0++vs) N Q):aX (aV au c.w) A (callWith pos (J a) first (kY pos (ic es env)) []) (λv s'=>∃j,FS c A.frames V m P j s'/\Q (er v) j) No s:=by
 cases es with
 |nil=>refine callWith_of (P:=λl=>(KK c.w).In l) E (keeps_K (rd g)) ?_;unfold evalArgs;show aX _ A (spliced []>>=_) _ _ s;refine aR (cf (h s m pos fs f) (λvs k ⟨N,b,y⟩=>?_) λ_ _ x=>x);refine aR (bY ?_);refine fO ?_;exact aR (bY (aR (bY (bY ⟨b.kk,y.here b d (by rw [c0,i])⟩))))
 |cons e n=>simp only [oP,fg]at ns;refine callWith_K (h₀:=s.heap) fs.kk (rd g) (cf (h s m pos fs f) (λvs k ⟨N,b,y⟩=>⟨b.kk,y.here b d (by rw [c0,i])⟩) λ_ _ x=>x) (nH ns.1) (nK ns.2).2
theorem HE{x:am}{a:ae}{es:L an}{p pos:aI}{Q:ab->Hp->Prop}(l:cc env V)(d:bu A D)(f:fk x=true)(k:env.kindOf (I x)=G f9)(e:tZ c x=G (J a))(ns:es.all cW=true)(g:mw.contains a=true)
  (h:e2 c A env V P ρ H es λvs N=>fX c D (J a) vs N Q):EV c A env V P ρ H (eV (bA (I x) p) es [] pos) Q:=λs m j b=>
 tl (EV.here (yM (Q:=λv q=>v=J a/\q=H) l f k e ⟨E,E⟩) j b λv r N i ⟨o,n⟩=>by obtain rfl:=dr o;subst n;exact zi (vs0:=[]) ns g i b d E h)
theorem zj{o:an}{f:am}{d pos:aI}{es:L an}{R:ab->ay->Prop}{s:ay}(g:iR o=true)(ns:es.all cW=true)(j:es.length<30)(i:(d.endLine==pos.line)=true)
  (h:aX (aV au c.w) A (hg o env) (λv a=>∀e,aX (aV au c.w) A (getMethod v (I f) e) (λp b=>aX (aV au c.w) A (callWith pos p.1 p.2 (kY pos (ic es env)) []) R No b) No a) No s):
  aX (aV au c.w) A (hg (eV (eu o (I f) d) es [] pos) env) R No s:=by
 rw [arm_eval_Call,q2 g];refine aR (cf h (λv a y=>aR (iG ?_)) λ_ _ x=>x)
 have k:methodCallForm (es.length+([]:L Keyword).length) (kY pos (ic es env)) (backToKw pos (keywordEach [] env))=true:=by
  show((kY pos (ic es env)).all (!·.1)&&true&&decide (es.length<30))=true
  rw [(nK ns).1,cN j];rfl
 unfold methodCall;rw [k];refine aR (fO ?_);show aX _ A (getMethod _ _ _) _ _ a;refine cf (y _) (λp b z=>?_) λ_ _ x=>x;unfold methodCallPos;rw [aJ (by rw [i];rfl)]
 exact aR (bY z)
theorem HF{o:an}{f:am}{j pos:aI}{es:L an}{Q:ab->Hp->Prop}(q:bu A D)(t:iR o=true)(ns:es.all cW=true)(w:es.length<30)(u:(j.endLine==pos.line)=true)
  (h:EV c A env V P ρ H o λv N=>∃a C d g,v=J a/\N a=G (bZ C d)/\d.lookup f=af/\mv.contains ((C,f),g)=true/\e2 c A env V P ρ N es λvs z=>fX c D (J g) (J a::vs) z Q):
  EV c A env V P ρ H (eV (eu o (I f) j) es [] pos) Q:=λs m y e=>
 zj t ns w u (h.here y e λv B N b x F=>x.elim λa x=>x.elim λC x=>x.elim λd x=>x.elim λg x=>(b.real x.2.1).elim λK r=>r.elim λM r=>r.elim λi r=>r.elim λn r=>dr x.1▸(
  have T:=hQ.mp (GJ (c:=c) x.2.2.2.1);have k:=hQ.mp T.1;have l:=xb k.1
  method_fn (od:=G (mb i n)) b.kk ⟨r.2.1,E,E,r.2.2.1⟩ l.1 l.2 (cU k.2) (cU T.2) (by show(lookIn (I f) (mb i n)).map _=_;rw [lookIn_dict,(q1 r.2.2.2 f).1 x.2.2.1];rfl)
   (zi (vs0:=[J a]) ns (fe.mp (show(mv.all λp=>mw.contains p.2)=true by decide) _ (dE.mp x.2.2.2.1)) b e q E x.2.2.2.2)))
theorem HG(C:ae)(a:L ab):(hI "type.__call__" ⟨J C::a,[]⟩).cUnits<=3:=(by decide+kernel:(Code.builtin "type.__call__" ⟨.ref 0::[],[]⟩).cUnits<=3)
theorem bu.tc{A:bj}{D:ag}{C:ae}{a:L ab}(r:bu A (D+1)):bu (A.under (hI "type.__call__" ⟨J C::a,[]⟩)) D:=⟨ar (cR (s_ A.depth D)) r.depth,ar (go (go (gn (HG C a) A.units) (4*D)) 40) (bu.deeper (env:=gp) r).units,r.handled⟩
theorem HS.kk{s}(x:HS c A.frames P H s):(KK c.w).In s.heap:=λa o e=>let ⟨_,z⟩:=x.hr;z.stat _ _ (c.kk a o e)
theorem HH{C i:ae}{vs:L ab}{Q:ab->Hp->Prop}(w:qZ.contains (C,i)=true)
  (h:∀x,H x=af->fX c D (J i) (J x::vs) (H.set x (bZ C [])) (λr j=>r=ah/\Q (J x) j)):fX c (D+1) (J C) vs H Q:=λA P s k u l e=>by
 have T:=GK (c:=c) w;simp only [t1,fg,c4]at T;obtain ⟨⟨R,N⟩,M⟩:=T;have X:=l.kk;obtain ⟨f,g,d,t,W⟩:=s;refine make_core (makes_of X R) (tm X N) (λp=>bind_fn X p M) (bt E) ?_;obtain ⟨F,B,I,V,z⟩:=l
 have m:=z.allocInst (a:=f.objs.size+1) (dx:=f.objs.size) (C:=C) (es:=[]) (n:=0) (h':=(f.push emptyDict).push (instObj C f.objs.size)) (fs:=[])
  (ga (dY _)) (ga (cw _)) (λb o q=>gF _ (gF _ q)) (by heap_get) (by heap_get) .nil
 have K:H (f.objs.size+1)=af:=(z.fresh (ga (dY _))).1;refine jm (h _ K (A.under (hI "type.__call__" ⟨J C::k,[]⟩)) P _ (J (f.objs.size+1)::k) u.tc ⟨F,B,I,_,m⟩ (by rw [e6,e];rfl)) λr S y=>?_
 rcases r with _|(v|_|_|_)<;>first|exact y.elim|skip
 obtain ⟨j,a,b,q⟩:=y;exact⟨yJ b,j,a,q⟩
end
structure cY(c:Cx)(env:a8)(b:ae)(Pb P:Pr):Prop where
 eo:cc env b
 sub:∀a o,Pb a=G o->P a=G o
 own:∀(x:am) a,env.kindOf (I x)=G ft->env.cells.lookup (I x)=G a->Pb a=af/\c.h₀.get? a=af/\∃o v,P a=G o/\o.data=dZ v
noncomputable def nL:b_->b_
 |ck v=>ck (er v)
 |f=>f
noncomputable def fz(c:Cx)(l:aj (L a8))(env:a8)(e:ae)(Pb:Pr)(Q:ao->Hp->Prop)(s':ay):Prop:=∃a b f d,cY c env e Pb a/\FS c l e d a f s'/\cs env a d b/\Q b f
theorem fz.el{c:Cx}{l:aj (L a8)}{env:a8}{a:ae}{Pb:Pr}{Q:ao->Hp->Prop}{s':ay}{b:Prop}(x:fz c l env a Pb Q s')(k:∀P ρ H m,cY c env a Pb P->FS c l a m P H s'->cs env P m ρ->Q ρ H->b):b:=x.elim λP x=>x.elim λρ x=>x.elim λH x=>x.elim λm x=>k P ρ H m x.1 x.2.1 x.2.2.1 x.2.2.2
noncomputable def XS(c:Cx)(A:bj)(env:a8)(a:ae)(Pb:Pr)(f:ab->ay->Prop)(ρ:ao)(H:Hp)(b:L bz)(Q:b_->ao->Hp->Prop):Prop:=∀s m P,cY c env a Pb P->FS c A.frames a m P H s->cs env P m ρ->aX (aV au c.w) A (iz b env) (λe d=>fz c A.frames env a Pb (Q (nL e)) d) f s
noncomputable def X1(c:Cx)(A:bj)(env:a8)(a:ae)(Pb:Pr)(f:ab->ay->Prop)(ρ:ao)(H:Hp)(b:bz)(Q:b_->ao->Hp->Prop):Prop:=∀s m P,cY c env a Pb P->FS c A.frames a m P H s->cs env P m ρ->aX (aV au c.w) A (exec b env) (λe d=>fz c A.frames env a Pb (Q (nL e)) d) f s
noncomputable def AS(c:Cx)(A:bj)(env:a8)(a:ae)(Pb:Pr)(ρ:ao)(H:Hp)(t:an)(v:ab)(Q:ao->Hp->Prop):Prop:=∀s m P b,cY c env a Pb P->FS c A.frames a m P H s->cs env P m ρ->er b=v->aX (aV au c.w) A (jp t env b) (λ_ d=>fz c A.frames env a Pb Q d) No s
noncomputable def fA(c:Cx)(A:bj)(env:a8)(a:ae)(Pb:Pr)(ρ:ao)(H:Hp)(e:an)(Q:ab->Hp->Prop):Prop:=∀P,cY c env a Pb P->EV c A env a P ρ H e Q
noncomputable def zk(c:Cx)(A:bj)(env:a8)(a:ae)(Pb:Pr)(ρ:ao)(H:Hp)(e:an)(Q:aK->Hp->Prop):Prop:=∀P,cY c env a Pb P->TV c A env a P ρ H e Q
section
variable{c:Cx}{A:bj}{env:a8}{V:ae}{Pb:Pr}{be:ab->ay->Prop}{ρ:ao}{H:Hp}{D:ag}
theorem lp(x:am)(v:ab)(ρ:ao)(y:am):(aZ x v ρ).lookup y=if y=x then G v else ρ.lookup y:=by
 induction ρ with
 |nil=>
  show qG y [(x,v)]=_
  by_cases h:y=x
  ·rw [aJ h,k8 h]
  ·rw [aG h,iQ h]
 |cons p r b=>
  show qG y (if(p.1==x)=true then(p.1,v)::r else(p.1,p.2)::aZ x v r)=if y=x then G v else qG y ((p.1,p.2)::r)
  by_cases a:p.1=x
  ·rw [a,aJ (eE x)]
   by_cases h:y=x
   ·rw [aJ h,k8 h]
   ·rw [aG h,iQ h,iQ h]
  ·rw [aG λz=>a (cU z)]
   by_cases h:y=p.1
   ·rw [k8 h,k8 h,aG (h▸a)]
   ·rw [iQ h,iQ h,b]
noncomputable def iT(env:a8)(x:am):aK:=fk x&&(env.kindOf (I x)==G .local||env.kindOf (I x)==G ft)
theorem zl{l:L (a6×ae)}(h:(l.map (·.2)).Nodup){x y:a6}{a:ae}(d:l.lookup x=G a)(g:l.lookup y=G a):x=y:=by
 induction l with
 |nil=>nomatch d
 |cons p r j=>
  have h:p.2∉r.map (·.2)/\(r.map (·.2)).Nodup:=cS.mp h
  have i:∀{q:a6} {k:Prop},r.lookup q=G p.2->k:=λe=>bW (jV (f:=λq:a6×ae=>q.2) (j4 e)) h.1
  by_cases c:x=p.1
  ·by_cases b:y=p.1
   ·exact c.trans b.symm
   ·exact i (((iQ b).symm.trans g).trans (d.symm.trans (k8 c)))
  ·by_cases b:y=p.1
   ·exact i (((iQ c).symm.trans d).trans (g.symm.trans (k8 b)))
   ·exact j h.2 ((iQ c).symm.trans d) ((iQ b).symm.trans g)
theorem FS.neL{P:Pr}{m s d o}(fs:FS c A.frames V m P H s)(a:P d=G o):d≠V:=nn a fs.pl
theorem zm{P:Pr}{d a b:ae}{o q c:aC}(f:d≠a)(e:(P.set d o).set a q b=G c):((P.set a q).set d o) b=G c:=o8 P o q f▸e
theorem eJ.setd{P:Pr}{h₀:bI}{l:aj (L a8)}{d:ae}{o q:aC}(f:eJ h₀ l (P.set V q))(n:j6 l d):eJ h₀ l ((P.set d o).set V q):=f.but n λb c a e=>gr (M:=λb c=>b≠d->(P.set d o).set V q b=G c) e (λ_=>b8 _ _ _) (λg e a=>(bg _ _ g).trans ((bg _ _ a).trans e)) a
theorem FS.keepSet{P:Pr}{m s s'}{d:ae}{o o':aC}(fs:FS c A.frames V m P H s)(a:P d=G o)(l:c.h₀.get? d=af)(i:∀b o,b≠d->s.heap.get? b=G o->s'.heap.get? b=G o)(k:s'.heap.get? d=G o')(j:s'.gens=s.gens)(g:s'.os=s.os)(h:¬dL o):
  FS c A.frames V m (P.set d o') H s':=
 have e:=fs.neL a
 ⟨(bg _ _ e.symm).trans fs.pl,fs.hl,fs.st.imp λf q=>⟨q.1,j.trans q.2.gens,g.trans q.2.os,q.2.frs.setd (fs.notFr a h),q.2.hr.imp λn z=>(z.setP (fs.out a f) l i k).lessP λb p=>zm e⟩⟩
theorem cs.put{x:am}{w:ab}{P P':Pr}{m m'}(b:cs env P m ρ)(c:fk x=true)(h:∀y v,y≠x->ej env P m y v->ej env P' m' y v)(l:ej env P' m' x w):cs env P' m' (aZ x (er w) ρ):=λy v e=>by
 rw [lp]at e
 by_cases a:y=x
 ·rw [aJ a]at e;exact a▸⟨c,w,bc e,l⟩
 ·rw [aG a]at e;exact(b y v e).imp_right (c3 λu=>jk (h y u a))
theorem re{x:am}{w:ab}{P:Pr}{m s}{Q:ao->Hp->Prop}(k:iT env x=true)(d:cY c env V Pb P)(fs:FS c A.frames V m P H s)(N:cs env P m ρ)(q:Q (aZ x (er w) ρ) H):
  aX (aV au c.w) A (storeName env (I x) w) (λ_ s'=>fz c A.frames env V Pb Q s') No s:=by
 have R:=(hQ.mp k).1;refine((oS _ _).mp (hQ.mp k).2).elim (λk=>?_) λk=>?_
 ·have k:=cU k
  refine Ei (m:=m) k (d.eo.loc.symm▸fs.ns) (λM W t=>?_) (by rw [d.eo.kind];rfl)
  rw [d.eo.loc]at W t;refine⟨P,_,H,_,d,fs.store (s':={s with heap:=M,toks:=s.toks+1}) W t E E,N.put R (λy v D l=>?_) (.loc k (aJ E)),q⟩
  induction l with
  |loc i F=>exact .loc i ((aG λz=>D (li z)).trans F)
  |cell i h j K=>exact me i h j K
 ·have k:=cU k
  refine hd λac g=>(jj.mp (d.eo.cel _ k)).elim λa p=>(d.own x a k p).2.2.elim λo r=>r.elim λZ r=>g ?_;have f:=d.own x a k p;have T:=nC r.2;refine wpAny_storeName_cell d.eo.kind k p ⟨o,fs.prot r.1 T,r.2⟩ λM X t=>X.elim λS B=>⟨P.set a S,_,H,m,
   ⟨d.eo,λb C e=>(bg _ _ (nn e f.1)).trans (d.sub b C e),λu b h j=>⟨(d.own u b h j).1,(d.own u b h j).2.1,?_⟩⟩,
   fs.keepSet (s':={s with heap:=M}) r.1 f.2.1 (λb C n e=>(t.2 b n).trans e) B.1 E E T,N.put R (λy v D l=>?_) (me (bt k) p (b8 _ _ _) B.2),q⟩
  ·by_cases n:b=a
   ·exact⟨S,_,n▸b8 _ _ _,B.2⟩
   ·exact(d.own u b h j).2.2.imp λC=>c3 λY z=>⟨(bg _ _ n).trans z.1,z.2⟩
  ·induction l with
   |loc i F=>exact .loc i F
   |cell i h j K=>exact me i h ((bg _ _ λn=>D (li (zl d.eo.inj (n▸h) p))).trans j) K
theorem ue{x:am}{pos:aI}{v:ab}{Q:ao->Hp->Prop}(k:iT env x=true)(q:Q (aZ x v ρ) H):AS c A env V Pb ρ H (bA (I x) pos) v Q:=λs m P w d b a e=>Ej (re k d b a (by rw [e];exact q))
end
noncomputable def rf(h:bI)(a d:ae):L (ae×aC):=(nD h a).filter λp=>decide (p.1≠d)
theorem HI{h:bI}{a d b:ae}{o:aC}(e:h.get? b=G o)(n:b≠a)(c:b≠d):(b,o)∈rf h a d:=ie.mpr ⟨t4 e n,by simpa using c⟩
theorem HJ(h:bI)(a d:ae):News ju a h (rf h a d):=λp b=>q4 h a p (ie.mp b).1
theorem HK{h:bI}{b d:ae}:∀p∈rf h b d,p.1≠d:=λp a=>by simpa using (ie.mp a).2
theorem HL{o:aC}(h:dL o):o.isFreed=false:=h.elim λb h=>h.elim λe h=>by obtain ⟨c,d,f,a⟩:=o;cases h;rfl
theorem HM{c:bI}{a:ae}{o o':aC}(e:c.get? a=G o)(f:o'.isFreed=false):∃d:bI,d.get? a=G o'/\∀b,b≠a->d.get? b=c.get? b:=⟨c.update a λ_=>o',tn _ e f,λb g=>Ek _ _ _ _ g⟩
theorem HN(name:a6)(b:U)(key v:ab)(es:L iA):(putL name b key v es).length<=es.length+1:=by
 induction es with
 |nil=>exact cw _
 |cons e r a=>
  unfold putL
  by_cases h:e.key.isStr name=true
  ·rw [aJ h];exact dY _
  ·rw [aG h];exact df a
section
variable{c:Cx}{A:bj}{env:a8}{V:ae}{Pb P:Pr}{be:ab->ay->Prop}{ρ:ao}{H:Hp}{D:ag}
theorem HO{m s}{a C:ae}{k:L (am×ab)}{f:am}{w:ab}{Q:hK->ay->Prop}(fs:FS c A.frames V m P H s)(o:H a=G (bZ C k))(R:hV.contains (C,f)=true)(N:k.length<=100)(S:dJ w=true)
  (q:∀s',FS c A.frames V m P (H.set a (bZ C (aZ f (er w) k))) s'->Q () s'):aX (aV au c.w) A (setAttr (J a) (I f) w) Q No s:=by
 refine hd λal g=>fs.st.elim λt y=>y.2.hr.elim λF z=>(z.real a _ o).elim λd r=>r.elim λp r=>r.elim λn r=>(y.1.soft (z.prot _ _ (b8 _ _ _))).elim λad D=>g ?_;have T:=hQ.mp (yP (c:=c) R);have u:=hQ.mp T.1;have x:=hQ.mp u.1;have Z:=hQ.mp (hQ.mp x.1).1;have X:d≠V:=(nn (b8 P V t) (z.owned d a r.1).1).symm
 have W:(getL (I f) p).isSome=true:=by
  cases e:k.lookup f with
  |none=>rw [(q1 r.2.2.2 f).1 e];rfl
  |some v=>exact((q1 r.2.2.2 f).2 v e).elim λv' q=>by rw [q.2.2];rfl
 refine set_plain (od:=G (mb p n)) fs.kk ⟨r.2.1,E,E,r.2.2.1⟩ (cU x.2) ?_;have ac:News ju V s.heap ([]++(d,mb p n)::rf s.heap V d):=FA ⟨r.2.2.1,X,E⟩ (HJ s.heap V d);refine osa_dict (s:={s with toks:=s.toks+1}) (pc fs.ns) ac fs.kk ⟨r.2.1,E,E,r.2.2.1⟩ E u.2 (cU T.2) Z.2 (by rw [lookIn_dict];exact W) FN HK (putName_dict _ _ _ _ _ _) E
  (ar (HN _ _ _ _ _) (ar (df (ar (cR (GP r.2.2.2)) N)) (by decide))) λh' F' B=>q _ ?_
 refine(j5 F'.ns).elim λM i=>(HM D.1 (HL i.2.dict)).elim λhm h=>?_;have Y:a≠V:=(nn (b8 P V t) (z.apart a _ o).2.1).symm;refine⟨fs.pl,fs.hl,M,i.2,y.2.gens,y.2.os,y.2.frs.own i.2.dict,F,(z.anew fs.hl (λb K l e=>(h.2 b l).trans e) h.1).setInst o r.1 ((h.2 a Y).trans r.2.1) (λb K l e=>?_) (B (d,_) (d_ _)).1 (GN f _ _ w r.2.2.2 S)⟩
 by_cases j:b=V
 ·rw [j,h.1]at e;exact j▸i.1.trans e
 ·exact(B _ (dh _ (HI ((h.2 b j).symm.trans e) j l))).1
theorem HP{e:an}{f:am}{pos:aI}{v:ab}{Q:ao->Hp->Prop}
  (h:fA c A env V Pb ρ H e λo N=>∃a C b,o=J a/\N a=G (bZ C b)/\hV.contains (C,f)=true/\b.length<=100/\dJ v=true/\Q ρ (N.set a (bZ C (aZ f v b)))):AS c A env V Pb ρ H (eu e (I f) pos) v Q:=λs m P w i n d j=>
 kas_attr ((h P i).here n d λo p N k x=>hd λr g=>x.elim λa x=>x.elim λC x=>x.elim λb x=>g (dr x.1▸
  HO k x.2.1 x.2.2.1 x.2.2.2.1 (yL.symm.trans (j.symm▸x.2.2.2.2.1)) λq l=>⟨P,ρ,_,m,i,l,d,j▸x.2.2.2.2.2⟩))
noncomputable def em(kvs:L (U×ab))(k:U)(v:ab):L (U×ab):=if kvs.any (λa=>decide (a.1=k))then kvs.map (λa=>if a.1=k then(a.1,v)else a)else kvs++[(k,v)]
theorem uf(b:L (U×ab))(k:U)(w:ab):(stored b k w).map (λp=>(p.1,er p.2))=em (b.map λp=>(p.1,er p.2)) k (er w):=by
 unfold stored em;rw [L.any_map];have e:(λa:U×ab=>decide (a.1=k))∘(λp:U×ab=>(p.1,er p.2))=λa=>decide (a.1=k):=E;rw [e]
 by_cases h:(b.any λa=>decide (a.1=k))=true
 ·rw [aJ h,aJ h,dC,dC]
  refine jq λp _=>?_;show(λp:U×ab=>(p.1,er p.2)) (if p.1=k then(p.1,w)else p)=if p.1=k then(p.1,er w)else(p.1,er p.2)
  by_cases q:p.1=k
  ·rw [aJ q,aJ q]
  ·rw [aG q,aG q]
 ·rw [aG h,aG h,c0];rfl
noncomputable def zn(k:U)(v:ab)(a:ae)(H:Hp)(Q:Hp->Prop)(o:aj MO):Prop:=match o with
 |some (ak b)=>0<=k/\k<b.length/\Q (H.set a (ak (b.set k.toNat v)))
 |some (aO c)=>c.length+1<=bL/\Q (H.set a (aO (em c k v)))
 |_=>d8
noncomputable def zo(o i v:ab)(H:Hp)(Q:Hp->Prop):Prop:=∃a k,pR o=G a/\pI i=G k/\zn k v a H Q (H a)
theorem HQ(ws:L ab)(j:ag)(w:ab):ws.toArray.setIfInBounds j w=(ws.set j w).toArray:=by apply tf.mp;rw [a9.toList_setIfInBounds]
theorem HT{m s}{a:ae}{k:U}{t:bv}{w:ab}{Q:Hp->Prop}(fs:FS c A.frames V m P H s)(h:zn k (er w) a H Q (H a)):aX (aV au c.w) A (setItem (J a) (aa k t) w) (λ_ s'=>∃z,FS c A.frames V m P z s'/\Q z) No s:=by
 cases d:H a with
 |none=>rw [d]at h;exact h.elim
 |some C=>
  rw [d]at h
  induction C with
  |list u=>refine hd λN g=>(fs.real d).elim λj r=>r.2.elim λf y=>y.1.elim λn x=>g ?_;have i:f.length=u.length:=(bJ er).symm.trans (aA hJ y.2);have v:=PySem.IsL.update (l:=a) (items:=f.toArray) (n:=n) x (λD=>D.setIfInBounds k.toNat w);rw [HQ]at v;refine ki_setAt (n:=n) x h.1 (tq h.2.1 (jY (ib.mpr r.1) (by decide))) (by show k<(f.length:U);rw [i];exact h.2.1) ⟨_,fs.setAt (mo':=ak (u.set k.toNat (er w))) (s':={s with heap:=s.heap.update a (xl (·.setIfInBounds k.toNat w))}) d E (λb B q e=>(tt _ _ (Ne.symm q)).trans e) E E (λj=>⟨by rw [L.length_set];exact r.1,f.set k.toNat w,⟨_,v⟩,by rw [L.map_set,y.2]⟩),h.2.2⟩
  |di p=>
   refine hd λN g=>(fs.real d).elim λj r=>r.2.elim λo y=>g ?_;have i:o.length=p.length:=(bJ _).symm.trans (aA hJ y.2);have M:(em p k (er w)).length=(stored o k w).length:=by rw [<-y.2,<-uf,bJ]
   exact wpAny_setItem_pairs (knd:=hf au c.w) (k:=k) (eE k) y.1 (λK I F=>⟨_,fs.setAt (mo':=aO (em p k (er w))) (s':={s with heap:=K,toks:=s.toks+1}) d E (λb B q e=>(F.2 b q).trans e) E E (λj=>⟨by rw [M];exact ar (stored_length_le o k w) (i▸h.1),_,I,by rw [uf,y.2]⟩),h.2⟩) (by rw [i];exact ar r.1 gT)
  |_=>exact h.elim
theorem HU{o i:an}{pos:aI}{v:ab}{Q:ao->Hp->Prop}
  (h:fA c A env V Pb ρ H o λf N=>fA c A env V Pb ρ N i λj l=>zo f j v l (Q ρ)):AS c A env V Pb ρ H (oM o i pos) v Q:=λs m P w d u b z=>
 kas_sub ((h P d).here u b λf D N r p=>(p P d).here r b λj C l q n=>hd λI g=>n.elim λa x=>x.elim λk x=>(k_ x.2.1).elim λt e=>g (by rw [hk x.1,e];exact cf (HT q (z▸x.2.2)) (λ_ F y=>y.elim λB y=>⟨P,ρ,B,m,d,y.1,b,y.2⟩) λ_ _ x=>x))
noncomputable def hX(e:an):aK:=!([8,9,10,24,25].contains e.ctorIdx)
theorem zp{e:an}{t:aj an}{n:ag}{env:a8}:hX e=true->l9 e t n env=b6 false:=by apply mi (motive_1:=λe=>hX e=true->l9 e t n env=b6 false) e<;>intros<;>first|rfl|exact ff ‹_›
theorem HV{t e:an}{env:a8}:hX e=true->jZ [t] e env=b6 af:=by
 apply mi (motive_1:=λt=>hX e=true->jZ [t] e env=b6 af) t<;>intros<;>first|rfl|skip
 ·revert ‹hX e=true›
  apply mi (motive_1:=λe=>hX e=true->jZ [.List _ _] e env=b6 af) e<;>intros<;>first|rfl|exact ff ‹_›
 ·revert ‹hX e=true›
  apply mi (motive_1:=λe=>hX e=true->jZ [eG _ _ _] e env=b6 af) e<;>intros<;>first|rfl|exact ff ‹_›
noncomputable def ph(e:an):aK:=!([24,25].contains e.ctorIdx)
theorem HW{t e:an}{env:a8}:ph t=true->jZ [t] e env=b6 af:=by apply mi (motive_1:=λt=>ph t=true->jZ [t] e env=b6 af) t<;>intros<;>first|rfl|exact ff ‹_›
theorem HX{t:an}{env:a8}:cW t=true->(jr [t] env).map (·.2)=[jp t env]:=by apply mi (motive_1:=λt=>cW t=true->(jr [t] env).map (·.2)=[jp t env]) t<;>intros<;>first|rfl|exact ff ‹_›
theorem rg{t e:an}{pos:aI}{Q:b_->ao->Hp->Prop}(i:l9 e (G t) pos.line env=b6 false)(g:jZ [t] e env=b6 af)(f:cW t=true)
  (h:fA c A env V Pb ρ H e λv N=>AS c A env V Pb ρ N t v (Q .next)):X1 c A env V Pb be ρ H (hN [t] e pos) Q:=λs m P b k a=>
 wpAny_Assign_stores ((h P b).here k a λv d N j q=>by rw [HX f];exact eK (q d m P v b j a E)) i g
theorem HY{t e:an}{pos:aI}{Q:b_->ao->Hp->Prop}(a:hX e=true)(b:cW t=true)(h:fA c A env V Pb ρ H e λv N=>AS c A env V Pb ρ N t v (Q b_.next)):X1 c A env V Pb be ρ H (hN [t] e pos) Q:=rg (zp a) (HV a) b h
theorem fz.mono{Q f:ao->Hp->Prop}{s'}(h:fz c A.frames env V Pb Q s')(k:∀ρ H,Q ρ H->f ρ H):fz c A.frames env V Pb f s':=h.el λj g l i a b d e=>⟨j,g,l,i,a,b,d,k _ _ e⟩
theorem zq{Q:b_->ao->Hp->Prop}(h:Q .next ρ H):XS c A env V Pb be ρ H [] Q:=λs m P d b a=>oT ⟨P,ρ,H,m,d,b,a,h⟩
theorem lq{g:bz}{i:L bz}{Q:b_->ao->Hp->Prop}(h:X1 c A env V Pb be ρ H g λe f N=>match e with| .next=>XS c A env V Pb be f N i Q|e=>Q e f N):XS c A env V Pb be ρ H (g::i) Q:=λs m P r p o=>
 xm (cf (h s m P r p o) (λe n y=>y.el λk l t j a b d q=>by
  cases e with
  |next=>exact q n j k a b d
  |_=>exact⟨k,l,t,j,a,b,d,q⟩) λ_ _ x=>x)
theorem HZ{pos:aI}{Q:b_->ao->Hp->Prop}(h:Q .next ρ H):X1 c A env V Pb be ρ H (.Pass pos) Q:=λs m P d b a=>wpAny_Pass ⟨P,ρ,H,m,d,b,a,h⟩
theorem zr{e:an}{pos:aI}{Q:b_->ao->Hp->Prop}(h:fA c A env V Pb ρ H e λv N=>Q (ck v) ρ N):X1 c A env V Pb be ρ H (ni (G e) pos) Q:=λs m P b f a=>wpAny_Return_some ((h P b).here f a λv g N d q=>⟨P,ρ,N,m,b,d,a,q⟩)
theorem H4{pos:aI}{Q:b_->ao->Hp->Prop}(h:Q (ck ah) ρ H):X1 c A env V Pb be ρ H (ni af pos) Q:=λs m P d b a=>wpAny_Return_none ⟨P,ρ,H,m,d,b,a,h⟩
theorem zs{t:an}{b o:L bz}{pos:aI}{Q:b_->ao->Hp->Prop}(h:zk c A env V Pb ρ H t λk N=>if k then XS c A env V Pb be ρ N b Q else XS c A env V Pb be ρ N o Q):X1 c A env V Pb be ρ H (.If t b o pos) Q:=λs m P d g a=>wpAny_If ((h P d).here g a λk e N f q=>by cases k<;>exact q e m P d f a)
theorem H5(a:cc env V):interactive env=false:=by unfold interactive;rw [a.kind];rfl
theorem H6{e:an}{pos:aI}{Q:b_->ao->Hp->Prop}(d:hX e=true)(h:fA c A env V Pb ρ H e λv N=>Q .next ρ N):X1 c A env V Pb be ρ H (.Expr e pos) Q:=λs m P a g b=>by rw [exec_Expr env e pos (H5 a.eo) (zp d)];exact aR (iG (aR ((h P a).here g b λv i N f q=>wpAny_dropValue ⟨P,ρ,N,m,a,f,b,q⟩)))
theorem H7{op:eW}{v u r:ab}{s:ay}{Q:ab->ay->Prop}(d:op=cq\/op=hh)(h:hp op (er v) (er u)=G r)(e:∃i t,er v=aa i t)(q:∀a k,er a=r->Q a {s with toks:=k}):aX (aV au c.w) A (inplaceOp op v u) Q No s:=by
 obtain ⟨i,t,j⟩:=e;obtain ⟨m,rfl⟩:=gS j;refine qX (f:=λb=>t5 op i b) h λb l g h=>?_;subst g;rcases d with rfl|rfl
 ·exact PySem.P.iadd_int (q _ _ (bc h))
 ·exact PySem.P.isub_int (q _ _ (bc h))
theorem H8{x:am}{op:eW}{e:an}{y pos:aI}{v:ab}{Q:b_->ao->Hp->Prop}(F:op=cq\/op=hh)(k:iT env x=true)(B:ρ.lookup x=G v)(K:∃i t,v=aa i t)
  (h:fA c A env V Pb ρ H e λu N=>∃r,hp op v u=G r/\Q .next (aZ x r ρ) N):X1 c A env V Pb be ρ H (tu (bA (I x) y) op e pos) Q:=λs m P a d f=>by
 refine eK (wpAny_AugAssign_Name ?_);obtain ⟨g,p,o,l⟩:=f x v B
 have z:∀{R:ab->ay->Prop},R p s->aX (aV au c.w) A (loadName env (I x)) R No s:=λ{R} r=>by
  simp only [fk,fg,ma]at g;cases l with
  |loc k C=>exact wpAny_loadName_local a.eo.kind k (by rw [a.eo.loc];exact d.ns) C r
  |cell k n j b=>
   rcases k with k|k
   ·exact wpAny_loadName_cell a.eo.kind k n ⟨_,d.prot j (nC b),b⟩ r
   ·exact wpAny_loadName_free a.eo.kind k n ⟨_,d.prot j (nC b),b⟩ r g.2
 refine z ((h P a).here d f λu T N M ⟨r,D,q⟩=>H7 F (by rw [o];exact D) (by rw [o];exact K) λW t S=>?_)
 exact re k a (M.toks t) f (by rw [S];exact q)
end
theorem H9(P:cI):(d2 P).isNs cStatics=true:=by kernel_rfl!
theorem H_(P:cI):(d2 P).nsMap cStatics "sys.recursionlimit"=af:=by kernel_rfl!
theorem Ia{w:bh}{h:bI}(X:(KK w).In h):h.NoLimit:=(D0 (H9 w.params)).elim λo x=>x.elim λa x=>x.elim λb x=>⟨(d2 w.params).nsMap cStatics,⟨o,a,b,bc ((show(d2 w.params).get? cStatics=G (cr w.params)from E).symm.trans x.1)▸X 2 _ (by kernel_rfl!),x.2⟩,H_ w.params⟩
theorem Ib{a:a6->aj gG}{n:a6}{l:L (a6×ab)}:∀{m:a6->aj ab},n∉l.map (·.1)->bindL a l m n=m n:=by
 induction l with
 |nil=>exact λ_=>E
 |cons p r b=>
  intro m h;refine(b λz=>h (dh _ z)).trans ?_
  by_cases k:a p.1=G .local
  ·rw [aJ k];exact aG λz:n=p.1=>h (by rw [z];exact d_ _)
  ·rw [aG k]
theorem Ic{b:a6->aj gG}{n:a6}{v:ab}(k:b n=G .local){l:L (a6×ab)}:∀{m:a6->aj ab},(l.map (·.1)).Nodup->(n,v)∈l->bindL b l m n=G v:=by
 induction l with
 |nil=>exact λ_ h=>nomatch h
 |cons p r c=>intro m a h;have a:=cS.mp a;refine(bQ.mp h).elim (λe=>?_) λh=>c a.2 h;rw [<-e]at a⊢;exact(Ib a.1).trans ((congrFun (aJ k) n).trans (aJ E))
theorem Ie{a:a6->aj gG}{n:a6}{l:L (a6×ab)}:∀{m:a6->aj ab},n∉l.map (·.1)->bindC a l m n=m n:=by
 induction l with
 |nil=>exact λ_=>E
 |cons p r b=>
  intro m h;refine(b λz=>h (dh _ z)).trans ?_
  by_cases k:a p.1=G .local
  ·rw [aJ k]
  ·rw [aG k];exact aG λz:n=p.1=>h (by rw [z];exact d_ _)
theorem If{b:a6->aj gG}{n:a6}{v:ab}(k:b n≠G .local){l:L (a6×ab)}:∀{m:a6->aj ab},(l.map (·.1)).Nodup->(n,v)∈l->bindC b l m n=G v:=by
 induction l with
 |nil=>exact λ_ h=>nomatch h
 |cons p r c=>intro m a h;have a:=cS.mp a;refine(bQ.mp h).elim (λe=>?_) λh=>c a.2 h;rw [<-e]at a⊢;exact(Ie a.1).trans ((congrFun (aG k) n).trans (aJ E))
theorem HR.moreP{w:bh}{h₀ h h':bI}{H:Hp}{P P':Pr}{c:ae->aj ae}(x:HR w h₀ H P c h)(l:∀b o,h.get? b=G o->h'.get? b=G o)(k:∀b o,P' b=G o->hn o (h'.get? b))
  (i:∀b o,P' b=G o->P b=af->h.get? b=af):HR w h₀ H P' c h':=
 have K:=x.keeps l;have F:∀{b o},P b=af->P' b=G o->H b=af/\c b=af:=λj e=>⟨(x.fresh (i _ _ e j)).1,(x.fresh (i _ _ e j)).2.2.2⟩
 ⟨K.stat,k,K.real,λa f e=>⟨(K.apart a f e).1,gH λo g=>c_ e (F (K.apart a f e).2.1 g).1,(K.apart a f e).2.2⟩,λd a e=>⟨gH λo g=>c_ e (F (K.owned d a e).1 g).2,(K.owned d a e).2⟩⟩
noncomputable def mx(a:cB)(xs:L am):aK:=
 (a.kind==md)&&(!a.isCoroutine&&(!a.isGenerator&&(xs.all fk&&(decide (xs.map I).Nodup&&(decide ((hR 0 a.names []).map (·.1)).Nodup&&
  ((xs.all λx=>(a.names.lookup (I x)==G .local)||((a.names.lookup (I x)==G ft)&&((hR 0 a.names []).lookup (I x)).isSome))&&
  a.names.all λp=>p.2 !=ft||((hR 0 a.names []).lookup p.1).isSome))))))
theorem Ig{l:L (a6×ae)}:∀{a:L (a6×ae)} {x:a6},l.map (·.1)=a.map (·.1)->(l.lookup x).isSome=(a.lookup x).isSome:=by
 induction l with
 |nil=>exact λ{a} _ h=>by rw [qK.mp h.symm]
 |cons p r c=>
  intro a x h;cases a with
  |nil=>nomatch h
  |cons q t=>
   have h:=gb h
   by_cases b:x=p.1
   ·rw [k8 b,k8 (b.trans h.1)];rfl
   ·exact(aA DW (iQ b)).trans ((c h.2).trans (aA DW (iQ λz=>b (z.trans h.1.symm)).symm))
structure j8(a:cB)(xs:L am):Prop where
 kind:a.kind=md
 co:a.isCoroutine=false
 gen:a.isGenerator=false
 ok:∀x∈xs,fk x=true
 nd:(xs.map I).Nodup
 ndc:∀n,((hR n a.names []).map (·.1)).Nodup
 par:∀x∈xs,∀n,a.names.lookup (I x)=G .local\/(a.names.lookup (I x)=G ft/\((hR n a.names []).lookup (I x)).isSome=true)
 cel:∀y n,a.names.lookup y=G ft->((hR n a.names []).lookup y).isSome=true
theorem Ih{c:cB}{xs:L am}(h:mx c xs=true):j8 c xs:=
 have A:∀{a b:aK} {p:Prop},(a&&b)=true->(a=true->b=true->p)->p:=λh k=>k (hQ.mp h).1 (hQ.mp h).2
 A h λq h=>A h λo h=>A h λm h=>A h λl h=>A h λj h=>A h λi h=>A h λf d=>
  have e:∀n y,((hR 0 c.names []).lookup y).isSome=true->((hR n c.names []).lookup y).isSome=true:=λn y h=>(Ig (cellsFrom_names c.names 0 n [] [] E)).symm.trans h
  ⟨cU q,(ma _).mp o,(ma _).mp m,fe.mp l,gO j,λn=>by rw [cellsFrom_names c.names n 0 [] [] E];exact gO i,
   λx s n=>((oS _ _).mp (fe.mp f x s)).elim (λh=>bt (cU h)) λh=>A h λh g=>bF ⟨cU h,e n _ g⟩,
   λy n r=>((oS _ _).mp (fe.mp d _ (j4 r))).elim (λh=>nomatch h) (e n y)⟩
noncomputable def Pr.orC(P:Pr)(a:L (a6×ae))(h:bI):Pr:=λb=>eZ (P b) G (if(a.any (·.2==b))=true then h.get? b else af)
theorem ug{P:Pr}{a:L (a6×ae)}{h:bI}{b:ae}{o:aC}(e:P b=G o):P.orC a h b=G o:=by unfold Pr.orC;rw [e];rfl
theorem Ii{P:Pr}{a:L (a6×ae)}{h:bI}{b:ae}{n:a6}(e:P b=af)(c:(n,b)∈a):P.orC a h b=h.get? b:=by unfold Pr.orC;rw [e];exact aJ (tv.mpr ⟨(n,b),c,eE b⟩)
theorem uh{P:Pr}{d:L (a6×ae)}{h:bI}{b:ae}{o:aC}{c:Prop}(e:P.orC d h b=G o)(f:P b=G o->c)(g:∀n,P b=af->(n,b)∈d->h.get? b=G o->c):c:=by
 cases q:P b with
 |some x=>exact f (q.trans ((ug q).symm.trans e))
 |none=>unfold Pr.orC at e;rw [q]at e;exact gd (show(if _ then _ else af)=G o from e) λa e=>(tv.mp a).elim λp z=>g p.1 q (cU z.2▸z.1) e
section
variable{c:Cx}{A:bj}{V:ae}{Pb P:Pr}{be:ab->ay->Prop}{ρ:ao}{H:Hp}{D:ag}
theorem ri{x:bz}{k:am}{Q u:ab}{l a:ag}{ρ0:ao}{R:hH->ay->Prop}{s:ay}{ws:L ab}(hk:(KK c.w).lookup a=G (a3 x k Q u l))(hc:(l,k)∈o6)(sc:mx (c5 x) (ρ0.map (·.1))=true)
  (rm:bu A (D+1)) (hs:HS c A.frames P H s)
  (g:∃i,BindsTo s (fnOf (nu x) (I k) (j2 x) (gq x) (c5 x) Q ah ah u af (J l) ah) ⟨ws,[]⟩ i/\i.map (λp=>(p.1,er p.2))=ρ0.map λp=>(I p.1,p.2))
  (body:∀env t P' m V,cc env t->env.scope=c5 x->env.frame=G t->bu (A.deeper env) D->cY c env t P P'->FS c (A.deeper env).frames t m P' H V->cs env P' m ρ0->(∀b o,s.heap.get? b=G o->V.heap.get? b=G o)->s.heap.get? t=af->
   aX (aV au c.w) (A.deeper env) (iz (gq x) env) (λfl s'=>R (dW (ck (match fl with|ck v=>v|_=>ah))) s')
    (λv s'=>aX (aV au c.w) (A.deeper env) (leaving env v) (λ_ T=>R (jf v) T) (λe' T=>R (jf e') T) s') V):
  jl (aV au c.w) A (.call (J a) ⟨ws,[]⟩) R s:=by
 have K:=Ih sc;refine hd λaU ac=>g.elim λi g=>hs.hr.elim λaN z=>ac ?_
 have aw:i.map (·.1)=(ρ0.map (·.1)).map I:=by
  have:=aA (L.map (·.1)) g.2
  rw [dC,dC]at this;rw [dC];exact this
 have ap:∀n,∀p∈i,(c5 x).names.lookup p.1=G .local\/((c5 x).names.lookup p.1=G ft/\((hR n (c5 x).names []).lookup p.1).isSome=true):=λn p hp=>(cA.mp (aw▸jV (f:=λp:a6×ab=>p.1) hp:p.1∈(ρ0.map (·.1)).map I)).elim λy q=>q.2▸K.par y q.1 n
 refine codeAny_call_function (o:=a3 x k Q u l) (fd:=fnOf (nu x) (I k) (j2 x) (gq x) (c5 x) Q ah ah u af (J l) ah) (body:=gq x) (fo (nf (gE D)) rm.depth)
  (hs.kk a _ hk) E K.co K.gen E ((c.codes (l,k) hc).keeps z.stat) (g.1 _ _ _ _ (wpAny_newFunctionEnv_cells K.kind (ap _) λaW F s' j=>j.done.elim λC q=>q.elim λaF q=>?_))
 rw [F]at j⊢;rw [q.1]at j⊢;have B:=q.2;refine⟨(Ia c.kk).keeps λb o e=>B b o (z.stat b o e),codeAny_func ?_⟩;have X:s.heap.get? s.heap.objs.size=af:=ga (cw _);have N:=z.fresh X;refine hd λaU ac=>(j5 j.toInCall.ns).elim λal W=>ac ?_;have ad:∀n b,(n,b)∈hR (s.heap.objs.size+1) (c5 x).names []->s.heap.get? b=af/\b≠s.heap.objs.size:=λn b d=>⟨ga (hO (j.above n b d)),m4 (j.above n b d)⟩
 have S:∀y b,(hR (s.heap.objs.size+1) (c5 x).names []).lookup y=G b->P b=af/\c.h₀.get? b=af/\∃o,P.orC (hR (s.heap.objs.size+1) (c5 x).names []) C b=G o/\o.data=dZ (bindC (λy=>(c5 x).names.lookup y) i (λ_=>af) y):=λy b e=>
  have d:=j4 e;have f:=z.fresh (ad y b d).1
  ⟨f.2.1,f.2.2.1,(j.cell y b e).imp λo r=>⟨(Ii f.2.1 d).trans r.1,r.2⟩⟩
 have eo:cc (newEnv (c5 x) s.heap.objs.size jh (hR (s.heap.objs.size+1) (c5 x).names []) (I k++".<locals>.") (G a) (J l) af l_) s.heap.objs.size:=⟨K.kind,E,E,E,by rw [L.Nodup,L.pairwise_map];exact j.apart,λy hy=>K.cel y _ hy⟩
 have PL:P.orC (hR (s.heap.objs.size+1) (c5 x).names []) C s.heap.objs.size=af:=gH λo e=>uh e (λe=>c_ e N.2.1) λn _ d _=>(ad n _ d).2 E;refine body _ s.heap.objs.size (P.orC (hR (s.heap.objs.size+1) (c5 x).names []) C) _ {s with heap:=C,toks:=aF} eo E E rm.deeper
  ⟨eo,λb o=>ug,λy b h1 h2=>⟨(S (I y) b h2).1,(S (I y) b h2).2.1,(S (I y) b h2).2.2.imp λo r=>⟨_,r⟩⟩⟩
  ⟨PL,N.2.2.1,al,W.2,hs.gens,hs.os,?_,aN,z.moreP B (λb o e=>gr e (.refl W.1) λg e=>uh e (λe=>(z.prot b o e).keep (B b)) λn _ _ e=> .refl e) λb o e hq=>?_⟩ (λy v e=>?_) B X
 ·exact hs.frs.elim λfl r=>⟨_::fl,El r.1,FA ⟨λz=>(nomatch K.kind.symm.trans z),s.heap.objs.size,al,E,b8 _ _ _,W.2.dict,N.2.2.1⟩ λe F=>⟨(r.2 e F).1,(r.2 e F).2.imp λf=>c3 λo q=>⟨q.1,(bg _ _ (nn q.2.1 N.2.1)).trans (ug q.2.1),q.2.2⟩⟩⟩
 ·exact gr (M:=λb o=>P b=af->s.heap.get? b=af) e (λ_=>X) (λ_ e hq=>uh e (λe=>c_ e hq) λn _ d _=>(ad n b d).1) hq
 ·have d:=j4 e
  refine(cA.mp (g.2▸jV (f:=λp:am×ab=>(I p.1,p.2)) d:(I y,v)∈i.map λp=>(p.1,er p.2))).elim λp Z=>?_;have h1:p.1=I y:=aA s4 Z.2;have as:(i.map (·.1)).Nodup:=aw▸K.nd
  have Y:(I y,p.2)∈i:=h1▸Z.1;refine⟨K.ok y (jV (f:=λp:am×ab=>p.1) d),p.2,aA Prod.snd Z.2,?_⟩;refine(ap (s.heap.objs.size+1) _ Y).elim (λh=> .loc h (Ic h as Y)) λh=>(jj.mp h.2).elim λb g=>(S (I y) b g).2.2.elim λo q=>me (bt h.1) g q.1 ?_;exact q.2.trans (aA dZ (If (λz=>nomatch (h.1.symm.trans z:(G ft:aj gG)=G .local)) as Y))
theorem FS.back{m s}{l d:aj (L a8)}{P':Pr}(x:FS c l V m P' H s)(a:∀b o,P b=G o->P' b=G o)(g:eJ c.h₀ d P):HS c d P H s:=x.st.elim λo q=>⟨q.2.gens,q.2.os,g,q.2.hr.imp λf z=>z.lessP λb o e=>(bg _ _ (nn (a b o e) x.pl)).trans (a b o e)⟩
theorem Ij{x:bz}{e:am}{j i:ab}{h a:ag}{vs:L ab}{ρ0:ao}{Q:ab->Hp->Prop}(C:(KK c.w).lookup a=G (a3 x e j i h))(F:(h,e)∈o6)(n:mx (c5 x) (ρ0.map (·.1))=true)
  (K:∀(s:ay) (ws:L ab),(∀b o,c.h₀.get? b=G o->s.heap.get? b=G o)->ws.map er=vs->
   ∃k,BindsTo s (fnOf (nu x) (I e) (j2 x) (gq x) (c5 x) j ah ah i af (J h) ah) ⟨ws,[]⟩ k/\k.map (λp=>(p.1,er p.2))=ρ0.map λp=>(I p.1,p.2))
  (body:∀env d A Pb,cc env d->env.scope=c5 x->bu A D->XS c A env d Pb No ρ0 H (gq x) (λg ad Z=>Q (match g with|ck v=>v|_=>ah) Z)):
  fX c (D+1) (J a) vs H Q:=λA P s ws u f T=>by
 have l:∀b o,c.h₀.get? b=G o->s.heap.get? b=G o:=f.hr.elim λal z=>z.stat;exact ri C F n u f (K s ws l T) λenv d X m r W V _ t R N B _ _=>cf (body env d (A.deeper env) P W V t r m X R N B) (λg s' y=>y.el λP2 ac Y m2 S M r2 q=>⟨Y,M.back S.sub f.frs,by cases g<;>exact q⟩) λ_ _ y=>y.elim
end
section
variable{c:Cx}{A:bj}{env:a8}{V:ae}{Pb P:Pr}{be:ab->ay->Prop}{ρ:ao}{H:Hp}{D:ag}
noncomputable def iU(c:Cx)(A:bj)(env:a8)(a:ae)(Pb:Pr)(ρ:ao)(H:Hp)(ts:L an)(vs:L ab)(Q:ao->Hp->Prop):Prop:=∀s m P b,cY c env a Pb P->FS c A.frames a m P H s->cs env P m ρ->b.map er=vs->aX (aV au c.w) A (xn ((jr ts env).map (·.2)) b) (λ_ d=>fz c A.frames env a Pb Q d) No s
theorem Ik{Q:ao->Hp->Prop}(h:Q ρ H):iU c A env V Pb ρ H [] [] Q:=λs m P f d b a e=>bY ⟨P,ρ,H,m,d,b,a,h⟩
theorem zt{t:an}{ts:L an}{env:a8}:cW t=true->jr (t::ts) env=(false,jp t env)::jr ts env:=by apply mi (motive_1:=λt=>cW t=true->jr (t::ts) env=(false,jp t env)::jr ts env) t<;>intros<;>first|rfl|exact ff ‹_›
theorem Il{t:an}{ts:L an}{v:ab}{vs:L ab}{Q:ao->Hp->Prop}(ns:cW t=true)(h:AS c A env V Pb ρ H t v λg N=>iU c A env V Pb g N ts vs Q):iU c A env V Pb ρ H (t::ts) (v::vs) Q:=λs m P f n l j e=>by
 cases f with
 |nil=>nomatch e
 |cons w f=>
  rw [zt ns];show aX _ A (do holding f (jp t env w);xn ((jr ts env).map (·.2)) f) _ _ s
  exact aR (fO (cf (h s m P w n l j (gb e).1) (λ_ i y=>y.el λo g N k a b d q=>q i k o f a b d (gb e).2) λ_ _ x=>x))
theorem ui{env:a8}{ts:L an}(h:ts.all cW=true):(jr ts env).length=ts.length/\(jr ts env).findIdx? (·.1)=af:=by
 induction ts with
 |nil=>exact⟨E,E⟩
 |cons t ts a=>have h:cW t=true/\ts.all cW=true:=hQ.mp h;rw [zt h.1,th,(a h.2).2];exact⟨aA h9 (a h.2).1,E⟩
theorem zu{ts:L an}{k:ag}{pos:aI}{a:ae}{vs:L ab}{Q:ao->Hp->Prop}(i:bu A D)(ns:ts.all cW=true)(p:H a=G (bm vs))(l:vs.length=ts.length)(h:iU c A env V Pb ρ H ts vs Q):AS c A env V Pb ρ H (eG ts k pos) (J a) Q:=λs m P w t f j e=>dr e▸(f.real p).elim λu r=>r.2.elim λg y=>wpAny_assign_Tuple i.handled y.1 ((ui ns).1.trans (l.symm.trans (y.2▸bJ er))) (ui ns).2 λd n=>h {s with heap:=d} m P g t (f.grow (s':={s with heap:=d}) (λb o q=>n b o (l8 (kT q)) q) E E) j y.2
noncomputable def zv{α:Type}(x:ef α):aj α:=ix λh=>Em (motive:=λ_=>α) x h λa=>a
theorem Im{α:Type}{x:ef α}{a:α}(h:zv x=G a):x=b6 a:=j1 h λe=>Em (motive:=λx=>∀e,Em (motive:=λ_=>α) x e (λa=>a)=a->x= .pure a) x e (λb _ q=>aA ef.pure q) e
noncomputable def pi(a:cB)(ts vs:L an):aj (aj (L a6)):=zv (jZ [eG ts 0 d9] (eG vs 0 d9) {gp with scope:=a})
theorem zw{ts vs:L an}{r:aj (L a6)}{k b:ag}{p a:aI}(h:pi env.scope ts vs=G r):jZ [eG ts k p] (eG vs b a) env=b6 r:=Im h
noncomputable def pj(e:an):aK:=[24,25].contains e.ctorIdx
theorem Io{e:an}{t:aj an}{n:ag}{env:a8}:pj e=true->l9 e t n env=b6 false:=by apply mi (motive_1:=λe=>pj e=true->l9 e t n env=b6 false) e<;>intros<;>first|rfl|exact ff ‹_›
theorem Ip{t e:an}{pos:aI}{Q:b_->ao->Hp->Prop}(a:pj e=true)(b:ph t=true)(d:cW t=true)(h:fA c A env V Pb ρ H e λv N=>AS c A env V Pb ρ N t v (Q .next)):X1 c A env V Pb be ρ H (hN [t] e pos) Q:=rg (Io a) (HW b) d h
theorem Iq{ts vs:L an}{k b:ag}{p a pos:aI}{Q:b_->ao->Hp->Prop}(d:pi env.scope ts vs=G af)
  (h:fA c A env V Pb ρ H (eG vs b a) λv N=>AS c A env V Pb ρ N (eG ts k p) v (Q .next)):X1 c A env V Pb be ρ H (hN [eG ts k p] (eG vs b a) pos) Q:=
 rg E (zw d) E h
theorem Ir{xs:L am}:∀{ws:L ab} {s m P} {ρ:ao} {Q:ao->Hp->Prop},xs.all (iT env)=true->xs.length=ws.length->cY c env V Pb P->FS c A.frames V m P H s->cs env P m ρ->Q ((xs.zip ws).foldl (λρ p=>aZ p.1 (er p.2) ρ) ρ) H->
  aX (aV au c.w) A (xn (xs.map λx=>bindName env (I x)) ws) (λ_ s'=>fz c A.frames env V Pb Q s') No s:=by
 induction xs with
 |nil=>
  intro ws s m P ρ Q e f i h g q;cases ws with
  |nil=>exact bY ⟨P,ρ,H,m,i,h,g,q⟩
  |cons=>nomatch f
 |cons x xs n=>
  intro ws s m P ρ Q e f i h g q;cases ws with
  |nil=>nomatch f
  |cons l ws=>
   have e:iT env x=true/\xs.all (iT env)=true:=hQ.mp e;show aX _ A (do holding ws (bindName env (I x) l);xn (xs.map λx=>bindName env (I x)) ws) _ _ s
   exact aR (fO (wpAny_bindName (cf (re (Q:=λj k=>k=H/\Q ((xs.zip ws).foldl (λρ p=>aZ p.1 (er p.2) ρ) j) H) e.1 i h g ⟨E,q⟩) (λ_ o y=>y.el λt j k r a b d q=>n e.2 (qL f) a (q.1▸b) d q.2) λ_ _ x=>x)))
theorem Is{α a:Type}{xs:L α}:∀{ys:L a},xs.length=ys.length->xs.reverse.zip ys.reverse=(xs.zip ys).reverse:=by
 induction xs with
 |nil=>exact λ_=>E
 |cons x xs b=>
  intro ys h;cases ys with
  |nil=>nomatch h
  |cons y ys=>show _=((x,y)::xs.zip ys).reverse;rw [tw,tw,L.zip_append (by rw [nh,nh];exact qL h),b (qL h),tw];rfl
theorem It{ts vs:L an}{xs:L am}{k j:ag}{p i pos:aI}{Q:b_->ao->Hp->Prop}(u:bu A D)(w:pi env.scope ts vs=G (G (xs.map I)))(ks:xs.all (iT env)=true)
  (h:fA c A env V Pb ρ H (eG vs j i) λv N=>∃a us,v=J a/\N a=G (bm us)/\us.length=xs.length/\Q .next ((xs.zip us).foldr (λp ρ=>aZ p.1 p.2 ρ) ρ) N):X1 c A env V Pb be ρ H (hN [eG ts k p] (eG vs j i) pos) Q:=λs m P n C f=>
 Assign_Tuple_swapped ((h P n).here C f λv t N l x=>hd λF g=>x.elim λa x=>x.elim λus x=>(l.real x.2.1).elim λ_ r=>r.2.elim λws y=>g (by
  have d:xs.length=ws.length:=x.2.2.1.symm.trans (y.2▸bJ er);rw [dr x.1,bJ,d];refine eK (wpAny_unpackItems_tuple u.handled y.1 λB z=>?_);rw [<-Eg,dC];refine eK (Ir (xs:=xs.reverse) (ws:=ws.reverse) (Q:=Q .next) (by rw [L.all_reverse];exact ks) (by rw [nh,nh];exact d) n (l.grow (s':={t with heap:=B}) (λb o q=>z b o (l8 (kT q)) q) E E) f ?_)
  have e:∀(xs:L am) (ws:L ab),(xs.zip ws).foldr (λp ρ=>aZ p.1 (er p.2) ρ) ρ=(xs.zip (ws.map er)).foldr (λp ρ=>aZ p.1 p.2 ρ) ρ:=λxs ws=>by rw [L.zip_map_right,L.foldr_map];rfl
  rw [Is d,L.foldl_reverse,e,y.2];exact x.2.2.2)) E (zw w)
noncomputable def ls:L (am×ab):=[("len",bS "len"),("sorted",bS "sorted"),("range",aM "range"),("list",aM "list"),("bytes",aM "bytes"),("str",aM "str"),("ord",bS "ord"),("int",aM "int"),("min",bS "min"),("max",bS "max"),("enumerate",aM "enumerate"),("zip",aM "zip"),("dict",aM "dict")]
theorem Iu(w:bh):(ls.all λp=>((d2 w.params).nsMap jh (I p.1)).isNone&&(d2 w.params).nsMap l_ (I p.1)==G p.2)=true:=by kernel_rfl!
theorem Iv{c:Cx}{p:am×ab}(h:ls.contains p=true):(d2 c.w.params).nsMap jh (I p.1)=af/\(d2 c.w.params).nsMap l_ (I p.1)=G p.2:=by have:=fe.mp (Iu c.w) p (dE.mp h);simp only [fg,Sd,c4]at this;exact this
theorem Iw{w:bh}{h:bI}(X:(KK w).In h):h.Ns l_ ((d2 w.params).nsMap l_):=by obtain ⟨o,a,b,e,r⟩:=D0 (tT w.params);refine⟨o,a,b,?_,r⟩;have c:(d2 w.params).get? l_=G (boot_o_0 w.params):=E;rw [c]at e;cases e;exact X 0 _ (by kernel_rfl!)
noncomputable def my:L (am×ab):=[("decimal_octets",J 61),("number_of",J 68),("layout_leaf",J 96),("layout_copy",J 101),("layout_leaves",J 108),("layout_panes",J 113),("layout_path",J 120),("layout_kind",J 127),("layout_side",J 134),("layout_set_side",J 141),("layout_index",J 148),("layout_room",J 153),("layout_change",J 160),("layout_placed",J 167),("layout_exchanged",J 174),("split_layout",J 182),("layout_melted",J 189),("close_pane",J 196),("fit_layout",J 203),("layout_renumbered",J 210),("swap_panes",J 215),("pane_at",J 222),("neighbours",J 229),("format_fits",J 236),("target_of_session",J 276),("target_of_window",J 283),("target_of_pane",J 290),("target_octets",J 297),("target_only",J 304),("target_fits",J 309),("target_numbered",J 316),("target_session",J 321),("target_step",J 328),("target_stepped",J 335),("target_shown",J 342),("target_index",J 347),("target_pane_numbers",J 352),("target_least",J 359),("target_spot",J 366),("target_corner",J 373),("target_beside",J 380),("target_pane_number",J 387),("target_in_window",J 394),("target_sessions",J 401),("target_by_number",J 406),("target_marked",J 413),("target_told",J 420),("target_alone",J 427),("target_cut",J 434),("target_by_parts",J 441),("read_target",J 448),("pane_numbered",J 491),("break_pane",J 672),("join_pane",J 680),("exchange_panes",J 685),("link_window",J 802),("pane_place",J 809),("_law_draw",J 817),("_law_pick",J 824),("_law_figures",J 829),("_law_numbers",J 834),("_law_put",J 841),("_law_window",J 848),("_law_fresh",J 855),("_law_opened",J 862),("_law_split",J 869),("_law_moved",J 876),("_law_placed",J 883),("_law_deed",J 890),("_law_there",J 895),("_law_due",J 902),("_law_read",J 909),("_law_mark_due",J 916),("_law_pane_right",J 923),("_law_first_right",J 928),("_law_place_right",J 933),("_law_whole",J 938),("law",J 943),("TermError",J 39),("BadTarget",J 52),("Cell",J 85),("Target",J 265),("Pane",J 480),("Window",J 661),("Session",J 790),("LEAST_SIDE",aa 1 0),("LAYOUT_DEEP",aa 50 0),("MOST_FIGURES",aa 1000 0),("TARGET_WORDS",J 237),("TARGET_SIDES",J 238),("TARGET_CORNERS",J 239),("_law_kinds",J 810)]
theorem Ix(w:bh):(my.all λp=>fk p.1&&((d2 w.params).nsMap jh (I p.1)).map er==G p.2)=true:=by kernel_rfl!
theorem zx{c:Cx}{p:am×ab}(h:my.contains p=true):fk p.1=true/\(tZ c p.1).map er=G p.2:=by have:=fe.mp (Ix c.w) p (dE.mp h);simp only [fg,c4]at this;exact this
theorem rj{x:am}{pos:aI}{v:ab}{Q:ab->Hp->Prop}(b:cc env V)(k:env.kindOf (I x)=G f9)(e:my.contains (x,v)=true)(h:Q v H):EV c A env V P ρ H (bA (I x) pos) Q:=by obtain ⟨a,g⟩:=zx (c:=c) e;obtain ⟨u,f,d⟩:=gm.mp g;exact yM b a k f (by rw [d];exact h)
theorem zy{x:am}{a:ae}{es:L an}{p pos:aI}{Q:ab->Hp->Prop}(g:cc env V)(b:bu A D)(k:env.kindOf (I x)=G f9)(e:my.contains (x,J a)=true)(ns:es.all cW=true)(f:mw.contains a=true)
  (h:e2 c A env V P ρ H es λvs N=>fX c D (J a) vs N Q):EV c A env V P ρ H (eV (bA (I x) p) es [] pos) Q:=by
 obtain ⟨d,l⟩:=zx (c:=c) e;obtain ⟨u,j,i⟩:=gm.mp l;obtain rfl:=dr i;exact HE g b d k j ns f h
theorem zz{x:am}{pos:aI}{v:ab}{Q:ab->Hp->Prop}(b:cc env V)(d:fk x=true)(k:env.kindOf (I x)=G f9)(e:ls.contains (x,v)=true)(h:Q (er v) H):EV c A env V P ρ H (bA (I x) pos) Q:=λs m a i=>by obtain ⟨g,f⟩:=Iv (c:=c) e;simp only [fk,fg,ma]at d;exact Name_function_global b.kind k (loadGlobal_builtin (by rw [b.glob];exact tW a.kk) g (by rw [b.blt];exact Iw a.kk) f ⟨H,a,h⟩) d.1
noncomputable def jw(v:ab):aK:=[8,9].contains v.ctorIdx
theorem zA{f:ab}(h:jw f=true)(a:ae)(e:f=J a):d8:=ff (show jw (J a)=true from e▸h)
theorem zB{f:ab}:jw f=true->er f=f:=by apply En (motive:=λf=>jw f=true->er f=f) f<;>intros<;>first|rfl|exact ff ‹_›
theorem zC{f v:ab}:jw f=true->er v=f->v=f:=λh e=>e▸by revert h;rw [<-e];apply En (motive:=λv=>jw (er v)=true->v=er v) v<;>intros<;>first|rfl|exact ff ‹_›
theorem zD{p:am×ab}(e:ls.contains p=true):jw p.2=true:=by
 have:(ls.all λp=>jw p.2)=true:=by decide
 exact fe.mp this p (dE.mp e)
noncomputable def ev(c:Cx)(A:bj)(b:ae)(P:Pr)(f:ab)(vs:L ab)(H:Hp)(Q:ab->Hp->Prop):Prop:=∀s m a,FS c A.frames b m P H s->a.map er=vs->aX (aV au c.w) A (hP f a) (λv e=>∃d,FS c A.frames b m P d e/\Q (er v) d) No s
theorem zE{M:gB}{f:ab}(b:∀a,f≠J a)(h:bI):∃k,(k=Keeper.frame\/k=xo\/k=Keeper.boundFrame)/\Looks M h (keeperOf f) k:=by
 refine⟨xo,bF (bt E),?_⟩;have:(∀a,f≠J a)->keeperOf f=b6 xo:=by apply En (motive:=λf=>(∀a,f≠J a)->keeperOf f=b6 xo) f<;>intros<;>first|rfl|(rename_i h;exact bW E (h _))
 rw [this b];exact .now
theorem e2.mono0{es:L an}{Q a:L ab->Hp->Prop}(h:e2 c A env V P ρ H es Q)(k:∀v b,Q v b->a v b):e2 c A env V P ρ H es a:=λs m p x r=>cf (h s m p x r) (λ_ _=>c3 λ_=>jk (k _ _)) λ_ _ x=>x
theorem zF{es:L an}{f:ab}{pos:aI}{R:L ab->ay->Prop}{m s}(ns:es.all cW=true)(fs:FS c A.frames V m P H s)(g:cs env P m ρ)
  (h:e2 c A env V P ρ H es λvs N=>∀b ws,FS c A.frames V m P N b->ws.map er=vs->R ws b):aX (aV au c.w) A (evalArgs f true (kY pos (ic es env)) []) (λa b=>∃vs,a=⟨vs,[]⟩/\R vs b) No s:=by
 have d:=h s m pos fs g
 induction es with
 |nil=>unfold evalArgs;refine aR (cf d (λvs b x=>aR (bY (fO (aR (bY (aR (bY (bY ⟨vs,E,x.elim λN x=>x.2 b vs x.1 E⟩)))))))) λ_ _ x=>x)
 |cons e i=>rw [oP,fg]at ns;rw [nH ns.1]at d⊢;exact evalArgs_plain (cf d (λvs b x=>⟨vs,E,x.elim λN x=>x.2 b vs x.1 E⟩) λ_ _ x=>x)
theorem zG{es:L an}{f:ab}{first vs0:L ab}{pos:aI}{Q:ab->Hp->Prop}{m s}(ns:es.all cW=true)(j:∀a,f≠J a)(fs:FS c A.frames V m P H s)(g:cs env P m ρ)(l:first.map er=vs0)
  (h:e2 c A env V P ρ H es λvs N=>ev c A V P f (vs0++vs) N Q):aX (aV au c.w) A (callWith pos f first (kY pos (ic es env)) []) (λv s'=>∃d,FS c A.frames V m P d s'/\Q (er v) d) No s:=by
 refine callWith_of (P:=λ_=>True) (by rw [(nK ns).2];rfl) (λi _=>zE j i) (cf (zF (R:=λvs b=>∃N,FS c A.frames V m P N b/\ev c A V P f (vs0++vs.map er) N Q) ns fs g (h.mono0 λvs N y b n k e=>⟨N,k,e.symm▸y⟩)) (λa b x=>x.elim λvs x=>x.2.elim λN y=>⟨trivial,x.1▸y.2 b m (first++vs) y.1 (by rw [c0,l])⟩) λ_ _ x=>x)
theorem Iy{x:am}{f:ab}{es:L an}{p pos:aI}{Q:ab->Hp->Prop}(j:cc env V)(d:fk x=true)(k:env.kindOf (I x)=G f9)(e:ls.contains (x,f)=true)(ns:es.all cW=true)
  (h:e2 c A env V P ρ H es λvs N=>ev c A V P f vs N Q):EV c A env V P ρ H (eV (bA (I x) p) es [] pos) Q:=λs m i b=>by
 have a:jw f=true:=zD e;refine tl (EV.here (zz (Q:=λv o=>v=f/\o=H) j d k e ⟨zB a,E⟩) i b λv q N g ⟨n,l⟩=>?_);subst l;obtain rfl:=zC a n;exact zG (vs0:=[]) ns (zA a) g b E h
theorem iV{ws:L ab}{v:ab}(e:ws.map er=[v]):∃w,ws=[w]/\er w=v:=by
 cases ws with
 |nil=>cases e
 |cons w r=>cases r with
  |nil=>exact⟨w,E,by simpa using e⟩
  |cons=>cases e
theorem io{ws:L ab}{v u:ab}(e:ws.map er=[v,u]):∃w z,ws=[w,z]/\er w=v/\er z=u:=by
 cases ws with
 |nil=>cases e
 |cons w r=>simp only [e6,xp]at e;obtain ⟨z,rfl,a⟩:=iV e.2;exact⟨w,z,E,e.1,a⟩
noncomputable def rk(H:Hp)(v:ab):aj MO:=(pR v).bind H
theorem uj{H:Hp}{v:ab}{b:Type}{f:MO->aj b}{r:b}{c:Prop}(h:(rk H (er v)).bind f=G r)(g:∀a mo,v=J a->H a=G mo->f mo=G r->c):c:=dS h λmo e h=>dS e λa i d=>g a mo (hk i) d h
noncomputable def uk(o:MO):aj ag:=match o with
 |ak a=>G a.length
 |eg a=>G a.length
 |aO b=>G b.length
 |bm a=>if a.length<=16384 then G a.length else af
 |_=>af
noncomputable def hY(H:Hp)(v:ab):aj ag:=eZ (pY v) (λb=>if b.size<=bL then G b.size else af) ((rk H v).bind uk)
theorem rm{a:ae}{mo:MO}(h:H a=G mo):hY H (J a)=uk mo:=by show(H a).bind uk=_;rw [h];rfl
theorem ul{n:ag}(h:n<=bL):(n:U)<2^63:=Eo (ib.mpr h) (by decide)
theorem Iz{v:ab}{n:ag}{Q:ab->Hp->Prop}(h:hY H v=G n)(q:Q (aa n 0) H):ev c A V P (bS "len") [v] H Q:=λs m z d e=>(iV e).elim λw x=>x.1▸by
 have i:∀{g f:L ab},f.map er=g->f.length=g.length:=λe=>(bJ er).symm.trans (aA hJ e);rw [<-x.2]at h;refine fj h (λb e h=>(mu e).elim λt e=>gd h λl h=>?_) λh=>uj h λa p e j h=>?_
 ·rw [e]
  exact len_bytes (ar l (by decide)) ⟨H,d.toks _,bc h▸q⟩
 ·rw [e]
  induction p with
  |list g=>exact(d.real j).elim λk r=>r.2.elim λf y=>len_list y.1.isList (by rw [fP,i y.2];exact ul r.1) ⟨H,d.toks _,by rw [fP,i y.2];exact bc h▸q⟩
  |rol g=>exact(d.real j).elim λk r=>r.2.elim λf y=>len_list y.1 (by rw [fP,i y.2];exact ul r.1) ⟨H,d.toks _,by rw [fP,i y.2];exact bc h▸q⟩
  |di u=>exact(d.real j).elim λk r=>r.2.elim λf y=>(have o:f.length=u.length:=(bJ _).symm.trans (aA hJ y.2)
    call_len_dict (d.notModules j E) y.1 (by rw [o];exact ul r.1) ⟨H,d.toks _,by rw [o];exact bc h▸q⟩)
  |tup g=>exact gd h λl h=>(d.real j).elim λk r=>r.2.elim λf y=>kun_lenT y.1 (by rw [fP,i y.2];exact aA U.ofNat (bc h)) (ib.mpr (bc h▸l)) ⟨H,d.toks _,q⟩
  |_=>exact gR h
theorem zH:Slot "bytes" "find" "bytes.find":=
 .of (owner:="bytes") (n:="find") (by rw [D8,D9];kernel_rfl) (by decide+kernel) (by decide+kernel) (by decide+kernel)
  (by first|exact bt (by decide+kernel)|exact bF (by decide+kernel)) (by rw [xc];kernel_rfl)
theorem IA:typeOf (bS "bytes.find")=b6 (aM "method_descriptor"):=by show builtinType _=_;rw [builtinType_eq_fast];kernel_rfl
theorem IB:entryFor kO "bytes.find"=G Builtin.«bytes.find»:=entryFor_of_tree (by kernel_rfl)
theorem IC(a b:ab):argsOk "bytes.find" ⟨[a,b],[]⟩:=by unfold argsOk;rw [signature?_of (id:="bytes.find") (n:=['d','n','i','f']) (o:=['s','e','t','y','b']) (by kernel_rfl) FB.owner_bytes];kernel_rfl
theorem zI:Slot "bytes" "rfind" "bytes.rfind":=
 .of (owner:="bytes") (n:="rfind") (by rw [D8,D9];kernel_rfl) (by decide+kernel) (by decide+kernel) (by decide+kernel)
  (by first|exact bt (by decide+kernel)|exact bF (by decide+kernel)) (by rw [xc];kernel_rfl)
theorem ID:typeOf (bS "bytes.rfind")=b6 (aM "method_descriptor"):=by show builtinType _=_;rw [builtinType_eq_fast];kernel_rfl
theorem IE:entryFor kO "bytes.rfind"=G Builtin.«bytes.rfind»:=entryFor_of_tree (by kernel_rfl)
theorem IF(a b:ab):argsOk "bytes.rfind" ⟨[a,b],[]⟩:=by unfold argsOk;rw [signature?_of (id:="bytes.rfind") (n:=['d','n','i','f','r']) (o:=['s','e','t','y','b']) (by kernel_rfl) FB.owner_bytes];kernel_rfl
structure BM(T:am)(name:am)(id:am):Prop where
 pa:PlainAttrs T
 slot:Slot T (I name) id
 ty:typeOf (bS id)=b6 (aM "method_descriptor")
noncomputable def rn:L (am×am×am):=[("list","append","list.append"),("list","extend","list.extend"),("list","pop","list.pop"),("list","index","list.index"),("dict","get","dict.get"),("dict","pop","dict.pop"),("bytes","find","bytes.find"),("bytes","rfind","bytes.rfind")]
theorem IG{p:am×am×am}(h:rn.contains p=true):BM p.1 p.2.1 p.2.2:=by
 have:=dE.mp h;simp only [rn,bQ,gc,or_false]at this;rcases this with rfl|rfl|rfl|rfl|rfl|rfl|rfl|rfl
 ·exact⟨xq,PySem.F.slot_list_append,PySem.F.type_list_append⟩
 ·exact⟨xq,Se,PySem.F.type_list_extend⟩
 ·exact⟨xq,Sf,PySem.F.type_list_pop⟩
 ·exact⟨xq,Sg,PySem.F.type_list_index⟩
 ·exact⟨Sh,xr,PySem.F.type_dict_get⟩
 ·exact⟨Sh,Si,PySem.F.type_dict_pop⟩
 ·exact⟨FB.plainAttrs_bytes,zH,IA⟩
 ·exact⟨FB.plainAttrs_bytes,zI,ID⟩
noncomputable def um(o:MO):aj am:=match o with
 |ak _=>G "list"
 |aO _=>G "dict"
 | .db _=>G "dict"
 |_=>af
noncomputable def lu(H:Hp)(v:ab):aj am:=eZ (pY v) (λ_=>G "bytes") ((rk H v).bind um)
theorem rp{H:Hp}{a:ae}{mo:MO}(h:H a=G mo):lu H (J a)=um mo:=by show(H a).bind um=_;rw [h];rfl
theorem FS.dictOf{m s a}(fs:FS c A.frames V m P H s){kvs}(h:H a=G (aO kvs)):∃o,s.heap.get? a=G o/\o.cls=aM "dict"/\o.dict=af:=(fs.real h).elim λb r=>r.2.elim λd y=>y.1.elim λo z=>z.elim λe z=>z.elim λf z=>⟨o,z.1,z.2.1.1,z.2.1.2.1⟩
theorem IH{m s}{v:ab}{T:am}(fs:FS c A.frames V m P H s)(h:lu H (er v)=G T):s.TypeIs v T/\∀a,v=J a->∃o,s.heap.get? a=G o/\o.dict=af:=
 have k:∀{a:ae} {o:aC},v=J a->s.heap.get? a=G o->o.cls=aM T->o.dict=af->s.TypeIs v T/\∀a,v=J a->∃o,s.heap.get? a=G o/\o.dict=af:=λ{a o} e d p l=>by rw [e];exact⟨⟨o,d,p⟩,λb z=>J.inj z▸⟨o,d,l⟩⟩
 fj h (λb e h=>(mu e).elim λt e=>e▸bc h▸⟨iH _ _ _,λa z=>nomatch z⟩) λh=>uj h λa j e f h=>by
  induction j with
  |list g=>exact(fs.real f).elim λi r=>r.2.elim λq y=>y.1.elim λn d=>k e d (aA _ (bc h)) E
  |di g=>exact(fs.dictOf f).elim λo r=>k e r.1 (r.2.1.trans (aA _ (bc h))) r.2.2
  |db g=>exact(fs.real f).elim λi d=>k e d (aA _ (bc h)) E
  |_=>exact gR h
theorem II{o:an}{f:am}{g pos:aI}{es:L an}{Q:ab->Hp->Prop}(i:iR o=true)(ns:es.all cW=true)(k:es.length<30)(j:(g.endLine==pos.line)=true)
  (h:EV c A env V P ρ H o λv N=>∃T id,lu N v=G T/\rn.contains (T,f,id)=true/\e2 c A env V P ρ N es λvs n=>ev c A V P (bS id) (v::vs) n Q):
  EV c A env V P ρ H (eV (eu o (I f) g) es [] pos) Q:=λs m l d=>
 zj i ns k j (h.here l d λv p N e x q=>x.elim λT x=>x.elim λid x=>(have b:=IH e x.1;have B:=IG x.2.1
  getMethod_builtin b.1 B.pa B.slot B.ty b.2 (zG (vs0:=[er v]) ns (λa=>λz=>nomatch z) e d E x.2.2)))
theorem IJ{a:ae}{vs:L ab}{v:ab}{Q:ab->Hp->Prop}(f:H a=G (ak vs))(j:vs.length+1<=bL)(q:Q ah (H.set a (ak (vs++[v])))):ev c A V P (bS "list.append") [J a,v] H Q:=λs m p g e=>
 (io e).elim λw x=>x.elim λu x=>(g.real f).elim λi r=>r.2.elim λh y=>x.1▸dr x.2.1▸(
  wpAny_list_append_plain y.1 (λn d k=>⟨_,g.setAt (mo':=ak (vs++[er u])) (s':={s with heap:=n}) f E (λb o l e=>(k.2 b l).trans e) E E (λi=>⟨by rw [b3];exact j,h++[u],by rw [DV]at d;exact d,by rw [c0,y.2];rfl⟩),by rw [x.2.2];exact q⟩)
   (ar (cR ((bJ er).symm.trans (aA hJ y.2))) (ar r.1 gT)))
theorem uo{ws:L ab}{v u x:ab}(e:ws.map er=[v,u,x]):∃w z y,ws=[w,z,y]/\er w=v/\er z=u/\er y=x:=by
 cases ws with
 |nil=>cases e
 |cons w r=>simp only [e6,xp]at e;obtain ⟨z,y,rfl,b,a⟩:=io e.2;exact⟨w,z,y,E,e.1,b,a⟩
theorem zJ(o:aj ab)(d:ab):er (o.getD d)=(o.map er).getD (er d):=by cases o<;>rfl
theorem IK{a:ae}{kvs:L (U×ab)}{k:U}{t:bv}{Q:ab->Hp->Prop}(f:H a=G (aO kvs))(q:Q ((e1 kvs k).getD ah) H):ev c A V P (bS "dict.get") [J a,aa k t] H Q:=λs m j b e=>by
 obtain ⟨l,u,rfl,g,h⟩:=io e;obtain rfl:=dr g;obtain ⟨n,rfl⟩:=gS h;obtain ⟨o,r,p,d,i⟩:=b.real f;refine xt xr d.typeIs Ep (PySem.F.args_dict_get_2 _ _) (meets_dict_get (hf au c.w) a (k:=k) (by simp [hf,xe]) (b.notModules f E)) ⟨_,d.mapOf,H,b.toks _,?_⟩
 rw [zJ,o_ i];exact q
theorem IL{a:ae}{kvs:L (U×ab)}{k:U}{t:bv}{d:ab}{Q:ab->Hp->Prop}(g:H a=G (aO kvs))(q:Q ((e1 kvs k).getD d) H):ev c A V P (bS "dict.get") [J a,aa k t,d] H Q:=λs m n b e=>by
 obtain ⟨o,u,z,rfl,i,j,h⟩:=uo e;obtain rfl:=dr i;obtain ⟨p,rfl⟩:=gS j;obtain ⟨r,x,v,f,l⟩:=b.real g;refine xt xr f.typeIs Ep (Sj _ _ _) (meets_dict_get_default (hf au c.w) a (k:=k) (by simp [hf,xe]) (b.notModules g E) z) ⟨_,f.mapOf,H,b.toks _,?_⟩
 rw [zJ,o_ l,h];exact q
noncomputable def iW(kvs:L (U×ab))(k:U):L (U×ab):=kvs.filter λa=>decide (a.1≠k)
theorem IM(a:L (U×ab))(k:U):(without a k).map (λp=>(p.1,er p.2))=iW (a.map λp=>(p.1,er p.2)) k:=by unfold without iW;rw [Er];rfl
theorem zK{a:ae}{kvs:L (U×ab)}{k:U}{t:bv}{v:ab}{i:L ab}{Q:ab->Hp->Prop}(Y:i=[]\/∃d,i=[d])(B:H a=G (aO kvs))(W:e1 kvs k=G v)(q:Q v (H.set a (aO (iW kvs k)))):
  ev c A V P (bS "dict.pop") (J a::aa k t::i) H Q:=λs m ws C e=>by
 have p:∀(g:bv) (b:L ab),(b=[]\/∃d,b=[d])->aX (aV au c.w) A (hP (bS "dict.pop") (J a::aa k g::b)) (λv s'=>∃D,FS c A.frames V m P D s'/\Q (er v) D) No s:=λg b x=>by
  obtain ⟨M,f,o,y,n⟩:=C.real B;have r:=o_ n k;rw [W]at r;obtain ⟨K,T,S⟩:=gm.mp r
  have N:argsOk "dict.pop" ⟨J a::aa k g::b,[]⟩:=by
   rcases x with rfl|⟨d,rfl⟩
   ·exact PySem.F.args_dict_pop_2 _ _
   ·exact PySem.F.args_dict_pop_3 _ _ _
  have R:o.length=kvs.length:=by rw [<-n];simp
  refine xt Si y.typeIs PySem.F.entry_dict_pop N (meets_dict_pop_there (hf au c.w) a (k:=k) (by simp [hf,xe]) b x E) ⟨o,K,y,by rw [R];exact ar f gT,T,λh' Z X=>⟨_,C.setAt (mo':=aO (iW kvs k)) (s':={s with heap:=h',toks:=s.toks+1}) B E (λac ad f e=>(X.2 ac f).trans e) E E (λM=>⟨?_,_,Z,?_⟩),by rw [S];exact q⟩⟩
  ·unfold iW;exact ar (qM _ _) f
  ·rw [IM,n]
 rcases Y with rfl|⟨d,rfl⟩
 ·obtain ⟨I,u,rfl,j,l⟩:=io e
  obtain rfl:=dr j;obtain ⟨h,rfl⟩:=gS l;exact p h [] (bt E)
 ·obtain ⟨I,u,z,rfl,j,l,ez⟩:=uo e
  obtain rfl:=dr j;obtain ⟨h,rfl⟩:=gS l;exact p h [z] (bF ⟨z,E⟩)
theorem IN{b:a9 aP}{x:aP}{t u:bv}{Q:ab->Hp->Prop}(q:Q (aa (match b.toList.findIdx? (·==x)with|some i=>(i:U)|none=> -1) 0) H):ev c A V P (bS "bytes.find") [aq b t,aq #[x] u] H Q:=λs m k g e=>by obtain ⟨w,v,rfl,h,j⟩:=io e;obtain ⟨f,rfl⟩:=ny h;obtain ⟨d,rfl⟩:=ny j;exact tx zH (iH _ _ _) IB (IC _ _) (Hg b f x d) λa l=>⟨H,g.toks a,q⟩
theorem IP{b:a9 aP}{x:aP}{t u:bv}{Q:ab->Hp->Prop}(q:Q (aa (match il b.toList x with|some i=>(i:U)|none=> -1) 0) H):ev c A V P (bS "bytes.rfind") [aq b t,aq #[x] u] H Q:=λs m k g e=>by obtain ⟨w,v,rfl,h,j⟩:=io e;obtain ⟨f,rfl⟩:=ny h;obtain ⟨d,rfl⟩:=ny j;exact tx zI (iH _ _ _) IE (IF _ _) (Hi b f x d) λa l=>⟨H,g.toks a,q⟩
theorem zL{α a:Type}(f:α->a):∀(l:L α) (n:ag),(l.eraseIdx n).map f=(l.map f).eraseIdx n
 |[],n=>E
 |x::r,0=>E
 |x::r,n+1=>by simp only [L.eraseIdx_cons_succ,e6,zL f r n]
theorem FS.upd{m s}{a:ae}{vs vs':L ab}{ws ws':L ab}{n:ag}{t:ag}{f:a9 ab->a9 ab}(fs:FS c A.frames V m P H s)(k:H a=G (ak vs))(h:s.heap.get? a=G {cls:=aM "list",data:=dp ws.toArray n}) (i:f ws.toArray=ws'.toArray) (e:ws'.map er=vs') (g:vs'.length<=bL):
  FS c A.frames V m P (H.set a (ak vs')) {s with heap:=s.heap.update a (xl f),toks:=t}:=by
 have d:=PySem.IsL.update (l:=a) (items:=ws.toArray) (n:=n) h f;rw [i]at d;exact fs.setAt (mo':=ak vs') (s':={s with heap:=s.heap.update a (xl f),toks:=t}) k E (λb o j q=>(tt _ _ (Ne.symm j)).trans q) E E λp=>⟨g,ws',⟨_,d⟩,e⟩
theorem IQ{a b:ae}{vs us:L ab}{Q:ab->Hp->Prop}(k:H a=G (ak vs))(y:H b=G (ak us))(x:vs.length+us.length<=bL)(q:Q ah (H.set a (ak (vs++us)))):ev c A V P (bS "list.extend") [J a,J b] H Q:=λs m C i e=>by
 obtain ⟨w,u,rfl,z,B⟩:=io e;obtain rfl:=dr z;obtain rfl:=dr B;obtain ⟨r,I,f,⟨v,g⟩,n⟩:=i.real k;obtain ⟨r,D,d,⟨t,p⟩,l⟩:=i.real y;have h:f.length=vs.length:=by rw [<-n];simp
 have j:d.length=us.length:=by rw [<-l];simp
 have K:bL<=m_:=gT;have o:Sk (f.toArray.size+d.toArray.size)=false:=by unfold Sk;simp only [fP,h,j,decide_eq_false_iff_not,tz,gt_iff_lt];omega
 refine tx Se ⟨_,g,E⟩ PySem.F.entry_list_extend (PySem.F.args_list_extend_2 _ _) (PySem.AutoSeq1.list_extend_list_list_0 a _ v b _ t (by rw [o,Ec];exact eX) (by simp only [fP,h];omega) (by simp only [fP,h,j];omega)) ⟨g,p,?_⟩
 exact⟨_,i.upd (ws':=f++d) (vs':=vs++us) k g (by simp) (by simp [n,l]) (by simpa using x),q⟩
theorem IR{a:ae}{vs:L ab}{k:U}{t:bv}{v:ab}{Q:ab->Hp->Prop}(j:H a=G (ak vs))(g:0<=k)(i:vs[k.toNat]? =G v)(q:Q v (H.set a (ak (vs.eraseIdx k.toNat)))):ev c A V P (bS "list.pop") [J a,aa k t] H Q:=λs m K l e=>by
 obtain ⟨w,u,rfl,C,I⟩:=io e;obtain rfl:=dr C;obtain ⟨p,rfl⟩:=gS I;obtain ⟨M,f,b,⟨x,d⟩,h⟩:=l.real j;have y:b.length=vs.length:=by rw [<-h];simp
 obtain ⟨o,D,B⟩:=ll h i;have N:=(oK.mp i).1;have R:(vs.length:U)<=1000000:=ib.mpr f
 have r:seqIndex? k b.toArray.size=G k.toNat:=by
  have:=yS (n:=b.length) (k:=k) (bt ⟨g,by omega⟩)
  rw [aJ g]at this;rw [fP];exact this
 have z:b.toArray.size<=m_:=by rw [fP,y];exact ar f gT
 refine tx Sf ⟨_,d,E⟩ PySem.F.entry_list_pop (PySem.F.args_list_pop_2 _ _) (PySem.MeetsSeq.list_pop_at a _ x k p _ o (fitsIndex_of g (by omega)) r (by rw [ia];exact B) z) ⟨d,?_⟩
 refine⟨_,l.upd (ws':=b.eraseIdx k.toNat) (vs':=vs.eraseIdx k.toNat) j d ?_ (by rw [zL,h]) (ar (by rw [L.length_eraseIdx];split<;>omega) f),by rw [D];exact q⟩
 unfold a9.eraseIdxIfInBounds;rw [dif_pos (by rw [fP];omega)]
 apply tf.mp;simp
theorem FS.keepNew{m s s'}{d:ae}{o:aC}(fs:FS c A.frames V m P H s)(g:s.heap.get? d=af)(k:∀b o,s.heap.get? b=G o->s'.heap.get? b=G o)(n:s'.heap.get? d=G o)(l:s'.gens=s.gens)(j:s'.os=s.os):
  P d=af/\c.h₀.get? d=af/\d≠V/\FS c A.frames V m (P.set d o) H s':=
 have a:d≠V:=λe=>(j5 fs.ns).elim λ_ q=>c_ q.1 (e▸g);have f:=fs.el λi h _ _ z=>(have f:=z.fresh g;⟨(bg _ _ a).symm.trans f.2.1,f.2.2.1⟩:P d=af/\c.h₀.get? d=af)
 ⟨f.1,f.2,a,(bg _ _ a.symm).trans fs.pl,fs.hl,fs.st.imp λi q=>⟨q.1,l.trans q.2.gens,j.trans q.2.os,q.2.frs.setd (q.2.frs.not λr e=>c_ e ((bg _ _ a).trans f.1)),q.2.hr.imp λh z=>(z.allocP g k n).lessP λb p=>zm a⟩⟩
noncomputable def Pr.del(P:Pr)(a:ae):Pr:=λb=>if b=a then af else P b
theorem zM(P:Pr)(a:ae):P.del a a=af:=aJ E
theorem j9(P:Pr){a b:ae}(h:b≠a):P.del a b=P b:=aG h
theorem FS.keepLose{m s s'}{d:ae}{o:aC}(fs:FS c A.frames V m P H s)(n:P d=G o)(B:c.h₀.get? d=af)(w:∀b o,b≠d->s.heap.get? b=G o->s'.heap.get? b=G o)(y:s'.gens=s.gens)(t:s'.os=s.os)(u:j6 A.frames d):FS c A.frames V m (P.del d) H s':=
 have p:=fs.neL n
 have j:∀{g:aC} b f,((P.del d).set V g) b=G f->b≠d/\(P.set V g) b=G f:=λ{g} b f e=>gr (M:=λb f=>b≠d/\(P.set V g) b=G f) e ⟨p.symm,b8 _ _ _⟩ λi e=>by
  by_cases h:b=d
  ·rw [h,zM]at e;cases e
  ·exact⟨h,(bg _ _ i).trans ((j9 _ h).symm.trans e)⟩
 ⟨(j9 _ p.symm).trans fs.pl,fs.hl,fs.st.imp λg q=>⟨q.1,y.trans q.2.gens,t.trans q.2.os,q.2.frs.but u λb f i e=>gr (M:=λb f=>b≠d->(P.del d).set V g b=G f) e (λ_=>b8 _ _ _) (λv e i=>(bg _ _ v).trans ((j9 _ i).trans e)) i,q.2.hr.imp λC z=>
  have l:=fs.out n g;have K:=z.keepsBut w B (gH λa e=>c_ l (z.owned d a e).1);have k:=z.lessP (P':=(P.del d).set V g) λb f e=>(j b f e).2
  ⟨K.1,λb f e=>K.2.1 b f (j b f e).1 (j b f e).2,λa r e=>K.2.2.1 a r (λh=>c_ l (h▸z.notP e)) e,k.apart,λx a e=>⟨(k.owned x a e).1,(K.2.2.2 x a e).2⟩⟩⟩⟩
noncomputable def ip(Q:b_->ao->Hp->Prop)(n:ao->Hp->Prop):b_->ao->Hp->Prop:=λc a b=>match c with
  | .next=>n a b
  | .cont=>n a b
  | .brk=>Q .next a b
  |ck v=>Q (ck v) a b
noncomputable def mz(c:Cx)(A:bj)(env:a8)(a:ae)(e:ab->ay->Prop)(t:an)(body:L bz)(b:Hp->Prop)(Q:b_->ao->Hp->Prop):L ab->ao->Hp->Prop
 |[],ρ,H=>Q .next ρ H
 |v::r,ρ,H=>∀Pb,AS c A env a Pb ρ H t v λg h=>∀Pb,XS c A env a Pb e g h body (ip Q λf d=>b d/\mz c A env a e t body b Q r f d)
structure iq(c:Cx)(A:bj)(a:ae)(isIt:ag->aC->Prop)(vs:L ab)(d:Hp->Prop):Prop where
 item:∀{V i s m P H o v} {b:aj ab->ay->Prop},FS c A.frames V m P H s->P a=G o->isIt i o->c.h₀.get? a=af->d H->vs[i]? =G v->
  (∀w o' s',er w=v->isIt (i+1) o'->FS c A.frames V m (P.set a o') H s'->b (G w) s')->aX (aV au c.w) A (pyNext (J a)) b No s
 done:∀{V i s m P H o} {b:aj ab->ay->Prop},FS c A.frames V m P H s->P a=G o->isIt i o->c.h₀.get? a=af->d H->vs[i]? =af->
  (∀s',FS c A.frames V m (P.del a) H s'->b af s')->aX (aV au c.w) A (pyNext (J a)) b No s
theorem ej.to{P P':Pr}{m:a6->aj ab}{x:am}{v:ab}(l:ej env P m x v)(h:∀a o u,P a=G o->o.data=dZ u->P' a=G o):ej env P' m x v:=by
 induction l with
 |loc k c=>exact .loc k c
 |cell k e d b=>exact me k e (h _ _ _ d b) b
theorem cs.to{P P':Pr}{m}(b:cs env P m ρ)(h:∀a o u,P a=G o->o.data=dZ u->P' a=G o):cs env P' m ρ:=λx v e=>(b x v e).imp_right (c3 λc=>jk λl=>l.to h)
theorem cY.to{f P'}(e:cY c env V Pb P)(hs:∀a o,f a=G o->P' a=G o)(g:∀(x:am) a,env.kindOf (I x)=G ft->env.cells.lookup (I x)=G a->Pb a=af->f a=af)(h:∀a o u,P a=G o->o.data=dZ u->P' a=G o):cY c env V f P':=⟨e.eo,hs,λx a d b=>⟨g x a d b (e.own x a d b).1,(e.own x a d b).2.1,(e.own x a d b).2.2.imp λo=>c3 λu q=>⟨h a o u q.1 q.2,q.2⟩⟩⟩
theorem uq{c:ae}{o:aC}(f:∀b v,P c=G b->b.data≠dZ v):∀a b u,P a=G b->b.data=dZ u->P.set c o a=G b:=λa b u e d=>(bg _ _ λh:a=c=>f b u (h▸e) d).trans e
theorem zN{c:ae}(f:∀b v,P c=G b->b.data≠dZ v):∀a b u,P a=G b->b.data=dZ u->P.del c a=G b:=λa b u e d=>(j9 _ λh:a=c=>f b u (h▸e) d).trans e
theorem cY.set{d:ae}{o:aC}(f:cY c env V Pb P)(j:∀b v,P d=G b->b.data≠dZ v):cY c env V (Pb.set d o) (P.set d o):=⟨f.eo,λa b e=>gr (M:=λa b=>P.set d o a=G b) e (b8 _ _ _) λh e=>(bg _ _ h).trans (f.sub a b e),λx a i g=>(f.own x a i g).2.2.elim λb q=>q.elim λu q=>⟨(bg _ _ λh:a=d=>j b u (h▸q.1) q.2).trans (f.own x a i g).1,(f.own x a i g).2.1,b,u,uq j a b u q.1 q.2,q.2⟩⟩
theorem cY.less{b:ae}{o:aC}(f:cY c env V (Pb.set b o) P)(d:Pb b=af):cY c env V Pb P:=
 f.to (λa g e=>f.sub a g ((bg _ _ (nn e d)).trans e)) (λx a _ _ q=>by
  by_cases h:a=b
  ·exact h▸d
  ·exact(bg _ _ h).symm.trans q) λ_ _ _ e _=>e
theorem cs.set{b:ae}{o:aC}{m}(c:cs env P m ρ)(d:∀a v,P b=G a->a.data≠dZ v):cs env (P.set b o) m ρ:=c.to (uq d)
theorem cY.del{d:ae}(f:cY c env V Pb P)(g:Pb d=af)(h:∀b v,P d=G b->b.data≠dZ v):cY c env V Pb (P.del d):=f.to (λa b e=>(j9 _ (nn e g)).trans (f.sub a b e)) (λ_ _ _ _ q=>q) (zN h)
theorem cs.del{b:ae}{m}(c:cs env P m ρ)(d:∀a v,P b=G a->a.data≠dZ v):cs env (P.del b) m ρ:=c.to (zN d)
noncomputable def ur(c:Cx)(A:bj)(env:a8)(a:ae)(Pb:Pr)(d:ae)(isIt:ag->aC->Prop)(vs:L ab)(b:Hp->Prop)(t:an)(body:L bz)(Q:b_->ao->Hp->Prop)(n:ag)(s:ay):Prop:=∃i P H m ρ o,i+n=vs.length/\cY c env a (Pb.set d o) P/\FS c A.frames a m P H s/\cs env P m ρ/\isIt i o/\b H/\mz c A env a No t body b Q (vs.drop i) ρ H
theorem ur.el{b:ae}{isIt:ag->aC->Prop}{vs:L ab}{a:Hp->Prop}{t:an}{body:L bz}{Q:b_->ao->Hp->Prop}{n:ag}{s:ay}{d:Prop}(x:ur c A env V Pb b isIt vs a t body Q n s)
  (k:∀i P H m ρ o,i+n=vs.length->cY c env V (Pb.set b o) P->FS c A.frames V m P H s->cs env P m ρ->isIt i o->a H->mz c A env V No t body a Q (vs.drop i) ρ H->d):d:=
 x.elim λi x=>x.elim λP x=>x.elim λH x=>x.elim λm x=>x.elim λρ x=>x.elim λo x=>k i P H m ρ o x.1 x.2.1 x.2.2.1 x.2.2.2.1 x.2.2.2.2.1 x.2.2.2.2.2.1 x.2.2.2.2.2.2
theorem IS{a:ae}{isIt:ag->aC->Prop}{vs:L ab}{b:Hp->Prop}{t:an}{body:L bz}{Q:b_->ao->Hp->Prop}(W:iq c A a isIt vs b)(ad:∀i o v,isIt i o->o.data≠dZ v)(lg:∀v,mj t (J a) v=b6 ())
  (d:Pb a=af) (T:c.h₀.get? a=af) {s m o} (g:cY c env V (Pb.set a o) P) (fs:FS c A.frames V m P H s) (l:cs env P m ρ) (e:isIt 0 o) (hs:b H) (h:mz c A env V No t body b Q vs ρ H):
  jl (aV au c.w) A (.forLoop t (J a) body [] env) (λr s'=>match r with|dW f=>fz c A.frames env V Pb (Q (nL f)) s'|jf _=>d8) s:=by
 refine codeAny_forLoop (ur c A env V Pb a isIt vs b t body Q) (λn s I=>eK (I.el λi P H m ρ o D g fs l e hs h=>?_)) vs.length ⟨0,P,H,m,ρ,o,qN _,g,fs,l,e,hs,h⟩ lg;have C:P a=G o:=g.sub a o (b8 _ _ _);have q:∀z v,P a=G z->z.data≠dZ v:=λz v aw=>bc (C.symm.trans aw)▸ad i o v e
 induction n with
 |zero=>have S:vs.length<=i:=cR D.symm;rw [xu S]at h;exact W.done fs C e T hs (tA.mpr S) λs' K=>oT ⟨P.del a,ρ,H,m,(g.less d).del d q,K,l.del q,h⟩
 |succ n _=>
  have R:i<vs.length:=D▸nf (gE n);rw [Es R]at h;refine W.item fs C e T hs (iD R) λX p s' ew al K=>eK (cf (h (Pb.set a p) s' m (P.set a p) X (cY.set (g.less d) q) K (l.set q) ew) (λ_ Z x=>x.el λP2 aF H2 m2 as ap ac x=>eK (cf (x (Pb.set a p) Z m2 P2 as ap ac) (λfl Y x=>x.el λN k j B M F u y=>?_) λ_ _ x=>x)) λ_ _ x=>x);have I:(b j/\mz c A env V No t body b Q (vs.drop (i+1)) k j)->ur c A env V Pb a isIt vs b t body Q n Y:=λy=>⟨i+1,N,j,B,k,p,(s_ i n).trans D,M,F,u,al,y.1,y.2⟩
  induction fl with
  |next=>exact⟨n,nj n,I y⟩
  |cont=>exact⟨n,nj n,I y⟩
  |brk=>exact⟨N,k,j,B,M.less d,F,u,y⟩
  |ret v=>exact⟨N,k,j,B,M.less d,F,u,y⟩
noncomputable def ut(l:ae)(i:ag)(o:aC):Prop:=o.cls=aM "list_iterator"/\o.data=cx #[J l,aa i 0]
theorem IT{l B:ae}{vs:L ab}(y:bu A D):iq c A B (ut l) vs (λH=>bD H l=G vs) where
 item:=λ{V i s m P H o v K} a f d p h g k=>a.listK h λu b j e=>(ll e g).elim λw q=>wpAny_pyNext_list_item ⟨o,a.prot f (ek d.2),d⟩ j (x:=w) (by rw [ia];exact q.2) λt F C=>F.elim λz r=>k w z _ q.1 r.2 (a.keepSet (s':={s with heap:=t}) f p (λb o n q=>(C.2 b n).trans q) r.1 E E (ek d.2))
 done:=λ{V i s m P H o K} a f d p h g k=>a.listK h λu b j e=>wpAny_pyNext_list_end y.handled ⟨o,a.prot f (ek d.2),d⟩ j (by rw [<-e,f_,qJ]at g;rw [ia];exact g) λt I=>k _ (a.keepLose (s':={s with heap:=t}) f p (λb o n q=>I b o n q) E E (a.notFr f (ek d.2)))
noncomputable def rq(t:an):aK:=t.ctorIdx==23
noncomputable def nM(e:an):aK:=e.ctorIdx !=7
theorem uu{e:an}{env:a8}{x:ab}(h:nM e=true):foldedSetIterable e env x=b6 x:=by
 cases e with
 |Set=>cases h
 |_=>rfl
noncomputable def pk(c:Cx)(A:bj)(env:a8)(a:ae)(Pb:Pr)(t:an)(body:L bz)(Q:b_->ao->Hp->Prop):ag->ao->Hp->Prop
 |0,_,_=>d8
 |n+1,ρ,H=>zk c A env a Pb ρ H t λk b=>if k then XS c A env a Pb No ρ b body (ip Q (pk c A env a Pb t body Q n))else Q .next ρ b
noncomputable def IU(c:Cx)(A:bj)(env:a8)(a:ae)(Pb:Pr)(t:an)(body:L bz)(Q:b_->ao->Hp->Prop)(n:ag)(s:ay):Prop:=fz c A.frames env a Pb (pk c A env a Pb t body Q n) s
theorem IV{t:an}{body:L bz}{pos:aI}{Q:b_->ao->Hp->Prop}(n:ag)(h:pk c A env V Pb t body Q n ρ H):X1 c A env V Pb No ρ H (.While t body [] pos) Q:=λs m P b d a=>
 wpAny_While (jm (codeAny_whileLoop (R:=λr g=>match r with|dW f=>fz c A.frames env V Pb (Q (nL f)) g|jf _=>d8) (IU c A env V Pb t body Q) (λn s I=>fz.el (Q:=pk c A env V Pb t body Q n) I λP ρ H m b d a h=>by
  induction n with
  |zero=>exact h.elim
  |succ n _=>
   refine TV.here (h P b) d a λk j o i q=>?_
   induction k with
   |false=>exact oT ⟨P,ρ,o,m,b,i,a,q⟩
   |true=>
    refine eK (cf (q j m P b i a) (λl p y=>?_) λ_ _ x=>x)
    induction l with
    |next=>exact⟨n,nj n,y⟩
    |cont=>exact⟨n,nj n,y⟩
    |brk=>exact y
    |ret v=>exact y) n ⟨P,ρ,H,m,b,d,a,h⟩) λr g y=>by
  cases r with
  |ok f=>exact y
  |error e=>exact y.elim)
theorem IW{n:U}{t:bv}{Q:ab->Hp->Prop}(q:∀d,H d=af->Q (J d) (H.set d (.rng n))):ev c A V P (aM "range") [aa n t] H Q:=λs m j h e=>by
 obtain ⟨w,rfl,i⟩:=iV e;obtain ⟨a,rfl⟩:=gS i;refine PySem.call_range_1 ?_;obtain ⟨f,g⟩:=h.alloc (d:=s.heap.objs.size) (mo:= .rng n) (s':={s with heap:=s.heap.push {cls:=aM "range",data:=cx #[aa 0 s.toks,aa n a,aa 1 (s.toks+1)]},toks:=s.toks+1+1})
  (ga (cw _)) (λb o e=>gF _ e) E E λk=>⟨_,_,_,ng _ E⟩
 exact⟨_,g,q _ f⟩
noncomputable def rr(n:U)(i:ag)(o:aC):Prop:=o={cls:=aM "range_iterator",dict:=af,data:=cx #[iJ i,iJ (n-i),iJ 1],slots:=#[]}
noncomputable def iX(n:U):L ab:=(et n.toNat).map λ(k:ag)=>aa (k:U) 0
theorem IX{n:U}{g:ae}(t:bu A D):iq c A g (rr n) (iX n) (λ_=>True) where
 item:=λ{V i s m P H o v F} f e a p w d k=>by
  have h:IsRangeIter s.heap g i (n-i) 1:=by have:=f.prot e (ek (aA s3 (show o=_ from a)));rw [show o=_ from a]at this;exact this
  unfold iX at d;rw [f_]at d;obtain ⟨j,y,rfl⟩:=gm.mp d;obtain ⟨x,rfl⟩:=oK.mp y;have C:(et n.toNat)[i]=i:=L.getElem_range _;refine wpAny_pyNext_range_item h (by have:=x;rw [iK]at this;omega) λr z u=>k _ _ _ (by rw [C];rfl) ?_ (f.keepSet (s':={s with heap:=r,toks:=s.toks+1}) e p (λb o l q=>(u.2 b l).trans q) z E E (ek (aA s3 (show o=_ from a))))
  unfold rr;rw [show(((i+1:ag):U))=(i:U)+1 from E,show n-((i:U)+1)=n-i-1 from by omega]
 done:=λ{V i s m P H o F} f e a p w d k=>by
  have h:IsRangeIter s.heap g i (n-i) 1:=by have:=f.prot e (ek (aA s3 (show o=_ from a)));rw [show o=_ from a]at this;exact this
  unfold iX at d;rw [f_,qJ,tA,iK]at d;exact wpAny_pyNext_range_end t.handled h (by omega) λr B=>k _ (f.keepLose (s':={s with heap:=r}) e p (λb o l q=>B b o l q) E E (f.notFr e (ek (aA s3 (show o=_ from a)))))
theorem uv{n:U}(a:0<=n):Sl 0 n 1=n:=by
 unfold Sl;rw [aJ (by decide)]
 split
 ·rw [U.ediv_one];omega
 ·omega
theorem zO{n:U}(c:0<=n)(d:n<=1000000):Sm 0 n 1=true:=by
 have f:∀i:U,0<=i->i<=1000000->Sn i=true:=λi a b=>by unfold Sn;simp only [fg,tB];omega
 unfold Sm;rw [uv c,f 0 (by omega) (by omega),f n c d,f 1 (by omega) (by omega)]
 simp only [aK.true_and,oS];right;rw [aJ (by decide)]
 exact f _ (by omega) (by omega)
noncomputable def uw(b:a9 aP)(i:ag)(o:aC):Prop:=∃t,o.cls=aM "bytes_iterator"/\o.data=cx #[aq b t,aa i 0]
noncomputable def mA(b:a9 aP):L ab:=b.toList.map λ(x:aP)=>aa (x.toNat:U) 0
theorem IY{b:a9 aP}{h:ae}(u:bu A D):iq c A h (uw b) (mA b) (λ_=>True) where
 item:=λ{V i s m P H o v N} f e j p F d k=>by
  obtain ⟨t,g,a⟩:=j;have l:KBw.IsBytesIter s.heap h b t i:=⟨o,f.prot e (ek a),g,a⟩;unfold mA at d;rw [f_]at d;obtain ⟨x,B,rfl⟩:=gm.mp d;refine KBw.next_item l (c:=x) (by rw [<-ti];exact B) λr I C=>?_
  obtain ⟨z,M,y,w⟩:=I;exact k _ z _ E ⟨t,y,w⟩ (f.keepSet (s':={s with heap:=r,toks:=s.toks+1}) e p (λb o n q=>(C.2 b n).trans q) M E E (ek a))
 done:=λ{V i s m P H o N} f e j p F d k=>by obtain ⟨t,g,a⟩:=j;have l:KBw.IsBytesIter s.heap h b t i:=⟨o,f.prot e (ek a),g,a⟩;unfold mA at d;rw [f_,qJ]at d;exact KBw.next_end u.handled l (by rw [<-ti];exact d) λr K=>k _ (f.keepLose (s':={s with heap:=r}) e p (λb o n q=>K b o n q) E E (f.notFr e (ek a)))
noncomputable def iY(a b:cB):cB:={a with names:=a.names.map λ(n,k)=>if(k==eU&&b.kind==md&&b.names.lookup n==G ft)then(n,ft)else(n,k)}
noncomputable def iZ(names:L (a6×gG))(b acc:L (a6×ae)):aj (L (a6×ae)):=match names with
 |[]=>G acc
 |(n,k)::r=>if k==eU then((b.lookup n).bind λa=>iZ r b ((n,a)::acc))else iZ r b acc
theorem zP{n:a6}{k:gG}{r:L (a6×gG)}{b acc:L (a6×ae)}(h:(k==eU)=true):iZ ((n,k)::r) b acc=(b.lookup n).bind λa=>iZ r b ((n,a)::acc):=by
 show(if(k==eU)=true then _ else _)=_
 rw [aJ h]
theorem zQ{n:a6}{k:gG}{r:L (a6×gG)}{a acc:L (a6×ae)}(h:¬(k==eU)=true):iZ ((n,k)::r) a acc=iZ r a acc:=aG h
theorem IZ{d:L (a6×ae)}{env:a8}(e:env.cells=d){names:L (a6×gG)}{cl:L (a6×ae)}:∀{acc},iZ names d acc=G cl->
  (forIn names acc λ(x:a6×gG) r=>if(x.2==eU)=true then(cellOf env x.1)>>=λy=>b6 (xv ((x.1,y)::r))else b6 (xv r))=(b6 cl:ef (L (a6×ae))):=by
 induction names with
 |nil=>intro acc h;cases h;rfl
 |cons p r c=>
  intro acc h;rw [L.forIn_cons]
  by_cases b:(p.2==eU)=true
  ·rw [zP b]at h
   refine dS h λa f h=>?_;rw [aJ b,show cellOf env p.1=b6 a from by unfold cellOf;rw [e,f]]
   exact c h
  ·rw [zQ b]at h
   rw [aG b];exact c h
theorem zR{a:cB}{env:a8}{cl:L (a6×ae)}(h:iZ a.names env.cells []=G cl):closureFor a env=b6 cl:=(aA (·>>=b6) (IZ (env:=env) E h)).trans E
theorem I0{c:L (a6×ae)}(z:(c.map (·.2)).Nodup){names:L (a6×gG)}:∀{acc:L (a6×ae)},(∀p∈names,p.2=eU->(c.lookup p.1).isSome=true)->(names.map (·.1)).Nodup->
  (∀p∈acc,p.1∉names.map (·.1))->(∀p∈acc,c.lookup p.1=G p.2)->(acc.map (·.2)).Nodup->∃cl,iZ names c acc=G cl/\(cl.map (·.2)).Nodup/\(∀p∈cl,c.lookup p.1=G p.2)/\(∀p∈acc,p∈cl)/\∀x,(x,eU)∈names->∃a,(x,a)∈cl:=by
 induction names with
 |nil=>exact λ_ _ _ g j=>⟨_,E,j,g,λ_ h=>h,λx h=>bW h gc⟩
 |cons p r v=>
  obtain ⟨n,k⟩:=p;intro acc y f u g j;have f:n∉r.map (·.1)/\(r.map (·.1)).Nodup:=cS.mp f
  have w:=λp d=>y p (bM _ d)
  by_cases l:(k==eU)=true
  ·rw [zP l]
   obtain ⟨a,e⟩:=jj.mp (y (n,k) bn (c4.mp l));rw [show c.lookup n=G a from e]
   have A:a∉acc.map (·.2):=λb=>(cA.mp b).elim λp q=>u p q.1 (zl z (g p q.1) (q.2▸e)▸bn)
   obtain ⟨cl,t,s,o,i,m⟩:=v (acc:=(n,a)::acc) w f.2 (gl.mpr ⟨f.1,λp h b=>u p h (bM _ b)⟩) (gl.mpr ⟨e,g⟩) (cS.mpr ⟨A,j⟩);exact⟨cl,t,s,o,λp d=>i p (bM _ d),λx b=>(bQ.mp b).elim (λh=>⟨a,by rw [(Prod.mk.inj h).1];exact i _ bn⟩) (m x)⟩
  ·rw [zQ l]
   obtain ⟨cl,t,s,o,i,m⟩:=v (acc:=acc) w f.2 (λp d b=>u p d (bM _ b)) g j;exact⟨cl,t,s,o,i,λx b=>(bQ.mp b).elim (λh=>bW (by rw [<-(Prod.mk.inj h).2];rfl) l) (m x)⟩
noncomputable def j_(a b:cB)(x:am):aK:=a.kind==md&&b.kind==md&&fk x&&(a.names.map (·.1)).Nodup&&a.names.lookup (I x)==G .local&&a.names.all λp=>p.2 !=ft&&(p.2 !=eU||b.names.lookup p.1==G ft)
theorem zS{b:Type}{l:L (a6×b)}{x:a6}{k:b}(a:(l.map (·.1)).Nodup)(h:(x,k)∈l):l.lookup x=G k:=by
 induction l with
 |nil=>exact bW h gc
 |cons p r c=>
  have a:p.1∉r.map (·.1)/\(r.map (·.1)).Nodup:=cS.mp a
  rw [fQ];refine(bQ.mp h).elim (λe=>by rw [<-e,eE]) λe=>?_
  rw [dB.mpr λz:x=p.1=>a.1 (z▸jV (f:=(·.1)) e)];exact c a.2 e
noncomputable def rs(a:cB)(ρ:ao):ao:=ρ.filter λp=>a.names.lookup (I p.1)==G eU
theorem zT{q:am->aK}{ρ:ao}{x:am}{v:ab}(h:(ρ.filter λp=>q p.1).lookup x=G v):ρ.lookup x=G v/\q x=true:=by
 induction ρ with
 |nil=>cases h
 |cons p r b=>
  rw [kZ]at h;rw [fQ];cases e:x==p.1 with
  |true=>
   by_cases a:q p.1=true
   ·rw [aJ a,fQ,e]at h;exact⟨h,c4.mp e▸a⟩
   ·rw [aG a]at h;exact bW (c4.mp e▸(b h).2) a
  |false=>
   by_cases a:q p.1=true
   ·rw [aJ a,fQ,e]at h;exact b h
   ·rw [aG a]at h;exact b h
theorem I1{x:am}{w:ab}{m s}{Q:hK->ay->Prop}(d:cc env V)(n:fk x=true)(k:env.kindOf (I x)=G .local)(fs:FS c A.frames V m P H s)(i:cs env P m ρ)
  (q:∀m' s',FS c A.frames V m' P H s'->cs env P m' (aZ x (er w) ρ)->Q () s'):aX (aV au c.w) A (storeName env (I x) w) Q be s:=by
 refine Ei (m:=m) k (by rw [d.loc];exact fs.ns) (λu g f=>?_) (by rw [d.kind];rfl)
 rw [d.loc]at g f;refine q _ _ (fs.store (s':={s with heap:=u,toks:=s.toks+1}) g f E E) λy v e=>?_
 rw [lp]at e
 by_cases b:y=x
 ·subst b;rw [aJ E]at e;cases e
  exact⟨n,w,E,.loc k (aJ E)⟩
 ·rw [aG b]at e
  obtain ⟨j,h,B,l⟩:=i y v e;refine⟨j,h,B,?_⟩;cases l with
  |loc a o=>exact .loc a (by rw [aG (λz=>b (li z))];exact o)
  |cell a t r p=>exact me a t r p
theorem FS.enter{m m' s s'}{C:ae}(x:FS c A.frames V m P H s)(i:s.heap.get? C=af)(g:∀b o,s.heap.get? b=G o->s'.heap.get? b=G o)(f:s'.heap.Ns C m')(h:s'.gens=s.gens)(e:s'.os=s.os):
  ∃a,hU a m/\P C=af/\c.h₀.get? C=af/\C≠V/\FS c A.frames C m' (P.set V a) H s':=
 (j5 f).elim λd n=>have z:=x.keepNew i g n.1 h e
 z.2.2.2.st.elim λa q=>⟨a,q.1,z.1,z.2.1,z.2.2.1,(bg _ _ z.2.2.1).trans z.1,z.2.1,d,n.2,q.2.gens,q.2.os,o8 _ _ _ z.2.2.1▸q.2.frs,q.2.hr.imp λj r=>o8 _ _ _ z.2.2.1▸r⟩
theorem FS.turn{m m' s}{C:ae}{a:aC}(x:FS c A.frames C m' (P.set V a) H s)(e:P V=af)(f:c.h₀.get? V=af)(g:P C=af)(n:hU a m)(b:C≠V):∃d,FS c A.frames V m (P.set C d) H s:=x.st.imp λd q=>⟨(bg _ _ b.symm).trans e,f,a,n,q.2.gens,q.2.os,o8 _ _ _ b.symm▸q.2.frs,q.2.hr.imp λh r=>o8 _ _ _ b.symm▸r⟩
theorem FS.lessP{m s}{P':Pr}(x:FS c A.frames V m P H s)(h:∀b o,P' b=G o->P b=G o)(g:∃o,eJ c.h₀ A.frames (P'.set V o)):FS c A.frames V m P' H s:=⟨gH λo q=>c_ (h _ _ q) x.pl,x.hl,x.st.imp λd q=>⟨q.1,q.2.gens,q.2.os,g.elim λ_ f=>f.own q.1.dict,q.2.hr.imp λj z=>z.lessP λb a e=>gr (M:=λb a=>P.set V d b=G a) e (b8 _ _ _) λi e=>(bg _ _ i).trans (h b a e)⟩⟩
theorem FS.leave{m s h'}{C:ae}{f:aC}(x:FS c A.frames V m (P.set C f) H s)(a:P C=af)(i:c.h₀.get? C=af)(hs:bI.SameBut C s.heap h')(d:∃o,eJ c.h₀ A.frames (P.set V o)):FS c A.frames V m P H {s with heap:=h'}:=
 have g:C≠V:=x.neL (b8 _ _ _)
 (x.keepLose (s':={s with heap:=h'}) (b8 _ _ _) i (λb o h e=>(hs.2 b h).trans e) E E (d.elim λ_ q=>q.not λj e=>c_ e ((bg _ _ g).trans a))).lessP (λb o e=>(j9 _ (nn e a)).trans ((bg _ _ (nn e a)).trans e)) d
noncomputable def pm(c:Cx)(A:bj)(env:a8)(b:ae)(P:Pr)(ρ:ao)(H:Hp)(a:L an)(Q:aK->Hp->Prop):Prop:=match a with
 |[]=>Q true H
 |[e]=>TV c A env b P ρ H e Q
 |_=>d8
noncomputable def lw(c:Cx)(A:bj)(e:cB)(x:am)(f:L an)(g:an)(b:Hp->Prop)(ρ:ao)(d:ae)(Q:Hp->Prop):L ab->Hp->Prop
 |[],H=>Q H
 |v::r,H=>∀env V P,cc env V->env.scope=e->pm c A env V P (aZ x v ρ) H f λk i=>
   if k then EV c A env V P (aZ x v ρ) i g λu h=>∃a,h d=G (ak a)/\a.length<bL/\b (h.set d (ak (a++[u])))/\lw c A e x f g b ρ d Q r (h.set d (ak (a++[u])))
   else b i/\lw c A e x f g b ρ d Q r i
theorem I2{m s}{a:L an}{Q:aK->Hp->Prop}{R:aK->ay->Prop}(h:pm c A env V P ρ H a Q)(fs:FS c A.frames V m P H s)(g:cs env P m ρ)(k:∀b d s',FS c A.frames V m P d s'->Q b d->R b s'):
  aX (aV au c.w) A (forIn a true λc r=>if r=true then do let i<-isTrue c env (hg c env);b6 (xv i)else b6 (xv r)) R No s:=by
 match a,h with
 |[],h=>exact wpAny_tests_nil (k _ _ _ fs h)
 |[e],h=>exact wpAny_tests_one (cf (h s m fs g) (λb s' ⟨d,f,q⟩=>k _ _ _ f q) λ_ _ x=>x)
noncomputable def ux(c:Cx)(A:bj)(env:a8)(j:ae)(ρ:ao)(f:ae)(isIt:ag->aC->Prop)(vs:L ab)(a:Hp->Prop)(x:am)(g:L an)(h:an)(d:ae)(Q:Hp->Prop)(B:Pr)(n:ag)(s:ay):Prop:=∃i P H m o,i+n=vs.length/\(∀b e,B b=G e->P b=G e)/\P f=G o/\FS c A.frames j m P H s/\cs env P m ρ/\isIt i o/\a H/\lw c A env.scope x g h a ρ d Q (vs.drop i) H
theorem ux.el{f:ae}{isIt:ag->aC->Prop}{vs:L ab}{a:Hp->Prop}{x:am}{g:L an}{h:an}{d:ae}{Q:Hp->Prop}{B:Pr}{n:ag}{s:ay}{j:Prop}(z:ux c A env V ρ f isIt vs a x g h d Q B n s)
  (k:∀i P H m o,i+n=vs.length->(∀b e,B b=G e->P b=G e)->P f=G o->FS c A.frames V m P H s->cs env P m ρ->isIt i o->a H->lw c A env.scope x g h a ρ d Q (vs.drop i) H->j):j:=
 z.elim λi z=>z.elim λP z=>z.elim λH z=>z.elim λm z=>z.elim λo z=>k i P H m o z.1 z.2.1 z.2.2.1 z.2.2.2.1 z.2.2.2.2.1 z.2.2.2.2.2.1 z.2.2.2.2.2.2.1 z.2.2.2.2.2.2.2
theorem I3{m s}{d:ae}{us:L ab}{u:ab}{R:ab->ay->Prop}(fs:FS c A.frames V m P H s)(h:H d=G (ak us))(a:us.length<bL)(k:∀s',FS c A.frames V m P (H.set d (ak (us++[er u]))) s'->R ah s'):aX (aV au c.w) A (hP (bS "list.append") [J d,u]) R No s:=(fs.real h).elim λj x=>x.2.elim λi x=>wpAny_list_append_plain (hsz:=by rw [fP,<-bJ (f:=er),x.2];exact hO (fo a gT)) x.1 λp g l=>k _ (fs.setAt (s':={s with heap:=p}) h E (λb o n e=>(l.2 b n).trans e) E E λj=>⟨by rw [b3];exact a,i++[u],by rw [DV]at g;exact g,by rw [c0,x.2];rfl⟩)
theorem I4{a:ae}{isIt:ag->aC->Prop}{vs:L ab}{g:Hp->Prop}{x:am}{px:aI}{l:L an}{t as:an}{ad:cB}{pos:aI}{d:ae}{Q:Hp->Prop}{R:hH->ay->Prop}{B:Pr}
  (rm:bu A D) (IT:iq c A a isIt vs g) (ap:∀i o v,isIt i o->o.data≠dZ v) (eo:cc env V) (ok:fk x=true) (hx:env.kindOf (I x)=G .local) (Y:c.h₀.get? a=af) (X:B a=af) (aw:ρ.lookup x=af) (aN:∃o,eJ c.h₀ A.frames (B.set V o))
  {s m o us} (K:∀b f,B b=G f->P b=G f) (p:P a=G o) (fs:FS c A.frames V m P H s) (j:cs env P m ρ) (r:isIt 0 o) (hs:g H) (hd:H d=G (ak us))
  (h:lw c A env.scope x l t g ρ d Q vs H) (k:∀s' m' H',FS c A.frames V m' B H' s'->Q H'->R (dW .next) s'):
  jl (aV au c.w) A (.compLoop (j0 t [⟨bA (I x) px,as,l,0⟩] ad pos) 0 (J a) (J d) env) R s:=by
 have ao:∀{P m v},cs env P m (aZ x v ρ)->cs env P m ρ:=λ{P m v} j y u e=>j y u (by rw [lp,aG λz:y=x=>c_ e (z▸aw)];exact e)
 refine codeAny_compLoop_tests (ux c A env V ρ a isIt vs g x l t d Q B) (λn s z=>eK (z.el λi P H m o N K p fs j r hs h=>?_)) vs.length ⟨0,P,H,m,o,qN _,K,p,fs,j,r,hs,h⟩;have hc:∀f v,P a=G f->f.data≠dZ v:=λf v e=>bc (p.symm.trans e)▸ap i o v r
 induction n with
 |zero=>have W:vs.length<=i:=cR N.symm;rw [xu W]at h;exact IT.done fs p r Y hs (tA.mpr W) λs' S=>k _ _ _ (S.lessP (λb f e=>(j9 _ (nn e X)).trans (K b f e)) aN) h
 |succ n _=>
  have T:i<vs.length:=N▸nf (gE n);rw [Es T]at h;refine IT.item fs p r Y hs (iD T) λaY F s' ew aF S=>eK (Ej (I1 eo ok hx S (j.to (uq hc)) λM s2 aW C=>?_));rw [ew]at C;have ac:∀{s H},FS c A.frames V M (P.set a F) H s->g H->lw c A env.scope x l t g ρ d Q (vs.drop (i+1)) H->∃m,m<n+1/\ux c A env V ρ a isIt vs g x l t d Q B m s:=λfs hs q=>⟨n,nj n,i+1,P.set a F,_,M,F,(s_ i n).trans N,λb f e=>(bg _ _ (nn e X)).trans (K b f e),b8 _ _ _,fs,ao C,aF,hs,q⟩;refine eK (I2 (h env V (P.set a F) eo E) aW C λb H3 al Z q=>?_)
  induction b with
  |false=>exact ac Z q.1 q.2
  |true=>rw [aJ E]at q;exact eK (cf (q al M Z C) (λu a1 z=>z.elim λH4 z=>z.2.elim λus y=>eK (I3 z.1 y.1 y.2.1 λa0 aU=>ac aU y.2.2.1 y.2.2.2)) λ_ _ y=>y)
noncomputable def lx(c:Cx)(A:bj)(a:ae)(isIt:ag->aC->Prop):Prop:=∀{h:ay} {i o} {Q:ab->ay->Prop},h.heap.get? a=G o->isIt i o->Q (J a) h->aX (aV au c.w) A (pyIter (J a)) Q No h
theorem I5{l a:ae}:lx c A a (ut l):=λ{h i o Q} e b q=>wpAny_pyIter_listiter (l:=l) (i:=i) ⟨o,e,b⟩ q
theorem I6{n:U}{a:ae}:lx c A a (rr n):=λ{h i o Q} e b q=>wpAny_pyIter_rangeiter (x:=i) (left:=n-i) (step:=1) (by show _=_;rw [e,show o=_ from b]) q
noncomputable def jx(a:cB)(p:a6×gG):a6×gG:=if(p.2==eU&&a.kind==md&&a.names.lookup p.1==G ft)then(p.1,ft)else(p.1,p.2)
theorem I7{a:cB}{y:a6}{k:gG}(h:k≠eU):jx a (y,k)=(y,k):=aG λz=>h (by rw [fg,fg]at z;exact cU z.1.1)
theorem I8(a:cB)(p:a6×gG):(jx a p).1=p.1:=by unfold jx;split<;>rfl
theorem zU{a:cB}{y:a6}:∀{l:L (a6×gG)},(l.map (jx a)).lookup y=(l.lookup y).map λk=>(jx a (y,k)).2
 |[]=>E
 |p::r=>by
  rw [e6];obtain ⟨n,k⟩:=p;rw [fQ];have e:jx a (n,k)=(n,(jx a (n,k)).2):=by have:=I8 a (n,k);exact Prod.ext this E
  rw [e,fQ];cases b:y==n with
  |true=>rw [c4.mp b];rfl
  |false=>exact zU
theorem uy(a b:cB)(y:a6):(iY a b).names.lookup y=(a.names.lookup y).map λk=>(jx b (y,k)).2:=zU
theorem nN{a b:cB}{x:am}(h:j_ a b x=true):a.kind=md/\b.kind=md/\fk x=true/\(a.names.map (·.1)).Nodup/\a.names.lookup (I x)=G .local/\
  ∀p∈a.names,p.2≠ft/\(p.2=eU->b.names.lookup p.1=G ft):=by
 unfold j_ at h;simp only [fg,c4,tB,fe,oQ,oS]at h;obtain ⟨⟨⟨⟨⟨k,j⟩,i⟩,g⟩,f⟩,d⟩:=h;refine⟨k,j,i,g,f,λp c=>⟨(d p c).1,λe=>?_⟩⟩;rcases (d p c).2 with q|q
 ·exact bW e q
 ·exact q
theorem zV{l:L (a6×ae)}{x:a6}{a:ae}(h:(x,a)∈l):∃b,l.lookup x=G b/\(x,b)∈l:=by
 induction l with
 |nil=>exact bW h gc
 |cons p r d=>
  rw [fQ];cases c:x==p.1 with
  |true=>exact⟨p.2,E,c4.mp c▸bn⟩
  |false=>exact(bQ.mp h).elim (λe=>bW ((aA s4 e).symm) (Ne.symm (dB.mp c))) λe=>(d e).imp λb q=>⟨q.1,bM _ q.2⟩
noncomputable def ru(c:Cx)(A:bj)(e:cB)(b:cB)(x:am)(f:L an)(g:an)(ρ:ao)(Q:ae->Hp->Prop)(a:Hp->Prop)(vs:L ab)(H:Hp):Prop:=∀d,H d=af->a (H.set d (ak []))/\lw c A (iY b e) x f g a (rs b ρ) d (Q d) vs (H.set d (ak []))
theorem I9{c:cB}{x:am}{cl:L (a6×ae)}{C:ae}(f:cc env V)(g:j_ c env.scope x=true)(j:(cl.map (·.2)).Nodup)(i:∀y,(y,eU)∈c.names->∃a,(y,a)∈cl):cc (compEnvC c cl C env) C:=
 have K:=nN g
 ⟨K.1,f.glob,f.blt,E,j,λy d=>by
  have d:(iY c env.scope).names.lookup y=G ft:=d;rw [uy]at d;obtain ⟨k,n,m⟩:=gm.mp d;have e:=j4 n
  have h:k=eU:=by
   by_cases q:k=eU
   ·exact q
   ·exact bW ((aA Prod.snd (I7 q)).symm.trans m) (K.2.2.2.2.2 _ e).1
  exact(i y (h▸e)).elim λa l=>(zV l).elim λb q=>(aA DW q.1:(cl.lookup y).isSome=true)⟩
theorem I_{c:cB}{x:am}{cl:L (a6×ae)}{C:ae}{m m':a6->aj ab}{P':Pr}(k:cs env P m ρ)(d:j_ c env.scope x=true)(w:∀p∈cl,env.cells.lookup p.1=G p.2)(t:∀y,(y,eU)∈c.names->∃a,(y,a)∈cl)
  (B:∀a o u,P a=G o->o.data=dZ u->P' a=G o):cs (compEnvC c cl C env) P' m' (rs c ρ):=λy v e=>by
 have K:=nN d;have j:=zT (q:=λy=>c.names.lookup (I y)==G eU) e;have i:=c4.mp j.2;have h:=j4 i;have d:=(K.2.2.2.2.2 _ h).2 E;refine(k y v j.1).imp_right (c3 λD=>jk λl=>?_);cases l with
 |loc f F=>rw [show env.kindOf (I y)=env.scope.names.lookup (I y)from E,d]at f;cases f
 |@cell a s f r n g=>refine(t _ h).elim λH A=>(zV A).elim λb q=>?_;have z:b=a:=bc ((w _ q.2).symm.trans r);refine me (bt ?_) q.1 (o:=s) (z▸B _ _ _ n g) g;show(iY c env.scope).names.lookup (I y)=_;rw [uy,i];simp [jx,K.2.1,d]
theorem zW{f:ae}{isIt:ag->aC->Prop}{vs:L ab}{ac:Hp->Prop}{x:am}{px:aI}{S:L an}{Y ao:an}{g:cB}{pos:aI}{Q:ae->Hp->Prop}{RR:ab->ae->hH->ay->Prop}{cl:L (a6×ae)}
  (rm:bu A D) (IT:iq c A f isIt vs ac) (SI:lx c A f isIt) (a1:∀i o v,isIt i o->o.data≠dZ v) (nd:∀i o,isIt i o->¬dL o) (eo:cc env V) (N:j_ g env.scope x=true) (h0:c.h₀.get? f=af) (X:P f=af)
  (bf:iZ g.names env.cells []=G cl) (a5:(cl.map (·.2)).Nodup) (a4:∀p∈cl,env.cells.lookup p.1=G p.2) (as:∀y,(y,eU)∈g.names->∃a,(y,a)∈cl)
  {s m o} (fs:FS c A.frames V m (P.set f o) H s) (a0:cs env P m ρ) (t:isIt 0 o) (h:ru c A env.scope g x S Y ρ Q ac vs H)
  (a7:∀d C R mC u s',P C=af->c.h₀.get? C=af->C≠V->FS c A.frames V m (P.set C R) u s'->s'.heap.Ns C mC->Q d u->RR (J d) C (dW .next) s'):
  aX (aV au c.w) A (newList []) (λacc aZ=>aX (aV au c.w) A (newFunctionEnv g env.globals cl [] env.qual af ah (G env)) (λaW aY=>jl (aV au c.w) A (.compStart (j0 Y [⟨bA (I x) px,ao,S,0⟩] g pos) 0 (J f) acc {aW with scope:=relabel g env}) (RR acc aW.locals) aY) be aZ) be s:=by
 have K:=nN N;refine Eh (wpAny_newFunctionEnv (λp hp=>(K.2.2.2.2.2 p hp).1) (λy hy=>bW hy gc) (λap W T=>?_) K.1);have f1:=fs.push (o:={cls:=aM "list",data:=dp ([]:L ab).toArray}) (mo:=ak []) λbd=>⟨eh _,[],⟨_,ng _ E⟩,E⟩;have hq:=h _ f1.1;have aN:=f1.2;dsimp only at W T⊢;generalize s.heap.push {cls:=aM "list",dict:=af,data:=dp ([]:L ab).toArray}=n at W T aN⊢;refine(aN.enter (s':={s with heap:=ap,toks:=s.toks+0}) (ga (cw _)) (λb o e=>T.extBut b o (l8 (kT e)) (gF _ e)) W E E).elim λl z=>?_
 have r:=fs.neL (b8 P f o);have ad:P V=af:=(bg _ _ r.symm).symm.trans fs.pl;have ba:n.objs.size≠f:=(nn (b8 P f o) z.2.1).symm;have F:P n.objs.size=af:=(bg _ _ ba).symm.trans z.2.1;have Z:=z.2.2.2.1;have aw:=z.2.2.2.2
 have al:jl (aV au c.w) A (.compLoop (j0 Y [⟨bA (I x) px,ao,S,0⟩] g pos) 0 (J f) (J s.heap.objs.size) (compEnvC g cl n.objs.size env)) (RR (J s.heap.objs.size) n.objs.size) {s with heap:=ap,toks:=s.toks+0}:=by
  have a3:∃o',eJ c.h₀ A.frames ((P.set V l).set n.objs.size o'):=fs.fr.elim λo0 q=>by have q1:=q.own z.1.dict;have q2:eJ c.h₀ A.frames (P.set V l):=q1.but (fs.notFr (b8 P f o) (nd 0 o t)) λb k j e=>gr (M:=λb k=>b≠f->P.set V l b=G k) e (λ_=>b8 _ _ _) (λa2 e j=>(bg _ _ a2).trans ((bg _ _ j).symm.trans e)) j;exact⟨l,q2.but (q2.not λo' e=>c_ e ((bg _ _ Z).trans F)) λb k j e=>(bg _ _ j).trans e⟩
  refine I4 (B:=P.set V l) (o:=o) rm IT a1 (I9 eo N a5 as) K.2.2.1 (by show(iY g env.scope).names.lookup (I x)=_;rw [uy,K.2.2.2.2.1];simp [jx]) h0 ((bg _ _ r).trans X) (gH λv e=>by
   have e2:=(zT (q:=λy=>g.names.lookup (I y)==G eU) e).2;rw [K.2.2.2.2.1]at e2;cases e2) a3 (us:=[]) (λb k e=>gr (M:=λb k=>(P.set f o).set V l b=G k) e (b8 _ _ _) λj e=>(bg _ _ j).trans ((bg _ _ (nn e X)).trans e)) ((bg _ _ r).trans (b8 _ _ _)) aw
   (I_ a0 N a4 as λa o bb e _=>(bg _ _ (nn e ad)).trans ((bg _ _ (nn e X)).trans e)) t hq.1 (aF _ _ _) hq.2 λs' m' u aU q=>(aU.turn ad fs.hl F z.1 Z).elim λR a_=>a7 _ _ R m' u s' F z.2.2.1 Z a_ aU.ns q
 exact codeAny_compStart_list al (eK (SI (o:=o) (i:=0) (aw.prot ((bg _ _ r).trans (b8 _ _ _)) (nd 0 o t)) t al))
theorem Ja{o o':aC}{x:aj aC}{m:a6->aj ab}(s:hn o x)(e:x=G o')(n:hU o' m):hU o m:=by
 obtain ⟨q,a,rfl|⟨_,b,rfl⟩⟩:=s
 ·rw [e]at a;cases a;exact n
 ·rw [e]at a;cases a;exact n
theorem HR.setPs{w:bh}{h₀ h h':bI}{H:Hp}{P P':Pr}{i:ae->aj ae}{c:L ae}(x:HR w h₀ H P i h)(l:∀b∈c,∃o,P b=G o)(y:∀b∈c,h₀.get? b=af)
  (f:∀b o,b∉c->h.get? b=G o->h'.get? b=G o) (n:∀b o,P' b=G o->(b∈c/\h'.get? b=G o)\/(b∉c/\P b=G o)):HR w h₀ H P' i h':=by
 have j:∀d a,i d=G a->d∉c:=λd a e g=>by obtain ⟨o,q⟩:=l d g;rw [(x.owned d a e).1]at q;cases q
 have s:∀a m,H a=G m->a∉c:=λa m e v=>by obtain ⟨o,q⟩:=l a v;rw [(x.apart a m e).2.1]at q;cases q
 have k:∀b,b∉c->P b=af->P' b=af:=λb u e=>by
  cases q:P' b with
  |none=>rfl
  |some o=>
   rcases n b o q with z|z
   ·exact bW z.1 u
   ·rw [e]at z;cases z.2
 refine⟨λb o e=>f b o (λq=>by rw [y b q]at e;cases e) (x.stat b o e),λb o e=>?_,λa m e=>?_,λa m e=>?_,λd a e=>?_⟩
 ·rcases n b o e with z|z
  ·exact .refl z.2
  ·exact(x.prot b o z.2).keep λt=>f b t z.1
 ·exact(x.real a m e).keeps (λo q=>f a o (s a m e) q) λd g=>⟨g,λo q=>f d o (j d a g) q⟩
 ·obtain ⟨p,q,r⟩:=x.apart a m e
  exact⟨p,k a (s a m e) q,r⟩
 ·obtain ⟨p,q,o,r⟩:=x.owned d a e
  exact⟨k d (j d a e) p,q,o,f d o (j d a e) r⟩
theorem eJ.buts{h₀:bI}{l:aj (L a8)}{P P':Pr}{c:L ae}(x:eJ h₀ l P)(n:∀b∈c,j6 l b)(h:∀b o,b∉c->P b=G o->P' b=G o):eJ h₀ l P':=x.map0 λf o q a _ _=>⟨o,h f o (λz=>q.elim λd q=>q.2.elim λe r=>n f z d q.1 e r.1 r.2) a,by assumption⟩
noncomputable def Pr.ov(P:Pr)(a:L ae)(h:bI):Pr:=λb=>if b∈a then h.get? b else P b
theorem nO{P:Pr}{a:L ae}{h:bI}{b:ae}(c:b∈a):P.ov a h b=h.get? b:=aJ c
theorem hZ{P:Pr}{a:L ae}{h:bI}{b:ae}(c:b∉a):P.ov a h b=P b:=aG c
theorem zX{a:L ae}{h':bI}{l:aj (L a8)}{d:aC}(k:V∉a)(f:eJ c.h₀ l (P.set V d))(j:∀b∈a,j6 l b):eJ c.h₀ l ((P.ov a h').set V d):=f.buts j λb h g e=>gr (M:=λb h=>b∉a->(P.ov a h').set V d b=G h) e (λ_=>b8 _ _ _) (λi e g=>(bg _ _ i).trans ((hZ g).trans e)) g
theorem FS.keepSets{m s s'}{a:L ae}(fs:FS c A.frames V m P H s)(j:∀b∈a,∃o,P b=G o)(r:∀b∈a,c.h₀.get? b=af)(n:∀b o,b∉a->s.heap.get? b=G o->s'.heap.get? b=G o)(p:s'.gens=s.gens)(k:s'.os=s.os)(l:∀b∈a,j6 A.frames b):FS c A.frames V m (P.ov a s'.heap) H s':=
 have g:V∉a:=λh=>(j V h).elim λo q=>c_ q fs.pl
 ⟨(hZ g).trans fs.pl,fs.hl,fs.st.imp λi q=>⟨q.1,p.trans q.2.gens,k.trans q.2.os,zX g q.2.frs l,q.2.hr.imp λt z=>z.setPs (λb f=>(j b f).imp λo q=>fs.out q i) r n λb o e=>
  gr (M:=λb o=>(b∈a/\s'.heap.get? b=G o)\/(b∉a/\P.set V i b=G o)) e (bF ⟨g,b8 _ _ _⟩) λf e=>by
   by_cases d:b∈a
   ·exact bt ⟨d,(nO d).symm.trans e⟩
   ·exact bF ⟨d,(bg _ _ f).trans ((hZ d).symm.trans e)⟩⟩⟩
theorem FS.keepNews{m s s'}{d:L ae}(fs:FS c A.frames V m P H s)(n:∀b∈d,s.heap.get? b=af)(l:∀b o,s.heap.get? b=G o->s'.heap.get? b=G o)(u:s'.gens=s.gens)(t:s'.os=s.os):
  (∀b∈d,P b=af/\c.h₀.get? b=af)/\FS c A.frames V m (P.ov d s'.heap) H s':=
 have i:V∉d:=λh=>(j5 fs.ns).elim λ_ q=>c_ q.1 (n V h);have p:∀b∈d,P b=af/\c.h₀.get? b=af:=λb a=>fs.el λj r _ _ z=>have f:=z.fresh (n b a);⟨(bg _ _ λe:b=V=>i (e▸a)).symm.trans f.2.1,f.2.2.1⟩
 ⟨p,(hZ i).trans fs.pl,fs.hl,fs.st.imp λj q=>⟨q.1,u.trans q.2.gens,t.trans q.2.os,zX i q.2.frs λb a=>q.2.frs.not λo e=>c_ e ((bg _ _ λe:b=V=>i (e▸a)).trans (p b a).1),q.2.hr.imp λr z=>z.moreP l
  (λb o e=>gr (M:=λb o=>hn o (s'.heap.get? b)) e ((z.prot V j (b8 _ _ _)).keep (l V)) λa e=>by
   by_cases g:b∈d
   ·exact .refl ((nO g).symm.trans e)
   ·exact(z.prot b o ((bg _ _ a).trans ((hZ g).symm.trans e))).keep (l b))
  λb o e=>gr (M:=λb o=>P.set V j b=af->s.heap.get? b=af) e (λk=>c_ (b8 _ _ _) k) λa e k=>by
   by_cases g:b∈d
   ·exact n b g
   ·exact c_ ((bg _ _ a).trans ((hZ g).symm.trans e)) k⟩⟩
noncomputable def rv(o:aC):Prop:=(∀v,o.data≠dZ v)/\¬dL o
theorem rv.f{o:aC}{v:a9 ab}(h:o.data=cx v):rv o:=⟨λ_ z=>(by rw [h]at z;cases z),ek h⟩
theorem rv.s{o:aC}{v:a9 ab}{n:ag}(h:o.data=dp v n):rv o:=⟨λ_ z=>(by rw [h]at z;cases z),λ⟨_,_,z⟩=>by rw [h]at z;cases z⟩
structure jy(c:Cx)(A:bj)(I:ae)(d:L ae)(St:ag->bI->Prop)(g:L (L ab))(f:Hp->Prop):Prop where
 alive:∀i h,St i h->∀b∈d,∃o,h.get? b=G o/\rv o
 frame:∀i h h',St i h->(∀b∈d,∀o,h.get? b=G o->h'.get? b=G o)->St i h'
 turn:∀{V m P H} {s:ay} {i row elts k pos} {R:ae->ay->Prop},FS c A.frames V m P H s->St i s.heap->(∀b∈d,∃o,P b=G o)->f H->g[i]? =G row->
  (∀T (e:L ab) a,e.map er=row->IsTup a.heap T e.toArray->St (i+1) a.heap->(∀b o,b∉d->s.heap.get? b=G o->a.heap.get? b=G o)->a.gens=s.gens->a.os=s.os->R T a)->
  aX (aV au c.w) A (pyNext (J I)) (λr a=>∃T,r=G (J T)/\aX (aV au c.w) A (mj (eG elts k pos) (J I) (J T)) (λ_ j=>R T j) No a) No s
 done:∀{V m P H} {s:ay} {R:ay->Prop},FS c A.frames V m P H s->St g.length s.heap->(∀b∈d,∃o,P b=G o)->f H->
  (∀a,(∀b o,b∉d->s.heap.get? b=G o->a.heap.get? b=G o)->a.gens=s.gens->a.os=s.os->R a)->aX (aV au c.w) A (pyNext (J I)) (λr a=>r=af/\R a) No s
theorem zY{I:ae}{K g f:L ae}{n:ag}{t:ag->a9 ab->Prop}{St e:ag->bI->Prop}{M:ag->ae->bI->Prop}{s:ay}{i:ag}{row:L ab}{elts:L an}{k:ag}{pos:aI}{R:ae->ay->Prop}(W:Et au c.w A I K f n t e M)
  (C:i<n) (v:e i s.heap) (j:∀b∈f,b∈g) (y:∀a,t i a->a.toList.map er=row) (hs:∀h,e (i+1) h->St (i+1) h)
  (F:∀T (a:L ab) d,a.map er=row->IsTup d.heap T a.toArray->St (i+1) d.heap->(∀b o,b∉g->s.heap.get? b=G o->d.heap.get? b=G o)->d.gens=s.gens->d.os=s.os->R T d):
  aX (aV au c.w) A (pyNext (J I)) (λr d=>∃T,r=G (J T)/\aX (aV au c.w) A (mj (eG elts k pos) (J I) (J T)) (λ_ x=>R T x) No d) No s:=
 W.item i s _ No C v λT a Q N H _ D p B=>⟨T,E,W.go elts k pos i T _ _ No p λP u l=>F T a.toList _ (y a H) (D.imp λo q=>⟨l T o (W.apart i T _ p) q.1,q.2⟩) (hs _ u) (λb o m q=>l b o (λz=>m (j b z)) (B b o (λz=>m (j b z)) q)) E E⟩
theorem zZ{I:ae}{l e d:L ae}{n:ag}{m:ag->a9 ab->Prop}{f:ag->bI->Prop}{p:ag->ae->bI->Prop}{s:ay}{R:ay->Prop}(W:Et au c.w A I l d n m f p)
  (h:f n s.heap) (g:∀b∈d,b∈e) (k:∀a,(∀b o,b∉e->s.heap.get? b=G o->a.heap.get? b=G o)->a.gens=s.gens->a.os=s.os->R a):aX (aV au c.w) A (pyNext (J I)) (λr a=>r=af/\R a) No s:=
 W.done s _ No h λt q i=>⟨E,k _ (λb o j=>i b o λz=>j (g b z)) E E⟩
noncomputable def jz(c:Cx)(A:bj)(env:a8)(a:ae)(e:ab->ay->Prop)(ts:L an)(body:L bz)(b:Hp->Prop)(Q:b_->ao->Hp->Prop):L (L ab)->ao->Hp->Prop
 |[],ρ,H=>Q .next ρ H
 |v::r,ρ,H=>v.length=ts.length/\∀Pb,iU c A env a Pb ρ H ts v λg h=>∀Pb,XS c A env a Pb e g h body (ip Q λf d=>b d/\jz c A env a e ts body b Q r f d)
theorem cs.ov{c:L ae}{h:bI}{m}(g:cs env P m ρ)(i:∀b∈c,∀f v,P b=G f->f.data≠dZ v):cs env (P.ov c h) m ρ:=g.to λa o u e d=>(hZ λj=>i a j o u e d).trans e
theorem cY.ov{f:L ae}{h:bI}(j:cY c env V Pb P)(k:∀b∈f,Pb b=af)(l:∀b∈f,∀i v,P b=G i->i.data≠dZ v):cY c env V Pb (P.ov f h):=j.to (λa o e=>(hZ λg=>c_ e (k a g)).trans (j.sub a o e)) (λ_ _ _ _ q=>q) λa o u e d=>(hZ λg=>l a g o u e d).trans e
theorem cY.base{b}(f:cY c env V Pb P)(hs:∀a o,b a=G o->P a=G o)(d:∀(x:am) a,env.kindOf (I x)=G ft->env.cells.lookup (I x)=G a->Pb a=af->b a=af):cY c env V b P:=f.to hs d λ_ _ _ e _=>e
theorem Jb{Pb P:Pr}{c:L ae}{h:bI}(hs:∀a o,Pb a=G o->P a=G o)(f:∀b∈c,P b=h.get? b):∀a o,Pb.ov c h a=G o->P a=G o:=λa o e=>by
 by_cases d:a∈c
 ·rw [nO d]at e;rw [f a d];exact e
 ·rw [hZ d]at e;exact hs a o e
noncomputable def rx(c:Cx)(A:bj)(env:a8)(a:ae)(Pb:Pr)(f:L ae)(St:ag->bI->Prop)(e:L (L ab))(d:Hp->Prop)(ts:L an)(body:L bz)(Q:b_->ao->Hp->Prop)(n:ag)(s:ay):Prop:=∃i P H m ρ,i+n=e.length/\cY c env a Pb P/\FS c A.frames a m P H s/\cs env P m ρ/\(∀b∈f,P b=s.heap.get? b)/\St i s.heap/\d H/\jz c A env a No ts body d Q (e.drop i) ρ H
theorem rx.el{e:L ae}{St:ag->bI->Prop}{d:L (L ab)}{a:Hp->Prop}{ts:L an}{body:L bz}{Q:b_->ao->Hp->Prop}{n:ag}{s:ay}{f:Prop}(x:rx c A env V Pb e St d a ts body Q n s)
  (k:∀i P H m ρ,i+n=d.length->cY c env V Pb P->FS c A.frames V m P H s->cs env P m ρ->(∀b∈e,P b=s.heap.get? b)->St i s.heap->a H->jz c A env V No ts body a Q (d.drop i) ρ H->f):f:=
 x.elim λi x=>x.elim λP x=>x.elim λH x=>x.elim λm x=>x.elim λρ x=>k i P H m ρ x.1 x.2.1 x.2.2.1 x.2.2.2.1 x.2.2.2.2.1 x.2.2.2.2.2.1 x.2.2.2.2.2.2.1 x.2.2.2.2.2.2.2
theorem uz{g:L ae}{h:bI}{j:Pr}(i:∀b∈g,Pb b=af)(f:cY c env V (Pb.ov g h) j):cY c env V Pb j:=
 f.base (λa o e=>f.sub a o ((hZ λd=>c_ e (i a d)).trans e)) λx a _ _ q=>by
  by_cases d:a∈g
  ·exact i a d
  ·exact(hZ d).symm.trans q
theorem Jc{I:ae}{d:L ae}{St:ag->bI->Prop}{m:L (L ab)}{l:Hp->Prop}{h':bI}{i:ag}{h:Pr}{g:ay}{r n}(k:jy c A I d St m l)(j:St i h')(f:cY c env V (Pb.ov d h') h)(p:FS c A.frames V n h r g):(∀b∈d,h b=g.heap.get? b)/\St i g.heap:=
 have K:∀b∈d,∃o,h'.get? b=G o/\h b=G o/\g.heap.get? b=G o:=λb a=>(k.alive _ _ j b a).imp λo q=>have e:=f.sub b o ((nO a).trans q.1);⟨q.1,e,p.prot e q.2.2⟩
 ⟨λb a=>(K b a).elim λo q=>q.2.1.trans q.2.2.symm,k.frame _ _ _ j λb a o e=>(K b a).elim λs q=>bc (q.1.symm.trans e)▸q.2.2⟩
theorem Jd{I:ae}{a:L ae}{St:ag->bI->Prop}{j:L (L ab)}{p:Hp->Prop}{ts:L an}{k:ag}{tp:aI}{body:L bz}{Q:b_->ao->Hp->Prop}(rm:bu A D)(a7:ts.all cW=true)
  (u:jy c A I a St j p) (B:∀b∈a,Pb b=af) (h0:∀b∈a,c.h₀.get? b=af) {s m} (K:cY c env V Pb P) (fs:FS c A.frames V m P H s) (T:cs env P m ρ) (W:∀b∈a,P b=s.heap.get? b) (C:St 0 s.heap) (hs:p H)
  (h:jz c A env V No ts body p Q j ρ H):
  jl (aV au c.w) A (.forLoop (eG ts k tp) (J I) body [] env) (λr s'=>match r with|dW f=>fz c A.frames env V Pb (Q (nL f)) s'|jf _=>d8) s:=by
 refine codeAny_forLoop_any (rx c A env V Pb a St j p ts body Q) (λn s I=>eK (I.el λi P H m ρ X K fs T W C hs h=>?_)) j.length ⟨0,P,H,m,ρ,qN _,K,fs,T,W,C,hs,h⟩;have M:∀b∈a,∃o,P b=G o:=λb g=>(u.alive i _ C b g).imp λo q=>(W b g).trans q.1;have a0:∀b∈a,∀t,P b=G t->rv t:=λb g t e=>(u.alive i _ C b g).elim λo q=>bc ((q.1.symm.trans (W b g).symm).trans e)▸q.2;have F:∀b∈a,∀t v,P b=G t->t.data≠dZ v:=λb g t v e=>(a0 b g t e).1 v;have aY:∀b∈a,j6 A.frames b:=λb g=>(M b g).elim λo e=>fs.notFr e (a0 b g o e).2
 induction n with
 |zero=>have hd:j.drop i=[]:=xu (cR X.symm);rw [hd]at h;refine(cf (u.done fs (X▸C) M hs (R:=λd=>fz c A.frames env V Pb (Q .next) d) λd hk as ap=>⟨_,ρ,H,m,K.ov B F,fs.keepSets M h0 hk as ap aY,T.ov F,h⟩) (λr d x=>?_) λ_ _ x=>x);rw [x.1];exact oT x.2
 |succ n _=>
  have aZ:i<j.length:=X▸nf (gE n);rw [Es aZ]at h;refine(cf (u.turn (elts:=ts) (k:=k) (pos:=tp) fs C M hs (iD aZ) (R:=λaN d=>aX (aV au c.w) A (jp (eG ts k tp) env (J aN)) (λ_ a4=>aX (aV au c.w) A (iz body env) (λf ac=>match f with
      | .next| .cont=>∃m,m<n+1/\rx c A env V Pb a St j p ts body Q m ac
      | .brk=>fz c A.frames env V Pb (Q .next) ac
      |ck v=>fz c A.frames env V Pb (Q (ck (er v))) ac) No a4) No d) λaN a2 d ev hT aW hk as ap=>?_) (λr d x=>?_) λ_ _ x=>x)
  ·have bb:=fs.keepSets (s':=d) M h0 hk as ap aY
   have e1:=ui (env:=env) a7;refine wpAny_assign_Tuple rm.handled hT (by rw [e1.1,fP,<-h.1,<-ev,bJ]) e1.2 λl ba=>?_
   have al:∀b o,d.heap.get? b=G o->l.get? b=G o:=λb o q=>ba b o (l8 (kT q)) q;have aw:FS c A.frames V m (P.ov a d.heap) H {d with heap:=l}:=bb.grow (s':={d with heap:=l}) al E E
   have a_:St (i+1) l:=u.frame _ _ _ aW λb _ o e=>al b o e;have w2:∀b∈a,P.ov a d.heap b=l.get? b:=λb g=>(u.alive _ _ aW b g).elim λo q=>(nO g).trans (q.1.trans (al b o q.1).symm);have aF:cY c env V (Pb.ov a l) (P.ov a d.heap):=(K.ov B F).base (Jb (K.ov B F).sub w2) λx a1 h1 h2 q=>(K.own x a1 h1 h2).2.2.elim λo r=>r.elim λa3 r=>(hZ λg=>F a1 g o a3 r.1 r.2).trans q;refine eK (cf (h.2 (Pb.ov a l) {d with heap:=l} m (P.ov a d.heap) a2 aF aw (T.ov F) ev) (λ_ s2 x=>x.el λP2 bd H2 m2 aF aw a5 x=>?_) λ_ _ x=>x)
   refine eK (cf (x (Pb.ov a l) s2 m2 P2 aF aw a5) (λfl aU x=>x.el λP3 S N m3 Z Y ad y=>?_) λ_ _ x=>x);have z:=Jc u a_ Z Y;have I:(p N/\jz c A env V No ts body p Q (j.drop (i+1)) S N)->rx c A env V Pb a St j p ts body Q n aU:=λy=>⟨i+1,P3,N,m3,S,(s_ i n).trans X,uz B Z,Y,ad,z.1,z.2,y.1,y.2⟩
   induction fl with
   |next=>exact⟨n,nj n,I y⟩
   |cont=>exact⟨n,nj n,I y⟩
   |brk=>exact⟨P3,S,N,m3,uz B Z,Y,ad,y⟩
   |ret v=>exact⟨P3,S,N,m3,uz B Z,Y,ad,y⟩
  ·refine x.elim λaN x=>x.1▸?_
   have y:=x.2;exact eK (cf y (λ_ s2 z=>eK (cf z (λ_ aU z'=>eK z') λ_ _ x=>x)) λ_ _ x=>x)
theorem uA{I:ae}{d:L ae}{St:ag->bI->Prop}{j:L (L ab)}{g:Hp->Prop}{ts:L an}{k:ag}{q:aI}{body:L bz}{Q:b_->ao->Hp->Prop}{s:ay}{h':bI}{m}{R:hH->ay->Prop}(u:bu A D)(B:ts.all cW=true)
  (p:cY c env V Pb P) (fs:FS c A.frames V m P H s) (x:cs env P m ρ) (F:∀b∈d,s.heap.get? b=af) (C:∀b o,s.heap.get? b=G o->h'.get? b=G o) (M:jy c A I d St j g) (t:St 0 h') (hs:g H) (h:jz c A env V No ts body g Q j ρ H)
  (K:∀f s',fz c A.frames env V Pb (Q (nL f)) s'->R (dW f) s'):jl (aV au c.w) A (.forLoop (eG ts k q) (J I) body [] env) R {s with heap:=h'}:=
 have z:=fs.keepNews (s':={s with heap:=h'}) F C E E
 have l:∀b∈d,Pb b=af:=λb a=>gH λo e=>c_ (p.sub b o e) (z.1 b a).1;have n:∀b∈d,∀i v,P b=G i->i.data≠dZ v:=λb a i v e=>c_ e (z.1 b a).1
 jm (Jd u B M l (λb a=>(z.1 b a).2) (p.ov l n) z.2 (x.ov n) (λb a=>nO a) t hs h) λr s' y=>by
  cases r with
  |ok f=>exact K f s' y
  |error e=>exact y.elim
noncomputable def uB(x:a6)(i:ag)(o:aC):Prop:=∃t,o.cls=aM "str_ascii_iterator"/\o.data=cx #[aE x t,aa i 0]
noncomputable def nP(x:a6):L ab:=x.cps.toList.map λ(k:ag)=>aE ⟨#[k]⟩ 0
theorem Je{x:a6}{h:ae}(u:bu A D):iq c A h (uB x) (nP x) (λ_=>True) where
 item:=λ{V i s m P H o v Q} f e j p I d k=>by
  obtain ⟨t,g,a⟩:=j;have l:s.heap.IsStrIter h "str_ascii_iterator" x t i:=⟨o,f.prot e (ek a),g,a⟩;unfold nP at d;rw [f_]at d;obtain ⟨y,C,rfl⟩:=gm.mp d;refine wpAny_pyNext_ascii_item l (c:=y) (by rw [<-ti];exact C) λr K F=>?_
  obtain ⟨B,N,z,w⟩:=K;exact k _ B _ E ⟨t,z,w⟩ (f.keepSet (s':={s with heap:=r,toks:=s.toks+1}) e p (λb o n q=>(F.2 b n).trans q) N E E (ek a))
 done:=λ{V i s m P H o Q} f e j p I d k=>by obtain ⟨t,g,a⟩:=j;have l:s.heap.IsStrIter h "str_ascii_iterator" x t i:=⟨o,f.prot e (ek a),g,a⟩;unfold nP at d;rw [f_,qJ]at d;exact wpAny_pyNext_ascii_end u.handled l (by rw [<-ti];exact d) λr M=>k _ (f.keepLose (s':={s with heap:=r}) e p (λb o n q=>M b o n q) E E (f.notFr e (ek a)))
theorem Jf{x:a6}{d:ae}:lx c A d (uB x):=λ{h i o Q} e f q=>by obtain ⟨t,b,a⟩:=f;exact wpAny_pyIter_striter_ascii (x:=x) (t:=t) (i:=i) ⟨o,e,b,a⟩ q
theorem Jg{b:a9 aP}{f:ae}:lx c A f (uw b):=λ{h i o Q} e g q=>by obtain ⟨t,d,a⟩:=g;exact KBw.pyIter_self (b:=b) (t:=t) (i:=i) ⟨o,e,d,a⟩ q
noncomputable def po(o:aj MO)(l:ae):aj (L ab×aj ae):=match o with
 |some (ak a)=>G (a,G l)
 |some (eg a)=>G (a,G l)
 |some (.rng n)=>if 0<=n/\n<=1000000 then G (iX n,af)else af
 |_=>af
noncomputable def fB(H:Hp)(v:ab):aj (L ab×aj ae):=eZ (pR v) (λl=>po (H l) l) (eZ (pY v) (λb=>G (mA b,af)) ((pS v).bind λx=>if x.cps.all (·<128)=true then G (nP x,af)else af))
noncomputable def dA(l:aj ae)(vs:L ab)(H:Hp):Prop:=match l with
 |some l=>bD H l=G vs
 |none=>True
noncomputable def uC(c:Cx)(A:bj)(e:ae)(m:a6->aj ab)(P:Pr)(H:Hp)(s:ay)(v:ab)(p:L ab×aj ae):Prop:=
 ∀R:ab->ay->Prop,(∀a (b:ag->aC->Prop) o d,iq c A a b p.1 (dA p.2 p.1)->lx c A a b->(∀i o v,b i o->o.data≠dZ v)->(∀i o,b i o->¬dL o)->(∀t v,rq t=true->mj t (J a) v=b6 ())->P a=af->c.h₀.get? a=af->b 0 o->dA p.2 p.1 H->FS c A.frames e m (P.set a o) H d->R (J a) d)->
  aX (aV au c.w) A (pyIter v) R No s
theorem Jh{t:an}{a:ae}{v:ab}(h:rq t=true):mj t (J a) v=b6 ():=DZ (motive_1:=λt=>mj t (J a) v=b6 ()) t (cU h) λ_ _=>E
theorem ry{m s}{v:ab}{p:L ab×aj ae}{isIt:ag->aC->Prop}{o:aC}(fs:FS c A.frames V m P H s)(d:∀i o,isIt i o->∃f,o.data=cx f)(I:iq c A s.heap.objs.size isIt p.1 (dA p.2 p.1))(S:lx c A s.heap.objs.size isIt)(g:o.isFreed=false)(j:isIt 0 o)(h:dA p.2 p.1 H)
  (k:∀R:ab->ay->Prop,R (J s.heap.objs.size) {s with heap:=s.heap.push o}->aX (aV au c.w) A (pyIter v) R No s):uC c A V m P H s v p:=λR r=>k R (
 have z:=fs.keepNew (s':={s with heap:=s.heap.push o}) (ga (cw _)) (λb o e=>gF _ e) (ng _ g) E E
 r _ isIt o _ I S (λi o v a z=>(d i o a).elim λf e=>by rw [e]at z;cases z) (λi o a=>(d i o a).elim λf e=>ek e) (λ_ _=>Jh) z.1 z.2.1 j h z.2.2.2)
theorem Ji{m s}{v:ab}{p:L ab×aj ae}(d:bu A D)(fs:FS c A.frames V m P H s)(h:fB H (er v)=G p):uC c A V m P H s v p:=
 have k:∀{l a},bD H l=G a->uC c A V m P H s (J l) (a,G l):=λ{l a} q=>ry (isIt:=ut l) fs (λi o h=>⟨_,h.2⟩) (IT d) I5 E ⟨E,E⟩ q λR r=>fs.listK q λC b y e=>wpAny_pyIter_list y r
 fj h (λl e h=>hk e▸lc (f:=λo=>po o l) h E λw j h=>by
  induction w with
  |list a=>exact bc h▸k (by unfold bD;rw [j])
  |rol a=>exact bc h▸k (by unfold bD;rw [j])
  |rng n=>refine gd h λg h=>bc h▸(fs.real j).elim λF x=>x.elim λt x=>x.elim λu x=>x.elim λv z=>?_;exact ry (isIt:=rr n) fs (λi o h=>⟨_,aA s3 (show o=_ from h)⟩) (IX d) I6 (o:={cls:=aM "range_iterator",data:=cx #[iJ 0,iJ n,iJ 1]}) E (by show _=_;rw [show n-((0:ag):U)=n from U.sub_zero n];rfl) trivial λR r=>wpAny_pyIter_range z (zO g.1 g.2) (by rw [uv g.1];exact r)
  |_=>exact gR h)
 λh=>fj h (λb e h=>(mu e).elim λu e=>e▸bc h▸ry (isIt:=uw b) fs (λi o h=>h.elim λt h=>⟨_,h.2⟩) (IY d) Jg E ⟨u,E,E⟩ trivial λR r=>KBw.pyIter_bytes r)
 λh=>qY h λx u e h=>gd h λB h=>e▸bc h▸ry (isIt:=uB x) fs (λi o h=>h.elim λt h=>⟨_,h.2⟩) (Je d) Jf E ⟨u,E,E⟩ trivial λR r=>wpAny_pyIter_ascii B r
theorem uD{m s}{v:ab}{vs:L ab}{b:aj ae}{R:ab->ay->Prop}(d:bu A D)(fs:FS c A.frames V m P H s)(h:fB H (er v)=G (vs,b))
  (k:∀a (isIt:ag->aC->Prop) o s',iq c A a isIt vs (dA b vs)->lx c A a isIt->(∀i o v,isIt i o->o.data≠dZ v)->(∀i o,isIt i o->¬dL o)->(∀t v,rq t=true->mj t (J a) v=b6 ())->P a=af->c.h₀.get? a=af->isIt 0 o->dA b vs H->FS c A.frames V m (P.set a o) H s'->R (J a) s'):
  aX (aV au c.w) A (pyIter v) R No s:=Ji d fs h R k
theorem Jj{t e:an}{body:L bz}{pos:aI}{Q:b_->ao->Hp->Prop}(n:bu A D)(w:rq t=true)(hs:nM e=true)
  (h:fA c A env V Pb ρ H e λv N=>∃vs b,fB N v=G (vs,b)/\mz c A env V No t body (dA b vs) Q vs ρ N):X1 c A env V Pb No ρ H (.For t e body [] pos) Q:=λs m P g K i=>
 wpAny_For ((h P g).here K i λv R N I x=>x.elim λvs x=>x.elim λb x=>uD n I x.1 λd T o l M W q S u k C B z F=>
  have p:Pb d=af:=gH λo e=>c_ (g.sub d o e) k;have j:∀a v,P d=G a->a.data≠dZ v:=λa v e=>c_ e k
  jm (IS M q (λv=>u t v w) p C (g.set j) F (i.set j) B z x.2) λr l y=>by
   cases r with
   |ok f=>exact y
   |error e=>exact y.elim) λx=>uu hs
theorem z0{c:cB}{x:am}(d:cc env V)(i:j_ c env.scope x=true):∃cl,iZ c.names env.cells []=G cl/\(cl.map (·.2)).Nodup/\(∀p∈cl,env.cells.lookup p.1=G p.2)/\(∀y,(y,eU)∈c.names->∃a,(y,a)∈cl):=by obtain ⟨r,q,o,k,n,j⟩:=nN i;obtain ⟨cl,h,g,f,m,e⟩:=I0 d.inj (names:=c.names) (acc:=[]) (λp b l=>d.cel _ ((j p b).2 l)) k (λp b=>nomatch b) (λp b=>nomatch b) oU;exact⟨cl,h,g,f,e⟩
theorem Jk{s a:an}{x:am}{o:aI}{k:L an}{e:cB}{pos:aI}{Q:ab->Hp->Prop}(l:bu A D)(r:cc env V)(i:j_ e env.scope x=true)(hs:nM a=true)
  (h:EV c A env V P ρ H a λv N=>∃vs j,fB N v=G (vs,j)/\ru c A env.scope e x k s ρ (λd=>Q (J d)) (dA j vs) vs N):
  EV c A env V P ρ H (j0 s [⟨bA (I x) o,a,k,0⟩] e pos) Q:=λap m p n=>by
 have K:=nN i;rw [eval_ListComp];exact(z0 r i).elim λcl z=>wpAny_comprehension_free (use:=af) (g:=⟨bA (I x) o,a,k,0⟩) (gs:=[]) E (λ_=>uu hs) (zR z.1) K.1 (λao M W=>by rw [<-W];exact zS K.2.2.2.1 M)
  (h.here p n λv s1 N ad x=>x.elim λvs x=>x.elim λj x=>uD l ad x.1 λit aw as f IT SI B y lg S Y T aF ac=>zW (RR:=λal C=>compPost (aV au c.w) A No af (λv f=>∃b,FS c A.frames V m P b f/\Q (er v) b) al C) l IT SI B y r i Y S z.1 z.2.1 z.2.2.1 z.2.2.2 ac n T x.2 λd C oC F b f t X CL Z u q=>⟨F,u,λh' R=>⟨b,Z.leave t X R p.fr,q⟩⟩)
theorem Jl{m b:an}{x y:am}{l i:aI}{k:L an}{f:cB}{pos B:aI}{Q:b_->ao->Hp->Prop}(F:bu A D)(eo:cc env V)(r:j_ f env.scope x=true)(hs:nM b=true)(ky:iT env y=true)
  (aU:l9 (j0 m [⟨bA (I x) l,b,k,0⟩] f pos) (G (bA (I y) i)) B.line env=b6 true)
  (h:fA c A env V Pb ρ H b λv N=>∃vs s,fB N v=G (vs,s)/\ru c A env.scope f x k m ρ (λd H2=>Q .next (aZ y (J d) ρ) H2) (dA s vs) vs N):
  X1 c A env V Pb No ρ H (hN [bA (I y) i] (j0 m [⟨bA (I x) l,b,k,0⟩] f pos) B) Q:=λap a7 P t Y n=>by
 have ac:=nN r;rw [exec_Assign_Name_used _ _ _ _ aU];refine aR (iG (aR ?_));show aX _ A (do let _<-comprehension (j0 m [⟨bA (I x) l,b,k,0⟩] f pos) f env _ (newList []) false (hg b env) (G (jp (bA (I y) i) env))) _ _ ap
 refine hd λa4 g=>(z0 eo r).elim λcl z=>g ?_;refine aR (cf (wpAny_comprehension_free (use:=G (jp (bA (I y) i) env)) (g:=⟨bA (I x) l,b,k,0⟩) (gs:=[]) (Q:=λ_ s'=>fz c A.frames env V Pb (Q .next) s') E (λ_=>uu hs) (zR z.1) ac.1 (λy hy hl=>by rw [<-hl];exact zS ac.2.2.2.1 hy) ?_) (λ_ s' hq=>bY (bY hq)) λ_ _ e=>e)
 refine(h P t).here Y n λv s1 N a0 x=>x.elim λvs x=>x.elim λs x=>uD F a0 x.1 λit a_ o s' IT SI aN nd lg hp h0 ho ba aY=>?_;refine zW (RR:=λa2 C=>compPost (aV au c.w) A No (G (jp (bA (I y) i) env)) (λ_ s'=>fz c A.frames env V Pb (Q .next) s') a2 C) F IT SI aN nd eo r h0 hp z.1 z.2.1 z.2.2.1 z.2.2.2 aY n ho x.2 λd C j mC H' s' q hC CL W aF aw=>?_;have K:Pb C=af:=gH λo e=>c_ (t.sub C o e) q;have M:∀a v,P C=G a->a.data≠dZ v:=λa v e=>c_ e q;refine cf (Ej (re (Pb:=Pb.set C j) (P:=P.set C j) ky (t.set M) W (n.set M) (w:=J d) (Q:=Q .next) aw)) (λ_ al y=>y.el λu ad a3 m' Z X as q'=>?_) λ_ _ e=>e;have p:u C=G j:=Z.sub C j (b8 _ _ _);refine hd λa4 g=>(j5 aF).elim λa5 T=>g ?_;have R:=Ja (W.protS (b8 P C j)) T.1 T.2;have S:∀a v,u C=G a->a.data≠dZ v:=λa v e z=>nC z (bc (p.symm.trans e)▸R.dict);exact⟨mC,(R.soft (X.protS p)).elim λo2 e2=>e2.2.ns e2.1,λh' aW=>⟨u.del C,ad,a3,m',(Z.less K).del K S,X.keepLose (s':={al with heap:=h'}) p hC (λa1 o hb e=>(aW.2 a1 hb).trans e) E E (Y.fr.elim λo0 q0=>q0.not λo' e=>c_ e ((bg _ _ CL).trans q)),as.del S,q'⟩⟩
theorem Jm{es:L an}{f:ab}{pos:aI}{R:ab->ay->Prop}{m s}(ns:es.all cW=true)(g:∀a,f≠J a)(fs:FS c A.frames V m P H s)(d:cs env P m ρ)
  (h:e2 c A env V P ρ H es λvs N=>∀b ws,FS c A.frames V m P N b->ws.map er=vs->aX (aV au c.w) A (hP f ws) R No b):aX (aV au c.w) A (callWith pos f [] (kY pos (ic es env)) []) R No s:=by
 refine callWith_of (P:=λ_=>True) (by rw [(nK ns).2];rfl) (λe _=>zE g e) (cf (zF (R:=λvs b=>aX (aV au c.w) A (hP f vs) R No b) ns fs d h) (λa b x=>x.elim λvs x=>⟨trivial,x.1▸x.2⟩) λ_ _ x=>x)
theorem z1{x:am}{f:ab}{es:L an}{p pos:aI}{R:ab->ay->Prop}{m s}(j:cc env V)(g:fk x=true)(k:env.kindOf (I x)=G f9)(e:ls.contains (x,f)=true)(ns:es.all cW=true)(fs:FS c A.frames V m P H s)(d:cs env P m ρ)
  (h:e2 c A env V P ρ H es λvs N=>∀a ws,FS c A.frames V m P N a->ws.map er=vs->aX (aV au c.w) A (hP f ws) R No a):aX (aV au c.w) A (hg (eV (bA (I x) p) es [] pos) env) R No s:=by
 have b:jw f=true:=zD e;refine tl (EV.here (zz (Q:=λv o=>v=f/\o=H) j g k e ⟨zB b,E⟩) fs d λv a N i ⟨n,l⟩=>?_);subst l;obtain rfl:=zC b n;exact Jm ns (zA b) i d h
noncomputable def ka(vs:L ab):L (L ab):=vs.mapIdx λi v=>[aa (i:U) 0,v]
theorem z2(vs:L ab)(i:ag):(ka vs)[i]? =(vs[i]?).map λv=>[aa (i:U) 0,v]:=by unfold ka;rw [L.getElem?_mapIdx]
theorem z3(vs:L ab):(ka vs).length=vs.length:=L.length_mapIdx
theorem FS.listNe{m s l vs}{b:ae}(fs:FS c A.frames V m P H s)(g:bD H l=G vs)(h:∃o,P b=G o):l≠b:=λe=>h.elim λo q=>fs.el λa _ _ _ z=>lc (f:=λo:aj MO=>match o with|some (ak vs)=>G vs|some (eg vs)=>G vs|_=>af) g E λi d _=>c_ (fs.out q a) (e▸z.notP d)
noncomputable def z4(e a l:ae)(i:ag)(h:bI):Prop:=(∃b,IsEnum h e a i b)/\h.IsListIter a l i
theorem Jn{e d l:ae}{vs:L ab}(B:bu A D)(I:e≠d):jy c A e [e,d] (z4 e d l) (ka vs) (dA (G l) vs) where
 alive:=λi h a=>gl.mpr ⟨a.1.elim λM q=>⟨_,q,.f E⟩,gl.mpr ⟨a.2.imp λo q=>⟨q.1,.f q.2.2⟩,λ_=>nofun⟩⟩
 frame:=λi h T a F=>⟨a.1.imp λM q=>F e (d_ _) _ q,a.2.imp λo q=>⟨F d (dh _ (d_ _)) _ q.1,q.2⟩⟩
 turn:=λ{V m P H s i row W k S R} j a n g C z=>by
  refine j.listK (show bD H l=G vs from g) λr b u p=>?_
  rw [z2]at C;obtain ⟨v,N,rfl⟩:=gm.mp C;refine(ll p N).elim λw q=>zY (St:=z4 e d l) (row:=[aa i 0,v]) (Et.enumerate (prog:=au) (w:=c.w) B.handled e d l I (j.listNe g (n e (d_ _))) (j.listNe g (n d (dh _ (d_ _)))) r.toArray) (oK.mp q.2).1 ⟨a.1,a.2,u⟩ (λ_ h=>h) (λQ x=>x.elim λt x=>x.elim λy x=>?_) (λh x=>⟨x.1,x.2.1⟩) z;have K:=x.1;rw [ia,q.2]at K;rw [x.2,<-bc K,<-q.1];rfl
 done:=λ{V m P H s R} j a n g z=>j.listK (show bD H l=G vs from g) λr b u p=>zZ (Et.enumerate (prog:=au) (w:=c.w) B.handled e d l I (j.listNe g (n e (d_ _))) (j.listNe g (n d (dh _ (d_ _)))) r.toArray) ⟨by rw [fP,<-bJ (f:=er),p,<-z3];exact a.1,by rw [fP,<-bJ (f:=er),p,<-z3];exact a.2,u⟩ (λ_ h=>h) z
theorem Jo{ts:L an}{k:ag}{j p pos C:aI}{e:an}{body:L bz}{Q:b_->ao->Hp->Prop}(a:bu A D)(M:cc env V)(t:env.kindOf (I "enumerate")=G f9) (r:ts.all cW=true) (ns:cW e=true)
  (h:fA c A env V Pb ρ H e λv N=>∃l vs,v=J l/\N l=G (ak vs)/\jz c A env V No ts body (dA (G l) vs) Q (ka vs) ρ N):
  X1 c A env V Pb No ρ H (.For (eG ts k j) (eV (bA (I "enumerate") p) [e] [] pos) body [] C) Q:=λs m P i B b=>by
 refine wpAny_For ?_ λx=>E;refine z1 (f:=aM "enumerate") M (by decide+kernel) t (by decide+kernel) (by simp [ns]) B b (pg ns (EV.mono (h P i) λv N u=>ra ?_))
 refine λT S g K=>u.elim λl x=>x.elim λvs x=>(iV K).elim λw y=>(g.real x.2.1).elim λX F=>F.2.elim λR F=>F.1.elim λn z=>?_;rw [y.1,dr (y.2.trans x.1)];exact call_enumerate_1 z λY d q W o=>wpAny_pyIter_enum d (uA a r i g b (gl.mpr ⟨ga (dY _),gl.mpr ⟨ga (cw _),λ_ h=>bW h gc⟩⟩) o (Jn a (ag.succ_ne_self _)) ⟨⟨_,d⟩,q⟩ (by show bD N l=G vs;unfold bD;rw [x.2.1]) x.2.2 λ_ _ y=>y)
noncomputable def jA(vs us:L ab):L (L ab):=(vs.zip us).map λp=>[p.1,p.2]
theorem Jp(vs us:L ab)(i:ag):(jA vs us)[i]? =((vs.zip us)[i]?).map λp=>[p.1,p.2]:=by unfold jA;rw [f_]
theorem Jq(vs us:L ab):(jA vs us).length=min vs.length us.length:=(bJ _).trans L.length_zip
noncomputable def z5(z f e d c l1 l2:ae)(i:ag)(h:bI):Prop:=IsZip h z f e ah/\IsPair h f (J d) (J c)/\(∃a b,IsPair h e a b)/\h.IsListIter d l1 i/\h.IsListIter c l2 i
theorem Jr{z j g e d l1 l2:ae}{vs us:L ab}(rm:bu A D)(n:j≠z/\g≠z/\e≠z/\d≠z/\j≠g/\j≠e/\j≠d/\g≠e/\g≠d/\e≠d):
  jy c A z [z,j,g,e,d] (z5 z j g e d l1 l2) (jA vs us) (λH=>bD H l1=G vs/\bD H l2=G us):=
 have y:z∈ [z,j,g,e,d]:=d_ _;have I:g∈ [z,j,g,e,d]:=dh _ (dh _ (d_ _));have M:e∈ [z,j,g,e,d]:=dh _ (dh _ (dh _ (d_ _)));have K:d∈ [z,j,g,e,d]:=dh _ (dh _ (dh _ (dh _ (d_ _))));have X:∀b,b∈ [z,g,e,d]->b∈ [z,j,g,e,d]:=λb h=>(bQ.mp h).elim (λap=>ap▸y) λh=>dh _ (dh _ h)
 have ad:∀{V m P H} {B:ay} {ws ys:L ab},FS c A.frames V m P H B->(∀b∈ [z,j,g,e,d],∃o,P b=G o)->bD H l1=G vs/\bD H l2=G us->Et au c.w A z _ _ _ _ _ _:=λ{V m P H B ws ys} l r k=>
  have F:=λb R=>l.listNe k.1 (r b R);have C:=λb R=>l.listNe k.2 (r b R)
  Et.zip2 (prog:=au) (w:=c.w) rm.handled z j g e d l1 l2 ⟨n.1,n.2.1,n.2.2.1,n.2.2.2.1,n.2.2.2.2.1,n.2.2.2.2.2.1,n.2.2.2.2.2.2.1,n.2.2.2.2.2.2.2.1,n.2.2.2.2.2.2.2.2.1,n.2.2.2.2.2.2.2.2.2,F z y,F g I,F e M,F d K,C z y,C g I,C e M,C d K⟩ ws.toArray ys.toArray
 {alive:=λi h a=>gl.mpr ⟨⟨_,a.1,.f E⟩,gl.mpr ⟨⟨_,a.2.1,.s E⟩,gl.mpr ⟨a.2.2.1.elim λac q=>q.elim λb q=>⟨_,q,.s E⟩,gl.mpr ⟨a.2.2.2.1.imp λo q=>⟨q.1,.f q.2.2⟩,gl.mpr ⟨a.2.2.2.2.imp λo q=>⟨q.1,.f q.2.2⟩,λ_=>nofun⟩⟩⟩⟩⟩
  frame:=λi h h' a t=>⟨t z y _ a.1,t j (dh _ (d_ _)) _ a.2.1,a.2.2.1.imp λac q=>q.imp λb q=>t g I _ q,a.2.2.2.1.imp λo q=>⟨t e M _ q.1,q.2⟩,a.2.2.2.2.imp λo q=>⟨t d K _ q.1,q.2⟩⟩
  turn:=λ{V m P H B i row aU aN aF as} l a r k Y S=>by refine l.listK k.1 λws b1 Q W=>l.listK k.2 λys b2 N T=>?_;rw [Jp]at Y;obtain ⟨⟨v,u⟩,ao,rfl⟩:=gm.mp Y;have Z:=L.getElem?_zip_eq_some.mp ao;refine(ll W Z.1).elim λw p=>(ll T Z.2).elim λal q=>zY (St:=z5 z j g e d l1 l2) (row:=[v,u]) (ad (ws:=ws) (ys:=ys) l r k) (ag.lt_min.mpr ⟨(oK.mp p.2).1,(oK.mp q.2).1⟩) ⟨a.1,a.2.1,a.2.2.1,a.2.2.2.1,a.2.2.2.2,Q,N⟩ X (λaw x=>x.elim λac x=>x.elim λb x=>?_) (λh x=>⟨x.1,x.2.1,x.2.2.1,x.2.2.2.1,x.2.2.2.2.1⟩) S;have h1:=x.1;have h2:=x.2.1;rw [ia,p.2]at h1;rw [ia,q.2]at h2;rw [x.2.2,<-bc h1,<-bc h2,show v=er w from p.1.symm,show u=er al from q.1.symm];rfl
  done:=λ{V m P H B as} l a r k S=>l.listK k.1 λws b1 Q W=>l.listK k.2 λys b2 N T=>by rw [Jq,<-W,<-T,bJ,bJ]at a;exact zZ (ad (ws:=ws) (ys:=ys) l r k) ⟨a.1,a.2.1,a.2.2.1,a.2.2.2.1,a.2.2.2.2,Q,N⟩ X S}
theorem Js{ts:L an}{k:ag}{z p pos ac:aI}{o m:an}{body:L bz}{Q:b_->ao->Hp->Prop}(q:bu A D)(eo:cc env V)(W:env.kindOf (I "zip")=G f9) (T:ts.all cW=true) (w:cW o=true) (t:cW m=true)
  (h:fA c A env V Pb ρ H o λv N=>fA c A env V Pb ρ N m λu e=>∃l1 l2 vs us,v=J l1/\u=J l2/\bD e l1=G vs/\bD e l2=G us/\jz c A env V No ts body (λH=>bD H l1=G vs/\bD H l2=G us) Q (jA vs us) ρ e):
  X1 c A env V Pb No ρ H (.For (eG ts k z) (eV (bA (I "zip") p) [o,m] [] pos) body [] ac) Q:=λaF aN P l Z r=>by
 refine wpAny_For ?_ λx=>E;refine z1 (f:=aM "zip") eo (by decide+kernel) W (by decide+kernel) (by simp [w,t]) Z r (pg w (EV.mono (h P l) λv N X=>pg t (EV.mono (X P l) λu e Y=>ra ?_)))
 refine λd ws g ad=>Y.elim λl1 x=>x.elim λl2 x=>x.elim λvs x=>x.elim λus x=>(io ad).elim λaw y=>y.elim λau y=>g.listK x.2.2.1 λas b1 S r1=>g.listK x.2.2.2.1 λap b2 R r2=>?_;rw [y.1,dr (y.2.1.trans x.1),dr (y.2.2.trans x.2.1)];have b:∀n,d.heap.get? (d.heap.objs.size+n)=af:=λn=>ga (he _ n);have a:∀{i j:ag},i≠j->d.heap.objs.size+i≠d.heap.objs.size+j:=λh al=>h (ag.add_left_cancel al);exact call_zip_2 S R λh' s M K F C q6 B=>wpAny_pyIter_zip s (uA q T l g r (gl.mpr ⟨b 4,gl.mpr ⟨b 2,gl.mpr ⟨b 3,gl.mpr ⟨b 0,gl.mpr ⟨b 1,λ_ h=>bW h gc⟩⟩⟩⟩⟩) B
  (Jr q ⟨a (by decide),a (by decide),a (i:=0) (by decide),a (by decide),a (by decide),a (j:=0) (by decide),a (by decide),a (j:=0) (by decide),a (by decide),a (i:=0) (by decide)⟩) ⟨s,M,⟨_,_,K⟩,F,C⟩ ⟨x.2.2.1,x.2.2.2.1⟩ x.2.2.2.2 λ_ _ y=>y)
noncomputable def iL(ns:L U):L ab:=ns.map λi=>aa i 0
theorem Jt(n:U)(ns:L U):iL (n::ns)=aa n 0::iL ns:=E
theorem z6(a b:L U):iL (a++b)=iL a++iL b:=c0
theorem gU(ns:L U):(iL ns).length=ns.length:=bJ _
theorem uE{ws:L ab}:∀{ns:L U},ws.map er=iL ns->qH ws ns:=by
 induction ws with
 |nil=>intro ns h;cases ns with
  |nil=>exact .nil
  |cons=>cases h
 |cons w r a=>
  intro ns h;cases ns with
  |nil=>cases h
  |cons n ns=>
   rw [Jt,e6]at h;injection h with c b
   obtain ⟨t,rfl⟩:=nz c;exact .cons n t (a b)
theorem z7{ws:L ab}{ns:L U}(h:qH ws ns):ws.map er=iL ns:=by
 induction h with
 |nil=>rfl
 |cons n t _ a=>rw [e6,a];rfl
noncomputable def nQ(x:U):L U->L U
 |[]=>[x]
 |y::r=>if x<=y then x::y::r else y::nQ x r
noncomputable def ba:L U->L U
 |[]=>[]
 |x::r=>nQ x (ba r)
theorem uF(x:U):∀l,(nQ x l).Perm (x::l)
 |[]=>tC _
 |y::r=>by
  unfold nQ;split
  ·exact tC _
  ·exact((uF x r).cons y).trans (Eu x y r)
theorem mB:∀l,(ba l).Perm l
 |[]=>tC _
 |x::r=>(uF x (ba r)).trans ((mB r).cons x)
theorem z8(x:U):∀{l:L U},l.Pairwise (·<=·)->(nQ x l).Pairwise (·<=·)
 |[],_=>L.pairwise_singleton _ _
 |y::r,h=>by
  unfold nQ;have c:=tE.mp h;split
  ·rename_i b
   refine tE.mpr ⟨λz a=>?_,h⟩;rcases bQ.mp a with rfl|a
   ·exact b
   ·exact jY b (c.1 z a)
  ·rename_i b
   refine tE.mpr ⟨λz a=>?_,z8 x c.2⟩;rcases bQ.mp ((uF x r).mem_iff.mp a)with rfl|a
   ·omega
   ·exact c.1 z a
theorem uG:∀l,(ba l).Pairwise (·<=·)
 |[]=> .nil
 |x::r=>z8 x (uG r)
theorem z9:∀{a b:L U},a.Pairwise (·<=·)->b.Pairwise (·<=·)->a.Perm b->a=b
 |[],b,_,_,h=>h.nil_eq
 |x::r,[],_,_,h=>bW h.symm.nil_eq (by simp)
 |x::r,y::t,i,g,h=>by
  have f:=tE.mp i;have d:=tE.mp g
  have e:x=y:=by
   have k:x∈y::t:=h.mem_iff.mp bn;have j:y∈x::r:=h.mem_iff.mpr bn;rcases bQ.mp k with e|e
   ·exact e
   ·rcases bQ.mp j with c|c
    ·exact c.symm
    ·have:=d.1 x e;have:=f.1 y c;omega
  subst e;rw [z9 f.2 d.2 ((L.perm_cons x).mp h)]
theorem uH{l m:L U}(b:m.Perm l)(a:m.Pairwise (·<=·)):m=ba l:=z9 a (uG l) (b.trans (mB l).symm)
theorem z_(l:L U):(ba l).length=l.length:=(mB l).length_eq
theorem Ju{l:ae}{ns:L U}{Q:ab->Hp->Prop}(n:bD H l=G (iL ns))(F:ns.length<64)(q:∀d,H d=af->Q (J d) (H.set d (ak (iL (ba ns))))):ev c A V P (bS "sorted") [J l] H Q:=λs m z a e=>by
 obtain ⟨w,rfl,x⟩:=iV e;obtain rfl:=dr x;obtain ⟨b,h,j,f⟩:=a.list n;have D:h.length=ns.length:=by have:=aA hJ f;simpa [gU]using this
 have v:s.heap.get? (s.heap.objs.size+1)=af:=ga (dY _);refine sorted_N (pc a.ns) (q4 _ _) j (uE f) (by omega) λI i C e y g r p o=>?_
 obtain ⟨k,u⟩:=a.newsAlloc (t:=s.toks) y g v (mo:=ak (iL (ba ns))) λB=>⟨by rw [gU,z_];have:=b;rw [gU]at this;exact this,i,⟨_,(g _ bn).1⟩,by rw [z7 r,uH p o]⟩
 exact⟨_,u,q _ k⟩
theorem Jv{l:ae}{kvs:L (U×ab)}{Q:ab->Hp->Prop}(F:H l=G (aO kvs))(R:bu A D)(ao:kvs.length<64)(q:∀d,H d=af->Q (J d) (H.set d (ak (iL (ba (kvs.map (·.1))))))):ev c A V P (bS "sorted") [J l] H Q:=λs m ws h e=>by
 obtain ⟨aF,rfl,ew⟩:=iV e;obtain rfl:=dr ew;obtain ⟨S,b,f,a,K⟩:=h.real F;obtain ⟨ep,al⟩:=a.dictAt;have y:f.length=kvs.length:=by rw [<-K];simp
 refine kdu_sorted (kdl_dict (knd:=hf au c.w) (kvs:=f) (ep:=ep) (h.notModules F E)) R.handled (pc h.ns) (q4 _ _) al (by rw [y];exact ar b gT) λB g N vs F' i x ad ac=>?_
 have Y:qH vs (f.map (·.1)):=by
  apply uE;apply L.ext_getElem?;intro j;unfold iL;rw [f_,f_,f_];cases z:vs[j]? with
  |none=>
   have:f[j]? =af:=by rw [tA]at z⊢;omega
   rw [this];rfl
  |some v=>
   obtain ⟨k,aw,Z,I⟩:=ac j v z;rw [Z];obtain ⟨t,rfl⟩:∃t,v=aa k t:=by cases v<;>simp [hf,xe]at I;subst I;exact⟨_,E⟩
   rfl
 have r:=(i _ bn).1
 have fr:s.heap.get? B=af:=by
  cases hB:s.heap.get? B with
  |none=>rfl
  |some o=>exact bW (x _ (t4 hB (i _ bn).2.1)) (qO _)
 refine D7 slot_list_sort ⟨_,r,E⟩ entry_list_sort (list_sort_tree (vs:=vs) (n:=0) r Y (by rw [ad,y];exact ao) λout aN a1 a2 a3=>⟨_,E,?_⟩) (args_list_sort _)
 obtain ⟨as,C⟩:=sortedHeap_at (vs:=vs) (out:=out) (show g.get? B=G (seqObj "list" vs.toArray 0)from r)
 have u:∀b o,b≠B->g.get? b=G o->(sortedHeap g B vs out).get? b=G o:=λb o hb e=>(sortedHeap_old hb (kT e)).trans e;have M:B≠V:=(i _ bn).2.1;obtain ⟨T,eL,W⟩:=j5 F'.ns;have F2:Fr ju V (sortedHeap g B vs out) m:=pc (W.ns (u V T (Ne.symm M) eL))
 have N2:News ju V (sortedHeap g B vs out) ((B,seqObj "list" out as)::nD s.heap V):=λp a=>by
  rcases bQ.mp a with rfl|a
  ·exact⟨C,M,E⟩
  ·have:=i p (bM _ a)
   exact⟨u p.1 p.2 (l8 (x p a)) this.1,this.2⟩
 have X:f.map (·.1)=kvs.map (·.1):=by rw [<-K];simp [Function.comp_def]
 obtain ⟨hn,ap⟩:=h.newsAlloc (t:=N) F2 N2 fr (mo:=ak (iL (ba (kvs.map (·.1))))) λS=>⟨by rw [gU,z_,bJ];exact b,out.toList,⟨_,by rw [a9.toArray_toList];exact C⟩,by rw [z7 a1,uH a2 a3,X]⟩
 exact⟨_,ap,q _ hn⟩
theorem Jw{i:U}{t:bv}{Q:ab->Hp->Prop}(q:Q (aa i 0) H):ev c A V P (aM "int") [aa i t] H Q:=λs m d a e=>by obtain ⟨w,rfl,b⟩:=iV e;obtain ⟨f,rfl⟩:=gS b;exact call_int_int ⟨H,a,q⟩
theorem Jx{k:ag}{t:bv}{Q:ab->Hp->Prop}(q:Q (aa k 0) H):ev c A V P (bS "ord") [aE ⟨#[k]⟩ t] H Q:=λs m d a e=>by obtain ⟨w,rfl,b⟩:=iV e;obtain ⟨f,rfl⟩:=yI b;exact PySem.P.ord_of_char ⟨H,a.toks _,q⟩
theorem Jy{i:U}{t:bv}{Q:ab->Hp->Prop}(h:0<=i)(g:i<=1000000)(q:Q (aE (toString i) 0) H):ev c A V P (aM "str") [aa i t] H Q:=λs m d a e=>by obtain ⟨w,rfl,b⟩:=iV e;obtain ⟨f,rfl⟩:=gS b;exact str_of_int_fit (N:=1000001) (by rw [aG (by omega)];omega) (by decide) λ_=>⟨H,a.toks _,q⟩
theorem Jz{a b:U}{t u:bv}{Q:ab->Hp->Prop}(f:bu A D)(q:Q (aa (if b>a then b else a) 0) H):ev c A V P (bS "max") [aa a t,aa b u] H Q:=λs m n j e=>by
 obtain ⟨w,z,rfl,l,k⟩:=io e;obtain ⟨p,rfl⟩:=gS l;obtain ⟨o,rfl⟩:=gS k;refine max_two_ints f.handled λi d g=>⟨H,j.grow (s':={s with heap:=i,toks:=d}) g E E,?_⟩
 split<;>rename_i h<;>simp only [h,nc,kU]at q<;>exact q
theorem JA{a b:U}{t u:bv}{Q:ab->Hp->Prop}(f:bu A D)(q:Q (aa (if b<a then b else a) 0) H):ev c A V P (bS "min") [aa a t,aa b u] H Q:=λs m n j e=>by
 obtain ⟨w,z,rfl,l,k⟩:=io e;obtain ⟨p,rfl⟩:=gS l;obtain ⟨o,rfl⟩:=gS k;refine min_two_ints f.handled λi d g=>⟨H,j.grow (s':={s with heap:=i,toks:=d}) g E E,?_⟩
 split<;>rename_i h<;>simp only [h,nc,kU]at q<;>exact q
noncomputable def Aa(ns:L U):a9 aP:=(ns.map λn=>n.toNat.toUInt8).toArray
theorem JB{l:ae}{ns:L U}{Q:ab->Hp->Prop}(g:bu A D)(o:bD H l=G (iL ns))(j:∀n∈ns,0<=n/\n<256)(q:Q (aq (Aa ns) 0) H):ev c A V P (aM "bytes") [J l] H Q:=λs m v a e=>by
 obtain ⟨w,rfl,u⟩:=iV e;obtain rfl:=dr u;obtain ⟨b,f,i,d⟩:=a.list o;have h:f.length=(iL ns).length:=by rw [<-d];simp
 exact call_bytes_ints i (uE d) j (by rw [h];exact ar b gT) g.handled λr t k p=>⟨H,a.grow (s':={s with heap:=r,toks:=k}) p E E,q⟩
noncomputable def uI(o:MO):aj (L ab):=match o with
 |ak a=>G a
 |bm a=>G a
 | .rng n=>if 0<=n/\n<=1000000 then G (iX n)else af
 |_=>af
noncomputable def ly(H:Hp)(v:ab):aj (L ab):=(rk H v).bind uI
theorem uJ{a:ae}{mo:MO}(h:H a=G mo):ly H (J a)=uI mo:=by show(H a).bind uI=_;rw [h];rfl
theorem JC{n:U}(h:0<=n):(iX n).length=n.toNat:=by unfold iX;rw [bJ,iK]
theorem JD{n:U}{acc:a9 ab}(b:acc.size=n.toNat)(a:∀(j:ag) y,acc[j]? =G y->∃t,y=aa (0+(j:U)*1) t):acc.toList.map er=iX n:=by
 unfold iX;refine L.ext_getElem (by rw [bJ,bJ,iK];exact b) λj p q=>?_
 rw [bJ]at p;rw [L.getElem_map,L.getElem_map,L.getElem_range];exact(a j _ (R7 (h:=p))).elim λt e=>by rw [a9.getElem_toList,e];show aa (0+(j:U)*1) 0=_;rw [U.mul_one,U.zero_add]
theorem JE{v:ab}{vs:L ab}{Q:ab->Hp->Prop}(M:bu A D)(h:ly H v=G vs)(q:∀d,H d=af->Q (J d) (H.set d (ak vs))):ev c A V P (aM "list") [v] H Q:=λs m Z l e=>(iV e).elim λw x=>by
 rw [x.1];rw [<-x.2]at h;refine uj h λad mo e t h=>?_;rw [e];have W:s.heap.get? s.heap.objs.size=af:=ga (cw _)
 have B:∀{zs:L ab} {a:bI} {n k:ag},zs.map er=vs->vs.length<=bL->(∀b o,s.heap.get? b=G o->a.get? b=G o)->a.get? s.heap.objs.size=G {cls:=aM "list",data:=dp zs.toArray n}->∃K,FS c A.frames V m P K {s with heap:=a,toks:=k}/\Q (J s.heap.objs.size) K:=λ{zs a n k} X R i f=>
  have z:=l.alloc (d:=s.heap.objs.size) (mo:=ak vs) (s':={s with heap:=a,toks:=k}) W i E E λp=>⟨R,zs,⟨_,f⟩,X⟩
  ⟨_,z.2,q _ z.1⟩
 have C:∀{j zs:L ab},j.length<=bL->zs.map er=j->zs.toArray.size<=m_:=λb e=>ar (cR ((bJ er).symm.trans (aA hJ e))) (ar b gT)
 induction mo with
 |list j=>exact(l.real t).elim λp r=>r.2.elim λzs y=>y.1.elim λn T=>call_list_seq _ (bt E) T E E (λa I i f=>B (y.2.trans (bc h)) (bc h▸r.1) i f) (C r.1 y.2)
 |tup j=>exact(l.real t).elim λp r=>r.2.elim λzs y=>y.1.elim λo z=>z.2.2.elim λn N=>call_list_seq _ (bF E) z.1 z.2.1 N (λa I i f=>B (y.2.trans (bc h)) (bc h▸r.1) i f) (C r.1 y.2)
 |rng n=>exact gd h λg h=>(l.real t).elim λp r=>r.elim λac r=>r.elim λu r=>r.elim λv S=>call_list_range (n:=n.toNat) M.handled S (zO g.1 g.2) (by rw [uv g.1,xw g.1]) (ar (xx.mpr (show n<=((1000000:ag):U)from g.2)) (by decide)) λa k Y I i f F=>B (zs:=Y.toList) (by rw [<-bc h];exact JD F.1 F.2) (by rw [<-bc h,JC g.1];exact xx.mpr g.2) i (by rw [a9.toArray_toList];exact f)
 |_=>exact gR h
theorem JF{l:ae}{ns:L U}{k:U}{t:bv}{j:ag}{Q:ab->Hp->Prop}(M:H l=G (ak (iL ns)))(z:ns[j]? =G k)(K:∀i,i<j->ns[i]?≠G k)(q:Q (aa j 0) H):ev c A V P (bS "list.index") [J l,aa k t] H Q:=λs m X B e=>by
 obtain ⟨w,u,rfl,T,W⟩:=io e;obtain rfl:=dr T;obtain ⟨g,rfl⟩:=gS W;obtain ⟨Y,b,a,⟨n,x⟩,p⟩:=B.real M;have f:a.length=ns.length:=by have:=aA hJ p;simpa [gU]using this
 have C:∀i,(a[i]?).map er=(ns[i]?).map λk=>aa k 0:=λi=>by rw [<-f_,p];unfold iL;rw [f_]
 have v:=(oK.mp z).1;have Z:ns.length<=1000000:=by rw [gU]at b;exact b
 refine tx Sg ⟨_,x,E⟩ PySem.F.entry_list_index (PySem.F.args_list_index_2 _ _) (list_indexAt l a.toArray n af #[] (aa k g) (λy=>(gt (er y) (aa k 0)).getD false) j (by rw [fP,f];exact v) (by omega) ?_ ?_) ⟨x,λy I=>?_,H,B.toks _,q⟩
 ·have:=C j
  rw [z,iD (by rw [f];exact v)]at this
  have d:er a[j]=aa k 0:=by simpa using this
  rw [L.getElem_toArray,d];exact eE k
 ·intro i R N
  have o:i<a.length:=by simpa using R
  have:=C i;have r:=K i N;rw [iD o,iD (by rw [<-f];exact o)]at this
  rw [iD (by rw [<-f];exact o)]at r
  have d:er a[i]=aa ns[i] 0:=by simpa using this
  rw [L.getElem_toArray,d];exact dB.mpr λh=>r (aA G h)
 ·have D:y∈a:=by simpa using I
  have:er y∈iL ns:=by rw [<-p];exact jV D
  obtain ⟨i,_,d⟩:=cA.mp this;show EqAt A.in1 s y (aa k g) ((gt (er y) (aa k 0)).getD false);rw [<-d];have S:gt (er y) (er (aa k g))=G (i==k):=by rw [<-d];rfl
  exact(pd S).eq (A:=A.in1) (s:=s)
theorem JG{a:ae}{l:L fd}{k:a9 aP}{t:bv}{d:ab}{Q:ab->Hp->Prop}(i:(a==s5)=false)(n:H a=G (.db l))(h:∀x∈l,x.1≠k.toList)(q:Q d H):ev c A V P (bS "dict.get") [J a,aq k t,d] H Q:=λs m v g e=>by
 obtain ⟨y,u,z,rfl,p,r,o⟩:=uo e;obtain rfl:=dr p;obtain ⟨B,rfl⟩:=ny r;obtain ⟨f,b,j⟩:=g.dbMap n h;refine xt xr b.typeIs Ep (Sj _ _ _) (meets_dict_get_default (jg au c.w) a (k:=k.toList) (by simp [jg,isBytes]) i z) ⟨f,b,H,g.toks _,?_⟩
 rw [j,aj.getD_none,o];exact q
theorem rA{b:aK}{x y:ef a}{Q:a->ay->Prop}{s:ay}(e:b=false)(h:aX (aV au c.w) A y Q be s):aX (aV au c.w) A (if b=true then x else y) Q be s:=by rw [e];exact h
theorem JH{v:ab}{s:ay}{Q:aj U->ay->Prop}(a:s.TypeIs v "slice") (h:Q af s):aX (aV au c.w) A (Builtin.List.listSubscript? v) Q be s:=aR (xf a slice_no_index (bY h))
theorem JI{sl:ae}{a b:U}{e d:bv}{s:ay}{Q:ab×ab×ab->ay->Prop}(hs:s.heap.IsSliceOf sl (aa a e) (aa b d) ah)(h:Q (iJ a,iJ b,ah) s):aX (aV au c.w) A (Builtin.List.listSliceParts (J sl)) Q be s:=by rw [listSliceParts_eq];exact hs.elim λo x=>aR (qP x.1 x.2.2 (x:=ah) E (aR (wpAny_listPart .none (rA E (aR (qP x.1 x.2.2 (x:=aa a e) E (aR (wpAny_listPart (.int a e) (aR (qP x.1 x.2.2 (x:=aa b d) E (aR (wpAny_listPart (.int b d) (bY h)))))))))))))
theorem JJ{u:ae}{n:ag}{new:a9 ab}{b:am}{s:ay}{Q:a9 ab->ay->Prop}(a:s.heap.get? u=G {cls:=aM "list",data:=dp new n}) (h:Q new s):aX (aV au c.w) A (Builtin.List.listAllItems (J u) b) Q be s:=aR (wpAny_typeOf ⟨_,a,E⟩ (aR (wpAny_seqItems a E (bY h))))
theorem JK{a b:U}{n:ag}(c:0<=a)(d:a<=b)(e:b<=n):sliceBounds (G a) (G b) af n=(a,b,1):=by
 show(max 0 (min (if a<0 then a+n else a) (n:U)),max 0 (min (if b<0 then b+n else b) (n:U)),(1:U))=_
 rw [aG (mh.mpr c),aG (mh.mpr (jY c d)),Ev e,Ev (jY d e),xy c,xy (jY c d)]
theorem JL{xs new:a9 ab}{i j n:ag}(h:i<=j)(b:j<=xs.size)(a:xs.size+new.size<=n):(xs.extract 0 i++new++xs.extract j xs.size).size<=n:=by rw [a9.size_append,a9.size_append,a9.size_extract,a9.size_extract,ag.min_self,ag.sub_zero,ta];exact ar (go (ar (go (ar (ag.min_le_left ..) h) _) (cR (ag.add_sub_of_le b))) _) a
theorem JM{l sl u:ae}{n o:ag}{items new:a9 ab}{a b:U}{m k:bv}{s:ay}{Q:hK->ay->Prop}(e:s.heap.get? l=G {cls:=aM "list",data:=dp items n}) (q:s.heap.get? u=G {cls:=aM "list",data:=dp new o}) (r:l≠u)
  (hs:s.heap.IsSliceOf sl (aa a m) (aa b k) ah) (t:0<=a) (g:a<=b) (j:b<=items.size) (d:items.size+new.size<=m_)
  (h:Q () {s with heap:=s.heap.update l (xl λxs=>xs.extract 0 a.toNat++new++xs.extract b.toNat xs.size)}):
  aX (aV au c.w) A (setItem (J l) (J sl) (J u)) Q No s:=
 have f:s.TypeIs (J l) "list":=⟨_,e,E⟩;have i:s.TypeIs (J sl) "slice":=hs.imp λ_ x=>⟨x.1,x.2.1⟩;have p:max a b=b:=xy g
 fO (aR (wpAny_sequenceKey f (by decide) (aR (wpAny_callSpecial?_slot (name:=m7 "__setitem__") f slot_list_setitem
  (D7 slot_list_setitem f entry_list_setitem (aR (te (a:=(J l,[J sl,J u])) E (aR (JH i (aR (wpAny_typeOf i (rA E (aR (JI hs (rA (dB.mpr r) (aR (JJ q (aR (listItems_at e E
   (aR (te (sliceIndices_raw (G a) (G b) af items.size (λx=>nomatch x)) (by rw [JK t g j];refine aR (oG (rA (e7 (tz.mpr d)) ?_));rw [p];exact aR (listUpdate_at e E (aR (wpAny_letGo (bY ⟨_,E,bY h⟩))) (ar (he _ _) d) (JL (U.toNat_le_toNat g) (xx.mpr j) (xz d))))))))))))))))))))
  (args_list_setitem _ _ _))))))
theorem JN(ws zs:L ab)(i j:ag):ws.toArray.extract 0 i++zs.toArray++ws.toArray.extract j ws.toArray.size=(ws.take i++zs++ws.drop j).toArray:=by apply tf.mp;rw [a9.toList_append,a9.toList_append,a9.toList_extract,a9.toList_extract];show(ws.take i++zs)++(ws.drop j).take (ws.length-j)=_;rw [<-xk,L.take_length]
theorem JO{α:Type}{xs ys:L α}{i j n:ag}(h:i<=j)(b:j<=xs.length)(a:xs.length+ys.length<=n):(xs.take i++ys++xs.drop j).length<=n:=by rw [b3,b3,L.length_take,xk,ta];exact ar (go (ar (go (ar (ag.min_le_left ..) h) _) (cR (ag.add_sub_of_le b))) _) a
theorem JP{m s}{l u:ae}{xs ys:L ab}{i j:U}{r q:bv}{t w a b:ab}{Q:hK->ay->Prop}(fs:FS c A.frames V m P H s)(R:er t=J l)(N:er w=J u)(T:a=aa i r)(S:b=aa j q)(z:H l=G (ak xs))(K:H u=G (ak ys))(D:l≠u)(M:0<=i)(C:i<=j)(B:j<=xs.length)(x:xs.length+ys.length<=bL)
  (k:∀s',FS c A.frames V m P (H.set l (ak (xs.take i.toNat++ys++xs.drop j.toNat))) s'->Q () s'):
  aX (aV au c.w) A (setItem t (J s.heap.objs.size) w) Q No {s with heap:=s.heap.push {cls:=aM "slice",data:=cx #[a,b,ah]}}:=by
 rw [dr R,dr N,T,S];have p:FS c A.frames V m P H {s with heap:=s.heap.push {cls:=aM "slice",data:=cx #[aa i r,aa j q,ah]}}:=fs.grow (λb o e=>gF _ e) E E
 refine hd λY g=>(p.real z).elim λ_ h=>h.2.elim λd h=>h.1.elim λX y=>(p.real K).elim λ_ f=>f.2.elim λn f=>f.1.elim λW I=>g ?_;have v:d.length=xs.length:=(bJ er).symm.trans (aA hJ h.2);have F:n.length=ys.length:=(bJ er).symm.trans (aA hJ f.2);exact JM y I D (Ef ..) M C (by show j<=(d.length:U);rw [v];exact B) (by show d.length+n.length<=_;rw [v,F];exact ar x gT)
  (k _ (p.upd (ws':=d.take i.toNat++n++d.drop j.toNat) z y (JN d n i.toNat j.toNat) (by rw [c0,c0,L.map_take,L.map_drop,h.2,f.2]) (JO (U.toNat_le_toNat C) (xx.mpr B) x)))
theorem JQ{o n p:an}{r pos:aI}{v:ab}{Q:ao->Hp->Prop}
  (h:fA c A env V Pb ρ H o λk N=>fA c A env V Pb ρ N n λa q=>fA c A env V Pb ρ q p λb f=>∃l u xs ys i j,k=J l/\v=J u/\a=aa i 0/\b=aa j 0/\f l=G (ak xs)/\f u=G (ak ys)/\l≠u/\0<=i/\i<=j/\j<=xs.length/\xs.length+ys.length<=bL/\
   Q ρ (f.set l (ak (xs.take i.toNat++ys++xs.drop j.toNat)))):AS c A env V Pb ρ H (oM o (m9 (G n) (G p) af r) pos) v Q:=λac m P w e I d K=>
 kas_sub ((h P e).here I d λk Y N F z=>wpAny_Slice ((z P e).here F d λa X q D t=>(t P e).here D d λb W f C s=>bY (hd λad g=>
  s.elim λl x=>x.elim λu x=>x.elim λxs x=>x.elim λys x=>x.elim λi x=>x.elim λj x=>(nz x.2.2.1).elim λT R=>(nz x.2.2.2.1).elim λS M=>g (have y:=x.2.2.2.2
   JP C x.1 (K.trans x.2.1) R M y.1 y.2.1 y.2.2.1 y.2.2.2.1 y.2.2.2.2.1 y.2.2.2.2.2.1 y.2.2.2.2.2.2.1 λZ B=>⟨P,ρ,_,m,e,B,d,y.2.2.2.2.2.2.2⟩))))
theorem bu.in1{A:bj}{D:ag}(r:bu A (D+1)):bu A.in1 D:=⟨ar (gn (dY _) _) r.depth,ar (go (ar (cR (ta A.units 1 (4*D))) (gn (he (4*D+1) 3) A.units)) 40) r.units,r.handled⟩
noncomputable def JR(K:Frag)(C:ae)(f:a6)(a:ae):aK:=plainGet K C f&&(hasDictIn K C&&((jW K (J C) f).bind λx=>x.bind λv=>pR (er v)).any λp=>(specialIn K (J p) "__get__"==G (G (bS "property.__get__")))&&((takesIn K (J p)==G true)&&(recIn K p "property").any λl=>l.head? ==G (J a)))
theorem JS(w:bh):(o9.all λp=>JR (KK w) p.1.1 (I p.1.2) p.2)=true:=by kernel_rfl!
theorem uK{α:Type}{o:aj α}{p:α->aK}{a:Prop}(h:o.any p=true)(k:∀x,o=G x->p x=true->a):a:=by
 cases o with
 |none=>exact bW h eX
 |some x=>exact k x E h
theorem rB{a b:aK}{c:Prop}(h:(a&&b)=true)(k:a=true->b=true->c):c:=k (hQ.mp h).1 (hQ.mp h).2
theorem JT{e:an}{f:am}{pos:aI}{Q:ab->Hp->Prop}(j:bu A (D+1))(ns:iR e=true)
  (h:EV c A env V P ρ H e λv N=>∃a C fs g,v=J a/\N a=G (bZ C fs)/\o9.contains ((C,f),g)=true/\fX c D (J g) [J a] N λu W=>dJ u=true/\Q u W):EV c A env V P ρ H (eu e (I f) pos) Q:=λs m fs k=>by
 rw [D2,q2 ns];refine aR (h.here fs k λv d N b x=>aR (iG (aR (fO (hd λac g=>x.elim λa x=>x.elim λC x=>x.elim λfl x=>x.elim λa' x=>?_)))));refine(b.real x.2.1).elim λ_ r=>r.elim λdx r=>r.elim λK r=>r.elim λn r=>rB (fe.mp (JS c.w) _ (dE.mp x.2.2.1)) λi T=>rB T λS T=>uK T λp z T=>rB T λR T=>rB T λM T=>uK T λl y T=>(L.head?_eq_some_iff.mp (cU T)).elim λZ B=>g ?_;rw [dr x.1];refine get_bind (od:=G (mb K n)) b.kk ⟨r.2.1,E,E,r.2.2.1⟩ (xb i).1 (findObj_data (uK S λ_ F _=>by rw [F];rfl) (dS z λx o h=>dS h λv t h=>o.trans (aA G (t.trans (aA G (hk h))))) (cU R) (cU M)) (xb i).2 (oR (prop_get (s:={d with toks:=d.toks+1}) b.kk (y.trans (aA G B)) ?_))
 exact fX.code x.2.2.2 (A:=A.in1) (b.toks (d.toks+1)) j.in1 E λu Y X f q=>handed_on (yQ (yL.symm.trans q.1)) (aR (D3 (bY ⟨X,f,q.2⟩)))
theorem JU{a b:Prop}(h:if true=true then a else b):a:=(aJ E:(if true=true then a else b)=a)▸h
theorem JV{l f e:an}{i g:gD}{pos:aI}{Q:aK->Hp->Prop}(j:bu A D)(p:lastMarks [i,g] [f,e]=false)
  (h:EV c A env V P ρ H l λv N=>EV c A env V P ρ N f λu a=>∃b,cJ a i v u=G b/\if b then EV c A env V P ρ a e (λx o=>∃k,cJ o g u x=G k/\Q k o)else Q false a):TV c A env V P ρ H (kV l [i,g] [f,e] pos) Q:=λs m C d=>
 isTrue_chain (h.here C d λv S N B r=>test_link (r.here B d λu R a z x=>x.elim λb x=>q9 z j x.1 λM n=>iI (by
  have q:=x.2;cases b with
  |false=>exact⟨a,n,q⟩
  |true=>exact test_last (EV.here (JU q) n d λx K F w y=>y.elim λk y=>q9 w j y.1 λI t=>iI ⟨F,t,y.2⟩)))) p
noncomputable def Ab(p:ab×ab):ab×ab:=(er p.1,er p.2)
noncomputable def jB(c:Cx)(A:bj)(env:a8)(a:ae)(P:Pr)(ρ:ao)(pos:aI)(H:Hp)(ks:L (aj an))(vs:L an)(Q:L (ab×ab)->Hp->Prop):Prop:=∀s m,FS c A.frames a m P H s->cs env P m ρ->aX (aV au c.w) A (evalPairs (pairTrees ks vs env pos)) (λe d=>∃b,FS c A.frames a m P b d/\Q (e.map Ab) b) No s
theorem Ac{pos:aI}{Q:L (ab×ab)->Hp->Prop}(h:Q [] H):jB c A env V P ρ pos H [] [] Q:=λs m a b=>pairTrees_nil_walk ⟨H,a,h⟩
theorem uL{pos:aI}{k v:an}{ks:L (aj an)}{vs:L an}{Q:L (ab×ab)->Hp->Prop}(h:EV c A env V P ρ H k λkv N=>EV c A env V P ρ N v λb d=>jB c A env V P ρ pos d ks vs λf o=>Q ((kv,b)::f) o):jB c A env V P ρ pos H (G k::ks) (v::vs) Q:=λs m n a=>by
 show aX _ A (evalPairs ((hg k env,(do let x<-hg v env;standAt pos;b6 x))::pairTrees ks vs env pos)) _ _ s
 exact evalPairs_cons (h.here n a λkv p N l i=>aR (i.here l a λb e d j g=>aR (iG (bY (g e m j a)))))
theorem JW{K:Type} [DecidableEq K](a:L (K×ab)):∀(kvs:L (K×ab)),((kvs++a).map (·.1)).Nodup->merged kvs a=kvs++a:=by
 induction a with
 |nil=>exact λkvs _=>(hL kvs).symm
 |cons p r b=>
  intro kvs h;have e:stored kvs p.1 p.2=kvs++[p]:=aG λc=>(tv.mp c).elim λq z=>by rw [c0,hM]at h;exact h.2.2 q.1 (jV z.1) p.1 (d_ _) (gO z.2)
  show merged (stored kvs p.1 p.2) r=_;rw [e,b (kvs++[p]) (by rw [fp];exact h),fp];rfl
theorem Ad{K b:Type} [DecidableEq K]{w:bh}{knd:KeyKind au w K}{enc:b->ab}{key:b->K}(g:∀k v,er v=enc k->knd.is (key k) v=true){a:L (ab×ab)}:∀{xs:L (b×ab)},a.map Ab=xs.map (λp=>(enc p.1,p.2))->∃kvs:L (K×ab),Carries knd a kvs/\kvs.map (λp=>(p.1,er p.2))=xs.map λp=>(key p.1,p.2):=by
 induction a with
 |nil=>exact λ{xs} e=>⟨[],trivial,by rw [qK.mp e.symm];rfl⟩
 |cons p a f=>
  intro xs e;cases xs with
  |nil=>nomatch e
  |cons y d=>have e:=gb e;exact(f e.2).elim λkvs c=>⟨(key y.1,p.2)::kvs,⟨g _ _ (aA s4 e.1),E,c.1⟩,by rw [e6,e6,c.2];exact aA (λu=>(key y.1,u)::d.map λp=>(key p.1,p.2)) (aA Prod.snd e.1)⟩
theorem JX{ks:L (aj an)}{vs:L an}{pos:aI}{Q:ab->Hp->Prop}(K:ks.all (·.isSome)=true)(D:ks.length=vs.length)(R:ks≠ [])(C:ks.length<=15)
  (h:∀d,H d=af->jB c A env V P ρ pos (H.set d (eF [])) ks vs λg N=>N d=G (eF [])/\∃xs:L (am×ab),g=xs.map (λp=>(aE (I p.1) 0,p.2))/\(xs.map (·.1)).Nodup/\xs.length<=bL/\Q (J d) (N.set d (eF xs))):
  EV c A env V P ρ H (kQ ks vs pos) Q:=λs m T B=>
 have z:=T.push (o:={cls:=aM "dict",data:=e5 #[]}) (mo:=eF []) λn=>⟨eh _,[],Ee _,E⟩
 wpAny_Dict_walk (knd:=w9 au c.w) K D R C (cf (h _ z.1 _ m z.2 B) (λg l x=>x.elim λN x=>x.2.2.elim λxs y=>(Ad (knd:=w9 au c.w) (enc:=λk=>aE (I k) 0) (key:=I) (λk v e=>(Gy e).elim λt e=>by rw [e];exact eE _) y.1).elim λf k=>(x.1.real x.2.1).elim λn r=>r.2.elim λW j=>
  ⟨f,k.1,qK.mp j.2▸j.1,λS u i=>by
   have q:=aA (L.map (·.1)) k.2
   rw [dC,dC]at q;rw [JW f [] (by
    show(f.map ((·.1)∘λp=>(p.1,er p.2))).Nodup
    rw [q];show(xs.map (I∘(·.1))).Nodup
    rw [<-dC];exact So I (λa b M i=>M (li i)) y.2.1)]at u
   exact⟨_,x.1.setAt (mo':=eF xs) (s':={l with heap:=S,toks:=l.toks+g.length}) x.2.1 E (λb o F e=>(i.2 b F).trans e) E E (λn=>⟨y.2.2.1,f,u,k.2⟩),y.2.2.2⟩⟩) λ_ _ x=>x)
theorem JY{kvs:L (U×ab)}:∀(acc:L (U×ab)),(merged acc kvs).map (λp=>(p.1,er p.2))=(kvs.map λp=>(p.1,er p.2)).foldl (λacc p=>em acc p.1 p.2) (acc.map λp=>(p.1,er p.2))/\(merged acc kvs).length<=acc.length+kvs.length:=by
 induction kvs with
 |nil=>exact λacc=>⟨E,cw _⟩
 |cons p r a=>intro acc;show(merged (stored acc p.1 p.2) r).map _=_/\(merged (stored acc p.1 p.2) r).length<=_;rw [(a _).1,uf];exact⟨E,ar (a _).2 (ar (go (stored_length_le acc p.1 p.2) _) (cR (by rw [fu,tF,qC 1])))⟩
theorem JZ{ks:L (aj an)}{vs:L an}{pos:aI}{Q:ab->Hp->Prop}(I:ks.all (·.isSome)=true)(C:ks.length=vs.length)(K:ks≠ [])(B:ks.length<=15)
  (h:∀d,H d=af->jB c A env V P ρ pos (H.set d (aO [])) ks vs λf N=>N d=G (aO [])/\∃xs:L (U×ab),f=xs.map (λp=>(aa p.1 0,p.2))/\xs.length<=bL/\Q (J d) (N.set d (aO (xs.foldl (λacc p=>em acc p.1 p.2) [])))):
  EV c A env V P ρ H (kQ ks vs pos) Q:=λs m R q=>
 have z:=R.push (o:={cls:=aM "dict",data:=e5 #[]}) (mo:=aO []) λj=>⟨eh _,[],Ee _,E⟩
 wpAny_Dict_walk (knd:=hf au c.w) I C K B (cf (h _ z.1 _ m z.2 q) (λf i x=>x.elim λN x=>x.2.2.elim λxs y=>(Ad (knd:=hf au c.w) (enc:=λk=>aa k 0) (key:=id) (λk v e=>(nz e).elim λt e=>by rw [e];exact eE _) y.1).elim λkvs k=>(x.1.real x.2.1).elim λj r=>r.2.elim λS g=>
  ⟨kvs,k.1,qK.mp g.2▸g.1,λM D u=>by
   have n:kvs.map (λp=>(p.1,er p.2))=xs:=k.2.trans (L.map_id xs);have a:=JY (kvs:=kvs) [];rw [n]at a;exact⟨_,x.1.setAt (mo':=aO (xs.foldl (λacc (p:U×ab)=>em acc p.1 p.2) [])) (s':={i with heap:=M,toks:=i.toks+f.length}) x.2.1 E (λb o F e=>(u.2 b F).trans e) E E (λj=>⟨by
    have l:kvs.length=xs.length:=(bJ _).symm.trans (aA hJ n);rw [show([]:L (U×ab))=([]:L (U×ab)).map (λp=>(p.1,er p.2))from E,<-a.1,bJ]
    exact ar a.2 (ar (cR ((qN _).trans l)) y.2.1),merged [] kvs,D,a.1⟩),y.2.2⟩⟩) λ_ _ x=>x)
theorem J0{s:ay}{elts:L an}{a}{pos:aI}{I l T:ae}{i:ag}{Q:hK->ay->Prop}(d:s.heap.IsTupleIter I l i)(g:Q () s):
  aX (aV au c.w) A (mj (eG elts a pos) (J I) (J T)) Q No s:=by
 obtain ⟨o,b,f,e⟩:=d;unfold mj;refine aR (wpAny_load b ?_);rw [f,e];show aX _ A (if(["enumerate","zip","dict_itemiterator","dict_reverseitemiterator","odict_iterator","itertools.zip_longest","itertools.pairwise"].contains "tuple_iterator" &&_)=true then _ else _) Q No s
 rw [aG (by
  intro h;rw [show(["enumerate","zip","dict_itemiterator","dict_reverseitemiterator","odict_iterator","itertools.zip_longest","itertools.pairwise"].contains "tuple_iterator")=false from by decide,aK.false_and]at h
  cases h)]
 exact bY g
noncomputable def h0(H:Hp):L ab->aj (L (L ab))
 |[]=>G []
 |t::r=>(pR t).bind λT=>match H T with
  |some (bm a)=>(h0 H r).bind λb=>G (a::b)
  |_=>af
theorem J1{H:Hp}{t:ab}{r:L ab}{b:L (L ab)}(h:h0 H (t::r)=G b):∃T vs a,pR t=G T/\H T=G (bm vs)/\h0 H r=G a/\b=vs::a:=
 dS h λT g h=>lc (f:=λo:aj MO=>match o with|some (bm vs)=>(h0 H r).bind λa=>G (vs::a)|_=>af) h E λc e h=>by
  induction c with
  |tup vs=>exact dS h λa d h=>⟨T,vs,a,g,e,d,(bc h).symm⟩
  |_=>exact gR h
theorem Ae{H:Hp}{ts:L ab}{a:L (L ab)}(h:h0 H ts=G a):a.length=ts.length/\∀(i:ag) (row:L ab),a[i]? =G row->∃t T,ts[i]? =G t/\pR t=G T/\H T=G (bm row):=by
 induction ts generalizing a with
 |nil=>cases h;exact⟨E,λ_ _ e=>gR e⟩
 |cons t r c=>obtain ⟨T,g,j,f,d,b,rfl⟩:=J1 h;exact⟨aA h9 (c b).1,λi=>ag.casesOn i (λrow e=>⟨t,T,E,f,bc e▸d⟩) λi=>(c b).2 i⟩
theorem Af{H:Hp}{T:ae}{vs:L ab}{r:L ab}{a:L (L ab)}(h:H T=G (bm vs))(g:h0 H r=G a):h0 H (J T::r)=G (vs::a):=by
 show(match H T with|some (bm vs)=>(h0 H r).bind λa=>G (vs::a)|_=>af)=_
 rw [h,g];rfl
noncomputable def nR(l:ae)(ts:L ab)(a:L (L ab))(H:Hp):Prop:=H l=G (bm ts)/\h0 H ts=G a
theorem J2{l g:ae}{ts:L ab}{y:L (L ab)}(S:bu A D):jy c A g [g] (λi h=>h.IsTupleIter g l i) y (nR l ts y) where
 alive:=λi h a=>gl.mpr ⟨a.imp λo q=>⟨q.1,.f q.2.2⟩,λ_ h=>bW h gc⟩
 frame:=λi h K a p=>a.imp λo q=>⟨p g (d_ _) _ q.1,q.2⟩
 turn:=λ{V m P H s i Q ac k Z R} d a C j X v=>(d.real j.1).elim λ_ F=>F.2.elim λM F=>((Ae j.2).2 i Q X).elim λt x=>x.elim λT x=>(ll F.2 x.1).elim λw q=>(d.real x.2.2).elim λ_ n=>n.2.elim λN n=>by
  have Y:w=J T:=hk (q.1▸x.2.1);refine wpAny_pyNext_tuple_item a F.1 (x:=J T) (by rw [ia,<-Y];exact q.2) λK I B=>⟨T,E,J0 I (v T N _ n.2 (n.1.imp λo r=>⟨(B.2 T ?_).trans r.1,r.2⟩) I (λb o u r=>(B.2 b λz=>u (z▸d_ _)).trans r) E E)⟩
  exact λe=>(C g (d_ _)).elim λo r=>d.el λW _ _ _ z=>c_ (d.out r W) (e▸z.notP x.2.2)
 done:=λ{V m P H s R} d a C j v=>(d.real j.1).elim λ_ F=>F.2.elim λM F=>by rw [(Ae j.2).1,<-F.2,bJ]at a;exact wpAny_pyNext_tuple_end S.handled a F.1 (by rw [ia,tA];exact cw _) λK p=>⟨E,v _ (λb o u=>p b o λz=>u (z▸d_ _)) E E⟩
theorem J3{ts es:L an}{k g:ag}{n p t:aI}{body:L bz}{Q:b_->ao->Hp->Prop}(d:bu A D)(q:ts.all cW=true)
  (h:fA c A env V Pb ρ H (eG es g p) λv N=>∃l us a,v=J l/\N l=G (bm us)/\h0 N us=G a/\jz c A env V No ts body (nR l us a) Q a ρ N):
  X1 c A env V Pb No ρ H (.For (eG ts k n) (eG es g p) body [] t) Q:=λs m P j r f=>
 wpAny_For ((h P j).here r f λv w N i x=>x.elim λl x=>x.elim λus x=>x.elim λa x=>(i.real x.2.1).elim λ_ F=>F.2.elim λu F=>by rw [dr x.1];exact wpAny_pyIter_tuple F.1 (uA d q j i f (gl.mpr ⟨ga (cw _),λ_ h=>bW h gc⟩) (λb o e=>gF _ e) (J2 d) ⟨_,ng _ E,E,E⟩ ⟨x.2.1,x.2.2.1⟩ x.2.2.2 λ_ _ y=>y)) λx=>E
end
inductive BI where
 |len|sorted|range|list|bytes|str|ord|int|min|max
 |append|extend|lpop|index|get|getb|dpop|find|rfind
open BI renaming len->fh,sorted->fv,get->ig,append->nk
noncomputable def BI.blt:BI->aj (am×ab)
 |fh=>G ("len",bS "len")
 |fv=>G ("sorted",bS "sorted")
 | .range=>G ("range",aM "range")
 | .list=>G ("list",aM "list")
 | .bytes=>G ("bytes",aM "bytes")
 | .str=>G ("str",aM "str")
 | .ord=>G ("ord",bS "ord")
 | .int=>G ("int",aM "int")
 | .min=>G ("min",bS "min")
 | .max=>G ("max",bS "max")
 |_=>af
noncomputable def BI.meth:BI->aj (am×am×am)
 |nk=>G ("list","append","list.append")
 | .extend=>G ("list","extend","list.extend")
 | .lpop=>G ("list","pop","list.pop")
 | .index=>G ("list","index","list.index")
 |ig=>G ("dict","get","dict.get")
 | .getb=>G ("dict","get","dict.get")
 | .dpop=>G ("dict","pop","dict.pop")
 | .find=>G ("bytes","find","bytes.find")
 | .rfind=>G ("bytes","rfind","bytes.rfind")
 |_=>af
noncomputable def BI.val(b:BI):ab:=(b.blt.map (·.2)).getD ((b.meth.map λp=>bS p.2.2).getD ah)
noncomputable def gV{α:Type}(o:aj α)(k:α->Prop):Prop:=match o with
 |some x=>k x
 |none=>d8
theorem Ag{α:Type}(x:α)(k:α->Prop):gV (G x) k=k x:=E
theorem gV.el{α:Type}{o:aj α}{k:α->Prop}{M:Prop}(h:gV o k)(f:∀x,o=G x->k x->M):M:=by
 cases o with
 |none=>exact h.elim
 |some x=>exact f x E h
theorem rC{α:Type}{o:aj α}{k:α->Prop}(h:gV o k):∃x,o=G x/\k x:=h.el λx e q=>⟨x,e,q⟩
theorem i0{α:Type}{o:aj α}{v:α}{K:α->Prop}(h:o=G v)(k:K v):gV o K:=by rw [h];exact k
noncomputable def Ah(v:ab)(k:aK->Prop):Prop:=match v with
 |az b=>k b
 |_=>d8
theorem Ai{v:ab}{k:aK->Prop}(h:Ah v k):∃b,v=az b/\k b:=by
 cases v with
 |bool b=>exact⟨b,E,h⟩
 |_=>exact h.elim
inductive ME where
 |var (x:am)
 |glb (i:ag) (v:ab)
 |cst (v:ab)
 |att (e:ME) (f:am)
 |prp (e:ME) (f:am)
 |idx (e i:ME)
 |slc (e:ME) (m s j:L ME)
 |bin (g:eW) (a b:ME)
 |neg (a:ME)
 |not (a:ME)
 |cmp (g:gD) (a b:ME)
 |cmp2 (l k:gD) (a b d:ME)
 |ite (t a b:ME)
 |and (c:L ME)
 |or (c:L ME)
 |tup (c:L ME)
 |lst (c:L ME)
 |dct0
 |dctS (p:L am) (h:L ME)
 |dctI (n:L ME)
 |call (i:ag) (a:ae) (c:L ME)
 |bcall (b:BI) (c:L ME)
 |bmeth (o:ME) (b:BI) (c:L ME)
 |meth (o:ME) (f:am) (c:L ME)
 |comp (w:ME) (x:am) (q:ME) (r:L ME) (u:L am)
 |any
open ME renaming var->O,cst->ai,att->av,cmp->ax,call->aB,idx->aL,bin->bT,bcall->b4,ite->cg,meth->cC,lst->c8,tup->dz,bmeth->dR,or->d0,slc->ea,and->ei,neg->eP,not->fw,glb->hj,comp->iM
inductive MT where
 |name (x:am)
 |att (e:ME) (f:am)
 |sub (o i:ME)
 |slc (o b c:ME)
 |tup (a:L MT)
open MT renaming name->aT,att->bG,sub->gP
inductive MS where
 |ret (e:ME)
 |ret0
 |pass
 |expr (e:ME)
 |ife (t:ME) (a b:L MS)
 |asg (t:MT) (e:ME)
 |asgT (d:L MT) (f:L ME)
 |asgSw (g:L am) (f:L ME)
 |asgC (y:am) (l:ME) (x:am) (i:ME) (j:L ME) (k:L am)
 |aug (x:am) (h:eW) (e:ME)
 |for1 (x:am) (e:ME) (c:L MS)
 |forE (d:L MT) (e:ME) (c:L MS)
 |forZ (d:L MT) (n m:ME) (c:L MS)
 |forT (d:L MT) (f:L ME) (c:L MS)
 |whl (t:ME) (c:L MS)
 |any
open MS renaming asg->aD,ret->aH,ife->aQ,expr->cG,for1->d1,asgSw->fR,asgC->ih,asgT->iN
noncomputable def ew(H:Hp)(v:ab)(f:am):aj ab:=match v with
 |J a=>match H a with
  |some (bZ C b)=>if hV.contains (C,f)=true then b.lookup f else af
  |_=>af
 |_=>af
noncomputable def rD(H:Hp)(v:ab)(f:am):aj ae:=match v with
 |J a=>match H a with
  |some (bZ C b)=>o9.lookup (C,f)
  |_=>af
 |_=>af
noncomputable def nS(H:Hp)(v:ab)(f:am):aj ae:=match v with
 |J a=>match H a with
  |some (bZ C b)=>match b.lookup f with
   |none=>mv.lookup (C,f)
   |some _=>af
  |_=>af
 |_=>af
section
variable{H:Hp}{v u:ab}{f:am}{g:ae}
theorem uM{α:Type}{o:aj MO}{k:ae->L (am×ab)->aj α}{r:α}(h:(match o with|some (bZ C fs)=>k C fs|_=>af)=G r):∃C fs,o=G (bZ C fs)/\k C fs=G r:=by
 cases o with
 |none=>cases h
 |some o=>cases o with
  |inst C fs=>exact⟨C,fs,E,h⟩
  |_=>cases h
theorem uN{α:Type}{k:ae->aj α}{r:α}(h:(match v with|J a=>k a|_=>af)=G r):∃a,v=J a/\k a=G r:=by
 cases v with
 |ref a=>exact⟨a,E,h⟩
 |_=>cases h
theorem Aj{α a:Type} [BEq α] [qF α] [BEq a] [qF a]{x:α}{y:a}{l:L (α×a)}(h:l.lookup x=G y):l.contains (x,y)=true:=by
 induction l with
 |nil=>cases h
 |cons p r b=>
  rw [fQ]at h;cases q:x==p.1 with
  |true=>rw [q]at h;cases h;rw [c4.mp q];exact dE.mpr bn
  |false=>rw [q]at h;exact dE.mpr (bM _ (dE.mp (b h)))
theorem J4(h:ew H v f=G u):∃a C fs b,v=J a/\H a=G (bZ C fs)/\fs.lookup f=G b/\hV.contains (C,f)=true/\u=b:=by
 obtain ⟨a,rfl,h⟩:=uN h;obtain ⟨C,fs,e,h⟩:=uM h
 by_cases q:hV.contains (C,f)=true
 ·rw [aJ q]at h;exact⟨a,C,fs,u,E,e,h,q,E⟩
 ·rw [aG q]at h;cases h
theorem J5(h:rD H v f=G g):∃a C fs,v=J a/\H a=G (bZ C fs)/\o9.contains ((C,f),g)=true:=by obtain ⟨a,rfl,h⟩:=uN h;obtain ⟨C,fs,e,h⟩:=uM h;exact⟨a,C,fs,E,e,Aj h⟩
theorem J6(h:nS H v f=G g):∃a C fs,v=J a/\H a=G (bZ C fs)/\fs.lookup f=af/\mv.contains ((C,f),g)=true:=by
 obtain ⟨a,rfl,h⟩:=uN h;obtain ⟨C,fs,e,h⟩:=uM h;cases q:fs.lookup f with
 |none=>rw [q]at h;exact⟨a,C,fs,E,e,q,Aj h⟩
 |some x=>rw [q]at h;cases h
end
noncomputable def nT(x:am)(c:ao->Hp->(aK->Hp->Prop)->Prop)(e:ao->Hp->(ab->Hp->Prop)->Prop)(b:Hp->Prop)(ρ:ao)(d:ae)(Q:Hp->Prop):L ab->Hp->Prop
 |[],H=>Q H
 |v::r,H=>c (aZ x v ρ) H λk g=>
   if k=true then e (aZ x v ρ) g λu f=>∃a,f d=G (ak a)/\a.length<bL/\b (f.set d (ak (a++[u])))/\nT x c e b ρ d Q r (f.set d (ak (a++[u])))
   else b g/\nT x c e b ρ d Q r g
noncomputable def rE(x:am)(a:ao->Hp->(aK->Hp->Prop)->Prop)(c:ao->Hp->(ab->Hp->Prop)->Prop)(ρ:ao)(b:L am)(v:ab)(H:Hp)(Q:ae->Hp->Prop):Prop:=gV (fB H v) λp=>∀d,H d=af->dA p.2 p.1 (H.set d (ak []))/\nT x a c (dA p.2 p.1) (ρ.filter λq=>b.contains q.1) d (Q d) p.1 (H.set d (ak []))
@[irreducible] noncomputable def uO(o:ab)(f:am)(v:ab)(H:Hp)(Q:Hp->Prop):Prop:=∃a C b,o=J a/\H a=G (bZ C b)/\hV.contains (C,f)=true/\b.length<=100/\dJ v=true/\Q (H.set a (bZ C (aZ f v b)))
noncomputable def uP(o a b v:ab)(H:Hp)(Q:Hp->Prop):Prop:=∃l u c d i j,o=J l/\v=J u/\a=aa i 0/\b=aa j 0/\H l=G (ak c)/\H u=G (ak d)/\l≠u/\0<=i/\i<=j/\j<=c.length/\c.length+d.length<=bL/\
   Q (H.set l (ak (c.take i.toNat++d++c.drop j.toNat)))
noncomputable def pq(x:am)(body:ao->Hp->(b_->ao->Hp->Prop)->Prop)(b:Hp->Prop)(Q:b_->ao->Hp->Prop):L ab->ao->Hp->Prop
 |[],a,H=>Q .next a H
 |v::r,a,H=>body (aZ x v a) H (ip Q λd c=>b c/\pq x body b Q r d c)
noncomputable def lz(n:ag)(b:L ab->ao->Hp->(ao->Hp->Prop)->Prop)(body:ao->Hp->(b_->ao->Hp->Prop)->Prop)(c:Hp->Prop)(Q:b_->ao->Hp->Prop):L (L ab)->ao->Hp->Prop
 |[],a,H=>Q .next a H
 |v::r,a,H=>v.length=n/\b v a H λf g=>body f g (ip Q λe d=>c d/\lz n b body c Q r e d)
noncomputable def pr(t:ao->Hp->(aK->Hp->Prop)->Prop)(body:ao->Hp->(b_->ao->Hp->Prop)->Prop)(Q:b_->ao->Hp->Prop):ag->ao->Hp->Prop
 |0,_,_=>d8
 |n+1,a,H=>t a H λk b=>if k=true then body a b (ip Q λc d=>pr t body Q n c d)else Q .next a b
section
variable{c:Cx}{A:bj}{env:a8}{V:ae}{Pb P:Pr}{be:ab->ay->Prop}{ρ:ao}{H:Hp}{D:ag}
theorem TV.mono{e:an}{Q a:aK->Hp->Prop}(h:TV c A env V P ρ H e Q)(k:∀v b,Q v b->a v b):TV c A env V P ρ H e a:=λs m x r=>cf (h s m x r) (λ_ _=>c3 λ_=>jk (k _ _)) λ_ _ x=>x
theorem e2.mono{es:L an}{Q a:L ab->Hp->Prop}(h:e2 c A env V P ρ H es Q)(k:∀v b,Q v b->a v b):e2 c A env V P ρ H es a:=λs m p x r=>cf (h s m p x r) (λ_ _=>c3 λ_=>jk (k _ _)) λ_ _ x=>x
theorem X1.mono{b:bz}{Q d:b_->ao->Hp->Prop}(h:X1 c A env V Pb be ρ H b Q)(k:∀a ρ H,Q a ρ H->d a ρ H):X1 c A env V Pb be ρ H b d:=λs m P g f e=>cf (h s m P g f e) (λa i y=>y.mono (k _)) λ_ _ x=>x
theorem XS.mono{b:L bz}{Q d:b_->ao->Hp->Prop}(h:XS c A env V Pb be ρ H b Q)(k:∀a ρ H,Q a ρ H->d a ρ H):XS c A env V Pb be ρ H b d:=λs m P g f e=>cf (h s m P g f e) (λa i y=>y.mono (k _)) λ_ _ x=>x
theorem AS.mono{t:an}{v:ab}{Q a:ao->Hp->Prop}(h:AS c A env V Pb ρ H t v Q)(k:∀ρ H,Q ρ H->a ρ H):AS c A env V Pb ρ H t v a:=λs m P w f d b e=>cf (h s m P w f d b e) (λ_ g y=>y.mono k) λ_ _ x=>x
theorem iU.mono{t:L an}{v:L ab}{Q a:ao->Hp->Prop}(h:iU c A env V Pb ρ H t v Q)(k:∀ρ H,Q ρ H->a ρ H):iU c A env V Pb ρ H t v a:=λs m P w f d b e=>cf (h s m P w f d b e) (λ_ g y=>y.mono k) λ_ _ x=>x
theorem fz.weak{Q f:ao->Hp->Prop}{s'}(h:fz c A.frames env V Pb f s')(k:∀ρ H,f ρ H->∃N,(∀a mo,N a=G mo->H a=G mo)/\Q ρ N):fz c A.frames env V Pb Q s':=by obtain ⟨l,g,m,i,a,b,d,e⟩:=h;obtain ⟨N,j,q⟩:=k _ _ e;exact⟨l,g,N,i,a,b.weaken j,d,q⟩
theorem J7{d:bz}{Q e:b_->ao->Hp->Prop}(h:X1 c A env V Pb be ρ H d e)(k:∀b ρ H,e b ρ H->∃N,(∀a mo,N a=G mo->H a=G mo)/\Q b ρ N):X1 c A env V Pb be ρ H d Q:=λs m P i g f=>cf (h s m P i g f) (λb j y=>y.weak (k _)) λ_ _ x=>x
theorem iU.pre{N:Hp}{ts:L an}{vs:L ab}{Q:ao->Hp->Prop}(h:iU c A env V Pb ρ N ts vs Q)(f:∀a mo,N a=G mo->H a=G mo):iU c A env V Pb ρ H ts vs Q:=λs m P b i g d e=>h s m P b i (g.weaken f) d e
theorem lA(H:Hp)(d:ae)(o p:MO):(H.set d o).set d p=H.set d p:=funext λb=>by
 by_cases h:b=d
 ·rw [h,aF,aF]
 ·rw [dT _ _ h,dT _ _ h,dT _ _ h]
theorem Ak{d:ae}{o:MO}(b:H d=af):∀a mo,H a=G mo->(H.set d o) a=G mo:=λa mo e=>(dT _ _ λz=>by rw [z,b]at e;cases e).trans e
end
noncomputable def bq{α:Type}(o:aj α)(k:α->aK):aK:=match o with
 |some x=>k x
 |none=>false
theorem OB{α:Type}{o:aj α}{k:α->aK}{M:Prop}(h:bq o k=true)(f:∀x,o=G x->k x=true->M):M:=by
 cases o with
 |none=>exact bW h eX
 |some x=>exact f x E h
theorem A2{a b:aK}{M:Prop}(h:(a&&b)=true)(f:a=true->b=true->M):M:=by
 cases a with
 |false=>exact bW h eX
 |true=>exact f E h
@[elab_as_elim] theorem EQ{α:Type} [BEq α] [qF α]{x y:α}{M:α->Prop}(h:(x==y)=true)(f:M y):M x:=cU h▸f
noncomputable def pu(e:an):aj {x:a6×aI//e=bA x.1 x.2}:=ix λh=>DZ (motive_1:=λe=>{x:a6×aI//e=bA x.1 x.2}) e h λa p=>⟨(a,p),E⟩
noncomputable def Al(e:an):aj {x:Const×ag×aI//e=iE x.1 x.2.1 x.2.2}:=ix λh=>iE.elim (motive_1:=λe=>{x:Const×ag×aI//e=iE x.1 x.2.1 x.2.2}) e h λa n p=>⟨(a,n,p),E⟩
noncomputable def nU(e:an):aj {x:an×a6×aI//e=eu x.1 x.2.1 x.2.2}:=ix λh=>eu.elim (motive_1:=λe=>{x:an×a6×aI//e=eu x.1 x.2.1 x.2.2}) e h λa b p=>⟨(a,b,p),E⟩
noncomputable def rF(e:an):aj {x:an×an×aI//e=oM x.1 x.2.1 x.2.2}:=ix λh=>oM.elim (motive_1:=λe=>{x:an×an×aI//e=oM x.1 x.2.1 x.2.2}) e h λa b p=>⟨(a,b,p),E⟩
noncomputable def Am(e:an):aj {x:aj an×aj an×aj an×aI//e=m9 x.1 x.2.1 x.2.2.1 x.2.2.2}:=ix λh=>m9.elim (motive_1:=λe=>{x:aj an×aj an×aj an×aI//e=m9 x.1 x.2.1 x.2.2.1 x.2.2.2}) e h λa b d p=>⟨(a,b,d,p),E⟩
noncomputable def J8(e:an):aj {x:an×eW×an×aI//e= .BinOp x.1 x.2.1 x.2.2.1 x.2.2.2}:=ix λh=>an.BinOp.elim (motive_1:=λe=>{x:an×eW×an×aI//e= .BinOp x.1 x.2.1 x.2.2.1 x.2.2.2}) e h λa b d p=>⟨(a,b,d,p),E⟩
noncomputable def An(e:an):aj {x:UnaryOp×an×aI//e=na x.1 x.2.1 x.2.2}:=ix λh=>na.elim (motive_1:=λe=>{x:UnaryOp×an×aI//e=na x.1 x.2.1 x.2.2}) e h λa b p=>⟨(a,b,p),E⟩
noncomputable def Ao(e:an):aj {x:an×L gD×L an×aI//e=kV x.1 x.2.1 x.2.2.1 x.2.2.2}:=ix λh=>kV.elim (motive_1:=λe=>{x:an×L gD×L an×aI//e=kV x.1 x.2.1 x.2.2.1 x.2.2.2}) e h λa b d p=>⟨(a,b,d,p),E⟩
noncomputable def J9(e:an):aj {x:an×an×an×aI//e= .IfExp x.1 x.2.1 x.2.2.1 x.2.2.2}:=ix λh=>an.IfExp.elim (motive_1:=λe=>{x:an×an×an×aI//e= .IfExp x.1 x.2.1 x.2.2.1 x.2.2.2}) e h λa b d p=>⟨(a,b,d,p),E⟩
noncomputable def Ap(e:an):aj {x:BoolOp×L an×aI//e=jo x.1 x.2.1 x.2.2}:=ix λh=>jo.elim (motive_1:=λe=>{x:BoolOp×L an×aI//e=jo x.1 x.2.1 x.2.2}) e h λa b p=>⟨(a,b,p),E⟩
noncomputable def jC(e:an):aj {x:L an×ag×aI//e=eG x.1 x.2.1 x.2.2}:=ix λh=>eG.elim (motive_1:=λe=>{x:L an×ag×aI//e=eG x.1 x.2.1 x.2.2}) e h λa n p=>⟨(a,n,p),E⟩
noncomputable def J_(e:an):aj {x:L an×aI//e= .List x.1 x.2}:=ix λh=>an.List.elim (motive_1:=λe=>{x:L an×aI//e= .List x.1 x.2}) e h λa p=>⟨(a,p),E⟩
noncomputable def uQ(e:an):aj {x:L (aj an)×L an×aI//e=kQ x.1 x.2.1 x.2.2}:=ix λh=>kQ.elim (motive_1:=λe=>{x:L (aj an)×L an×aI//e=kQ x.1 x.2.1 x.2.2}) e h λa b p=>⟨(a,b,p),E⟩
noncomputable def nV(e:an):aj {x:an×L an×L Keyword×aI//e=eV x.1 x.2.1 x.2.2.1 x.2.2.2}:=ix λh=>eV.elim (motive_1:=λe=>{x:an×L an×L Keyword×aI//e=eV x.1 x.2.1 x.2.2.1 x.2.2.2}) e h λa b d p=>⟨(a,b,d,p),E⟩
noncomputable def uR(e:an):aj {x:an×L xA×cB×aI//e=j0 x.1 x.2.1 x.2.2.1 x.2.2.2}:=ix λh=>j0.elim (motive_1:=λe=>{x:an×L xA×cB×aI//e=j0 x.1 x.2.1 x.2.2.1 x.2.2.2}) e h λa b d p=>⟨(a,b,d,p),E⟩
noncomputable def p0{α:Type}:(l:L α)->aj (PLift (l=[]))|[]=>G ⟨E⟩|_=>af
noncomputable def p1{α:Type}:(l:L α)->aj {x:α//l=[x]}|[a]=>G ⟨a,E⟩|_=>af
noncomputable def p2{α:Type}:(l:L α)->aj {x:α×α//l=[x.1,x.2]}|[a,b]=>G ⟨(a,b),E⟩|_=>af
noncomputable def pC{α:Type}:(l:L α)->aj {x:α×L α//l=x.1::x.2}|a::b=>G ⟨(a,b),E⟩|_=>af
noncomputable def Aq{α:Type}:(l:aj α)->aj (PLift (l=af))|none=>G ⟨E⟩|_=>af
noncomputable def Ar:(g:xA)->aj {x:an×an×L an//g=⟨x.1,x.2.1,x.2.2,0⟩}|⟨t,i,fs,0⟩=>G ⟨(t,i,fs),E⟩|_=>af
noncomputable def uS:Const->aj ab
 | .none=>G ah
 | .bool b=>G (az b)
 | .int i=>G (aa i 0)
 | .str x=>G (aE x 0)
 | .bytes x=>G (aq x.toArray 0)
 |_=>af
noncomputable def uT{α:Type}:(l:aj α)->aj {x:α//l=G x}|some x=>G ⟨x,E⟩|none=>af
noncomputable def rG:L am->L (aj an)->aK
 |[],l=>(p0 l).isSome
 |x::a,l=>bq (pC l) λp=>bq (uT p.1.1) λz=>bq (Al z.1) (λq=>uS q.1.1==G (aE (I x) 0))&&rG a p.1.2
noncomputable def uU(a:cB)(i:ag)(v:ab)(id:a6):aK:=bq my[i]? λp=>id==I p.1&&(a.names.lookup id==G f9&&p.2==v)
noncomputable def uV(a:cB)(b:L am):aK:=(a.names.all λp=>p.2 !=eU||b.any λx=>I x==p.1)&&b.all λx=>a.names.lookup (I x)==G eU
noncomputable def mC(x:am)(e:an):aK:=bq (pu e) λp=>p.1.1==I x
noncomputable def pw(f:am)(l:L an)(pos:aI)(q:an×a6×aI):aK:=q.2.1==I f&&(iR q.1&&(decide (l.length<30)&&(q.2.2.endLine==pos.line)))
noncomputable def As(a:cB)(x:am)(b:L am)(p:an×L xA×cB×aI)(g:an×an×L an):aK:=mC x g.1&&(j_ p.2.2.1 a x&&(nM g.2.1&&uV p.2.2.1 b))
mutual
noncomputable def cm(t:aK)(c:cB):ME->an->aK
 |O x,e=>mC x e
 |hj i v,e=>bq (pu e) λp=>uU c i v p.1.1
 |ai v,e=>bq (Al e) λp=>uS p.1.1==G v
 |av o f,e=>bq (nU e) λp=>p.1.2.1==I f&&(iR p.1.1&&cm false c o p.1.1)
 | .prp o f,e=>bq (nU e) λp=>p.1.2.1==I f&&(iR p.1.1&&cm false c o p.1.1)
 |aL o i,e=>bq (rF e) λp=>cm false c o p.1.1&&cm false c i p.1.2.1
 |ea o z H y,e=>bq (rF e) λp=>cm false c o p.1.1&&bq (Am p.1.2.1) λq=>cT false c z q.1.1.toList&&(cT false c H q.1.2.1.toList&&cT false c y q.1.2.2.1.toList)
 |bT j a b,e=>bq (J8 e) λp=>p.1.2.1==j&&(cm false c a p.1.1&&cm false c b p.1.2.2.1)
 |eP a,e=>bq (An e) λp=>p.1.1== .USub&&cm false c a p.1.2.1
 |fw a,e=>bq (An e) λp=>p.1.1== .Not&&cm t c a p.1.2.1
 |ax j a b,e=>bq (Ao e) λp=>p.1.2.1==[j]&&bq (p1 p.1.2.2.1) λr=>!behindInMarks j r.1&&(cm false c a p.1.1&&cm false c b r.1)
 | .cmp2 n l a b d,e=>bq (Ao e) λp=>p.1.2.1==[n,l]&&bq (p2 p.1.2.2.1) λr=>!lastMarks [n,l] [r.1.1,r.1.2]&&(cm false c a p.1.1&&(cm false c b r.1.1&&cm false c d r.1.2))
 |cg u a b,e=>bq (J9 e) λp=>cm true c u p.1.1&&(cm false c a p.1.2.1&&cm false c b p.1.2.2.1)
 |ei h,e=>bq (Ap e) λp=>p.1.1==hi&&((t||(p.1.2.1.length==2||p.1.2.1.length==3))&&cT t c h p.1.2.1)
 |d0 h,e=>bq (Ap e) λp=>p.1.1== .Or&&cT t c h p.1.2.1
 |dz h,e=>bq (jC e) λp=>cT false c h p.1.1
 |c8 h,e=>bq (J_ e) λp=>cT false c h p.1.1
 | .dct0,e=>bq (uQ e) λp=>bq (p0 p.1.1) λ_=>(p0 p.1.2.1).isSome
 | .dctS s w,e=>bq (uQ e) λp=>(rG s p.1.1&&(p.1.1.length==p.1.2.1.length&&(!p.1.1.isEmpty&&(decide (p.1.1.length<=15)&&decide (s.Nodup)))))&&cT false c w p.1.2.1
 | .dctI A,e=>bq (uQ e) λp=>bq (p2 p.1.1) λk=>bq (p2 p.1.2.1) λv=>bq (uT k.1.1) λC=>bq (uT k.1.2) λB=>cT false c A [C.1,v.1.1,B.1,v.1.2]
 |aB i a h,e=>bq (nV e) λp=>bq (p0 p.1.2.2.1) λ_=>bq (pu p.1.1) λq=>uU c i (J a) q.1.1&&(mw.contains a&&cT false c h p.1.2.1)
 |b4 b h,e=>bq (nV e) λp=>bq (p0 p.1.2.2.1) λ_=>bq (pu p.1.1) λq=>bq b.blt λr=>q.1.1==I r.1&&((fk r.1&&(c.names.lookup q.1.1==G f9&&ls.contains r))&&cT false c h p.1.2.1)
 |dR o b h,e=>bq (nV e) λp=>bq (p0 p.1.2.2.1) λ_=>bq (nU p.1.1) λq=>bq b.meth λm=>(rn.contains m&&pw m.2.1 p.1.2.1 p.1.2.2.2 q.1)&&(cm false c o q.1.1&&cT false c h p.1.2.1)
 |cC o f h,e=>bq (nV e) λp=>bq (p0 p.1.2.2.1) λ_=>bq (nU p.1.1) λq=>pw f p.1.2.1 p.1.2.2.2 q.1&&(cm false c o q.1.1&&cT false c h p.1.2.1)
 |iM M x D F K,e=>bq (uR e) λp=>bq (p1 p.1.2.1) λg=>bq (Ar g.1) λg=>As c x K p.1 g.1&&(cm false c D g.1.2.1&&(cm false (iY p.1.2.2.1 c) M p.1.1&&cT true (iY p.1.2.2.1 c) F g.1.2.2))
 |_,_=>true
noncomputable def cT(t:aK)(a:cB):L ME->L an->aK
 |[],l=>(p0 l).isSome
 |m::b,l=>bq (pC l) λp=>cW p.1.1&&(cm t a m p.1.1&&cT t a b p.1.2)
end
noncomputable def px(a:cB)(x:am):aK:=fk x&&(a.names.lookup (I x)==G .local||a.names.lookup (I x)==G ft)
mutual
noncomputable def uW(a:cB):MT->an->aK
 |aT x,e=>mC x e&&px a x
 |bG o f,e=>bq (nU e) λp=>p.1.2.1==I f&&cm false a o p.1.1
 |gP o i,e=>bq (rF e) λp=>cm false a o p.1.1&&cm false a i p.1.2.1
 | .slc o c d,e=>bq (rF e) λp=>cm false a o p.1.1&&bq (Am p.1.2.1) λq=>cT false a [c] q.1.1.toList&&(cT false a [d] q.1.2.1.toList&&(Aq q.1.2.2.1).isSome)
 | .tup b,e=>bq (jC e) λp=>jD a b p.1.1
noncomputable def jD(a:cB):L MT->L an->aK
 |[],l=>(p0 l).isSome
 |t::b,l=>bq (pC l) λp=>cW p.1.1&&(uW a t p.1.1&&jD a b p.1.2)
end
noncomputable def Au(e:bz):aj {x:aj an×aI//e=ni x.1 x.2}:=ix λh=>ni.elim (motive_2:=λe=>{x:aj an×aI//e=ni x.1 x.2}) e h λa p=>⟨(a,p),E⟩
noncomputable def Ka(e:bz):aj {x:aI//e= .Pass x}:=ix λh=>bz.Pass.elim (motive_2:=λe=>{x:aI//e= .Pass x}) e h λp=>⟨p,E⟩
noncomputable def Kb(e:bz):aj {x:an×aI//e= .Expr x.1 x.2}:=ix λh=>bz.Expr.elim (motive_2:=λe=>{x:an×aI//e= .Expr x.1 x.2}) e h λa p=>⟨(a,p),E⟩
noncomputable def Kc(e:bz):aj {x:an×L bz×L bz×aI//e= .If x.1 x.2.1 x.2.2.1 x.2.2.2}:=ix λh=>bz.If.elim (motive_2:=λe=>{x:an×L bz×L bz×aI//e= .If x.1 x.2.1 x.2.2.1 x.2.2.2}) e h λa b d p=>⟨(a,b,d,p),E⟩
noncomputable def rH(e:bz):aj {x:L an×an×aI//e=hN x.1 x.2.1 x.2.2}:=ix λh=>R4 (motive_2:=λe=>{x:L an×an×aI//e=hN x.1 x.2.1 x.2.2}) e h λa b p=>⟨(a,b,p),E⟩
noncomputable def Kd(e:bz):aj {x:an×eW×an×aI//e=tu x.1 x.2.1 x.2.2.1 x.2.2.2}:=ix λh=>tu.elim (motive_2:=λe=>{x:an×eW×an×aI//e=tu x.1 x.2.1 x.2.2.1 x.2.2.2}) e h λa b d p=>⟨(a,b,d,p),E⟩
noncomputable def rI(e:bz):aj {x:an×an×L bz×L bz×aI//e= .For x.1 x.2.1 x.2.2.1 x.2.2.2.1 x.2.2.2.2}:=ix λh=>bz.For.elim (motive_2:=λe=>{x:an×an×L bz×L bz×aI//e= .For x.1 x.2.1 x.2.2.1 x.2.2.2.1 x.2.2.2.2}) e h λa b d r p=>⟨(a,b,d,r,p),E⟩
noncomputable def Ke(e:bz):aj {x:an×L bz×L bz×aI//e= .While x.1 x.2.1 x.2.2.1 x.2.2.2}:=ix λh=>bz.While.elim (motive_2:=λe=>{x:an×L bz×L bz×aI//e= .While x.1 x.2.1 x.2.2.1 x.2.2.2}) e h λa b d p=>⟨(a,b,d,p),E⟩
noncomputable def Av(n:am)(a:cB)(e:an):aK:=mC n e&&a.names.lookup (I n)==G f9
mutual
noncomputable def py(c:cB):MS->bz->aK
 |aH e,s=>bq (Au s) λp=>cT false c [e] p.1.1.toList
 | .ret0,s=>bq (Au s) λp=>(Aq p.1.1).isSome
 | .pass,s=>(Ka s).isSome
 |cG e,s=>bq (Kb s) λp=>hX p.1.1&&cm false c e p.1.1
 |aQ t a b,s=>bq (Kc s) λp=>cm true c t p.1.1&&(gW c a p.1.2.1&&gW c b p.1.2.2.1)
 |aD t e,s=>bq (rH s) λp=>bq (p1 p.1.1) λx=>cW x.1&&(uW c t x.1&&(cm false c e p.1.2.1&&(hX p.1.2.1||((pj p.1.2.1&&ph x.1)||((uR p.1.2.1).isSome&&(nU x.1).isSome)))))
 |iN f j,s=>bq (rH s) λp=>bq (p1 p.1.1) λx=>bq (jC x.1) λd=>bq (jC p.1.2.1) λi=>jD c f d.1.1&&(cT false c j i.1.1&&pi c d.1.1 i.1.1==G af)
 |fR d j,s=>bq (rH s) λp=>bq (p1 p.1.1) λx=>bq (jC x.1) λf=>bq (jC p.1.2.1) λi=>cT false c j i.1.1&&(pi c f.1.1 i.1.1==G (G (d.map I))&&d.all (px c))
 |ih y v x o r u,s=>bq (rH s) λp=>bq (p1 p.1.1) λn=>bq (pu n.1) λn=>bq (uR p.1.2.1) λq=>(n.1.1==I y&&(px c y&&(c.names.lookup (I y)==G .local&&(n.1.2.line==q.1.2.2.2.line&&(!(q.1.2.2.1.names.any λ(m,k)=>m==I y&&(k== .local||k==ft)))))))&&
   bq (p1 q.1.2.1) λg=>bq (Ar g.1) λg=>As c x u q.1 g.1&&(cm false c o g.1.2.1&&(cm false (iY q.1.2.2.1 c) v q.1.1&&cT true (iY q.1.2.2.1 c) r g.1.2.2))
 | .aug x l e,s=>bq (Kd s) λp=>mC x p.1.1&&(p.1.2.1==l&&((l==cq||l==hh)&&(px c x&&cm false c e p.1.2.2.1)))
 |d1 x e h,s=>bq (rI s) λp=>mC x p.1.1&&(px c x&&(nM p.1.2.1&&(cm false c e p.1.2.1&&(gW c h p.1.2.2.1&&(p0 p.1.2.2.2.1).isSome))))
 | .forE f e h,s=>bq (rI s) λp=>bq (jC p.1.1) λd=>bq (nV p.1.2.1) λq=>bq (p0 q.1.2.2.1) λ_=>Av "enumerate" c q.1.1&&(jD c f d.1.1&&(cT false c [e] q.1.2.1&&(gW c h p.1.2.2.1&&(p0 p.1.2.2.2.1).isSome)))
 | .forZ f z w h,s=>bq (rI s) λp=>bq (jC p.1.1) λd=>bq (nV p.1.2.1) λq=>bq (p0 q.1.2.2.1) λ_=>Av "zip" c q.1.1&&(jD c f d.1.1&&(cT false c [z,w] q.1.2.1&&(gW c h p.1.2.2.1&&(p0 p.1.2.2.2.1).isSome)))
 | .forT f j h,s=>bq (rI s) λp=>bq (jC p.1.1) λd=>bq (jC p.1.2.1) λq=>jD c f d.1.1&&(cT false c j q.1.1&&(gW c h p.1.2.2.1&&(p0 p.1.2.2.2.1).isSome))
 | .whl t h,s=>bq (Ke s) λp=>cm true c t p.1.1&&(gW c h p.1.2.1&&(p0 p.1.2.2.1).isSome)
 |_,_=>true
noncomputable def gW(a:cB):L MS->L bz->aK
 |[],l=>(p0 l).isSome
 |m::b,l=>bq (pC l) λp=>py a m p.1.1&&gW a b p.1.2
end
noncomputable abbrev KF:=b_->ao->Hp->Prop
noncomputable abbrev KV:=ab->Hp->Prop
noncomputable abbrev KL:=L ab->Hp->Prop
noncomputable abbrev KB:=aK->Hp->Prop
@[irreducible] noncomputable def EE(c:Cx)(D:ag)(m:ME)(ρ:ao)(H:Hp)(Q:KV):Prop:=∀A a b P e,bu A (D+1)->cc a b->cm false a.scope m e=true->EV c A a b P ρ H e Q
@[irreducible] noncomputable def TT(c:Cx)(D:ag)(m:ME)(ρ:ao)(H:Hp)(Q:KB):Prop:=∀A a b P e,bu A (D+1)->cc a b->cm true a.scope m e=true->TV c A a b P ρ H e Q
@[irreducible] noncomputable def EL(c:Cx)(D:ag)(d:L ME)(ρ:ao)(H:Hp)(Q:KL):Prop:=∀A a b P l,bu A (D+1)->cc a b->cT false a.scope d l=true->e2 c A a b P ρ H l Q
@[irreducible] noncomputable def CL(c:Cx)(D:ag)(a:ae)(vs:L ab)(H:Hp)(Q:KV):Prop:=fX c D (J a) vs H Q
@[irreducible] noncomputable def BC(b:BI)(vs:L ab)(H:Hp)(Q:KV):Prop:=∀c A a P D,bu A D->ev c A a P b.val vs H Q
@[irreducible] noncomputable def PV(c:Cx)(D:ag)(ρ:ao)(H:Hp)(e:ME)(v:ab):Prop:=∀Q:KV,Q v H->EE c D e ρ H Q
@[irreducible] noncomputable def fK(c:Cx)(D:ag)(ρ:ao)(H:Hp)(es:L ME)(vs:L ab):Prop:=∀Q:KL,Q vs H->EL c D es ρ H Q
@[irreducible] noncomputable def PT(c:Cx)(D:ag)(ρ:ao)(H:Hp)(e:ME)(b:aK):Prop:=∀Q:KB,Q b H->TT c D e ρ H Q
noncomputable def TL(c:Cx)(D:ag)(d:L ME)(ρ:ao)(H:Hp)(Q:KB):Prop:=∀A a b P l,bu A (D+1)->cc a b->cT true a.scope d l=true->pm c A a b P ρ H l Q
@[irreducible] noncomputable def GO(c:Cx)(D:ag)(x:am)(a:L ME)(d:ME)(ρ:ao)(b:L am)(v:ab)(H:Hp)(Q:ae->Hp->Prop):Prop:=rE x (TL c D a) (EE c D d) ρ b v H Q
section
variable{c:Cx}{D:ag}{Q:KV}{QL:KL}{QB:KB}{H:Hp}{ρ:ao}{a b e t:ME}{u v w:ab}{es ms:L ME}{vs:L ab}{x f:am}{op:gD}{i n:ag}{k:aK}{bi:BI}{A:bj}{env:a8}{V:ae}{P:Pr}{l:L an}{z:an}
theorem EE.mk(h:∀{A env a P z},bu A (D+1)->cc env a->cm false env.scope e z=true->EV c A env a P ρ H z Q):EE c D e ρ H Q:=by unfold EE;exact λ_ _ _ _ _=>h
theorem EE.at(h:EE c D e ρ H Q)(a:bu A (D+1))(b:cc env V)(m:cm false env.scope e z=true):EV c A env V P ρ H z Q:=by unfold EE at h;exact h _ _ _ _ _ a b m
theorem TT.mk(h:∀{A env a P z},bu A (D+1)->cc env a->cm true env.scope e z=true->TV c A env a P ρ H z QB):TT c D e ρ H QB:=by unfold TT;exact λ_ _ _ _ _=>h
theorem TT.at(h:TT c D e ρ H QB)(a:bu A (D+1))(b:cc env V)(m:cm true env.scope e z=true):TV c A env V P ρ H z QB:=by unfold TT at h;exact h _ _ _ _ _ a b m
theorem EL.mk(h:∀{A env a P l},bu A (D+1)->cc env a->cT false env.scope es l=true->e2 c A env a P ρ H l QL):EL c D es ρ H QL:=by unfold EL;exact λ_ _ _ _ _=>h
theorem EL.at(h:EL c D es ρ H QL)(a:bu A (D+1))(b:cc env V)(m:cT false env.scope es l=true):e2 c A env V P ρ H l QL:=by unfold EL at h;exact h _ _ _ _ _ a b m
theorem PV.of(h:∀Q:KV,Q v H->EE c D e ρ H Q):PV c D ρ H e v:=by unfold PV;exact h
theorem a4(p:PV c D ρ H e v)(q:Q v H):EE c D e ρ H Q:=by unfold PV at p;exact p Q q
theorem PT.of(h:∀Q:KB,Q k H->TT c D e ρ H Q):PT c D ρ H e k:=by unfold PT;exact h
theorem dM(p:PT c D ρ H e k)(q:QB k H):TT c D e ρ H QB:=by unfold PT at p;exact p QB q
theorem fK.of(h:∀Q:KL,Q vs H->EL c D es ρ H Q):fK c D ρ H es vs:=by unfold fK;exact h
theorem kb(p:fK c D ρ H es vs)(q:QL vs H):EL c D es ρ H QL:=by unfold fK at p;exact p QL q
@[elab_as_elim] theorem kc{M:an->Prop}(h:mC x z=true)(k:∀p,M (bA (I x) p)):M z:=OB h λy _ q=>y.2▸EQ (M:=λs=>M (bA s y.1.2)) q (k _)
@[elab_as_elim] theorem uX{M:an->Prop}{s:cB}(h:cm k s (av e f) z=true)(j:∀y p,iR y=true->cm false s e y=true->M (eu y (I f) p)):M z:=OB h λy _ q=>y.2▸A2 q λb a=>EQ (M:=λs=>M (eu y.1.1 s y.1.2.2)) b (A2 a (j _ _))
@[elab_as_elim] theorem mD{M:an->Prop}{g a:an}{as:L an}{ks:L Keyword}{p:aI}(h:z=eV g as ks p)(c:ks=[])(b:g=a)(j:M (eV a as [] p)):M z:=by subst b c h;exact j
theorem mE:∀{ms:L ME} {l:L an} {t:aK} {a:cB},cT t a ms l=true->l.all cW=true/\ms.length=l.length
 |[],l,t,a,h=>by obtain ⟨⟨e⟩,_⟩:=jj.mp h;subst e;exact⟨E,E⟩
 |m::ms,l,t,a,h=>OB h λy _ q=>y.2▸A2 q λd c=>A2 c λ_ b=>⟨by rw [oP,d,(mE b).1];rfl,aA h9 (mE b).2⟩
@[elab_as_elim] theorem fC{α:Type}{l:L α}{M:L α->Prop}(h:(p0 l).isSome=true)(k:M []):M l:=by obtain ⟨⟨e⟩,_⟩:=jj.mp h;exact e▸k
@[elab_as_elim] theorem gX{l:L an}{M:L an->Prop}{s:cB}(h:cT k s (e::es) l=true)(j:∀z r,cW z=true->cm k s e z=true->cT k s es r=true->M (z::r)):M l:=OB h λy _ q=>y.2▸A2 q λb a=>A2 a (j _ _ b)
@[elab_as_elim] theorem uY{a:cB}{id:a6}{M:a6->Prop}(h:uU a i v id=true)(k:∀y,a.names.lookup (I y)=G f9->my.contains (y,v)=true->M (I y)):M id:=OB h λp e q=>A2 q λb f=>A2 f λd c=>EQ b (k p.1 (by rw [<-cU b];exact cU d) (dE.mpr (by rw [<-cU c];exact L.mem_of_getElem? e)))
@[elab_as_elim] theorem rJ{m:ME}{t:aK}{a:cB}{o:aj an}{M:aj an->Prop}(h:cT t a [m] o.toList=true)(k:∀z,cm t a m z=true->M (G z)):M o:=by
 cases o with
 |none=>exact OB h λy _ _=>nomatch y.2
 |some z=>exact k z (gX (M:=λl=>l=[z]->cm t a m z=true) h (λ_ _ _ h _ e=>gb e|>.1▸h) E)
theorem Kf{a:cB}{b:L am}(h:uV a b=true)(ρ:ao):rs a ρ=ρ.filter λq=>b.contains q.1:=A2 h λg f=>by
 unfold rs
 congr 1
 funext p;apply oN.mpr;rw [c4,dE];refine⟨λe=>?_,λe=>cU (fe.mp f _ e)⟩;rcases (oS _ _).mp (fe.mp g _ (j4 e))with h|h
 ·exact bW h eX
 ·obtain ⟨z,c,d⟩:=tv.mp h
  exact li (cU d)▸c
noncomputable def kE(c:Cx)(D:ag)(es:L ME)(ρ:ao)(Q:KL):KV:=λv H=>EL c D es ρ H λvs a=>Q (v::vs) a
noncomputable def lB(v:ab)(Q:KL):KL:=λvs H=>Q (v::vs) H
noncomputable def mF(c:Cx)(D:ag)(a:ae)(Q:KV):KL:=λvs H=>CL c D a vs H Q
noncomputable def kB(b:BI)(Q:KV):KL:=λvs H=>BC b vs H Q
noncomputable def Aw(c:Cx)(D:ag)(op:gD)(b:ME)(ρ:ao)(Q:KV):KV:=λu H=>EE c D b ρ H λw a=>gV (cJ a op u w) λk=>Q (az k) a
noncomputable def Ax(c:Cx)(D:ag)(op:gD)(b:ME)(ρ:ao)(Q:KB):KV:=λu H=>EE c D b ρ H λw a=>gV (cJ a op u w) λk=>Q k a
noncomputable def Ay(op:gD)(u:ab)(Q:KV):KV:=λw H=>gV (cJ H op u w) λk=>Q (az k) H
noncomputable def uZ(op:gD)(u:ab)(Q:KB):KV:=λw H=>gV (cJ H op u w) λk=>Q k H
noncomputable def u0(c:Cx)(D:ag)(op:eW)(b:ME)(ρ:ao)(Q:KV):KV:=λu H=>EE c D b ρ H λw a=>lm op u w a Q
noncomputable def Az(op:eW)(u:ab)(Q:KV):KV:=λw H=>lm op u w H Q
noncomputable def AA(f:am)(Q:KV):KV:=λv H=>gV (ew H v f) λu=>Q u H
noncomputable def kI(c:Cx)(D:ag)(b:ME)(ρ:ao)(Q:KV):KV:=λu H=>EE c D b ρ H λw a=>gV (c6 a u w) λr=>Q r a
noncomputable def AB(u:ab)(Q:KV):KV:=λw H=>gV (c6 H u w) λr=>Q r H
noncomputable def rK(Q:KB):KV:=λu H=>Ah u λb=>Q b H
noncomputable def AC(Q:KB):KB:=λb H=>Q (!b) H
noncomputable def u3(c:Cx)(D:ag)(a b:ME)(ρ:ao)(Q:KV):KB:=λk H=>if k=true then EE c D a ρ H Q else EE c D b ρ H Q
noncomputable def pz(c:Cx)(D:ag)(es:L ME)(ρ:ao)(Q:KB):KB:=λk H=>if k=true then Q true H else TT c D (d0 es) ρ H Q
noncomputable def AD(c:Cx)(D:ag)(x:am)(a:L ME)(e:ME)(ρ:ao)(b:L am)(Q:KV):KV:=λv H=>GO c D x a e ρ b v H λd f=>Q (J d) f
noncomputable def Kg(Q:KV):KL:=λvs H=>vs.length<=bL/\∀d,H d=af->Q (J d) (H.set d (bm vs))
noncomputable def Kh(Q:KV):KL:=λvs H=>vs.length<=bL/\∀d,H d=af->Q (J d) (H.set d (ak vs))
theorem bU(k:QL [] H):EL c D [] ρ H QL:= .mk λ_ _ h=>fC h (ra k)
theorem bN(k:EE c D e ρ H (kE c D es ρ QL)):EL c D (e::es) ρ H QL:= .mk λa b h=>gX h λz r d g f=>pg d ((k.at a b g).mono λv i q=>EL.at q a b f)
theorem bs(p:PV c D ρ H e v)(k:EL c D es ρ H (lB v QL)):EL c D (e::es) ρ H QL:=bN (a4 p k)
theorem cK(k:EL c D es ρ H (lB v QL)):kE c D es ρ QL v H:=k
theorem fK.nil:fK c D ρ H [] []:= .of λQ q=>bU q
theorem fK.cons(p:PV c D ρ H e v)(r:fK c D ρ H es vs):fK c D ρ H (e::es) (v::vs):= .of λQ q=>bs p (kb r q)
theorem AE{k:Const}{n:ag}{p:aI}(h:uS k=G v)(q:Q v H):EV c A env V P ρ H (iE k n p) Q:=by
 cases k with
 |none=>cases h;exact yN q
 |bool=>cases h;exact GC q
 |int=>cases h;exact GD q
 |str=>cases h;exact GF q
 |bytes=>cases h;exact G3 q
 |_=>cases h
theorem PV.cst:PV c D ρ H (ai v) v:= .of λQ q=> .mk λ_ _ h=>OB h λy _ r=>y.2▸AE (cU r) q
theorem PV.glb:PV c D ρ H (hj i v) v:= .of λQ q=> .mk λ_ d h=>OB h λy _ r=>y.2▸uY (M:=λs=>EV _ _ _ _ _ _ _ (bA s _) _) r λ_ b a=>rj d b a q
theorem PV.var(h:ρ.lookup x=G v):PV c D ρ H (O x) v:= .of λQ q=> .mk λ_ a m=>kc m λ_=>lh a h q
theorem u4(k:EE c D e ρ H (AA f Q)):EE c D (av e f) ρ H Q:= .mk λd t h=>uX h λy p n o=>GQ n ((k.at d t o).mono λv w q=>gV.el q λu r q=>let ⟨a,C,s,b,m,l,j,i,g⟩:=J4 r;⟨a,C,s,b,m,l,j,i,g▸q⟩)
theorem PV.att(p:PV c D ρ H e u)(h:ew H u f=G v):PV c D ρ H (av e f) v:= .of λQ q=>u4 (a4 p (i0 h q))
theorem pD(k:EE c D a ρ H (kI c D b ρ Q)):EE c D (aL a b) ρ H Q:= .mk λd e h=>OB h λy _ h=>y.2▸A2 h λg f=>GU ((k.at d e g).mono λv j q=>(EE.at q d e f).mono λw i q=>rC q)
theorem PV.idx(p:PV c D ρ H a u)(r:PV c D ρ H b w)(h:c6 H u w=G v):PV c D ρ H (aL a b) v:= .of λQ q=>pD (a4 p (a4 r (i0 h q)))
theorem gY(k:EE c D a ρ H (Aw c D op b ρ Q)):EE c D (ax op a b) ρ H Q:= .mk λd e h=>OB h λy _ h=>y.2▸A2 h λj h=>(cU j).symm▸OB h λr _ h=>r.2▸A2 h λi h=>A2 h λg f=>Hs d (cU (aK.not_eq_eq_eq_not.mp i▸E)) ((k.at d e g).mono λv m q=>(EE.at q d e f).mono λw l q=>rC q)
theorem ec(k:EE c D a ρ H (Ax c D op b ρ QB)):TT c D (ax op a b) ρ H QB:= .mk λd e h=>OB h λy _ h=>y.2▸A2 h λj h=>(cU j).symm▸OB h λr _ h=>r.2▸A2 h λi h=>A2 h λg f=>Ht d (ma _▸i) ((k.at d e g).mono λv m q=>(EE.at q d e f).mono λw l q=>rC q)
theorem PV.cmp(p:PV c D ρ H a u)(r:PV c D ρ H b w)(h:cJ H op u w=G k):PV c D ρ H (ax op a b) (az k):= .of λQ q=>gY (a4 p (a4 r (i0 h q)))
theorem PT.cmp(p:PV c D ρ H a u)(r:PV c D ρ H b w)(h:cJ H op u w=G k):PT c D ρ H (ax op a b) k:= .of λQ q=>ec (a4 p (a4 r (i0 h q)))
theorem AF{op:eW}(h:hp op u w=G v)(q:Q v H):lm op u w H Q:=by unfold lm;rw [h];exact q
theorem fD{op:eW}(k:EE c D a ρ H (u0 c D op b ρ Q)):EE c D (bT op a b) ρ H Q:= .mk λd e h=>OB h λy _ h=>y.2▸A2 h λi h=>A2 h λg f=>EQ (M:=λo=>EV _ _ _ _ _ _ _ (.BinOp _ o _ _) _) i (G2 ((k.at d e g).mono λv j q=>EE.at q d e f))
theorem PV.bin{op:eW}(p:PV c D ρ H a u)(r:PV c D ρ H b w)(h:hp op u w=G v):PV c D ρ H (bT op a b) v:= .of λQ q=>fD (a4 p (a4 r (AF h q)))
theorem PV.not(p:PV c D ρ H e (az k)):PV c D ρ H (fw e) (az (!k)):= .of λQ q=> .mk λa f h=>OB h λy _ h=>y.2▸A2 h λd h=>EQ (M:=λo=>EV _ _ _ _ _ _ _ (na o _ _) _) d (Hv ((a4 (Q:=λv g=>∃b,v=az b/\Q (az (!b)) g) p ⟨k,E,q⟩).at a f h))
theorem PV.neg{i:U}(p:PV c D ρ H e (aa i 0)):PV c D ρ H (eP e) (aa (-i) 0):= .of λQ q=> .mk λa d h=>OB h λy _ h=>y.2▸A2 h λb h=>EQ (M:=λo=>EV _ _ _ _ _ _ _ (na o _ _) _) b (G4 ((a4 (Q:=λv f=>∃j,v=aa j 0/\Q (aa (-j) 0) f) p ⟨i,E,q⟩).at a d h))
theorem pE(k:TT c D t ρ H (u3 c D a b ρ Q)):EE c D (cg t a b) ρ H Q:= .mk λd e h=>OB h λy _ h=>y.2▸A2 h λi h=>A2 h λg f=>zb ((k.at d e i).mono λk j q=>by
 cases k with
 |true=>exact EE.at q d e g
 |false=>exact EE.at q d e f)
theorem rL(q:EE c D a ρ H Q):u3 c D a b ρ Q true H:=q
theorem u5(q:EE c D b ρ H Q):u3 c D a b ρ Q false H:=q
theorem h2(p:PT c D ρ H t true)(k:EE c D a ρ H Q):EE c D (cg t a b) ρ H Q:=pE (dM p (rL k))
theorem hu(p:PT c D ρ H t false)(k:EE c D b ρ H Q):EE c D (cg t a b) ρ H Q:=pE (dM p (u5 k))
theorem PV.ite_t(p:PT c D ρ H t true)(q:PV c D ρ H a v):PV c D ρ H (cg t a b) v:= .of λQ k=>h2 p (a4 q k)
theorem PV.ite_f(p:PT c D ρ H t false)(q:PV c D ρ H b v):PV c D ρ H (cg t a b) v:= .of λQ k=>hu p (a4 q k)
theorem PT.var(h:ρ.lookup x=G (az k)):PT c D ρ H (O x) k:= .of λQ q=> .mk λ_ a m=>kc m λ_=>q_ (λ_=>E) (lh a h ⟨k,E,q⟩)
theorem PT.att(p:PV c D ρ H e u)(h:ew H u f=G (az k)):PT c D ρ H (av e f) k:= .of λQ q=> .mk λa j m=>uX m λy d g i=>q_ (λ_=>E) ((u4 (Q:=λv l=>∃b,v=az b/\Q b l) (a4 p (i0 h ⟨k,E,q⟩))).at a j (z:=eu y (I f) d) (by show(_&&_)=true;rw [show(I f==I f)=true from eE _,g];exact i))
theorem h3(k:TT c D e ρ H (AC QB)):TT c D (fw e) ρ H QB:= .mk λa d h=>OB h λy _ h=>y.2▸A2 h λb h=>EQ (M:=λo=>TV _ _ _ _ _ _ _ (na o _ _) _) b (Hu (k.at a d h))
theorem PT.not(p:PT c D ρ H e k):PT c D ρ H (fw e) (!k):= .of λQ q=>h3 (dM p q)
theorem PT.eq{a:aK}(p:PT c D ρ H e k)(h:k=a):PT c D ρ H e a:=h▸p
theorem rM(h:∀{A env a P l},bu A (D+1)->cc env a->cT true env.scope es l=true->hW c A env a P ρ hi H l QB):TT c D (ei es) ρ H QB:= .mk λb e m=>OB m λy _ m=>y.2▸A2 m λd m=>EQ (M:=λo=>TV _ _ _ _ _ _ _ (jo o _ _) _) d (A2 m λ_ m=>zc (h b e m))
theorem AG(h:∀{A env a P l},bu A (D+1)->cc env a->cT true env.scope es l=true->hW c A env a P ρ .Or H l QB):TT c D (d0 es) ρ H QB:= .mk λb e m=>OB m λy _ m=>y.2▸A2 m λd m=>EQ (M:=λo=>TV _ _ _ _ _ _ _ (jo o _ _) _) d (zc (h b e m))
theorem AH(h:TT c D (ei es) ρ H QB)(a:bu A (D+1))(b:cc env V)(m:cT true env.scope es l=true):hW c A env V P ρ hi H l QB:=h.at a b (z:=jo hi l d9) m
theorem Ki(h:TT c D (d0 es) ρ H QB)(a:bu A (D+1))(b:cc env V)(m:cT true env.scope es l=true):hW c A env V P ρ .Or H l QB:=h.at a b (z:=jo .Or l d9) m
theorem hw(h:TT c D e ρ H (pz c D es ρ QB)):TT c D (d0 (e::es)) ρ H QB:=AG λa b m=>gX m λz r _ f d=>Hy ((h.at a b f).mono λk g q=>by
 cases k with
 |true=>exact q
 |false=>exact Ki q a b d)
theorem AI(q:QB true H):pz c D es ρ QB true H:=q
theorem ir(q:TT c D (d0 es) ρ H QB):pz c D es ρ QB false H:=q
theorem rN(p:PT c D ρ H e false)(k:TT c D (d0 es) ρ H QB):TT c D (d0 (e::es)) ρ H QB:=hw (dM p k)
theorem PT.or_t(p:PT c D ρ H e true):PT c D ρ H (d0 (e::es)) true:= .of λQ q=>hw (dM p q)
theorem PT.or_f(p:PT c D ρ H e false)(r:PT c D ρ H (d0 es) k):PT c D ρ H (d0 (e::es)) k:= .of λQ q=>rN p (dM r q)
theorem PT.or_n:PT c D ρ H (d0 []) false:= .of λQ q=>AG λ_ _ m=>fC m (Hx q)
theorem PT.and_n:PT c D ρ H (ei []) true:= .of λQ q=>rM λ_ _ m=>fC m (Hw q)
theorem PT.and_f(p:PT c D ρ H e false):PT c D ρ H (ei (e::es)) false:= .of λQ q=>rM λb f m=>gX m λz r _ d g=>ub ((dM (QB:=λk a=>if k then hW c _ _ _ _ ρ hi a r Q else Q false a) p q).at b f d)
theorem PT.and_t(p:PT c D ρ H e true)(r:PT c D ρ H (ei es) k):PT c D ρ H (ei (e::es)) k:= .of λQ q=>rM λa b m=>gX m λz l _ g f=>ub ((dM (QB:=λk d=>if k then hW c _ _ _ _ ρ hi d l Q else Q false d) p (AH (dM r q) a b f)).at a b g)
theorem PT.and_t1(p:PT c D ρ H e k):PT c D ρ H (ei [e]) k:=by
 cases k with
 |true=>exact .and_t p .and_n
 |false=>exact .and_f p
theorem PV.and_f(p:PV c D ρ H e (az false)):PV c D ρ H (ei (e::es)) (az false):= .of λQ q=> .mk λ{A env V P z} f g m=>OB m λy _ m=>y.2▸A2 m λj m=>EQ (M:=λo=>EV _ _ _ _ _ _ _ (jo o _ _) _) j (A2 m λa m=>by
 have k:∀z r,((z::r).length==2||(z::r).length==3)=true->cm false env.scope e z=true->EV c A env V P ρ H (jo hi (z::r) y.1.2.2) Q:=λz r a d=>by
  match r,a with
  |[s],_=>exact zd ((a4 (Q:=λv b=>∃k,v=az k/\if k then EV c A env V P ρ b s Q else Q (az false) b) p ⟨false,E,q⟩).at f g d)
  |[s,i],_=>exact Hz ((a4 (Q:=λv b=>∃k,v=az k/\if k then EV c A env V P ρ b s (λv h=>∃k,v=az k/\if k then EV c A env V P ρ h i Q else Q (az false) h)else Q (az false) b) p ⟨false,E,q⟩).at f g d)
  |[],a=>exact bW a eX
  |_::_::_::_,a=>exact bW a (by simp)
 revert a;exact gX m (λz r _ d _ a=>k z r a d))
theorem PV.and2(p:PV c D ρ H a (az true))(r:PV c D ρ H b (az true)):PV c D ρ H (ei [a,b]) (az true):= .of λQ q=> .mk λ{A env V P z} d e m=>OB m λy _ m=>y.2▸A2 m λj m=>EQ (M:=λo=>EV _ _ _ _ _ _ _ (jo o _ _) _) j (A2 m λ_ m=>gX m λn l _ i m=>gX m λg l _ h m=>fC m (zd ((a4 (Q:=λv f=>∃k,v=az k/\if k then EV c A env V P ρ f g Q else Q (az false) f) p ⟨true,E,a4 r q|>.at d e h⟩).at d e i)))
noncomputable def u6(c:Cx)(D:ag)(es:L ME)(ρ:ao)(QB:KB):KB:=λk H=>if k=true then TT c D (ei es) ρ H QB else QB false H
theorem u7(h:TT c D e ρ H (u6 c D es ρ QB)):TT c D (ei (e::es)) ρ H QB:=rM λa b m=>gX m λz r _ f d=>ub ((h.at a b f).mono λk g q=>by
 cases k with
 |true=>exact AH q a b d
 |false=>exact q)
theorem PT.cmp2{j f:gD}{d:ME}(p:PV c D ρ H a u)(q:PV c D ρ H b v)(r:PV c D ρ H d w)(h:cJ H j u v=G true)(g:cJ H f v w=G k):PT c D ρ H (.cmp2 j f a b d) k:= .of λQ z=> .mk λe i m=>OB m λy _ m=>y.2▸A2 m λA m=>(cU A).symm▸OB m λx _ m=>x.2▸A2 m λt m=>A2 m λs m=>A2 m λo n=>JV e (ma _▸t) (EE.at (a4 p (EE.at (a4 q ⟨true,h,(a4 (Q:=λx l=>∃k,cJ l f v x=G k/\Q k l) r ⟨k,g,z⟩).at e i n⟩) e i o)) e i s)
noncomputable def EP(c:Cx)(D:ag)(ks:L am)(vs:L ME)(ρ:ao)(H:Hp)(Q:KL):Prop:=∀A env V P f d b,bu A (D+1)->cc env V->rG ks d=true->cT false env.scope vs b=true->jB c A env V P ρ f H d b λe g=>∃a:L ab,a.length=ks.length/\e=(ks.zip a).map (λp=>(aE (I p.1) 0,p.2))/\Q a g
theorem AJ{pos:aI}{ks:L (aj an)}{vs:L an}{Q a:L (ab×ab)->Hp->Prop}(h:jB c A env V P ρ pos H ks vs Q)(k:∀v b,Q v b->a v b):jB c A env V P ρ pos H ks vs a:=λs m x r=>cf (h s m x r) (λ_ _=>c3 λ_=>jk (k _ _)) λ_ _ x=>x
theorem Kj(k:QL [] H):EP c D [] [] ρ H QL:=λ_ _ _ _ _ _ _ _ _ b a=>fC b (fC (M:=λl=>jB _ _ _ _ _ _ _ _ [] l _) a (Ac ⟨[],E,E,k⟩))
theorem nW{ks:L am}(k:EE c D e ρ H λv N=>EP c D ks es ρ N λus f=>QL (v::us) f):EP c D (x::ks) (e::es) ρ H QL:=λ_ _ _ _ _ _ _ b d a j=>OB a λy _ a=>y.2▸OB a λz _ a=>z.2▸A2 a λa i=>OB a λw _ a=>w.2▸gX (M:=λl=>jB _ _ _ _ _ _ _ _ _ l _) j λ_ _ _ h g=>uL (AE (cU a) ((k.at b d h).mono λv N q=>AJ (q _ _ _ _ _ _ _ b d i g) λm f x=>x.elim λus q=>⟨v::us,aA h9 q.1,aA (_::·) q.2.1,q.2.2⟩))
theorem Kk{ks:L am}(k:∀d,H d=af->EP c D ks es ρ (H.set d (eF [])) λus N=>N d=G (eF [])/\Q (J d) (N.set d (eF (ks.zip us)))):EE c D (.dctS ks es) ρ H Q:= .mk λn s m=>OB m λy _ m=>y.2▸A2 m λp m=>A2 p λg f=>A2 f λf b=>A2 b λb a=>A2 a λa o=>by
 have j:∀{ks:L am} {l:L (aj an)},rG ks l=true->l.all (·.isSome)=true/\ks.length=l.length:=λ{ks}=>by
  induction ks with
  |nil=>exact λh=>fC h ⟨E,E⟩
  |cons x ks i=>exact λh=>OB h λy _ h=>OB h λz _ h=>A2 h λ_ h=>y.2▸z.2▸⟨(i h).1,aA h9 (i h).2⟩
 refine JX (j g).1 (cU f) (λe=>by rw [e]at b;cases b) (gO a) λd r=>AJ (k d r _ _ _ _ _ _ _ n s g m) λt N x=>x.elim λus q=>⟨q.2.2.1,ks.zip us,q.2.1,?_,?_,q.2.2.2⟩
 ·rw [Ew (cR q.1.symm)];exact gO o
 ·rw [L.length_zip,q.1,ag.min_self,(j g).2];exact ar (gO a) (by decide)
theorem Kl{i j:U}{a b x y:ME}{u v:ab}(F:∀H,PV c D ρ H a (aa i 0))(B:∀H,PV c D ρ H b u)(C:∀H,PV c D ρ H x (aa j 0))(t:∀H,PV c D ρ H y v)(k:∀d,H d=af->Q (J d) (H.set d (aO ([(i,u),(j,v)].foldl (λacc p=>em acc p.1 p.2) [])))):EE c D (.dctI [a,b,x,y]) ρ H Q:= .mk λ{A env V P z} s W m=>OB m λw _ m=>w.2▸OB m λS _ m=>S.2▸OB m λvs _ m=>vs.2▸OB m λh _ m=>h.2▸OB m λf _ m=>f.2▸by refine gX (M:=λl=>l=[h.1,vs.1.1,f.1,vs.1.2]->_) m (λz1 l1 _ R m r=>gX (M:=λl=>l=[vs.1.1,f.1,vs.1.2]->_) m (λz2 l2 _ N m o=>gX (M:=λl=>l=[f.1,vs.1.2]->_) m (λZ l3 _ K m n=>gX (M:=λl=>l=[vs.1.2]->_) m (λY l4 _ I m X=>?_) (gb n).2) (gb o).2) (gb r).2) E;rw [<-(gb r).1,<-(gb o).1,<-(gb n).1,<-(gb X).1];refine JZ E E (λe=>nomatch e) (aS E) λd T=>?_;have g:∀{e:ME} {v:ab} {z:an} {H:Hp} {Q:KV},(∀H,PV c D ρ H e v)->cm false env.scope e z=true->Q v H->EV c A env V P ρ H z Q:=λp m q=>(a4 (p _) q).at s W m;exact uL (g F R (g B N (uL (g C K (g t I (Ac ⟨aF _ _ _,[(i,u),(j,v)],E,aS E,by rw [lA];exact k d T⟩))))))
theorem mG(k:EL c D es ρ H (Kg Q)):EE c D (dz es) ρ H Q:= .mk λa b h=>OB h λy _ h=>y.2▸uc (k.at a b h)
theorem AK(k:EL c D es ρ H (Kh Q)):EE c D (c8 es) ρ H Q:= .mk λa b h=>OB h λy _ h=>y.2▸HA (k.at a b h)
theorem fL(p:fK c D ρ H es vs)(a:vs.length<=bL)(k:∀d,H d=af->Q (J d) (H.set d (bm vs))):EE c D (dz es) ρ H Q:=mG (kb p ⟨a,k⟩)
theorem ed(p:fK c D ρ H es vs)(a:vs.length<=bL)(k:∀d,H d=af->Q (J d) (H.set d (ak vs))):EE c D (c8 es) ρ H Q:=AK (kb p ⟨a,k⟩)
theorem nX(k:∀d,H d=af->Q (J d) (H.set d (aO []))):EE c D .dct0 ρ H Q:= .mk λa b h=>OB h λy _ h=>y.2▸OB h λw _ h=>fC (M:=λl=>EV _ _ _ _ _ _ _ (kQ _ l _) _) h (w.1▸HB k)
theorem eL(k:EL c D es ρ H (mF c D n Q)):EE c D (aB i n es) ρ H Q:= .mk λa d h=>OB h λy _ h=>OB h λw _ h=>OB h λq _ h=>A2 h λj h=>A2 h λg b=>mD y.2 w.1 q.2<|uY (M:=λs=>EV _ _ _ _ _ _ _ (eV (bA s _) _ _ _) _) j λy f e=>zy d (a.le (dY D)) f e (mE b).1 g ((k.at a d b).mono λvs l q=>by unfold mF CL at q;exact q)
theorem a7(p:fK c D ρ H es vs)(k:CL c D n vs H Q):EE c D (aB i n es) ρ H Q:=eL (kb p k)
theorem u8(k:EL c D es ρ H (mF c D n (rK QB))):TT c D (aB i n es) ρ H QB:= .mk λa d h=>OB h λy _ h=>OB h λw _ h=>OB h λq _ h=>A2 h λj h=>A2 h λg b=>mD y.2 w.1 q.2<|uY (M:=λs=>TV _ _ _ _ _ _ _ (eV (bA s _) _ _ _) _) j λy f e=>q_ (λ_=>E) ((zy d (a.le (dY D)) f e (mE b).1 g ((k.at a d b).mono λvs l q=>by unfold mF CL at q;exact q)).mono λv l q=>Ai q)
theorem nY(p:fK c D ρ H es vs)(k:CL c D n vs H (rK QB)):TT c D (aB i n es) ρ H QB:=u8 (kb p k)
@[elab_as_elim] theorem AM{M:an->Prop}(h:cm k env.scope (cC e f es) z=true)
  (j:∀y a as p,iR y=true->as.length<30->(a.endLine==p.line)=true->cm false env.scope e y=true->cT false env.scope es as=true->M (eV (eu y (I f) a) as [] p)):M z:=
 OB h λy _ h=>OB h λw _ h=>OB h λq _ h=>A2 h λm h=>A2 h λl i=>mD y.2 w.1 q.2<|A2 m λg h=>A2 h λd h=>A2 h λc b=>EQ (M:=λs=>M (eV (eu _ s _) _ _ _)) g (j _ _ _ _ d (gO c) b l i)
theorem pF{g:ae}(o:PV c D ρ H a u)(i:nS H u f=G g)(k:EL c D es ρ H (lB u (mF c D g Q))):EE c D (cC a f es) ρ H Q:= .mk λb e h=>AM h λy t s p n m l j d=>HF (b.le (dY D)) n (mE d).1 m l (EE.at (a4 o ((J6 i).elim λa x=>x.elim λC x=>x.elim λr x=>⟨a,C,r,g,x.1,x.2.1,x.2.2.1,x.2.2.2,((x.1▸k:EL c D es ρ H (lB (J a) (mF c D g Q))).at b e d).mono λvs v q=>by unfold lB mF CL at q;exact q⟩)) b e j)
theorem eR{g:ae}(o:PV c D ρ H a u)(b:nS H u f=G g)(p:fK c D ρ H es vs)(k:CL c D g (u::vs) H Q):EE c D (cC a f es) ρ H Q:=pF o b (kb p k)
theorem ke{g:ae}(o:PV c D ρ H a u)(j:nS H u f=G g)(p:fK c D ρ H es vs)(k:CL c D g (u::vs) H (rK QB)):TT c D (cC a f es) ρ H QB:= .mk λi t h=>AM h λy e d b s r n m l=>q_ (λ_=>E) (((eR o j p k).at i t (z:=eV (eu y (I f) e) d [] b) (by show(pw f d b (y,I f,e)&&(_&&_))=true;rw [show pw f d b (y,I f,e)=true from by unfold pw;rw [s,n,cN r,eE];rfl,m];exact l)).mono λv w q=>Ai q)
theorem Km{r:am×ab}(h:bi.blt=G r):bi.val=r.2:=by unfold BI.val;rw [h];rfl
theorem Kn{r:am×am×am}(h:bi.meth=G r):bi.val=bS r.2.2:=by
 have:bi.blt=af:=by cases bi<;>first|rfl|cases h
 unfold BI.val;rw [this,h];rfl
theorem kf(k:EL c D es ρ H (kB bi Q)):EE c D (b4 bi es) ρ H Q:= .mk λ{_ env _ _ _} a g h=>OB h λy _ h=>OB h λw _ h=>OB h λq _ h=>OB h λr e h=>A2 h λf h=>A2 h λl d=>A2 l λj h=>A2 h λb i=>mD y.2 w.1 q.2<|EQ (M:=λs=>EV _ _ _ _ _ _ _ (eV (bA s _) _ _ _) _) f
 (Iy g j (by rw [cU f]at b;exact cU b) i (mE d).1 ((k.at a g d).mono λvs m q=>by unfold kB BC at q;rw [<-Km e];exact q _ _ _ _ _ a))
theorem ex(p:fK c D ρ H es vs)(k:BC bi vs H Q):EE c D (b4 bi es) ρ H Q:=kf (kb p k)
theorem AN(k:EE c D a ρ H λu N=>lu N u=bi.meth.map (·.1)/\EL c D es ρ N (lB u (kB bi Q))):EE c D (dR a bi es) ρ H Q:= .mk λ{_ env _ _ _} b f h=>OB h λy _ h=>OB h λw _ h=>OB h λq _ h=>OB h λm e h=>A2 h λr h=>A2 h λo d=>A2 r λg p=>mD y.2 w.1 q.2<|A2 p λn h=>A2 h λl h=>A2 h λj i=>EQ (M:=λs=>EV _ _ _ _ _ _ _ (eV (eu _ s _) _ _ _) _) n
 (II l (mE d).1 (gO j) i ((k.at b f o).mono λv N y=>⟨m.1,m.2.2,by rw [y.1,e];rfl,g,(y.2.at b f d).mono λvs N q=>by unfold lB kB BC at q;rw [<-Kn e];exact q _ _ _ _ _ b⟩))
theorem rO(o:PV c D ρ H a u)(b:lu H u=bi.meth.map (·.1))(k:EL c D es ρ H (lB u (kB bi Q))):EE c D (dR a bi es) ρ H Q:=AN (a4 o ⟨b,k⟩)
theorem ge(o:PV c D ρ H a u)(b:lu H u=bi.meth.map (·.1))(p:fK c D ρ H es vs)(k:BC bi (u::vs) H Q):EE c D (dR a bi es) ρ H Q:=rO o b (kb p k)
theorem u9{g:ae}(p:PV c D ρ H e v)(h:rD H v f=G g)(k:CL c D g [v] H λu n=>dJ u=true/\Q u n):EE c D (.prp e f) ρ H Q:= .mk λb l m=>uX (show cm false _ (av e f) _=true from m) λy o d i=>JT b d (EE.at (a4 p ((J5 h).elim λa x=>x.elim λC x=>x.elim λj x=>⟨a,C,j,g,x.1,x.2.1,x.2.2,by unfold CL at k;exact x.1▸k⟩)) b l i)
theorem AO{a:ae}{b c:aj U}(h:bD H a=G vs)(q:∀d,H d=af->Q (J d) (H.set d (ak (e8 vs b c)))):nJ (J a) b c af H Q:=bF ⟨a,vs,E,h,bt ⟨E,q⟩⟩
theorem AP{b:a9 aP}{t:bv}{a c:aj U}(d:b.size<=bL)(q:Q (aq (e8 b.toList a c).toArray 0) H):nJ (aq b t) a c af H Q:=bt ⟨b,E,E,d,q⟩
theorem nZ{o:aj an}{K:aj U->Hp->Prop}(m:cT false env.scope [] o.toList=true)(q:K af H):nI c A env V P ρ H o K:=by
 cases o with
 |none=>exact q
 |some z=>exact fC (M:=λl=>l=[z]->_) m (λe=>nomatch e) E
theorem u_{o:aj an}{K:aj U->Hp->Prop}{i:U}(a:bu A (D+1))(b:cc env V)(m:cT false env.scope [e] o.toList=true)(p:PV c D ρ H e (aa i 0))(q:K (G i) H):nI c A env V P ρ H o K:=rJ m λz h=>(a4 (Q:=λv d=>∃i,v=aa i 0/\K (G i) d) p ⟨i,E,q⟩).at a b h
theorem va{b:ME}{k:U}(p:PV c D ρ H e v)(h:PV c D ρ H b (aa k 0))(q:nJ v af (G k) af H Q):EE c D (ea e [] [b] []) ρ H Q:= .mk λa d m=>OB m λy _ m=>y.2▸A2 m λj m=>OB m λw _ m=>A2 m λi m=>A2 m λg f=>w.2▸ud (EE.at (a4 p (nZ i (u_ a d g h (nZ f q)))) a d j)
theorem Ko{b:ME}{k:U}(p:PV c D ρ H e v)(h:PV c D ρ H b (aa k 0))(q:nJ v (G k) af af H Q):EE c D (ea e [b] [] []) ρ H Q:= .mk λa d m=>OB m λy _ m=>y.2▸A2 m λj m=>OB m λw _ m=>A2 m λi m=>A2 m λg f=>w.2▸ud (EE.at (a4 p (u_ a d i h (nZ g (nZ f q)))) a d j)
theorem Kp{l:ae}(p:PV c D ρ H e (J l))(h:bD H l=G vs)(q:∀d,H d=af->Q (J d) (H.set d (ak vs.reverse))):EE c D (ea e [] [] [(eP (ai (aa 1 0)))]) ρ H Q:= .mk λa b m=>OB m λy _ m=>y.2▸A2 m λj m=>OB m λw _ m=>A2 m λi m=>A2 m λg f=>w.2▸ud (EE.at (a4 p (nZ i (nZ g (u_ a b f (.neg .cst) (bF ⟨l,vs,E,h,bF ⟨E,E,E,q⟩⟩))))) a b j)
theorem Kq{a:L an}{Q d:aK->Hp->Prop}(h:pm c A env V P ρ H a Q)(k:∀b e,Q b e->d b e):pm c A env V P ρ H a d:=by
 cases a with
 |nil=>exact k _ _ h
 |cons z r=>cases r with
  |nil=>exact TV.mono h k
  |cons=>exact h.elim
theorem vb{b:cB}{l:ME}{i:L ME}{g:Hp->Prop}{d:ae}{q:Hp->Prop}{zs:L an}(a:bu A (D+1))(f:cm false b l z=true)(e:cT true b i zs=true):∀{vs:L ab} {H:Hp},nT x (TL c D i) (EE c D l) g ρ d q vs H->lw c A b x zs z g ρ d q vs H
 |[],H,h=>h
 |v::r,H,h=>λenv V P j es=>by
  subst es;refine Kq (h _ _ _ _ _ a j e) λk o q=>?_;cases k with
  |false=>exact⟨q.1,vb a f e q.2⟩
  |true=>rw [aJ E]at q⊢;exact(EE.at q a j f).mono λu n=>c3 λm y=>⟨y.1,y.2.1,y.2.2.1,vb a f e y.2.2.2⟩
theorem AQ{b:cB}{k:ME}{g:L ME}{j:L am}{v:ab}{q:ae->Hp->Prop}{a:cB}{zs:L an}(l:bu A (D+1))(m:uV a j=true)(o:cm false (iY a b) k z=true)(n:cT true (iY a b) g zs=true)(h:GO c D x g k ρ j v H q):∃vs f,fB H v=G (vs,f)/\ru c A b a x zs z ρ q (dA f vs) vs H:=by unfold GO rE at h;exact h.el λp e h=>⟨p.1,p.2,e,λd i=>⟨(h d i).1,Kf m ρ▸vb l o n (h d i).2⟩⟩
theorem pG{h b:ME}{d:L ME}{e:L am}(k:EE c D b ρ H (AD c D x d h ρ e Q)):EE c D (iM h x b d e) ρ H Q:= .mk λa f m=>OB m λy _ m=>y.2▸OB m λg _ m=>g.2▸OB m λw _ m=>w.2▸A2 m λs m=>A2 m λr m=>A2 m λp o=>A2 s λn m=>A2 m λl m=>A2 m λj i=>kc (M:=λt=>EV _ _ _ _ _ _ _ (j0 _ [⟨t,_,_,0⟩] _ _) _) n λ_=>Jk a f l j ((k.at a f r).mono λv u q=>AQ a i p o q)
theorem mH{f a:ME}{b:L ME}{e:L am}(p:PV c D ρ H a v)(k:GO c D x b f ρ e v H λd g=>Q (J d) g):EE c D (iM f x a b e) ρ H Q:=pG (a4 p k)
theorem fY{op:eW}(k:EE c D b ρ H (Az op u Q)):u0 c D op b ρ Q u H:=k
theorem gZ{op:eW}(h:hp op u w=G v)(q:Q v H):Az op u Q w H:=AF h q
theorem g0(k:EE c D b ρ H (Ay op u Q)):Aw c D op b ρ Q u H:=k
theorem g1(h:cJ H op u w=G k)(q:Q (az k) H):Ay op u Q w H:=i0 h q
theorem en(k:EE c D b ρ H (uZ op u QB)):Ax c D op b ρ QB u H:=k
theorem ep(h:cJ H op u w=G k)(q:QB k H):uZ op u QB w H:=i0 h q
theorem Kr(h:ew H u f=G v)(q:Q v H):AA f Q u H:=i0 h q
theorem rP(k:EE c D b ρ H (AB u Q)):kI c D b ρ Q u H:=k
theorem rQ(h:c6 H u w=G v)(q:Q v H):AB u Q w H:=i0 h q
theorem gu(q:QB k H):rK QB (az k) H:=q
theorem is(q:QB (!k) H):AC QB k H:=q
end
@[irreducible] noncomputable def SS(c:Cx)(D:ag)(l:L MS)(ρ:ao)(H:Hp)(K:KF):Prop:=∀A a d e b,bu A (D+1)->cc a d->gW a.scope l b=true->XS c A a d e No ρ H b K
@[irreducible] noncomputable def AL(c:Cx)(D:ag)(ts:L MT)(vs:L ab)(ρ:ao)(H:Hp)(M:ao->Hp->Prop):Prop:=∀A a b d l,bu A (D+1)->cc a b->jD a.scope ts l=true->iU c A a b d ρ H l vs M
noncomputable def A1(c:Cx)(D:ag)(t:MT)(v:ab)(ρ:ao)(H:Hp)(M:ao->Hp->Prop):Prop:=∀A a b d z,bu A (D+1)->cc a b->uW a.scope t z=true->AS c A a b d ρ H z v M
noncomputable def S1(c:Cx)(D:ag)(m:MS)(ρ:ao)(H:Hp)(K:KF):Prop:=∀A a d e b,bu A (D+1)->cc a d->py a.scope m b=true->X1 c A a d e No ρ H b K
@[irreducible] noncomputable def SA(o:ab)(f:am)(v:ab)(H:Hp)(Q:Hp->Prop):Prop:=uO o f v H Q
@[irreducible] noncomputable def SI(o i v:ab)(H:Hp)(Q:Hp->Prop):Prop:=zo o i v H Q
@[irreducible] noncomputable def NX(c:Cx)(D:ag)(r:L MS)(Q:KF):KF:=λa b H=>match a with| .next=>SS c D r b H Q|a=>Q a b H
@[irreducible] noncomputable def g2(c:Cx)(D:ag)(x:am)(b:L MS)(a:Hp->Prop)(K:KF)(ws:L ab)(ρ:ao)(H:Hp):Prop:=pq x (SS c D b) a K ws ρ H
@[irreducible] noncomputable def fZ(c:Cx)(D:ag)(ts:L MT)(b:L MS)(a:Hp->Prop)(K:KF)(ws:L (L ab))(ρ:ao)(H:Hp):Prop:=lz ts.length (AL c D ts) (SS c D b) a K ws ρ H
@[irreducible] noncomputable def WH(c:Cx)(D:ag)(t:ME)(a:L MS)(K:KF)(ρ:ao)(H:Hp):Prop:=∃n,pr (TT c D t) (SS c D a) K n ρ H
section
variable{c:Cx}{D:ag}{T:KF}{Q:KV}{QL:KL}{QB:KB}{H:Hp}{ρ:ao}{a b e t:ME}{u v w:ab}{es:L ME}{vs:L ab}{x f:am}{k:aK}{r s1 s2 bd:L MS}{m:MS}{tg:MT}{ts:L MT}{M:ao->Hp->Prop}{A:bj}{env:a8}{V:ae}{P Pb:Pr}{l:L an}{z:an}{st:bz}{ss:L bz}{oY:Hp->Prop}
theorem SS.at(h:SS c D r ρ H T)(a:bu A (D+1))(b:cc env V)(m:gW env.scope r ss=true):XS c A env V Pb No ρ H ss T:=by unfold SS at h;exact h _ _ _ _ _ a b m
theorem AL.at(h:AL c D ts vs ρ H M)(a:bu A (D+1))(b:cc env V)(m:jD env.scope ts l=true):iU c A env V Pb ρ H l vs M:=by unfold AL at h;exact h _ _ _ _ _ a b m
theorem a5(k:T .next ρ H):SS c D [] ρ H T:=by unfold SS;exact λ_ _ _ _ _ _ _ h=>fC h (zq k)
theorem f0(h:S1 c D m ρ H (NX c D r T)):SS c D (m::r) ρ H T:=by
 unfold SS;exact λ_ _ _ _ _ b d a=>OB a λy _ a=>y.2▸A2 a λf e=>lq ((h _ _ _ _ _ b d f).mono λg i j q=>by
  unfold NX at q;cases g with
  |next=>exact SS.at q b d e
  |_=>exact q)
theorem f1(k:M ρ H):AL c D [] [] ρ H M:=by unfold AL;exact λ_ _ _ _ _ _ _ h=>fC h (Ik k)
theorem vc(h:A1 c D tg v ρ H λb N=>AL c D ts vs b N M):AL c D (tg::ts) (v::vs) ρ H M:=by unfold AL;exact λ_ _ _ _ _ d e a=>OB a λy _ a=>y.2▸A2 a λi a=>A2 a λg f=>Il i ((h _ _ _ _ _ d e g).mono λb N q=>AL.at q d e f)
theorem jE:∀{ts:L MT} {l:L an} {s:cB},jD s ts l=true->l.all cW=true/\ts.length=l.length
 |[],l,_,h=>fC h ⟨E,E⟩
 |t::ts,l,_,h=>OB h λy _ q=>y.2▸A2 q λc b=>A2 b λ_ a=>⟨by rw [oP,c,(jE a).1];rfl,aA h9 (jE a).2⟩
theorem vd(k:M (aZ x v ρ) H):A1 c D (aT x) v ρ H M:=λ_ _ _ _ _ _ _ h=>A2 h λb a=>kc b λ_=>ue a k
theorem AR(k:EE c D a ρ H λu b=>SA u f v b (M ρ)):A1 c D (bG a f) v ρ H M:=λ_ _ _ _ _ d i h=>OB h λy _ h=>y.2▸A2 h λg e=>EQ (M:=λs=>AS _ _ _ _ _ _ _ (eu _ s _) _ _) g (HP λ_ _=>(k.at d i e).mono λu b q=>by unfold SA uO at q;exact q)
theorem AT(k:EE c D a ρ H λu g=>EE c D b ρ g λw f=>SI u w v f (M ρ)):A1 c D (gP a b) v ρ H M:=λ_ _ _ _ _ d e h=>OB h λy _ h=>y.2▸A2 h λj i=>HU λ_ _=>(k.at d e j).mono λu g q _ _=>(EE.at q d e i).mono λw f q=>by unfold SI at q;exact q
theorem Ks{j n:ME}{i:ab}(o:PV c D ρ H a u)(l:PV c D ρ H j w)(h:PV c D ρ H n i)(k:uP u w i v H (M ρ)):A1 c D (.slc a j n) v ρ H M:=λ_ _ _ _ _ b g m=>OB m λy _ m=>y.2▸A2 m λr m=>OB m λp _ m=>A2 m λf m=>A2 m λd q=>p.2▸rJ f λt f=>rJ d λs d=>by obtain ⟨⟨e⟩,_⟩:=jj.mp q;rw [e];exact JQ λ_ _=>EE.at (a4 o λ_ _=>EE.at (a4 l λ_ _=>EE.at (a4 h k) b g d) b g f) b g r
theorem AU{l:ae}(h:H l=G (bm vs))(b:vs.length=ts.length)(k:AL c D ts vs ρ H M):A1 c D (.tup ts) (J l) ρ H M:=λ_ _ _ _ _ a d m=>OB m λy _ m=>y.2▸zu a (jE m).1 h (b.trans (jE m).2) (k.at a d m)
theorem mI(k:EE c D e ρ H λv N=>A1 c D tg v ρ N (T .next)):S1 c D (aD tg e) ρ H T:=λA env V Pb st f j h=>OB h λy _ h=>y.2▸OB h λz _ h=>z.2▸A2 h λi h=>A2 h λo h=>A2 h λn h=>by
 have b:fA c A env V Pb ρ H y.1.2.1 λv N=>AS c A env V Pb ρ N z.1 v (T .next):=λP p=>(k.at f j n).mono λv N q=>q _ _ _ _ _ f j o;cases g:hX y.1.2.1 with
 |true=>exact HY g i b
 |false=>
  rw [g]at h;cases a:pj y.1.2.1&&ph z.1 with
  |true=>exact A2 a λa d=>Ip a d i b
  |false=>rw [a]at h;exact A2 h λa d=>by obtain ⟨m,_⟩:=jj.mp a;obtain ⟨l,_⟩:=jj.mp d;revert b;rw [m.2,l.2];exact rg E E E
theorem Kt(k:EE c D e ρ H λv N=>T (ck v) ρ N):S1 c D (aH e) ρ H T:=λ_ _ _ _ _ a b h=>OB h λy _ h=>y.2▸rJ (M:=λo=>X1 _ _ _ _ _ _ _ _ (ni o _) _) h λz h=>zr λ_ _=>k.at a b h
theorem Ku(k:T (ck ah) ρ H):S1 c D .ret0 ρ H T:=λ_ _ _ _ _ a b h=>OB h λy _ h=>y.2▸by obtain ⟨⟨e⟩,_⟩:=jj.mp h;rw [e];exact H4 k
theorem Kv(k:T .next ρ H):S1 c D .pass ρ H T:=λ_ _ _ _ _ a b h=>by obtain ⟨y,_⟩:=jj.mp h;exact y.2▸HZ k
theorem Kw(k:EE c D e ρ H λv N=>T .next ρ N):S1 c D (cG e) ρ H T:=λ_ _ _ _ _ a f h=>OB h λy _ h=>y.2▸A2 h λd b=>H6 d λ_ _=>k.at a f b
theorem AV(k:TT c D t ρ H λk N=>if k=true then SS c D s1 ρ N T else SS c D s2 ρ N T):S1 c D (aQ t s1 s2) ρ H T:=λ_ _ _ _ _ a b h=>OB h λy _ h=>y.2▸A2 h λf h=>A2 h λe d=>zs λ_ _=>(k.at a b f).mono λk N q=>by
 cases k with
 |true=>exact SS.at q a b e
 |false=>exact SS.at q a b d
theorem Kx(k:EL c D es ρ H λvs N=>vs.length<=bL/\vs.length=ts.length/\AL c D ts vs ρ N (T .next)):S1 c D (iN ts es) ρ H T:=λ_ _ _ _ _ a e h=>OB h λy _ h=>y.2▸OB h λz _ h=>z.2▸OB h λg _ h=>g.2▸OB h λf _ h=>f.2▸A2 h λb h=>A2 h λl j=>Iq (cU j) λ_ _=>uc ((k.at a e l).mono λvs N q=>⟨q.1,λd i=>zu a (jE b).1 (aF _ _ _) (q.2.1.trans (jE b).2) ((AL.at q.2.2 a e b).pre (Ak i))⟩)
theorem Ky{xs:L am}(k:EL c D es ρ H λvs N=>vs.length<=bL/\vs.length=xs.length/\T .next ((xs.zip vs).foldr (λp ρ=>aZ p.1 p.2 ρ) ρ) N):S1 c D (fR xs es) ρ H T:=λ_ _ _ _ _ e r h=>OB h λy _ h=>y.2▸OB h λz _ h=>z.2▸OB h λj _ h=>j.2▸OB h λi _ h=>i.2▸A2 h λo h=>A2 h λn m=>J7 (It (Q:=λf b g=>∃N d a,g=N.set d (bm a)/\N d=af/\T f b N) e (cU n) m λ_ _=>uc ((k.at e r o).mono λa N q=>⟨q.1,λd l=>⟨d,a,E,aF _ _ _,q.2.1,N,d,a,E,l,q.2.2⟩⟩)) λf b g x=>x.elim λN x=>x.elim λd x=>x.elim λa x=>⟨N,by rw [x.1];exact Ak x.2.1,x.2.2⟩
theorem Kz{a b c d:aK}(h:a=true)(g:b=true)(f:c=true)(e:d=true):(a&&b&&c&&d)=true:=by rw [h,g,f,e];rfl
theorem KA{y:am}{j e:ME}{f:L ME}{i:L am}(k:EE c D e ρ H λv N=>GO c D x f j ρ i v N λd P=>T .next (aZ y (J d) ρ) P):S1 c D (ih y j x e f i) ρ H T:=λ_ _ _ _ _ a b h=>OB h λy _ h=>y.2▸OB h λn _ h=>n.2▸OB h λn _ h=>n.2▸OB h λq _ h=>q.2▸A2 h λA h=>OB h λg _ h=>g.2▸OB h λg _ h=>g.2▸A2 h λl h=>A2 h λz h=>A2 h λw u=>A2 l λr h=>A2 h λp h=>A2 h λo m=>A2 A λK h=>A2 h λI h=>A2 h λF h=>A2 h λC B=>kc (M:=λt=>X1 _ _ _ _ _ _ _ _ (hN _ (j0 _ [⟨t,_,_,0⟩] _ _) _) _) r λ_=>EQ (M:=λs=>X1 _ _ _ _ _ _ _ _ (hN [bA s _] _ _) _) K (Jl a b p o I (by unfold l9;exact aA b6 (Kz (by unfold a8.blockKind;rw [b.kind];rfl) F C B)) λ_ _=>(k.at a b z).mono λv N q=>AQ a m w u q)
theorem KC{op:eW}{i:U}(h:ρ.lookup x=G (aa i 0))(k:EE c D e ρ H λu N=>gV (hp op (aa i 0) u) λr=>T .next (aZ x r ρ) N):S1 c D (.aug x op e) ρ H T:=λ_ _ _ _ _ a l m=>OB m λy _ m=>y.2▸A2 m λj m=>A2 m λg m=>A2 m λf m=>A2 m λd b=>kc (M:=λt=>X1 _ _ _ _ _ _ _ _ (tu t _ _ _) _) j λ_=>EQ (M:=λo=>X1 _ _ _ _ _ _ _ _ (tu _ o _ _) _) g
 (H8 (((oS _ _).mp f).imp cU cU) d h ⟨i,0,E⟩ λ_ _=>(k.at a l b).mono λu N q=>rC q)
theorem ve{n n':ao->Hp->Prop}{a:b_}(h:ip T n a ρ H)(k:∀ρ H,n ρ H->n' ρ H):ip T n' a ρ H:=by
 cases a with
 |next=>exact k _ _ h
 |cont=>exact k _ _ h
 |brk=>exact h
 |ret v=>exact h
theorem AW{p:aI}(a:bu A (D+1))(b:cc env V)(k:iT env x=true)(m:gW env.scope bd ss=true):∀{vs:L ab} {ρ:ao} {H:Hp},pq x (SS c D bd) oY T vs ρ H->mz c A env V No (bA (I x) p) ss oY T vs ρ H
 |[],ρ,H,h=>h
 |v::r,ρ,H,h=>λPb=>ue k λPb=>(h.at a b m).mono λe d f q=>ve q λ_ _ q=>⟨q.1,AW a b k m q.2⟩
theorem fZ.un{a:L (L ab)}(h:fZ c D ts bd oY T a ρ H):lz ts.length (AL c D ts) (SS c D bd) oY T a ρ H:=by unfold fZ at h;exact h
theorem rR{l:L an}(a:bu A (D+1))(d:cc env V)(b:jD env.scope ts l=true)(m:gW env.scope bd ss=true):∀{vs:L (L ab)} {ρ:ao} {H:Hp},lz ts.length (AL c D ts) (SS c D bd) oY T vs ρ H->jz c A env V No l ss oY T vs ρ H
 |[],ρ,H,h=>h
 |v::r,ρ,H,h=>⟨h.1.trans (jE b).2,λPb=>(h.2.at a d b).mono λf j q Pb=>(SS.at q a d m).mono λg e i q=>ve q λ_ _ q=>⟨q.1,rR a d b m q.2⟩⟩
theorem AX(a:bu A (D+1))(b:cc env V)(d:cm true env.scope t z=true)(m:gW env.scope bd ss=true):∀{n:ag} {ρ:ao} {H:Hp},pr (TT c D t) (SS c D bd) T n ρ H->pk c A env V Pb z ss T n ρ H
 |0,ρ,H,h=>h
 |n+1,ρ,H,h=>λP f=>(h.at a b d).mono λk j q=>by
  cases k with
  |false=>exact q
  |true=>exact(SS.at q a b m).mono λg e i q=>ve q λ_ _ q=>AX a b d m q
theorem KD(k:EE c D e ρ H λv N=>gV (fB N v) λp=>g2 c D x bd (dA p.2 p.1) T p.1 ρ N):S1 c D (d1 x e bd) ρ H T:=λ_ _ _ _ _ a b h=>OB h λy _ h=>y.2▸A2 h λm h=>A2 h λj h=>A2 h λi h=>A2 h λg h=>A2 h λf d=>fC (M:=λl=>X1 _ _ _ _ _ _ _ _ (.For _ _ _ l _) _) d (kc (M:=λt=>X1 _ _ _ _ _ _ _ _ (.For t _ _ _ _) _) m λ_=>Jj a E i λ_ _=>(k.at a b g).mono λv N q=>q.el λp e q=>by unfold g2 at q;exact⟨p.1,p.2,e,AW a b j f q⟩)
theorem KE{l:ae}(p:PV c D ρ H e (J l))(h:H l=G (ak vs))(k:fZ c D ts bd (dA (G l) vs) T (ka vs) ρ H):S1 c D (.forE ts e bd) ρ H T:=λ_ _ _ _ _ a d m=>OB m λy _ m=>y.2▸OB m λz _ m=>z.2▸OB m λq _ m=>OB m λw _ m=>A2 m λx m=>A2 m λf m=>A2 m λb m=>A2 m λu s=>fC (M:=λl=>X1 _ _ _ _ _ _ _ _ (.For _ _ _ l _) _) s (A2 x λr o=>kc (M:=λn=>q.1.1=n->_) r (λ_ B=>mD (M:=λt=>X1 _ _ _ _ _ _ _ _ (.For _ t _ _ _) _) q.2 w.1 B (OB b λg _ b=>A2 b λj m=>A2 m λi v=>fC (M:=λl=>q.1.2.1=g.1.1::l->_) v (λA=>by rw [A];exact Jo a d (cU o) (jE f).1 j λ_ _=>EE.at (a4 p ⟨l,vs,E,h,rR a d f u k.un⟩) a d i) g.2)) E)
theorem KG(p:EE c D a ρ H λv N=>EE c D b ρ N λu f=>∃l1 l2 vs us,v=J l1/\u=J l2/\bD f l1=G vs/\bD f l2=G us/\fZ c D ts bd (λH=>bD H l1=G vs/\bD H l2=G us) T (jA vs us) ρ f):S1 c D (.forZ ts a b bd) ρ H T:=λ_ _ _ _ _ d e m=>OB m λy _ m=>y.2▸OB m λz _ m=>z.2▸OB m λq _ m=>OB m λw _ m=>A2 m λK m=>A2 m λh m=>A2 m λg m=>A2 m λB A=>fC (M:=λl=>X1 _ _ _ _ _ _ _ _ (.For _ _ _ l _) _) A (A2 K λs r=>kc (M:=λn=>q.1.1=n->_) s (λ_ Q=>mD (M:=λt=>X1 _ _ _ _ _ _ _ _ (.For _ t _ _ _) _) q.2 w.1 Q (OB g λj _ g=>A2 g λo m=>A2 m λk m=>OB m λi _ m=>A2 m λF m=>A2 m λC I=>fC (M:=λl=>j.1.2=i.1.1::l->_) I (λP=>by rw [j.2,P];exact Js d e (cU r) (jE h).1 o F λ_ _=>(p.at d e k).mono λv N q _ _=>(EE.at q d e C).mono λu f=>c3 λl1=>c3 λl2=>c3 λvs=>c3 λus x=>⟨x.1,x.2.1,x.2.2.1,x.2.2.2.1,rR d e h B x.2.2.2.2.un⟩) i.2)) E)
theorem KH(k:EE c D (dz es) ρ H λv N=>∃l us a,v=J l/\N l=G (bm us)/\h0 N us=G a/\fZ c D ts bd (nR l us a) T a ρ N):S1 c D (.forT ts es bd) ρ H T:=λ_ _ _ _ _ b e m=>OB m λy _ m=>y.2▸OB m λz _ m=>z.2▸OB m λw _ m=>w.2▸A2 m λd m=>A2 m λh m=>A2 m λg f=>fC (M:=λl=>X1 _ _ _ _ _ _ _ _ (.For _ _ _ l _) _) f
 (J3 b (jE d).1 λ_ _=>(k.at b e (z:=eG w.1.1 w.1.2.1 w.1.2.2) h).mono λv N=>c3 λl=>c3 λus=>c3 λa x=>⟨x.1,x.2.1,x.2.2.1,rR b e d g x.2.2.2.un⟩)
theorem KI(k:WH c D t bd T ρ H):S1 c D (.whl t bd) ρ H T:=λ_ _ _ _ _ a f h=>OB h λy _ h=>y.2▸A2 h λe h=>A2 h λd b=>fC (M:=λl=>X1 _ _ _ _ _ _ _ _ (.While _ _ l _) _) b (by unfold WH at k;exact k.elim λn q=>IV n (AX a f e d q))
end
theorem eM{k b D:ag}(h:b<=D)(e:m8 (k+2) b=true):k<=D-2:=cj (ar (aS e) h)
theorem ap{k b D:ag}(h:b<=D)(e:m8 k b=true):k<=D:=ar (aS e) h
theorem bf{x y:am}{v:ab}{ρ:ao}(h:x≠y):(aZ y v ρ).lookup x=ρ.lookup x:=by rw [lp,aG h]
theorem aY{x:am}{v:ab}{ρ:ao}:(aZ x v ρ).lookup x=G v:=by rw [lp,aJ E]
theorem eN{x y:am}{xs:L am}{u:ab}{ρ:ao}(h:x∉xs)(a:xs.contains y=true):(aZ x u ρ).lookup y=ρ.lookup y:=bf λe=>h (by rw [<-e];exact dE.mp a)
noncomputable def RK(Q:KV):KF
 |ck v,_,H=>Q v H
 |_,_,H=>Q ah H
noncomputable def AY(x:bz)(xs:L am)(c:ag)(a:am)(b:L MS):aK:=mx (c5 x) xs&&(o6.contains (c,a)&&gW (c5 x) b (gq x))
section
variable{c:Cx}{D:ag}{T:KF}{Q Q':KV}{QL:KL}{QB:KB}{H:Hp}{ρ:ao}{a b e t:ME}{u v w:ab}{es:L ME}{vs:L ab}{x f:am}{i n:ag}{k:aK}{r s1 s2 bd:L MS}{tg:MT}{ts:L MT}{M:ao->Hp->Prop}{l:ae}
noncomputable def kA(c:Cx)(D:ag)(x:am)(r:L MS)(ρ:ao)(K:KF):KV:=λv H=>SS c D r (aZ x v ρ) H K
noncomputable def kR(ρ:ao)(K:KF):KV:=λv H=>K (ck v) ρ H
noncomputable def kX(c:Cx)(D:ag)(r:L MS)(ρ:ao)(K:KF):KV:=λ_ H=>SS c D r ρ H K
noncomputable def kH(c:Cx)(D:ag)(r:L MS)(ρ:ao)(K:KF):Hp->Prop:=λH=>SS c D r ρ H K
noncomputable def kP(c:Cx)(D:ag)(r:L MS)(K:KF):ao->Hp->Prop:=λρ H=>SS c D r ρ H K
noncomputable def AZ(c:Cx)(D:ag)(a:ME)(f:am)(r:L MS)(ρ:ao)(K:KF):KV:=λv H=>EE c D a ρ H λu b=>SA u f v b (kH c D r ρ K)
noncomputable def KJ(c:Cx)(D:ag)(a b:ME)(r:L MS)(ρ:ao)(K:KF):KV:=λv H=>EE c D a ρ H λu e=>EE c D b ρ e λw d=>SI u w v d (kH c D r ρ K)
noncomputable def n0(c:Cx)(D:ag)(b a:L MS)(ρ:ao)(K:KF):KB:=λk H=>if k=true then SS c D b ρ H K else SS c D a ρ H K
noncomputable def vf(c:Cx)(D:ag)(x:am)(a r:L MS)(ρ:ao)(K:KF):KV:=λv H=>gV (fB H v) λp=>g2 c D x a (dA p.2 p.1) (NX c D r K) p.1 ρ H
noncomputable def A3(c:Cx)(D:ag)(ts:L MT)(r:L MS)(ρ:ao)(K:KF):KL:=λvs H=>vs.length<=bL/\vs.length=ts.length/\AL c D ts vs ρ H (kP c D r K)
noncomputable def A4(c:Cx)(D:ag)(xs:L am)(r:L MS)(ρ:ao)(K:KF):KL:=λvs H=>vs.length<=bL/\vs.length=xs.length/\SS c D r ((xs.zip vs).foldr (λp ρ=>aZ p.1 p.2 ρ) ρ) H K
theorem KN:NX c D r T .next ρ H=SS c D r ρ H T:=by unfold NX;rfl
theorem mJ:NX c D r T .next=kP c D r T:=by unfold NX;rfl
theorem bb(h:SS c D r ρ H T):NX c D r T .next ρ H:=KN▸h
theorem bX(h:T (ck v) ρ H):NX c D r T (ck v) ρ H:=by unfold NX;exact h
theorem i1{a:b_}(h:T a ρ H):NX c D [] T a ρ H:=by
 unfold NX;cases a with
 |next=>exact a5 h
 |_=>exact h
theorem EL.mono{Q a:KL}(h:EL c D es ρ H Q)(k:∀v b,Q v b->a v b):EL c D es ρ H a:= .mk λd e m=>(h.at d e m).mono k
theorem EE.mono{Q a:KV}(h:EE c D e ρ H Q)(k:∀v b,Q v b->a v b):EE c D e ρ H a:= .mk λd f m=>(h.at d f m).mono k
theorem bV(k:EE c D e ρ H (kA c D x r ρ T)):SS c D (aD (aT x) e::r) ρ H T:=f0 (mI (k.mono λv H q=>vd (bb q)))
theorem d4(p:PV c D ρ H e v)(k:SS c D r (aZ x v ρ) H T):SS c D (aD (aT x) e::r) ρ H T:=bV (a4 p k)
theorem b5(k:EE c D e ρ H (kR ρ T)):SS c D (aH e::r) ρ H T:=f0 (Kt (k.mono λv H q=>bX q))
theorem bR(p:PV c D ρ H e v)(k:T (ck v) ρ H):SS c D (aH e::r) ρ H T:=b5 (a4 p k)
theorem vg(k:T (ck ah) ρ H):SS c D (.ret0::r) ρ H T:=f0 (Ku (bX k))
theorem KO(k:SS c D r ρ H T):SS c D (.pass::r) ρ H T:=f0 (Kv (bb k))
theorem dN(k:EE c D e ρ H (kX c D r ρ T)):SS c D (cG e::r) ρ H T:=f0 (Kw (k.mono λv H q=>bb q))
theorem dt(k:TT c D t ρ H (n0 c D s1 s2 ρ (NX c D r T))):SS c D (aQ t s1 s2::r) ρ H T:=f0 (AV k)
theorem gI(k:SS c D s1 ρ H T):n0 c D s1 s2 ρ T true H:=k
theorem d5(k:SS c D s2 ρ H T):n0 c D s1 s2 ρ T false H:=k
theorem cZ(p:PT c D ρ H t true)(k:SS c D s1 ρ H (NX c D r T)):SS c D (aQ t s1 s2::r) ρ H T:=dt (dM p k)
theorem lC(p:PT c D ρ H t false)(k:SS c D s2 ρ H (NX c D r T)):SS c D (aQ t s1 s2::r) ρ H T:=dt (dM p k)
theorem b7(p:PT c D ρ H t false)(k:SS c D r ρ H T):SS c D (aQ t s1 []::r) ρ H T:=lC p (a5 (bb k))
theorem eO(p:PT c D ρ H t k)(b:k=true->SS c D s1 ρ H (NX c D r T))(a:k=false->SS c D s2 ρ H (NX c D r T)):SS c D (aQ t s1 s2::r) ρ H T:=by
 cases k with
 |true=>exact cZ p (b E)
 |false=>exact lC p (a E)
theorem lD(k:EE c D e ρ H (AZ c D a f r ρ T)):SS c D (aD (bG a f) e::r) ρ H T:=f0 (mI (k.mono λv H q=>AR (mJ▸q)))
theorem c7(p:PV c D ρ H e v)(o:PV c D ρ H a u)(k:SA u f v H (kH c D r ρ T)):SS c D (aD (bG a f) e::r) ρ H T:=lD (a4 p (a4 o k))
theorem vh(k:EE c D e ρ H (KJ c D a b r ρ T)):SS c D (aD (gP a b) e::r) ρ H T:=f0 (mI (k.mono λv H q=>AT (mJ▸q)))
theorem kg(p:PV c D ρ H e v)(o:PV c D ρ H a u)(j:PV c D ρ H b w)(k:SI u w v H (kH c D r ρ T)):SS c D (aD (gP a b) e::r) ρ H T:=vh (a4 p (a4 o (a4 j k)))
theorem KP{d f:ME}{b:ab}(p:PV c D ρ H e v)(o:PV c D ρ H a u)(l:PV c D ρ H d w)(h:PV c D ρ H f b)(k:uP u w b v H (kH c D r ρ T)):SS c D (aD (.slc a d f) e::r) ρ H T:=f0 (mI (a4 p (Ks o l h (mJ▸k))))
noncomputable def A5(c:Cx)(D:ag)(ts:L MT)(r:L MS)(ρ:ao)(K:KF):KV:=λv H=>A1 c D (.tup ts) v ρ H (kP c D r K)
theorem vi(k:EE c D e ρ H (A5 c D ts r ρ T)):SS c D (aD (.tup ts) e::r) ρ H T:=f0 (mI (mJ▸k))
theorem vj(h:H l=G (bm vs))(a:vs.length=ts.length)(k:AL c D ts vs ρ H (kP c D r T)):A5 c D ts r ρ T (J l) H:=AU h a k
theorem rS(k:EL c D es ρ H (A3 c D ts r ρ T)):SS c D (iN ts es::r) ρ H T:=f0 (Kx (mJ▸k))
theorem vk(b:vs.length<=bL)(a:vs.length=ts.length)(k:AL c D ts vs ρ H (kP c D r T)):A3 c D ts r ρ T vs H:=⟨b,a,k⟩
theorem lE(p:fK c D ρ H es vs)(a:vs.length=ts.length)(b:vs.length<=bL)(k:AL c D ts vs ρ H (kP c D r T)):SS c D (iN ts es::r) ρ H T:=rS (kb p ⟨b,a,k⟩)
theorem dO(k:AL c D ts vs (aZ x v ρ) H M):AL c D (aT x::ts) (v::vs) ρ H M:=vc (vd k)
theorem mK(o:PV c D ρ H a u)(k:SA u f v H λN=>AL c D ts vs ρ N M):AL c D (bG a f::ts) (v::vs) ρ H M:=vc (AR (a4 o k))
theorem pH(o:PV c D ρ H a u)(j:PV c D ρ H b w)(k:SI u w v H λN=>AL c D ts vs ρ N M):AL c D (gP a b::ts) (v::vs) ρ H M:=vc (AT (a4 o (a4 j k)))
theorem f2{xs:L am}(k:EL c D es ρ H (A4 c D xs r ρ T)):SS c D (fR xs es::r) ρ H T:=f0 (Ky (mJ▸k))
theorem f3{xs:L am}(b:vs.length<=bL)(a:vs.length=xs.length)(k:SS c D r ((xs.zip vs).foldr (λp ρ=>aZ p.1 p.2 ρ) ρ) H T):A4 c D xs r ρ T vs H:=⟨b,a,k⟩
theorem g3(k:EE c D e ρ H (vf c D x bd r ρ T)):SS c D (d1 x e bd::r) ρ H T:=f0 (KD k)
theorem hx{ws:L ab}{a:aj ae}(h:fB H v=G (ws,a))(k:g2 c D x bd (dA a ws) (NX c D r T) ws ρ H):vf c D x bd r ρ T v H:=i0 h k
theorem jF(p:PV c D ρ H e v){ws:L ab}{a:aj ae}(h:fB H v=G (ws,a))(k:g2 c D x bd (dA a ws) (NX c D r T) ws ρ H):SS c D (d1 x e bd::r) ρ H T:=g3 (a4 p (hx h k))
theorem vl{l:ae}(p:PV c D ρ H e (J l))(h:H l=G (ak vs))(k:fZ c D ts bd (dA (G l) vs) (NX c D r T) (ka vs) ρ H):SS c D (.forE ts e bd::r) ρ H T:=f0 (KE p h k)
noncomputable def A6(c:Cx)(D:ag)(ts:L MT)(b:ME)(g r:L MS)(ρ:ao)(K:KF):KV:=λv h=>EE c D b ρ h λu f=>∃e d vs a,v=J e/\u=J d/\bD f e=G vs/\bD f d=G a/\fZ c D ts g (λH=>bD H e=G vs/\bD H d=G a) (NX c D r K) (jA vs a) ρ f
theorem KQ(k:EE c D a ρ H (A6 c D ts b bd r ρ T)):SS c D (.forZ ts a b bd::r) ρ H T:=f0 (KG k)
theorem KR{l1 l2:ae}{us:L ab}(o:PV c D ρ H b (J l2))(d:bD H l1=G vs)(a:bD H l2=G us)(k:fZ c D ts bd (λH=>bD H l1=G vs/\bD H l2=G us) (NX c D r T) (jA vs us) ρ H):A6 c D ts b bd r ρ T (J l1) H:=a4 o ⟨l1,l2,vs,us,E,E,d,a,k⟩
noncomputable def vm(c:Cx)(D:ag)(ts:L MT)(d r:L MS)(ρ:ao)(K:KF):KV:=λv H=>∃l a b,v=J l/\H l=G (bm a)/\h0 H a=G b/\fZ c D ts d (nR l a b) (NX c D r K) b ρ H
theorem KS(k:EE c D (dz es) ρ H (vm c D ts bd r ρ T)):SS c D (.forT ts es bd::r) ρ H T:=f0 (KH k)
theorem KU{us:L ab}{a:L (L ab)}(h:H l=G (bm us))(g:h0 H us=G a)(k:fZ c D ts bd (nR l us a) (NX c D r T) a ρ H):vm c D ts bd r ρ T (J l) H:=⟨l,us,a,E,h,g,k⟩
theorem pJ(k:WH c D t bd (NX c D r T) ρ H):SS c D (.whl t bd::r) ρ H T:=f0 (KI k)
theorem pK{op:eW}{i:U}(h:ρ.lookup x=G (aa i 0))(p:PV c D ρ H e u)(g:hp op (aa i 0) u=G v)(k:SS c D r (aZ x v ρ) H T):SS c D (.aug x op e::r) ρ H T:=f0 (KC h (a4 p (i0 g (bb k))))
theorem kh{y:am}{e a:ME}{b:L ME}{d:L am}(k:EE c D a ρ H (AD c D x b e ρ d (kA c D y r ρ T))):SS c D (ih y e x a b d::r) ρ H T:=f0 (KA (mJ▸k))
theorem e9{a C:ae}{fs:L (am×ab)}{Q:Hp->Prop}(h:H a=G (bZ C fs))(b:hV.contains (C,f)=true)(d:fs.length<=100)(c:dJ v=true)(q:Q (H.set a (bZ C (aZ f v fs)))):SA (J a) f v H Q:=by unfold SA uO;exact⟨a,C,fs,E,h,b,d,c,q⟩
theorem i2{a:ae}{kvs:L (U×ab)}{k:U}{v:ab}{Q:Hp->Prop}(h:H a=G (aO kvs))(b:kvs.length+1<=bL)(q:Q (H.set a (aO (em kvs k v)))):SI (J a) (aa k 0) v H Q:=by unfold SI;exact⟨a,k,E,E,by rw [h];exact⟨b,q⟩⟩
theorem A7{a:ae}{vs:L ab}{k:U}{v:ab}{Q:Hp->Prop}(h:H a=G (ak vs))(c:0<=k)(b:k<vs.length)(q:Q (H.set a (ak (vs.set k.toNat v)))):SI (J a) (aa k 0) v H Q:=by unfold SI;exact⟨a,k,E,E,by rw [h];exact⟨c,b,q⟩⟩
theorem BC.mk{b:BI}(h:∀{c A a P D},bu A D->ev c A a P b.val vs H Q):BC b vs H Q:=by unfold BC;exact λ_ _ _ _ _=>h
theorem BC.len{n:ag}(h:hY H v=G n)(q:Q (aa n 0) H):BC fh [v] H Q:= .mk λ_=>Iz h q
theorem h4{l:ae}{kvs:L (U×ab)}(h:H l=G (aO kvs))(z:kvs.length<64)(q:(∀d,H d=af->Q (J d) (H.set d (ak (iL (ba (kvs.map (·.1)))))))):BC fv [J l] H Q:= .mk λa=>Jv h a z q
theorem A8{l:ae}{ns:L U}(h:H l=G (ak (iL ns)))(z:ns.length<64)(q:(∀d,H d=af->Q (J d) (H.set d (ak (iL (ba ns)))))):BC fv [J l] H Q:= .mk λ_=>Ju (by unfold bD;rw [h]) z q
theorem pL{n:U}{t:bv}(q:(∀d,H d=af->Q (J d) (H.set d (.rng n)))):BC .range [aa n t] H Q:= .mk λ_=>IW q
theorem A9{vs:L ab}(h:ly H v=G vs)(q:(∀d,H d=af->Q (J d) (H.set d (ak vs)))):BC .list [v] H Q:= .mk λa=>JE a h q
theorem A_{l:ae}{ns:L U}(h:bD H l=G (iL ns))(z:(∀n∈ns,0<=n/\n<256))(q:Q (aq (Aa ns) 0) H):BC .bytes [J l] H Q:= .mk λa=>JB a h z q
theorem KW{i:U}{t:bv}(h:0<=i)(z:i<=1000000)(q:Q (aE (toString i) 0) H):BC .str [aa i t] H Q:= .mk λ_=>Jy h z q
theorem KX{x:ag}{t:bv}(q:Q (aa x 0) H):BC .ord [aE ⟨#[x]⟩ t] H Q:= .mk λ_=>Jx q
theorem KY{i:U}{t:bv}(q:Q (aa i 0) H):BC .int [aa i t] H Q:= .mk λ_=>Jw q
theorem BC.min{a:U}{t:bv}{b:U}{u:bv}(q:Q (aa (if b<a then b else a) 0) H):BC .min [aa a t,aa b u] H Q:= .mk λc=>JA c q
theorem BC.max{a:U}{t:bv}{b:U}{u:bv}(q:Q (aa (if b>a then b else a) 0) H):BC .max [aa a t,aa b u] H Q:= .mk λc=>Jz c q
theorem pM{a:ae}{vs:L ab}(h:H a=G (ak vs))(z:vs.length+1<=bL)(q:Q ah (H.set a (ak (vs++[v])))):BC nk [J a,v] H Q:= .mk λ_=>IJ h z q
theorem vn{a:ae}{b:ae}{vs:L ab}{us:L ab}(h:H a=G (ak vs))(g:H b=G (ak us))(z:vs.length+us.length<=bL)(q:Q ah (H.set a (ak (vs++us)))):BC .extend [J a,J b] H Q:= .mk λ_=>IQ h g z q
theorem Ba{a:ae}{k:U}{t:bv}{vs:L ab}(h:H a=G (ak vs))(z:0<=k)(g:vs[k.toNat]? =G v)(q:Q v (H.set a (ak (vs.eraseIdx k.toNat)))):BC .lpop [J a,aa k t] H Q:= .mk λ_=>IR h z g q
theorem KZ{l:ae}{k:U}{t:bv}{ns:L U}{j:ag}(h:H l=G (ak (iL ns)))(g:ns[j]? =G k)(z:(∀i,i<j->ns[i]?≠G k))(q:Q (aa (j:ag) 0) H):BC .index [J l,aa k t] H Q:= .mk λ_=>JF h g z q
theorem BC.get{a:ae}{k:U}{t:bv}{kvs:L (U×ab)}(h:H a=G (aO kvs))(q:Q ((e1 kvs k).getD ah) H):BC ig [J a,aa k t] H Q:= .mk λ_=>IK h q
theorem BC.get2{a:ae}{k:U}{t:bv}{d:ab}{kvs:L (U×ab)}(h:H a=G (aO kvs))(q:Q ((e1 kvs k).getD d) H):BC ig [J a,aa k t,d] H Q:= .mk λ_=>IL h q
theorem Bb{a:ae}{l:L fd}{s:a9 aP}{b:bv}{d:ab}(h:H a=G (.db l))(hs:(a==s5)=false)(c:∀x∈l,x.1≠s.toList)(q:Q d H):BC .getb [J a,aq s b,d] H Q:= .mk λ_=>JG hs h c q
theorem Bc{a:ae}{k:U}{t:bv}{kvs:L (U×ab)}(h:H a=G (aO kvs))(g:e1 kvs k=G v)(q:Q v (H.set a (aO (iW kvs k)))):BC .dpop [J a,aa k t] H Q:= .mk λ_=>zK (bt E) h g q
theorem K0{a:ae}{k:U}{t:bv}{d:ab}{kvs:L (U×ab)}(h:H a=G (aO kvs))(g:e1 kvs k=G v)(q:Q v (H.set a (aO (iW kvs k)))):BC .dpop [J a,aa k t,d] H Q:= .mk λ_=>zK (bF ⟨_,E⟩) h g q
theorem BC.find{l:L aP}{x:aP}{t u:bv}(q:Q (aa (match l.findIdx? (·==x)with|some i=>(i:U)|none=> -1) 0) H):BC .find [aq l.toArray t,aq #[x] u] H Q:= .mk λ_=>IN q
theorem BC.rfind{l:L aP}{x:aP}{t u:bv}(q:Q (aa (match il l x with|some i=>(i:U)|none=> -1) 0) H):BC .rfind [aq l.toArray t,aq #[x] u] H Q:= .mk λ_=>IP q
theorem PV.len{n:ag}(p:PV c D ρ H e u)(h:hY H u=G n):PV c D ρ H (b4 fh [e]) (aa n 0):= .of λQ q=>ex (.cons p .nil) (.len h q)
theorem PV.max{i j:U}{t u:bv}(p:fK c D ρ H es [aa i t,aa j u]):PV c D ρ H (b4 .max es) (aa (if j>i then j else i) 0):= .of λQ q=>ex p (.max q)
theorem PV.min{i j:U}{t u:bv}(p:fK c D ρ H es [aa i t,aa j u]):PV c D ρ H (b4 .min es) (aa (if j<i then j else i) 0):= .of λQ q=>ex p (.min q)
theorem pO{H:Hp}{a:ae}{kvs:L (U×ab)}(h:H a=G (aO kvs)):lu H (J a)=G "dict":=rp h
theorem K1{b:ae}{k:U}{t:bv}{d:ab}{kvs:L (U×ab)}(o:PV c D ρ H a (J b))(p:fK c D ρ H es [aa k t,d])(h:H b=G (aO kvs))(e:(e1 kvs k).getD d=v):PV c D ρ H (dR a ig es) v:= .of λQ q=>ge o (pO h) p (.get2 h (e▸q))
theorem PV.get{b:ae}{k:U}{t:bv}{kvs:L (U×ab)}(o:PV c D ρ H a (J b))(p:fK c D ρ H es [aa k t])(h:H b=G (aO kvs))(e:(e1 kvs k).getD ah=v):PV c D ρ H (dR a ig es) v:= .of λQ q=>ge o (pO h) p (.get h (e▸q))
theorem HS.weaken{A:bj}{P:Pr}{N:Hp}{s:ay}(x:HS c A.frames P H s)(d:∀a mo,N a=G mo->H a=G mo):HS c A.frames P N s:=⟨x.gens,x.os,x.frs,let ⟨b,z⟩:=x.hr;⟨b,z.weaken d⟩⟩
theorem fX.weak{f:ab}{vs:L ab}{Q g:ab->Hp->Prop}(h:fX c D f vs H g)(k:∀v d,g v d->∃N,(∀a mo,N a=G mo->d a=G mo)/\Q v N):fX c D f vs H Q:=λA P s i r x e=>jm (h A P s i r x e) λr l y=>by
 rcases r with _|(v|_|_|_)<;>first|exact y.elim|skip
 obtain ⟨d,a,b⟩:=y;obtain ⟨N,j,q⟩:=k _ _ b;exact⟨N,a.weaken j,q⟩
theorem ki{v:ab}{vs ws:L ab}(e:ws.map er=v::vs):∃w r,ws=w::r/\er w=v/\r.map er=vs:=L.map_eq_cons_iff.mp e
theorem vo{ws:L ab}(e:ws.map er=[]):ws=[]:=qK.mp e
end
theorem K2{P:L ab->Prop}(h:P [])(ws:L ab)(e:ws.length=0):P ws:=(xB e)▸h
theorem lF{n:ag}{P:L ab->Prop}(h:∀a r,r.length=n->P (a::r)):∀ws,ws.length=n+1->P ws
 |a::r,e=>h a r (qL e)
theorem e_{P:L ab->Prop}(h:∀a,P [a]):∀ws,ws.length=1->P ws:=lF λa=>K2 (P:=λr=>P (a::r)) (h a)
theorem d6{P:L ab->Prop}(h:∀a b,P [a,b]):∀ws,ws.length=2->P ws:=lF λa=>e_ (P:=λr=>P (a::r)) (h a)
theorem fa{P:L ab->Prop}(h:∀a b c,P [a,b,c]):∀ws,ws.length=3->P ws:=lF λa=>d6 (P:=λr=>P (a::r)) (h a)
theorem n1{P:L ab->Prop}(h:∀a b c d,P [a,b,c,d]):∀ws,ws.length=4->P ws:=lF λa=>fa (P:=λr=>P (a::r)) (h a)
theorem mL{P:L ab->Prop}(h:∀a b c d e,P [a,b,c,d,e]):∀ws,ws.length=5->P ws:=lF λa=>n1 (P:=λr=>P (a::r)) (h a)
theorem vp{P:L ab->Prop}(h:∀a b c d e f,P [a,b,c,d,e,f]):∀ws,ws.length=6->P ws:=lF λa=>mL (P:=λr=>P (a::r)) (h a)
theorem K3{P:L ab->Prop}(h:∀a b c d e f g i,P [a,b,c,d,e,f,g,i]):∀ws,ws.length=8->P ws:=lF λa=>lF λb=>vp (P:=λr=>P (a::b::r)) (h a b)
theorem Bd:∀(xs:L am) (vs:L ab),((xs.map I).zip vs).map (λp=>(p.1,er p.2))=(xs.zip (vs.map er)).map λp=>(I p.1,p.2)
 |[],_=>E
 |_::_,[]=>E
 |x::xs,v::vs=>aA ((I x,er v)::·) (Bd xs vs)
theorem bx{c:Cx}{D:ag}{H:Hp}{Q:KV}{a n:ag}{j:L MS}{vs:L ab}(x:bz)(f:am)(l i:ab)(g:ag)(xs:L am)(us:L ab)
  (v:∀ws:L ab,ws.length=n->∀w T,peek (KK w) T (bindArgs (fnOf (nu x) (I f) (j2 x) (gq x) (c5 x) l ah ah i af (J g) ah) ⟨ws,[]⟩)=G ((xs.map I).zip (ws++us)))
  (y:2<=D) (h:SS c (D-2) j (xs.zip (vs++us.map er)) H (RK Q)) (u:∀w,(KK w).lookup a=G (a3 x f l i g):=by intro w;kernel_rfl) (d:AY x xs g f j=true:=by kernel_rfl) (p:xs.length=(vs++us.map er).length:=by rfl) (t:vs.length=n:=by rfl):CL c D a vs H Q:=by
 have z:D-2+2=D:=xC y;rw [AY,fg,fg]at d;have r:(xs.zip (vs++us.map er)).map (·.1)=xs:=Ew (cR p)
 have k:fX c (D-2+2) (J a) vs H Q:=Ij (D:=D-2+1) (u c.w) (dE.mp d.2.1) (by rw [r];exact d.1) (λs ws X e=>⟨_,kp_binds (λb o e=>X _ _ (c.kk b o e)) (v ws (by rw [<-t,<-e,bJ]) c.w),by rw [<-e,<-c0];exact Bd xs _⟩) λM P A N F C m=>(h.at m F (by rw [C];exact d.2.2)).mono λB K H q=>by cases B<;>exact q
 unfold CL;exact z▸k
section
variable{c:Cx}{D:ag}{H:Hp}{Q:KV}{v0 v1 v2 v3 v4 v5 v6 v7:ab}
noncomputable def K4:L MS:=[aD (aT "rest") (cg (ax .GtE (O "number") (ai (aa 0 0))) (O "number") (eP (O "number"))),aD (aT "found") (c8 [(bT cq (ai (aa 48 0)) (bT .Mod (O "rest") (ai (aa 10 0))))]),aD (aT "rest") (bT qI (O "rest") (ai (aa 10 0))),.whl (ax .Gt (O "rest") (ai (aa 0 0))) [cG (dR (O "found") nk [(bT cq (ai (aa 48 0)) (bT .Mod (O "rest") (ai (aa 10 0))))]),aD (aT "rest") (bT qI (O "rest") (ai (aa 10 0)))],aQ (ax .Lt (O "number") (ai (aa 0 0))) [cG (dR (O "found") nk [(ai (aa 45 0))])] [],aH (b4 .bytes [(ea (O "found") [] [] [(eP (ai (aa 1 0)))])])]
theorem K5(a:2<=D)(h:SS c (D-2) K4 [("number",v0)] H (RK Q)):CL c D 61 [v0] H Q:=bx (as 5) "decimal_octets" ah ik 60 ["number"] [] (e_ λ_ w S=>by kernel_rfl) a h
noncomputable def K6:L MS:=[aQ (ax bB (b4 fh [(O "octets")]) (ai (aa 0 0))) [aH (ai ah)] [],iN [(aT "number"),(aT "many")] [(ai (aa 0 0)),(ai (aa 0 0))],d1 "octet" (O "octets") [aQ (fw (.cmp2 .LtE .LtE (ai (aa 48 0)) (O "octet") (ai (aa 57 0)))) [aH (ai ah)] [],aQ (d0 [(ax .Gt (O "many") (ai (aa 0 0))),(ax eY (O "octet") (ai (aa 48 0)))]) [aD (aT "many") (bT cq (O "many") (ai (aa 1 0)))] [],aQ (ax .LtE (O "many") (hj 87 (aa 1000 0))) [aD (aT "number") (bT hh (bT cq (bT .Mult (ai (aa 10 0)) (O "number")) (O "octet")) (ai (aa 48 0)))] []],aH (cg (ax .LtE (O "many") (hj 87 (aa 1000 0))) (O "number") (bT hh (bT .Pow (ai (aa 10 0)) (hj 87 (aa 1000 0))) (ai (aa 1 0))))]
theorem K7(a:2<=D)(h:SS c (D-2) K6 [("octets",v0)] H (RK Q)):CL c D 68 [v0] H Q:=bx (as 6) "number_of" ah ik 67 ["octets"] [] (e_ λ_ w S=>by kernel_rfl) a h
noncomputable def K8:L MS:=[aD (bG (O "self") "kind") (O "kind"),aD (bG (O "self") "width") (O "width"),aD (bG (O "self") "height") (O "height"),aD (bG (O "self") "x") (O "x"),aD (bG (O "self") "y") (O "y"),aD (bG (O "self") "parts") (O "parts"),aD (bG (O "self") "pane") (O "pane")]
theorem K9(a:2<=D)(h:SS c (D-2) K8 [("self",v0),("kind",v1),("width",v2),("height",v3),("x",v4),("y",v5),("parts",v6),("pane",v7)] H (RK Q)):CL c D 82 [v0,v1,v2,v3,v4,v5,v6,v7] H Q:=bx (mt 10 0) "Cell.__init__" ah cD 81 ["self","kind","width","height","x","y","parts","pane"] [] (K3 λ_ _ _ _ _ _ _ _ w S=>by kernel_rfl) a h
noncomputable def K_:L MS:=[aH (aB 80 85 [(ai (aE (I "pane") 0)),(O "width"),(O "height"),(ai (aa 0 0)),(ai (aa 0 0)),(c8 []),(O "pane")])]
theorem La(a:2<=D)(h:SS c (D-2) K_ [("pane",v0),("width",v1),("height",v2)] H (RK Q)):CL c D 96 [v0,v1,v2] H Q:=bx (as 11) "layout_leaf" ah cD 95 ["pane","width","height"] [] (fa λ_ _ _ w S=>by kernel_rfl) a h
noncomputable def Lb:L MS:=[ih "parts" (aB 3 101 [(O "part")]) "part" (av (O "cell") "parts") [] [],aH (aB 80 85 [(av (O "cell") "kind"),(av (O "cell") "width"),(av (O "cell") "height"),(av (O "cell") "x"),(av (O "cell") "y"),(O "parts"),(av (O "cell") "pane")])]
theorem Lc(a:2<=D)(h:SS c (D-2) Lb [("cell",v0)] H (RK Q)):CL c D 101 [v0] H Q:=bx (as 12) "layout_copy" ah cD 100 ["cell"] [] (e_ λ_ w S=>by kernel_rfl) a h
noncomputable def Ld:L MS:=[aQ (ax bB (av (O "cell") "kind") (ai (aE (I "pane") 0))) [aH (c8 [(O "cell")])] [],aD (aT "found") (c8 []),d1 "part" (av (O "cell") "parts") [cG (dR (O "found") .extend [(aB 4 108 [(O "part")])])],aH (O "found")]
theorem Le(a:2<=D)(h:SS c (D-2) Ld [("cell",v0)] H (RK Q)):CL c D 108 [v0] H Q:=bx (as 13) "layout_leaves" ah cD 107 ["cell"] [] (e_ λ_ w S=>by kernel_rfl) a h
noncomputable def Lf:L MS:=[aH (iM (av (O "leaf") "pane") "leaf" (aB 4 108 [(O "cell")]) [] [])]
theorem Lg(a:2<=D)(h:SS c (D-2) Lf [("cell",v0)] H (RK Q)):CL c D 113 [v0] H Q:=bx (as 14) "layout_panes" ah cD 112 ["cell"] [] (e_ λ_ w S=>by kernel_rfl) a h
noncomputable def Lh:L MS:=[aQ (ax bB (av (O "cell") "kind") (ai (aE (I "pane") 0))) [aH (cg (ax bB (av (O "cell") "pane") (O "pane")) (c8 [(O "cell")]) (ai ah))] [],d1 "part" (av (O "cell") "parts") [aD (aT "found") (aB 6 120 [(O "part"),(O "pane")]),aQ (ax dq (O "found") (ai ah)) [aH (bT cq (c8 [(O "cell")]) (O "found"))] []],aH (ai ah)]
theorem Li(a:2<=D)(h:SS c (D-2) Lh [("cell",v0),("pane",v1)] H (RK Q)):CL c D 120 [v0,v1] H Q:=bx (as 15) "layout_path" ah cD 119 ["cell","pane"] [] (d6 λ_ _ w S=>by kernel_rfl) a h
noncomputable def Lj:L MS:=[aH (cg (O "is_row") (ai (aE (I "row") 0)) (ai (aE (I "column") 0)))]
theorem Lk(a:2<=D)(h:SS c (D-2) Lj [("is_row",v0)] H (RK Q)):CL c D 127 [v0] H Q:=bx (as 16) "layout_kind" ah cD 126 ["is_row"] [] (e_ λ_ w S=>by kernel_rfl) a h
noncomputable def Ll:L MS:=[aH (cg (O "is_row") (av (O "cell") "width") (av (O "cell") "height"))]
theorem Lm(a:2<=D)(h:SS c (D-2) Ll [("cell",v0),("is_row",v1)] H (RK Q)):CL c D 134 [v0,v1] H Q:=bx (as 17) "layout_side" ah cD 133 ["cell","is_row"] [] (d6 λ_ _ w S=>by kernel_rfl) a h
noncomputable def Ln:L MS:=[aQ (O "is_row") [aD (bG (O "cell") "width") (O "side")] [aD (bG (O "cell") "height") (O "side")]]
theorem Lo(a:2<=D)(h:SS c (D-2) Ln [("cell",v0),("is_row",v1),("side",v2)] H (RK Q)):CL c D 141 [v0,v1,v2] H Q:=bx (as 18) "layout_set_side" ah cD 140 ["cell","is_row","side"] [] (fa λ_ _ _ w S=>by kernel_rfl) a h
noncomputable def Lp:L MS:=[.forE [(aT "at"),(aT "part")] (O "parts") [aQ (ax b0 (O "part") (O "cell")) [aH (O "at")] []],aH (ai ah)]
theorem Lq(a:2<=D)(h:SS c (D-2) Lp [("parts",v0),("cell",v1)] H (RK Q)):CL c D 148 [v0,v1] H Q:=bx (as 19) "layout_index" ah cD 147 ["parts","cell"] [] (d6 λ_ _ w S=>by kernel_rfl) a h
noncomputable def Lr:L MS:=[cG (aB 9 141 [(O "cell"),(O "is_row"),(bT cq (aB 8 134 [(O "cell"),(O "is_row")]) (O "change"))]),aQ (ax eY (av (O "cell") "kind") (aB 7 127 [(O "is_row")])) [d1 "part" (av (O "cell") "parts") [cG (aB 12 160 [(O "part"),(O "is_row"),(O "change")])],.ret0] [],.whl (ax eY (O "change") (ai (aa 0 0))) [d1 "part" (av (O "cell") "parts") [aQ (ax .Gt (O "change") (ai (aa 0 0))) [cG (aB 12 160 [(O "part"),(O "is_row"),(ai (aa 1 0))]),.aug "change" hh (ai (aa 1 0))] [aQ (ei [(ax .Lt (O "change") (ai (aa 0 0))),(ax .Gt .any (ai (aa 0 0)))]) [cG (aB 12 160 [(O "part"),(O "is_row"),(eP (ai (aa 1 0)))]),.aug "change" cq (ai (aa 1 0))] []]]]]
theorem Ls(a:2<=D)(h:SS c (D-2) Lr [("cell",v0),("is_row",v1),("change",v2)] H (RK Q)):CL c D 160 [v0,v1,v2] H Q:=bx (as 21) "layout_change" ah cD 159 ["cell","is_row","change"] [] (fa λ_ _ _ w S=>by kernel_rfl) a h
noncomputable def Lt:L MS:=[iN [(bG (O "cell") "x"),(bG (O "cell") "y")] [(O "x"),(O "y")],d1 "part" (av (O "cell") "parts") [cG (aB 13 167 [(O "part"),(O "x"),(O "y")]),aQ (ax bB (av (O "cell") "kind") (ai (aE (I "row") 0))) [.aug "x" cq (bT cq (av (O "part") "width") (ai (aa 1 0)))] [.aug "y" cq (bT cq (av (O "part") "height") (ai (aa 1 0)))]],aH (O "cell")]
theorem Lu(a:2<=D)(h:SS c (D-2) Lt [("cell",v0),("x",v1),("y",v2)] H (RK Q)):CL c D 167 [v0,v1,v2] H Q:=bx (as 22) "layout_placed" ah cD 166 ["cell","x","y"] [] (fa λ_ _ _ w S=>by kernel_rfl) a h
noncomputable def Lv:L MS:=[aQ (ax bB (b4 fh [(O "path")]) (ai (aa 1 0))) [aH (O "fresh")] [],aD (aT "parts") (av (aL (O "path") (eP (ai (aa 2 0)))) "parts"),aD (gP (O "parts") (aB 10 148 [(O "parts"),(aL (O "path") (eP (ai (aa 1 0))))])) (O "fresh"),aH (aL (O "path") (ai (aa 0 0)))]
theorem Lw(a:2<=D)(h:SS c (D-2) Lv [("path",v0),("fresh",v1)] H (RK Q)):CL c D 174 [v0,v1] H Q:=bx (as 23) "layout_exchanged" ah cD 173 ["path","fresh"] [] (d6 λ_ _ w S=>by kernel_rfl) a h
noncomputable def n2:L MS:=[aD (aT "path") (aB 6 120 [(aB 3 101 [(O "root")]),(O "pane")]),aQ (d0 [(ax b0 (O "path") (ai ah)),(ax dF (O "fresh") (aB 5 113 [(O "root")]))]) [aH (ai ah)] [],aD (aT "leaf") (aL (O "path") (eP (ai (aa 1 0)))),aD (aT "side") (aB 8 134 [(O "leaf"),(O "is_row")]),aQ (ax .Lt (O "side") (bT cq (bT .Mult (ai (aa 2 0)) (hj 85 (aa 1 0))) (ai (aa 1 0)))) [aH (ai ah)] [],aD (aT "wish") (cg (ax b0 (O "size") (ai ah)) (bT hh (bT qI (bT cq (O "side") (ai (aa 1 0))) (ai (aa 2 0))) (ai (aa 1 0))) (O "size")),aD (aT "many") (b4 .max [(hj 85 (aa 1 0)),(b4 .min [(O "wish"),(bT hh (bT hh (O "side") (ai (aa 1 0))) (hj 85 (aa 1 0)))])]),aD (aT "other") (aB 80 85 [(ai (aE (I "pane") 0)),(av (O "leaf") "width"),(av (O "leaf") "height"),(ai (aa 0 0)),(ai (aa 0 0)),(c8 []),(O "fresh")]),cG (aB 9 141 [(O "other"),(O "is_row"),(O "many")]),aD (aT "both") (cg (O "is_before") (c8 [(O "other"),(O "leaf")]) (c8 [(O "leaf"),(O "other")])),fR ["kind","top"] [(aB 7 127 [(O "is_row")]),(aL (O "path") (ai (aa 0 0)))],aQ (ei [(ax .Gt (b4 fh [(O "path")]) (ai (aa 1 0))),(ax bB (av (aL (O "path") (eP (ai (aa 2 0)))) "kind") (O "kind"))]) [aD (aT "at") (aB 10 148 [(av (aL (O "path") (eP (ai (aa 2 0)))) "parts"),(O "leaf")]),aD (.slc (av (aL (O "path") (eP (ai (aa 2 0)))) "parts") (O "at") (bT cq (O "at") (ai (aa 1 0)))) (O "both")] [aQ (ax .Gt (b4 fh [(O "path")]) (hj 86 (aa 50 0))) [aH (ai ah)] [aD (aT "top") (aB 14 174 [(O "path"),(aB 80 85 [(O "kind"),(av (O "leaf") "width"),(av (O "leaf") "height"),(ai (aa 0 0)),(ai (aa 0 0)),(O "both"),(ai ah)])])]],cG (aB 9 141 [(O "leaf"),(O "is_row"),(bT hh (bT hh (O "side") (ai (aa 1 0))) (O "many"))]),aH (aB 13 167 [(O "top"),(ai (aa 0 0)),(ai (aa 0 0))])]
theorem Lx(a:2<=D)(h:SS c (D-2) n2 [("root",v0),("pane",v1),("fresh",v2),("is_row",v3),("size",v4),("is_before",v5)] H (RK Q)):CL c D 182 [v0,v1,v2,v3,v4,v5] H Q:=bx (as 24) "split_layout" (J 175) cD 181 ["root","pane","fresh","is_row","size","is_before"] [] (vp λ_ _ _ _ _ _ w S=>by kernel_rfl) a h
noncomputable def Ly:L MS:=[aD (aT "found") (c8 []),d1 "part" (O "parts") [cG (dR (O "found") .extend [(cg (ax bB (av (O "part") "kind") (O "kind")) (av (O "part") "parts") (c8 [(O "part")]))])],aH (O "found")]
theorem Lz(a:2<=D)(h:SS c (D-2) Ly [("parts",v0),("kind",v1)] H (RK Q)):CL c D 189 [v0,v1] H Q:=bx (as 25) "layout_melted" ah cD 188 ["parts","kind"] [] (d6 λ_ _ w S=>by kernel_rfl) a h
noncomputable def Be:L MS:=[aD (aT "path") (aB 6 120 [(aB 3 101 [(O "root")]),(O "pane")]),aQ (d0 [(ax b0 (O "path") (ai ah)),(ax bB (b4 fh [(O "path")]) (ai (aa 1 0)))]) [aH (ai ah)] [],fR ["leaf","parent"] [(aL (O "path") (eP (ai (aa 1 0)))),(aL (O "path") (eP (ai (aa 2 0))))],aD (aT "is_row") (ax bB (av (O "parent") "kind") (ai (aE (I "row") 0))),aD (aT "at") (aB 10 148 [(av (O "parent") "parts"),(O "leaf")]),cG (dR (av (O "parent") "parts") .lpop [(O "at")]),cG (aB 12 160 [(aL (av (O "parent") "parts") (b4 .max [(ai (aa 0 0)),(bT hh (O "at") (ai (aa 1 0)))])),(O "is_row"),(bT cq (aB 8 134 [(O "leaf"),(O "is_row")]) (ai (aa 1 0)))]),aQ (ax .Gt (b4 fh [(av (O "parent") "parts")]) (ai (aa 1 0))) [aH (aB 13 167 [(aL (O "path") (ai (aa 0 0))),(ai (aa 0 0)),(ai (aa 0 0))])] [],aD (aT "top") (aB 14 174 [(ea (O "path") [] [(eP (ai (aa 1 0)))] []),(aL (av (O "parent") "parts") (ai (aa 0 0)))]),aQ (ax .Gt (b4 fh [(O "path")]) (ai (aa 2 0))) [aD (bG (aL (O "path") (eP (ai (aa 3 0)))) "parts") (aB 16 189 [(av (aL (O "path") (eP (ai (aa 3 0)))) "parts"),(av (aL (O "path") (eP (ai (aa 3 0)))) "kind")])] [],aH (aB 13 167 [(O "top"),(ai (aa 0 0)),(ai (aa 0 0))])]
theorem LA(a:2<=D)(h:SS c (D-2) Be [("root",v0),("pane",v1)] H (RK Q)):CL c D 196 [v0,v1] H Q:=bx (as 26) "close_pane" ah cD 195 ["root","pane"] [] (d6 λ_ _ w S=>by kernel_rfl) a h
noncomputable def LB:L MS:=[aD (aT "found") (aB 3 101 [(O "root")]),.forZ [(aT "leaf"),(aT "pane")] (aB 4 108 [(O "found")]) (O "numbers") [aD (bG (O "leaf") "pane") (O "pane")],aH (O "found")]
theorem LC(a:2<=D)(h:SS c (D-2) LB [("root",v0),("numbers",v1)] H (RK Q)):CL c D 210 [v0,v1] H Q:=bx (as 28) "layout_renumbered" ah cD 209 ["root","numbers"] [] (d6 λ_ _ w S=>by kernel_rfl) a h
noncomputable def LD:L MS:=[aD (aT "panes") (aB 5 113 [(O "root")]),aQ (d0 [(ax jn (O "one") (O "panes")),(ax jn (O "other") (O "panes"))]) [aH (ai ah)] [],aD (aT "turned") (.dctI [(O "one"),(O "other"),(O "other"),(O "one")]),aH (aB 19 210 [(O "root"),(iM (dR (O "turned") ig [(O "pane"),(O "pane")]) "pane" (O "panes") [] ["turned"])])]
theorem LF(a:2<=D)(h:SS c (D-2) LD [("root",v0),("one",v1),("other",v2)] H (RK Q)):CL c D 215 [v0,v1,v2] H Q:=bx (as 29) "swap_panes" ah cD 214 ["root","one","other"] [] (fa λ_ _ _ w S=>by kernel_rfl) a h
noncomputable def LG:L MS:=[aD (bG (O "self") "session") (O "session"),aD (bG (O "self") "index") (O "index"),aD (bG (O "self") "window") (O "window"),aD (bG (O "self") "pane") (O "pane"),aD (bG (O "self") "mouse") (O "mouse")]
theorem LH(a:2<=D)(h:SS c (D-2) LG [("self",v0),("session",v1),("index",v2),("window",v3),("pane",v4),("mouse",ah)] H (RK Q)):CL c D 262 [v0,v1,v2,v3,v4] H Q:=bx (mt 38 0) "Target.__init__" (J 255) bO 261 ["self","session","index","window","pane","mouse"] [ah] (mL λ_ _ _ _ _ w S=>by kernel_rfl) a h
noncomputable def LI:L MS:=[aQ (ax b0 (dR (av (O "session") "windows") ig [(av (O "session") "current")]) (ai ah)) [aH (ai ah)] [],aH (aB 25 283 [(O "session"),(av (O "session") "current")])]
theorem LJ(a:2<=D)(h:SS c (D-2) LI [("session",v0)] H (RK Q)):CL c D 276 [v0] H Q:=bx (as 39) "target_of_session" ah bO 275 ["session"] [] (e_ λ_ w S=>by kernel_rfl) a h
noncomputable def LK:L MS:=[aD (aT "window") (aL (av (O "session") "windows") (O "index")),aH (aB 81 265 [(O "session"),(O "index"),(O "window"),(av (O "window") "active")])]
theorem LL(a:2<=D)(h:SS c (D-2) LK [("session",v0),("index",v1)] H (RK Q)):CL c D 283 [v0,v1] H Q:=bx (as 40) "target_of_window" ah bO 282 ["session","index"] [] (d6 λ_ _ w S=>by kernel_rfl) a h
noncomputable def LM:L MS:=[aD (aT "window") (aL (av (O "session") "windows") (O "index")),d1 "pane" (av (O "window") "panes") [aQ (ax bB (av (O "pane") "number") (O "number")) [aH (aB 81 265 [(O "session"),(O "index"),(O "window"),(O "pane")])] []],aH (ai ah)]
theorem LN(a:2<=D)(h:SS c (D-2) LM [("session",v0),("index",v1),("number",v2)] H (RK Q)):CL c D 290 [v0,v1,v2] H Q:=bx (as 41) "target_of_pane" ah bO 289 ["session","index","number"] [] (fa λ_ _ _ w S=>by kernel_rfl) a h
noncomputable def LO:L MS:=[fR ["session","window"] [(aB 0 61 [(av (av (O "target") "session") "number")]),(aB 0 61 [(av (av (O "target") "window") "number")])],aH (bT cq (bT cq (bT cq (bT cq (bT cq (ai (aq #[36] 0)) (O "session")) (ai (aq #[58,64] 0))) (O "window")) (ai (aq #[46,37] 0))) (aB 0 61 [(av (av (O "target") "pane") "number")]))]
theorem LP(a:2<=D)(h:SS c (D-2) LO [("target",v0)] H (RK Q)):CL c D 297 [v0] H Q:=bx (as 42) "target_octets" ah bO 296 ["target"] [] (e_ λ_ w S=>by kernel_rfl) a h
noncomputable def LQ:L MS:=[aH (cg (ax bB (ea (O "text") [] [(ai (aa 1 0))] []) (O "sign")) (aB 1 68 [(ea (O "text") [(ai (aa 1 0))] [] [])]) (ai ah))]
theorem LR(a:2<=D)(h:SS c (D-2) LQ [("text",v0),("sign",v1)] H (RK Q)):CL c D 316 [v0,v1] H Q:=bx (as 45) "target_numbered" ah bO 315 ["text","sign"] [] (d6 λ_ _ w S=>by kernel_rfl) a h
noncomputable def LS:L MS:=[aQ (ax bB (O "text") (ai (aq #[] 0))) [aH (cg (ax b0 (O "current") (ai ah)) (ai ah) (av (O "current") "session"))] [],aD (aT "number") (aB 30 316 [(O "text"),(ai (aq #[36] 0))]),aQ (ax dq (O "number") (ai ah)) [aH (dR (av (O "server") "sessions") ig [(O "number")])] [],aD (aT "names") .any,aD (aT "key") .any,aH (cg (ax b0 (O "key") (ai ah)) (ai ah) (aL (av (O "server") "sessions") (O "key")))]
theorem LU(a:2<=D)(h:SS c (D-2) LS [("text",v0),("server",v1),("current",v2)] H (RK Q)):CL c D 321 [v0,v1,v2] H Q:=bx (as 46) "target_session" ah bO 320 ["text","server","current"] [] (fa λ_ _ _ w S=>by kernel_rfl) a h
noncomputable def LV:L MS:=[aQ (ax jn (ea (O "text") [] [(ai (aa 1 0))] []) (dz [(ai (aq #[43] 0)),(ai (aq #[45] 0))])) [aH (ai ah)] [],aD (aT "many") (cg (ax bB (b4 fh [(O "text")]) (ai (aa 1 0))) (ai (aa 1 0)) (aB 1 68 [(ea (O "text") [(ai (aa 1 0))] [] [])])),aQ (ax b0 (O "many") (ai ah)) [aH (ai ah)] [],aH (cg (ax bB (ea (O "text") [] [(ai (aa 1 0))] []) (ai (aq #[43] 0))) (O "many") (eP (O "many")))]
theorem LW(a:2<=D)(h:SS c (D-2) LV [("text",v0)] H (RK Q)):CL c D 328 [v0] H Q:=bx (as 47) "target_step" ah bO 327 ["text"] [] (e_ λ_ w S=>by kernel_rfl) a h
noncomputable def LY:L MS:=[aQ (ax dF (av (O "session") "current") (O "keys")) [aH (av (O "session") "current")] [],aH (cg (ax eY (O "keys") (c8 [])) (aL (O "keys") (ai (aa 0 0))) (ai ah))]
theorem LZ(a:2<=D)(h:SS c (D-2) LY [("session",v0),("keys",v1)] H (RK Q)):CL c D 342 [v0,v1] H Q:=bx (as 49) "target_shown" ah bO 341 ["session","keys"] [] (d6 λ_ _ w S=>by kernel_rfl) a h
noncomputable def L0:L MS:=[fR ["keys","word"] [(b4 fv [(av (O "session") "windows")]),(dR (hj 88 (J 237)) .getb [(O "text"),(O "text")])],aQ (d0 [(ax bB (O "text") (ai (aq #[] 0))),(ax bB (O "keys") (c8 []))]) [aH (cg (ax dF (av (O "session") "current") (av (O "session") "windows")) (av (O "session") "current") (ai ah))] [],aQ (d0 [(ax bB (O "word") (ai (aq #[94] 0))),(ax bB (O "word") (ai (aq #[36] 0)))]) [aH (cg (ax bB (O "word") (ai (aq #[94] 0))) (aL (O "keys") (ai (aa 0 0))) (aL (O "keys") (eP (ai (aa 1 0)))))] [],aQ (ax bB (O "word") (ai (aq #[33] 0))) [aH (cg (ax dF (av (O "session") "last") (av (O "session") "windows")) (av (O "session") "last") (ai ah))] [],aD (aT "step") (aB 32 328 [(O "word")]),aQ (ax dq (O "step") (ai ah)) [aH .any] [],aD (aT "number") (aB 30 316 [(O "word"),(ai (aq #[64] 0))]),aQ (ax dq (O "number") (ai ah)) [aH (aB 34 342 [(O "session"),(iM (O "key") "key" (O "keys") [(ax bB (av (aL (av (O "session") "windows") (O "key")) "number") (O "number"))] ["number","session"])])] [],aD (aT "number") (aB 1 68 [(cg (ax bB (ea (O "word") [] [(ai (aa 1 0))] []) (ai (aq #[61] 0))) (ea (O "word") [(ai (aa 1 0))] [] []) (O "word"))]),aQ (ei [(ax dq (O "number") (ai ah)),(ax dF (O "number") (av (O "session") "windows"))]) [aH (O "number")] [],aH .any]
theorem L1(a:2<=D)(h:SS c (D-2) L0 [("text",v0),("session",v1)] H (RK Q)):CL c D 347 [v0,v1] H Q:=bx (as 50) "target_index" ah bO 346 ["text","session"] [] (d6 λ_ _ w S=>by kernel_rfl) a h
noncomputable def L2:L MS:=[aH (iM (av (O "pane") "number") "pane" (av (O "window") "panes") [] [])]
theorem L3(a:2<=D)(h:SS c (D-2) L2 [("window",v0)] H (RK Q)):CL c D 352 [v0] H Q:=bx (as 51) "target_pane_numbers" ah bO 351 ["window"] [] (e_ λ_ w S=>by kernel_rfl) a h
noncomputable def L4:L MS:=[fR ["numbers","word"] [(aB 36 352 [(O "window")]),(dR (hj 88 (J 237)) .getb [(O "text"),(O "text")])],aQ (ax bB (O "text") (ai (aq #[] 0))) [aH (av (av (O "window") "active") "number")] [],aQ (ax bB (O "word") (ai (aq #[33] 0))) [aH (cg (ax b0 (av (O "window") "last") (ai ah)) (ai ah) (av (av (O "window") "last") "number"))] [],aQ (ax dF (O "word") (hj 90 (J 239))) [aH .any] [],aQ (ax dF (O "word") (hj 89 (J 238))) [aH .any] [],aD (aT "step") (aB 32 328 [(O "word")]),aQ (ax dq (O "step") (ai ah)) [aH .any] [],aD (aT "number") (aB 30 316 [(O "word"),(ai (aq #[37] 0))]),aQ (ax dq (O "number") (ai ah)) [aH (O "number")] [],aD (aT "number") (aB 1 68 [(O "word")]),aD (aT "at") (cg (ax b0 (O "number") (ai ah)) (eP (ai (aa 1 0))) (bT hh (O "number") .any)),aH (cg (.cmp2 .LtE .Lt (ai (aa 0 0)) (O "at") (b4 fh [(O "numbers")])) (aL (O "numbers") (O "at")) (ai ah))]
theorem L5(a:2<=D)(h:SS c (D-2) L4 [("text",v0),("window",v1)] H (RK Q)):CL c D 387 [v0,v1] H Q:=bx (as 56) "target_pane_number" ah bO 386 ["text","window"] [] (d6 λ_ _ w S=>by kernel_rfl) a h
noncomputable def L6:L MS:=[aD (aT "number") (aB 41 387 [(O "text"),(aL (av (O "session") "windows") (O "index"))]),aH (cg (ax b0 (O "number") (ai ah)) (ai ah) (aB 26 290 [(O "session"),(O "index"),(O "number")]))]
theorem L7(a:2<=D)(h:SS c (D-2) L6 [("session",v0),("index",v1),("text",v2)] H (RK Q)):CL c D 394 [v0,v1,v2] H Q:=bx (as 57) "target_in_window" ah bO 393 ["session","index","text"] [] (fa λ_ _ _ w S=>by kernel_rfl) a h
noncomputable def Bf:L MS:=[aD (aT "found") (cg (ax b0 (O "current") (ai ah)) (c8 []) (c8 [(av (O "current") "session")])),d1 "key" (b4 fv [(av (O "server") "sessions")]) [aQ (d0 [(ax bB (O "found") (c8 [])),(ax dq (aL (av (O "server") "sessions") (O "key")) (aL (O "found") (ai (aa 0 0))))]) [cG (dR (O "found") nk [(aL (av (O "server") "sessions") (O "key"))])] []],aH (O "found")]
theorem L8(a:2<=D)(h:SS c (D-2) Bf [("server",v0),("current",v1)] H (RK Q)):CL c D 401 [v0,v1] H Q:=bx (as 58) "target_sessions" ah bO 400 ["server","current"] [] (d6 λ_ _ w S=>by kernel_rfl) a h
noncomputable def L9:L MS:=[aD (aT "number") (aB 1 68 [(ea (O "text") [(ai (aa 1 0))] [] [])]),d1 "session" (cg (ax dq (O "number") (ai ah)) (aB 43 401 [(O "server"),(O "current")]) (c8 [])) [aD (aT "keys") (b4 fv [(av (O "session") "windows")]),aQ (ax bB (ea (O "text") [] [(ai (aa 1 0))] []) (ai (aq #[37] 0))) [ih "keys" (O "key") "key" (O "keys") [(ax dF (O "number") (aB 36 352 [(aL (av (O "session") "windows") (O "key"))]))] ["number","session"]] [ih "keys" (O "key") "key" (O "keys") [(ax bB (av (aL (av (O "session") "windows") (O "key")) "number") (O "number"))] ["number","session"]],aD (aT "index") (aB 34 342 [(O "session"),(O "keys")]),aQ (ei [(ax dq (O "index") (ai ah)),(ax bB (ea (O "text") [] [(ai (aa 1 0))] []) (ai (aq #[37] 0)))]) [aH (aB 26 290 [(O "session"),(O "index"),(O "number")])] [],aQ (ax dq (O "index") (ai ah)) [aH (aB 25 283 [(O "session"),(O "index")])] []],aH (ai ah)]
theorem L_(a:2<=D)(h:SS c (D-2) L9 [("text",v0),("server",v1),("current",v2)] H (RK Q)):CL c D 406 [v0,v1,v2] H Q:=bx (as 59) "target_by_number" ah bO 405 ["text","server","current"] [] (fa λ_ _ _ w S=>by kernel_rfl) a h
noncomputable def Bg:L MS:=[aQ (ax b0 (av (O "server") "marked") (ai ah)) [aH (ai ah)] [],aD (.tup [(aT "key"),(aT "index"),(aT "number")]) (av (O "server") "marked"),fR ["session","found"] [(dR (av (O "server") "sessions") ig [(O "key")]),(ai ah)],aQ (ei [(ax dq (O "session") (ai ah)),(ax dF (O "index") (av (O "session") "windows"))]) [aD (aT "found") (aB 26 290 [(O "session"),(O "index"),(O "number")])] [],aH (cg (ax b0 (O "found") (ai ah)) (aB 44 406 [(bT cq (ai (aq #[37] 0)) (aB 0 61 [(O "number")])),(O "server"),(ai ah)]) (O "found"))]
theorem Ma(a:2<=D)(h:SS c (D-2) Bg [("server",v0)] H (RK Q)):CL c D 413 [v0] H Q:=bx (as 60) "target_marked" ah bO 412 ["server"] [] (e_ λ_ w S=>by kernel_rfl) a h
noncomputable def rT:L MS:=[aQ (ax bB (O "text") (ai (aq #[] 0))) [aH (dz [(ai (az true)),(O "current")])] [],aQ (ax dF (O "text") (dz [(ai (aq #[61] 0)),(ai (aq #[123,109,111,117,115,101,125] 0))])) [aH (dz [(ai (az true)),(cg (ax b0 (O "current") (ai ah)) (ai ah) (av (O "current") "mouse"))])] [],aQ (ax dF (O "text") (dz [(ai (aq #[126] 0)),(ai (aq #[123,109,97,114,107,101,100,125] 0))])) [aH (dz [(ai (az true)),(aB 45 413 [(O "server")])])] [],aQ (ei [(ax dF (ea (O "text") [] [(ai (aa 1 0))] []) (dz [(ai (aq #[64] 0)),(ai (aq #[37] 0))])),(ax bB (aB 48 434 [(O "text")]) (dz [(ai ah),(O "text"),(ai ah)]))]) [aH (dz [(ai (az true)),(aB 44 406 [(O "text"),(O "server"),(O "current")])])] [],aH (dz [(ai (az false)),(ai ah)])]
theorem rU(a:2<=D)(h:SS c (D-2) rT [("text",v0),("server",v1),("current",v2)] H (RK Q)):CL c D 420 [v0,v1,v2] H Q:=bx (as 61) "target_told" ah bO 419 ["text","server","current"] [] (fa λ_ _ _ w S=>by kernel_rfl) a h
noncomputable def Mb:L MS:=[aD (aT "colon") (dR (O "text") .find [(ai (aq #[58] 0))]),aD (aT "rest") (ea (O "text") [(bT cq (O "colon") (ai (aa 1 0)))] [] []),aD (aT "point") (dR (O "rest") .rfind [(ai (aq #[46] 0))]),aD (aT "window") (cg (ax .Lt (O "point") (ai (aa 0 0))) (O "rest") (ea (O "rest") [] [(O "point")] [])),aH (dz [(cg (ax .Lt (O "colon") (ai (aa 0 0))) (ai ah) (ea (O "text") [] [(O "colon")] [])),(O "window"),(cg (ax .Lt (O "point") (ai (aa 0 0))) (ai ah) (ea (O "rest") [(bT cq (O "point") (ai (aa 1 0)))] [] []))])]
theorem Bh(a:2<=D)(h:SS c (D-2) Mb [("text",v0)] H (RK Q)):CL c D 434 [v0] H Q:=bx (as 63) "target_cut" ah bO 433 ["text"] [] (e_ λ_ w S=>by kernel_rfl) a h
noncomputable def Mc:L MS:=[aD (.tup [(aT "first"),(aT "second"),(aT "third")]) (aB 48 434 [(O "text")]),aQ (ei [(ax b0 (O "first") (ai ah)),(ax bB (ea (O "second") [] [(ai (aa 1 0))] []) (ai (aq #[64] 0)))]) [aD (aT "found") (aB 44 406 [(O "second"),(O "server"),(O "current")]),aH (cg (ax b0 (O "found") (ai ah)) (ai ah) (aB 42 394 [(av (O "found") "session"),(av (O "found") "index"),(O "third")]))] [],aD (aT "session") (aB 31 321 [(cg (ax b0 (O "first") (ai ah)) (ai (aq #[] 0)) (O "first")),(O "server"),(O "current")]),aQ (ax b0 (O "session") (ai ah)) [aH (ai ah)] [],aD (aT "is_here") (ei [(ax bB (O "second") (ai (aq #[] 0))),(ax dq (O "current") (ai ah)),(ax b0 (O "session") (av (O "current") "session"))]),aD (aT "index") (cg (O "is_here") (av (O "current") "index") (aB 35 347 [(O "second"),(O "session")])),aQ (d0 [(ax b0 (O "index") (ai ah)),(ax jn (O "index") (av (O "session") "windows"))]) [aH (ai ah)] [],aH (cg (ax b0 (O "third") (ai ah)) (aB 25 283 [(O "session"),(O "index")]) (aB 42 394 [(O "session"),(O "index"),(O "third")]))]
theorem Md(a:2<=D)(h:SS c (D-2) Mc [("text",v0),("server",v1),("current",v2)] H (RK Q)):CL c D 441 [v0,v1,v2] H Q:=bx (as 64) "target_by_parts" ah bO 440 ["text","server","current"] [] (fa λ_ _ _ w S=>by kernel_rfl) a h
noncomputable def Me:L MS:=[aD (bG (O "self") "number") (O "number"),aD (bG (O "self") "terminal") (O "terminal"),aD (bG (O "self") "rows") (ai (aa 0 0)),aD (bG (O "self") "columns") (ai (aa 0 0)),aD (bG (O "self") "bells") (ai (aa 0 0)),aD (bG (O "self") "title") (ai (aq #[] 0)),aD (bG (O "self") "is_dead") (ai (az false)),aD (bG (O "self") "options") (ai ah)]
theorem Mf(a:2<=D)(h:SS c (D-2) Me [("self",v0),("number",v1),("terminal",ah)] H (RK Q)):CL c D 463 [v0,v1] H Q:=bx (mt 67 0) "Pane.__init__" (J 456) bw 462 ["self","number","terminal"] [ah] (d6 λ_ _ w S=>by kernel_rfl) a h
noncomputable def Mg:L MS:=[aQ (ax bB (dz [(O "rows"),(O "columns")]) (dz [(av (O "self") "rows"),(av (O "self") "columns")])) [aH (ai (az false))] [],iN [(bG (O "self") "rows"),(bG (O "self") "columns")] [(O "rows"),(O "columns")],aQ (ax dq (av (O "self") "terminal") (ai ah)) [cG (cC (av (O "self") "terminal") "resize" [(O "rows"),(O "columns")])] [],aH (ai (az true))]
theorem Mh(a:2<=D)(h:SS c (D-2) Mg [("self",v0),("rows",v1),("columns",v2)] H (RK Q)):CL c D 470 [v0,v1,v2] H Q:=bx (mt 67 1) "Pane.sized" ah bw 469 ["self","rows","columns"] [] (fa λ_ _ _ w S=>by kernel_rfl) a h
noncomputable def Mi:L MS:=[d1 "pane" (O "panes") [aQ (ax bB (av (O "pane") "number") (O "number")) [aH (O "pane")] []],aH (ai ah)]
theorem Mj(a:2<=D)(h:SS c (D-2) Mi [("panes",v0),("number",v1)] H (RK Q)):CL c D 491 [v0,v1] H Q:=bx (as 68) "pane_numbered" ah bw 490 ["panes","number"] [] (d6 λ_ _ w S=>by kernel_rfl) a h
noncomputable def Mk:L MS:=[aD (bG (O "self") "number") (O "number"),aD (bG (O "self") "name") (O "name"),aD (bG (O "self") "panes") (c8 [(O "pane")]),aD (bG (O "self") "active") (O "pane"),aD (bG (O "self") "last") (ai ah),aD (bG (O "self") "layout") (aB 2 96 [(av (O "pane") "number"),(O "width"),(O "height")]),aD (bG (O "self") "is_zoomed") (ai (az false)),aD (bG (O "self") "has_bell") (ai (az false)),aD (bG (O "self") "has_activity") (ai (az false)),aD (bG (O "self") "options") (ai ah),cG (cC (O "self") "hand_sizes" [])]
theorem Ml(a:2<=D)(h:SS c (D-2) Mk [("self",v0),("number",v1),("name",v2),("pane",v3),("width",v4),("height",v5)] H (RK Q)):CL c D 505 [v0,v1,v2,v3,v4,v5] H Q:=bx (mt 69 0) "Window.__init__" ah bw 504 ["self","number","name","pane","width","height"] [] (vp λ_ _ _ _ _ _ w S=>by kernel_rfl) a h
noncomputable def Mm:L MS:=[aH (av (av (O "self") "layout") "width")]
theorem Mn(a:2<=D)(h:SS c (D-2) Mm [("self",v0)] H (RK Q)):CL c D 512 [v0] H Q:=bx (mt 69 1) "Window.width" ah bw 511 ["self"] [] (e_ λ_ w S=>by kernel_rfl) a h
noncomputable def Mo:L MS:=[aH (av (av (O "self") "layout") "height")]
theorem Mp(a:2<=D)(h:SS c (D-2) Mo [("self",v0)] H (RK Q)):CL c D 520 [v0] H Q:=bx (mt 69 2) "Window.height" ah bw 519 ["self"] [] (e_ λ_ w S=>by kernel_rfl) a h
noncomputable def Mq:L MS:=[d1 "leaf" (aB 4 108 [(av (O "self") "layout")]) [aD (aT "pane") (aB 51 491 [(av (O "self") "panes"),(av (O "leaf") "pane")]),aQ (ei [(av (O "self") "is_zoomed"),(ax b0 (O "pane") (av (O "self") "active"))]) [cG (cC (O "pane") "sized" [(av (av (O "self") "layout") "height"),(av (av (O "self") "layout") "width")])] [cG (cC (O "pane") "sized" [(av (O "leaf") "height"),(av (O "leaf") "width")])]]]
theorem Mr(a:2<=D)(h:SS c (D-2) Mq [("self",v0)] H (RK Q)):CL c D 528 [v0] H Q:=bx (mt 69 3) "Window.hand_sizes" ah bw 527 ["self"] [] (e_ λ_ w S=>by kernel_rfl) a h
noncomputable def vq:L MS:=[aD (aT "known") (bT cq (av (O "self") "panes") (b4 .list [(O "more")])),aD (bG (O "self") "layout") (O "layout"),aD (bG (O "self") "panes") (iM (aB 51 491 [(O "known"),(O "number")]) "number" (aB 5 113 [(O "layout")]) [] ["known"]),aD (bG (O "self") "is_zoomed") (ai (az false)),cG (cC (O "self") "hand_sizes" [])]
theorem Ms(a:2<=D)(h:SS c (D-2) vq [("self",v0),("layout",v1),("more",v2)] H (RK Q)):CL c D 535 [v0,v1,v2] H Q:=bx (mt 69 4) "Window.lay" (J 530) bw 534 ["self","layout","more"] [] (fa λ_ _ _ w S=>by kernel_rfl) a h
theorem Mt(a:2<=D)(h:SS c (D-2) vq [("self",v0),("layout",v1),("more",(J 529))] H (RK Q)):CL c D 535 [v0,v1] H Q:=bx (mt 69 4) "Window.lay" (J 530) bw 534 ["self","layout","more"] [J 529] (d6 λ_ _ w S=>by kernel_rfl) a h
noncomputable def Mu:L MS:=[aH (ax b0 (aB 51 491 [(av (O "self") "panes"),(av (O "pane") "number")]) (O "pane"))]
theorem Mv(a:2<=D)(h:SS c (D-2) Mu [("self",v0),("pane",v1)] H (RK Q)):CL c D 542 [v0,v1] H Q:=bx (mt 69 5) "Window.has" ah bw 541 ["self","pane"] [] (d6 λ_ _ w S=>by kernel_rfl) a h
noncomputable def Mw:L MS:=[aQ (fw (cC (O "self") "has" [(O "pane")])) [aH (ai (az false))] [],aQ (ax dq (O "pane") (av (O "self") "active")) [aD (bG (O "self") "last") (av (O "self") "active"),aD (bG (O "self") "active") (O "pane"),aQ (av (O "self") "is_zoomed") [aD (bG (O "self") "is_zoomed") (ai (az false)),cG (cC (O "self") "hand_sizes" [])] []] [],aH (ai (az true))]
theorem Mx(a:2<=D)(h:SS c (D-2) Mw [("self",v0),("pane",v1)] H (RK Q)):CL c D 549 [v0,v1] H Q:=bx (mt 69 6) "Window.select" ah bw 548 ["self","pane"] [] (d6 λ_ _ w S=>by kernel_rfl) a h
noncomputable def My:L MS:=[aD (aT "found") (aB 15 182 [(av (O "self") "layout"),(av (O "pane") "number"),(av (O "fresh") "number"),(O "is_row"),(O "size"),(O "is_before")]),aQ (ax b0 (O "found") (ai ah)) [aH (ai (az false))] [],cG (cC (O "self") "lay" [(O "found"),(c8 [(O "fresh")])]),aQ (O "is_active") [cG (cC (O "self") "select" [(O "fresh")])] [],aH (ai (az true))]
theorem Mz(a:2<=D)(h:SS c (D-2) My [("self",v0),("pane",v1),("fresh",v2),("is_row",v3),("size",ah),("is_before",(az false)),("is_active",(az true))] H (RK Q)):CL c D 586 [v0,v1,v2,v3] H Q:=bx (mt 69 11) "Window.split" (J 579) bw 585 ["self","pane","fresh","is_row","size","is_before","is_active"] [ah,az false,az true] (n1 λ_ _ _ _ w S=>by kernel_rfl) a h
noncomputable def Bi:L MS:=[aD (aT "found") (cg (cC (O "self") "has" [(O "pane")]) (aB 17 196 [(av (O "self") "layout"),(av (O "pane") "number")]) (ai ah)),aQ (ax b0 (O "found") (ai ah)) [aH (ai (az false))] [],aD (aT "at") (dR (aB 5 113 [(av (O "self") "layout")]) .index [(av (O "pane") "number")]),cG (cC (O "self") "lay" [(O "found")]),aQ (ax b0 (av (O "self") "last") (O "pane")) [aD (bG (O "self") "last") (ai ah)] [],aQ (ax b0 (av (O "self") "active") (O "pane")) [aD (bG (O "self") "active") (cg (ax b0 (av (O "self") "last") (ai ah)) (aL (av (O "self") "panes") (b4 .max [(ai (aa 0 0)),(bT hh (O "at") (ai (aa 1 0)))])) (av (O "self") "last")),aD (bG (O "self") "last") (ai ah)] [],aH (ai (az true))]
theorem MA(a:2<=D)(h:SS c (D-2) Bi [("self",v0),("pane",v1)] H (RK Q)):CL c D 593 [v0,v1] H Q:=bx (mt 69 12) "Window.drop" ah bw 592 ["self","pane"] [] (d6 λ_ _ w S=>by kernel_rfl) a h
noncomputable def MB:L MS:=[aD (aT "found") (aB 20 215 [(av (O "self") "layout"),(av (O "one") "number"),(av (O "other") "number")]),aQ (ax dq (O "found") (ai ah)) [cG (cC (O "self") "lay" [(O "found")])] [],aH (ax dq (O "found") (ai ah))]
theorem MC(a:2<=D)(h:SS c (D-2) MB [("self",v0),("one",v1),("other",v2)] H (RK Q)):CL c D 621 [v0,v1,v2] H Q:=bx (mt 69 16) "Window.swap" ah bw 620 ["self","one","other"] [] (fa λ_ _ _ w S=>by kernel_rfl) a h
noncomputable def MD:L MS:=[aD (bG (O "self") "has_bell") (ai (az false)),aD (bG (O "self") "has_activity") (ai (az false))]
theorem MF(a:2<=D)(h:SS c (D-2) MD [("self",v0)] H (RK Q)):CL c D 658 [v0] H Q:=bx (mt 69 21) "Window.seen" ah bw 657 ["self"] [] (e_ λ_ w S=>by kernel_rfl) a h
noncomputable def MG:L MS:=[fR ["width","height"] [(.prp (O "window") "width"),(.prp (O "window") "height")],aQ (fw (cC (O "window") "drop" [(O "pane")])) [aH (ai ah)] [],aH (aB 83 661 [(O "number"),(O "name"),(O "pane"),(O "width"),(O "height")])]
theorem MH(a:2<=D)(h:SS c (D-2) MG [("window",v0),("pane",v1),("number",v2),("name",v3)] H (RK Q)):CL c D 672 [v0,v1,v2,v3] H Q:=bx (as 70) "break_pane" ah bw 671 ["window","pane","number","name"] [] (n1 λ_ _ _ _ w S=>by kernel_rfl) a h
noncomputable def MI:L MS:=[aQ (d0 [(fw (cC (O "source") "has" [(O "pane")])),(fw (cC (O "target") "has" [(O "beside")])),(ax b0 (O "pane") (O "beside"))]) [aH (ai (az false))] [],aD (aT "layout") (av (O "target") "layout"),aQ (ax b0 (O "source") (O "target")) [aD (aT "layout") (aB 17 196 [(O "layout"),(av (O "pane") "number")])] [],aD (aT "found") (aB 15 182 [(O "layout"),(av (O "beside") "number"),(av (O "pane") "number"),(O "is_row"),(O "size"),(O "is_before")]),aQ (ax b0 (O "found") (ai ah)) [aH (ai (az false))] [],aQ (ax dq (O "source") (O "target")) [cG (cC (O "source") "drop" [(O "pane")])] [],cG (cC (O "target") "lay" [(O "found"),(c8 [(O "pane")])]),aQ (O "is_active") [cG (cC (O "target") "select" [(O "pane")])] [],aH (ai (az true))]
theorem MJ(a:2<=D)(h:SS c (D-2) MI [("source",v0),("pane",v1),("target",v2),("beside",v3),("is_row",v4),("size",ah),("is_before",(az false)),("is_active",(az true))] H (RK Q)):CL c D 680 [v0,v1,v2,v3,v4] H Q:=bx (as 71) "join_pane" (J 673) bw 679 ["source","pane","target","beside","is_row","size","is_before","is_active"] [ah,az false,az true] (mL λ_ _ _ _ _ w S=>by kernel_rfl) a h
noncomputable def MK:L MS:=[aQ (d0 [(fw (cC (O "one") "has" [(O "pane")])),(fw (cC (O "other") "has" [(O "mate")]))]) [aH (ai (az false))] [],aQ (ax b0 (O "one") (O "other")) [aH (cC (O "one") "swap" [(O "pane"),(O "mate")])] [],.forT [(aT "window"),(aT "gone"),(aT "fresh")] [(dz [(O "one"),(O "pane"),(O "mate")]),(dz [(O "other"),(O "mate"),(O "pane")])] [ih "numbers" (cg (ax bB (O "number") (av (O "gone") "number")) (av (O "fresh") "number") (O "number")) "number" (aB 5 113 [(av (O "window") "layout")]) [] ["fresh","gone"],aQ (ax b0 (av (O "window") "active") (O "gone")) [aD (bG (O "window") "active") (O "fresh")] [],aQ (ax b0 (av (O "window") "last") (O "gone")) [aD (bG (O "window") "last") (O "fresh")] [],cG (cC (O "window") "lay" [(aB 19 210 [(av (O "window") "layout"),(O "numbers")]),(c8 [(O "fresh")])])],aH (ai (az true))]
theorem ML(a:2<=D)(h:SS c (D-2) MK [("one",v0),("pane",v1),("other",v2),("mate",v3)] H (RK Q)):CL c D 685 [v0,v1,v2,v3] H Q:=bx (as 72) "exchange_panes" ah bw 684 ["one","pane","other","mate"] [] (n1 λ_ _ _ _ w S=>by kernel_rfl) a h
noncomputable def MM:L MS:=[aD (bG (O "self") "number") (O "number"),aD (bG (O "self") "name") (O "name"),aD (bG (O "self") "windows") (cg (ax b0 (O "windows") (ai ah)) .dct0 (O "windows")),aD (bG (O "self") "group") (O "group"),aD (bG (O "self") "options") (ai ah),aD (bG (O "self") "last") (ai ah),aD (bG (O "self") "current") (cg (ax .Gt (b4 fh [(av (O "self") "windows")]) (ai (aa 0 0))) (b4 .min [(av (O "self") "windows")]) (ai ah))]
theorem MN(a:2<=D)(h:SS c (D-2) MM [("self",v0),("number",v1),("name",v2),("windows",ah),("group",ah)] H (RK Q)):CL c D 700 [v0,v1,v2] H Q:=bx (mt 73 0) "Session.__init__" (J 693) bw 699 ["self","number","name","windows","group"] [ah,ah] (fa λ_ _ _ w S=>by kernel_rfl) a h
noncomputable def MP:L MS:=[aH (b4 fv [(av (O "self") "windows")])]
theorem MQ(a:2<=D)(h:SS c (D-2) MP [("self",v0)] H (RK Q)):CL c D 707 [v0] H Q:=bx (mt 73 1) "Session.indexes" ah bw 706 ["self"] [] (e_ λ_ w S=>by kernel_rfl) a h
noncomputable def MR:L MS:=[.whl (ax dF (O "least") (av (O "self") "windows")) [.aug "least" cq (ai (aa 1 0))],aH (O "least")]
theorem MU(a:2<=D)(h:SS c (D-2) MR [("self",v0),("least",v1)] H (RK Q)):CL c D 729 [v0,v1] H Q:=bx (mt 73 4) "Session.free_index" (J 722) bw 728 ["self","least"] [] (d6 λ_ _ w S=>by kernel_rfl) a h
noncomputable def vr:L MS:=[aD (aT "place") (cg (ax b0 (O "index") (ai ah)) (cC (O "self") "free_index" [(O "least")]) (O "index")),aQ (ax dF (O "place") (av (O "self") "windows")) [aH (ai ah)] [],aD (gP (av (O "self") "windows") (O "place")) (O "window"),aQ (d0 [(O "is_current"),(ax b0 (av (O "self") "current") (ai ah))]) [cG (cC (O "self") "select" [(O "place")])] [],aH (O "place")]
theorem MV(a:2<=D)(h:SS c (D-2) vr [("self",v0),("window",v1),("index",v2),("least",v3),("is_current",v4)] H (RK Q)):CL c D 737 [v0,v1,v2,v3,v4] H Q:=bx (mt 73 5) "Session.add" (J 730) bw 736 ["self","window","index","least","is_current"] [] (mL λ_ _ _ _ _ w S=>by kernel_rfl) a h
theorem MW(a:2<=D)(h:SS c (D-2) vr [("self",v0),("window",v1),("index",v2),("least",(aa 0 0)),("is_current",(az true))] H (RK Q)):CL c D 737 [v0,v1,v2] H Q:=bx (mt 73 5) "Session.add" (J 730) bw 736 ["self","window","index","least","is_current"] [aa 0 1261,az true] (fa λ_ _ _ w S=>by kernel_rfl) a h
noncomputable def MX:L MS:=[aQ (ax jn (O "index") (av (O "self") "windows")) [aH (ai (az false))] [],cG (cC (O "self") "settle" []),aQ (ax eY (O "index") (av (O "self") "current")) [aD (bG (O "self") "last") (av (O "self") "current"),aD (bG (O "self") "current") (O "index")] [],cG (cC (aL (av (O "self") "windows") (O "index")) "seen" []),aH (ai (az true))]
theorem MY(a:2<=D)(h:SS c (D-2) MX [("self",v0),("index",v1)] H (RK Q)):CL c D 744 [v0,v1] H Q:=bx (mt 73 6) "Session.select" ah bw 743 ["self","index"] [] (d6 λ_ _ w S=>by kernel_rfl) a h
noncomputable def pP:L MS:=[aQ (ei [(ax dq (av (O "self") "last") (ai ah)),(ax jn (av (O "self") "last") (av (O "self") "windows"))]) [aD (bG (O "self") "last") (ai ah)] [],aQ (ax dF (av (O "self") "current") (av (O "self") "windows")) [aQ (ax bB (av (O "self") "last") (av (O "self") "current")) [aD (bG (O "self") "last") (ai ah)] [],.ret0] [],iN [(aT "gone"),(aT "row")] [(cg (ax b0 (av (O "self") "current") (ai ah)) (eP (ai (aa 1 0))) (av (O "self") "current")),(cC (O "self") "indexes" [])],aD (bG (O "self") "current") (ai ah),aQ (ax eY (O "row") (c8 [])) [ih "behind" (O "index") "index" (O "row") [(ax .Gt (O "index") (O "gone"))] ["gone"],aD (aT "choice") (cg (ax eY (O "behind") (c8 [])) (aL (O "behind") (ai (aa 0 0))) (aL (O "row") (eP (ai (aa 1 0))))),aD (bG (O "self") "current") (cg (ax b0 (av (O "self") "last") (ai ah)) (O "choice") (av (O "self") "last")),cG (cC (aL (av (O "self") "windows") (av (O "self") "current")) "seen" [])] [],aD (bG (O "self") "last") (ai ah)]
theorem MZ(a:2<=D)(h:SS c (D-2) pP [("self",v0)] H (RK Q)):CL c D 764 [v0] H Q:=bx (mt 73 9) "Session.settle" ah bw 763 ["self"] [] (e_ λ_ w S=>by kernel_rfl) a h
noncomputable def M0:L MS:=[aD (aT "found") (dR (av (O "self") "windows") .dpop [(O "index"),(ai ah)]),cG (cC (O "self") "settle" []),aH (O "found")]
theorem M1(a:2<=D)(h:SS c (D-2) M0 [("self",v0),("index",v1)] H (RK Q)):CL c D 771 [v0,v1] H Q:=bx (mt 73 10) "Session.take" ah bw 770 ["self","index"] [] (d6 λ_ _ w S=>by kernel_rfl) a h
noncomputable def M2:L MS:=[aH (cC (O "target") "add" [(O "window"),(O "goal"),(O "least"),(O "is_current")])]
theorem M3(a:2<=D)(h:SS c (D-2) M2 [("window",v0),("target",v1),("goal",v2),("least",v3),("is_current",v4)] H (RK Q)):CL c D 802 [v0,v1,v2,v3,v4] H Q:=bx (as 74) "link_window" (J 795) bw 801 ["window","target","goal","least","is_current"] [] (mL λ_ _ _ _ _ w S=>by kernel_rfl) a h
noncomputable def M4:L MS:=[d1 "session" (O "sessions") [d1 "index" (cC (O "session") "indexes" []) [aD (aT "pane") (aB 51 491 [(av (aL (av (O "session") "windows") (O "index")) "panes"),(O "number")]),aQ (ax dq (O "pane") (ai ah)) [aH (dz [(O "session"),(O "index"),(aL (av (O "session") "windows") (O "index")),(O "pane")])] []]],aH (ai ah)]
theorem M5(a:2<=D)(h:SS c (D-2) M4 [("sessions",v0),("number",v1)] H (RK Q)):CL c D 809 [v0,v1] H Q:=bx (as 75) "pane_place" ah bw 808 ["sessions","number"] [] (d6 λ_ _ w S=>by kernel_rfl) a h
noncomputable def Bj:L MS:=[aQ (ax bB (O "deck") (c8 [])) [aH (ai (aa 0 0))] [],aD (aT "here") (aL (O "deck") (ai (aa 0 0))),aQ (ax .Lt (O "here") (O "many")) [cG (dR (O "deck") .lpop [(ai (aa 0 0))])] [aD (gP (O "deck") (ai (aa 0 0))) (bT qI (O "here") (O "many"))],aH (bT .Mod (O "here") (O "many"))]
theorem M6(a:2<=D)(h:SS c (D-2) Bj [("deck",v0),("many",v1)] H (RK Q)):CL c D 817 [v0,v1] H Q:=bx (as 78) "_law_draw" ah cl 816 ["deck","many"] [] (d6 λ_ _ w S=>by kernel_rfl) a h
noncomputable def M7:L MS:=[aH (aL (O "some") (aB 57 817 [(O "deck"),(b4 fh [(O "some")])]))]
theorem M8(a:2<=D)(h:SS c (D-2) M7 [("deck",v0),("some",v1)] H (RK Q)):CL c D 824 [v0,v1] H Q:=bx (as 79) "_law_pick" ah cl 823 ["deck","some"] [] (d6 λ_ _ w S=>by kernel_rfl) a h
noncomputable def M9:L MS:=[aH (b4 .bytes [(iM (b4 .ord [(O "figure")]) "figure" (b4 .str [(O "number")]) [] [])])]
theorem M_(a:2<=D)(h:SS c (D-2) M9 [("number",v0)] H (RK Q)):CL c D 829 [v0] H Q:=bx (as 80) "_law_figures" ah cl 828 ["number"] [] (e_ λ_ w S=>by kernel_rfl) a h
noncomputable def Na:L MS:=[aH (iM (O "pane") "pane" (b4 fv [(aL (O "world") (ai (aE (I "homes") 0)))]) [(ax bB (aL (aL (O "world") (ai (aE (I "homes") 0))) (O "pane")) (O "number"))] ["number","world"])]
theorem Nb(a:2<=D)(h:SS c (D-2) Na [("world",v0),("number",v1)] H (RK Q)):CL c D 834 [v0,v1] H Q:=bx (as 81) "_law_numbers" ah cl 833 ["world","number"] [] (d6 λ_ _ w S=>by kernel_rfl) a h
noncomputable def Bl:L MS:=[fR ["key","index"] [(aB 58 824 [(O "deck"),(b4 fv [(aL (O "world") (ai (aE (I "sessions") 0)))])]),(aB 57 817 [(O "deck"),(ai (aa 3 0))])],fR ["session","least","row"] [(aL (aL (O "world") (ai (aE (I "sessions") 0))) (O "key")),(O "index"),(aL (aL (O "world") (ai (aE (I "places") 0))) (O "key"))],.whl (ax dF (O "index") (O "row")) [aD (aT "index") (bT cq (O "index") (ai (aa 1 0)))],aD (gP (O "row") (O "index")) (O "number"),aH (ax bB (aB 55 802 [(aL (aL (O "world") (ai (aE (I "windows") 0))) (O "number")),(O "session"),(ai ah),(O "least"),(ax bB (aB 57 817 [(O "deck"),(ai (aa 2 0))]) (ai (aa 0 0)))]) (O "index"))]
theorem Nc(a:2<=D)(h:SS c (D-2) Bl [("deck",v0),("world",v1),("number",v2)] H (RK Q)):CL c D 841 [v0,v1,v2] H Q:=bx (as 82) "_law_put" ah cl 840 ["deck","world","number"] [] (fa λ_ _ _ w S=>by kernel_rfl) a h
noncomputable def Nd:L MS:=[aD (aT "number") (b4 fh [(aL (O "world") (ai (aE (I "windows") 0)))]),cG (dR (aL (O "world") (ai (aE (I "windows") 0))) nk [(O "window")]),aD (gP (aL (O "world") (ai (aE (I "homes") 0))) (O "pane")) (O "number"),aH (O "number")]
theorem Bm(a:2<=D)(h:SS c (D-2) Nd [("world",v0),("window",v1),("pane",v2)] H (RK Q)):CL c D 848 [v0,v1,v2] H Q:=bx (as 83) "_law_window" ah cl 847 ["world","window","pane"] [] (fa λ_ _ _ w S=>by kernel_rfl) a h
noncomputable def Nf:L MS:=[cG (dR (aL (O "world") (ai (aE (I "panes") 0))) nk [(aB 82 480 [(b4 fh [(aL (O "world") (ai (aE (I "panes") 0)))])])]),aH (aL (aL (O "world") (ai (aE (I "panes") 0))) (eP (ai (aa 1 0))))]
theorem Ng(a:2<=D)(h:SS c (D-2) Nf [("world",v0)] H (RK Q)):CL c D 855 [v0] H Q:=bx (as 84) "_law_fresh" ah cl 854 ["world"] [] (e_ λ_ w S=>by kernel_rfl) a h
noncomputable def Nh:L MS:=[aD (aT "pane") (aB 63 855 [(O "world")]),aD (aT "window") (aB 83 661 [(b4 fh [(aL (O "world") (ai (aE (I "windows") 0)))]),(ai (aq #[119] 0)),(O "pane"),(ai (aa 60 0)),(ai (aa 30 0))]),aH (aB 61 841 [(O "deck"),(O "world"),(aB 62 848 [(O "world"),(O "window"),(av (O "pane") "number")])])]
theorem Ni(a:2<=D)(h:SS c (D-2) Nh [("deck",v0),("world",v1)] H (RK Q)):CL c D 862 [v0,v1] H Q:=bx (as 85) "_law_opened" ah cl 861 ["deck","world"] [] (d6 λ_ _ w S=>by kernel_rfl) a h
noncomputable def Bn:L MS:=[fR ["number","is_row"] [(aB 58 824 [(O "deck"),(aB 60 834 [(O "world"),(O "one")])]),(ax bB (aB 57 817 [(O "deck"),(ai (aa 2 0))]) (ai (aa 0 0)))],aD (aT "pane") (aB 63 855 [(O "world")]),aQ (cC (aL (aL (O "world") (ai (aE (I "windows") 0))) (O "one")) "split" [(aL (aL (O "world") (ai (aE (I "panes") 0))) (O "number")),(O "pane"),(O "is_row")]) [aD (gP (aL (O "world") (ai (aE (I "homes") 0))) (av (O "pane") "number")) (O "one")] [],aH (ai (az true))]
theorem Nj(a:2<=D)(h:SS c (D-2) Bn [("deck",v0),("world",v1),("one",v2)] H (RK Q)):CL c D 869 [v0,v1,v2] H Q:=bx (as 86) "_law_split" ah cl 868 ["deck","world","one"] [] (fa λ_ _ _ w S=>by kernel_rfl) a h
noncomputable def n3:L MS:=[fR ["windows","panes","homes"] [(aL (O "world") (ai (aE (I "windows") 0))),(aL (O "world") (ai (aE (I "panes") 0))),(aL (O "world") (ai (aE (I "homes") 0)))],fR ["number","mate"] [(aB 58 824 [(O "deck"),(aB 60 834 [(O "world"),(O "one")])]),(aB 58 824 [(O "deck"),(aB 60 834 [(O "world"),(O "other")])])],aD (aT "is_lone") (ax bB (aB 60 834 [(O "world"),(O "one")]) (c8 [(O "number")])),aQ (ax bB (O "way") (ai (aa 3 0))) [aD (aT "window") (aB 52 672 [(aL (O "windows") (O "one")),(aL (O "panes") (O "number")),(b4 fh [(O "windows")]),(ai (aq #[110] 0))]),aQ (O "is_lone") [aH (ax b0 (O "window") (ai ah))] [],aH (aB 61 841 [(O "deck"),(O "world"),(aB 62 848 [(O "world"),(O "window"),(O "number")])])] [],aQ (ax bB (O "way") (ai (aa 4 0))) [aQ (ei [(ax eY (O "one") (O "other")),(fw (O "is_lone"))]) [aQ (aB 53 680 [(aL (O "windows") (O "one")),(aL (O "panes") (O "number")),(aL (O "windows") (O "other")),(aL (O "panes") (O "mate")),(ax bB (aB 57 817 [(O "deck"),(ai (aa 2 0))]) (ai (aa 0 0)))]) [aD (gP (O "homes") (O "number")) (O "other")] []] [],aH (ai (az true))] [],aQ (ax bB (O "way") (ai (aa 5 0))) [iN [(gP (O "homes") (O "number")),(gP (O "homes") (O "mate"))] [(O "other"),(O "one")],aH (ax b0 (aB 54 685 [(aL (O "windows") (O "one")),(aL (O "panes") (O "number")),(aL (O "windows") (O "other")),(aL (O "panes") (O "mate"))]) (ai (az true)))] [],aQ (fw (O "is_lone")) [cG (dR (O "homes") .dpop [(O "number")])] [],aH (ax bB (cC (aL (O "windows") (O "one")) "drop" [(aL (O "panes") (O "number"))]) (fw (O "is_lone")))]
theorem Nk(a:2<=D)(h:SS c (D-2) n3 [("deck",v0),("world",v1),("way",v2),("one",v3),("other",v4)] H (RK Q)):CL c D 876 [v0,v1,v2,v3,v4] H Q:=bx (as 87) "_law_moved" ah cl 875 ["deck","world","way","one","other"] [] (mL λ_ _ _ _ _ w S=>by kernel_rfl) a h
noncomputable def Bo:L MS:=[aD (aT "key") (aB 58 824 [(O "deck"),(b4 fv [(aL (O "world") (ai (aE (I "sessions") 0)))])]),fR ["row","session"] [(aL (aL (O "world") (ai (aE (I "places") 0))) (O "key")),(aL (aL (O "world") (ai (aE (I "sessions") 0))) (O "key"))],aD (aT "index") (aB 58 824 [(O "deck"),(b4 fv [(O "row")])]),aQ (ax bB (O "way") (ai (aa 6 0))) [aQ (ax bB (b4 fh [(O "row")]) (ai (aa 1 0))) [aH (ai (az true))] [],aH (ax b0 (cC (O "session") "take" [(O "index")]) (aL (aL (O "world") (ai (aE (I "windows") 0))) (dR (O "row") .dpop [(O "index")])))] [],aQ (ax bB (O "way") (ai (aa 7 0))) [aD (bG (aL (O "world") (ai (aE (I "server") 0))) "marked") (dz [(O "key"),(O "index"),(aB 58 824 [(O "deck"),(aB 60 834 [(O "world"),(aL (O "row") (O "index"))])])]),aH (ai (az true))] [],aH (ax b0 (cC (O "session") "select" [(O "index")]) (ai (az true)))]
theorem Nl(a:2<=D)(h:SS c (D-2) Bo [("deck",v0),("world",v1),("way",v2)] H (RK Q)):CL c D 883 [v0,v1,v2] H Q:=bx (as 88) "_law_placed" ah cl 882 ["deck","world","way"] [] (fa λ_ _ _ w S=>by kernel_rfl) a h
noncomputable def Bp:L MS:=[fR ["way","some"] [(aB 57 817 [(O "deck"),(ai (aa 10 0))]),(b4 .list [(b4 .range [(b4 fh [(aL (O "world") (ai (aE (I "windows") 0)))])])])],aQ (ax bB (O "way") (ai (aa 0 0))) [aH (aB 64 862 [(O "deck"),(O "world")])] [],aQ (ax dF (O "way") (dz [(ai (aa 6 0)),(ai (aa 7 0)),(ai (aa 8 0))])) [aH (aB 67 883 [(O "deck"),(O "world"),(O "way")])] [],aD (aT "one") (aB 58 824 [(O "deck"),(O "some")]),aQ (ax bB (O "way") (ai (aa 1 0))) [aH (aB 65 869 [(O "deck"),(O "world"),(O "one")])] [],aQ (ax bB (O "way") (ai (aa 2 0))) [aH (aB 61 841 [(O "deck"),(O "world"),(O "one")])] [],aH (aB 66 876 [(O "deck"),(O "world"),(O "way"),(O "one"),(aB 58 824 [(O "deck"),(O "some")])])]
theorem Nm(a:2<=D)(h:SS c (D-2) Bp [("deck",v0),("world",v1)] H (RK Q)):CL c D 890 [v0,v1] H Q:=bx (as 89) "_law_deed" ah cl 889 ["deck","world"] [] (d6 λ_ _ w S=>by kernel_rfl) a h
noncomputable def Nn:L MS:=[aD (aT "row") (aL (aL (O "world") (ai (aE (I "places") 0))) (O "key")),ih "spots" (O "index") "index" (b4 fv [(O "row")]) [(ax bB (aL (O "row") (O "index")) (O "number"))] ["number","row"],aQ (ax bB (O "spots") (c8 [])) [aH (ai ah)] [],aD (aT "shown") (av (aL (aL (O "world") (ai (aE (I "sessions") 0))) (O "key")) "current"),aH (cg (ax dF (O "shown") (O "spots")) (O "shown") (aL (O "spots") (ai (aa 0 0))))]
theorem Np(a:2<=D)(h:SS c (D-2) Nn [("world",v0),("number",v1),("key",v2)] H (RK Q)):CL c D 895 [v0,v1,v2] H Q:=bx (as 90) "_law_there" ah cl 894 ["world","number","key"] [] (fa λ_ _ _ w S=>by kernel_rfl) a h
noncomputable def Nq:L MS:=[aD (aT "keys") (b4 fv [(aL (O "world") (ai (aE (I "sessions") 0)))]),d1 "key" (bT cq (cg (ax b0 (O "home") (ai ah)) (c8 []) (c8 [(O "home")])) (O "keys")) [aD (aT "index") (aB 69 895 [(O "world"),(O "number"),(O "key")]),aQ (ax dq (O "index") (ai ah)) [aH (dz [(O "key"),(O "index"),(O "number"),(O "pane")])] []],aH (ai ah)]
theorem Nr(a:2<=D)(h:SS c (D-2) Nq [("world",v0),("number",v1),("pane",v2),("home",v3)] H (RK Q)):CL c D 902 [v0,v1,v2,v3] H Q:=bx (as 91) "_law_due" ah cl 901 ["world","number","pane","home"] [] (n1 λ_ _ _ _ w S=>by kernel_rfl) a h
noncomputable def Ns:L MS:=[aQ (ax b0 (av (aL (O "world") (ai (aE (I "server") 0))) "marked") (ai ah)) [aH (ai ah)] [],aD (.tup [(aT "key"),(aT "index"),(aT "pane")]) (av (aL (O "world") (ai (aE (I "server") 0))) "marked"),aD (aT "number") (dR (aL (O "world") (ai (aE (I "homes") 0))) ig [(O "pane")]),aQ (ei [(ax dq (O "number") (ai ah)),(ax bB (dR (aL (aL (O "world") (ai (aE (I "places") 0))) (O "key")) ig [(O "index")]) (O "number"))]) [aH (dz [(O "key"),(O "index"),(O "number"),(O "pane")])] [],aH (cg (ax b0 (O "number") (ai ah)) (ai ah) (aB 70 902 [(O "world"),(O "number"),(O "pane"),(ai ah)]))]
theorem Nt(a:2<=D)(h:SS c (D-2) Ns [("world",v0)] H (RK Q)):CL c D 916 [v0] H Q:=bx (as 93) "_law_mark_due" ah cl 915 ["world"] [] (e_ λ_ w S=>by kernel_rfl) a h
noncomputable def Bq:L MS:=[aD (aT "number") (dR (aL (O "world") (ai (aE (I "homes") 0))) ig [(O "pane")]),aD (aT "due") (cg (ax b0 (O "number") (ai ah)) (ai ah) (aB 70 902 [(O "world"),(O "number"),(O "pane"),(O "home")])),aH (ax bB (aB 71 909 [(O "world"),(bT cq (ai (aq #[37] 0)) (aB 59 829 [(O "pane")])),(O "kind"),(O "home")]) (O "due"))]
theorem Nu(a:2<=D)(h:SS c (D-2) Bq [("world",v0),("pane",v1),("kind",v2),("home",v3)] H (RK Q)):CL c D 923 [v0,v1,v2,v3] H Q:=bx (as 94) "_law_pane_right" ah cl 922 ["world","pane","kind","home"] [] (n1 λ_ _ _ _ w S=>by kernel_rfl) a h
noncomputable def Br:L MS:=[fR ["number","keys"] [(dR (aL (O "world") (ai (aE (I "homes") 0))) ig [(O "pane")]),(b4 fv [(aL (O "world") (ai (aE (I "sessions") 0)))])],aD (aT "told") (aB 56 809 [(iM (aL (aL (O "world") (ai (aE (I "sessions") 0))) (O "key")) "key" (O "keys") [] ["world"]),(O "pane")]),d1 "key" (O "keys") [d1 "index" (b4 fv [(aL (aL (O "world") (ai (aE (I "places") 0))) (O "key"))]) [aQ (ax bB (aL (aL (aL (O "world") (ai (aE (I "places") 0))) (O "key")) (O "index")) (O "number")) [aQ (d0 [(ax b0 (O "told") (ai ah)),(ax dq (aL (O "told") (ai (aa 0 0))) (aL (aL (O "world") (ai (aE (I "sessions") 0))) (O "key"))),(ax eY (aL (O "told") (ai (aa 1 0))) (O "index"))]) [aH (ai (az false))] [],aH (ei [(ax b0 (aL (O "told") (ai (aa 2 0))) (aL (aL (O "world") (ai (aE (I "windows") 0))) (O "number"))),(ax b0 (aL (O "told") (ai (aa 3 0))) (aL (aL (O "world") (ai (aE (I "panes") 0))) (O "pane")))])] []]],aH (ax b0 (O "told") (ai ah))]
theorem Nv(a:2<=D)(h:SS c (D-2) Br [("world",v0),("pane",v1)] H (RK Q)):CL c D 928 [v0,v1] H Q:=bx (as 95) "_law_first_right" ah cl 927 ["world","pane"] [] (d6 λ_ _ w S=>by kernel_rfl) a h
noncomputable def Bs:L MS:=[iN [(aT "number"),(aT "session")] [(aL (aL (aL (O "world") (ai (aE (I "places") 0))) (O "key")) (O "index")),(aL (aL (O "world") (ai (aE (I "sessions") 0))) (O "key"))],d1 "pane" (aB 60 834 [(O "world"),(O "number")]) [aD (aT "target") (aB 26 290 [(O "session"),(O "index"),(O "pane")]),aD (aT "text") (bT cq (bT cq (bT cq (bT cq (bT cq (ai (aq #[36] 0)) (aB 59 829 [(O "key")])) (ai (aq #[58,64] 0))) (aB 59 829 [(O "number")])) (ai (aq #[46,37] 0))) (aB 59 829 [(O "pane")])),aQ (d0 [(ax b0 (O "target") (ai ah)),(ax eY (aB 27 297 [(O "target")]) (O "text"))]) [aH (ai (az false))] [],aQ (ax eY (aB 71 909 [(O "world"),(O "text"),(O "kind"),(O "home")]) (dz [(O "key"),(aB 69 895 [(O "world"),(O "number"),(O "key")]),(O "number"),(O "pane")])) [aH (ai (az false))] []],ih "strange" (O "pane") "pane" (b4 .range [(b4 fh [(aL (O "world") (ai (aE (I "panes") 0)))])]) [(ax eY (dR (aL (O "world") (ai (aE (I "homes") 0))) ig [(O "pane")]) (O "number"))] ["number","world"],aH (ax bB (iM (O "pane") "pane" (O "strange") [(ax dq (aB 26 290 [(O "session"),(O "index"),(O "pane")]) (ai ah))] ["session","index"]) (c8 []))]
theorem Nw(a:2<=D)(h:SS c (D-2) Bs [("world",v0),("key",v1),("index",v2),("kind",v3),("home",v4)] H (RK Q)):CL c D 933 [v0,v1,v2,v3,v4] H Q:=bx (as 96) "_law_place_right" ah cl 932 ["world","key","index","kind","home"] [] (mL λ_ _ _ _ _ w S=>by kernel_rfl) a h
noncomputable def vt:L MS:=[.forE [(aT "number"),(aT "window")] (aL (O "world") (ai (aE (I "windows") 0))) [aD (aT "row") (aB 60 834 [(O "world"),(O "number")]),aQ (d0 [(ax eY (b4 fv [(iM (av (O "pane") "number") "pane" (av (O "window") "panes") [] [])]) (O "row")),(ax eY (b4 fv [(aB 5 113 [(av (O "window") "layout")])]) (O "row"))]) [aH (ai (az false))] [],aD (aT "due") (aB 70 902 [(O "world"),(O "number"),(av (av (O "window") "active") "number"),(O "home")]),aQ (ax eY (aB 71 909 [(O "world"),(bT cq (ai (aq #[64] 0)) (aB 59 829 [(O "number")])),(O "kind"),(O "home")]) (O "due")) [aH (ai (az false))] []],d1 "pane" (b4 .range [(bT cq (b4 fh [(aL (O "world") (ai (aE (I "panes") 0)))]) (ai (aa 1 0)))]) [aQ (d0 [(fw (aB 73 923 [(O "world"),(O "pane"),(O "kind"),(O "home")])),(fw (aB 74 928 [(O "world"),(O "pane")]))]) [aH (ai (az false))] []],d1 "key" (b4 fv [(aL (O "world") (ai (aE (I "places") 0)))]) [aD (aT "session") (aL (aL (O "world") (ai (aE (I "sessions") 0))) (O "key")),aQ (ax eY (cC (O "session") "indexes" []) (b4 fv [(aL (aL (O "world") (ai (aE (I "places") 0))) (O "key"))])) [aH (ai (az false))] [],d1 "index" (b4 fv [(aL (aL (O "world") (ai (aE (I "places") 0))) (O "key"))]) [aQ (fw (aB 75 933 [(O "world"),(O "key"),(O "index"),(O "kind"),(O "home")])) [aH (ai (az false))] []]],aH (ai (az true))]
theorem Nx(a:2<=D)(h:SS c (D-2) vt [("world",v0),("kind",v1),("home",v2)] H (RK Q)):CL c D 938 [v0,v1,v2] H Q:=bx (as 97) "_law_whole" ah cl 937 ["world","kind","home"] [] (fa λ_ _ _ w S=>by kernel_rfl) a h
noncomputable def rV:L MS:=[ih "deck" (bT .Mod (b4 .int [(O "cell")]) (bT .Pow (ai (aa 10 0)) (ai (aa 12 0)))) "cell" (ea (O "script") [] [(ai (aa 63 0))] []) [] [],aD (aT "server") (aB 81 265 [(ai ah),(ai ah),(ai ah),(ai ah)]),aD (aT "world") (.dctS ["sessions","places","homes","windows","panes","server"] [.dct0,.dct0,.dct0,(c8 []),(c8 []),(O "server")]),iN [(bG (O "server") "sessions"),(bG (O "server") "marked")] [(aL (O "world") (ai (aE (I "sessions") 0))),(ai ah)],d1 "lap" (b4 .range [(bT cq (ai (aa 2 0)) (aB 57 817 [(O "deck"),(ai (aa 2 0))]))]) [fR ["key","pane"] [(bT cq (ai (aa 1 0)) (bT .Mult (ai (aa 2 0)) (O "lap"))),(aB 63 855 [(O "world")])],iN [(gP (aL (O "world") (ai (aE (I "sessions") 0))) (O "key")),(gP (aL (O "world") (ai (aE (I "places") 0))) (O "key"))] [(aB 84 790 [(O "key"),(bT cq (ai (aq #[115] 0)) (aB 59 829 [(O "key")]))]),.dct0],aD (aT "number") (aB 62 848 [(O "world"),(aB 83 661 [(O "lap"),(ai (aq #[119] 0)),(O "pane"),(ai (aa 60 0)),(ai (aa 30 0))]),(av (O "pane") "number")]),aD (aT "index") (aB 57 817 [(O "deck"),(ai (aa 3 0))]),aD (gP (aL (aL (O "world") (ai (aE (I "places") 0))) (O "key")) (O "index")) (O "number"),aQ (ax eY (cC (aL (aL (O "world") (ai (aE (I "sessions") 0))) (O "key")) "add" [(aL (aL (O "world") (ai (aE (I "windows") 0))) (O "number")),(O "index")]) (O "index")) [aH (ai (az false))] []],aD (aT "homes") (bT cq (c8 [(ai ah)]) (b4 fv [(aL (O "world") (ai (aE (I "sessions") 0)))])),iN [(aT "kind"),(aT "home")] [(ai (aE (I "pane") 0)),(ai ah)],d1 "lap" (b4 .range [(bT cq (ai (aa 1 0)) (aB 57 817 [(O "deck"),(ai (aa 8 0))]))]) [aQ (fw (aB 68 890 [(O "deck"),(O "world")])) [aH (ai (az false))] [],fR ["home","kind"] [(aB 58 824 [(O "deck"),(O "homes")]),(aB 58 824 [(O "deck"),(hj 91 (J 810))])],aD (aT "pane") (aB 57 817 [(O "deck"),(bT cq (b4 fh [(aL (O "world") (ai (aE (I "panes") 0)))]) (ai (aa 1 0)))]),aQ (fw (aB 73 923 [(O "world"),(O "pane"),(O "kind"),(O "home")])) [aH (ai (az false))] [],aQ (ax eY (aB 71 909 [(O "world"),(aL (dz [(ai (aq #[126] 0)),(ai (aq #[123,109,97,114,107,101,100,125] 0))]) (aB 57 817 [(O "deck"),(ai (aa 2 0))])),(O "kind"),(O "home")]) (aB 72 916 [(O "world")])) [aH (ai (az false))] []],aH (aB 76 938 [(O "world"),(O "kind"),(O "home")])]
theorem Ny(a:2<=D)(h:SS c (D-2) rV [("script",v0)] H (RK Q)):CL c D 943 [v0] H Q:=bx (as 98) "law" ah cl 942 ["script"] [] (e_ λ_ w S=>by kernel_rfl) a h
end
theorem f4{H:Hp}{d a:ae}{mo:MO}(b:H d=af)(c:H a=G mo):a≠d:=λe=>by rw [<-e,c]at b;cases b
theorem bK{H:Hp}{d a:ae}{o mo:MO}(c:H d=af)(b:H a=G mo):H.set d o a=G mo:=(dT _ _ (f4 c b)).trans b
theorem jG{H:Hp}{d a C:ae}{o:MO}{fs:L (am×ab)}{vs:L ab}(b:H a=G (ak vs))(c:H d=G (bZ C fs)):H.set d o a=G (ak vs):=(dT _ _ λe=>by rw [e,c]at b;cases b).trans b
noncomputable def eS(H c:Hp):Prop:=∀a b,H a=G b->c a=G b
theorem eS.refl(H:Hp):eS H H:=λ_ _ e=>e
theorem eS.trans{H N c:Hp}(x:eS H N)(y:eS N c):eS H c:=λa b e=>y a b (x a b e)
theorem eS.alloc{H N:Hp}{d:ae}{o:MO}(x:eS H N)(c:N d=af):eS H (N.set d o):=λa b e=>bK c (x a b e)
theorem eS.fresh{H N:Hp}{d:ae}(x:eS H N)(a:N d=af):H d=af:=by
 cases e:H d with
 |none=>rfl
 |some b=>exact bW E (f4 a (x _ _ e))
theorem eS.set{H N:Hp}(x:eS H N)(d:ae)(o:MO):eS (H.set d o) (N.set d o):=λa b e=>by
 by_cases h:a=d
 ·rw [h,aF]at e⊢;exact e
 ·rw [dT _ _ h]at e⊢;exact x a b e
theorem bH{H:Hp}{a:ae}{vs:L ab}(h:H a=G (ak vs)):bD H a=G vs:=by unfold bD;rw [h]
theorem g4{H:Hp}{a:ae}{vs:L ab}(h:H a=G (eg vs)):bD H a=G vs:=by unfold bD;rw [h]
theorem rW{H:Hp}{a:ae}{vs:L ab}(h:bD H a=G vs):H a=G (ak vs)\/H a=G (eg vs):=by
 unfold bD at h;split at h
 ·exact bc h▸bt ‹_›
 ·exact bc h▸bF ‹_›
 ·cases h
theorem vu{H N:Hp}{a:ae}{vs:L ab}(x:∀mo,H a=G mo->mo=ak vs\/mo=eg vs->N a=G mo)(h:bD H a=G vs):bD N a=G vs:=(rW h).elim (λq=>bH (x _ q (bt E))) λq=>g4 (x _ q (bF E))
theorem Bt{H N:Hp}{a:ae}{vs:L ab}(x:eS H N)(h:bD H a=G vs):bD N a=G vs:=vu (λ_ e _=>x _ _ e) h
theorem vv{H:Hp}{d a:ae}{o:MO}{vs:L ab}(b:H d=af)(c:bD H a=G vs):bD (H.set d o) a=G vs:=vu (λ_ e _=>bK b e) c
theorem dm{H:Hp}{a:ae}{vs:L ab}(h:bD H a=G vs):fB H (J a)=G (vs,G a):=(rW h).elim (λq=>aA (po · a) q) λq=>aA (po · a) q
theorem dA.keep{H N:Hp}{b:aj ae}{vs:L ab}(x:∀a,bD H a=G vs->bD N a=G vs)(h:dA b vs H):dA b vs N:=by
 cases b with
 |none=>trivial
 |some l=>exact x l h
theorem jH{H:Hp}{a:ae}{vs:L ab}(h:H a=G (ak vs)):lu H (J a)=G "list":=rp h
section
variable{c:Cx}{D:ag}{T:KF}{H:Hp}{ρ:ao}{x:am}
theorem Bu{Q:KB}(h:Q true H):TL c D [] ρ H Q:=λ_ _ _ _ _ _ _ m=>fC m h
theorem Bv{Q:KB}{t:ME}(h:TT c D t ρ H Q):TL c D [t] ρ H Q:=λ_ _ _ _ _ a e m=>gX m λz r _ d b=>fC b (h.at a e d)
theorem Bw{α:Type}{g f:α->ab}{xs:L α}{v:ab}{j:aj ae}{m:L ME}{s:ME}{l:L am}{Q:ae->Hp->Prop}(p:α->aK)(z:fB H v=G (xs.map g,j))(hs:dA j (xs.map g) H)(i:xs.length<=bL)
  (h:∀a∈xs,∀d us,H d=af->(∀k:KB,k (p a) (H.set d (ak us))->TL c D m (aZ x (g a) (ρ.filter λq=>l.contains q.1)) (H.set d (ak us)) k)/\(p a=true->PV c D (aZ x (g a) (ρ.filter λq=>l.contains q.1)) (H.set d (ak us)) s (f a)))
  (q:∀d,H d=af->Q d (H.set d (ak ((xs.filter p).map f)))):GO c D x m s ρ l v H Q:=by
 unfold GO rE;rw [z,Ag];intro d o;have hs:∀us,dA j (xs.map g) (H.set d (ak us)):=λus=>hs.keep λa=>vv o;refine⟨hs _,?_⟩
 suffices X:∀(e:L α) (us:L ab),(∀a∈e,a∈xs)->us.length+e.length<=bL->Q d (H.set d (ak (us++(e.filter p).map f)))->
   nT x (TL c D m) (EE c D s) (dA j (xs.map g)) (ρ.filter λq=>l.contains q.1) d (Q d) (e.map g) (H.set d (ak us))from X xs [] (λ_ h=>h) (by rw [Ex,qN];exact i) (q d o)
 intro e
 induction e with
 |nil=>intro us _ _ q;rw [Ey,xD,hL]at q;exact q
 |cons a r t=>
  intro us w i q;have u:=λb A=>w b (bM _ A);have y:=h a (w a bn) d us o;rw [fu]at i;refine y.1 _ ?_;cases n:p a with
  |true=>rw [kZ,n,aJ E,e6]at q;rw [aJ E];refine a4 (y.2 n) ⟨us,aF _ _ _,?_⟩;rw [lA];exact⟨fo (nf (gE _)) i,hs _,t _ u (by rw [b3,tF,qC [f a].length];exact i) (by rw [fp];exact q)⟩
  |false=>rw [kZ,n,aG eX]at q;rw [aG eX];exact⟨hs _,t _ u (nl i) q⟩
theorem kj{α:Type}{g f:α->ab}{xs:L α}{v:ab}{b:aj ae}{i:ME}{e:L am}{Q:ae->Hp->Prop}(l:fB H v=G (xs.map g,b))(hs:dA b (xs.map g) H)(j:xs.length<=bL)
  (h:∀a∈xs,∀d us,H d=af->PV c D (aZ x (g a) (ρ.filter λq=>e.contains q.1)) (H.set d (ak us)) i (f a))
  (q:∀d,H d=af->Q d (H.set d (ak (xs.map f)))):GO c D x [] i ρ e v H Q:=
 Bw (λ_=>true) l hs j (λa n d us m=>⟨λk h=>Bu h,λ_=>h a n d us m⟩) (by rw [L.filter_eq_self.mpr λ_ _=>E];exact q)
theorem pQ{α:Type}{g f:α->ab}{xs:L α}{v:ab}{e:aj ae}{t l:ME}{b:L am}{Q:ae->Hp->Prop}(p:α->aK)(n:fB H v=G (xs.map g,e))(hs:dA e (xs.map g) H)(m:xs.length<=bL)
  (o:∀a∈xs,∀d us,H d=af->PT c D (aZ x (g a) (ρ.filter λq=>b.contains q.1)) (H.set d (ak us)) t (p a))
  (h:∀a∈xs,p a=true->∀d us,H d=af->PV c D (aZ x (g a) (ρ.filter λq=>b.contains q.1)) (H.set d (ak us)) l (f a))
  (q:∀d,H d=af->Q d (H.set d (ak ((xs.filter p).map f)))):GO c D x [t] l ρ b v H Q:=
 Bw p n hs m (λa j d us i=>⟨λk q=>Bv (dM (o a j d us i) q),λr=>h a j r d us i⟩) q
theorem Bx{α:Type}{g:α->ab}{xs:L α}{v:ab}{i:aj ae}{l:L ME}{m:ME}{k:L am}{Q:ae->Hp->Prop}(w:fB H v=G (xs.map g,i))(hs:dA i (xs.map g) H)(I:ae->L α->Hp->Prop)
  (z:∀d b a t H (K:KB),xs=b++a::t->I d b H->(∀N,dA i (xs.map g) N->I d (b++[a]) N->K false N)->
   (∀N,(∀s:KV,(∀u f us,f d=G (ak us)->us.length<bL->dA i (xs.map g) (f.set d (ak (us++[u])))->I d (b++[a]) (f.set d (ak (us++[u])))->s u f)->EE c D m (aZ x (g a) (ρ.filter λq=>k.contains q.1)) N s)->K true N)->TL c D l (aZ x (g a) (ρ.filter λq=>k.contains q.1)) H K)
  (C:∀d,H d=af->I d [] (H.set d (ak []))) (y:∀d H,I d xs H->Q d H):GO c D x l m ρ k v H Q:=by
 unfold GO rE;rw [w,Ag];intro d o;refine⟨hs.keep λa=>vv o,?_⟩;suffices X:∀j b N,xs=b++j->I d b N->nT x (TL c D l) (EE c D m) (dA i (xs.map g)) (ρ.filter λq=>k.contains q.1) d (Q d) (j.map g) N from X xs [] _ E (C d o)
 intro j
 induction j with
 |nil=>exact λb N e h=>y d N (by rw [e,hL];exact h)
 |cons a r n=>
  intro b N e h;have p:xs=(b++[a])++r:=by rw [fp];exact e
  refine z d b a r N _ e h (λf B A=>?_) λf q=>?_
  ·rw [aG eX];exact⟨B,n _ _ p A⟩
  ·rw [aJ E]
   exact q _ λu S us R P M F=>⟨us,R,P,M,n _ _ p F⟩
theorem h5{α:Type}{g:α->ab}{xs:L α}{k:L MS}{i:Hp->Prop}(I:L α->ao->Hp->Prop)
  (p:∀f a m ρ H (l:KF),xs=f++a::m->I f ρ H->(∀d b,i b->I (f++[a]) d b->l .next d b)->(∀u d b,T (ck u) d b->l (ck u) d b)->SS c D k (aZ x (g a) ρ) H l)
  (o:∀ρ H,I xs ρ H->T .next ρ H) (h:I [] ρ H):g2 c D x k i T (xs.map g) ρ H:=by
 unfold g2;suffices X:∀j f ρ H,xs=f++j->I f ρ H->pq x (SS c D k) i T (j.map g) ρ H from X xs [] _ _ E h
 intro j
 induction j with
 |nil=>exact λf ρ H e h=>o ρ H (by rw [e,hL];exact h)
 |cons a r n=>
  intro f ρ H e h;have z:=p f a r ρ H (ip T λd b=>i b/\pq x (SS c D k) i T (r.map g) d b) e h (λd b t s=>⟨t,n _ _ _ (by rw [fp];exact e) s⟩) λu d b q=>q
  exact z
theorem rX{α:Type}{g:α->ab}{xs:L α}{m:L MS}{l:Hp->Prop}(hs:l H)(I:L α->ao->Prop)
  (s:∀b a j ρ (f:KF),xs=b++a::j->I b ρ->(∀d,I (b++[a]) d->f .next d H)->(∀u d n,T (ck u) d n->f (ck u) d n)->SS c D m (aZ x (g a) ρ) H f)
  (r:∀ρ,I xs ρ->T .next ρ H) (h:I [] ρ):g2 c D x m l T (xs.map g) ρ H:=
 h5 (λb ρ k=>k=H/\I b ρ) (λb a j ρ k f e i p o=>i.1▸s b a j ρ f e i.2 (λd q=>p _ _ hs ⟨E,q⟩) o) (λρ k i=>i.1▸r ρ i.2) ⟨E,h⟩
theorem Nz{α:Type}{g:α->L ab}{xs:L α}{ts:L MT}{k:L MS}{i:Hp->Prop}(I:L α->ao->Hp->Prop)
  (p:∀f a m ρ H (l:KF),xs=f++a::m->I f ρ H->(∀d b,i b->I (f++[a]) d b->l .next d b)->(∀u d b,T (ck u) d b->l (ck u) d b)->(g a).length=ts.length/\AL c D ts (g a) ρ H (kP c D k l))
  (o:∀ρ H,I xs ρ H->T .next ρ H) (h:I [] ρ H):fZ c D ts k i T (xs.map g) ρ H:=by
 unfold fZ;suffices X:∀j f ρ H,xs=f++j->I f ρ H->lz ts.length (AL c D ts) (SS c D k) i T (j.map g) ρ H from X xs [] _ _ E h
 intro j
 induction j with
 |nil=>exact λf ρ H e h=>o ρ H (by rw [e,hL];exact h)
 |cons a r n=>
  intro f ρ H e h;have z:=p f a r ρ H (ip T λd b=>i b/\lz ts.length (AL c D ts) (SS c D k) i T (r.map g) d b) e h (λd b t s=>⟨t,n _ _ _ (by rw [fp];exact e) s⟩) λu d b q=>q
  exact z
theorem NB(vs:L ab):ka vs=vs.zipIdx.map λp=>[aa (p.2:ag) 0,p.1]:=by apply L.ext_getElem?;intro i;rw [z2,f_,L.getElem?_zipIdx,mg];simp only [Function.comp_def,qN]
theorem By{α:Type}{g:α->ab}{xs:L α}{ts:L MT}{k:L MS}{i:Hp->Prop}(I:L α->ao->Hp->Prop)
  (s:∀b a m ρ H (l:KF),xs=b++a::m->I b ρ H->(∀f d,i d->I (b++[a]) f d->l .next f d)->(∀u f d,T (ck u) f d->l (ck u) f d)->2=ts.length/\AL c D ts [aa (b.length:ag) 0,g a] ρ H (kP c D k l))
  (o:∀ρ H,I xs ρ H->T .next ρ H) (h:I [] ρ H):fZ c D ts k i T (ka (xs.map g)) ρ H:=by
 rw [NB];unfold fZ;suffices X:∀j b ρ H,xs=b++j->I b ρ H->lz ts.length (AL c D ts) (SS c D k) i T (((j.map g).zipIdx b.length).map λp=>[aa (p.2:Nat) 0,p.1]) ρ H from X xs [] _ _ E h
 intro j
 induction j with
 |nil=>exact λb ρ H e h=>o ρ H (by rw [e,hL];exact h)
 |cons a r n=>
  intro b ρ H e h;have z:=s b a r ρ H (ip T λf d=>i d/\lz ts.length (AL c D ts) (SS c D k) i T (((r.map g).zipIdx (b.length+1)).map λp=>[aa (p.2:Nat) 0,p.1]) f d) e h (λf d v t=>⟨v,by have y:=n (b++[a]) f d (by rw [fp];exact e) t;rw [b3]at y;exact y⟩) λu f d q=>q
  exact z
theorem rY{t:ME}{d:L MS}(I:ag->ao->Hp->Prop)
  (o:∀n ρ H (f:KB),I n ρ H->(∀N,(∀(e:KF),(∀m a b,m<n->I m a b->e .next a b)->(∀u a b,T (ck u) a b->e (ck u) a b)->SS c D d ρ N e)->f true N)->(∀N,T .next ρ N->f false N)->TT c D t ρ H f) {n:ag} (h:I n ρ H):WH c D t d T ρ H:=by
 unfold WH;refine⟨n+1,?_⟩;suffices X:∀k n ρ H,n<k->I n ρ H->pr (TT c D t) (SS c D d) T k ρ H from X (n+1) n ρ H (nj n) h
 intro k
 induction k with
 |zero=>intro n ρ H h;exact bW h (ag.not_lt_zero n)
 |succ k i=>
  intro n ρ H j h;have z:=o n ρ H (λg N=>if g=true then SS c D d ρ N (ip T λa b=>pr (TT c D t) (SS c D d) T k a b)else T .next ρ N) h (λN q=>?_) λN q=>?_
  ·exact z
  ·rw [aJ E]
   exact q _ (λm a b l p=>i m a b (fo l (qQ j)) p) λu a b q=>q
  ·rw [aG eX];exact q
end
section
variable{c:Cx}{D:ag}{H:Hp}{a:ae}{vs:L ab}{Q Q':KV}
theorem CL.mono(h:CL c D a vs H Q)(k:∀v b,Q v b->Q' v b):CL c D a vs H Q':=by unfold CL at*;exact h.mono k
theorem CL.weak(h:CL c D a vs H Q')(k:∀v b,Q' v b->∃N,eS N b/\Q v N):CL c D a vs H Q:=by unfold CL at*;exact h.weak k
noncomputable def Bz(Q:KV):KV:=λu b=>∃a,eS a b/\Q u a
theorem CL.up(h:CL c D a vs H (Bz Q)):CL c D a vs H Q:=h.weak λ_ _ x=>x
theorem rZ{v:ab}(q:Q v H):Bz Q v H:=⟨H,.refl H,q⟩
theorem vw{o:MO}(h:CL c D a vs H λu b=>∃d,u=J d/\H d=af/\eS (H.set d o) b)(q:∀d,H d=af->Q (J d) (H.set d o)):CL c D a vs H Q:=h.weak λu b ⟨d,e,f,s⟩=>⟨H.set d o,s,e▸q d f⟩
theorem pU{i:ae}(b:qZ.contains (a,i)=true)(f:1<=D)(h:∀d,H d=af->CL c (D-1) i (J d::vs) (H.set d (bZ a [])) λr g=>r=ah/\Q (J d) g):CL c D a vs H Q:=by
 have k:fX c (D-1+1) (J a) vs H Q:=HH b λd e=>by have:=h d e;unfold CL at this;exact this
 unfold CL;exact xC f▸k
end
local macro_rules | `(tactic| simp! [$args,*]) => do
  let mut us : Array (Lean.TSyntax `term) := #[]
  for a in args.getElems do
    if let `(Lean.Parser.Tactic.simpLemma| $t:term) := a then us := us.push (← match t with | `($f:term $xs*) => `($f $xs* ..) | _ => `($t ..))
  let l ← `(tactic| first $[| exact $us]* | rfl)
  let run (s : String) (k : Lean.TSyntax `tactic → Lean.MacroM (Lean.TSyntax ``Lean.Parser.Tactic.tacticSeq)) (p : Lean.TSyntax `tactic) : Lean.MacroM (Array (Lean.TSyntax ``Lean.Parser.Tactic.tacticSeq)) := do
    let mut o := #[]
    for w in s.splitOn " " do
      match w.splitOn ":" with
      | n :: r =>
        let mut t ← `(tactic| apply $(Lean.mkIdent n.toName))
        for c in (r.headD "").toList do
          t ← if c == 'p' then `(tactic| ($t:tactic; (· ($p:tactic)))) else if c == 'l' then `(tactic| ($t:tactic; (· ($l:tactic)))) else `(tactic| ($t:tactic; (· exact Nat.le_of_ble_eq_true rfl)))
        o := o.push (← k t)
      | _ => pure ()
    return o
  let sq (t : Lean.TSyntax `tactic) := `(Lean.Parser.Tactic.tacticSeq| $t:tactic)
  let ps ← run "PV.cst PV.glb fK.nil fK.cons PV.att PV.idx PV.cmp PV.bin PV.len PV.not PV.neg PV.var PT.cmp PT.var PT.att PT.not" sq l
  let p ← `(tactic| repeat' (first $[| $ps]* | ($l:tactic)))
  let ss ← run "d4:p bR:p NC:pl NE:pl ND:pl jF:pl vl:pl c7:pp kg:ppp pK:lpl lE:plb dO f1 mK:p pH:pp a4:p a7:p ed:pb fL:pb nX ex:p ge:plp eR:plp u9:pl mH:p bU bs:p bN eL rO:pl pF:pl gY fD u4 pD kf AK mG pG dM:p nY:p ke:plp ec h3 u8 b5 bV dN dt kh f2 rS lD vh g3 pJ vg KO hy:lbl a5 bb bX vk:bl f3:bl hx:l g1:l ep:l gZ:l Kr:l rQ:l cK g0 en fY rP" sq p
  `(tactic| repeat (first $[| $ss]*))
section
variable{c:Cx}{D:ag}{T:KF}{Q:KV}{H:Hp}{ρ:ao}{e:ME}{u v:ab}{f:am}{k:aK}{r s1 s2:L MS}{t:ME}{a C:ae}{fs:L (am×ab)}
theorem NC(p:PT c D ρ H t k)(h:k=true)(q:SS c D s1 ρ H (NX c D r T)):SS c D (aQ t s1 s2::r) ρ H T:=cZ (p.eq h) q
theorem ND(p:PT c D ρ H t k)(h:k=false)(q:SS c D s2 ρ H (NX c D r T)):SS c D (aQ t s1 s2::r) ρ H T:=lC (p.eq h) q
theorem NE(p:PT c D ρ H t k)(h:k=false)(q:SS c D r ρ H T):SS c D (aQ t s1 []::r) ρ H T:=b7 (p.eq h) q
theorem hy{d:ae}{Q:Hp->Prop}(a:hV.contains (C,f)=true)(c:fs.length<=100)(b:dJ v=true)(q:Q (H.set d (bZ C (aZ f v fs)))):SA (J d) f v (H.set d (bZ C fs)) Q:=e9 (aF _ _ _) a c b (by rw [lA];exact q)
theorem du(h:H a=G (bZ C fs))(b:hV.contains (C,f)=true)(c:fs.lookup f=G u):ew H (J a) f=G u:=by unfold ew;simp only [h];rw [aJ b];exact c
theorem dv{g:ae}(h:H a=G (bZ C fs))(c:fs.lookup f=af)(b:mv.lookup (C,f)=G g):nS H (J a) f=G g:=by unfold nS;simp only [h,c];exact b
theorem BA{g:ae}(h:H a=G (bZ C fs))(b:o9.lookup (C,f)=G g):rD H (J a) f=G g:=by unfold rD;simp only [h];exact b
end
noncomputable def r8(k w h x y p q:ab):MO:=bZ 85 [("kind",k),("width",w),("height",h),("x",x),("y",y),("parts",p),("pane",q)]
theorem r9{c:Cx}{D:ag}{H:Hp}{Q:KV}{k w h x y p q:ab}(a:3<=D)(b:dJ k=true/\dJ w=true/\dJ h=true/\dJ x=true/\dJ y=true/\dJ p=true/\dJ q=true)
  (r:∀d,H d=af->Q (J d) (H.set d (r8 k w h x y p q))):CL c D 85 [k,w,h,x,y,p,q] H Q:=by
 obtain ⟨o,n,m,l,j,g,f⟩:=b;refine pU (i:=82) E (ap a E) λd e=>K9 (cj a) ?_;simp! [o,n,m,l,j,g,f];exact⟨E,r d e⟩
inductive LT where
 |node (a c:ae) (k:am) (p:aj U) (b:L LT)
open LT renaming node->cV
noncomputable def LT.a:LT->ae|cV a _ _ _ _=>a
noncomputable def LT.pl:LT->ae|cV _ b _ _ _=>b
noncomputable def LT.k:LT->am|cV _ _ k _ _=>k
noncomputable def LT.p:LT->aj U|cV _ _ _ p _=>p
noncomputable def LT.ps:LT->L LT|cV _ _ _ _ a=>a
noncomputable def bE(b:L LT):L ab:=b.map λt=>J t.a
theorem mM(a b:L LT):bE (a++b)=bE a++bE b:=c0
theorem g5(a:L LT):(bE a).length=a.length:=bJ _
noncomputable def pv:aj U->ab
 |some n=>aa n 0
 |none=>ah
theorem NF(p:aj U):dJ (pv p)=true:=by cases p<;>rfl
noncomputable def ey(k:am)(w h:ag)(x y:U)(a:ae)(p:aj U):MO:=r8 (aE (I k) 0) (aa w 0) (aa h 0) (aa x 0) (aa y 0) (J a) (pv p)
noncomputable def ez(H:Hp)(a:ae)(k:am)(b:ae)(p:aj U):Prop:=∃(w h:ag) (x y:U),H a=G (ey k w h x y b p)
mutual
noncomputable def g6:LT->L LT
 |cV a c k p b=>cV a c k p b::dw b
noncomputable def dw:L LT->L LT
 |[]=>[]
 |t::r=>g6 t++dw r
end
theorem jI:∀t:LT,g6 t=t::dw t.ps
 |cV _ _ _ _ _=>by rw [g6];rfl
theorem BB(t:LT):t∈g6 t:=by rw [jI];exact bn
theorem lG:∀a b:L LT,dw (a++b)=dw a++dw b
 |[],b=>by rw [dw];rfl
 |t::r,b=>by rw [no,dw,dw,lG r b,fp]
theorem n4(t:LT):dw [t]=g6 t:=by rw [dw,dw,hL]
theorem vx:∀{l:L LT} {t:LT},t∈l->∀q∈g6 t,q∈dw l
 |u::r,t,h,q,a=>by rw [dw];exact(bQ.mp h).elim (λe=>cX _ (e▸a)) λh=>cO _ (vx h q a)
noncomputable def km(P:LT->Prop)(t:LT):Prop:=∀q∈g6 t,P q
noncomputable def gJ(P:LT->Prop)(l:L LT):Prop:=∀q∈dw l,P q
theorem km.here{P:LT->Prop}{t:LT}(h:km P t):P t:=h t (BB t)
theorem km.kids{P:LT->Prop}{t:LT}(h:km P t):gJ P t.ps:=λq a=>h q (by rw [jI];exact bM _ a)
theorem hA{P:LT->Prop}{t:LT}(h:P t)(g:gJ P t.ps):km P t:=λq a=>by rw [jI]at a;exact(bQ.mp a).elim (λe=>e▸h) (g q)
theorem gJ.mem{P:LT->Prop}{l:L LT}{t:LT}(h:gJ P l)(m:t∈l):km P t:=λq a=>h q (vx m q a)
theorem pV(P:LT->Prop):gJ P []:=λq a=>by rw [dw]at a;cases a
theorem g7{P:LT->Prop}{t:LT}(h:km P t):gJ P [t]:=λq a=>h q (by rw [n4]at a;exact a)
theorem f5{P:LT->Prop}{a b:L LT}(h:gJ P a)(g:gJ P b):gJ P (a++b):=λq c=>by rw [lG]at c;exact(dG.mp c).elim (h q) (g q)
theorem gJ.l{P:LT->Prop}{a b:L LT}(h:gJ P (a++b)):gJ P a:=λq c=>h q (by rw [lG];exact cX _ c)
theorem gJ.r{P:LT->Prop}{a b:L LT}(h:gJ P (a++b)):gJ P b:=λq c=>h q (by rw [lG];exact cO _ c)
noncomputable def NA(H:Hp)(q:LT):Prop:=ez H q.a q.k q.pl q.p/\bD H q.pl=G (bE q.ps)
noncomputable abbrev gv(H:Hp):LT->Prop:=km (NA H)
noncomputable def lH(q:LT):aK:=q.k=="pane"
noncomputable def c1(t:LT):L LT:=(g6 t).filter lH
noncomputable def f6(l:L LT):L LT:=(dw l).filter lH
noncomputable def lI(l:L LT):L U:=l.map λt=>t.p.getD 0
noncomputable def al(t:LT):L U:=lI (c1 t)
noncomputable def d7(l:L LT):L U:=lI (f6 l)
noncomputable def WN(q:LT):Prop:=(q.k="pane"/\(∃n,q.p=G n)/\q.ps=[])\/((q.k="row"\/q.k="column")/\q.p=af/\2<=q.ps.length)
noncomputable abbrev WF:LT->Prop:=km WN
noncomputable abbrev i3:L LT->Prop:=gJ WN
theorem WN.lf{q:LT}(h:WN q)(k:q.k="pane"):(∃n,q.p=G n)/\q.ps=[]:=h.elim And.right λg=>by rw [k]at g;exact bW g.1 (by decide)
theorem WN.in{q:LT}(h:WN q)(k:q.k≠ "pane"):(q.k="row"\/q.k="column")/\q.p=af/\2<=q.ps.length:=h.elim (λg=>bW g.1 k) id
mutual
noncomputable def g8:LT->ag
 |cV _ _ _ _ a=>lJ a+1
noncomputable def lJ:L LT->ag
 |[]=>0
 |t::r=>max (g8 t) (lJ r)
end
theorem pW:∀t:LT,g8 t=lJ t.ps+1
 |cV _ _ _ _ _=>by rw [g8];rfl
noncomputable def ee(t:LT):L ae:=(g6 t).flatMap λq=>[q.a,q.pl]
noncomputable def da(l:L LT):L ae:=(dw l).flatMap λq=>[q.a,q.pl]
theorem ez.sub{H N:Hp}{a b:ae}{k:am}{p:aj U}(x:eS H N)(h:ez H a k b p):ez N a k b p:=let ⟨w,q,u,v,e⟩:=h;⟨w,q,u,v,x _ _ e⟩
theorem BD{H N:Hp}(x:eS H N){t:LT}(h:gv H t):gv N t:=λq a=>⟨(h q a).1.sub x,Bt x (h q a).2⟩
theorem n5{t:LT}(h:WF t)(k:t.k="pane"):c1 t=[t]:=by unfold c1;rw [jI,(h.here.lf k).2,dw];exact L.filter_cons_of_pos (p:=lH) (c4.mpr k)
theorem jJ{t:LT}(k:t.k≠ "pane"):c1 t=f6 t.ps:=by unfold c1 f6;rw [jI,kZ,lH,dB.mpr k,aG eX]
theorem BE:f6 []=[]:=by unfold f6;rw [dw];rfl
theorem vy(a b:L LT):f6 (a++b)=f6 a++f6 b:=by unfold f6;rw [lG,Ez]
theorem BF(t:LT)(r:L LT):f6 (t::r)=c1 t++f6 r:=by unfold f6;rw [dw,Ez];rfl
theorem BG(t:LT):f6 [t]=c1 t:=by unfold f6;rw [n4];rfl
theorem BH(a b:L LT):lI (a++b)=lI a++lI b:=c0
theorem pX(a b:L LT):d7 (a++b)=d7 a++d7 b:=by unfold d7;rw [vy,BH]
theorem r_(t:LT)(r:L LT):d7 (t::r)=al t++d7 r:=by unfold d7 al;rw [BF,BH]
theorem it{t:LT}:(al t).length=(c1 t).length:=bJ _
theorem vz{l:L LT}:(d7 l).length=(f6 l).length:=bJ _
theorem vA{t q:LT}(h:q∈c1 t):q∈g6 t/\q.k="pane":=let ⟨a,b⟩:=ie.mp h;⟨a,c4.mp b⟩
theorem vB:∀{l:L LT} {t:LT},t∈l->g8 t<=lJ l
 |u::r,t,a=>by rw [lJ];exact(bQ.mp a).elim (λe=>e▸ag.le_max_left _ _) λh=>ar (vB h) (ag.le_max_right _ _)
theorem n6{t u:LT}{n:ag}(h:g8 t<=n+1)(m:u∈t.ps):g8 u<=n:=by rw [pW]at h;exact ar (vB m) (ag.le_of_succ_le_succ h)
theorem pZ{t:LT}(h:g8 t<=0):d8:=by rw [pW]at h;cases h
section
variable{H:Hp}{a pl:ae}{k:am}{p:aj U}{w h:ag}{x y:U}
theorem n7(e:H a=G (ey k w h x y pl p)):ew H (J a) "width"=G (aa w 0):=du e E E
theorem n8(e:H a=G (ey k w h x y pl p)):ew H (J a) "height"=G (aa h 0):=du e E E
theorem ez.kind(h:ez H a k pl p):ew H (J a) "kind"=G (aE (I k) 0):=let ⟨_,_,_,_,e⟩:=h;du e E E
theorem ez.parts(h:ez H a k pl p):ew H (J a) "parts"=G (J pl):=let ⟨_,_,_,_,e⟩:=h;du e E E
theorem ez.pane(h:ez H a k pl p):ew H (J a) "pane"=G (pv p):=let ⟨_,_,_,_,e⟩:=h;du e E E
end
theorem jK(H:Hp)(a b:am)(t u:bv):cJ H bB (aE (I a) t) (aE (I b) u)=G (a==b):=by show G (I a==I b)=_;rw [q0]
theorem NG(H:Hp)(a b:am)(t u:bv):cJ H eY (aE (I a) t) (aE (I b) u)=G (!(a==b)):=by
 show(if gs (aE (I a) t)=gs (aE (I b) u)then(G (I a==I b)).map _ else af)=_
 rw [show gs (aE (I a) t)=gs (aE (I b) u)from E,aJ E,q0];rfl
theorem vC{c:Cx}(n:ag):∀(t:LT) {D:ag} {H:Hp} {Q:KV},g8 t<=n->2*n<=D->gv H t->WF t->(c1 t).length<=bL->(∀d,H d=af->Q (J d) (H.set d (ak (bE (c1 t)))))->CL c D 108 [J t.a] H Q:=by
 induction n with
 |zero=>exact λt D H Q p=>(pZ p).elim
 |succ n A=>
  intro t D H Q p w e r g q;refine vw (Le (ar (Sp 2 (gE n)) w) ?_) q;cases h:t.k=="pane" with
  |true=>simp! [e.here.1.kind,jK,h];exact λd b=>bX ⟨d,E,b,n5 r (c4.mp h)▸eS.refl _⟩
  |false=>
   have B:=dB.mp h;rw [jJ B]at g⊢;simp! [e.here.1.kind,jK,h];intro d b;have x:=BD (eS.alloc (eS.refl _) b (o:=ak [])) e;simp! [x.here.1.parts,dm x.here.2];refine h5 (λi j f=>j.lookup "found"=G (J d)/\eS (H.set d (ak (bE (f6 i)))) f) (λi u F j f K y I z M=>?_) (λj f I=>?_) ⟨E,by rw [BE];exact eS.refl _⟩
   ·have v:f d=G (ak (bE (f6 i))):=I.2 _ _ (aF _ _ _)
    have C:eS H f:=(eS.alloc (eS.refl _) b).trans I.2;have l:u∈t.ps:=y▸cO _ bn;rw [y,vy,b3,BF,b3]at g;simp! [(bf (by decide)).trans I.1,jH v,aY]
    refine A u (n6 p l) (cj w) (BD C (e.kids.mem l)) (r.kids.mem l) (ar (he _ _) (ar (gQ _ _) g)) λN s=>?_;simp! [];refine vn (bK s v) (aF _ _ _) (by rw [g5,g5];exact ar (gn (he _ _) _) g) ?_
    have m:=(eS.alloc I.2 s (o:=ak (bE (c1 u)))).set d (ak (bE (f6 i)++bE (c1 u)));rw [lA]at m;exact a5 (z _ _ (Bt ((eS.alloc (eS.refl H) b).trans m) e.here.2) ⟨(bf (by decide)).trans I.1,by rw [vy,mM,BG];exact m⟩)
   ·simp! [I.1]
    exact⟨d,E,b,I.2⟩
section
variable{H:Hp}
theorem BJ{a b:ae}(d:fy H a=true)(c:fy H b=true):pf H (J a) (J b)=G (decide (a=b)):=by
 show(if a=b then G true else if(fy H a&&fy H b)=true then G false else af)=_
 rw [d,c]
 by_cases h:a=b
 ·rw [aJ h,cN h]
 ·rw [aG h,e7 h];rfl
theorem kn{a C:ae}{fs:L (am×ab)}(h:H a=G (bZ C fs)):fy H a=true:=by unfold fy;rw [h]
theorem ez.inst{a b:ae}{k:am}{p:aj U}(h:ez H a k b p):fy H a=true:=let ⟨_,_,_,_,e⟩:=h;kn e
theorem h6{a b:ae}(d:fy H a=true)(c:fy H b=true):cJ H b0 (J a) (J b)=G (decide (a=b)):=BJ d c
theorem n9{a b:ae}(d:fy H a=true)(c:fy H b=true):cJ H dq (J a) (J b)=G (!decide (a=b)):=aA (kL λx=>!x) (BJ d c)
theorem e3{a:ae}{vs:L ab}{k:U}{t:bv}(h:H a=G (ak vs)):c6 H (J a) (aa k t)=fx vs k:=aA (lj · k) h
theorem NH{a:ae}{vs:L ab}{k:U}{t:bv}(h:H a=G (eg vs)):c6 H (J a) (aa k t)=fx vs k:=aA (lj · k) h
theorem mN{a:ae}{vs:L ab}(h:H a=G (ak vs)):hY H (J a)=G vs.length:=rm h
theorem sc{a b:ae}{xs ys:L ab}{Q:KV}(f:bD H a=G xs)(e:bD H b=G ys)(c:xs.length+ys.length<=bL)(q:∀d,H d=af->Q (J d) (H.set d (ak (xs++ys)))):lm cq (J a) (J b) H Q:=⟨E,a,b,xs,ys,E,E,f,e,c,q⟩
end
theorem fl(H:Hp)(i j:U)(t u:bv):cJ H bB (aa i t) (aa j u)=G (i==j):=E
theorem mO(v:ab)(l:L ab):fx (v::l) 0=G v:=E
theorem n_{l:L ab}{i:ag}{v:ab}(h:l[i]? =G v):fx l (i:U)=G v:=by unfold fx;rw [aJ (dH i),tG];exact h
theorem p3(l r:L ab)(v:ab):fx (l++v::r) (-((r.length+1:ag):U))=G v:=by
 unfold fx;rw [aG (by omega),aJ (by rw [b3,fu];omega),show(-((r.length+1:ag):U)+((l++v::r).length:ag)).toNat=l.length from by rw [b3,fu];omega]
 exact xE (cw _)|>.trans (by rw [qR];rfl)
section
variable{c:Cx}{D:ag}{H:Hp}{Q:KV}
theorem BK{b:aK}(a:2<=D)(q:Q (aE (I (if b then "row" else "column")) 0) H):CL c D 127 [az b] H Q:=by
 refine Lk a ?_;cases b with
 |true=>exact b5 (h2 (.var E) (a4 .cst q))
 |false=>exact b5 (hu (.var E) (a4 .cst q))
theorem oa{t:LT}(m:2*g8 t+2<=D)(k:gv H t)(j:WF t)(i:(c1 t).length<=bL)(q:∀d,H d=af->Q (J d) (H.set d (ak (iL (al t))))):CL c D 113 [J t.a] H Q:=by
 refine vw (Lg (ar (gQ _ _) m) ?_) q;simp! [];refine vC (g8 t) t (cw _) (cj m) k j i λd g=>?_;have l:=bH (aF H d (ak (bE (c1 t))));have r:(c1 t).map (λt=>aa (t.p.getD 0) 0)=iL (al t):=by unfold iL al lI;rw [dC];rfl
 refine kj (f:=λt=>aa (t.p.getD 0) 0) (dm l) l i (λu b h s e=>?_) λh e=>⟨h,E,eS.fresh (eS.alloc (eS.refl _) g) e,by rw [r];exact(eS.alloc (eS.refl _) g).set h _⟩
 have b:=vA b;obtain ⟨n,o⟩:=((j u b.1).lf b.2).1;exact .att (.var E) (((k u b.1).1.sub (eS.alloc (eS.alloc (eS.refl _) g) e)).pane.trans (by rw [o];rfl))
end
noncomputable def Wk(N H:Hp):Prop:=∀a b,N a=G b->H a=G b\/∃c,b=eg c/\H a=G (ak c)
section
variable{c:Cx}{A:bj}{P:Pr}{H:Hp}{D:ag}
theorem HR.weakenR{w:bh}{h₀ h:bI}{d:ae->aj ae}{N:Hp}(x:HR w h₀ H P d h)(f:Wk N H):HR w h₀ N P d h:=⟨x.stat,x.prot,λa b e=>(f a b e).elim (x.real a b) λ⟨i,c,q⟩=>by obtain ⟨z,g,⟨n,e⟩,r⟩:=x.real a _ q;rw [c];exact⟨z,g,⟨_,e,E,_,E⟩,r⟩,λa b e=>(f a b e).elim (x.apart a b) λ⟨i,c,q⟩=>⟨(x.apart a _ q).1,(x.apart a _ q).2.1,λz=>by rw [c]at z;cases z⟩,x.owned⟩
theorem CL.weakR{a:ae}{vs:L ab}{Q f:KV}(h:CL c D a vs H f)(k:∀v d,f v d->∃N,Wk N d/\Q v N):CL c D a vs H Q:=by
 unfold CL at*
 exact λA P s g r x e=>jm (h A P s g r x e) λr l y=>by
  rcases r with _|(v|_|_|_)<;>first|exact y.elim|skip
  obtain ⟨d,a,b⟩:=y;obtain ⟨N,j,q⟩:=k _ _ b;exact⟨N,⟨a.gens,a.os,a.frs,let ⟨i,z⟩:=a.hr;⟨i,z.weakenR j⟩⟩,q⟩
end
noncomputable def i4(n r c:U):MO:=bZ 480 [("number",aa n 0),("terminal",ah),("rows",aa r 0),("columns",aa c 0),("bells",aa 0 0),("title",aq #[] 0),("is_dead",az false),("options",ah)]
noncomputable def dc(H:Hp)(a:ae)(n:U):Prop:=∃r c,H a=G (i4 n r c)
noncomputable def iu:MO->aK
 |bZ C _=>C==85||C==480
 |_=>false
noncomputable def ko(o o':MO):Prop:=(iu o=false->o'=o)/\(∀k a p,(∃w h x y,o=ey k w h x y a p)->∃w h x y,o'=ey k w h x y a p)/\(∀n,(∃r c,o=i4 n r c)->∃r c,o'=i4 n r c)/\iu o'=iu o
theorem ko.refl(o:MO):ko o o:=⟨λ_=>E,λ_ _ _ h=>h,λ_ h=>h,E⟩
theorem ko.trans{o p q:MO}(x:ko o p)(y:ko p q):ko o q:=⟨λl=>by have e:=x.1 l;rw [e]at y;exact y.1 l,λ_ _ _ h=>y.2.1 _ _ _ (x.2.1 _ _ _ h),λ_ h=>y.2.2.1 _ (x.2.2.1 _ h),y.2.2.2.trans x.2.2.2⟩
noncomputable def aW(H d:Hp):Prop:=∀a c,H a=G c->∃b,d a=G b/\ko c b
section
variable{H H1 H2:Hp}{a d pl:ae}{k:am}{p:aj U}{o mo:MO}
theorem aW.keep(x:aW H H1)(e:H a=G mo)(l:iu mo=false):H1 a=G mo:=let ⟨_,b,y⟩:=x a mo e;y.1 l▸b
theorem aW.cell(x:aW H H1)(h:ez H a k pl p):ez H1 a k pl p:=by obtain ⟨w,q,u,v,e⟩:=h;obtain ⟨o,b,y⟩:=x _ _ e;obtain ⟨w,q,u,v,g⟩:=y.2.1 k pl p ⟨w,q,u,v,E⟩;exact⟨w,q,u,v,g▸b⟩
theorem aW.pane{n:U}(x:aW H H1)(h:dc H a n):dc H1 a n:=by obtain ⟨r,c,e⟩:=h;obtain ⟨o,b,y⟩:=x _ _ e;obtain ⟨r,c,g⟩:=y.2.2.1 n ⟨r,c,E⟩;exact⟨r,c,g▸b⟩
theorem aW.dom(x:aW H H1)(h:H1 a=af):H a=af:=by
 cases e:H a with
 |none=>rfl
 |some mo=>obtain ⟨o,b,_⟩:=x _ _ e;rw [h]at b;cases b
theorem aW.refl(H:Hp):aW H H:=λ_ _ e=>⟨_,e,.refl _⟩
theorem aW.trans(x:aW H H1)(y:aW H1 H2):aW H H2:=λa mo e=>let ⟨o,f,c⟩:=x a mo e;let ⟨q,d,b⟩:=y a o f;⟨q,d,c.trans b⟩
theorem aW.of_sub(x:eS H H1):aW H H1:=λa mo e=>⟨_,x a mo e,.refl _⟩
theorem aW.alloc(x:aW H H1)(b:H1 d=af):aW H (H1.set d o):=λa mo e=>let ⟨q,c,l⟩:=x a mo e;⟨q,bK b c,l⟩
theorem aW.fresh(x:aW H H1)(b:H d=af):aW H (H1.set d o):=λa mo e=>let ⟨q,c,l⟩:=x a mo e;⟨q,(dT _ _ (f4 b e)).trans c,l⟩
theorem aW.like(h:H a=G mo)(l:ko mo o):aW H (H.set a o):=λb q e=>by
 by_cases c:b=a
 ·rw [c,h]at e;rw [c,aF];cases e;exact⟨_,E,l⟩
 ·rw [dT _ _ c];exact⟨_,e,.refl _⟩
theorem BL{c:am}{w h w' h':ag}{x y f d:U}{a:ae}{b:aj U}(e:ey k w h x y pl p=ey c w' h' f d a b):k=c/\pl=a/\pv p=pv b:=by unfold ey r8 at e;simp only [MO.inst.injEq,xp,Prod.mk.injEq,aE.injEq,J.injEq,true_and,and_true]at e;exact⟨li e.1,e.2.2.2.2.2.1,e.2.2.2.2.2.2⟩
theorem BN{n m r c a c':U}(e:i4 n r c=i4 m a c'):n=m:=by unfold i4 at e;simp only [MO.inst.injEq,xp,Prod.mk.injEq,aa.injEq,true_and,and_true]at e;exact e.1
theorem BO{w h:ag}{x y n r c:U}(e:ey k w h x y pl p=i4 n r c):d8:=by unfold ey r8 i4 at e;exact bW (MO.inst.inj e).1 (by decide)
theorem ko.cell{w h w' h':ag}{x y b a:U}:ko (ey k w h x y pl p) (ey k w' h' b a pl p):=⟨(λl=>nomatch l),λj g i ⟨_,_,_,_,e⟩=>by obtain ⟨f,d,c⟩:=BL e;unfold ey;rw [f,d,c];exact⟨_,_,_,_,E⟩,λn ⟨_,_,e⟩=>(BO e).elim,E⟩
theorem aW.cellSet{w h w' h':ag}{x y c b:U}(d:H a=G (ey k w h x y pl p)):aW H (H.set a (ey k w' h' c b pl p)):= .like d .cell
theorem aW.paneSet{n r c b c':U}(d:H a=G (i4 n r c)):aW H (H.set a (i4 n b c')):=.like d ⟨(λl=>nomatch l),λh f g ⟨_,_,_,_,e⟩=>(BO e.symm).elim,(λm ⟨_,_,e⟩=>by rw [BN e];exact⟨_,_,E⟩),E⟩
theorem ez.set_ne(h:a≠d)(e:ez H a k pl p):ez (H.set d o) a k pl p:=by unfold ez;rw [dT _ _ h];exact e
theorem NI{c:ae}{d:am}{f:aj U}(h:ez H a k pl p)(h':ez H a d c f):k=d/\pl=c:=by obtain ⟨_,_,_,_,e⟩:=h;obtain ⟨_,_,_,_,g⟩:=h';exact let ⟨a,b,_⟩:=BL (bc (e.symm.trans g));⟨a,b⟩
theorem ez.some(h:ez H a k pl p):H a≠af:=let ⟨_,_,_,_,e⟩:=h;λz=>by rw [e]at z;cases z
theorem aW.list(x:aW H H1){l:ae}{vs:L ab}(h:bD H l=G vs):bD H1 l=G vs:=vu (λ_ e z=>x.keep e (z.elim (·▸E) (·▸E))) h
theorem gv.ext(x:aW H H1){t:LT}(h:gv H t):gv H1 t:=λq a=>⟨x.cell (h q a).1,x.list (h q a).2⟩
noncomputable def NR(H:Hp)(q:LT):Prop:=ez H q.a q.k q.pl q.p/\H q.pl=G (eg (bE q.ps))
noncomputable abbrev fm(H:Hp):LT->Prop:=km (NR H)
theorem fm.at{t:LT}(h:fm H t):gv H t:=λq a=>⟨(h q a).1,g4 (h q a).2⟩
theorem fm.ext(x:aW H H1){t:LT}(h:fm H t):fm H1 t:=λq a=>⟨x.cell (h q a).1,x.keep (h q a).2 E⟩
noncomputable def vD:MO->aK
 |eg _=>false
 |bZ C _=>C !=85
 |_=>true
theorem NJ{o':MO}(f:H d=G o)(c:vD o=true){t:LT}(h:fm H t):fm (H.set d o') t:=λq b=>
 have j:q.a≠d:=λe=>by obtain ⟨_,_,_,_,g⟩:=(h q b).1;rw [e,f]at g;exact nomatch (bc g▸c:vD (ey ..)=true)
 have i:q.pl≠d:=λe=>by have g:=(h q b).2;rw [e,f]at g;exact nomatch (bc g▸c:vD (.rol _)=true)
 ⟨(h q b).1.set_ne j,(dT _ _ i).trans (h q b).2⟩
noncomputable def NM(H:Hp)(q:LT):Prop:=ez H q.a q.k q.pl q.p/\H q.pl=G (ak (bE q.ps))
noncomputable abbrev dx(H:Hp):LT->Prop:=km (NM H)
noncomputable abbrev i5(H:Hp):L LT->Prop:=gJ (NM H)
theorem NM.ext(x:aW H H1){q:LT}(h:NM H q):NM H1 q:=⟨x.cell h.1,x.keep h.2 E⟩
theorem NM.set{q:LT}(h:NM H q)(c:q.a≠d)(b:q.pl≠d):NM (H.set d o) q:=⟨h.1.set_ne c,(dT _ _ b).trans h.2⟩
theorem dx.at{t:LT}(h:dx H t):gv H t:=λq a=>⟨(h q a).1,bH (h q a).2⟩
theorem dx.ext(x:aW H H1){t:LT}(h:dx H t):dx H1 t:=λq a=>(h q a).ext x
theorem i5.ext(x:aW H H1){t:L LT}(h:i5 H t):i5 H1 t:=λq a=>(h q a).ext x
theorem sd{l:L LT}{q:LT}(h:q∈dw l):q.a∈da l/\q.pl∈da l:=⟨oV.mpr ⟨q,h,bn⟩,oV.mpr ⟨q,h,bM _ bn⟩⟩
theorem gw(a b:L LT):da (a++b)=da a++da b:=by unfold da;rw [lG,tH]
theorem h7(t:LT):da [t]=ee t:=by unfold da;rw [n4];rfl
theorem ob(t:LT):ee t=t.a::t.pl::da t.ps:=by unfold ee;rw [jI];rfl
theorem sf(t:LT)(r:L LT):da (t::r)=ee t++da r:=by unfold da;rw [dw,tH];rfl
theorem vE:da []=[]:=by unfold da;rw [dw];rfl
theorem p4{t:L LT}(b:d∉da t)(h:i5 H t):i5 (H.set d o) t:=λq a=>(h q a).set (λe=>b (e▸(sd a).1)) λe=>b (e▸(sd a).2)
theorem NK{t:LT}(a:d∉ee t)(h:dx H t):dx (H.set d o) t:=(p4 (t:=[t]) (by rw [h7];exact a) (g7 h)).mem bn
theorem i5.live{t:L LT}(h:i5 H t):∀x∈da t,H x≠af:=λx a=>by
 obtain ⟨q,b,a⟩:=oV.mp a;rcases bQ.mp a with e|a
 ·exact e▸(h q b).1.some
 ·rw [de.mp a,(h q b).2];exact nofun
theorem dx.live{t:LT}(h:dx H t):∀x∈ee t,H x≠af:=λx a=>i5.live (g7 h) x (by rw [h7];exact a)
noncomputable def f7(H b:Hp):Hp:=λa=>match H a with
 |G _=>b a
 |none=>match b a with
  |G (ak c)=>G (eg c)
  |o=>o
theorem BP{b:Hp}(h:H a=G mo):f7 H b a=b a:=by unfold f7;rw [h]
theorem vF{b:Hp}{vs:L ab}(h:H a=af)(c:b a=G (ak vs)):f7 H b a=G (eg vs):=by unfold f7;simp only [h,c]
theorem sg{c:Hp}{C:ae}{fs:L (am×ab)}(b:c a=G (bZ C fs)):f7 H c a=G (bZ C fs):=by
 unfold f7;cases H a with
 |none=>simp only [b]
 |some _=>exact b
theorem p5(H b:Hp):Wk (f7 H b) b:=λa mo e=>by
 unfold f7 at e;split at e
 ·exact bt e
 ·split at e
  ·rename_i c q;cases e;exact bF ⟨c,E,q⟩
  ·exact bt e
theorem aW.frz{b:Hp}(x:aW H b):aW H (f7 H b):=λa mo e=>by rw [BP e];exact x a mo e
theorem dx.frz{b:Hp}{t:LT}(h:dx b t)(c:∀x∈ee t,H x=af):fm (f7 H b) t:=λq a=>⟨let ⟨w,g,u,v,e⟩:=(h q a).1;⟨w,g,u,v,sg e⟩,vF (c _ (by have:=(sd (l:=[t]) (by rw [n4];exact a)).2;rw [h7]at this;exact this)) (h q a).2⟩
end
structure Fr where
 a:ae
 pl:ae
 k:am
 l:L LT
 r:L LT
noncomputable def Fr.fill(f:Fr)(t:LT):LT:=cV f.a f.pl f.k af (f.l++t::f.r)
noncomputable def dd(C:L Fr)(t:LT):LT:=C.foldl (λt f=>f.fill t) t
noncomputable def fE(C:L Fr):L ae:=(C.map Fr.a).reverse
noncomputable abbrev b9(a b:ae)(n:U):LT:=cV a b "pane" (G n) []
noncomputable def sh(f:Fr):Prop:=(f.k="row"\/f.k="column")/\1<=(f.l++f.r).length/\i3 (f.l++f.r)
noncomputable abbrev mP(C:L Fr):Prop:=∀f∈C,sh f
theorem p6(f:Fr)(C:L Fr):fE (f::C)=fE C++[f.a]:=by unfold fE;rw [e6,tw]
theorem NL(f:Fr)(C:L Fr):fE (C++[f])=f.a::fE C:=by unfold fE;rw [c0,tj];rfl
theorem si(C:L Fr):(fE C).length=C.length:=by unfold fE;rw [nh,bJ]
theorem NN(C:L Fr)(f:Fr)(t:LT):dd (C++[f]) t=f.fill (dd C t):=EA
noncomputable def gf{b:Type}(φ:ae->ae->am->aj U->L b)(l:L LT):L b:=(dw l).flatMap λq=>φ q.a q.pl q.k q.p
noncomputable def kp{b:Type}(φ:ae->ae->am->aj U->L b)(C:L Fr):L b:=C.flatMap λf=>φ f.a f.pl f.k af++gf φ (f.l++f.r)
section
variable{β:Type}{φ:ae->ae->am->aj U->L β}
theorem oc(a b:L LT):gf φ (a++b)=gf φ a++gf φ b:=by unfold gf;rw [lG,tH]
theorem NO(t:LT):gf φ [t]=φ t.a t.pl t.k t.p++gf φ t.ps:=by unfold gf;rw [n4,jI];rfl
theorem NP(f:Fr)(t:LT):(gf φ [f.fill t]).Perm ((φ f.a f.pl f.k af++gf φ (f.l++f.r))++gf φ [t]):=by rw [NO,fp];refine xF _ ?_;show(gf φ (f.l++([t]++f.r))).Perm _;rw [oc,oc,oc,fp];exact xF _ js
theorem BQ(C:L Fr):∀t:LT,(gf φ [dd C t]).Perm (kp φ C++gf φ [t]):=by
 induction C with
 |nil=>exact λt=>tC _
 |cons f C a=>exact λt=>(a (f.fill t)).trans (((NP f t).append_left _).trans (by unfold kp;rw [nq,<-fp];exact js.append_right _))
end
noncomputable def dy(C:L Fr):L ae:=kp (λa b _ _=>[a,b]) C
noncomputable def φl(_ _:ae)(k:am)(p:aj U):L U:=if k="pane" then [p.getD 0]else []
noncomputable def lK(C:L Fr):L U:=kp φl C
theorem sj(l:L LT):d7 l=gf φl l:=by
 unfold d7 lI f6 gf
 induction dw l with
 |nil=>rfl
 |cons q r a=>
  rw [nq,<-a,kZ];unfold lH φl
  by_cases h:q.k="pane"
  ·rw [aJ h,aJ (c4.mpr h)];rfl
  ·rw [aG h,aG (λz=>h (c4.mp z))];rfl
theorem kq(t:LT):d7 [t]=al t:=by unfold d7 al;rw [BG]
theorem p7(C:L Fr)(t:LT):(ee (dd C t)).Perm (dy C++ee t):=by rw [<-h7,<-h7 t];exact BQ (φ:=λa b _ _=>[a,b]) C t
theorem lL(C:L Fr)(t:LT):(al (dd C t)).Perm (lK C++al t):=by rw [<-kq,<-kq t,sj,sj];exact BQ C t
theorem mQ(a b:ae)(n:U):al (b9 a b n)=[n]:=by unfold al;rw [n5 (hA (bt ⟨E,⟨n,E⟩,E⟩) (pV _)) E];rfl
theorem p8(a b:ae)(n:U):WF (b9 a b n):=hA (bt ⟨E,⟨n,E⟩,E⟩) (pV _)
theorem NQ{f:Fr}{t:LT}(h:sh f)(g:WF t):WF (f.fill t):=hA (bF ⟨h.1,E,by show 2<=(f.l++t::f.r).length;rw [b3,fu,<-tF,<-b3];exact df h.2.1⟩) (f5 h.2.2.l (f5 (g7 g) h.2.2.r))
theorem sk{C:L Fr}:∀{t:LT},mP C->WF t->WF (dd C t):=by
 induction C with
 |nil=>exact λ_ g=>g
 |cons f C a=>exact λh g=>a (λb m=>h b (bM _ m)) (NQ (h f bn) g)
noncomputable def p9(H:Hp)(f:Fr)(x:ae):Prop:=ez H f.a f.k f.pl af/\H f.pl=G (ak (bE f.l++J x::bE f.r))/\i5 H (f.l++f.r)
noncomputable def jL(H:Hp):L Fr->ae->Prop
 |[],_=>True
 |f::C,x=>p9 H f x/\jL H C f.a
theorem jL.imp{H a:Hp}:∀{C:L Fr} {x:ae},(∀f∈C,∀x,p9 H f x->p9 a f x)->jL H C x->jL a C x
 |[],_,_,_=>trivial
 |f::C,x,g,h=>⟨g f bn x h.1,jL.imp (λb m=>g b (bM _ m)) h.2⟩
section
variable{H H':Hp}{f:Fr}{C:L Fr}{t:LT}{x y d:ae}{o:MO}
theorem gg:dy (f::C)=f.a::f.pl::(da (f.l++f.r)++dy C):=by unfold dy kp;rw [nq];rfl
theorem sl:sh f->lK (f::C)=d7 (f.l++f.r)++lK C:=λh=>by unfold lK kp;rw [nq,sj,φl,aG (h.1.elim (λe=>e▸by decide) λe=>e▸by decide)];rfl
theorem NS(h:f∈C):∀z∈f.a::f.pl::da (f.l++f.r),z∈dy C:=λz b=>oV.mpr ⟨f,h,b⟩
theorem jL.set(c:d∉dy C)(h:jL H C x):jL (H.set d o) C x:=h.imp λf m z g=>
 have n:∀z∈f.a::f.pl::da (f.l++f.r),z≠d:=λz b e=>c (e▸NS m z b)
 ⟨g.1.set_ne (n _ bn),(dT _ _ (n _ (bM _ bn))).trans g.2.1,p4 (λz=>n _ (bM _ (bM _ z)) E) g.2.2⟩
theorem jL.live:∀{C:L Fr} {x:ae},jL H C x->∀z∈dy C,H z≠af
 |f::C,x,h,z,a=>by
  rw [gg]at a;rcases bQ.mp a with e|a
  ·exact e▸h.1.1.some
  ·rcases bQ.mp a with e|a
   ·rw [e,h.1.2.1];exact nofun
   ·exact(dG.mp a).elim (h.1.2.2.live z) (jL.live h.2 z)
theorem vG:dx H (f.fill t)<->p9 H f t.a/\dx H t:=by
 have e:bE (f.l++t::f.r)=bE f.l++J t.a::bE f.r:=mM _ _;constructor
 ·exact λh=>⟨⟨h.here.1,by have:=h.here.2;rw [<-e];exact this,f5 h.kids.l (gJ.r (a:=[t]) h.kids.r)⟩,h.kids.mem (cO _ bn)⟩
 ·exact λh=>hA ⟨h.1.1,by rw [show(f.fill t).ps=f.l++t::f.r from E,e];exact h.1.2.1⟩ (f5 h.1.2.2.l (f5 (g7 h.2) h.1.2.2.r))
theorem gx:∀{C:L Fr} {t:LT},dx H (dd C t)<->jL H C t.a/\dx H t
 |[],t=>⟨λh=>⟨trivial,h⟩,And.right⟩
 |f::C,t=>(gx (C:=C) (t:=f.fill t)).trans ⟨λh=>⟨⟨(vG.mp h.2).1,h.1⟩,(vG.mp h.2).2⟩,λh=>⟨h.1.2,vG.mpr ⟨h.1.1,h.2⟩⟩⟩
end
structure sm(a:ae)(m:U)(b:L LT)(ρ:ao):Prop where
 r1:ρ.lookup "cell"=G (J a)
 r2:ρ.lookup "pane"=G (aa m 0)
 n:m∉d7 b
theorem NT{c:Cx}{m:U}(n:ag):∀(t:LT) {D:ag} {H:Hp} {Q:KV},g8 t<=n->2*n<=D->n<=1000->gv H t->WF t->(m∉al t->Q ah H)->
  (∀C a h,mP C->t=dd C (b9 a h m)->C.length<n->∀d,H d=af->Q (J d) (H.set d (ak ((fE C++[a]).map J))))->CL c D 120 [J t.a,aa m 0] H Q:=by
 induction n with
 |zero=>exact λt D H Q K=>(pZ K).elim
 |succ n ad=>
  intro t D H Q K X W s i R P;refine(Li (ar (Sp 2 (gE n)) X) ?_).up;have f:=s.here.1;cases e:t.k=="pane" with
  |true=>
   have b:=c4.mp e;obtain ⟨⟨v,Y⟩,es⟩:=i.here.lf b;have F:=f.pane;rw [Y]at F
   have Z:t=b9 t.a t.pl v:=by
    cases t with
    |node a h S p B=>rw [show B=[]from es,show p=G v from Y,show S="pane" from b];rfl
   have el:al t=[v]:=by rw [Z];exact mQ _ _ _
   cases j:v==m with
   |true=>have ee:=c4.mp j;simp! [f.kind,jK,e];refine(h2 (.eq (.cmp (.att (.var E) F) (.var E) (fl ..)) j) (ed (.cons (.var E) .nil) (aS E) λd q=>?_));exact bX (rZ (P [] t.a t.pl (λ_ ap=>nomatch ap) (ee▸Z) (gE n) d q))
   |false=>simp! [f.kind,jK,e];exact(hu (.eq (.cmp (.att (.var E) F) (.var E) (fl ..)) j) (a4 .cst (bX (rZ (R (by rw [el];exact λz=>dB.mp j (de.mp z).symm))))))
  |false=>
   have b:=dB.mp e;have y:=i.here.in b;simp! [f.kind,jK,e,f.parts,dm s.here.2];refine rX (xs:=t.ps) s.here.2 (sm t.a m) (λx u g ρ aN w I k1 k2=>?_) (λρ I=>?_) ⟨E,E,by unfold d7;rw [BE];exact gc⟩
   ·have A:u∈t.ps:=w▸cO _ bn
    simp! [aY,(bf (by decide)).trans I.r2]
    refine ad u (n6 K A) (cj X) (nl W) (s.kids.mem A) (i.kids.mem A) (λhq=>?_) λC a h wc au V d q=>?_
    ·exact b7 (.cmp (.var aY) .cst E) (a5 (k1 _ ⟨(bf (by decide)).trans ((bf (by decide)).trans I.r1),(bf (by decide)).trans ((bf (by decide)).trans I.r2),by rw [pX,kq];exact λz=>(dG.mp z).elim I.n hq⟩))
    ·refine cZ (.cmp (.var aY) .cst E) (b5 (fD (ed (.cons (.var ((bf (by decide)).trans ((bf (by decide)).trans I.r1))) .nil) (aS E) λd2 N=>fY (a4 (.var aY) ?_))))
     have l1:=bH (aF H d (ak ((fE C++[a]).map J)));refine sc (bH (aF _ _ _)) (vv N l1) (by rw [bJ,b3,si];exact ar (gn (df (hO V)) 1) (ar (gn W 1) (aS E))) λd3 ao=>bX (k2 _ _ _ (bX ⟨_,?_,P (C++[⟨t.a,t.pl,t.k,x,g⟩]) a h (λas M=>(dG.mp M).elim (wc as) λM=>?_) ?_ ?_ d3 (eS.fresh (eS.alloc (eS.alloc (eS.refl _) q) N) ao)⟩))
     ·have ac:=(eS.alloc (eS.alloc (eS.refl H) q) N (o:=ak [J t.a])).set d3 (ak ([J t.a]++(fE C++[a]).map J))
      rw [NL];exact ac
     ·have T:i3 (x++u::g):=w▸i.kids
      rw [de.mp M];refine⟨y.1,?_,f5 T.l (gJ.r (a:=[u]) T.r)⟩;have z:=y.2.2;rw [w,b3,fu]at z;show 1<=(x++g).length;rw [b3];exact ag.le_of_succ_le_succ z
     ·rw [NN,<-au]
      have z1:=y.2.1;cases t with
      |node aw bl S p B=>rw [show p=af from z1,show B=x++u::g from w];rfl
     ·rw [b3];exact oW V
   ·simp! []
    exact rZ (R (by unfold al;rw [jJ b];exact I.n))
mutual
theorem WF.ht:∀{t:LT},WF t->g8 t<=(al t).length
 |cV a c k p b,h=>by
  rw [it,pW]
  by_cases e:k="pane"
  ·rw [n5 h e,(h.here.lf e).2];exact cw 1
  ·have w:=(h.here.in e).2.2
   have g:=i3.ht (l:=b) h.kids;rw [jJ (t:=cV a c k p b) e,<-vz];show lJ b+1<=(d7 b).length;have w:2<=b.length:=w;omega
theorem i3.ht:∀{l:L LT},i3 l->l.length<=(d7 l).length/\lJ l+l.length<=(d7 l).length+1
 |[],h=>⟨eh _,eh _⟩
 |t::c,h=>by have a:=WF.ht (h.mem bn);have b:=i3.ht (l:=c) (gJ.r (a:=[t]) h);rw [r_,b3,lJ];rw [pW]at a⊢;simp only [fu];omega
end
structure Cp(t a:LT):Prop where
 k:a.k=t.k
 lv:al a=al t
 wf:WF t->WF a
structure lM(t a:L LT):Prop where
 lv:d7 a=d7 t
 wf:i3 t->i3 a
 l:a.length=t.length
theorem NU:lM [] []:=⟨E,id,E⟩
theorem lM.snoc{ts ts':L LT}{t a:LT}(x:lM ts ts')(y:Cp t a):lM (ts++[t]) (ts'++[a]):=⟨by rw [pX,pX,kq,kq,x.lv,y.lv],λh=>f5 (x.wf h.l) (g7 (y.wf (h.r.mem bn))),by rw [b3,b3,x.l];rfl⟩
theorem NV{t:LT}{c b:ae}{a:L LT}(x:lM t.ps a)(w:WF t):Cp t (cV c b t.k t.p a):=by
 have d:WF (cV c b t.k t.p a):=hA (w.here.elim (λh=>bt ⟨h.1,h.2.1,xB (x.l.trans (by rw [h.2.2];rfl))⟩) λh=>bF ⟨h.1,h.2.1,x.l▸h.2.2⟩) (x.wf w.kids)
 refine⟨E,?_,λ_=>d⟩;unfold al
 by_cases e:t.k="pane"
 ·rw [n5 w e,n5 d e];rfl
 ·rw [jJ e,jJ (t:=cV c b t.k t.p a) e];exact x.lv
structure jM(H:Hp)(d:ae)(b ts:L LT)(a:Hp):Prop where
 x:aW H a
 l:a d=G (ak (bE ts))
 m:i5 a ts
 nd:(d::da ts).Nodup
 fr:∀x∈d::da ts,H x=af
 cp:lM b ts
theorem jM.off{H b:Hp}{d:ae}{a ts:L LT}(I:jM H d a ts b):d∉da ts:=(cS.mp I.nd).1
theorem jM.next{H N i:Hp}{d:ae}{j ts:L LT}{t b:LT}(I:jM H d j ts N)(y:aW N i)(o:dx i b)(n:(ee b).Nodup)(f:∀x∈ee b,N x=af)(k:Cp t b):jM H d (j++[t]) (ts++[b]) (i.set d (ak (bE ts++[J b.a]))) where
 x:=(I.x.trans y).fresh (I.fr d bn)
 l:=by rw [aF,mM];rfl
 m:=f5 (p4 I.off (I.m.ext y)) (g7 (NK (λz=>by have e:=I.l;rw [f d z]at e;cases e) o))
 nd:=by
  rw [gw,h7,<-no,hM];refine⟨I.nd,n,λz c w g e=>?_⟩;rw [<-e]at g;rcases bQ.mp c with h|h
  ·have q:=I.l;rw [<-h,f z g]at q;cases q
  ·exact I.m.live z h (f z g)
 fr z c:=by rw [gw,h7,<-no]at c;exact(dG.mp c).elim (I.fr z) λh=>I.x.dom (f z h)
 cp:=I.cp.snoc k
theorem BR{c:Cx}(n:ag):∀(t:LT) {D:ag} {H:Hp} {Q:KV},g8 t<=n->2*n+3<=D->gv H t->WF t->(al t).length<=100->
  (∀g o,aW H o->dx o g->(ee g).Nodup->(∀x∈ee g,H x=af)->Cp t g->Q (J g.a) o)->CL c D 101 [J t.a] H Q:=by
 induction n with
 |zero=>exact λt D H Q C=>(pZ C).elim
 |succ n Y=>
  intro t D H Q C F j s r q;have S:=j.here.1
  have B:(d7 t.ps).length<=100:=by
   by_cases e:t.k="pane"
   ·rw [(s.here.lf e).2];exact eh _
   ·rw [it,jJ e,<-vz]at r;exact r
  refine Lc (ar (gQ 2 _) F) (kh (a4 (.att (.var E) S.parts) (Bx (xs:=t.ps) (dm j.here.2) j.here.2 (λd M o=>∃i,jM H d M i o) ?_ (λd R=>⟨[],(aW.refl H).alloc R,aF _ _ _,pV _,by rw [vE];exact cS.mpr ⟨gc,oU⟩,λx P=>by rw [vE]at P;exact de.mp P▸R,NU⟩) ?_)))
  ·intro d M u W T ac K ⟨i,I⟩ k1 X
   refine Bu (X T λK2 q=>?_);have A:u∈t.ps:=K▸cO _ bn;have V:i3 (M++u::W):=K▸s.kids;rw [K,pX,r_,b3,b3]at B;refine a7 (.cons (.var aY) .nil) (Y u (n6 C A) (cj F) (gv.ext I.x (j.kids.mem A)) (s.kids.mem A) (ar (he _ _) (ar (gQ _ _) B)) λg H2 y g1 g2 g3 Z=>?_);have N:=I.next y g1 g2 g3 Z;exact q _ H2 (bE i) (y.keep I.l E) (by rw [g5,I.cp.l];exact fq (ar (i3.ht V.l).1 (ar (he _ _) B)) (aS E)) (N.x.list j.here.2) ⟨_,N⟩
  ·intro d T ⟨i,I⟩
   obtain ⟨w,h,u,v,e⟩:=I.x.cell S;simp! [du e E E];refine r9 (cj (ar (go (gQ 3 _) 2) F)) ⟨E,E,E,E,E,E,NF t.p⟩ λb f=>(q (cV b d t.k t.p i) _ (I.x.alloc f) (hA ⟨⟨w,h,u,v,aF _ _ _⟩,bK f I.l⟩ (I.m.ext ((aW.refl _).alloc f))) ?_ ?_ (NV I.cp s))
   ·rw [ob]
    exact cS.mpr ⟨λz=>(bQ.mp z).elim (λe:b=d=>by rw [e,I.l]at f;cases f) λz=>I.m.live b z f,I.nd⟩
   ·rw [ob]
    exact λz r=>(bQ.mp r).elim (λe=>e▸I.x.dom f) (I.fr z)
section
variable{c:Cx}{D:ag}{H:Hp}{Q:KV}{b:aK}{a pl:ae}{k:am}{p:aj U}
theorem vH(f:2<=D)(d:ez H a k pl p)(q:∀s:ag,Q (aa s 0) H):CL c D 134 [J a,az b] H Q:=by
 obtain ⟨w,h,x,y,e⟩:=d;refine Lm f ?_;cases b with
 |true=>exact b5 (h2 (.var E) (a4 (.att (.var E) (n7 e)) (q w)))
 |false=>exact b5 (hu (.var E) (a4 (.att (.var E) (n8 e)) (q h)))
theorem vI{n:ag}(f:2<=D)(d:ez H a k pl p)(q:∀N,aW H N->Q ah N):CL c D 141 [J a,az b,aa n 0] H Q:=by
 obtain ⟨w,h,x,y,e⟩:=d;refine Lo f ?_;cases b with
 |true=>exact cZ (.var E) (c7 (.var E) (.var E) (e9 e E (aS E) E (a5 (bb (a5 (q _ (.cellSet (w':=n) (h':=h) e)))))))
 |false=>exact lC (.var E) (c7 (.var E) (.var E) (e9 e E (aS E) E (a5 (bb (a5 (q _ (.cellSet (w':=w) (h':=n) e)))))))
theorem BS{α:Type}{x:α}{l2 b:L α}:∀{l1 a:L α},x∉l1->x∉a->l1++x::l2=a++x::b->l1=a
 |[],[],_,_,_=>E
 |[],y::r,_,h,e=>bW (by rw [(gb e).1];exact bn) h
 |y::l,[],h,_,e=>bW (by rw [(gb e).1];exact bn) h
 |y::l,z::r,h,g,e=>by rw [(gb e).1,BS (λm=>h (bM _ m)) (λm=>g (bM _ m)) (gb e).2]
theorem vJ{l x:ae}{l1 l2:L ae}(o:2<=D)(i:H l=G (ak ((l1++x::l2).map J)))(n:x∉l1)(j:∀a∈l1++x::l2,fy H a=true)(q:Q (aa (l1.length:ag) 0) H):CL c D 148 [J l,J x] H Q:=by
 refine Lq o (vl (.var E) i (By (λg d h=>h=H/\d.lookup "cell"=G (J x)/\x∉g) (λg a p d h K f I m k=>⟨E,dO (dO (f1 ?_))⟩) (λd h I=>bW (cO _ bn) I.2.2) ⟨E,E,gc⟩));have e:=(bf (y:="part") (v:=J a) (by decide)).trans ((bf (y:="at") (v:=aa (g.length:ag) 0) (by decide)).trans I.2.1)
 rw [I.1];have t:=h6 (j a (f▸cO _ bn)) (j x (cO _ bn))
 by_cases b:a=x
 ·refine cZ (.eq (.cmp (.var aY) (.var e) t) (cN b)) (bR (.var ((bf (by decide)).trans aY)) (bX (k _ _ _ (bX ?_))))
  rw [b]at f;exact BS n I.2.2 f▸q
 ·exact b7 (.eq (.cmp (.var aY) (.var e) t) (e7 b)) (a5 (m _ _ (bH i) ⟨E,e,λz=>(dG.mp z).elim I.2.2 λz=>b (de.mp z).symm⟩))
end
section
variable{c:Cx}
structure h8(H:Hp)(a:ae)(b:aK)(m:ag)(ρ:ao)(c:Hp):Prop where
 ch:ρ.lookup "change"=G (aa (m:ag) 0)
 ce:ρ.lookup "cell"=G (J a)
 ro:ρ.lookup "is_row"=G (az b)
 x:aW H c
theorem h8.part{H c:Hp}{a:ae}{b:aK}{m:ag}{ρ:ao}{v:ab}(I:h8 H a b m ρ c):h8 H a b m (aZ "part" v ρ) c:=⟨(bf (by decide)).trans I.ch,(bf (by decide)).trans I.ce,(bf (by decide)).trans I.ro,I.x⟩
theorem h8.ext{H d c:Hp}{a:ae}{b:aK}{m:ag}{ρ:ao}(I:h8 H a b m ρ d)(x:aW d c):h8 H a b m ρ c:=⟨I.ch,I.ce,I.ro,I.x.trans x⟩
theorem h8.down{H c:Hp}{a:ae}{b:aK}{m:ag}{ρ:ao}(I:h8 H a b m ρ c)(n:ag):h8 H a b n (aZ "change" (aa (n:ag) 0) ρ) c:=⟨aY,(bf (by decide)).trans I.ce,(bf (by decide)).trans I.ro,I.x⟩
theorem NW{b:aK}(n:ag):∀(t:LT) {D m:ag} {H:Hp} {Q:KV},g8 t<=n->2*n+3<=D->gv H t->WF t->(∀g,aW H g->Q ah g)->CL c D 160 [J t.a,az b,aa (m:ag) 0] H Q:=by
 induction n with
 |zero=>exact λt D m H Q p=>(pZ p).elim
 |succ n T=>
  intro t D m H Q p B f A q;have F:2<=D-2:=cj (ar (go (gQ 2 (2*n+1)) 2) B);have W:2*n+3<=D-2:=cj B;refine Ls (ar (gQ 2 _) B) (dN (eL (bs (.var E) (bs (.var E) (bN (fD (a7 (.cons (.var E) (.cons (.var E) .nil)) (vH F f.here.1 λac=>fY (a4 (.var E) (gZ E (bU ?_)))))))))));refine vI (n:=ac+m) F f.here.1 λH1 s=>?_;have w:=f.ext s;refine dt (ec (a4 (.att (.var E) w.here.1.kind) (en (a7 (.cons (.var E) .nil) (BK F (ep (NG ..) ?_))))));cases V:t.k==(if b=true then "row" else "column")with
  |false=>refine gI (jF (.att (.var E) w.here.1.parts) (dm w.here.2) (h5 (xs:=t.ps) (λj e g=>h8 H t.a b m e g) (λj u rs e Z K C I y S=>?_) (λe Z I=>bb (vg (bX (q _ I.x)))) ⟨E,E,E,s⟩));have h:u∈t.ps:=C▸cO _ bn;have P:=I.part (v:=J u.a);exact dN (a7 (.cons (.var aY) (.cons (.var P.ro) (.cons (.var P.ch) .nil))) (T u (n6 p h) W (gv.ext I.x (f.kids.mem h)) (A.kids.mem h) λY N=>a5 (y _ _ ((I.x.trans N).list f.here.2) (P.ext N))))
  |true=>
   have o:t.k≠ "pane":=λal=>by rw [al]at V;cases b<;>exact bW V (by decide)
   have o:=(A.here.in o).2.2;refine d5 (a5 (bb (pJ (rY (λm e g=>h8 H t.a b m e g) (λm e Z K I y S=>?_) (n:=m) ⟨E,E,E,s⟩))));refine dM (.cmp (.var I.ch) .cst E) ?_;cases m with
   |zero=>exact S _ (bb (a5 (q _ I.x)))
   |succ m=>
   refine y _ λK2 q1 q2=>?_;have X:=f.ext I.x;refine jF (.att (.var I.ce) X.here.1.parts) (dm X.here.2) (h5 (xs:=t.ps) (λj e g=>∃d,h8 H t.a b d e g/\d+(if j=[]then 0 else 1)<=m+1) (λj u rs e Y K C ⟨d,i,r⟩ R k4=>?_) (λe Y ⟨d,i,r⟩=>?_) ⟨m+1,I,cw _⟩)
   ·have h:u∈t.ps:=C▸cO _ bn
    have P:=i.part (v:=J u.a);have l:¬j++[u]=[]:=λz=>nomatch (L.append_eq_nil_iff.mp z).2;cases d with
    |zero=>exact lC (.cmp (.var P.ch) .cst E) (lC (.and_f (.cmp (.var P.ch) .cst E)) (a5 (bb (a5 (bb (a5 (R _ _ (i.x.list f.here.2) ⟨0,P,by rw [aG l];exact df (eh m)⟩)))))))
    |succ d=>refine cZ (.cmp (.var P.ch) .cst (aA G (cN (U.ofNat_succ_pos d)))) (dN (a7 (.cons (.var aY) (.cons (.var P.ro) (.cons .cst .nil))) (T u (m:=1) (n6 p h) W (gv.ext i.x (f.kids.mem h)) (A.kids.mem h) λH4 M=>?_)));refine pK (v:=aa (d:ag) 0) P.ch .cst (aA (λad=>G (aa ad 0)) (U.add_sub_cancel (d:U) 1)) (a5 (bb (a5 (R _ _ ((i.x.trans M).list f.here.2) ⟨d,(P.ext M).down d,by rw [aG l];exact ar (he _ _) r⟩))))
   ·have l:¬t.ps=[]:=λz=>by rw [z]at o;cases o
    rw [aG l]at r;exact bb (a5 (q1 d _ _ r i))
structure mR(H:Hp)(a:ae)(ρ:ao)(b:Hp):Prop where
 x:∃x:U,ρ.lookup "x"=G (aa x 0)
 y:∃y:U,ρ.lookup "y"=G (aa y 0)
 ce:ρ.lookup "cell"=G (J a)
 e:aW H b
theorem mR.part{H c b:Hp}{a:ae}{ρ:ao}{v:ab}(I:mR H a ρ c)(z:aW c b):mR H a (aZ "part" v ρ) b:=⟨I.x.imp λ_=>(bf (by decide)).trans,I.y.imp λ_=>(bf (by decide)).trans,(bf (by decide)).trans I.ce,I.e.trans z⟩
theorem NY(n:ag):∀(t:LT) {D:ag} {H:Hp} {x y:U} {Q:KV},g8 t<=n->2*n+3<=D->gv H t->(∀d,aW H d->Q (J t.a) d)->CL c D 167 [J t.a,aa x 0,aa y 0] H Q:=by
 induction n with
 |zero=>exact λt D H x y Q i=>(pZ i).elim
 |succ n F=>
  intro t D H x y Q i A b q;obtain ⟨w,h,V,S,z⟩:=b.here.1;refine Lu (ar (gQ 2 _) A) (lE (.cons (.var E) (.cons (.var E) .nil)) E (aS E) (mK (.var E) (e9 z E (aS E) E (mK (.var E) (e9 (aF _ _ _) E (aS E) E (f1 ?_))))));rw [lA];have j:aW H (H.set t.a (ey t.k w h x y t.pl t.p)):= .cellSet z;have l:=b.ext j;refine jF (.att (.var E) l.here.1.parts) (dm l.here.2) (h5 (xs:=t.ps) (λM f d=>mR H t.a f d) (λM u X f N ac K I s Y=>?_) (λf N I=>bb (bR (.var I.ce) (q _ I.e))) ⟨⟨x,E⟩,⟨y,E⟩,E,j⟩);have g:u∈t.ps:=K▸cO _ bn;obtain ⟨T,o⟩:=I.x;obtain ⟨R,m⟩:=I.y;refine dN (a7 (.cons (.var aY) (.cons (.var ((bf (by decide)).trans o)) (.cons (.var ((bf (by decide)).trans m)) .nil))) (F u (n6 i g) (cj A) (gv.ext I.e (b.kids.mem g)) λH3 C=>?_))
  have P:=I.part (v:=J u.a) C;obtain ⟨W,Z,_,_,B⟩:=(gv.ext P.e (b.kids.mem g)).here.1;have r:=P.e.list b.here.2;refine eO (.cmp (.att (.var P.ce) (P.e.cell b.here.1).kind) .cst (jK ..)) (λ_=>?_) λ_=>?_
  ·exact pK ((bf (by decide)).trans o) (.bin (.att (.var aY) (n7 B)) .cst E) E (a5 (bb (a5 (s _ _ r ⟨⟨_,aY⟩,P.y.imp λ_=>(bf (by decide)).trans,(bf (by decide)).trans P.ce,P.e⟩))))
  ·exact pK ((bf (by decide)).trans m) (.bin (.att (.var aY) (n8 B)) .cst E) E (a5 (bb (a5 (s _ _ r ⟨P.x.imp λ_=>(bf (by decide)).trans,⟨_,aY⟩,(bf (by decide)).trans P.ce,P.e⟩))))
end
noncomputable def kr(Q:KV):KV:=λu b=>∃a,Wk a b/\Q u a
theorem CL.upR{c:Cx}{D:ag}{a:ae}{vs:L ab}{H:Hp}{Q:KV}(h:CL c D a vs H (kr Q)):CL c D a vs H Q:=h.weakR λ_ _ x=>x
theorem od{Q:KV}{v:ab}{H:Hp}(q:Q v H):kr Q v H:=⟨H,λ_ _ e=>bt e,q⟩
noncomputable def lN(H:Hp)(ns:L U)(Q:KV):Prop:=∀b c,aW H c->fm c b->WF b->(al b).Perm ns->Q (J b.a) c
theorem lN.up{H b:Hp}{ns:L U}{Q:KV}{T:LT}(g:lN H ns Q)(x:aW H b)(f:dx b T)(d:WF T)(e:∀z∈ee T,H z=af)(c:(al T).Perm ns):kr Q (J T.a) b:=⟨f7 H b,p5 _ _,g T _ x.frz (f.frz e) d c⟩
section
variable{c:Cx}{D:ag}{H bC:Hp}{Q:KV}{C:L Fr}{f:Fr}
theorem sn{T:LT}{ns:L U}{i:KV}(k:∀b,kr Q (J T.a) b->i (J T.a) b)(n:300<=D)(g:lN H ns Q)(l:aW H bC)(h:dx bC T)(f:WF T)(j:ns.length<=100)(m:∀z∈ee T,H z=af)(e:(al T).Perm ns):CL c D 167 [J T.a,aa 0 0,aa 0 0] bC i:=NY 100 T (ar f.ht (e.length_eq▸j)) (ap n E) h.at λb d=>k b (g.up (l.trans d) (h.ext d) f m e)
theorem vK{a b:ae}{k:am}{p:aj U}{ts ts':L LT}(h:dx bC (dd C (cV a b k p ts)))(g:i5 bC ts')(f:b∉dy C)(d:b∉da ts'):dx (bC.set b (ak (bE ts'))) (dd C (cV a b k p ts')):=by
 have h:=gx.mp h
 have c:a≠b:=λe=>by
  obtain ⟨_,_,_,_,z⟩:=h.2.here.1;have y:=h.2.here.2;rw [show(cV a b k p ts).a=b from e]at z
  cases z.symm.trans y
 exact gx.mpr ⟨h.1.set f,hA ⟨h.2.here.1.set_ne c,aF _ _ _⟩ (p4 d g)⟩
theorem BU(l:L LT):bE l=(l.map LT.a).map J:=dC.symm
theorem vL(l r:L LT)(x:ae):bE l++J x::bE r=((l.map LT.a)++x::(r.map LT.a)).map J:=by rw [c0,e6,<-BU,<-BU]
theorem vM{l:L LT}{a:ae}(h:a∈l.map LT.a):a∈da l:=by obtain ⟨t,b,e⟩:=cA.mp h;exact e▸(sd (vx b t (BB t))).1
theorem BV{l:L LT}(h:i5 H l):∀a∈l.map LT.a,fy H a=true:=λa c=>by obtain ⟨t,b,e⟩:=cA.mp c;exact e▸(h.mem b).here.1.inst
theorem p9.inst{x:ae}(h:p9 H f x)(c:fy H x=true):∀a∈f.l.map LT.a++x::f.r.map LT.a,fy H a=true:=λa b=>(dG.mp b).elim (BV h.2.2.l a) λb=>(bQ.mp b).elim (λe=>e▸c) (BV h.2.2.r a)
theorem NZ(l r:L LT)(x y:ab):(bE l++x::bE r).set ((l.map LT.a).length:U).toNat y=bE l++y::bE r:=by rw [tG,bJ,<-g5,L.set_append_right _ _ (cw _),qR];rfl
theorem so(C:L Fr):∀t:LT,∃l,(fE C++[t.a]).map J=J (dd C t).a::l:=by
 induction C with
 |nil=>exact λt=>⟨[],E⟩
 |cons f C b=>exact λt=>let ⟨l,e⟩:=b (f.fill t);⟨l++[J t.a],by rw [p6,c0,show f.a=(f.fill t).a from E,e];rfl⟩
theorem sp{t u:LT}(h:t.a=u.a):(dd C t).a=(dd C u).a:=by
 cases C with
 |nil=>exact h
 |cons f C=>obtain ⟨l,e⟩:=so C (f.fill t);obtain ⟨r,b⟩:=so C (f.fill u);exact J.inj (gb (e.symm.trans b)).1
theorem BW{u:LT}{a:ae}(e:u.a=a):fx ((fE C++[a]).map J) 0=G (J (dd C u).a):=by obtain ⟨r,b⟩:=so C u;rw [<-e,b];rfl
theorem sr(f:Fr)(C:L Fr)(a:ae):fx ((fE (f::C)++[a]).map J) (-2)=G (J f.a):=by rw [p6,fp,c0];exact p3 _ [J a] _
theorem BY(C:L Fr)(a:ae):fx ((fE C++[a]).map J) (-1)=G (J a):=by rw [c0];exact p3 _ [] _
theorem BZ{l:ae}{X Y:LT}(t:4<=D)(o:aW H bC)(A:∀z∈dy C,H z=af)(T:dx bC (dd C X))(v:(dy C++ee X).Nodup)(s:dx bC Y)(u:∀z∈ee Y,z∉dy C)(g:bC l=G (ak ((fE C++[X.a]).map J)))(k:l∉dy C)
  (q:∀i,aW H i->dx i (dd C Y)->(∀z,z∉dy C->i z=bC z)->Q (J (dd C Y).a) i):CL c D 174 [J l,J Y.a] bC Q:=by
 have p:hY bC (J l)=G (C.length+1):=by rw [mN g,bJ,b3,si];rfl
 refine Lw (ap t E) ?_;cases C with
 |nil=>exact cZ (.cmp (.len (.var E) p) .cst E) (bR (.var E) (bX (q bC o s λ_ _=>E)))
 |cons f C=>
  have d:=(gx.mp T).1;have n:=hM.mp v;have m:∀z∈ee X,z∉dy (f::C):=λz j h=>n.2.2 _ h _ j E;have b:=n.1;rw [gg]at b m k u;have b:=(cS.mp (cS.mp b).2);have w:l≠f.pl:=λe=>k (e▸bM _ bn);have B:=(gx.mp T).2;refine b7 (.cmp (.len (.var E) p) .cst (aA G (dB.mpr (λe=>by cases e)))) (d4 (.att (.idx (.var E) (.neg .cst) ((e3 g).trans (sr f C _))) d.1.1.parts) (vh (a4 (.var E) (a4 (.var E) (a7 (.cons (.var E) (.cons (.idx (.var E) (.neg .cst) ((e3 g).trans (BY _ _))) .nil)) (vJ (l1:=f.l.map LT.a) (l2:=f.r.map LT.a) (eM t E) (by rw [<-vL];exact d.1.2.1) (λz=>m X.a (by rw [ob];exact bn) (bM _ (bM _ (cX _ (by rw [gw];exact cX _ (vM z)))))) (d.1.inst B.here.1.inst) ?_))))))
  refine A7 d.1.2.1 (dH _) (by rw [b3,fu,g5,bJ];exact eH.mpr (nf (gE _))) ?_
  rw [NZ,<-show bE (f.l++Y::f.r)=bE f.l++J Y.a::bE f.r from mM _ _]
  have x:dx (bC.set f.pl (ak (bE (f.l++Y::f.r)))) (dd (f::C) Y):=vK (C:=C) (ts:=f.l++X::f.r) T (f5 d.1.2.2.l (f5 (g7 s) d.1.2.2.r)) (λz=>b.1 (cO _ z)) (λz=>by
   rw [gw,sf]at z;rcases dG.mp z with z|z
   ·exact b.1 (cX _ (by rw [gw];exact cX _ z))
   ·exact(dG.mp z).elim (λz=>u _ z (bM _ bn)) λz=>b.1 (cX _ (by rw [gw];exact cO _ z)))
  obtain ⟨I,F⟩:=so (f::C) X;have y:=(dT bC (ak (bE (f.l++Y::f.r))) w).trans g;refine bR (.idx (.var E) .cst ((e3 y).trans (by rw [F];exact mO _ _))) ?_
  rw [show(dd (f::C) X).a=(dd (f::C) Y).a from sp (C:=C) E]
  exact q _ (o.fresh (A _ (by rw [gg];exact bM _ bn))) x λz j=>dT _ _ λe=>j (by rw [gg,e];exact bM _ bn)
end
theorem B0(m:U)(t:bv):∀ns:L U,ln (iL ns) (aa m t)=G (ns.contains m)
 |[]=>E
 |n::r=>by
  show((ln (iL r) (aa m t)).bind λb=>G ((n==m)||b))=_
  rw [B0 m t r];show G ((n==m)||r.contains m)=_
  rw [L.contains_cons,BEq.comm]
theorem p_{H:Hp}{a:ae}{ns:L U}(h:bD H a=G (iL ns))(m:U)(t:bv):cJ H dF (aa m t) (J a)=G (ns.contains m):=by show j7 (H a) a (aa m t)=_;rcases rW h with q|q<;>(rw [q];exact B0 m t ns)
theorem N0{H:Hp}{a:ae}{ns:L U}(h:bD H a=G (iL ns))(m:U)(t:bv):cJ H jn (aa m t) (J a)=G (!ns.contains m):=aA (kL λx=>!x) (p_ h m t)
theorem lO(a b:ae)(n:U):ee (b9 a b n)=[a,b]:=by rw [ob];show a::b::da []=_;rw [vE]
structure f8(H c:Hp)(C:L Fr)(a b l:ae)(n:U):Prop where
 x:aW H c
 tr:dx c (dd C (b9 a b n))
 wc:mP C
 path:c l=G (ak ((fE C++[a]).map J))
 nd:(dy C++[a,b]).Nodup
 fr:∀z∈dy C++[a,b],H z=af
 off:l∉dy C++[a,b]
section
variable{c:Cx}{D:ag}{H bC G':Hp}{C:L Fr}{a pl l:ae}{n:U}{t:LT}{Q:KV}
theorem f8.ext(W:f8 H bC C a pl l n)(x:aW bC G'):f8 H G' C a pl l n:=⟨W.x.trans x,W.tr.ext x,W.wc,x.keep W.path E,W.nd,W.fr,W.off⟩
theorem f8.ca(W:f8 H bC C a pl l n):jL bC C a:=(gx.mp W.tr).1
theorem f8.leaf(W:f8 H bC C a pl l n):dx bC (b9 a pl n):=(gx.mp W.tr).2
theorem f8.cell(W:f8 H bC C a pl l n):ez bC a "pane" pl (G n):=W.leaf.here.1
theorem f8.apart(W:f8 H bC C a pl l n){d:ae}(b:bC d=af):d∉dy C++[a,pl]:=λz=>(dG.mp z).elim (λz=>W.ca.live d z b) λz=>W.leaf.live d (by rw [lO];exact z) b
theorem f8.len(W:f8 H bC C a pl l n):hY bC (J l)=G (C.length+1):=by rw [mN W.path,bJ,b3,si];rfl
theorem f8.last(W:f8 H bC C a pl l n):c6 bC (J l) (aa (-1) 0)=G (J a):=(e3 W.path).trans (BY C a)
theorem f8.first(W:f8 H bC C a pl l n)(u:LT)(e:u.a=a):c6 bC (J l) (aa 0 0)=G (J (dd C u).a):=(e3 W.path).trans (BW e)
theorem B1{ρ:ao}(s:300<=D)(F:gv H t)(j:WF t)(g:(al t).length<=90)(M:ρ.lookup "root"=G (J t.a)) (K:ρ.lookup "pane"=G (aa n 0))
  (y:∀b,aW H b->n∉al t->Q ah b) (w:∀b C a f l,f8 H b C a f l n->(al t).Perm (n::lK C)->C.length<=90->(C=[]->t.k="pane")->Q (J l) b):
  EE c D (aB 6 120 [(aB 3 101 [(O "root")]),(O "pane")]) ρ H Q:=by
 refine eL (bN (a7 (.cons (.var M) .nil) (BR 90 t (ar j.ht g) (ap s E) F j (ar g (aS E)) λv b x i q p d=>bs (.var K) (bU ?_))));refine NT 90 v (ar (d.wf j).ht (d.lv▸g)) (ap s E) (aS E) i.at (d.wf j) (λA=>y _ x (d.lv▸A)) λC a f u e B l h=>?_;have r:aW b (b.set l (ak ((fE C++[a]).map J))):=(aW.refl b).alloc h;have m:=p7 C (b9 a f n);rw [lO]at m;rw [e]at i q p;have o:=lL C (b9 a f n);rw [mQ,<-e,d.lv]at o;refine w _ C a f l ⟨x.trans r,i.ext r,u,aF _ _ _,m.nodup_iff.mp q,λz g=>p z (m.mem_iff.mpr g),λz=>i.live l (m.mem_iff.mpr z) h⟩ (o.trans js) (hO B) λI=>?_;rw [<-d.k,e,I];rfl
end
structure g9(a l:ae)(m:U)(b:aK)(side c:ag)(ρ:ao):Prop where
 leaf:ρ.lookup "leaf"=G (J a)
 path:ρ.lookup "path"=G (J l)
 fresh:ρ.lookup "fresh"=G (aa m 0)
 row:ρ.lookup "is_row"=G (az b)
 before:ρ.lookup "is_before"=G (az false)
 sid:ρ.lookup "side"=G (aa side 0)
 man:ρ.lookup "many"=G (aa c 0)
 hm:c+1<=side
theorem g9.set{a l:ae}{m:U}{b:aK}{side c:ag}{ρ:ao}{x:am}{u:ab}(R:g9 a l m b side c ρ)(h:x∉ ["leaf","path","fresh","is_row","is_before","side","many"]):g9 a l m b side c (aZ x u ρ):=⟨(eN h E).trans R.leaf,(eN h E).trans R.path,(eN h E).trans R.fresh,(eN h E).trans R.row,(eN h E).trans R.before,(eN h E).trans R.sid,(eN h E).trans R.man,R.hm⟩
structure kt(H b:Hp)(C:L Fr)(a c l e d s:ae)(n m:U):Prop where
 w:f8 H b C a c l n
 nw:dx b (b9 e d m)
 hb:b s=G (ak [J a,J e])
 fr:∀z∈ [e,d,s],H z=af
 off:∀z∈ [e,d,s],z∉dy C
section
variable{c:Cx}{be:ag}{H bC:Hp}{C:L Fr}{t:LT}{a pl l e d s:ae}{n m:U}{b:aK}{side mn:ag}{ρ:ao}{Q:KV}{ns:L U}
theorem B2{T:LT}(f:308<=be)(g:lN H ns Q)(o:aW H bC)(t:dx bC T)(q:WF T)(n:ns.length<=100)(r:∀z∈ee T,H z=af)(k:(al T).Perm ns){p:aj U}(s:ez bC a "pane" pl p) (R:g9 a l m b side mn ρ) (j:ρ.lookup "top"=G (J T.a)):
  SS c be (n2.drop 12) ρ bC (RK (kr Q)):=by
 have e:(side:U)-1-(mn:U)=((side-1-mn:ag):U):=by have:=R.hm;omega
 exact dN (a7 (.cons (.var R.leaf) (.cons (.var R.row) (.cons (.bin (.bin (.var R.sid) .cst E) (.var R.man) (aA (λi=>G (aa i 0)) e)) .nil))) (vI (ap f E) s λu d=>b5 (a7 (.cons (.var j) (.cons .cst (.cons .cst .nil))) (sn (λ_ h=>h) (ap f E) g (o.trans d) (t.ext d) q n r k))))
theorem N1(A:308<=be)(W:f8 H bC C a pl l n)(R:g9 a l m b side mn ρ){K:KF}
  (q:∀e d s X g,kt H X C a pl l e d s n m->g9 a l m b side mn g->g.lookup "both"=G (J s)->g.lookup "kind"=G (aE (I (if b then "row" else "column")) 0)->g.lookup "top"=G (J (dd C (b9 a pl n)).a)->SS c be (n2.drop 11) g X K):
  SS c be (n2.drop 7) ρ bC K:=by
 obtain ⟨w,h,x,y,T⟩:=W.cell;refine bV (eL (bs .cst (bs (.att (.var R.leaf) (n7 T)) (bs (.att (.var R.leaf) (n8 T)) (bs .cst (bs .cst (bN (ed .nil (eh _) λd v=>bs (.var R.fresh) (bU ?_)))))))));have j:=W.ext ((aW.refl bC).alloc v (o:=ak []));have t:=aF bC d (ak []);have al:=W.apart v;revert j t;generalize bC.set d _=f;intro j t;refine r9 (ap A E) ⟨E,E,E,E,E,E,E⟩ λe k=>?_;have Y:aW f (f.set e (ey "pane" w h 0 0 d (G m))):=(aW.refl f).alloc k;have ad:=j.apart k;have p:dx (f.set e (ey "pane" w h 0 0 d (G m))) (b9 e d m):=hA ⟨⟨_,_,_,_,aF _ _ _⟩,bK k t⟩ (pV _);have D:=j.ext Y;show SS c be _ _ (f.set e (ey "pane" w h 0 0 d (G m))) _;revert D p;generalize f.set e _=G3;intro p D;refine dN (a7 (.cons (.var aY) (.cons (.var (R.set (by decide)).row) (.cons (.var (R.set (by decide)).man) .nil))) (vI (ap A E) p.here.1 λG4 Q=>?_))
 have B:=D.ext Q;have M:=R.set (u:=J e) (x:="other") (by decide)
 refine bV (hu (.var M.before) (ed (.cons (.var M.leaf) (.cons (.var aY) .nil)) (aS E) λs r=>?_));have ac:=B.apart r;have N:=(aW.refl G4).alloc r (o:=ak [J a,J e]);have V:=B.ext N;have F:=M.set (u:=J s) (x:="both") (by decide)
 refine f2 (bN (a7 (.cons (.var F.row) .nil) (BK (ap A E) (bs (.idx (.var F.path) .cst (V.first (b9 a pl n) E)) (bU (f3 (aS E) E ?_))))));have S:∀{P:ae->Prop},P e->P d->P s->∀z∈ [e,d,s],P z:=λh1 h2 Z z i=>(bQ.mp i).elim (λe=>e▸h1) λi=>(bQ.mp i).elim (λe=>e▸h2) λi=>de.mp i▸Z;exact q e d s _ _ ⟨V,(p.ext Q).ext N,aF _ _ _,S (j.x.dom k) (W.x.dom v) (B.x.dom r),S (λz=>ad (cX _ z)) (λz=>al (cX _ z)) λz=>ac (cX _ z)⟩ ((F.set (x:="top") (by decide)).set (x:="kind") (by decide)) ((bf (y:="kind") (by decide)).trans ((bf (y:="top") (by decide)).trans aY)) aY ((bf (y:="kind") (by decide)).trans aY)
theorem N2{f:Fr}:(bE f.l++J a::bE f.r).take ((f.l.map LT.a).length:U).toNat++[J a,J e]++(bE f.l++J a::bE f.r).drop (((f.l.map LT.a).length:U)+1).toNat=bE (f.l++b9 a pl n::b9 e d m::f.r):=by
 have b:((f.l.map LT.a).length:U).toNat=(bE f.l).length:=by rw [tG,bJ,g5]
 have c:(((f.l.map LT.a).length:U)+1).toNat=(bE f.l).length+1:=by rw [U.toNat_add (dH _) (by decide),b];rfl
 rw [b,c,xG,L.drop_append,xu (dY _),ag.add_sub_cancel_left,mM,fp];rfl
end
section
variable{c:Cx}{be:ag}{H bC:Hp}{C:L Fr}{t:LT}{a pl l e d s:ae}{n m:U}{b:aK}{side mn:ag}{ρ:ao}{Q:KV}
theorem kt.fresh(W:kt H bC C a pl l e d s n m):∀z∈ [a,pl,e,d],H z=af:=λz b=>(bQ.mp b).elim (λq=>W.w.fr z (cO _ (q▸bn))) λb=>(bQ.mp b).elim (λq=>W.w.fr z (cO _ (q▸bM _ bn))) λb=>W.fr z ((bQ.mp b).elim (λq=>q▸bn) λb=>de.mp b▸bM _ bn)
theorem B3{b:Type}{φ:ae->ae->am->aj U->L b}{f:Fr}{N:LT}:(kp φ (⟨f.a,f.pl,f.k,f.l,N::f.r⟩::C)).Perm (gf φ [N]++kp φ (f::C)):=by
 unfold kp;rw [nq,nq];refine tD (EB _ (xF _ ?_)) (tD (EB _ (Sq ..)) (L.Perm.of_eq (fp ..)))
 ·show(gf φ (f.l++([N]++f.r))).Perm _
  rw [oc,oc,oc];exact Sq ..
theorem N3{ns a:L U}(h:ns.Perm (n::a)):(([m]++a)++[n]).Perm (m::ns):=(js.trans h.symm).cons m
theorem B4:da [b9 a pl n,b9 e d m]=[a,pl,e,d]:=by rw [sf,h7,lO,lO];rfl
theorem N4:d7 [b9 a pl n,b9 e d m]=[n,m]:=by rw [r_,kq,mQ,mQ];rfl
theorem N5{ns a:L U}(h:ns.Perm (n::a)):(a++[n,m]).Perm (m::ns):=(js (l₂:=[n,m])).trans ((Eu m n a).trans (h.symm.cons m))
theorem N6{a u:ae}{xs ys:L ab}{i j:ag}{Q:Hp->Prop}(g:H a=G (ak xs))(f:H u=G (ak ys))(b:a≠u)(e:i<=j)(d:j<=xs.length)(c:xs.length+ys.length<=bL)(q:Q (H.set a (ak (xs.take i++ys++xs.drop j)))):uP (J a) (aa i 0) (aa j 0) (J u) H Q:=⟨a,u,xs,ys,i,j,E,E,E,E,g,f,b,dH _,ib.mpr e,ib.mpr d,c,q⟩
theorem N7{f:Fr}(N:308<=be)(o:(al t).length<=90)(g:lN H (m::al t) Q)(F:(al t).Perm (n::lK (f::C)))(W:kt H bC (f::C) a pl l e d s n m)(R:g9 a l m b side mn ρ)(Y:ρ.lookup "both"=G (J s)) (X:ρ.lookup "top"=G (J (dd (f::C) (b9 a pl n)).a)):
  SS c be [aD (aT "at") (aB 10 148 [(av (aL (O "path") (eP (ai (aa 2 0)))) "parts"),(O "leaf")]),aD (.slc (av (aL (O "path") (eP (ai (aa 2 0)))) "parts") (O "at") (bT cq (O "at") (ai (aa 1 0)))) (O "both")] ρ bC (NX c be (n2.drop 12) (RK (kr Q))):=by
 have v:=W.w.ca.1;have y:=W.w.wc f bn;have p:=hM.mp W.w.nd;have A:∀z∈ [a,pl],z∉dy (f::C):=λz o h=>p.2.2 _ h _ o E;have p:=p.1;have D:=W.off;have ad:=W.w.fr f.pl (cX _ (by rw [gg];exact bM _ bn))
 rw [gg]at p A D;have p:=cS.mp (cS.mp p).2;have I:f.pl∉da f.l++da f.r:=λz=>p.1 (cX _ (by rw [gw];exact z))
 have B:∀z,z∉f.a::f.pl::(da (f.l++f.r)++dy C)->f.pl≠z:=λz h q=>h (q▸bM _ bn);have P:c6 bC (J l) (aa (-2) 0)=G (J f.a):=(e3 W.w.path).trans (sr f C a);have ao:=i3.ht y.2.2;have Z:=F.length_eq;rw [sl y,fu,b3]at Z;have K:(bE f.l++J a::bE f.r).length=(f.l++f.r).length+1:=by rw [b3,fu,g5,g5,b3];rfl
 refine bV (a7 (.cons (.att (.idx (.var R.path) (.neg .cst) P) v.1.parts) (.cons (.var R.leaf) .nil)) (vJ (l1:=f.l.map LT.a) (l2:=f.r.map LT.a) (ap N E) (by rw [<-vL];exact v.2.1) (λz=>A a bn (bM _ (bM _ (cX _ (by rw [gw];exact cX _ (vM z)))))) (v.inst W.w.cell.inst) ?_))
 have S:=R.set (u:=aa ((f.l.map LT.a).length:ag) 0) (x:="at") (by decide)
 refine KP (.var ((bf (by decide)).trans Y)) (.att (.idx (.var S.path) (.neg .cst) P) v.1.parts) (.var aY) (.bin (.var aY) .cst E) (N6 (i:=(f.l.map LT.a).length) (j:=(f.l.map LT.a).length+1) v.2.1 W.hb (B _ (D s (bM _ (bM _ bn)))) (dY _) (by rw [K,bJ,b3];exact df (he _ _)) (by rw [K];show _+2<=1000000;omega) ?_)
 rw [show(bE f.l++J a::bE f.r).take (f.l.map LT.a).length++[J a,J e]++(bE f.l++J a::bE f.r).drop ((f.l.map LT.a).length+1)=bE (f.l++b9 a pl n::b9 e d m::f.r)from N2]
 have M:=vK (C:=C) (ts:=f.l++b9 a pl n::f.r) (ts':=f.l++b9 a pl n::b9 e d m::f.r) W.w.tr (f5 v.2.2.l (f5 (a:=[b9 a pl n]) (g7 W.w.leaf) (f5 (a:=[b9 e d m]) (g7 W.nw) v.2.2.r))) (λz=>p.1 (cO _ z)) (λz=>by
  rw [gw,show da (b9 a pl n::b9 e d m::f.r)=da [b9 a pl n,b9 e d m]++da f.r from gw [b9 a pl n,b9 e d m] f.r,B4]at z
  rcases dG.mp z with z|z
  ·exact I (cX _ z)
  ·rcases dG.mp z with z|z
   ·rcases bQ.mp z with z|z
    ·exact B _ (A a bn) z
    ·rcases bQ.mp z with z|z
     ·exact B _ (A pl (bM _ bn)) z
     ·exact B _ (D _ (cX [s] z)) E
   ·exact I (cO _ z))
 have V:mP (⟨f.a,f.pl,f.k,f.l,b9 e d m::f.r⟩::C):=λf' h=>(bQ.mp h).elim (λq=>q▸⟨y.1,by show 1<=(f.l++b9 e d m::f.r).length;rw [b3];exact gQ _ _,f5 y.2.2.l (f5 (a:=[b9 e d m]) (g7 (p8 e d m)) y.2.2.r)⟩) λh=>W.w.wc f' (bM _ h)
 have ac:(al (dd (⟨f.a,f.pl,f.k,f.l,b9 e d m::f.r⟩::C) (b9 a pl n))).Perm (m::al t):=by refine(lL _ _).trans (tD ?_ (N3 F));rw [mQ];refine EB _ (B3.trans ?_);rw [<-sj,kq,mQ];exact tC _
 refine a5 (bb (B2 (T:=dd (⟨f.a,f.pl,f.k,f.l,b9 e d m::f.r⟩::C) (b9 a pl n)) N g (W.w.x.fresh ad) M (sk V (p8 a pl n)) (df (ar o (aS E))) (λz o=>?_) ac ((gx (C:=⟨f.a,f.pl,f.k,f.l,b9 e d m::f.r⟩::C)).mp M).2.here.1 S ((bf (by decide)).trans (X.trans (aA (λz=>G (J z)) (sp (C:=C) E))))))
 have o:=(p7 _ _).mem_iff.mp o;rw [lO]at o;rcases dG.mp o with o|o
 ·rcases dG.mp (B3.mem_iff.mp o)with o|o
  ·exact W.fr z (cX [s] (show z∈ [e,d]from by rw [<-lO e d m,<-h7];exact o))
  ·exact W.w.fr z (cX _ o)
 ·exact W.w.fr z (cO _ o)
theorem B5(u:308<=be)(f:(al t).length<=90)(S:∀F,aW H F->Q ah F)(g:lN H (m::al t) Q)(T:(al t).Perm (n::lK C))(W:kt H bC C a pl l e d s n m)(R:g9 a l m b side mn ρ)(P:ρ.lookup "both"=G (J s)) (N:ρ.lookup "kind"=G (aE (I (if b then "row" else "column")) 0)):
  SS c be [aQ (ax .Gt (b4 fh [(O "path")]) (hj 86 (aa 50 0))) [aH (ai ah)] [aD (aT "top") (aB 14 174 [(O "path"),(aB 80 85 [(O "kind"),(av (O "leaf") "width"),(av (O "leaf") "height"),(ai (aa 0 0)),(ai (aa 0 0)),(O "both"),(ai ah)])])]] ρ bC (NX c be (n2.drop 12) (RK (kr Q))):=by
 refine eO (.cmp (.len (.var R.path) W.w.len) .glb E) (λ_=>bR .cst (bX (bX (od (S _ W.w.x))))) λ_=>?_;obtain ⟨p,h,Z,y,k⟩:=W.w.cell;refine bV (eL (bs (.var R.path) (bN (a7 (.cons (.var N) (.cons (.att (.var R.leaf) (n7 k)) (.cons (.att (.var R.leaf) (n8 k)) (.cons .cst (.cons .cst (.cons (.var P) (.cons .cst .nil))))))) (r9 (ap u E) ⟨E,E,E,E,E,E,E⟩ λi r=>bU ?_)))));have o:aW bC (bC.set i (ey (if b=true then "row" else "column") p h 0 0 s af)):=(aW.refl bC).alloc r
 have v:dx (bC.set i (ey (if b=true then "row" else "column") p h 0 0 s af)) (cV i s (if b=true then "row" else "column") af [b9 a pl n,b9 e d m]):=hA ⟨⟨_,_,_,_,aF _ _ _⟩,o.keep W.hb E⟩ (i5.ext o (f5 (a:=[b9 a pl n]) (g7 W.w.leaf) (g7 W.nw)))
 have D:ee (cV i s (if b=true then "row" else "column") af [b9 a pl n,b9 e d m])=[i,s,a,pl,e,d]:=by rw [ob];exact aA (λl=>i::s::l) B4
 have B:(if b=true then "row" else "column")="row"\/(if b=true then "row" else "column")="column":=by cases b;exact bF E;exact bt E
 have j:=W.w.ext o;have X:=W.w.apart r;show CL c be _ [J l,J i] (bC.set i (ey (if b=true then "row" else "column") p h 0 0 s af)) _
 revert j v;generalize bC.set i _=G6;intro v j;refine BZ (Y:=cV i s (if b=true then "row" else "column") af [b9 a pl n,b9 e d m]) (ap u E) j.x (λz f=>j.fr z (cX _ f)) j.tr (by rw [lO];exact j.nd) v (λz f k=>?_) j.path (λz=>j.off (cX _ z)) λG' K A _=>?_
 ·rw [D]at f
  rcases bQ.mp f with q|f
  ·exact X (cX _ (q▸k))
  ·rcases bQ.mp f with q|f
   ·exact W.off s (bM _ (bM _ bn)) (q▸k)
   ·rcases dG.mp (show z∈ [a,pl]++[e,d]from f)with f|f
    ·exact(hM.mp j.nd).2.2 _ k _ f E
    ·exact W.off z (cX [s] f) k
 ·have V:al (cV i s (if b=true then "row" else "column") af [b9 a pl n,b9 e d m])=[n,m]:=by
   unfold al;rw [jJ (t:=cV i s (if b=true then "row" else "column") af [b9 a pl n,b9 e d m]) (B.elim (λq=>by show(if b=true then "row" else "column")≠ "pane";rw [q];decide) λq=>by show(if b=true then "row" else "column")≠ "pane";rw [q];decide)]
   exact N4
  have M:WF (cV i s (if b=true then "row" else "column") af [b9 a pl n,b9 e d m]):=hA (bF ⟨B,E,cw 2⟩) (f5 (a:=[b9 a pl n]) (g7 (p8 a pl n)) (g7 (p8 e d m)))
  refine a5 (bb (a5 (bb (B2 u g K A (sk W.w.wc M) (df (ar f (aS E))) (λz f=>?_) ((lL _ _).trans (by rw [V];exact N5 T)) ((gx.mp A).2.kids.mem bn).here.1 (R.set (by decide)) aY))))
  have f:=(p7 _ _).mem_iff.mp f;rw [D]at f;rcases dG.mp f with f|f
  ·exact W.w.fr z (cX _ f)
  ·rcases bQ.mp f with q|f
   ·exact q▸W.w.x.dom r
   ·rcases bQ.mp f with q|f
    ·exact q▸W.fr s (bM _ (bM _ bn))
    ·exact W.fresh z f
theorem N8(side:ag)(h:¬side<3):∃mn:ag,(if(if(side:U)-1-1<((side:U)+1).fdiv 2-1 then(side:U)-1-1 else((side:U)+1).fdiv 2-1)>1 then if(side:U)-1-1<((side:U)+1).fdiv 2-1 then(side:U)-1-1 else((side:U)+1).fdiv 2-1 else 1)=(mn:U)/\mn+1<=side:=by
 rw [U.fdiv_eq_ediv_of_nonneg _ (by decide)]
 generalize a:(if(if(side:U)-1-1<((side:U)+1)/2-1 then(side:U)-1-1 else((side:U)+1)/2-1)>1 then if(side:U)-1-1<((side:U)+1)/2-1 then(side:U)-1-1 else((side:U)+1)/2-1 else 1)=v
 have:0<=v/\v+1<=side:=by omega
 exact⟨v.toNat,by omega,by omega⟩
theorem B6{D:ag}(B:310<=D)(A:gv H t)(v:WF t)(k:(al t).length<=90)(p:∀F,aW H F->Q ah F)(g:lN H (m::al t) Q):CL c D 182 [J t.a,aa n 0,aa m 0,az b,ah,az false] H Q:=by
 have h:308<=D-2:=cj B;refine(Lx (ap B E) (bV (B1 (t:=t) (n:=n) (ap h E) A v k E E (λbC I V=>?_) λbC C a pl l W u Y T=>?_))).upR
 ·exact cZ (.or_t (.cmp (.var E) .cst E)) (bR .cst (bX (od (p _ I))))
 refine dt (rN (.cmp (.var E) .cst E) (hw (ec (a4 (.var E) (en (a7 (.cons (.var E) .nil) (oa (ar (go (mf 2 (ar v.ht k)) 2) (ap h E)) (A.ext W.x) v (it▸ar k (aS E)) λd N=>?_)))))));have j:=W.ext ((aW.refl bC).alloc N (o:=ak (iL (al t))));refine ep (p_ (bH (aF bC d (ak (iL (al t))))) m 0) ?_;revert j;generalize bC.set d _=G1;intro j;cases X:(al t).contains m with
 |true=>exact AI (gI (bR .cst (bX (od (p _ j.x)))))
 |false=>
 refine ir (dM .or_n (d5 (a5 (bb (d4 (.idx (.var E) (.neg .cst) j.last) (bV (a7 (.cons (.var E) (.cons (.var E) .nil)) (vH (ap h E) j.cell λside=>?_))))))))
 by_cases y:side<3
 ·exact cZ (.cmp (.var E) (.bin (.bin .cst .glb E) .cst E) (aA G (cN (eH.mpr y)))) (bR .cst (bX (od (p _ j.x))))
 refine b7 (.cmp (.var E) (.bin (.bin .cst .glb E) .cst E) (aA G (e7 λz=>y (eH.mp z)))) ?_;obtain ⟨mn,P,M⟩:=N8 side y;refine d4 (.ite_t (.cmp (.var E) .cst E) (.bin (.bin (.bin (.var E) .cst E) .cst E) .cst E)) (d4 (.max (.cons .glb (.cons (.min (.cons (.var E) (.cons (.bin (.bin (.var E) .cst E) .glb E) .nil))) .nil))) ?_);rw [P];refine N1 h j (side:=side) (mn:=mn) (m:=m) (b:=b) ⟨E,E,E,E,E,E,aY,M⟩ λe d s Z S i R r q K=>?_;cases C with
 |nil=>exact lC (.and_f (.cmp (.len (.var R.path) i.w.len) .cst E)) (B5 h k p g u i R r q)
 |cons f C=>refine eO (.and_t (.cmp (.len (.var R.path) i.w.len) .cst (aA G (cN (eH.mpr (oW (gE _)))))) (.and_t1 (.cmp (.att (.idx (.var R.path) (.neg .cst) ((e3 i.w.path).trans (sr f C a))) i.w.ca.1.1.kind) (.var q) (jK ..)))) (λ_=>N7 h k g u i R r K) λ_=>B5 h k p g u i R r q
end
noncomputable def gh(k:am)(ts:L LT):L LT:=ts.flatMap λt=>if t.k=k then t.ps else [t]
theorem vN(k:am)(t:LT)(r:L LT):gh k (t::r)=(if t.k=k then t.ps else [t])++gh k r:=nq
theorem B7(k:am)(a:L LT)(t:LT):gh k (a++[t])=gh k a++(if t.k=k then t.ps else [t]):=by unfold gh;rw [tH,nq,L.flatMap_nil,hL]
theorem vO{k:am}:∀{ts:L LT},∀q∈dw (gh k ts),q∈dw ts
 |[],q,h=>h
 |t::r,q,h=>by
  rw [vN,lG]at h;rw [dw];refine(dG.mp h).elim (λh=>cX _ ?_) λh=>cO _ (vO q h)
  by_cases e:t.k=k
  ·rw [aJ e]at h;rw [jI];exact bM _ h
  ·rw [aG e,n4]at h;exact h
theorem vP{P:LT->Prop}{k:am}{ts:L LT}(h:gJ P ts):gJ P (gh k ts):=λq a=>h q (vO q a)
theorem B8{k:am}{ts:L LT}{z:ae}(h:z∈da (gh k ts)):z∈da ts:=let ⟨q,a,m⟩:=oV.mp h;oV.mpr ⟨q,vO q a,m⟩
theorem vQ{k:am}(a:k≠ "pane"):∀{ts:L LT},d7 (gh k ts)=d7 ts
 |[]=>E
 |t::r=>by
  rw [vN,pX,r_,vQ a]
  by_cases e:t.k=k
  ·rw [aJ e];unfold d7 al;rw [jJ (e▸a)]
  ·rw [aG e,kq]
theorem B9{k:am}(b:k≠ "pane"):∀{ts:L LT},i3 ts->ts.length<=(gh k ts).length
 |[],_=>cw _
 |t::c,h=>by
  rw [vN,b3,fu,qC];refine nr ?_ (B9 b (gJ.r (a:=[t]) h))
  by_cases e:t.k=k
  ·rw [aJ e];exact nl ((h.mem bn).here.in (e▸b)).2.2
  ·rw [aG e];exact cw 1
section
variable{c:Cx}{D:ag}{H bC:Hp}{Q:KV}{C:L Fr}{t:LT}{n:U}
structure qa(H:Hp)(k:am)(d:ae)(b:L LT)(ρ:ao)(a:Hp):Prop where
 r1:ρ.lookup "found"=G (J d)
 r2:ρ.lookup "kind"=G (aE (I k) 0)
 x:aW H a
 l:a d=G (ak (bE (gh k b)))
theorem N9{l:ae}{k:am}{ts:L LT}(S:3<=D)(B:bD H l=G (bE ts))(R:i5 H ts)(e:(gh k ts).length<=1000)(q:∀d r,H d=af->aW H r->r d=G (ak (bE (gh k ts)))->Q (J d) r):CL c D 189 [J l,aE (I k) 0] H Q:=by
 refine Lz (ap S E) (bV (ed .nil (eh _) λd i=>?_));have z:aW H (H.set d (ak [])):=(aW.refl H).alloc i;refine jF (.var E) (dm (z.list B)) (h5 (xs:=ts) (qa H k d) (λf u n s p K F b P T=>?_) (λs p b=>bb (bR (.var b.r1) (q d p i b.x b.l))) ⟨E,E,z,aF _ _ _⟩);have M:u∈ts:=F▸cO _ bn;have g:dx p u:=dx.ext b.x (R.mem M);have A:=(bf (y:="part") (v:=J u.a) (by decide)).trans b.r1
 have o:=(bf (y:="part") (v:=J u.a) (by decide)).trans b.r2
 rw [F,show f++u::n=(f++[u])++n from(fp f [u] n).symm,gh,tH,b3]at e
 have e:=ar (he _ _) e;rw [show((f++[u]).flatMap λt=>if t.k=k then t.ps else [t])=gh k (f++[u])from E,B7,b3]at e
 have j:∀m,aW H m->m d=G (ak (bE (gh k f)++bE (if u.k=k then u.ps else [u])))->K .next (aZ "part" (J u.a) s) m:=λm w N=>P _ _ (w.list B) ⟨A,o,w,by rw [B7,mM];exact N⟩
 refine dN (rO (.var A) (jH b.l) (bN ?_))
 by_cases h:u.k=k
 ·rw [aJ h]at e j
  exact h2 (.eq (.cmp (.att (.var aY) g.here.1.kind) (.var o) (jK ..)) (c4.mpr h)) (a4 (.att (.var aY) g.here.1.parts) (bU (vn b.l g.here.2 (by rw [g5,g5];exact ar e (aS E)) (a5 (j _ (b.x.fresh i) (aF _ _ _))))))
 ·rw [aG h]at e j
  exact hu (.eq (.cmp (.att (.var aY) g.here.1.kind) (.var o) (jK ..)) (dB.mpr h)) (ed (.cons (.var aY) .nil) (aS E) λV C=>bU (vn (bK C b.l) (aF _ _ _) (by rw [g5];exact ar e (aS E)) (a5 (j _ ((b.x.alloc C).fresh i) (aF _ _ _)))))
theorem N_{a b d:ae}{k:am}{p:aj U}{ts ts':L LT}{w h:ag}{x y:U}(T:dx bC (dd C (cV a b k p ts)))(g:i5 bC ts')(l:bC d=G (ak (bE ts')))(j:bC a=G (ey k w h x y b p))(i:a∉dy C)(f:a∉da ts'):dx (bC.set a (ey k w h x y d p)) (dd C (cV a d k p ts')):=
 have c:d≠a:=λe=>by rw [e,j]at l;cases l
 gx.mpr ⟨(gx.mp T).1.set i,hA ⟨⟨w,h,x,y,aF _ _ _⟩,(dT _ _ c).trans l⟩ (p4 f g)⟩
theorem sh.np{f:Fr}(h:sh f):f.k≠ "pane":=h.1.elim (λe=>e▸by decide) λe=>e▸by decide
theorem su{a b:ae}{k:am}{p:aj U}{ts:L LT}(h:k≠ "pane"):al (cV a b k p ts)=d7 ts:=by unfold al d7;rw [jJ (t:=cV a b k p ts) h];rfl
theorem qb{a b:ae}{k:am}{p:aj U}{ts:L LT}:ee (cV a b k p ts)=a::b::da ts:=ob _
theorem Oa{l:L ab}{v:ab}:e8 (l++[v]) af (G (-1))=l:=by
 have:jX (l++[v]).length (-1)=l.length:=by unfold jX;rw [b3,L.length_singleton];omega
 show((l++[v]).drop 0).take (jX (l++[v]).length (-1)-0)=l;rw [this];exact xG
theorem Ob{A:ag}{f:Fr}{a l:ae}{b:LT}{ns:L U}{ρ:ao}(w:308<=A)(g:lN H ns Q)(i:ns.length<=90)(wc:mP (f::C))(S:f.l++f.r=[b])(m:(lK (f::C)).Perm ns)(nd:(dy (f::C)).Nodup)(V:∀z∈dy (f::C),H z=af)(ol:l∉dy (f::C))
  (x:aW H bC) (T:dx bC (dd C (cV f.a f.pl f.k af [b]))) (hl:bC l=G (ak ((fE (f::C)++[a]).map J))) (q:ρ.lookup "path"=G (J l)) (r2:ρ.lookup "parent"=G (J f.a)):SS c A (Be.drop 8) ρ bC (RK (kr Q)):=by
 have wf:=wc f bn;have wC:mP C:=λW h=>wc W (bM _ h);have X:=(gx.mp T).2;have a2:=X.kids.mem (bn (a:=b) (l:=[]));rw [gg,S,h7]at nd V ol;have M:(dy C++ee (cV f.a f.pl f.k af [b])).Nodup:=by rw [qb,h7];exact(js (l₁:=f.a::f.pl::ee b)).nodup_iff.mp nd
 have ac:=(hM.mp M).2.2;have o:∀z∈dy C,H z=af:=λz h=>V z (bM _ (bM _ (cO _ h)));have aN:∀z∈ee b,H z=af:=λz h=>V z (bM _ (bM _ (cX _ h)));have aU:l∉dy C:=λh=>ol (bM _ (bM _ (cO _ h)));have w0:WF b:=(S▸wf.2.2:i3 [b]).mem bn;have m:(al (dd C b)).Perm ns:=by rw [sl wf,S,kq]at m;exact(lL C b).trans (js.trans m)
 have i:=ar i (aS E:90<=100);refine bV (eL (bN (va (.var q) (.neg .cst) (AO (bH hl) λd u=>?_))));rw [c0,EC,Oa,p6];have p:aW bC (bC.set d (ak ((fE C++[f.a]).map J))):=(aW.refl bC).alloc u;have K:=p.keep hl E;have N:=aF bC d (ak ((fE C++[f.a]).map J));have o6:d∉dy C:=λz=>(gx.mp T).1.live d z u;have T6:=dx.ext p T;have Z:=dx.ext p a2;have X6:=X.here.1;have y:=dx.ext p X;have x:=x.trans p;revert K N T6 Z y x;generalize bC.set d _=G3;intro K N T6 Z y x;refine bs (.idx (.att (.var r2) y.here.1.parts) .cst ((e3 y.here.2).trans (mO _ _))) (bU ?_);refine BZ (X:=cV f.a f.pl f.k af [b]) (Y:=b) (ap w E) x o T6 M Z (λz i v=>ac _ v _ (by rw [qb,h7];exact bM _ (bM _ i)) E) N o6 λG' F T' a1=>?_
 have s:=(a1 l aU).trans K;have ln:hY G' (J l)=G (C.length+2):=by rw [mN s,bJ,b3,si];rfl
 cases C with
 |nil=>exact b7 (.cmp (.len (.var ((bf (by decide)).trans q)) ln) .cst E) (b5 (a7 (.cons (.var aY) (.cons .cst (.cons .cst .nil))) (sn (λ_ h=>h) (ap w E) g F T' w0 i aN m)))
 |cons h C=>
  have j:=wC h bn;have n:=(hM.mp M).1;rw [gg]at n;have n:=cS.mp n;have R:=(gx (C:=C) (t:=h.fill b)).mp T';obtain ⟨w',h',x2,y2,v⟩:=R.2.here.1;have as:c6 G' (J l) (aa (-3) 0)=G (J h.a):=by rw [e3 s,p6,p6,fp,fp,c0];exact p3 _ [J f.a,J a] _
  have I:i3 (h.l++b::h.r):=f5 j.2.2.l (f5 (a:=[b]) (g7 w0) j.2.2.r);have ad:=(i3.ht (vP (k:=h.k) I)).1;have lz:=(lL C (h.fill b)).length_eq;rw [b3,show al (h.fill b)=d7 (h.l++b::h.r)from su j.np,show dd C (h.fill b)=dd (h::C) b from E,m.length_eq]at lz
  rw [vQ j.np]at ad;have P:=PV.idx (c:=c) (D:=A) (ρ:=aZ "top" (J (dd (h::C) b).a) ρ) (.var ((bf (by decide)).trans q)) (.neg .cst) as
  refine cZ (.cmp (.len (.var ((bf (by decide)).trans q)) ln) .cst (aA G (cN (eH.mpr (oW (oW (gE _))))))) (lD (a7 (.cons (.att P (du v E E)) (.cons (.att P (du v E E)) .nil)) (N9 (ts:=h.l++b::h.r) (ap w E) (bH R.2.here.2) R.2.kids (ar ad (ar (gQ _ _) (ar (cR lz.symm) (ar i (aS E))))) λd G4 u B l4=>?_)))
  have T4:=dx.ext B T';have au:=(gx (C:=C) (t:=h.fill b)).mp T4;obtain ⟨w4,h4,x5,y5,aw⟩:=au.2.here.1;have p8:=B.keep s E;have P:=PV.idx (c:=c) (D:=A) (ρ:=aZ "top" (J (dd (h::C) b).a) ρ) (.var ((bf (by decide)).trans q)) (.neg .cst) (by rw [e3 p8,<-e3 s];exact as)
  have n2:h.a∉da (h.l++b::h.r):=λz=>by
   rw [gw,sf]at z;rcases dG.mp z with z|z
   ·exact n.1 (bM _ (cX _ (by rw [gw];exact cX _ z)))
   ·rcases dG.mp z with z|z
    ·exact ac h.a (by rw [gg];exact bn) _ (by rw [qb,h7];exact bM _ (bM _ z)) E
    ·exact n.1 (bM _ (cX _ (by rw [gw];exact cO _ z)))
  refine a4 P (e9 aw E (aS E) E (a5 (bb ?_)));have T5:=N_ (ts':=gh h.k (h.l++b::h.r)) T4 (vP au.2.kids) l4 aw (λz=>n.1 (bM _ (cO _ z))) λz=>n2 (B8 z);have rt:(dd (h::C) b).a=(dd C (cV h.a d h.k af (gh h.k (h.l++b::h.r)))).a:=sp (C:=C) (t:=h.fill b) E;refine b5 (a7 (.cons (.var (aY.trans (aA (λz=>G (J z)) rt))) (.cons .cst (.cons .cst .nil))) (sn (λ_ h=>h) (ap w E) g ((F.trans B).fresh (o h.a (by rw [gg];exact bn))) T5 (sk (λW a0=>wC W (bM _ a0)) (hA (bF ⟨j.1,E,?_⟩) (vP I))) i (λz i=>?_) ?_))
  ·exact ar (by rw [b3,fu,<-tF,<-b3];exact df j.2.1) (B9 j.np I)
  ·rcases dG.mp ((p7 _ _).mem_iff.mp i)with i|i
   ·exact o z (by rw [gg];exact bM _ (bM _ (cO _ i)))
   ·rw [qb]at i
    rcases bQ.mp i with e|i
    ·exact e▸o h.a (by rw [gg];exact bn)
    ·rcases bQ.mp i with e|i
     ·exact e▸F.dom u
     ·have i:=B8 i
      rw [gw,sf]at i;rcases dG.mp i with i|i
      ·exact o z (by rw [gg];exact bM _ (bM _ (cX _ (by rw [gw];exact cX _ i))))
      ·exact(dG.mp i).elim (aN z) λi=>o z (by rw [gg];exact bM _ (bM _ (cX _ (by rw [gw];exact cO _ i))))
  ·refine(lL _ _).trans (tD ?_ ((lL C (h.fill b)).symm.trans m))
   rw [su j.np,vQ j.np,show al (h.fill b)=d7 (h.l++b::h.r)from su j.np]
theorem Oc(hD:310<=D)(hT:gv H t)(hw:WF t)(b:(al t).length<=90)(Y:∀H',aW H H'->(n∉al t\/t.k="pane")->Q ah H') (g:n∈al t->lN H ((al t).erase n) Q):CL c D 196 [J t.a,aa n 0] H Q:=by
 have p:308<=D-2:=cj hD;refine(LA (ap hD E) (bV (B1 (t:=t) (n:=n) (ap p E) hT hw b E E (λbC ao hn=>?_) λbC C a B y W o aF au=>?_))).upR
 ·exact cZ (.or_t (.cmp (.var E) .cst E)) (bR .cst (bX (od (Y _ ao (bt hn)))))
 cases C with
 |nil=>exact cZ (.or_f (.cmp (.var E) .cst E) (.or_t (.cmp (.len (.var E) W.len) .cst E))) (bR .cst (bX (od (Y _ W.x (bF (au E))))))
 |cons f C=>
 have g:=g (o.mem_iff.mpr bn);have o:=o.erase n;rw [L.erase_cons_head]at o;have b:=ar (L.length_erase_le (a:=n)) b;have d:=W.wc f bn;have wC:mP C:=λf' h=>W.wc f' (bM _ h);have j:=W.ca.1;have w:=hM.mp W.nd;have nx:∀z∈ [a,B],z∉dy (f::C):=λz b h=>w.2.2 _ h _ b E;have w:=w.1;have ac:y∉dy (f::C):=λz=>W.off (cX _ z);have P:∀z∈dy (f::C),H z=af:=λz h=>W.fr z (cX _ h);have R:f.pl∈dy (f::C):=by rw [gg];exact bM _ bn
 have s:=w;rw [gg]at s;have s:=(cS.mp (cS.mp s).2).1;have A:=o.length_eq;rw [sl d,b3]at A;have wz:=i3.ht d.2.2;have A:(d7 (f.l++f.r)).length<=90:=ar (he _ _) (ar (cR A.symm) b);have i2:c6 bC (J y) (aa (-2) 0)=G (J f.a):=(e3 W.path).trans (sr f C a);refine b7 (.or_f (.cmp (.var E) .cst E) (.or_f (.cmp (.len (.var E) W.len) .cst (aA G (dB.mpr λe=>by cases e))) .or_n)) (f2 (bs (.idx (.var E) (.neg .cst) W.last) (bs (.idx (.var E) (.neg .cst) i2) (bU (f3 (aS E) E ?_)))))
 refine d4 (.cmp (.att (.var E) j.1.kind) .cst (jK ..)) ?_;generalize (f.k=="row")=aw;refine bV (a7 (.cons (.att (.var E) j.1.parts) (.cons (.var E) .nil)) (vJ (l1:=f.l.map LT.a) (l2:=f.r.map LT.a) (ap p E) (by rw [<-vL];exact j.2.1) (λz=>nx a bn (by rw [gg];exact bM _ (bM _ (cX _ (by rw [gw];exact cX _ (vM z)))))) (j.inst W.cell.inst) ?_))
 refine dN (ge (.att (.var E) j.1.parts) (jH j.2.1) (.cons (.var E) .nil) (Ba (v:=J a) j.2.1 (dH _) (by rw [tG,bJ,<-g5,xE (cw _),qR];rfl) ?_))
 rw [show(bE f.l++J a::bE f.r).eraseIdx ((f.l.map LT.a).length:U).toNat=bE (f.l++f.r)from by rw [tG,bJ,<-g5,L.eraseIdx_append_of_length_le (cw _),qR,mM];rfl]
 have K:aW H (bC.set f.pl (ak (bE (f.l++f.r)))):=W.x.fresh (P _ R);have F:=vK (C:=C) (ts:=f.l++b9 a B n::f.r) (ts':=f.l++f.r) W.tr j.2.2 (λz=>s (cO _ z)) λz=>s (cX _ z);have S:ez (bC.set f.pl (ak (bE (f.l++f.r)))) a "pane" B (G n):=W.cell.set_ne λe=>nx a bn (e▸R);have M:(bC.set f.pl (ak (bE (f.l++f.r)))) y=_:=(dT _ _ λe:y=f.pl=>ac (e▸R)).trans W.path;revert K F S M;generalize bC.set f.pl (ak (bE (f.l++f.r)))=G1;intro K F S M;have V:=(gx.mp F).2;have h1:(f.l.length-1)<(f.l++f.r).length:=by have:=d.2.1;rw [b3]at this⊢;omega
 have N:c6 G1 (J f.pl) (aa (if((f.l.map LT.a).length:U)-1>0 then((f.l.map LT.a).length:U)-1 else 0) 0)=G (J ((f.l++f.r)[f.l.length-1]).a):=by
  rw [show(if((f.l.map LT.a).length:U)-1>0 then((f.l.map LT.a).length:U)-1 else 0)=((f.l.length-1:ag):U)from by rw [bJ];omega]
  exact(e3 (vs:=bE (f.l++f.r)) V.here.2).trans (n_ (by show(bE (f.l++f.r))[_]? =_;unfold bE;rw [f_,iD h1];rfl))
 have q:=ED h1;revert N q;generalize (f.l++f.r)[f.l.length-1]=tp;intro N q;refine dN (eL (bs (.idx (.att (.var E) V.here.1.parts) (.max (.cons .cst (.cons (.bin (.var E) .cst E) .nil))) N) (bs (.var E) (bN (fD (a7 (.cons (.var E) (.cons (.var E) .nil)) (vH (ap p E) S λas=>fY (a4 .cst (gZ E (bU ?_))))))))));refine NW 100 tp (m:=as+1) (ar (vB q) (ar (ag.le_of_add_right_le (ar wz.2 (df A))) (aS E))) (ap p E) (dx.at (V.kids.mem q)) (d.2.2.mem q) λG2 I=>?_;have X:=K.trans I;have T:=dx.ext I F;have N2:=(gx.mp T).2;have Z:=I.keep M E;refine eO (.cmp (.len (.att (.var E) N2.here.1.parts) (mN N2.here.2)) .cst E) (λi=>?_) λi=>?_
 ·have i:1<(bE (f.l++f.r)).length:=eH.mp (gO i)
  rw [g5]at i;have p0:c6 G2 (J y) (aa 0 0)=G (J (dd C (cV f.a f.pl f.k af (f.l++f.r))).a):=(e3 Z).trans ((BW (C:=f::C) (u:=b9 a B n) E).trans (aA (λz=>G (J z)) (sp (C:=C) E)));refine b5 (a7 (.cons (.idx (.var E) .cst p0) (.cons .cst (.cons .cst .nil))) (sn (λ_ h=>bX h) (ap p E) g X T (sk wC (hA (bF ⟨d.1,E,i⟩) d.2.2)) (ar b (aS E)) (λz b=>P z ?_) ?_))
  ·have b:=(p7 _ _).mem_iff.mp b
   rw [qb]at b;rw [gg];exact(js (l₁:=dy C)).mem_iff.mp b
  ·refine(lL _ _).trans (tD ?_ o.symm)
   rw [su d.np,sl d];exact js
 ·have i:¬1<(bE (f.l++f.r)).length:=λz=>tI i (eH.mpr z)
  rw [g5]at i;obtain ⟨aN,ad⟩:=Sr.mp (EF (tz.mp i) d.2.1);exact a5 (bb (Ob (ns:=(al t).erase n) p g b W.wc ad o.symm w P ac X (by rw [<-ad];exact T) Z E E))
end
mutual
noncomputable def fF(f:ae->aj U):LT->LT
 |cV a c k p b=>cV a c k (if k="pane" then f a else p) (ku f b)
noncomputable def ku(f:ae->aj U):L LT->L LT
 |[]=>[]
 |t::r=>fF f t::ku f r
end
theorem B_(f:ae->aj U):∀l,ku f l=l.map (fF f)
 |[]=>by rw [ku];rfl
 |t::r=>by rw [ku,B_ f r];rfl
theorem lP(f:ae->aj U):∀t:LT,fF f t=cV t.a t.pl t.k (if t.k="pane" then f t.a else t.p) (t.ps.map (fF f))
 |cV g c e d b=>by rw [fF,B_];rfl
mutual
theorem qc(f:ae->aj U):∀t:LT,g6 (fF f t)=(g6 t).map (fF f)
 |cV a c k p b=>by rw [jI,jI,e6,show(fF f (cV a c k p b)).ps=ku f b from by rw [fF];rfl,Ca f b];rfl
theorem Ca(f:ae->aj U):∀l:L LT,dw (ku f l)=(dw l).map (fF f)
 |[]=>by rw [ku,dw];rfl
 |t::r=>by rw [ku,dw,dw,c0,qc f t,Ca f r]
end
theorem Od{f:ae->aj U}{t:LT}:al (fF f t)=(c1 t).map λq=>(f q.a).getD 0:=by
 unfold al lI c1;rw [qc,Er,dC];have e:lH∘fF f=lH:=funext λq=>by show lH (fF f q)=_;rw [lP];rfl
 rw [e];refine jq λq b=>?_;show(fF f q).p.getD 0=_;rw [lP];exact aA (aj.getD · 0) (aJ (c4.mp (ie.mp b).2))
theorem Oe{f:ae->aj U}{t:LT}(w:WF t)(h:∀q∈c1 t,∃n,f q.a=G n):WF (fF f t):=λj g=>by
 rw [qc]at g;obtain ⟨q,i,rfl⟩:=cA.mp g;rw [lP];rcases w q i with ⟨c,b,d⟩|⟨c,b,d⟩
 ·exact bt ⟨c,by obtain ⟨n,e⟩:=h q (ie.mpr ⟨i,c4.mpr c⟩);exact⟨n,(aJ c).trans e⟩,by show q.ps.map _=[];rw [d];rfl⟩
 ·exact bF ⟨c,(aG λz=>by rw [z]at c;exact bW c (by decide)).trans b,by show 2<=(q.ps.map _).length;rw [bJ];exact d⟩
theorem Of{f:ae->aj U}{t:LT}:ee (fF f t)=ee t:=by unfold ee;rw [qc,L.flatMap_map];exact aA (L.flatMap · _) (funext λq=>by rw [lP];rfl)
theorem Og{H:Hp}{f:ae->aj U}{t:LT}(h:∀q∈g6 t,ez H q.a q.k q.pl (if q.k="pane" then f q.a else q.p)/\H q.pl=G (ak (bE q.ps))):dx H (fF f t):=λd b=>by
 rw [qc]at b;obtain ⟨q,c,rfl⟩:=cA.mp b;have e:bE (fF f q).ps=bE q.ps:=by rw [lP];show bE (q.ps.map _)=_;unfold bE;rw [dC];exact jq λu _=>by show J (fF f u).a=_;rw [lP];rfl
 unfold NM;rw [e,lP];exact h q c
theorem Cb:∀{as:L ae} {ns:L U},as.Nodup->as.length=ns.length->as.map (λa=>((as.zip ns).lookup a).getD 0)=ns/\∀a∈as,∃n,(as.zip ns).lookup a=G n
 |[],[],_,_=>⟨E,λ_ h=>nomatch h⟩
 |a::as,n::ns,d,e=>by
  have d:=cS.mp d;have f:=Cb d.2 (qL e);have i:((a::as).zip (n::ns)).lookup a=G n:=by rw [L.zip_cons_cons,fQ,eE]
  have g:∀b∈as,((a::as).zip (n::ns)).lookup b=(as.zip ns).lookup b:=λb c=>by rw [L.zip_cons_cons,fQ,dB.mpr λz:b=a=>d.1 (z▸c)]
  exact⟨by rw [e6,i,jq λb c=>aA (aj.getD · 0) (g b c),f.1];rfl,λb c=>(bQ.mp c).elim (λz=>⟨n,z▸i⟩) λc=>(g b c).symm▸f.2 b c⟩
structure qd(H:Hp)(t:LT)(d l:ae)(ns:L U)(c:L (LT×U))(ρ:ao)(b:Hp):Prop where
 r:ρ.lookup "found"=G (J t.a)
 x:aW H b
 dl:b d=G (ak (bE (c1 t)))
 m:∀q∈g6 t,ez b q.a q.k q.pl (if q.k="pane" then((c.map λp=>(p.1.a,p.2)).lookup q.a).or q.p else q.p)/\b q.pl=G (ak (bE q.ps))
theorem Cc{c:Cx}{D:ag}{H:Hp}{Q:KV}{t:LT}{l:ae}{ns:L U}(hD:310<=D)(hT:gv H t)(N:WF t)(j:(al t).length<=90)(hl:bD H l=G (iL ns))(hn:(al t).length=ns.length)(q:∀s S,aW H S->fm S s->WF s->al s=ns->Q (J s.a) S):CL c D 210 [J t.a,J l] H Q:=by
 have hE:308<=D-2:=cj hD;refine(LC (ap hD E) (bV (a7 (.cons (.var E) .nil) (BR 90 t (ar N.ht j) (ap hE E) hT N (ar j (aS E)) λd ao V Y m2 X C=>?_)))).upR;have F:=C.wf N;have W:=(it (t:=d)).symm.trans ((aA hJ C.lv).trans hn);have z1:(c1 d).length<=bL:=ar (cR ((it (t:=d)).symm.trans (aA hJ C.lv))) (ar j (aS E));refine KQ (a7 (.cons (.var E) .nil) (vC 90 d (ar F.ht (C.lv▸j)) (ap hE E) Y.at F z1 λaN A=>KR (.var E) (bH (aF _ _ _)) (((V.trans ((aW.refl ao).alloc A)).list hl)) ?_))
 have K:((c1 d).map LT.a).Nodup:=m2.sublist (by
  unfold c1 ee;exact(EG.map LT.a).trans (by
   induction g6 d with
   |nil=>exact .slnil
   |cons u aU aw=>exact((aw.cons u.pl).cons_cons u.a)))
 have zr:jA (bE (c1 d)) (iL ns)=((c1 d).zip ns).map λb=>[J b.1.a,aa b.2 0]:=by unfold jA bE iL;rw [L.zip_map,dC];rfl
 have T:((c1 d).zip ns).map (λb=>(b.1.a,b.2))=((c1 d).map LT.a).zip ns:=(L.zip_map_left ..).symm;rw [zr];have B:=Cb K ((bJ _).trans W);refine Nz (qd H d aN l ns) (λad b rs ρ R a1 P I M Z=>⟨E,dO (dO (f1 ?_))⟩) (λρ R I=>?_) ⟨E,V.alloc A,aF _ _ _,λq i=>?_⟩
 ·have hp:b∈(c1 d).zip ns:=P▸cO _ bn
  have y:=vA (L.of_mem_zip hp).1;obtain ⟨w,ac,u,v,o⟩:=(I.m b.1 y.1).1;have fr:H b.1.a=af:=X _ (oV.mpr ⟨_,y.1,bn⟩);refine c7 (.var aY) (.var ((bf (by decide)).trans aY)) (e9 o E (aS E) E (a5 ?_))
  have nn:(ad.map λb=>(b.1.a,b.2)).lookup b.1.a=af:=by
   rw [<-T,P,c0,e6]at B;refine L.lookup_eq_none_iff.mpr λa0 hb=>?_;obtain ⟨q,i,rfl⟩:=cA.mp hb;refine oQ.mpr λz:b.1.a=q.1.a=>?_;have e2:(c1 d).map LT.a=(ad++b::rs).map λb=>b.1.a:=by rw [<-P];exact(aA (L.map LT.a) (Ew (cR W)).symm).trans dC
   rw [e2,c0,e6]at K;exact(hM.mp K).2.2 _ (cA.mpr ⟨q,i,E⟩) _ bn z.symm
  refine M _ _ ⟨bH (jG I.dl o),(I.x.fresh fr).list hl⟩ ⟨(bf (by decide)).trans ((bf (by decide)).trans I.r),I.x.fresh fr,jG I.dl o,λq i=>?_⟩
  have h:=I.m q i;refine⟨?_,jG h.2 o⟩
  by_cases e:q.a=b.1.a
  ·obtain ⟨M,Z⟩:=NI (e▸h.1) ⟨w,ac,u,v,o⟩
   rw [e,M,Z,aJ y.2,c0,L.lookup_append,nn,EC,fQ,eE];rw [y.2];exact⟨w,ac,u,v,aF _ _ _⟩
  ·rw [c0,L.lookup_append,EC,fQ,dB.mpr e,L.lookup_nil,aj.or_none]
   exact h.1.set_ne e
 ·have au:dx R (fF (λn=>(((c1 d).map LT.a).zip ns).lookup n) d):=Og λq i=>by
   have h:=I.m q i;rw [T]at h
   by_cases e:q.k="pane"
   ·rw [aJ e]at h⊢
    obtain ⟨aZ,en⟩:=B.2 q.a (cA.mpr ⟨q,ie.mpr ⟨i,c4.mpr e⟩,E⟩);rw [en]at h⊢;exact h
   ·rw [aG e]at h⊢;exact h
  have as:=Oe (f:=λn=>(((c1 d).map LT.a).zip ns).lookup n) F λq i=>B.2 q.a (cA.mpr ⟨q,i,E⟩);have el:al (fF (λn=>(((c1 d).map LT.a).zip ns).lookup n) d)=ns:=Od.trans ((dC (g:=λn=>((((c1 d).map LT.a).zip ns).lookup n).getD 0) (f:=LT.a)).symm.trans B.1);exact bb (bR (.var I.r) ⟨f7 H R,p5 _ _,by
   have:=q _ _ I.x.frz (au.frz λz j=>X z (by rw [Of]at j;exact j)) as el
   rw [lP]at this;exact this⟩)
 ·have:=Y q i
  exact⟨by rw [show(if q.k="pane" then((([]:L (LT×U)).map λb=>(b.1.a,b.2)).lookup q.a).or q.p else q.p)=q.p from by by_cases e:q.k="pane";exact aJ e;exact aG e];exact((aW.refl ao).alloc A).cell this.1,bK A this.2⟩
noncomputable def gK(i j k:U):U:=if k=i then j else if k=j then i else k
theorem Oh(k:U)(v:ab)(a:U)(w:ab):em [(k,v)] a w=if k=a then [(k,w)]else [(k,v),(a,w)]:=by
 unfold em
 by_cases h:k=a
 ·simp only [h,xa,xH,aK.true_or,nc,e6,xD]
 ·simp only [h,xa,L.any_nil,decide_false,aK.or_self,oO,kU];rfl
theorem Oi(i j k:U):(e1 ((([(i,aa j 0),(j,aa i 0)]:L (U×ab))).foldl (λacc p=>em acc p.1 p.2) []) k).getD (aa k 0)=aa (gK i j k) 0:=by
 show(e1 (em [(i,aa j 0)] j (aa i 0)) k).getD (aa k 0)=_;unfold gK e1;rw [Oh]
 by_cases h:i=j
 ·rw [aJ h]
  by_cases a:k=i
  ·simp only [iF,a,xH,nc,h];rfl
  ·simp only [iF,e7 (Ne.symm a),aG a,aG (λz:k=j=>a (z.trans h.symm)),L.find?_nil];rfl
 ·rw [aG h]
  by_cases a:k=i
  ·simp only [iF,a,xH,nc];rfl
  ·by_cases b:k=j
   ·simp only [iF,e7 (Ne.symm a),aG a,b,xH,nc,e7 h,aG (Ne.symm h)];rfl
   ·simp only [iF,e7 (Ne.symm a),aG a,e7 (Ne.symm b),aG b];rfl
theorem vR(i j k:U):gK i j (gK i j k)=k:=by
 unfold gK
 by_cases b:k=i
 ·rw [aJ b]
  by_cases a:j=i
  ·rw [aJ a,b,a]
  ·rw [aG a,aJ E,b]
 ·rw [aG b]
  by_cases a:k=j
  ·rw [aJ a,aJ E,a]
  ·rw [aG a,aG b,aG a]
theorem Oj{l:L U}{i j:U}(b:l.Nodup)(n:i∈l)(g:j∈l):(l.map (gK i j)).Perm l:=by
 have a:∀k,k∈l->gK i j k∈l:=λk f=>by
  unfold gK;split
  ·exact g
  ·split
   ·exact n
   ·exact f
 have c:(l.map (gK i j)).Nodup:=Su.mpr (L.pairwise_map.mpr ((Su.mp b).imp λh e=>h ((vR i j _).symm.trans ((aA (gK i j) e).trans (vR i j _)))));exact(Sv c b).mpr λk=>⟨λh=>let ⟨m,d,e⟩:=cA.mp h;e▸a m d,λh=>cA.mpr ⟨gK i j k,a k h,vR i j k⟩⟩
section
variable{c:Cx}{D:ag}{H:Hp}{Q:KV}{t:LT}{i j n:U}
theorem Ok(C:320<=D)(A:gv H t)(n:WF t)(l:(al t).length<=90)(K:i∈al t)(I:j∈al t)(q:∀b u,aW H u->fm u b->WF b->al b=(al t).map (gK i j)->Q (J b.a) u):CL c D 215 [J t.a,aa i 0,aa j 0] H Q:=by
 have B:318<=D-2:=cj C;refine LF (ap C E) (bV (a7 (.cons (.var E) .nil) (oa (ar (go (mf 2 (ar n.ht l)) 2) (ap B E)) A n (it▸ar l (aS E)) λd N=>?_)));have m:aW H (H.set d (ak (iL (al t)))):=(aW.refl H).alloc N;have e:bD (H.set d (ak (iL (al t)))) d=G (iL (al t)):=bH (aF _ _ _);revert m e;generalize H.set d _=v;intro m e;have y:∀{k:U},k∈al t->cJ v jn (aa k 0) (J d)=G false:=λh=>(N0 e _ 0).trans (by rw [dE.mpr h];rfl)
 refine b7 (.or_f (.cmp (.var E) (.var E) (y K)) (.or_f (.cmp (.var E) (.var E) (y I)) .or_n)) (bV (Kl (λ_=> .var E) (λ_=> .var E) (λ_=> .var E) (λ_=> .var E) λW M=>?_));have x:=(aW.refl v).alloc M (o:=aO (([(i,aa j 0),(j,aa i 0)]:L (U×ab)).foldl (λs p=>em s p.1 p.2) []));have T:=aF v W (aO (([(i,aa j 0),(j,aa i 0)]:L (U×ab)).foldl (λs p=>em s p.1 p.2) []));have z:=x.list e;refine b5 (eL (bs (.var E) (bN (mH (.var E) (kj (g:=λk:U=>aa k 0) (f:=λk=>aa (gK i j k) 0) (dm z) z (ar l (aS E)) (λk _ V Y r=>K1 (.var E) (.cons (.var E) (.cons (.var E) .nil)) (bK r T) (Oi i j k)) λV r=>bU ?_)))));rw [show(al t).map (λk=>aa (gK i j k) 0)=iL ((al t).map (gK i j))from by unfold iL;rw [dC];rfl]
 have w:=(m.trans x).alloc r (o:=ak (iL ((al t).map (gK i j))));exact Cc (ap B E) (gv.ext w A) n l (bH (aF _ _ _)) (bJ _).symm λb X F S R P=>q b X (w.trans F) S R P
theorem Ol{w h:ag}(k:10<=D)(q:∀b j,aW H j->fm j b->WF b->al b=[n]->Q (J b.a) j):CL c D 96 [aa n 0,aa w 0,aa h 0] H Q:=by have l:8<=D-2:=cj k;refine(La (ap k E) (b5 (eL (bs .cst (bs (.var E) (bs (.var E) (bs .cst (bs .cst (bN (ed .nil (eh _) λd i=>bs (.var E) (bU (r9 (ap l E) ⟨E,E,E,E,E,E,E⟩ λe g=>?_)))))))))))).upR;have x:=((aW.refl H).alloc i (o:=ak [])).alloc g (o:=ey "pane" w h 0 0 d (G n));have T:dx ((H.set d (ak [])).set e (ey "pane" w h 0 0 d (G n))) (b9 e d n):=hA ⟨⟨w,h,0,0,aF _ _ _⟩,bK g (aF _ _ _)⟩ (pV _);exact⟨f7 H _,p5 _ _,q (b9 e d n) _ x.frz (T.frz λz f=>by rw [lO]at f;exact(bQ.mp f).elim (λm=>m▸((aW.refl H).alloc i).dom g) λf=>de.mp f▸i) (p8 e d n) (mQ e d n)⟩
end
noncomputable def qe(o:MO):aK:=o.rw&&!iu o
noncomputable def bp(X:ae->Prop)(H d:Hp):Prop:=∀a b,H a=G b->∃c,d a=G c/\((X a/\qe b=true)\/ko b c)
section
variable{X Y:ae->Prop}{H H1 H2:Hp}{a d pl:ae}{o mo:MO}{n:U}{k:am}{p:aj U}
theorem bp.of_ext(x:aW H H1):bp X H H1:=λa mo e=>let ⟨o,b,l⟩:=x a mo e;⟨o,b,bF l⟩
theorem bp.refl(H:Hp):bp X H H:= .of_ext (.refl H)
theorem bp.tight(x:bp X H H1)(e:H a=G mo)(h:qe mo=false):∃mo',H1 a=G mo'/\ko mo mo':=let ⟨o,b,l⟩:=x a mo e;⟨o,b,l.elim (λz=>by rw [h]at z;cases z.2) id⟩
theorem bp.keep(x:bp X H H1)(b:¬X a)(e:H a=G mo)(l:iu mo=false):H1 a=G mo:=let ⟨o,c,y⟩:=x a mo e;y.elim (λz=>bW z.1 b) λy=>y.1 l▸c
theorem bp.ro(x:bp X H H1)(e:H a=G mo)(h:mo.rw=false):H1 a=G mo:=by
 obtain ⟨o,b,y⟩:=x.tight e (by unfold qe;rw [h];rfl)
 exact y.1 (by cases mo<;>first|rfl|cases h)▸b
theorem bp.cell(x:bp X H H1)(h:ez H a k pl p):ez H1 a k pl p:=by obtain ⟨w,q,u,v,e⟩:=h;obtain ⟨o,b,y⟩:=x.tight e E;obtain ⟨w,q,u,v,g⟩:=y.2.1 k pl p ⟨w,q,u,v,E⟩;exact⟨w,q,u,v,g▸b⟩
theorem bp.pane(x:bp X H H1)(h:dc H a n):dc H1 a n:=by obtain ⟨r,c,e⟩:=h;obtain ⟨o,b,y⟩:=x.tight e E;obtain ⟨r,c,g⟩:=y.2.2.1 n ⟨r,c,E⟩;exact⟨r,c,g▸b⟩
theorem bp.dom(x:bp X H H1)(h:H1 a=af):H a=af:=by
 cases e:H a with
 |none=>rfl
 |some mo=>obtain ⟨o,b,_⟩:=x _ _ e;rw [h]at b;cases b
theorem bp.trans(x:bp X H H1)(y:bp X H1 H2):bp X H H2:=λa mo e=>by
 obtain ⟨o,f,b⟩:=x a mo e;obtain ⟨q,d,c⟩:=y a o f;refine⟨q,d,b.elim bt λb=>c.elim (λz=>bt ⟨z.1,?_⟩) λc=>bF (b.trans c)⟩;cases h:iu mo with
 |false=>rw [<-b.1 h];exact z.2
 |true=>have z:=z.2;unfold qe at z;rw [b.2.2.2,h,aK.not_true,Ec]at z;cases z
theorem bp.ext(x:bp X H H1)(y:aW H1 H2):bp X H H2:=x.trans (.of_ext y)
theorem bp.more(x:bp X H H1)(h:∀a,X a->Y a):bp Y H H1:=λa mo e=>let ⟨o,b,l⟩:=x a mo e;⟨o,b,l.imp (λz=>⟨h a z.1,z.2⟩) id⟩
theorem bp.set{o':MO}(c:H d=G o)(b:qe o=true)(f:X d):bp X H (H.set d o'):=λa mo e=>by
 by_cases h:a=d
 ·rw [h,c]at e;rw [h,aF];cases e;exact⟨_,E,bt ⟨f,b⟩⟩
 ·rw [dT _ _ h];exact⟨_,e,bF (.refl _)⟩
theorem bp.frz{b:Hp}(x:bp X H b):bp X H (f7 H b):=λa mo e=>by rw [BP e];exact x a mo e
theorem fm.extX(x:bp X H H1){t:LT}(h:fm H t):fm H1 t:=λq a=>⟨x.cell (h q a).1,x.ro (h q a).2 E⟩
theorem Om(h:H a=G o):H.set a o=H:=funext λb=>by
 by_cases e:b=a
 ·rw [e,aF,h]
 ·exact dT _ _ e
theorem mS(H:Hp)(v u:ab):cJ H bB v u=nF H v u:=E
theorem sv{H:Hp}{a:ae}{vs:L ab}(h:H a=G (bm vs)):im H a=G (true,vs):=by unfold im;rw [h]
theorem vS(H:Hp)(v u:ab):cJ H eY v u=if gs v=gs u then(nF H v u).map (!·)else af:=E
theorem dc.att(h:dc H a n):ew H (J a) "number"=G (aa n 0):=let ⟨_,_,e⟩:=h;du e E E
theorem dc.inst(h:dc H a n):fy H a=true:=let ⟨_,_,e⟩:=h;kn e
theorem On{m:U}(h:dc H a n)(g:dc H a m):n=m:=let ⟨_,_,e⟩:=h;let ⟨_,_,b⟩:=g;BN (bc (e.symm.trans b))
end
noncomputable def cQ(n:U)(b:a9 aP)(p a l t:ab):MO:=bZ 661 [("number",aa n 0),("name",aq b 0),("panes",p),("active",a),("last",l),("layout",t),("is_zoomed",az false),("has_bell",az false),("has_activity",az false),("options",ah)]
section
variable{H:Hp}{a:ae}{n:U}{nm:a9 aP}{p ac l t v:ab}{Q:Hp->Prop}
theorem Oo(h:H a=G (cQ n nm p ac l t))(b:dJ v=true)(q:Q (H.set a (cQ n nm v ac l t))):SA (J a) "panes" v H Q:=e9 h E (aS E) b q
theorem sw(h:H a=G (cQ n nm p ac l t))(b:dJ v=true)(q:Q (H.set a (cQ n nm p v l t))):SA (J a) "active" v H Q:=e9 h E (aS E) b q
theorem sx(h:H a=G (cQ n nm p ac l t))(b:dJ v=true)(q:Q (H.set a (cQ n nm p ac v t))):SA (J a) "last" v H Q:=e9 h E (aS E) b q
theorem Op(h:H a=G (cQ n nm p ac l t))(b:dJ v=true)(q:Q (H.set a (cQ n nm p ac l v))):SA (J a) "layout" v H Q:=e9 h E (aS E) b q
theorem vT{f:am}{b:aK}{C:ae}{fs:L (am×ab)}(h:H a=G (bZ C fs))(c:hV.contains (C,f)=true)(d:fs.length<=100)(e:aZ f (az b) fs=fs)(q:Q H):SA (J a) f (az b) H Q:=e9 h c d E (by rw [e,Om h];exact q)
theorem i6(h:H a=G (cQ n nm p ac l t)):ew H (J a) "layout"=G t:=du h E E
theorem lQ(h:H a=G (cQ n nm p ac l t)):ew H (J a) "panes"=G p:=du h E E
theorem oe(h:H a=G (cQ n nm p ac l t)):ew H (J a) "active"=G ac:=du h E E
theorem og(h:H a=G (cQ n nm p ac l t)):ew H (J a) "last"=G l:=du h E E
end
noncomputable def dQ(pA:U->ae)(ns:L U):L ab:=ns.map λn=>J (pA n)
theorem Cd(pA:U->ae)(a:L U):(dQ pA a).length=a.length:=bJ _
section
variable{c:Cx}{D:ag}{H:Hp}{Q:KV}{pA:U->ae}{ns:L U}
theorem sy{l:ae}{k:U}(m:2<=D)(e:bD H l=G (dQ pA ns))(j:∀n∈ns,dc H (pA n) n)(q:Q (if k∈ns then J (pA k)else ah) H):CL c D 491 [J l,aa k 0] H Q:=by
 refine Mj m (jF (.var E) (dm e) (rX (xs:=ns) e (λf a=>a.lookup "number"=G (aa k 0)/\k∉f) (λf n p a K o I i g=>?_) (λa I=>?_) ⟨E,gc⟩))
 ·have d:n∈ns:=o▸cO _ bn
  have b:=(bf (y:="pane") (v:=J (pA n)) (by decide)).trans I.1
  have P:=PT.cmp (c:=c) (D:=D-2) (op:=bB) (.att (.var aY) (j n d).att) (.var b) (fl ..)
  by_cases h:n=k
  ·rw [<-h,aJ d]at q
   exact cZ (P.eq (c4.mpr h)) (bR (.var aY) (bX (g _ _ _ (bX q))))
  ·exact b7 (P.eq (dB.mpr h)) (a5 (i _ ⟨b,λz=>(dG.mp z).elim I.2 λz=>h (de.mp z).symm⟩))
 ·rw [aG I.2]at q
  exact bb (bR .cst q)
theorem Oq{p:ae}{n r k:U}(w:2<=D)(d:dc H p n)(q:∀v l,aW H l->Q v l):CL c D 470 [J p,aa r 0,aa k 0] H Q:=by
 obtain ⟨a,b,d⟩:=d;refine Mh w (dt (ec (fL (.cons (.var E) (.cons (.var E) .nil)) (aS E) λh g=>en (fL (.cons (.att (.var E) (du (bK g d) E E)) (.cons (.att (.var E) (du (bK g d) E E)) .nil)) (aS E) λj i=>ep (k:=(r==a&&(k==b&&true))) ?_ ?_))))
 ·have u:=bK (o:=bm [aa a 0,aa b 0]) i (aF H h (bm [aa r 0,aa k 0]))
  have t:=aF (H.set h (bm [aa r 0,aa k 0])) j (bm [aa a 0,aa b 0]);rw [mS];exact(pe (sv u) (sv t)).trans E
 ·have e:aW H ((H.set h (bm [aa r 0,aa k 0])).set j (bm [aa a 0,aa b 0])):= .of_sub (eS.alloc (eS.alloc (eS.refl _) g) i)
  have f:=bK (o:=bm [aa a 0,aa b 0]) i (bK (o:=bm [aa r 0,aa k 0]) g d);revert e f;generalize (H.set h (bm [aa r 0,aa k 0])).set j (bm [aa a 0,aa b 0])=m;intro e f;cases (r==a&&(k==b&&true))with
  |true=>exact gI (bR .cst (bX (q _ _ e)))
  |false=>refine d5 (a5 (bb (lE (.cons (.var E) (.cons (.var E) .nil)) E (aS E) (mK (.var E) (e9 f E (aS E) E (mK (.var E) (e9 (aF _ _ _) E (aS E) E (f1 ?_))))))));rw [lA];have s:aW m (m.set p (i4 n r k)):= .paneSet f;exact b7 (.cmp (.att (.var E) (du (aF _ _ _) E E)) .cst E) (bR .cst (q _ _ (e.trans s)))
theorem Ce{a w:ae}{n:U}{V:a9 aP}{ad l:ab}{t:LT}(M:310<=D)(F:H a=G (cQ n V (J w) ad l (J t.a)))(K:fm H t)(g:WF t)(A:(al t).length<=90)(X:bD H w=G (dQ pA (al t)))(B:∀n∈al t,dc H (pA n) n)(q:∀b,aW H b->Q ah b):
  CL c D 528 [J a] H Q:=by
 have j:308<=D-2:=cj M;refine Mr (ap M E) (g3 (a7 (.cons (.att (.var E) (i6 F)) .nil) (vC 90 t (ar g.ht A) (ap j E) K.at g (it▸ar A (aS E)) λd Z=>?_)));have P:aW H (H.set d (ak (bE (c1 t)))):=(aW.refl H).alloc Z;have N:bD (H.set d (ak (bE (c1 t)))) d=G (bE (c1 t)):=bH (aF _ _ _);refine hx (dm N) (h5 (xs:=c1 t) (λac e b=>e.lookup "self"=G (J a)/\aW H b/\bD b d=G (bE (c1 t))) (λac u rs e H1 aw e1 I W k2=>?_) (λe H1 I=>bb (a5 (q _ I.2.1))) ⟨E,P,N⟩);have o:u∈c1 t:=e1▸cO _ bn;have h:=vA o;obtain ⟨⟨m,k⟩,_⟩:=(g u h.1).lf h.2;obtain ⟨as,au,ao,y,i⟩:=I.2.1.cell (K u h.1).1;have z:m∈al t:=cA.mpr ⟨u,o,by rw [k];rfl⟩
 have C:=I.2.1.keep F E;have s:=(bf (y:="leaf") (v:=J u.a) (by decide)).trans I.1
 have S:=I.2.1.pane (B m z);obtain ⟨R,T,x⟩:=S;refine bV (a7 (.cons (.att (.var s) (lQ C)) (.cons (.att (.var aY) (du i E (aA (λp=>G (pv p)) k))) .nil)) (sy (ap j E) (I.2.1.list X) (λn Y=>I.2.1.pane (B n Y)) ?_));rw [aJ z];have r:=(bf (y:="pane") (v:=J (pA m)) (by decide)).trans s
 exact lC (.and_f (.att (.var r) (du C E E))) (dN (eR (.var aY) (dv x E E) (.cons (.att (.var ((bf (by decide)).trans aY)) (n8 i)) (.cons (.att (.var ((bf (by decide)).trans aY)) (n7 i)) .nil)) (Oq (ap j E) ⟨R,T,x⟩ λv H2 f=>a5 (bb (a5 (W _ _ (f.list I.2.2) ⟨r,I.2.1.trans f,f.list I.2.2⟩))))))
end
theorem oh(a:L am)(x:am)(h:a.contains x=true):∀(ρ:ao),(ρ.filter λq=>a.contains q.1).lookup x=ρ.lookup x
 |[]=>E
 |(y,v)::r=>by
  rw [kZ]
  by_cases e:x=y
  ·subst e
   rw [aJ h,fQ,fQ,eE]
  ·have b:=dB.mpr e
   by_cases g:a.contains y=true
   ·rw [aJ g,fQ,fQ,b];exact oh a x h r
   ·rw [aG g,oh a x h r,fQ,b]
section
variable{c:Cx}{D:ag}{H:Hp}{Q:KV}{pA:U->ae}{a pl m:ae}{n:U}{nm:a9 aP}{ac l u:ab}{t:LT}{ns ks:L U}
noncomputable def vU(H:Hp)(pA:U->ae)(a:ae)(n:U)(d:a9 aP)(e l:ab)(t:LT)(Q:KV):Prop:=∀c b,bp (λz=>z=a) H b->b a=G (cQ n d (J c) e l (J t.a))->b c=G (eg (dQ pA (al t)))->Q ah b
theorem Cf(M:320<=D)(ha:H a=G (cQ n nm (J pl) ac l u))(aN:bD H pl=G (dQ pA ns))(hm:ly H (J m)=G (dQ pA ks))(aw:ns.length<=90)(au:ks.length<=90)
  (hT:fm H t) (I:WF t) (w:(al t).length<=90) (Z:∀k∈al t,k∈ns++ks) (ad:∀n∈ns++ks,dc H (pA n) n) (q:vU H pA a n nm ac l t Q):
  SS c D vq [("self",J a),("layout",J t.a),("more",J m)] H (RK (kr Q)):=by
 refine bV (fD (a4 (.att (.var E) (lQ ha)) (fY (ex (.cons (.var E) .nil) (A9 hm λas a0=>?_)))));have X:=(aW.refl H).alloc a0 (o:=ak (dQ pA ks));refine sc (X.list aN) (bH (aF _ _ _)) (by rw [Cd,Cd];exact ar (nr aw au) (aS E)) λN aZ=>?_
 have s:=X.alloc aZ (o:=ak (dQ pA ns++dQ pA ks));have i:((H.set as (ak (dQ pA ks))).set N (ak (dQ pA ns++dQ pA ks))) N=G (ak (dQ pA (ns++ks))):=(aF _ _ _).trans (aA (λl=>G (ak l)) c0.symm);revert s i;generalize (H.set as (ak (dQ pA ks))).set N (ak (dQ pA ns++dQ pA ks))=W;intro s i;have S:=s.keep ha E;refine c7 (.var E) (.var E) (Op S E ?_);have r:bp (λz=>z=a) H (W.set a (cQ n nm (J pl) ac l (J t.a))):=(bp.of_ext s).trans (.set S E E);have R:=aF W a (cQ n nm (J pl) ac l (J t.a));have F:=jG (o:=cQ n nm (J pl) ac l (J t.a)) i S;revert r R F;generalize W.set a (cQ n nm (J pl) ac l (J t.a))=V;intro r R F;refine lD (pG (a7 (.cons (.var E) .nil) (oa (ar (go (mf 2 (ar I.ht w)) 2) (ap M E)) (hT.extX r).at I (it▸ar w (aS E)) λd3 aU=>?_)));have y:=(aW.refl V).alloc aU (o:=ak (iL (al t)));have h:=r.ext y;have P:=y.keep R E;have C:=y.keep F E;have v:=bH (aF V d3 (ak (iL (al t))));revert h P C v;generalize V.set d3 (ak (iL (al t)))=p;intro h P C v;refine kj (g:=λk:U=>aa k 0) (f:=λk=>J (pA k)) (dm v) v (ar w (aS E)) (λk hk a1 us hd=> .of λa2 i=>?_) λb ao=>?_
 ·have e:=(aW.refl p).alloc hd (o:=ak us)
  refine a7 (.cons (.var E) (.cons (.var aY) .nil)) (sy (ns:=ns++ks) (ap M E) (e.list (bH C)) (λn K=>e.pane (h.pane (ad n K))) ?_);rw [aJ (Z k hk)];exact i
 ·have e:=(aW.refl p).alloc ao (o:=ak (dQ pA (al t)))
  have B:=aF p b (ak (dQ pA (al t)));have fr:=h.dom ao;have d:=h.ext e;have j:=e.keep P E;show EE c D _ _ (p.set b (ak (dQ pA (al t)))) _;revert d j B;generalize p.set b _=T;intro B d j;refine a4 (.var E) (Oo j E ?_);have d:bp (λz=>z=a) H (T.set a (cQ n nm (J b) ac l (J t.a))):=d.trans (.set j E E);have x:=aF T a (cQ n nm (J b) ac l (J t.a));have Y:(T.set a (cQ n nm (J b) ac l (J t.a))) b=G (ak (dQ pA (al t))):=jG B j;refine c7 .cst (.var E) (vT x E (aS E) E ?_);refine dN (eR (.var E) (dv x E E) .nil (Ce (ap M E) x (hT.extX d) I w (bH Y) (λn K=>d.pane (ad n (Z n K))) λH6 A=>a5 ?_));exact⟨f7 H H6,p5 _ _,q b _ (d.ext A).frz (sg (A.keep x E)) (vF fr (A.keep Y E))⟩
theorem Cg(b:330<=D)(p:H a=G (cQ n nm (J pl) ac l u))(j:bD H pl=G (dQ pA ns))(o:ly H (J m)=G (dQ pA ks))(e:ns.length<=90)(d:ks.length<=90)
  (r:fm H t) (g:WF t) (f:(al t).length<=90) (h:∀k∈al t,k∈ns++ks) (i:∀n∈ns++ks,dc H (pA n) n) (q:vU H pA a n nm ac l t Q):CL c D 535 [J a,J t.a,J m] H Q:=
 (Ms (ap b E) (Cf (eM b E) p j o e d r g f h i q)).upR
theorem Ch(b:330<=D)(m:H a=G (cQ n nm (J pl) ac l u))(i:bD H pl=G (dQ pA ns))(j:H 529=G (bm []))(d:ns.length<=90)
  (o:fm H t) (f:WF t) (e:(al t).length<=90) (g:∀k∈al t,k∈ns) (h:∀n∈ns,dc H (pA n) n) (q:vU H pA a n nm ac l t Q):CL c D 535 [J a,J t.a] H Q:=
 (Mt (ap b E) (Cf (ks:=[]) (eM b E) m i (uJ j) d (eh _) o f e (by rw [hL];exact g) (by rw [hL];exact h) q)).upR
end
structure WM where
 n:U
 act:U
 last:aj U
 t:LT
noncomputable def jN(pA:U->ae):aj U->ab
 |some k=>J (pA k)
 |none=>ah
structure hB(w:WM):Prop where
 wf:WF w.t
 nd:(al w.t).Nodup
 sz:(al w.t).length<=60
 ac:w.act∈al w.t
 la:∀l,w.last=G l->l∈al w.t
theorem hB.z90{w:WM}(h:hB w):(al w.t).length<=90:=ar h.sz (aS E)
noncomputable def Ot(H:Hp)(pA:U->ae)(a:ae)(w:WM)(b:ae)(c:a9 aP):Prop:=H a=G (cQ w.n c (J b) (J (pA w.act)) (jN pA w.last) (J w.t.a))/\H b=G (eg (dQ pA (al w.t)))
structure bP(H:Hp)(pA:U->ae)(a:ae)(w:WM):Prop where
 o:∃b c,Ot H pA a w b c
 tr:fm H w.t
 pn:∀n∈al w.t,dc H (pA n) n
 fit:hB w
section
variable{X:ae->Prop}{H H1:Hp}{pA:U->ae}{a:ae}{w:WM}
theorem bP.extX(h:bP H pA a w)(x:bp X H H1)(e:¬X a):bP H1 pA a w:=⟨let ⟨b,c,g,f⟩:=h.o;⟨b,c,x.keep e g E,x.ro f E⟩,h.tr.extX x,λn d=>x.pane (h.pn n d),h.fit⟩
theorem bP.ext(h:bP H pA a w)(x:aW H H1):bP H1 pA a w:=h.extX (X:=λ_=>d8) (.of_ext x) id
theorem bP.inst(h:bP H pA a w):fy H a=true:=let ⟨_,_,e,_⟩:=h.o;kn e
theorem hB.same{a:LT}(h:hB w)(b:WF a)(p:(al a).Perm (al w.t)):hB ⟨w.n,w.act,w.last,a⟩:=⟨b,p.nodup_iff.mpr h.nd,ar (cR p.length_eq) h.sz,p.mem_iff.mpr h.ac,λl e=>p.mem_iff.mpr (h.la l e)⟩
theorem hB.add{a:LT}{f:U}(h:hB w)(b:WF a)(p:(al a).Perm (f::al w.t))(d:f∉al w.t)(c:(al w.t).length+1<=60):hB ⟨w.n,w.act,w.last,a⟩:=⟨b,p.nodup_iff.mpr (cS.mpr ⟨d,h.nd⟩),ar (cR p.length_eq) c,p.mem_iff.mpr (bM _ h.ac),λl e=>p.mem_iff.mpr (bM _ (h.la l e))⟩
end
section
variable{c:Cx}{D:ag}{H:Hp}{Q:KV}{pA:U->ae}{a:ae}{w:WM}{k i f:U}{b:aK}
theorem oi(e:4<=D)(d:bP H pA a w)(b:dc H (pA k) k)(q:Q (az (decide (k∈al w.t))) H):CL c D 542 [J a,J (pA k)] H Q:=by
 obtain ⟨i,j,g,f⟩:=d.o;refine Mv (ap e E) (b5 (gY (a7 (.cons (.att (.var E) (lQ g)) (.cons (.att (.var E) b.att) .nil)) (sy (eM e E) (g4 f) d.pn (g0 (a4 (.var E) (g1 (k:=decide (k∈al w.t)) ?_ q)))))))
 by_cases h:k∈al w.t
 ·rw [aJ h,cN h];exact(h6 b.inst b.inst).trans (aA G (cN E))
 ·rw [aG h,e7 h];rfl
theorem Ou(p:10<=D)(b:bP H pA a w)(i:k∈al w.t)(q:∀w' j,bp (λz=>z=a) H j->bP j pA a w'->w'.t=w.t->w'.n=w.n->Q (az true) j):CL c D 549 [J a,J (pA k)] H Q:=by
 have m:=b.pn k i;obtain ⟨g,h,d,v⟩:=b.o;refine Mx (ap p E) (dt (h3 (ke (.var E) (dv d E E) (.cons (.var E) .nil) (oi (eM p E) b m ?_))));rw [cN i];refine gu (is (d5 (a5 (bb (eO (.cmp (.var E) (.att (.var E) (oe d)) (n9 m.inst (b.pn _ b.fit.ac).inst)) (λ_=>?_) λ_=>?_)))))
 ·refine c7 (.att (.var E) (oe d)) (.var E) (sx d E (c7 (.var E) (.var E) (sw (aF _ _ _) E ?_)))
  rw [lA];have r:=aF H a (cQ w.n h (J g) (J (pA k)) (J (pA w.act)) (J w.t.a));have f:bp (λz=>z=a) H (H.set a (cQ w.n h (J g) (J (pA k)) (J (pA w.act)) (J w.t.a))):= .set d E E;exact b7 (.att (.var E) (du r E E)) (a5 (bb (bR .cst (q ⟨w.n,k,G w.act,w.t⟩ _ f ⟨⟨g,h,r,f.ro v E⟩,b.tr.extX f,λs u=>f.pane (b.pn s u),b.fit.wf,b.fit.nd,b.fit.sz,i,λl e=>bc e▸b.fit.ac⟩ E E))))
 ·exact a5 (bb (bR .cst (q w H (.refl H) b E E)))
theorem Ci{vs:L ab}(h:H a=G (ak vs)):ly H (J a)=G vs:=uJ h
theorem Cj{e:LT}{d:ae}{K:KF}{ρ:ao}{x y:am}{r:L MS}(A:348<=D)(i:bP H pA a w)(Z:dc H (pA f) f)(Y:f∉al w.t)(W:(al w.t).length+1<=60)(s:fm H e)(p:WF e)(g:(al e).Perm (f::al w.t))(X:H d=G (ak [J (pA f)]))
  (Q:ρ.lookup x=G (J a)) (P:ρ.lookup "is_active"=G (az true)) (N:ρ.lookup y=G (J (pA f))) (q:∀m w',bp (λz=>z=a) H m->bP m pA a w'->w'.n=w.n->(al w'.t).Perm (f::al w.t)->SS c D r ρ m K):
  CL c D 535 [J a,J e.a,J d] H (kX c D (aQ (O "is_active") [cG (cC (O x) "select" [O y])] []::r) ρ K):=by
 obtain ⟨pl,S,e1,e2⟩:=i.o;have F:=i.fit.add p g Y W;have v:∀k,k∈al e->k∈al w.t++[f]:=λk h=>(bQ.mp (g.mem_iff.mp h)).elim (λac=>cO _ (de.mpr ac)) (cX _);have u:∀b∈al w.t++[f],dc H (pA b) b:=λb l=>(dG.mp l).elim (i.pn b) λh=>de.mp h▸Z;refine Cg (ks:=[f]) (ap A E) e1 (g4 e2) (Ci X) i.fit.z90 (aS E) s p F.z90 v u λR H3 j B V=>?_;have K3:bP H3 pA a ⟨w.n,w.act,w.last,e⟩:=⟨⟨R,S,B,V⟩,s.extX j,λb l=>j.pane (u b (v b l)),F⟩;exact cZ (.var P) (dN (eR (.var Q) (dv B E E) (.cons (.var N) .nil) (Ou (ap A E) K3 (g.mem_iff.mpr bn) λI H4 C K4 M T=>a5 (bb (q H4 I (j.trans C) K4 T (by rw [M];exact g))))))
theorem Ov(q:350<=D)(h:bP H pA a w)(M:dc H (pA i) i)(k:dc H (pA f) f)(N:f∉al w.t)(K:(al w.t).length+1<=60)
  (C:∀e,aW H e->Q (az false) e) (B:∀e w',bp (λz=>z=a) H e->bP e pA a w'->w'.n=w.n->(al w'.t).Perm (f::al w.t)->Q (az true) e):CL c D 586 [J a,J (pA i),J (pA f),az b] H Q:=by
 have p:348<=D-2:=cj q;obtain ⟨T,V,r,W⟩:=h.o;refine Mz (ap q E) (bV (a7 (.cons (.att (.var E) (i6 r)) (.cons (.att (.var E) M.att) (.cons (.att (.var E) k.att) (.cons (.var E) (.cons (.var E) (.cons (.var E) .nil)))))) (B6 (ap p E) h.tr.at h.fit.wf h.fit.z90 (λj x=>?_) λS j x g A v=>?_)))
 ·exact cZ (.cmp (.var E) .cst E) (bR .cst (bX (C _ x)))
 refine b7 (.cmp (.var E) .cst E) (dN (pF (.var E) (dv (x.keep r E) E E) (bs (.var E) (bN (ed (.cons (.var E) .nil) (aS E) λd m=>bU ?_)))));have y:=x.alloc m (o:=ak [J (pA f)]);have l:=aF j d (ak [J (pA f)]);have g:=g.ext ((aW.refl j).alloc m (o:=ak [J (pA f)]));revert y l g;generalize j.set d _=X;intro y l g;exact Cj p (h.ext y) (y.pane k) N K g A v l E E E λR u s P I F=>bR .cst (B R u ((bp.of_ext y).trans s) P I F)
end
theorem WF.lone{t:LT}(h:WF t):t.k="pane" <->(al t).length=1:=by
 rw [it];constructor
 ·exact λe=>by rw [n5 h e];rfl
 ·intro e
  refine Sw λa=>?_;have w:=(h.here.in a).2.2;rw [jJ a,<-vz]at e;exact bW (ar w (i3.ht h.kids).1) (by rw [e];decide)
theorem Ow{pA:U->ae}{ns:L U}{i:ag}(h:i<ns.length):∃k∈ns,fx (dQ pA ns) (i:U)=G (J (pA k)):=⟨ns[i],ED h,n_ (by unfold dQ;rw [f_,iD h];rfl)⟩
theorem Ck{k:U}:∀{l:L U},k∈l->∃i:ag,i<l.length/\l[i]? =G k/\∀j,j<i->l[j]?≠G k
 |y::l,h=>by
  by_cases e:y=k
  ·exact⟨0,gE _,aA G e,λj a=>bW a (ag.not_lt_zero j)⟩
  ·obtain ⟨i,d,c,b⟩:=Ck ((bQ.mp h).resolve_left (Ne.symm e))
   refine⟨i+1,oW d,c,λj a=>?_⟩;cases j with
   |zero=>exact λz=>e (bc z)
   |succ j=>exact b j (ag.lt_of_succ_lt_succ a)
section
variable{c:Cx}{D:ag}{H:Hp}{Q:KV}{pA:U->ae}{a:ae}{w:WM}{k:U}
structure lR(H:Hp)(pA:U->ae)(a d:ae)(e:a9 aP)(w:WM)(g:U)(f:aj U)(c:LT)(b:Hp):Prop where
 x:bp (λz=>z=a) H b
 o:b a=G (cQ w.n e (J d) (J (pA g)) (jN pA f) (J c.a))
 l:b d=G (eg (dQ pA (al c)))
theorem lR.win{e:ae}{f:a9 aP}{d:U}{c:aj U}{b:LT}{g:Hp}(I:lR H pA a e f w d c b g)(h:fm H b)(j:∀n∈al w.t,dc H (pA n) n)(F:hB ⟨w.n,d,c,b⟩)(i:∀n∈al b,n∈al w.t):bP g pA a ⟨w.n,d,c,b⟩:=⟨⟨e,f,I.o,I.l⟩,h.extX I.x,λn k=>I.x.pane (j n (i n k)),F⟩
theorem lR.set{c:ae}{d:a9 aP}{h:U}{g:aj U}{b:LT}{f:Hp}(I:lR H pA a c d w h g b f)(e:U)(last':aj U):lR H pA a c d w e last' b (f.set a (cQ w.n d (J c) (J (pA e)) (jN pA last') (J b.a))):=
 have y:=bp.set (X:=λz=>z=a) (o':=cQ w.n d (J c) (J (pA e)) (jN pA last') (J b.a)) I.o E E
 ⟨I.x.trans y,aF _ _ _,y.ro I.l E⟩
theorem vV{B:ae}{C:a9 aP}{f:aj U}{b:LT}{s:Hp}{m:ag}{ρ:ao}(I:lR H pA a B C w w.act f b s)(y:fm H b)(M:WF b)(p:(al w.t).Perm (k::al b))(i:bP H pA a w)(r:∀l,f=G l->l∈al b)(ap:m<(al w.t).length)(h1:(al w.t).length≠1)
  (g:ρ.lookup "self"=G (J a)) (N:ρ.lookup "pane"=G (J (pA k))) (P:ρ.lookup "at"=G (aa (m:ag) 0)) (q:∀u w',bp (λz=>z=a) H u->bP u pA a w'->w'.n=w.n->(al w.t).Perm (k::al w'.t)->Q (az true) u):SS c D (Bi.drop 5) ρ s (RK Q):=by
 have R:=cS.mp (p.nodup_iff.mp i.fit.nd);have T:(al w.t).length=(al b).length+1:=p.length_eq;have S:∀j,j∈al w.t->j≠k->j∈al b:=λj h e=>(bQ.mp (p.mem_iff.mp h)).resolve_left e;have A:∀j,j∈al b->j∈al w.t:=λj h=>p.mem_iff.mpr (bM _ h);have F:∀d f,d∈al b->(∀l,f=G l->l∈al b)->hB ⟨w.n,d,f,b⟩:=λd f ha r=>⟨M,R.2,ar (nl (cR T.symm)) i.fit.sz,ha,r⟩;have V:=p.mem_iff.mpr bn;refine eO (.cmp (.att (.var g) (oe I.o)) (.var N) (h6 (I.x.pane (i.pn _ i.fit.ac)).inst (I.x.pane (i.pn _ V)).inst)) (λ_=>?_) λh=>?_
 ·have v:∀d,d∈al b->SS c D [aD (bG (O "self") "last") (ai ah)] ρ (s.set a (cQ w.n C (J B) (J (pA d)) (jN pA f) (J b.a))) (NX c D [aH (ai (az true))] (RK Q)):=λd Z=>by
   have K:=(I.set d f).set d af;refine c7 .cst (.var g) (sx (aF _ _ _) E (a5 (bb (bR .cst (q _ ⟨w.n,d,af,b⟩ K.x (K.win y i.pn (F d af Z λ_ e=>nomatch e) A) E p)))))
  cases f with
  |none=>
   have W:m-1<(al b).length:=by omega
   obtain ⟨j,X,Y⟩:=Ow (pA:=pA) W;refine c7 (.ite_t (.cmp (.att (.var g) (og I.o)) .cst E) (.idx (.att (.var g) (lQ I.o)) (.max (.cons .cst (.cons (.bin (.var P) .cst E) .nil))) (Eq.trans ?_ Y))) (.var g) (sw I.o E (v j X));rw [show(if((m:ag):U)-1>0 then((m:ag):U)-1 else 0)=((m-1:ag):U)from by omega]
   exact NH I.l
  |some l=>exact c7 (.ite_f (.cmp (.att (.var g) (og I.o)) .cst E) (.att (.var g) (og I.o))) (.var g) (sw I.o E (v l (r l E)))
 ·have ad:w.act∈al b:=S _ i.fit.ac λz=>tI h (by rw [z])
  exact a5 (bb (bR .cst (q s ⟨w.n,w.act,f,b⟩ I.x (I.win y i.pn (F _ _ ad r) A) E p)))
theorem sA(V:350<=D)(i:bP H pA a w)(r:k∈al w.t)(h0:H 529=G (bm []))(q0:∀b,aW H b->(al w.t).length=1->Q (az false) b)
  (q1:∀b w',bp (λz=>z=a) H b->(al w.t).length≠1->bP b pA a w'->w'.n=w.n->(al w.t).Perm (k::al w'.t)->Q (az true) b):CL c D 593 [J a,J (pA k)] H Q:=by
 have C:348<=D-2:=cj V;obtain ⟨pl,nm,K,e2⟩:=i.o;have P:=i.pn k r;have f:=i.fit;refine MA (ap V E) (bV (pE (ke (.var E) (dv K E E) (.cons (.var E) .nil) (oi (ap C E) i P ?_))));rw [cN r];refine gu (rL (a7 (.cons (.att (.var E) (i6 K)) (.cons (.att (.var E) P.att) .nil)) (Oc (ap C E) i.tr.at f.wf f.z90 (λM m h=>?_) λ_ q M m g s t3=>?_)))
 ·exact cZ (.cmp (.var E) .cst E) (bR .cst (bX (q0 _ m (h.elim (bW r) f.wf.lone.mp))))
 have p:(al w.t).Perm (k::al q):=(L.perm_cons_erase r).trans (t3.symm.cons k);have S:(al w.t).length=(al q).length+1:=p.length_eq;have F:(al w.t).length≠1:=λz=>by have y:=ar (cR (pW q).symm) s.ht;rw [S]at z;exact bW (ar (gQ 1 _) y) (by rw [qL z];decide)
 have as:∀j,j∈al w.t->j≠k->j∈al q:=λj h e=>(bQ.mp (p.mem_iff.mp h)).resolve_left e;have ac:∀j,j∈al q->j∈al w.t:=λj h=>p.mem_iff.mpr (bM _ h);refine b7 (.cmp (.var E) .cst E) (bV (AN (a7 (.cons (.att (.var E) (i6 (m.keep K E))) .nil) (oa (ar (go (mf 2 (ar f.wf.ht f.z90)) 2) (ap C E)) (i.tr.ext m).at f.wf (it▸ar f.z90 (aS E)) λd T=>?_))));have y:=m.alloc T (o:=ak (iL (al w.t)));have g:=g.ext ((aW.refl M).alloc T (o:=ak (iL (al w.t))));have B:=aF M d (ak (iL (al w.t)));revert y g B;generalize M.set d _=Y;intro y g B;obtain ⟨i0,R,au,im⟩:=Ck r;have W:=y.keep K E;refine⟨jH B,bs (.att (.var E) (y.pane P).att) (bU (KZ B au im (dN (eR (.var E) (dv W E E) (.cons (.var E) .nil) (Ch (ns:=al w.t) (ap C E) W (g4 (y.keep e2 E)) (y.keep h0 E) f.z90 g s (ar (nl (cR S.symm)) f.z90) ac (λao hn=>y.pane (i.pn ao hn)) λad H3 Z X l3=>?_)))))⟩;have I:lR Y pA a ad nm w w.act w.last q H3:=⟨Z,X,l3⟩;have u:=i.ext y;have N:∀b w',bp (λz=>z=a) Y b->bP b pA a w'->w'.n=w.n->(al w.t).Perm (k::al w'.t)->Q (az true) b:=λb w' m=>q1 b w' ((bp.of_ext y).trans m) F;have A:=og X;cases v:w.last with
 |none=>rw [v]at A I;exact b7 (.cmp (.att (.var E) A) (.var E) E) (vV I g s p u (λ_ e=>nomatch e) R F E E E N)
 |some l=>
  rw [v]at A I;refine eO (.cmp (.att (.var E) A) (.var E) (h6 (I.x.pane (u.pn l (f.la l v))).inst (I.x.pane (u.pn k r)).inst)) (λ_=>?_) λh=>?_
  ·exact c7 .cst (.var E) (sx I.o E (a5 (bb (vV (I.set w.act af) g s p u (λ_ e=>nomatch e) R F E E E N))))
  ·have aw:l∈al q:=as l (f.la l v) λz=>tI h (by rw [z])
   exact a5 (bb (vV I g s p u (λl' e=>bc e▸aw) R F E E E N))
end
theorem Ox{H c:Hp}{a:ae}{vs:L ab}(b:c a=G (eg vs)):f7 H c a=G (eg vs):=by
 unfold f7;cases H a with
 |none=>simp only [b]
 |some _=>exact b
theorem Oy{H b:Hp}{t:LT}(h:fm b t):fm (f7 H b) t:=λq a=>⟨let ⟨w,g,u,v,e⟩:=(h q a).1;⟨w,g,u,v,sg e⟩,Ox (h q a).2⟩
section
variable{c:Cx}{D:ag}{H:Hp}{Q:KV}{pA:U->ae}{a:ae}{w:WM}{i j k n:U}{nm:a9 aP}
theorem Oz(y:350<=D)(b:bP H pA a w)(g:i∈al w.t)(e:j∈al w.t)(M:H 529=G (bm []))(q:∀h w',bp (λz=>z=a) H h->bP h pA a w'->w'.n=w.n->(al w'.t).Perm (al w.t)->Q (az true) h):CL c D 621 [J a,J (pA i),J (pA j)] H Q:=by have v:348<=D-2:=cj y;obtain ⟨S,nm,B,N⟩:=b.o;have f:=b.fit;refine MC (ap y E) (bV (a7 (.cons (.att (.var E) (i6 B)) (.cons (.att (.var E) (b.pn i g).att) (.cons (.att (.var E) (b.pn j e).att) .nil))) (Ok (ap v E) b.tr.at f.wf f.z90 g e λu T x s r C=>?_)));have p:(al u).Perm (al w.t):=C▸Oj f.nd g e;have A:=x.keep B E;refine cZ (.cmp (.var E) .cst E) (dN (eR (.var E) (dv A E E) (.cons (.var E) .nil) (Ch (ns:=al w.t) (ap v E) A (g4 (x.keep N E)) (x.keep M E) f.z90 s r (ar (cR p.length_eq) f.z90) (λk K=>p.mem_iff.mp K) (λn d=>x.pane (b.pn n d)) λF R m P I=>?_)));have l:=(bp.of_ext (X:=λz=>z=a) x).trans m;exact a5 (bb (bR (.cmp (.var E) .cst E) (q R ⟨w.n,w.act,w.last,u⟩ l ⟨⟨F,nm,P,I⟩,s.extX m,λn d=>l.pane (b.pn n (p.mem_iff.mp d)),f.same r p⟩ E p)))
theorem Cm(e:2<=D)(d:bP H pA a w)(q:Q ah H):CL c D 658 [J a] H Q:=by obtain ⟨f,nm,b,g⟩:=d.o;exact MF e (c7 .cst (.var E) (vT b E (aS E) E (c7 .cst (.var E) (vT b E (aS E) E (a5 q)))))
theorem vW{W Z:ag}(C:350<=D)(B:dc H (pA k) k)(q:∀a P w',H a=af->aW H P->bP P pA a w'->w'.n=n->al w'.t=[k]->Q (J a) P):CL c D 661 [aa n 0,aq nm 0,J (pA k),aa W 0,aa Z 0] H Q:=by
 refine(pU (i:=505) E (ap C E) λa u=>Ml (cj (ap C E:3<=D)) ?_).upR;have T:340<=D-1-2:=cj (cj (ap C E:343<=D));refine c7 (.var E) (.var E) (hy E (aS E) E (c7 (.var E) (.var E) (hy E (aS E) E ?_)));have p:=(aW.refl H).alloc u (o:=bZ 661 [("number",aa n 0),("name",aq nm 0)]);have K:=aF H a (bZ 661 [("number",aa n 0),("name",aq nm 0)]);show SS c _ _ _ (H.set a (bZ 661 [("number",aa n 0),("name",aq nm 0)])) _;revert p K;generalize H.set a (bZ 661 [("number",aa n 0),("name",aq nm 0)])=V;intro p K;refine lD (ed (.cons (.var E) .nil) (aS E) λd A=>a4 (.var E) ?_);have x:=p.alloc A (o:=ak [J (pA k)]);have v:=bK (o:=ak [J (pA k)]) A K;have z:=aF V d (ak [J (pA k)]);have ac:=p.dom A;revert x v z;generalize V.set d _=N;intro x v z;refine e9 v E (aS E) E (c7 (.var E) (.var E) (hy E (aS E) E (c7 .cst (.var E) (hy E (aS E) E ?_))));have l:=x.fresh u (o:=bZ 661 [("number",aa n 0),("name",aq nm 0),("panes",J d),("active",J (pA k)),("last",ah)]);have I:=aF N a (bZ 661 [("number",aa n 0),("name",aq nm 0),("panes",J d),("active",J (pA k)),("last",ah)]);have y:=jG (o:=bZ 661 [("number",aa n 0),("name",aq nm 0),("panes",J d),("active",J (pA k)),("last",ah)]) z v;show SS c _ _ _ (N.set a (bZ 661 [("number",aa n 0),("name",aq nm 0),("panes",J d),("active",J (pA k)),("last",ah)])) _;revert l I y;generalize N.set a _=H3;intro l I y;refine lD (a7 (.cons (.att (.var E) (l.pane B).att) (.cons (.var E) (.cons (.var E) .nil))) (Ol (ap T E) λb M w X S e=>a4 (.var E) ?_));have F:=w.keep I E;refine e9 F E (aS E) E (c7 .cst (.var E) (hy E (aS E) E (c7 .cst (.var E) (hy E (aS E) E (c7 .cst (.var E) (hy E (aS E) E (c7 .cst (.var E) (hy E (aS E) E ?_))))))));have j:=(l.trans w).fresh u (o:=cQ n nm (J d) (J (pA k)) ah (J b.a));have g:=aF M a (cQ n nm (J d) (J (pA k)) ah (J b.a));have s:=jG (o:=cQ n nm (J d) (J (pA k)) ah (J b.a)) (w.keep y E) F;have r:=NJ (o':=cQ n nm (J d) (J (pA k)) ah (J b.a)) F E X;show SS c _ _ _ (M.set a (cQ n nm (J d) (J (pA k)) ah (J b.a))) _;revert j g s r;generalize M.set a _=H5;intro j g s r;have Y:∀m∈al b,dc H5 (pA m) m:=λm f=>by rw [e]at f;exact de.mp f▸j.pane B
 refine dN (eR (.var E) (dv g E E) .nil (Ce (pA:=pA) (ap T E) g r S (by rw [e];exact aS E) (by rw [e];exact bH s) Y λH6 h=>a5 ⟨E,?_⟩))
 have R:=(j.trans h).frz;refine⟨f7 H H6,p5 _ _,q a _ ⟨n,k,af,b⟩ u R ⟨⟨d,nm,sg (h.keep g E),?_⟩,Oy (r.ext h),λm f=>?_,⟨S,?_,?_,?_,λao ad=>nomatch ad⟩⟩ E e⟩
 ·show _=G (eg (dQ pA (al b)));rw [e];exact vF ac (h.keep s E)
 ·rw [show al (⟨n,k,af,b⟩:WM).t=[k]from e]at f;exact de.mp f▸R.pane B
 ·show(al b).Nodup;rw [e];exact cS.mpr ⟨gc,oU⟩
 ·show(al b).length<=60;rw [e];exact aS E
 ·show k∈al b;rw [e];exact bn
theorem OA(e:2<=D)(b:bP H pA a w)(q:∀n:ag,Q (aa n 0) H):CL c D 512 [J a] H Q:=by obtain ⟨g,nm,f,h⟩:=b.o;obtain ⟨n,_,_,_,d⟩:=b.tr.here.1;exact Mn e (bR (.att (.att (.var E) (i6 f)) (n7 d)) (q n))
theorem OC(e:2<=D)(b:bP H pA a w)(q:∀n:ag,Q (aa n 0) H):CL c D 520 [J a] H Q:=by obtain ⟨g,nm,f,h⟩:=b.o;obtain ⟨_,n,_,_,d⟩:=b.tr.here.1;exact Mp e (bR (.att (.att (.var E) (i6 f)) (n8 d)) (q n))
theorem OD(m:360<=D)(e:bP H pA a w)(l:k∈al w.t)(y:H 529=G (bm []))(q:∀b,aW H b->(al w.t).length=1->Q ah b)
  (p:∀b f w' d,bp (λz=>z=a) H b->(al w.t).length≠1->H f=af->bP b pA a w'->w'.n=w.n->(al w.t).Perm (k::al w'.t)->bP b pA f d->d.n=n->al d.t=[k]->Q (J f) b):CL c D 672 [J a,J (pA k),aa n 0,aq nm 0] H Q:=by
 have g:358<=D-2:=cj m;obtain ⟨N,P,i,S⟩:=e.o;refine MH (ap m E) (f2 (bN (u9 (.var E) (BA i E) (OA (ap g E) e λM=>⟨E,bN (u9 (.var E) (BA i E) (OC (ap g E) e λR=>⟨E,bU (f3 (aS E) E ?_)⟩))⟩))));refine dt (h3 (ke (.var E) (dv i E E) (.cons (.var E) .nil) (sA (ap g E) e l y (λK x h=>gu (is (gI (bR .cst (bX (q _ x h)))))) λK w' x v u s r=>gu (is (d5 (a5 (bb ?_)))))));exact b5 (a7 (.cons (.var E) (.cons (.var E) (.cons (.var E) (.cons (.var E) (.cons (.var E) .nil))))) (vW (pA:=pA) (ap g E) (x.pane (e.pn k l)) λf I d F j C B A=>p I f w' d (x.ext j) v (x.dom F) (u.ext j) s r C B A))
end
section
variable{c:Cx}{D:ag}{H:Hp}{Q:KV}{pA:U->ae}{a a1 a2:ae}{w w1 w2:WM}{i j:U}{b:aK}
theorem OE(N:370<=D)(p:bP H pA a1 w1)(a:bP H pA a2 w2)(u:a1≠a2)(B:i∈al w1.t)(A:j∈al w2.t)(M:i∉al w2.t)(hz:(al w2.t).length+1<=60)(h0:H 529=G (bm []))(hl:(al w1.t).length≠1)(Z:∀e,aW H e->Q (az false) e)
  (Y:∀e g w,bp (λz=>z=a1\/z=a2) H e->bP e pA a1 g->bP e pA a2 w->g.n=w1.n->w.n=w2.n->(al w1.t).Perm (i::al g.t)->(al w.t).Perm (i::al w2.t)->Q (az true) e):CL c D 680 [J a1,J (pA i),J a2,J (pA j),az b] H Q:=by
 have m:368<=D-2:=cj N;obtain ⟨au,aU,R,p1⟩:=p.o;obtain ⟨as,aN,P,p2⟩:=a.o;have k:=p.pn i B;have s:=a.pn j A;have ac:pA i≠pA j:=λz=>M (On k (z▸s)▸A);refine MJ (ap N E) (dt (hw (h3 (ke (.var E) (dv R E E) (.cons (.var E) .nil) (oi (ap m E) p k ?_)))));rw [cN B];refine gu (is (ir (hw (h3 (ke (.var E) (dv P E E) (.cons (.var E) .nil) (oi (ap m E) a s ?_))))));rw [cN A];refine gu (is (ir (dM (.or_f (.eq (.cmp (.var E) (.var E) (h6 k.inst s.inst)) (e7 ac)) .or_n) (d5 (a5 (bb ?_))))));refine d4 (.att (.var E) (i6 P)) (b7 (.eq (.cmp (.var E) (.var E) (h6 p.inst a.inst)) (e7 u)) (bV (a7 (.cons (.var E) (.cons (.att (.var E) s.att) (.cons (.att (.var E) k.att) (.cons (.var E) (.cons (.var E) (.cons (.var E) .nil)))))) (B6 (ap m E) a.tr.at a.fit.wf a.fit.z90 (λH1 x=>cZ (.cmp (.var E) .cst E) (bR .cst (bX (Z _ x)))) λt' H1 x h W V=>?_))));have K:=p.ext x;have I:=a.ext x;refine b7 (.cmp (.var E) .cst E) (cZ (.eq (.cmp (.var E) (.var E) (n9 K.inst I.inst)) (by rw [e7 u];rfl)) (dN (eR (.var E) (dv (x.keep R E) E E) (.cons (.var E) .nil) (sA (ap m E) K B (x.keep h0 E) (λ_ _ ad=>bW ad hl) λC g v _ q g2 g3=>?_))))
 have S:=(bp.of_ext (X:=λz=>z=a1) x).trans v;have f:=I.extX v (λz=>u z.symm);obtain ⟨ao,aw,e3,p3⟩:=f.o;refine a5 (bb (dN (pF (.var E) (dv e3 E E) (bs (.var E) (bN (ed (.cons (.var E) .nil) (aS E) λd hd=>bU ?_))))));have y:=(aW.refl C).alloc hd (o:=ak [J (pA i)]);have l:=aF C d (ak [J (pA i)]);have f:=f.ext y;have q:=q.ext y;have h:=(h.extX v).ext y;have r:=S.ext y;revert y l f q h r;generalize C.set d _=H3;intro y l f q h r;exact Cj (ap m E) f (r.pane k) M hz h W V l E E E λH4 T F K4 ne p4=>bR .cst (Y H4 g T ((r.more λ_=>bt).trans (F.more λ_=>bF)) (q.extX F u) K4 g2 ne g3 p4)
theorem OF{l:L U}(b:l.Nodup)(f:i∈l)(d:j∉l):(i::l.map λn=>if n=i then j else n).Perm (j::l)/\(l.map λn=>if n=i then j else n).Nodup:=by
 have c:l.Perm (i::l.erase i):=L.perm_cons_erase f;have e:(l.erase i).map (λn=>if n=i then j else n)=l.erase i:=(jq λn h=>aG ((b.mem_erase_iff).mp h).1).trans (D_ _)
 have a:(l.map λn=>if n=i then j else n).Perm (j::l.erase i):=(c.map _).trans (by rw [e6,aJ E,e])
 exact⟨(a.cons i).trans ((Eu j i _).trans (c.symm.cons j)),a.nodup_iff.mpr (cS.mpr ⟨λh=>d (L.mem_of_mem_erase h),b.erase i⟩)⟩
theorem OG{i:Hp}{A:U}{r:aj U}{N d:ae}{P:a9 aP}{ns:L U}{ρ:ao}{K:KF}(S:370<=D)(f:bP i pA a w)(x:bp (λz=>z=a) i H)(o:H a=G (cQ w.n P (J N) (J (pA A)) (jN pA r) (J w.t.a)))(p:H N=G (eg (dQ pA (al w.t))))(l:H d=G (ak (iL ns)))
  (as:∀e,WF e->al e=ns->hB ⟨w.n,A,r,e⟩) (hl:(al w.t).length=ns.length) (Q:∀n∈ns,n∈al w.t++[j]) (Z:dc i (pA j) j)
  (I:ρ.lookup "window"=G (J a)) (X:ρ.lookup "fresh"=G (J (pA j))) (W:ρ.lookup "numbers"=G (J d)) (q:∀C w',bp (λz=>z=a) i C->bP C pA a w'->w'.n=w.n->al w'.t=ns->K .next ρ C):
  SS c D [cG (cC (O "window") "lay" [(aB 19 210 [(av (O "window") "layout"),(O "numbers")]),(c8 [(O "fresh")])])] ρ H K:=by
 refine dN (pF (.var I) (dv o E E) (bN (a7 (.cons (.att (.var I) (i6 o)) (.cons (.var W) .nil)) (Cc (ap S E) (f.tr.extX x).at f.fit.wf f.fit.z90 (bH l) hl λe B V b F g=>bN (ed (.cons (.var X) .nil) (aS E) λv R=>bU ?_)))));have y:=V.alloc R (o:=ak [J (pA j)]);have s:ly (B.set v (ak [J (pA j)])) (J v)=G (dQ pA [j]):=Ci (aF _ _ _);have b:=b.ext ((aW.refl B).alloc R (o:=ak [J (pA j)]));revert y s b;generalize B.set v _=H5;intro y s b;have k:=x.ext y;have M:∀n∈al w.t++[j],dc H5 (pA n) n:=λn u=>(dG.mp u).elim (λh=>k.pane (f.pn n h)) λh=>de.mp h▸k.pane Z;have T:=as e F g;refine Cg (ks:=[j]) (ap S E) (y.keep o E) (g4 (y.keep p E)) s f.fit.z90 (aS E) b F T.z90 (λac hk=>Q ac (g▸hk)) M λY H6 m ad l6=>a5 (q H6 ⟨w.n,A,r,e⟩ (k.trans m) ⟨⟨Y,P,ad,l6⟩,b.extX m,λn u=>m.pane (M n (Q n (g▸u))),T⟩ E g)
theorem Cn{ρ:ao}{K:KF}(hD:370<=D)(u:bP H pA a w)(F:i∈al w.t)(ba:j∉al w.t)(pj:dc H (pA j) j)
  (r1:ρ.lookup "window"=G (J a)) (r2:ρ.lookup "gone"=G (J (pA i))) (r3:ρ.lookup "fresh"=G (J (pA j)))
  (q:∀a3 Q w',bp (λz=>z=a) H Q->bP Q pA a w'->w'.n=w.n->(i::al w'.t).Perm (j::al w.t)->K .next a3 Q):
  SS c D [ih "numbers" (cg (ax bB (O "number") (av (O "gone") "number")) (av (O "fresh") "number") (O "number")) "number" (aB 5 113 [(av (O "window") "layout")]) [] ["fresh","gone"],aQ (ax b0 (av (O "window") "active") (O "gone")) [aD (bG (O "window") "active") (O "fresh")] [],aQ (ax b0 (av (O "window") "last") (O "gone")) [aD (bG (O "window") "last") (O "fresh")] [],cG (cC (O "window") "lay" [(aB 19 210 [(av (O "window") "layout"),(O "numbers")]),(c8 [(O "fresh")])])] ρ H K:=by
 obtain ⟨pl,nm,e1,p1⟩:=u.o;have f:=u.fit;have EP:=OF f.nd F ba;refine kh (a7 (.cons (.att (.var r1) (i6 e1)) .nil) (oa (ar (go (mf 2 (ar f.wf.ht f.z90)) 2) (ap hD E)) u.tr.at f.wf (it▸ar f.z90 (aS E)) λas hd=>?_));have R:aW H (H.set as (ak (iL (al w.t)))):=(aW.refl H).alloc hd;have Y:bD (H.set as (ak (iL (al w.t)))) as=G (iL (al w.t)):=bH (aF _ _ _);revert R Y;generalize H.set as _=H1;intro R Y;refine kj (g:=λk:U=>aa k 0) (f:=λk=>aa (if k=i then j else k) 0) (dm Y) Y (ar f.z90 (aS E)) (λm hm d3 us bd=>?_) λp be=>?_
 ·have y:=R.alloc bd (o:=ak us)
  have a2:=PT.cmp (c:=c) (D:=D) (op:=bB) (ρ:=aZ "number" (aa m 0) (ρ.filter λq=>["fresh","gone"].contains q.1)) (.var aY) (.att (.var ((bf (by decide)).trans ((oh ["fresh","gone"] "gone" E ρ).trans r2))) (y.pane (u.pn i F)).att) (fl (H1.set d3 (ak us)) m i 0 0)
  by_cases h:m=i
  ·rw [aJ h]
   exact .ite_t (a2.eq (c4.mpr h)) (.att (.var ((bf (by decide)).trans ((oh ["fresh","gone"] "fresh" E ρ).trans r3))) (y.pane pj).att)
  ·rw [aG h]
   exact .ite_f (a2.eq (dB.mpr h)) (.var aY)
 have e:(al w.t).map (λk=>aa (if k=i then j else k) 0)=iL ((al w.t).map λb=>if b=i then j else b):=by unfold iL;rw [dC];rfl
 have Z:(al w.t).length=((al w.t).map λb=>if b=i then j else b).length:=(bJ _).symm
 have aw:∀b∈(al w.t).map (λb=>if b=i then j else b),b∈al w.t++[j]:=λb C=>by
  obtain ⟨m,hm,rfl⟩:=cA.mp C
  by_cases h:m=i
  ·rw [aJ h];exact cO _ bn
  ·rw [aG h];exact cX _ hm
 have T:∀b,b∈al w.t->b≠i->b∈(al w.t).map λb=>if b=i then j else b:=λb C a_=>cA.mpr ⟨b,C,aG a_⟩
 have V:j∈(al w.t).map λb=>if b=i then j else b:=cA.mpr ⟨i,F,aJ E⟩
 rw [e];revert EP Z aw T V;generalize (al w.t).map (λb=>if b=i then j else b)=s
 intro EP Z aw T V;have B:=R.alloc be (o:=ak (iL s));have W:=aF H1 p (ak (iL s));show SS c D _ (aZ "numbers" (J p) ρ) (H1.set p (ak (iL s))) K;revert B W;generalize H1.set p (ak (iL s))=H2;intro B W;have M:=B.keep e1 E;have nu:(aZ "numbers" (J p) ρ).lookup "numbers"=G (J p):=aY;have A:=(bf (y:="numbers") (v:=J p) (by decide)).trans r1
 have P:=(bf (y:="numbers") (v:=J p) (by decide)).trans r2
 have N:=(bf (y:="numbers") (v:=J p) (by decide)).trans r3
 revert nu A P N;generalize aZ "numbers" (J p) ρ=au;intro nu A P N
 have st:∀r aN d,d a=G (cQ w.n nm (J pl) (J (pA r)) (jN pA aN) (J w.t.a))->bp (λz=>z=a) H2 d->d p=G (ak (iL s))->r∈s->(∀l,aN=G l->l∈s)->
   SS c D [cG (cC (O "window") "lay" [(aB 19 210 [(av (O "window") "layout"),(O "numbers")]),(c8 [(O "fresh")])])] au d K:=λr aN d o x l I hl=>
  have aU:=(bp.of_ext (X:=λz=>z=a) B).trans x
  OG hD u aU o (aU.ro p1 E) l (λS a4 e=>⟨a4,by show(al S).Nodup;rw [e];exact EP.2,by show(al S).length<=60;rw [e,<-Z];exact f.sz,by show r∈al S;rw [e];exact I,λl z=>by show l∈al S;rw [e];exact hl l z⟩) Z aw pj A N nu λQ w' x' K' ne e=>q au Q w' x' K' ne (by rw [e];exact EP.1)
 have a1:∀r d,d a=G (cQ w.n nm (J pl) (J (pA r)) (jN pA w.last) (J w.t.a))->bp (λz=>z=a) H2 d->d p=G (ak (iL s))->r∈s->SS c D [aQ (ax b0 (av (O "window") "last") (O "gone")) [aD (bG (O "window") "last") (O "fresh")] [],cG (cC (O "window") "lay" [(aB 19 210 [(av (O "window") "layout"),(O "numbers")]),(c8 [(O "fresh")])])] au d K:=λr d o x l I=>by
  cases ad:w.last with
  |none=>rw [ad]at o;exact b7 (.cmp (.att (.var A) (og o)) (.var P) E) (st r af d o x l I λ_ z=>nomatch z)
  |some k=>
   rw [ad]at o;have a0:=λb C=>x.pane (B.pane (u.pn b C));refine eO (.cmp (.att (.var A) (og o)) (.var P) (h6 (a0 k (f.la k ad)).inst (a0 i F).inst)) (λ_=>?_) λh=>?_
   ·exact c7 (.var N) (.var A) (sx o E (a5 (bb (st r (G j) _ (aF _ _ _) (x.trans (.set o E E)) (jG l o) I λ_ z=>bc z▸V))))
   ·exact a5 (bb (st r (G k) d o x l I λ_ z=>bc z▸T k (f.la k ad) λz=>tI h (by rw [z])))
 refine eO (.cmp (.att (.var A) (oe M)) (.var P) (h6 (B.pane (u.pn _ f.ac)).inst (B.pane (u.pn i F)).inst)) (λ_=>?_) λh=>?_
 ·exact c7 (.var N) (.var A) (sw M E (a5 (bb (a1 j _ (aF _ _ _) (.set M E E) (jG W M) V))))
 ·exact a5 (bb (a1 w.act H2 M (.refl _) W (T _ f.ac λz=>tI h (by rw [z]))))
theorem OH{ts:L MT}{b:L MS}{ρ:ao}{K:KF}{a:Hp->Prop}(k:K .next ρ H):fZ c D ts b a K [] ρ H:=by unfold fZ;exact k
theorem Co{ts:L MT}{b:L MS}{ρ:ao}{K:KF}{a:Hp->Prop}{v:L ab}{r:L (L ab)}(g:v.length=ts.length)(k:∀f:KF,(∀e d,a d->fZ c D ts b a K r e d->f .next e d)->AL c D ts v ρ H (kP c D b f)):fZ c D ts b a K (v::r) ρ H:=by
 unfold fZ AL kP SS at*
 exact⟨g,k _ λ_ _ i h=>⟨i,h⟩⟩
theorem OI(Y:380<=D)(l:bP H pA a1 w1)(m:bP H pA a2 w2)(w:i∈al w1.t)(v:j∈al w2.t)(h0:H 529=G (bm []))(ha:a1=a2->w1=w2)(X:a1≠a2->∀k∈al w1.t,k∉al w2.t)
  (q1:∀d w',a1=a2->bp (λz=>z=a1) H d->bP d pA a1 w'->w'.n=w1.n->(al w'.t).Perm (al w1.t)->Q (az true) d)
  (q2:∀d u s,a1≠a2->bp (λz=>z=a1\/z=a2) H d->bP d pA a1 u->bP d pA a2 s->u.n=w1.n->s.n=w2.n->(i::al u.t).Perm (j::al w1.t)->(j::al s.t).Perm (i::al w2.t)->Q (az true) d):
  CL c D 685 [J a1,J (pA i),J a2,J (pA j)] H Q:=by
 have x:378<=D-2:=cj Y;obtain ⟨aw,aU,Z,p1⟩:=l.o;obtain ⟨au,aN,e2,p2⟩:=m.o;have V:=l.pn i w;have T:=m.pn j v;refine ML (ap Y E) (dt (hw (h3 (ke (.var E) (dv Z E E) (.cons (.var E) .nil) (oi (ap x E) l V ?_)))));rw [cN w];refine gu (is (ir (hw (h3 (ke (.var E) (dv e2 E E) (.cons (.var E) .nil) (oi (ap x E) m T ?_))))));rw [cN v];refine gu (is (ir (dM .or_n (d5 (a5 (bb ?_))))))
 by_cases h:a1=a2
 ·refine cZ (.eq (.cmp (.var E) (.var E) (h6 l.inst m.inst)) (cN h)) (b5 (eR (.var E) (dv Z E E) (.cons (.var E) (.cons (.var E) .nil)) (Oz (ap x E) l w (ha h▸v) h0 λH1 w' ac R P N=>bX (q1 H1 w' h ac R P N))))
 refine b7 (.eq (.cmp (.var E) (.var E) (h6 l.inst m.inst)) (e7 h)) (KS (mG (bN (fL (.cons (.var E) (.cons (.var E) (.cons (.var E) .nil))) (aS E) λa ad=>bN (fL (.cons (.var E) (.cons (.var E) (.cons (.var E) .nil))) (aS E) λb W=>bU ⟨aS E,λp M=>?_⟩)))));have C:=bK (o:=bm [J a,J b]) M (bK (o:=bm [J a2,J (pA j),J (pA i)]) W (aF H a (bm [J a1,J (pA i),J (pA j)])));have B:=bK (o:=bm [J a,J b]) M (aF (H.set a (bm [J a1,J (pA i),J (pA j)])) b (bm [J a2,J (pA j),J (pA i)]));have A:=aF ((H.set a (bm [J a1,J (pA i),J (pA j)])).set b (bm [J a2,J (pA j),J (pA i)])) p (bm [J a,J b]);have f:aW H (((H.set a (bm [J a1,J (pA i),J (pA j)])).set b (bm [J a2,J (pA j),J (pA i)])).set p (bm [J a,J b])):=(((aW.refl H).alloc ad).alloc W).alloc M;revert C B A f;show _->_->_->_->vm c (D-2) _ _ _ _ _ (J p) (((H.set a (bm [J a1,J (pA i),J (pA j)])).set b (bm [J a2,J (pA j),J (pA i)])).set p (bm [J a,J b]));generalize ((H.set a _).set b _).set p _=H3;intro C B A f;have F:∀S,(∀z K,H3 z=G K->K.rw=false->S z=G K)->nR p [J a,J b] [[J a1,J (pA i),J (pA j)],[J a2,J (pA j),J (pA i)]] S:=λS I=>⟨I _ _ A E,Af (I _ _ C E) (Af (I _ _ B E) E)⟩;have g:=F H3 λ_ _ e _=>e;refine KU g.1 g.2 (Co E λK2 k2=>dO (dO (dO (f1 (Cn (ap x E) (l.ext f) w (λz=>X h j z v) (f.pane T) E E E λas G1 u q R P N=>k2 _ _ (F G1 λ_ _ e r=>q.ro e r) (Co E λK3 k3=>dO (dO (dO (f1 ?_)))))))));refine Cn (ap x E) ((m.ext f).extX q λz=>h z.symm) v (λz=>X h i w z) (q.pane (f.pane V)) ((bf (by decide)).trans ((bf (by decide)).trans aY)) ((bf (by decide)).trans aY) aY λao G2 s y g4 g5 g6=>k3 _ _ (F G2 λ_ _ e r=>y.ro (q.ro e r) r) (OH (bb (bR .cst (q2 G2 u s h (((bp.of_ext f).trans (q.more λ_=>bt)).trans (y.more λ_=>bF)) (R.extX y h) g4 P g5 N g6))))
end
noncomputable def c2(n:U)(b:a9 aP)(a:ae)(l c:ab):MO:=bZ 790 [("number",aa n 0),("name",aq b 0),("windows",J a),("group",ah),("options",ah),("last",l),("current",c)]
section
variable{H:Hp}{a wd:ae}{n:U}{nm:a9 aP}{l cu v:ab}{Q:Hp->Prop}
theorem vX(h:H a=G (c2 n nm wd l cu)):ew H (J a) "number"=G (aa n 0):=du h E E
theorem e4(h:H a=G (c2 n nm wd l cu)):ew H (J a) "windows"=G (J wd):=du h E E
theorem lS(h:H a=G (c2 n nm wd l cu)):ew H (J a) "last"=G l:=du h E E
theorem gy(h:H a=G (c2 n nm wd l cu)):ew H (J a) "current"=G cu:=du h E E
theorem sB(h:H a=G (c2 n nm wd l cu))(b:dJ v=true)(q:Q (H.set a (c2 n nm wd v cu))):SA (J a) "last" v H Q:=e9 h E (aS E) b q
theorem sC(h:H a=G (c2 n nm wd l cu))(b:dJ v=true)(q:Q (H.set a (c2 n nm wd l v))):SA (J a) "current" v H Q:=e9 h E (aS E) b q
end
noncomputable def dU(a:U->ae)(row:L (U×U)):L (U×ab):=row.map λp=>(p.1,J (a p.2))
noncomputable def lk(row:L (U×U))(k:U):aj U:=(row.find? λp=>decide (p.1=k)).map (·.2)
noncomputable def aU(row:L (U×U)):L U:=row.map (·.1)
theorem Cq{f:U->ab}(k:U)(row:L (U×U)):e1 (row.map λp=>(p.1,f p.2)) k=(lk row k).map f:=by unfold e1 lk;rw [td,mg,mg];rfl
theorem sD(a:U->ae)(k:U)(row):e1 (dU a row) k=(lk row k).map λj=>J (a j):=Cq (f:=λj=>J (a j)) k row
theorem mT(i j:U)(r:L (U×U))(k:U):lk ((i,j)::r) k=if i=k then G j else lk r k:=by
 unfold lk;rw [iF]
 by_cases h:i=k
 ·rw [cN h,aJ h];rfl
 ·rw [e7 h,aG h]
theorem lT(k:U):∀row:L (U×U),(lk row k).isSome=(aU row).contains k
 |[]=>E
 |(i,j)::r=>by
  rw [mT,aU,e6,L.contains_cons]
  by_cases h:i=k
  ·rw [aJ h,c4.mpr h.symm];rfl
  ·rw [aG h,dB.mpr (Ne.symm h),aK.false_or];exact lT k r
theorem gi{row:L (U×U)}{k j:U}(h:lk row k=G j):(k,j)∈row:=by obtain ⟨p,a,e⟩:=gm.mp h;have b:p.1=k:=gO (L.find?_some (p:=λp:U×U=>decide (p.1=k)) a);rw [<-b,<-e];exact L.mem_of_find?_eq_some a
theorem iv{row:L (U×U)}{k:U}(h:k∈aU row):∃j,lk row k=G j:=jj.mp ((lT k row).trans (dE.mpr h))
section
variable{H:Hp}{wd r e:ae}{wA:U->ae}{row:L (U×U)}{k j:U}{ks:L U}{kvs:L (U×ab)}
theorem Cr(h:H wd=G (aO kvs))(k:U):q8 H (aa k 0) (J wd)=G (e1 kvs k).isSome:=aA (j7 · wd (aa k 0)) h
theorem qf(h:H wd=G (aO (dU wA row)))(k:U):cJ H dF (aa k 0) (J wd)=G ((aU row).contains k):=(Cr h k).trans (aA G (by rw [sD,Ed,lT]))
theorem vY(h:H wd=G (aO (dU wA row)))(k:U):cJ H jn (aa k 0) (J wd)=G (!(aU row).contains k):=aA (kL λx=>!x) (qf h k)
theorem OJ(h:H wd=G (aO kvs)):cJ H dF ah (J wd)=G false:=aA (j7 · wd .none) h
theorem oj(h:H wd=G (aO kvs))(k:U):c6 H (J wd) (aa k 0)=e1 kvs k:=aA (lj · k) h
theorem lU(h:H wd=G (aO (dU wA row)))(a:lk row k=G j):c6 H (J wd) (aa k 0)=G (J (wA j)):=(oj h k).trans (by rw [sD,a];rfl)
theorem ol{vs:L ab}(h:bD H r=G vs):im H r=G (false,vs):=by unfold im;rcases rW h with q|q<;>simp only [q]
theorem qg(h:bD H r=G (iL ks))(a:H e=G (ak [])):cJ H bB (J r) (J e)=G (ks.isEmpty):=by rw [mS];rw [pe (ol h) (ol (bH a))];cases ks<;>rfl
theorem vZ(h:bD H r=G (iL ks))(a:H e=G (ak [])):cJ H eY (J r) (J e)=G (!ks.isEmpty):=(vS ..).trans ((aJ (show gs (J r)=gs (J e)from E)).trans (aA (kL λx=>!x) (qg h a)))
theorem v8(a:U->ae)(row:L (U×U)):(dU a row).map (·.1)=aU row:=dC
theorem sE(a:U->ae)(row:L (U×U)):(dU a row).length=row.length:=bJ _
theorem kw(row:L (U×U)):(aU row).length=row.length:=bJ _
theorem eA:k∈ba ks<->k∈ks:=(mB ks).mem_iff
theorem gL(ks:L U):(ba ks).length=ks.length:=(mB ks).length_eq
end
noncomputable def v9(H:Hp)(pA a:U->ae)(row:L (U×U)):Prop:=∀p∈row,∃w,bP H pA (a p.2) w
structure eB(H:Hp)(pA c:U->ae)(a b:ae)(n:U)(d:a9 aP)(e f:aj U)(row:L (U×U)):Prop where
 o:H a=G (c2 n d b (pv e) (pv f))
 w:H b=G (aO (dU c row))
 ok:v9 H pA c row
section
variable{X:ae->Prop}{c:Cx}{D:ag}{H H1:Hp}{Q:KV}{pA wA:U->ae}{a b wd:ae}{n:U}{nm:a9 aP}{dg eQ:aj U}{row:L (U×U)}{l cu:ab}
theorem v9.extX(h:v9 H pA wA row)(x:bp X H H1)(b:∀p∈row,¬X (wA p.2)):v9 H1 pA wA row:=λp a=>let ⟨w,h⟩:=h p a;⟨w,h.extX x (b p a)⟩
theorem OK{w:WM}(h:H a=G (c2 n nm wd l cu))(g:bP H pA b w):b≠a:=λe=>by obtain ⟨_,_,c,_⟩:=g.o;rw [e,h]at c;exact bW (MO.inst.inj (bc c)).1 (by decide)
theorem sF{kvs:L (U×ab)}(h:H a=G (c2 n nm wd l cu))(g:H b=G (aO kvs)):b≠a:=λe=>by rw [e,h]at g;cases g
theorem eB.ext(S:eB H pA wA a wd n nm dg eQ row)(x:aW H H1):eB H1 pA wA a wd n nm dg eQ row:=⟨x.keep S.o E,x.keep S.w E,S.ok.extX (X:=λ_=>d8) (.of_ext x) λ_ _=>id⟩
theorem eB.to(S:eB H pA wA a wd n nm dg eQ row){last' cur':aj U}(x:bp (λz=>z=a) H H1)(e:H1 a=G (c2 n nm wd (pv last') (pv cur'))):eB H1 pA wA a wd n nm last' cur' row:=⟨e,x.keep (sF S.o S.w) S.w E,S.ok.extX x λp b=>let ⟨_,g⟩:=S.ok p b;OK S.o g⟩
theorem eB.set(S:eB H pA wA a wd n nm dg eQ row)(last' cur':aj U):eB (H.set a (c2 n nm wd (pv last') (pv cur'))) pA wA a wd n nm last' cur' row:=S.to (.set S.o E E) (aF _ _ _)
theorem eB.x(S:eB H pA wA a wd n nm dg eQ row)(last' cur':aj U):bp (λz=>z=a) H (H.set a (c2 n nm wd (pv last') (pv cur'))):= .set S.o E E
theorem eB.at(S:eB H pA wA a wd n nm dg eQ row){k:U}(f:k∈aU row):∃j w e p g l t,c6 H (J wd) (aa k 0)=G (J (wA j))/\bP H pA (wA j) w/\H (wA j)=G (cQ w.n e p g l t):=by obtain ⟨j,c⟩:=iv f;obtain ⟨w,b⟩:=S.ok _ (gi c);obtain ⟨_,_,d,_⟩:=b.o;exact⟨j,w,_,_,_,_,_,lU S.w c,b,d⟩
theorem v_(f:2<=D)(h:H a=G (c2 n nm wd l cu))(e:H wd=G (aO (dU wA row)))(b:row.length<64)(q:∀d,H d=af->Q (J d) (H.set d (ak (iL (ba (aU row)))))):CL c D 707 [J a] H Q:=MQ f (b5 (ex (.cons (.att (.var E) (e4 h)) .nil) (h4 e (by rw [sE];exact b) (by rw [v8];exact q))))
noncomputable def sG(H:Hp)(a d:ae)(n:U)(e:a9 aP)(row:L (U×U))(Q:Hp->Prop):Prop:=∀b f c,bp (λz=>z=a) H b->c∈aU row->b a=G (c2 n e d (pv f) (pv (G c)))->Q b
theorem Cs{k:U}{ρ:ao}(s:4<=D)(S:eB H1 pA wA a wd n nm dg af row)(x:bp (λz=>z=a) H H1)(r:∀l,dg=G l->l∈aU row)(e:k∈aU row)(b:ρ.lookup "self"=G (J a)) (m:ρ.lookup "choice"=G (aa k 0)) (q:sG H a wd n nm row (Q ah)):
  SS c D [aD (bG (O "self") "current") (cg (ax b0 (av (O "self") "last") (ai ah)) (O "choice") (av (O "self") "last")),cG (cC (aL (av (O "self") "windows") (av (O "self") "current")) "seen" [])] ρ H1 (NX c D [aD (bG (O "self") "last") (ai ah)] (RK Q)):=by
 have g:∀k∈aU row,SS c D [cG (cC (aL (av (O "self") "windows") (av (O "self") "current")) "seen" [])] ρ (H1.set a (c2 n nm wd (pv dg) (pv (G k)))) (NX c D [aD (bG (O "self") "last") (ai ah)] (RK Q)):=λk e=>by have d:=S.set dg (G k);have f:=x.trans (S.x dg (G k));revert d f;generalize H1.set a _=t;intro d f;obtain ⟨j,w,_,_,_,_,_,p,h,i⟩:=d.at e;exact dN (eR (.idx (.att (.var b) (e4 d.o)) (.att (.var b) (gy d.o)) p) (dv i E E) .nil (Cm (ap s E) h (a5 (bb (c7 .cst (.var b) (sB d.o E (a5 (q _ af k (f.trans (d.x af (G k))) e (aF _ _ _)))))))))
 cases dg with
 |none=>exact c7 (.ite_t (.cmp (.att (.var b) (lS S.o)) .cst E) (.var m)) (.var b) (sC S.o E (g k e))
 |some l=>exact c7 (.ite_f (.cmp (.att (.var b) (lS S.o)) .cst E) (.att (.var b) (lS S.o))) (.var b) (sC S.o E (g l (r l E)))
theorem OL{l:L U}(h:l≠ []):∃k∈l,fx (iL l) (-1)=G (aa k 0):=by
 refine⟨l.getLast h,L.getLast_mem h,?_⟩
 conv=>lhs;rw [<-L.dropLast_concat_getLast h]
 unfold iL;rw [c0];exact p3 _ [] _
theorem OM{d:ae}{g:U}(N:4<=D)(S:eB H1 pA wA a wd n nm dg eQ row)(x:bp (λz=>z=a) H H1)(V:H1 d=G (ak (iL (ba (aU row)))))(Y:row.length<64)(Z:row≠ [])(I:∀l,dg=G l->l∈aU row)(q:sG H a wd n nm row (Q ah)):
  SS c D (pP.drop 3) [("self",J a),("gone",aa g 0),("row",J d)] H1 (RK Q):=by
 refine c7 .cst (.var E) (sC S.o E ?_);have C:=S.set dg af;have x:=x.trans (S.x dg af);have i:(H1.set a (c2 n nm wd (pv dg) ah)) d=G (ak (iL (ba (aU row)))):=jG V S.o;show SS c D _ _ (H1.set a (c2 n nm wd (pv dg) ah)) _;revert C x i;show(eB (H1.set a (c2 n nm wd (pv dg) ah)) pA wA a wd n nm dg af row)->bp _ H (H1.set a (c2 n nm wd (pv dg) ah))->_->_;generalize H1.set a (c2 n nm wd (pv dg) ah)=R;intro C x i;have F:ba (aU row)≠ []:=λal=>Z (xB ((kw row).symm.trans ((gL (aU row)).symm.trans (by rw [al];rfl))))
 have X:(ba (aU row)).isEmpty=false:=by cases ad:ba (aU row)with|nil=>exact bW ad F|cons=>rfl
 refine dt (ec (a4 (.var E) (en (ed .nil (eh _) λd4 M=>ep (vZ (bH (bK M i)) (aF _ _ _)) ?_))));rw [X];have r:=(aW.refl R).alloc M (o:=ak []);have B:=C.ext r;have x:=x.ext r;have b:=r.keep i E;revert B x b;generalize R.set d4 (ak [])=m;intro B x b;refine gI (kh (a4 (.var E) (pQ (g:=λk:U=>aa k 0) (f:=λk=>aa k 0) (λk=>decide (k>g)) (dm (bH b)) (bH b) (by rw [gL,kw];exact ar (hO Y) (aS E)) (λk _ d T _=> .cmp (.var aY) (.var E) E) (λk _ _ d T _=> .var aY) λy ac=>?_)))
 have p:=(aW.refl m).alloc ac (o:=ak (iL ((ba (aU row)).filter λk=>decide (k>g))));have A:=B.ext p;have x:=x.ext p;have v:=p.keep b E;have h:=aF m y (ak (iL ((ba (aU row)).filter λk=>decide (k>g))));show SS c D _ _ (m.set y (ak (iL ((ba (aU row)).filter λk=>decide (k>g))))) _;have s:∀k,k∈(ba (aU row)).filter (λk=>decide (k>g))->k∈aU row:=λk w=>eA.mp (ie.mp w).1;revert A x v h s;generalize m.set y _=P;generalize (ba (aU row)).filter (λk=>decide (k>g))=ao;intro A x v h s;refine bV (pE (ec (a4 (.var E) (en (ed .nil (eh _) λd6 K=>ep (vZ (bH (bK K h)) (aF _ _ _)) ?_)))));have e:=(aW.refl P).alloc K (o:=ak []);have j:=A.ext e;have x:=x.ext e;have u:=e.keep v E;have t:=e.keep h E;revert j x u t;generalize P.set d6 (ak [])=H6;intro j x u t;cases ao with
 |nil=>obtain ⟨k,w,W⟩:=OL F;exact u5 (a4 (.idx (.var E) (.neg .cst) ((e3 u).trans W)) (Cs N j x I (eA.mp w) E aY q))
 |cons k ap=>exact rL (a4 (.idx (.var E) .cst ((e3 t).trans (mO _ _))) (Cs N j x I (s k bn) E aY q))
theorem wb(m:6<=D)(S:eB H1 pA wA a wd n nm dg eQ row)(x:bp (λz=>z=a) H H1)(i:row.length<64)(r:row≠ [])(s:∀l,dg=G l->l∈aU row)(q:sG H a wd n nm row (Q ah)):SS c D (pP.drop 1) [("self",J a)] H1 (RK Q):=by
 have p:∀g:U,PV c D [("self",J a)] H1 (cg (ax b0 (av (O "self") "current") (ai ah)) (eP (ai (aa 1 0))) (av (O "self") "current")) (aa g 0)->SS c D (pP.drop 2) [("self",J a)] H1 (RK Q):=λg P=>rS (bs P (bN (eR (.var E) (dv S.o E E) .nil (v_ (ap m E) S.o S.w i λd j=>bU (vk (aS E) E (dO (dO (f1 (OM (ap m E) (S.ext ((aW.refl H1).alloc j)) (x.ext ((aW.refl H1).alloc j)) (aF _ _ _) i r s q)))))))));cases eQ with
 |none=>exact b7 (.cmp (.att (.var E) (gy S.o)) (.att (.var E) (e4 S.o)) (OJ S.w)) (p _ (.ite_t (.cmp (.att (.var E) (gy S.o)) .cst E) (.neg .cst)))
 |some k=>
  refine eO (.cmp (.att (.var E) (gy S.o)) (.att (.var E) (e4 S.o)) (qf S.w k)) (λb=>?_) λ_=>a5 (bb (p k (.ite_f (.cmp (.att (.var E) (gy S.o)) .cst E) (.att (.var E) (gy S.o)))));have b:=dE.mp b;have f:∀{h last'},bp (λz=>z=a) H h->h a=G (c2 n nm wd (pv last') (pv (G k)))->SS c D [.ret0] [("self",J a)] h (NX c D (pP.drop 2) (RK Q)):=λx e=>vg (bX (q _ _ k x b e));cases dg with
  |none=>exact b7 (.cmp (.att (.var E) (lS S.o)) (.att (.var E) (gy S.o)) E) (f x S.o)
  |some l=>exact eO (.cmp (.att (.var E) (lS S.o)) (.att (.var E) (gy S.o)) (fl ..)) (λ_=>c7 .cst (.var E) (sB S.o E (a5 (bb (f (last':=af) (x.trans (S.x af (G k))) (aF _ _ _)))))) λ_=>a5 (bb (f x S.o))
theorem Ct(g:8<=D)(S:eB H pA wA a wd n nm dg eQ row)(b:row.length<64)(d:row≠ [])(q:sG H a wd n nm row (Q ah)):CL c D 764 [J a] H Q:=by
 refine MZ (ap g E) ?_;have f:6<=D-2:=cj g;cases dg with
 |none=>exact b7 (.and_f (.cmp (.att (.var E) (lS S.o)) .cst E)) (wb f S (.refl H) b d (λ_ e=>nomatch e) q)
 |some l=>
  refine eO (.and_t (.cmp (.att (.var E) (lS S.o)) .cst E) (.and_t1 (.cmp (.att (.var E) (lS S.o)) (.att (.var E) (e4 S.o)) (vY S.w l)))) (λ_=>?_) λh=>?_
  ·exact c7 .cst (.var E) (sB S.o E (a5 (bb (wb f (S.set af eQ) (S.x af eQ) b d (λ_ e=>nomatch e) q))))
  ·exact a5 (bb (wb f S (.refl H) b d (λi e=>bc e▸dE.mp ((aK.not_eq_false' ..).mp h)) q))
end
noncomputable def mU(ks:L U)(k r:U):Prop:=k<=r/\r∉ks/\∀x,k<=x->x<r->x∈ks
theorem mU.uniq{ks:L U}{k r s:U}(h:mU ks k r)(g:mU ks k s):r=s:=U.le_antisymm (mh.mp λa=>g.2.1 (h.2.2 s g.1 a)) (mh.mp λb=>h.2.1 (g.2.2 r h.1 b))
theorem we:∀ks:L U,∃M:U,∀y∈ks,y<M
 |[]=>⟨0,λ_ h=>nomatch h⟩
 |k::r=>by obtain ⟨M,h⟩:=we r;exact⟨max M (k+1),λy a=>(bQ.mp a).elim (λe=>by rw [e];exact tq (ii k) (U.le_max_right ..)) λa=>tq (h y a) (U.le_max_left ..)⟩
theorem Cu{M x:U}(h:x<M):(M-(x+1)).toNat<(M-x).toNat:=by omega
theorem sH(r s:L (U×U)):aU (r++s)=aU r++aU s:=c0
theorem Cv(row:L (U×U))(p j:U):p∈aU (row++[(p,j)]):=by rw [sH];exact cO _ bn
theorem Cw{f:U->ab}(p j:U)(row:L (U×U))(h:p∉aU row):em (row.map λq=>(q.1,f q.2)) p (f j)=(row++[(p,j)]).map λq=>(q.1,f q.2):=by
 unfold em;rw [L.any_eq_false.mpr λx b=>by obtain ⟨y,a,rfl⟩:=cA.mp b;exact λz=>h (cA.mpr ⟨y,a,gO z⟩),aG eX,c0]
 rfl
theorem ON(a:U->ae)(p j:U)(row:L (U×U))(h:p∉aU row):em (dU a row) p (J (a j))=dU a (row++[(p,j)]):=Cw (f:=λj=>J (a j)) p j row h
noncomputable def gM(row:L (U×U))(k:U):L (U×U):=row.filter λp=>decide (p.1≠k)
theorem Cy{f:U->ab}(row:L (U×U))(k:U):iW (row.map λp=>(p.1,f p.2)) k=(gM row k).map λp=>(p.1,f p.2):=by unfold iW gM;rw [Er];rfl
theorem OO(a:U->ae)(row:L (U×U))(k:U):iW (dU a row) k=dU a (gM row k):=Cy (f:=λj=>J (a j)) row k
theorem wg{row:L (U×U)}{k:U}{p:U×U}:p∈gM row k<->p∈row/\p.1≠k:=by unfold gM;rw [ie,tB]
theorem OP{row:L (U×U)}{k:U}(f:(aU row).Nodup)(b:2<=row.length):gM row k≠ []:=λe=>by
 have a:∀x∈row,x.1=k:=λx c=>Sw λd=>by have:=wg.mpr ⟨c,d⟩;rw [e]at this;cases this
 match row,b with
 |p::q::r,_=>have h:=a p bn;have g:=a q (bM _ bn);exact(cS.mp f).1 (cA.mpr ⟨q,bn,g.trans h.symm⟩)
section
variable{c:Cx}{D:ag}{H H1:Hp}{Q:KV}{pA wA:U->ae}{a wd:ae}{n i j k p:U}{nm:a9 aP}{dg eQ:aj U}{row:L (U×U)}{w:WM}{b:aK}
theorem Cz(s:12<=D)(S:eB H pA wA a wd n nm dg eQ row)(B:row.length<64)(g:i∈aU row)(q:∀l last',bp (λz=>z=a) H l->l a=G (c2 n nm wd (pv last') (pv (G i)))->Q (az true) l):CL c D 744 [J a,aa i 0] H Q:=by
 have r:10<=D-2:=cj s;have C:row≠ []:=λe=>by rw [e]at g;cases g
 refine MY (ap s E) (b7 (.eq (.cmp (.var E) (.att (.var E) (e4 S.o)) (vY S.w i)) (by rw [dE.mpr g];rfl)) (dN (eR (.var E) (dv S.o E E) .nil (Ct (ap r E) S B C λH1 p b m I F=>?_))))
 have d:=S.to (last':=p) (cur':=G b) m F;have t:∀last' f,bp (λz=>z=a) H1 f->eB f pA wA a wd n nm last' (G i) row->SS c (D-2) [cG (cC (aL (av (O "self") "windows") (O "index")) "seen" []),aH (ai (az true))] [("self",J a),("index",aa i 0)] f (RK Q):=λlast' f u k=>by obtain ⟨j,w,_,_,_,_,_,A,v,y⟩:=k.at g;exact dN (eR (.idx (.att (.var E) (e4 k.o)) (.var E) A) (dv y E E) .nil (Cm (ap r E) v (bR .cst (q f last' (m.trans u) k.o))))
 refine eO (.cmp (.var E) (.att (.var E) (gy d.o)) E) (λ_=>?_) λh=>?_
 ·exact c7 (.att (.var E) (gy d.o)) (.var E) (sB d.o E (c7 (.var E) (.var E) (sC (d.set (G b) (G b)).o E (a5 (bb (t (G b) _ ((d.x (G b) (G b)).trans ((d.set (G b) (G b)).x (G b) (G i))) ((d.set (G b) (G b)).set (G b) (G i))))))))
 ·have e:i=b:=c4.mp ((aK.not_eq_false' ..).mp h)
  exact a5 (bb (t p H1 (.refl _) (e▸d)))
theorem OQ{l F:ab}(C:2<=D)(h:H a=G (c2 n nm wd l F))(A:H wd=G (aO (dU wA row)))(q:∀r,mU (aU row) k r->Q (aa r 0) H):CL c D 729 [J a,aa k 0] H Q:=by
 obtain ⟨M,B⟩:=we (aU row);refine MU C (pJ (rY (λm b t=>t=H/\b.lookup "self"=G (J a)/\∃x:U,b.lookup "least"=G (aa x 0)/\m=(M-x).toNat/\k<=x/\∀y,k<=y->y<x->y∈aU row) (λm b t K I w v=>?_) (n:=(M-k).toNat) ⟨E,E,k,E,E,xI k,λy i g=>bW g (mh.mpr i)⟩));obtain ⟨rfl,j,x,d,rfl,p,o⟩:=I;refine dM (.cmp (.var d) (.att (.var j) (e4 h)) (qf A x)) ?_;cases f:(aU row).contains x with
 |false=>exact v _ (bb (bR (.var d) (q x ⟨p,λz=>(by rw [dE.mpr z]at f;cases f),o⟩)))
 |true=>have s:=dE.mp f;exact w _ λP u N=>pK d .cst E (a5 (u _ _ _ (Cu (B x s)) ⟨E,(bf (by decide)).trans j,x+1,aY,E,jY p (U.le_of_lt (ii x)),λy i g=>(EH (EI g)).elim (o y i) λe=>e▸s⟩))
noncomputable def sI(H:Hp)(e:U->ae)(a c:ae)(n:U)(f:a9 aP)(row:L (U×U))(p j:U)(Q:KV):Prop:=∀b g d,bp (λz=>z=a\/z=c) H b->b c=G (aO (dU e (row++[(p,j)])))->d∈aU (row++[(p,j)])->b a=G (c2 n f c (pv g) (pv (G d)))->Q (aa p 0) b
theorem eB.rows(S:eB H pA wA a wd n nm dg eQ row)(b:L (U×U))(h:∀p∈b,∃w,bP H pA (wA p.2) w):bp (λz=>z=a\/z=wd) H (H.set wd (aO (dU wA b)))/\eB (H.set wd (aO (dU wA b))) pA wA a wd n nm dg eQ b:=
 have x:bp (λz=>z=wd) H (H.set wd (aO (dU wA b))):= .set S.w E E
 ⟨x.more λ_=>bF,(dT _ _ (sF S.o S.w).symm).trans S.o,aF _ _ _,λp d=>let ⟨w,g⟩:=h p d;⟨w,g.extX x λe=>by obtain ⟨_,_,c,_⟩:=g.o;have y:=S.w;rw [<-e,c]at y;cases y⟩⟩
theorem CA{m l:ab}(y:15<=D)(S:eB H pA wA a wd n nm dg eQ row)(r:row.length<60)(s:p∉aU row)(v:bP H pA (wA j) w)(x:∀k,eQ=G k->k∈aU row)(q:sI H wA a wd n nm row p j Q):
  SS c D (vr.drop 1) [("self",J a),("window",J (wA j)),("index",m),("least",l),("is_current",az b),("place",aa p 0)] H (RK Q):=by
 have u:(aU row).contains p=false:=by
  cases e:(aU row).contains p with
  |false=>rfl
  |true=>exact bW (dE.mp e) s
 refine b7 (.eq (.cmp (.var E) (.att (.var E) (e4 S.o)) (qf S.w p)) u) (kg (.var E) (.att (.var E) (e4 S.o)) (.var E) (i2 S.w (by rw [sE];exact ar r (aS E)) ?_))
 rw [ON wA p j row s];obtain ⟨f,d⟩:=S.rows (row++[(p,j)]) λq g=>(dG.mp g).elim (S.ok q) λg=>⟨w,de.mp g▸v⟩;revert f d;generalize H.set wd _=H1;intro f d;have i:SS c D [cG (cC (O "self") "select" [(O "place")])] [("self",J a),("window",J (wA j)),("index",m),("least",l),("is_current",az b),("place",aa p 0)] H1 (NX c D [aH (O "place")] (RK Q)):=dN (eR (.var E) (dv d.o E E) (.cons (.var E) .nil) (Cz (ap y E) d (by rw [b3];exact fo (oW r) (aS E)) (Cv row p j) λA t h z=>a5 (bb (bR (.var E) (q A t p (f.trans (h.more λ_=>bt)) (h.keep (sF d.o d.w) d.w E) (Cv row p j) z)))))
 cases b with
 |true=>exact cZ (.or_t (.var E)) i
 |false=>
  cases eQ with
  |none=>exact cZ (.or_f (.var E) (.or_t (.cmp (.att (.var E) (gy d.o)) .cst E))) i
  |some k=>exact b7 (.or_f (.var E) (.or_f (.cmp (.att (.var E) (gy d.o)) .cst E) .or_n)) (bR (.var E) (q H1 dg k f d.w (by rw [sH];exact cX _ (x k E)) d.o))
theorem OR(d:20<=D)(S:eB H pA wA a wd n nm dg eQ row)(f:row.length<60)(g:bP H pA (wA j) w)(h:∀k,eQ=G k->k∈aU row)(q:∀p,mU (aU row) k p->sI H wA a wd n nm row p j Q):CL c D 737 [J a,J (wA j),ah,aa k 0,az b] H Q:=MV (ap d E) (bV (h2 (.cmp (.var E) .cst E) (eR (.var E) (dv S.o E E) (.cons (.var E) .nil) (OQ (eM d E) S.o S.w λp e=>CA (eM d E) S f e.2.1 g h (q p e)))))
theorem OS(b:20<=D)(S:eB H pA wA a wd n nm dg eQ row)(d:row.length<60)(f:bP H pA (wA j) w)(g:∀k,eQ=G k->k∈aU row)(e:p∉aU row)(q:sI H wA a wd n nm row p j Q):CL c D 737 [J a,J (wA j),aa p 0] H Q:=MW (ap b E) (d4 (.ite_f (.cmp (.var E) .cst E) (.var E)) (CA (eM b E) S d e f g q))
theorem OT(d:30<=D)(S:eB H pA wA a wd n nm dg eQ row)(e:row.length<60)(f:bP H pA (wA j) w)(g:∀k,eQ=G k->k∈aU row)(q:∀p,mU (aU row) k p->sI H wA a wd n nm row p j Q):CL c D 802 [J (wA j),J a,ah,aa k 0,az b] H Q:=M3 (ap d E) (b5 (eR (.var E) (dv S.o E E) (.cons (.var E) (.cons (.var E) (.cons (.var E) (.cons (.var E) .nil)))) (OR (eM d E) S e f g q)))
theorem OU(h:10<=D)(S:eB H pA wA a wd n nm dg eQ row)(k:row.length<60)(p:lk row i=G j)(m:(aU row).Nodup)(s:2<=row.length)
  (q:∀d last' cur',bp (λz=>z=a\/z=wd) H d->d wd=G (aO (dU wA (gM row i)))->cur'∈aU (gM row i)->d a=G (c2 n nm wd (pv last') (pv (G cur')))->Q (J (wA j)) d):CL c D 771 [J a,aa i 0] H Q:=by
 refine M1 (ap h E) (bV (ge (.att (.var E) (e4 S.o)) (pO S.w) (.cons (.var E) (.cons .cst .nil)) (K0 S.w ((sD wA i row).trans (by rw [p];rfl)) ?_)))
 rw [OO];obtain ⟨e,b⟩:=S.rows (gM row i) λq l=>S.ok q (wg.mp l).1;revert e b;generalize H.set wd _=H1;intro e b;exact dN (eR (.var E) (dv b.o E E) .nil (Ct (eM h E) b (fq (qM ..) (fo k (aS E))) (OP m s) λt last' cur' f r g=>bR (.var E) (q t last' cur' (e.trans (f.more λ_=>bt)) (f.keep (sF b.o b.w) b.w E) r g)))
theorem OV(s:10<=D)(q:∀a b h,H a=af->H b=af->a≠b->aW H h->h a=G (c2 k nm b ah ah)->h b=G (aO [])->Q (J a) h):CL c D 790 [aa k 0,aq nm 0] H Q:=by refine pU (i:=700) E (ap s E) λa f=>MN (cj (ap s E:3<=D)) (c7 (.var E) (.var E) (hy E (aS E) E (c7 (.var E) (.var E) (hy E (aS E) E (lD (h2 (.cmp (.var E) .cst E) (nX λb e=>a4 (.var E) ?_)))))));have r:=(aW.refl H).alloc f (o:=bZ 790 [("number",aa k 0),("name",aq nm 0)]);have p:((H.set a (bZ 790 [("number",aa k 0),("name",aq nm 0)])).set b (aO [])) a=G (bZ 790 [("number",aa k 0),("name",aq nm 0)]):=bK (o:=aO []) e (aF ..);have n:a≠b:=f4 e (aF H a _);have u:=r.dom e;have l:=r.alloc e (o:=aO []);have m:=aF (H.set a (bZ 790 [("number",aa k 0),("name",aq nm 0)])) b (aO []);show SA _ _ _ ((H.set a (bZ 790 [("number",aa k 0),("name",aq nm 0)])).set b (aO [])) _;revert l p m;generalize (H.set a (bZ 790 [("number",aa k 0),("name",aq nm 0)])).set b (aO [])=H1;intro p l m;refine e9 p E (aS E) E (c7 (.var E) (.var E) (hy E (aS E) E (c7 .cst (.var E) (hy E (aS E) E (c7 .cst (.var E) (hy E (aS E) E ?_))))));have j:=l.fresh f (o:=bZ 790 [("number",aa k 0),("name",aq nm 0),("windows",J b),("group",ah),("options",ah),("last",ah)]);have g:=aF H1 a (bZ 790 [("number",aa k 0),("name",aq nm 0),("windows",J b),("group",ah),("options",ah),("last",ah)]);have d:=(dT H1 (bZ 790 [("number",aa k 0),("name",aq nm 0),("windows",J b),("group",ah),("options",ah),("last",ah)]) n.symm).trans m;show SS c _ _ _ (H1.set a (bZ 790 [("number",aa k 0),("name",aq nm 0),("windows",J b),("group",ah),("options",ah),("last",ah)])) _;revert j g d;generalize H1.set a _=v;intro j g d;have t:hY v (J b)=G 0:=rm d;exact c7 (.ite_f (.cmp (.len (.att (.var E) (du g E E)) t) .cst E) .cst) (.var E) (e9 g E (aS E) E (a5 ⟨E,q a b _ f u n (j.fresh f) (aF _ _ _) ((dT _ _ n.symm).trans d)⟩))
end
theorem OW{H:Hp}{b:a9 aP}{t:bv}(h:b.size<=bL):hY H (aq b t)=G b.size:=aJ h
theorem OX(H:Hp)(b:a9 aP)(t:bv):fB H (aq b t)=G (mA b,af):=E
noncomputable def CB(m:ag):L U:=if m=0 then []else [48+(m:U)]
noncomputable def gj(n:ag):L U:=CB (n/10)++[48+((n % 10:ag):U)]
noncomputable def cE(n:ag):L aP:=(gj n).map λn=>n.toNat.toUInt8
noncomputable def mV(l:L U):U:=l.foldl (λk x=>10*k+x-48) 0
theorem OY(l:L U)(x:U):mV (l++[x])=10*mV l+x-48:=by unfold mV;rw [EA];rfl
theorem OZ:(et 100).all (λn=>(gj n).all (λx=>decide (48<=x)&&decide (x<=57))&&(gj n).length.ble 2&&(cE n).all (λx=>m8 48 x.toNat&&x.toNat.ble 57)&&(cE n).map (λx=>(x.toNat:Int))==gj n&&mV (gj n)==n)=true:=by decide+kernel
structure om(n:ag):Prop where
 l:∀x∈gj n,48<=x/\x<=57
 z:(gj n).length<=2
 u:∀x∈cE n,48<=x.toNat/\x.toNat<=57
 o:(cE n).map (λx=>(x.toNat:Int))=gj n
 v:mV (gj n)=n
theorem on{n:ag}(h:n<100):om n:=by have:=fe.mp OZ n (ji.mpr h);simp only [fg,fe,c4,tB]at this;exact⟨this.1.1.1.1,aS this.1.1.1.2,λx a=>⟨aS (this.1.1.2 x a).1,aS (this.1.1.2 x a).2⟩,this.1.2,this.2⟩
theorem fG{n:ag}(h:n<100):(cE n).length<=2:=ar (cR (bJ _)) (on h).z
theorem O0(n:ag):1<=(cE n).length:=by unfold cE gj;rw [bJ,b3];exact gQ ..
theorem O1{n:ag}(h:n<100):mA (cE n).toArray=iL (gj n):=by rw [<-(on h).o];unfold mA iL;rw [dC];rfl
section
variable{c:Cx}{D:ag}{H:Hp}{Q:KV}{n:ag}{ρ:ao}{a b d e:ME}{u v w:ab}{k k2:aK}
theorem PT.or2(p:PT c D ρ H a k)(r:PT c D ρ H b k2):PT c D ρ H (d0 [a,b]) (k||k2):=by
 cases k with
 |true=>exact .or_t p
 |false=>
  refine .or_f p ?_;cases k2 with
  |true=>exact .or_t r
  |false=>exact .or_f r .or_n
theorem sJ(M:2<=D)(s:n<100)(q:Q (aq (cE n).toArray 0) H):CL c D 61 [aa (n:U) 0] H Q:=by
 have k:=on s;refine(K5 M (d4 (.ite_t (.cmp (.var E) .cst E) (.var E)) (bV (ed (.cons (.bin .cst (.bin (.var E) .cst E) E) .nil) (aS E) λd u=>d4 (.bin (.var E) .cst E) ?_)))).up;show SS c _ _ [("number",_),("rest",aa ((n:U).fdiv (10:ag)) 0),("found",J d)] (H.set d (ak (iL [48+(n:U).fmod (10:ag)]))) _;rw [<-U.ofNat_fdiv,<-U.ofNat_fmod];refine pJ (rY (n:=n/10) (λm ρ h=>ρ.lookup "number"=G (aa n 0)/\ρ.lookup "found"=G (J d)/\ρ.lookup "rest"=G (aa m 0)/\m<10/\eS H h/\∃f,h d=G (ak (iL f))/\CB m++f.reverse=gj n) (λm ρ h K I C k2=>?_) ⟨E,E,E,ag.div_lt_of_lt_mul s,(eS.refl H).alloc u,_,aF _ _ _,E⟩);obtain ⟨p,j,i,t,x,f,o,e⟩:=I;have P:=PT.cmp (c:=c) (D:=D-2) (H:=h) (op:= .Gt) (.var i) (.cst (v:=aa 0 0)) E;cases m with
 |zero=>
  refine dM P (k2 _ (bb (b7 (.cmp (.var p) .cst E) (b5 (kf (bN (Kp (.var j) (bH o) λR F=>bU (A_ (ns:=gj n) (bH ?_) (λy r=>⟨jY (by decide) (k.l y r).1,Eo (k.l y r).2 (by decide)⟩) ⟨H,x.alloc F,q⟩))))))))
  rw [aF,<-e];exact aA (λx=>G (ak x)) Eg.symm
 |succ m=>
  have w:f.length<=1:=by have:=k.z;rw [<-e,b3,nh]at this;exact ag.le_of_add_le_add_left (a:=1) this
  refine dM (P.eq (cN (eH.mpr (gE m)))) (C _ λS A N=>dN (ge (.var j) (jH o) (.cons (.bin .cst (.bin (.var i) .cst E) E) .nil) (pM o (ar (df ((gU f).symm▸w)) (aS E)) (d4 (.bin (.var i) .cst E) (a5 (A 0 _ _ (gE m) ⟨(bf (by decide)).trans p,(bf (by decide)).trans j,aY.trans ?_,by decide,λb B g=>(dT _ _ (f4 u g)).trans (x b B g),f++[48+((m+1:ag):U)],?_,?_⟩))))))
  ·show G (aa (((m+1:ag):U).fdiv (10:ag)) 0)=_
   rw [<-U.ofNat_fdiv,ag.div_eq_of_lt t]
  ·rw [aF,z6]
   show G (ak (iL f++[aa (48+((m+1:ag):U).fmod (10:ag)) 0]))=_;rw [<-U.ofNat_fmod,ag.mod_eq_of_lt t];rfl
  ·rw [<-e,tj];rfl
theorem CC(C:2<=D)(o:n<100)(q:Q (aa (n:U) 0) H):CL c D 68 [aq (cE n).toArray 0] H Q:=by
 have j:=on o;have s:=O0 n;have p:∀k:ag,k<=2->decide ((k:U)<=1000)=true:=λk h=>cN (ib.mpr (ar h (by decide)))
 have w:=fG o;have m:(gj n).length<=2:=j.z;refine K7 C (b7 (.eq (.cmp (.len (.var E) (OW (ar w (by decide)))) .cst E) (dB.mpr λe=>by rw [show(cE n).length=0 from ml.mp e]at s;cases s)) (lE (.cons .cst (.cons .cst .nil)) E (aS E) (dO (dO (f1 (jF (.var E) (OX ..) ?_))))))
 rw [O1 o];refine rX trivial (xs:=gj n) (λa ρ=>∃k:ag,k<=a.length/\ρ.lookup "many"=G (aa k 0)/\ρ.lookup "number"=G (aa (mV a) 0)) (λa x F ρ K e I A k2=>?_) (λρ I=>?_) ⟨0,cw 0,E,E⟩
 ·obtain ⟨k,i,b,g⟩:=I
  have t:=j.l x (e▸cO _ bn);have B:a.length+1<=2:=by rw [e,b3,fu]at m;exact ar (gn (gQ 1 _) _) m
  have u:∀(d:ag) (ρ:ao),d<=a.length+1->ρ.lookup "many"=G (aa d 0)->ρ.lookup "number"=G (aa (mV a) 0)->ρ.lookup "octet"=G (aa x 0)->SS c (D-2) [aQ (ax .LtE (O "many") (hj 87 (aa 1000 0))) [aD (aT "number") (bT hh (bT cq (bT .Mult (ai (aa 10 0)) (O "number")) (O "octet")) (ai (aa 48 0)))] []] ρ H K:=λd ρ h b g f=>cZ (.eq (.cmp (.var b) .glb E) (p d (ar h B))) (d4 (.bin (.bin (.bin .cst (.var g) E) (.var f) E) .cst E) (a5 (bb (a5 (A _ ⟨d,(b3▸h:d<=(a++[x]).length),(bf (by decide)).trans b,aY.trans (by rw [OY])⟩)))))
  have f:=(bf (y:="octet") (v:=aa x 0) (by decide)).trans b
  have r:=(bf (y:="octet") (v:=aa x 0) (by decide)).trans g
  refine b7 (.eq (.not (.cmp2 .cst (.var aY) .cst (aA G (cN t.1)) (aA G (cN t.2)))) E) (eO (.or2 (.cmp (.var f) .cst E) (.cmp (.var aY) .cst E)) (λ_=>?_) λ_=>?_)
  ·exact d4 (.bin (.var f) .cst E) (a5 (bb (u (k+1) _ (df i) aY ((bf (by decide)).trans r) ((bf (by decide)).trans aY))))
  ·exact a5 (bb (u k _ (xz i) f r aY))
 ·obtain ⟨k,i,b,g⟩:=I
  exact bb (bR (.ite_t (.eq (.cmp (.var b) .glb E) (p k (ar i m))) (.var (g.trans (by rw [j.v])))) q)
theorem O2:(et 20).all (λn=>((m7 (toString (n:U))).cps.toList==(gj n).map U.toNat)&&((m7 (toString (n:U))).cps.all (·<128)))=true:=by decide+kernel
theorem O3(h:n<20):fB H (aE (m7 (toString (n:U))) 0)=G ((gj n).map λk=>aE ⟨#[k.toNat]⟩ 0,af):=by
 have:=fe.mp O2 n (ji.mpr h);rw [fg,c4]at this;show(if((m7 (toString (n:U))).cps.all (·<128))=true then G (nP (m7 (toString (n:U))),(af:aj ae))else af)=_
 rw [this.2,aJ E];unfold nP;rw [this.1,dC];rfl
theorem oo(i:4<=D)(b:n<20)(q:Q (aq (cE n).toArray 0) H):CL c D 829 [aa (n:U) 0] H Q:=by
 have a:=on (fS b (by decide))
 refine(M_ (ap i E) (b5 (kf (bN (pG (ex (.cons (.var E) .nil) (KW (dH n) (ib.mpr (ar (hO b) (by decide))) (kj (O3 b) trivial (ar a.z (by decide)) (f:=λk=>aa k 0) (λk h d j g=> .of λQ q=>ex (.cons (.var aY) .nil) (KX ?_)) λd g=>?_)))))))).up
 ·rw [xw (jY (by decide) (a.l k h).1)];exact q
 ·exact bU (A_ (ns:=gj n) (bH (aF _ _ _)) (λy e=>⟨jY (by decide) (a.l y e).1,Eo (a.l y e).2 (by decide)⟩) ⟨H,(eS.refl H).alloc g,q⟩)
end
noncomputable def i7(s i w p:ab):MO:=bZ 265 [("session",s),("index",i),("window",w),("pane",p),("mouse",ah)]
noncomputable def lV(a b:ab):MO:=bZ 265 [("session",ah),("index",ah),("window",ah),("pane",ah),("mouse",ah),("sessions",a),("marked",b)]
section
variable{H:Hp}{a:ae}{s i w p ss mk:ab}
theorem qh(h:H a=G (i7 s i w p)):ew H (J a) "session"=G s:=du h E E
theorem O4(h:H a=G (i7 s i w p)):ew H (J a) "index"=G i:=du h E E
theorem wh(h:H a=G (i7 s i w p)):ew H (J a) "window"=G w:=du h E E
theorem wj(h:H a=G (i7 s i w p)):ew H (J a) "pane"=G p:=du h E E
theorem qi(h:H a=G (lV ss mk)):ew H (J a) "sessions"=G ss:=du h E E
theorem CD(h:H a=G (lV ss mk)):ew H (J a) "marked"=G mk:=du h E E
end
structure Base where
 keys:L U
 sa:U->ae
 wd:U->ae
 bk:U->ae
 aw:ae
 ase:ae
 apl:ae
 aho:ae
 awi:ae
 apa:ae
 asv:ae
 adk:ae
structure Wd extends Base where
 row:U->L (U×U)
 brow:U->L (U×U)
 cur:U->U
 lst:U->aj U
 nw:ag
 wA:U->ae
 wm:U->WM
 np:ag
 pA:U->ae
 homes:L (U×U)
 mrk:aj (U×U×U)
 mkv:ab
 deck:L U
 B:ag
noncomputable def cP(f:U->ae)(n:ag):L ab:=(et n).map λ(i:ag)=>J (f (i:U))
noncomputable def cM(row:L (U×U)):L (U×ab):=row.map λp=>(p.1,aa p.2 0)
noncomputable def fb(ks:L U)(f:U->ae):L (U×ab):=ks.map λk=>(k,J (f k))
noncomputable def mW(H:Hp)(m:aj (U×U×U))(v:ab):Prop:=match m with
 |none=>v=ah
 |some (k,i,p)=>∃t,v=J t/\H t=G (bm [aa k 0,aa i 0,aa p 0])
theorem mW.keep{H N:Hp}{m:aj (U×U×U)}{v:ab}(h:mW H m v)(x:∀a vs,H a=G (bm vs)->N a=G (bm vs)):mW N m v:=by
 unfold mW at*
 split at h
 ·exact h
 ·obtain ⟨t,c,b⟩:=h;exact⟨t,c,x _ _ b⟩
structure aN(H:Hp)(W:Wd):Prop where
 world:H W.aw=G (eF [("sessions",J W.ase),("places",J W.apl),("homes",J W.aho),("windows",J W.awi),("panes",J W.apa),("server",J W.asv)])
 ses:H W.ase=G (aO (fb W.keys W.sa))
 pla:H W.apl=G (aO (fb W.keys W.bk))
 hom:H W.aho=G (aO (cM W.homes))
 win:H W.awi=G (ak (cP W.wA W.nw))
 pan:H W.apa=G (ak (cP W.pA W.np))
 srv:H W.asv=G (lV (J W.ase) W.mkv)
 mkt:mW H W.mrk W.mkv
 dek:H W.adk=G (ak (iL W.deck))
 sess:∀k∈W.keys,∃a,H (W.sa k)=G (c2 k a (W.wd k) (pv (W.lst k)) (pv (G (W.cur k))))
 wds:∀k∈W.keys,H (W.wd k)=G (aO (dU W.wA (W.row k)))
 bks:∀k∈W.keys,H (W.bk k)=G (aO (cM (W.brow k)))
 wins:∀j:ag,j<W.nw->bP H W.pA (W.wA j) (W.wm j)/\(W.wm j).n=j
 pans:∀i:ag,i<W.np->dc H (W.pA i) i
 emp:H 529=G (bm [])
 words:H 237=G (.db kW)
 sides:H 238=G (.db kS)
 corns:H 239=G (.db kC)
structure cd(W:Base):Prop where
 di:(W.ase::W.apl::W.aho::(W.keys.map W.wd++W.keys.map W.bk)).Nodup
 l1:W.awi≠W.apa
 l2:W.awi≠W.adk
 l3:W.apa≠W.adk
structure a_(W:Wd):Prop where
 knd:W.keys.Nodup
 k0:∀k∈W.keys,0<=k/\k<10
 kl:W.keys.length<=3/\W.keys≠ []
 cur:∀k∈W.keys,W.cur k∈aU (W.row k)
 br:∀k∈W.keys,W.brow k=W.row k
 rnd:∀k∈W.keys,(aU (W.row k)).Nodup
 rin:∀k∈W.keys,∀p∈W.row k,0<=p.1/\0<=p.2/\p.2<W.nw
 rl:∀k∈W.keys,(W.row k).length<=W.B
 hnd:(aU W.homes).Nodup
 hin:∀p∈W.homes,0<=p.1/\p.1<W.np/\0<=p.2/\p.2<W.nw
 lv:∀(j:ag) (n:U),j<W.nw->(n∈al (W.wm j).t<->(n,(j:U))∈W.homes)
 nw:W.nw<=W.B
 np:W.np<=W.B
 B:W.B<=18
 mrk:∀k i p,W.mrk=G (k,i,p)->k∈W.keys/\0<=p/\p<W.np
theorem aN.ext{H N:Hp}{W:Wd}(h:aN H W)(x:aW H N):aN N W where
 world:=x.keep h.world E
 ses:=x.keep h.ses E
 pla:=x.keep h.pla E
 hom:=x.keep h.hom E
 win:=x.keep h.win E
 pan:=x.keep h.pan E
 srv:=x.keep h.srv E
 mkt:=h.mkt.keep λa g e=>x.keep e E
 dek:=x.keep h.dek E
 sess k b:=let ⟨d,e⟩:=h.sess k b;⟨d,x.keep e E⟩
 wds k b:=x.keep (h.wds k b) E
 bks k b:=x.keep (h.bks k b) E
 wins j c:=⟨(h.wins j c).1.ext x,(h.wins j c).2⟩
 pans i f:=x.pane (h.pans i f)
 emp:=x.keep h.emp E
 words:=x.keep h.words E
 sides:=x.keep h.sides E
 corns:=x.keep h.corns E
section
variable{H:Hp}{W:Wd}
theorem g_{a:ae}{kvs:L (am×ab)}(h:H a=G (eF kvs))(x:am):c6 H (J a) (aE (I x) 0)=t2 kvs (I x):=aA (q3 · (I x)) h
theorem aN.i_ses(h:aN H W):c6 H (J W.aw) (aE (I "sessions") 0)=G (J W.ase):=(g_ h.world _).trans E
theorem aN.i_pla(h:aN H W):c6 H (J W.aw) (aE (I "places") 0)=G (J W.apl):=(g_ h.world _).trans E
theorem aN.i_hom(h:aN H W):c6 H (J W.aw) (aE (I "homes") 0)=G (J W.aho):=(g_ h.world _).trans E
theorem aN.i_win(h:aN H W):c6 H (J W.aw) (aE (I "windows") 0)=G (J W.awi):=(g_ h.world _).trans E
theorem aN.i_pan(h:aN H W):c6 H (J W.aw) (aE (I "panes") 0)=G (J W.apa):=(g_ h.world _).trans E
theorem aN.i_srv(h:aN H W):c6 H (J W.aw) (aE (I "server") 0)=G (J W.asv):=(g_ h.world _).trans E
theorem lW(f:U->ae)(n:ag):(cP f n).length=n:=by unfold cP;rw [bJ,iK]
theorem O5(f:U->ae){n i:ag}(h:i<n):(cP f n)[i]? =G (J (f i)):=by unfold cP;rw [f_,L.getElem?_range h];rfl
theorem oq(f:U->ae)(n:ag):cP f (n+1)=cP f n++[J (f n)]:=by unfold cP;rw [xi,c0];rfl
theorem qj{f g:U->ae}{n:ag}(h:∀i:ag,i<n->f i=g i):cP f n=cP g n:=by unfold cP;refine jq λi a=>?_;rw [h i (ji.mp a)]
theorem qk{k:U}{n:ag}{P:U->Prop}(a:0<=k)(b:k<n)(h:∀j:ag,j<n->P j):P k:=by
 have:=h k.toNat ((U.toNat_lt a).mpr b)
 rwa [xw a]at this
theorem wk{a:ae}{f:U->ae}{n:ag}(h:H a=G (ak (cP f n))){k:U}(d:0<=k)(c:k<n):c6 H (J a) (aa k 0)=G (J (f k)):=(e3 h).trans (qk (P:=λk=>fx (cP f n) k=G (J (f k))) d c λj b=>n_ (O5 f b))
theorem aN.w_at(h:aN H W){j:U}(b:0<=j)(a:j<W.nw):c6 H (J W.awi) (aa j 0)=G (J (W.wA j)):=wk h.win b a
theorem aN.p_at(h:aN H W){j:U}(b:0<=j)(a:j<W.np):c6 H (J W.apa) (aa j 0)=G (J (W.pA j)):=wk h.pan b a
theorem aN.wins'(h:aN H W){j:U}(b:0<=j)(a:j<W.nw):bP H W.pA (W.wA j) (W.wm j)/\(W.wm j).n=j:=qk (P:=λj=>bP H W.pA (W.wA j) (W.wm j)/\(W.wm j).n=j) b a h.wins
theorem aN.pans'(h:aN H W){j:U}(b:0<=j)(a:j<W.np):dc H (W.pA j) j:=qk (P:=λj=>dc H (W.pA j) j) b a h.pans
theorem mX(f:U->ae)(k:U):∀{ks:L U},k∈ks->e1 (fb ks f) k=G (J (f k))
 |i::r,h=>by
  unfold e1 fb;rw [e6,iF]
  by_cases e:i=k
  ·rw [cN e,e];rfl
  ·rw [e7 e];exact mX f k ((bQ.mp h).resolve_left λz=>e z.symm)
theorem kx(k:U)(row:L (U×U)):e1 (cM row) k=(lk row k).map λj=>aa j 0:=Cq (f:=λj=>aa j 0) k row
theorem aN.s_at(h:aN H W){k:U}(a:k∈W.keys):c6 H (J W.ase) (aa k 0)=G (J (W.sa k)):=(oj h.ses k).trans (mX W.sa k a)
theorem aN.b_at(h:aN H W){k:U}(a:k∈W.keys):c6 H (J W.apl) (aa k 0)=G (J (W.bk k)):=(oj h.pla k).trans (mX W.bk k a)
theorem sK(ks:L U)(f:U->ae):(fb ks f).map (·.1)=ks:=dC.trans (L.map_id _)
theorem ot(ks:L U)(f:U->ae):(fb ks f).length=ks.length:=bJ _
theorem ou(row:L (U×U)):(cM row).map (·.1)=aU row:=dC
theorem hC(row:L (U×U)):(cM row).length=row.length:=bJ _
theorem aN.bks'(h:aN H W)(b:a_ W){k:U}(a:k∈W.keys):H (W.bk k)=G (aO (cM (W.row k))):=by rw [<-b.br k a];exact h.bks k a
theorem a_.rz(a:a_ W){k:U}(b:k∈W.keys):(W.row k).length<60:=fq (ar (a.rl k b) a.B) (by decide)
theorem wl{row:L (U×U)}(a:(aU row).Nodup){k j:U}:lk row k=G j<->(k,j)∈row:=by
 refine⟨gi,λh=>?_⟩
 induction row with
 |nil=>cases h
 |cons p r b=>
  have a:=cS.mp a;rw [mT];rcases bQ.mp h with h|h
  ·rw [<-h];exact aJ E
  ·exact(aG λe:p.1=k=>a.1 (cA.mpr ⟨_,h,e.symm⟩)).trans (b a.2 h)
theorem a_.lv'(a:a_ W){j n:U}(d:0<=j)(c:j<W.nw):n∈al (W.wm j).t<->lk W.homes n=G j:=(qk (P:=λj=>n∈al (W.wm j).t<->(n,j)∈W.homes) d c λj b=>a.lv j n b).trans (wl a.hnd).symm
end
noncomputable def i8(W:Wd)(H:Hp)(v:ab)(o:aj (U×U×U×U)):Prop:=match o with
 |none=>v=ah
 |some (k,i,j,n)=>∃d,v=J d/\H d=G (i7 (J (W.sa k)) (aa i 0) (J (W.wA j)) (J (W.pA n)))
noncomputable def TQ(W:Wd)(H:Hp)(o:aj (U×U×U×U))(Q:KV):Prop:=∀v a,aW H a->i8 W a v o->Q v a
noncomputable def lX(a:U)(ks:L U):aj U:=if ks.contains a=true then G a else ks.head?
noncomputable def fM(W:Wd)(home:aj U):L U:=match home with
 |none=>ba W.keys
 |some h=>h::(ba W.keys).filter λk=>decide (k≠h)
noncomputable def lY(W:Wd)(H:Hp)(v:ab)(home:aj U):Prop:=match home with
 |none=>v=ah
 |some h=>h∈W.keys/\∃d i w p,v=J d/\H d=G (i7 (J (W.sa h)) i w p)
noncomputable def i9(W:Wd)(ks:L U):L ab:=ks.map λk=>J (W.sa k)
noncomputable def ha(us:L U)(m:U):L U:=match us with
 |[]=>[m]
 |u::r=>if m=u then u::r else u::(r++[m])
theorem CE(u m:U)(r:L U):ha (u::r) m=if m=u then u::r else u::(r++[m]):=E
theorem sL(u:U):∀a r:L U,a.foldl ha (u::r)=u::(r++a.filter λk=>decide (k≠u))
 |[],r=>by rw [Ey,hL];rfl
 |m::a,r=>by
  rw [L.foldl_cons,kZ,CE]
  by_cases h:m=u
  ·rw [aJ h,aG λz:decide (m≠u)=true=>gO z h];exact sL u a r
  ·rw [aG h,aJ (cN h),sL u a (r++[m]),fp];rfl
theorem O6:∀{a:L U},a.Nodup->a.foldl ha []=a
 |[],_=>E
 |m::a,h=>(sL m a []).trans (aA (m::·) (L.filter_eq_self.mpr λk b=>cN λe=>(cS.mp h).1 (e▸b)))
theorem O7(us:L U)(m:U):(ha us m).length<=us.length+1:=by
 unfold ha;split
 ·exact cw _
 ·split
  ·exact dY _
  ·rw [fu,b3];exact cw _
theorem O8{us:L U}{m x:U}(h:x∈ha us m):x∈us\/x=m:=by
 unfold ha at h;split at h
 ·exact bF (de.mp h)
 ·split at h
  ·exact bt h
  ·exact(dG.mp (no▸h:x∈(_::_)++[m])).imp id de.mp
section
variable{c:Cx}{D:ag}{H H1:Hp}{W:Wd}{Q:KV}{o:aj (U×U×U×U)}{k i j n:U}{d:ae}{home:aj U}{cv:ab}
theorem TQ.ext(q:TQ W H o Q)(x:aW H H1):TQ W H1 o Q:=λv a y t=>q v a (x.trans y) t
theorem TQ.none(q:TQ W H af Q):Q ah H:=q _ _ (.refl _) E
theorem TQ.new(q:TQ W H (G (k,i,j,n)) Q)(d:ae)(a:H d=af):Q (J d) (H.set d (i7 (J (W.sa k)) (aa i 0) (J (W.wA j)) (J (W.pA n)))):=q _ _ ((aW.refl H).alloc a) ⟨d,E,aF _ _ _⟩
theorem wn{s i w p:ab}(a:4<=D)(h:dJ s=true)(g:dJ i=true)(f:dJ w=true)(e:dJ p=true)(q:∀d,H d=af->Q (J d) (H.set d (i7 s i w p))):CL c D 265 [s,i,w,p] H Q:=by refine pU (i:=262) E (ap a E) λd b=>LH (cj (ap a E:3<=D)) ?_;simp! [h,g,f,e];exact⟨E,q d b⟩
theorem CF(f:10<=D)(h:aN H W)(g:a_ W)(d:k∈W.keys)(e:lk (W.row k) i=G j)(q:TQ W H (G (k,i,j,(W.wm j).act)) Q):CL c D 283 [J (W.sa k),aa i 0] H Q:=by obtain ⟨r,m⟩:=h.sess k d;obtain ⟨_,a,b⟩:=g.rin k d _ (gi e);obtain ⟨n,p,l,_⟩:=(h.wins' a b).1.o;exact LL (ap f E) (d4 (.idx (.att (.var E) (e4 m)) (.var E) (lU (h.wds k d) e)) (b5 (a7 (.cons (.var E) (.cons (.var E) (.cons (.var E) (.cons (.att (.var E) (oe l)) .nil)))) (wn (eM f E) E E E E q.new))))
theorem ql(B:10<=D)(h:aN H W)(F:a_ W)(r:k∈W.keys)(A:lk (W.row k) i=G j)(q:TQ W H (if n∈al (W.wm j).t then G (k,i,j,n)else af) Q):CL c D 290 [J (W.sa k),aa i 0,aa n 0] H Q:=by
 have V:8<=D-2:=cj B;obtain ⟨nm,R⟩:=h.sess k r;obtain ⟨_,a,b⟩:=F.rin k r _ (gi A);have s:=(h.wins' a b).1;obtain ⟨Z,ac,N,u⟩:=s.o;refine LN (ap B E) (d4 (.idx (.att (.var E) (e4 R)) (.var E) (lU (h.wds k r) A)) (jF (.att (.var E) (lQ N)) (dm (g4 u)) (rX (xs:=al (W.wm j).t) (g4 u) (λC ρ=>ρ.lookup "session"=G (J (W.sa k))/\ρ.lookup "index"=G (aa i 0)/\ρ.lookup "number"=G (aa n 0)/\ρ.lookup "window"=G (J (W.wA j))/\n∉C) (λC m Y ρ ad X I M K=>?_) (λρ I=>?_) ⟨E,E,E,E,gc⟩)))
 ·obtain ⟨p,l,g,f,S⟩:=I
  have w:m∈al (W.wm j).t:=X▸cO _ bn;have z {x:am} (e:x≠ "pane"):=bf (v:=J (W.pA m)) (ρ:=ρ) e;have p:=(z (by decide)).trans p
  have l:=(z (by decide)).trans l
  have g:=(z (by decide)).trans g
  have f:=(z (by decide)).trans f
  have P:=PT.cmp (c:=c) (D:=D-2) (op:=bB) (.att (.var aY) (s.pn m w).att) (.var g) (fl ..)
  by_cases e:m=n
  ·rw [<-e,aJ w]at q
   exact cZ (P.eq (c4.mpr e)) (b5 (a7 (.cons (.var p) (.cons (.var l) (.cons (.var f) (.cons (.var aY) .nil)))) (wn (ap V E) E E E E λd T=>bX (K _ _ _ (bX (q.new d T))))))
  ·exact b7 (P.eq (dB.mpr e)) (a5 (M _ ⟨p,l,g,f,λy=>(dG.mp y).elim S λy=>e (de.mp y).symm⟩))
 ·rw [aG I.2.2.2.2]at q
  exact bb (bR .cst q.none)
theorem a_.curJ(a:a_ W)(b:k∈W.keys):∃j,lk (W.row k) (W.cur k)=G j:=iv (a.cur k b)
theorem O9(e:20<=D)(h:aN H W)(f:a_ W)(b:k∈W.keys)(d:lk (W.row k) (W.cur k)=G j)(q:TQ W H (G (k,W.cur k,j,(W.wm j).act)) Q):CL c D 276 [J (W.sa k)] H Q:=by obtain ⟨g,a⟩:=h.sess k b;exact LJ (ap e E) (b7 (.cmp (.get (.att (.var E) (e4 a)) (.cons (.att (.var E) (gy a)) .nil) (h.wds k b) (aA (·.getD .none) ((sD W.wA (W.cur k) (W.row k)).trans (aA _ d)))) .cst E) (b5 (a7 (.cons (.var E) (.cons (.att (.var E) (gy a)) .nil)) (CF (eM e E) h f b d q))))
theorem CG(k:2<=D)(h:aN H W)(p:0<=j)(l:j<W.nw)(q:∀d,H d=af->Q (J d) (H.set d (ak (iL (al (W.wm j).t))))):CL c D 352 [J (W.wA j)] H Q:=by have a:=(h.wins' p l).1;obtain ⟨s,u,e,b⟩:=a.o;exact L3 k (b5 (mH (.att (.var E) (lQ e)) (kj (xs:=al (W.wm j).t) (f:=λn=>aa n 0) (dm (g4 b)) (g4 b) (ar a.fit.z90 (by decide)) (λm g d r i=> .att (.var aY) (((aW.refl H).alloc i).pane (a.pn m g)).att) q)))
theorem CH{l:ae}{ks:L U}(i:2<=D)(h:aN H W)(g:k∈W.keys)(a:H l=G (ak (iL ks)))(q:Q (pv (lX (W.cur k) ks)) H):CL c D 342 [J (W.sa k),J l] H Q:=by
 obtain ⟨j,b⟩:=h.sess k g;unfold lX at q;refine(LZ i (eO (.cmp (.att (.var E) (gy b)) (.var E) (p_ (bH a) _ _)) (λe=>?_) λe=>a5 (bb (b5 (pE (ec (a4 (.var E) (en (ed .nil (eh _) λd f=>ep (vZ (bH (bK f a)) (aF _ _ _)) ?_))))))))).up
 ·rw [aJ e]at q
  exact bR (.att (.var E) (gy b)) (bX (rZ q))
 ·rw [aG (by rw [e];exact eX)]at q
  have s:eS H (H.set d (ak [])):=(eS.refl H).alloc f;cases ks with
  |nil=>exact u5 (a4 .cst ⟨H,s,q⟩)
  |cons m r=>exact rL (a4 (.idx (.var E) .cst ((e3 (s _ _ a)).trans (mO ..))) ⟨H,s,q⟩)
theorem lY.ext{v:ab}(h:lY W H v home)(x:aW H H1):lY W H1 v home:=by
 cases home with
 |none=>exact h
 |some k=>obtain ⟨a,d,i,w,p,c,b⟩:=h;exact⟨a,d,i,w,p,c,x.keep b E⟩
theorem O_{n m:U}{f d:a9 aP}{a b:ae}{l c g c':ab}(e:c2 n f a l c=c2 m d b g c'):n=m:=by
 have:=aA (λo:MO=>match o with|bZ _ ((_,aa i _)::_)=>i|_=>0) e
 exact this
theorem aN.sa_inj(h:aN H W){l:U}(c:k∈W.keys)(b:l∈W.keys)(e:W.sa k=W.sa l):k=l:=by obtain ⟨_,a⟩:=h.sess k c;obtain ⟨_,d⟩:=h.sess l b;rw [e,d]at a;exact(O_ (bc a)).symm
theorem PT.or1{ρ:ao}{e:ME}{b:aK}(p:PT c D ρ H e b):PT c D ρ H (d0 [e]) b:=by
 cases b with
 |true=>exact .or_t p
 |false=>exact .or_f p .or_n
theorem Pa{a e:ae}{vs:L ab}(h:bD H a=G vs)(b:H e=G (ak [])):cJ H bB (J a) (J e)=G vs.isEmpty:=by rw [mS];rw [pe (ol h) (ol (bH b))];cases vs<;>rfl
theorem CI{first:L U}(h:aN H W)(S:a_ W)(x:aW H H1)(hd:H d=af)(s:H1 d=G (ak (i9 W first)))(al:∀k∈first,k∈W.keys)(hl:first.length<=1)(q:∀n,aW H n->n d=G (ak (i9 W ((ba W.keys).foldl ha first)))->Q (J d) n):
  SS c D (Bf.drop 1) [("server",J W.asv),("current",cv),("found",J d)] H1 (RK Q):=by
 have V:=h.ext x;have kz:(ba W.keys).length<=3:=(gL W.keys).symm▸S.kl.1;refine g3 (ex (.cons (.att (.var E) (qi V.srv)) .nil) (h4 V.ses (by rw [ot];exact fq S.kl.1 (by decide)) λM P=>?_))
 rw [sK];have T:M≠d:=(f4 P s).symm;have N:=x.alloc P (o:=ak (iL (ba W.keys)));have B:=aF H1 M (ak (iL (ba W.keys)));have s:=bK (o:=ak (iL (ba W.keys))) P s;revert N B s;generalize H1.set M _=H2;intro N B s;refine hx (dm (bH B)) (h5 (xs:=ba W.keys) (g:=λi=>aa i 0) (λf t n=>t.lookup "server"=G (J W.asv)/\t.lookup "found"=G (J d)/\aW H n/\n M=G (ak (iL (ba W.keys)))/\n d=G (ak (i9 W (f.foldl ha first)))/\(∀k∈f.foldl ha first,k∈W.keys)/\(f.foldl ha first).length<=f.length+1) (λf m rs t H3 ap Z I A k2=>?_) (λt H3 I=>bb (bR (.var I.2.1) (q _ I.2.2.1 I.2.2.2.2.1))) ⟨E,E,N,B,s,al,hl⟩)
 obtain ⟨r,j,x3,b,a,F,C⟩:=I;have z:m∈W.keys:=eA.mp (Z▸cO _ bn);have ao:f.length+1<=3:=ar (by rw [Z,b3,fu];exact gn (gQ 1 _) _) kz
 rw [EA,L.foldl_cons,L.foldl_nil]at A;revert a F C A;generalize f.foldl ha first=p
 intro A a F C;have r:=(bf (y:="key") (v:=aa m 0) (by decide)).trans r
 have j:=(bf (y:="key") (v:=aa m 0) (by decide)).trans j
 have Y:∀k∈ha p m,k∈W.keys:=λk hk=>(O8 hk).elim (F k) λe=>e▸z;have X:(ha p m).length<=(f++[m]).length+1:=by rw [b3];exact ar (O7 p m) (df C)
 refine dt (hw (ec (a4 (.var j) (en (ed .nil (eh _) λd4 K=>ep (Pa (bH (bK K a)) (aF _ _ _)) ?_)))));have w:=x3.alloc K (o:=ak []);have b:=bK (o:=ak []) K b;have a:=bK (o:=ak []) K a;revert w b a;generalize H3.set d4 _=H4;intro w b a;have l:=h.ext w
 have ac:ha p m=p++[m]->SS c D [cG (dR (O "found") nk [(aL (av (O "server") "sessions") (O "key"))])] (aZ "key" (aa m 0) t) H4 (NX c D [] ap):=λe=>by
  refine dN (ge (.var j) (jH a) (.cons (.idx (.att (.var r) (qi l.srv)) (.var aY) (l.s_at z)) .nil) (pM a (by unfold i9;rw [bJ];exact ar (df (ar C ao)) (by decide)) (a5 (bb (a5 (A _ _ (bH ((dT _ _ T).trans b)) ⟨r,j,w.fresh hd,(dT _ _ T).trans b,?_,Y,X⟩))))))
  rw [aF,e];unfold i9;rw [c0];rfl
 cases p with
 |nil=>exact AI (gI (ac E))
 |cons u as=>
  have R:=F u bn;obtain ⟨_,s1⟩:=l.sess m z;obtain ⟨_,s2⟩:=l.sess u R;refine ir (dM (.or1 (.cmp (.idx (.att (.var r) (qi l.srv)) (.var aY) (l.s_at z)) (.idx (.var j) .cst ((e3 a).trans (mO ..))) (n9 (kn s1) (kn s2)))) ?_)
  by_cases e:m=u
  ·rw [e,cN E]
   exact d5 (a5 (bb (a5 (A _ _ (bH b) ⟨e▸r,e▸j,w,b,by rw [CE,aJ e];exact a,Y,X⟩))))
  ·rw [e7 λad=>e (l.sa_inj z R ad)]
   exact gI (ac (aG e))
theorem Pc(l:2<=D)(h:aN H W)(f:a_ W)(e:lY W H cv home)(q:∀d a,aW H a->a d=G (ak (i9 W (fM W home)))->Q (J d) a):CL c D 401 [J W.asv,cv] H Q:=by
 refine L8 l (bV ?_);cases home with
 |none=>have e:cv=ah:=e;rw [e];exact h2 (.cmp (.var E) .cst E) (ed .nil (eh _) λd b=>CI (first:=[]) h f ((aW.refl H).alloc b) b (aF _ _ _) (λ_ z=>nomatch z) (eh _) λa x g=>q d a x (by rw [O6 ((mB W.keys).nodup_iff.mpr f.knd)]at g;exact g))
 |some k=>obtain ⟨j,n,i,w,p,rfl,m⟩:=e;exact hu (.cmp (.var E) .cst E) (ed (.cons (.att (.var E) (qh m)) .nil) (aS E) λd b=>CI (first:=[k]) h f ((aW.refl H).alloc b) b (aF _ _ _) (λ_ z=>de.mp z▸j) (cw _) λa x g=>q d a x (by rw [sL]at g;exact g))
end
noncomputable def jO(W:Wd)(k:U)(a:aj U):L U:=(ba (aU (W.row k))).filter λi=>decide (lk (W.row k) i=a)
noncomputable def eT(W:Wd)(k:U)(a:aj U):aj U:=lX (W.cur k) (jO W k a)
noncomputable def eC(W:Wd)(a:aj U):L U->aj (U×U)
 |[]=>af
 |k::r=>match eT W k a with
  |some i=>G (k,i)
  |none=>eC W a r
theorem qm{W:Wd}{c:aj U}:∀{a b:L U},(∀k∈a,eT W k c=af)->eC W c (a++b)=eC W c b
 |[],b,h=>E
 |k::a,b,h=>by rw [no,eC,h k bn];exact qm λk d=>h k (bM _ d)
theorem Pd{c:U}{ks:L U}{i:U}(h:lX c ks=G i):i∈ks:=by
 unfold lX at h;split at h
 ·exact bc h▸dE.mp ‹_›
 ·exact L.mem_of_mem_head? h
theorem sM{W:Wd}{k i:U}{c:aj U}(h:eT W k c=G i):i∈aU (W.row k)/\lk (W.row k) i=c:=let ⟨a,b⟩:=ie.mp (Pd h);⟨eA.mp a,gO b⟩
theorem lY.mem{W:Wd}{H:Hp}{v:ab}{home:aj U}(h:lY W H v home):∀k,home=G k->k∈W.keys:=λk e=>by subst e;exact h.1
theorem CJ{W:Wd}{home:aj U}(b:∀h,home=G h->h∈W.keys):∀k∈fM W home,k∈W.keys:=λk a=>by
 cases home with
 |none=>exact eA.mp a
 |some h=>exact(bQ.mp a).elim (λe=>e▸b _ E) λa=>eA.mp (ie.mp a).1
theorem CK{n k:ag}(h:k<=n):jX n (k:U)=k:=by unfold jX;rw [aG (mh.mpr (dH k)),Ev (ib.mpr h),xy (dH k)];rfl
theorem Pe(l:L aP)(k:ag)(a:k<=l.length):e8 l (G (k:U)) af=l.drop k:=by show(l.drop (jX l.length k)).take (l.length-jX l.length k)=_;rw [CK a];exact L.take_of_length_le (cR xk)
theorem Pf(l:L aP)(k:ag)(a:k<=l.length):e8 l af (G (k:U))=l.take k:=by show(l.drop 0).take (jX l.length k-0)=_;rw [CK a];rfl
section
variable{c:Cx}{D:ag}{ρ:ao}{H:Hp}{e i:ME}{l:L aP}{t:bv}{k:ag}{x:aP}
theorem PV.slcF(p:PV c D ρ H e (aq l.toArray t))(q:PV c D ρ H i (aa k 0))(a:l.length<=bL)(b:k<=l.length):PV c D ρ H (ea e [i] [] []) (aq (l.drop k).toArray 0):=.of λQ z=>Ko p q (AP a (by rw [Pe l k b];exact z))
theorem PV.slcT(p:PV c D ρ H e (aq l.toArray t))(q:PV c D ρ H i (aa k 0))(a:l.length<=bL)(b:k<=l.length):PV c D ρ H (ea e [] [i] []) (aq (l.take k).toArray 0):=.of λQ z=>va p q (AP a (by rw [Pf l k b];exact z))
theorem PV.head1(p:PV c D ρ H e (aq (x::l).toArray t))(a:l.length<=900):PV c D ρ H (ea e [] [(ai (aa 1 0))] []) (aq #[x] 0):=.slcT (k:=1) p .cst (ar (df a) (by decide)) (df (eh _))
theorem PV.tail1(p:PV c D ρ H e (aq (x::l).toArray t))(a:l.length<=900):PV c D ρ H (ea e [(ai (aa 1 0))] [] []) (aq l.toArray 0):=.slcF (k:=1) p .cst (ar (df a) (by decide)) (df (eh _))
theorem PT.is37{b:aK}(p:PV c D ρ H e (aq ((if b then 37 else 64)::l).toArray t))(a:l.length<=900):PT c D ρ H (ax bB (ea e [] [(ai (aa 1 0))] []) (ai (aq #[37] 0))) b:=.cmp (p.head1 a) .cst (by cases b<;>rfl)
theorem wo{α:Type}{x:am}{g f:α->ab}{xs:L α}{v:ab}{m:aj ae}{s A:ME}{o:L am}{Q:ae->Hp->Prop}(p:α->aK)(S:fB H v=G (xs.map g,m))(hs:dA m (xs.map g) H)(R:xs.length<=1000)
  (T:∀a∈xs,∀b (K:KB),aW H b->(∀C,aW b C->K (p a) C)->TT c D s (aZ x (g a) (ρ.filter λq=>o.contains q.1)) b K)
  (V:∀a∈xs,p a=true->∀b,aW H b->PV c D (aZ x (g a) (ρ.filter λq=>o.contains q.1)) b A (f a))
  (q:∀d b,H d=af->aW H b->b d=G (ak ((xs.filter p).map f))->Q d b):GO c D x [s] A ρ o v H Q:=by
 have u:∀{b},aW H b->dA m (xs.map g) b:=λx=>hs.keep λa h=>x.list h;refine Bx S hs (λd j b=>H d=af/\aW H b/\b d=G (ak ((j.filter p).map f))) (λd j a X W K B I P N=>?_) (λd e=>⟨e,(aW.refl H).alloc e,aF _ _ _⟩) λd b I=>q d b I.1 I.2.1 I.2.2;obtain ⟨e,t,M⟩:=I;have y:a∈xs:=B▸cO _ bn;have z:=T a y W K t λl r=>?_
 ·exact Bv z
 have i:=t.trans r;have w:=r.keep M E;have k:(j++[a]).filter p=j.filter p++if p a=true then [a]else []:=by rw [Ez,kZ,Ey]
 cases n:p a with
 |false=>rw [n,aG eX,hL]at k;exact P l (u i) ⟨e,i,by rw [k];exact w⟩
 |true=>
  rw [n,aJ E]at k;refine N l λY F=>a4 (V a y n l i) (F _ l _ w ?_ (u (i.fresh e)) ⟨e,i.fresh e,by rw [aF,k,c0];rfl⟩)
  rw [bJ];exact fq (ar (qM p j) (ar (by rw [B,b3];exact he ..) R)) (by decide)
end
section
variable{c:Cx}{D:ag}{H:Hp}{W:Wd}{k:U}{n:ag}{b:aK}{eI:aj U}{ρ:ao}{T:KF}{d:ae}
noncomputable def mY(W:Wd)(b:aK)(n:U)(a:aj U):Prop:=∀j:U,0<=j->j<W.nw->(a=G j<->if b=true then n∈al (W.wm j).t else j=n)
structure jP(W:Wd)(k:U)(b:aK)(n:ag)(ρ:ao):Prop where
 s:ρ.lookup "session"=G (J (W.sa k))
 t:ρ.lookup "text"=G (aq ((if b then 37 else 64)::cE n).toArray 0)
 n:ρ.lookup "number"=G (aa (n:U) 0)
theorem jP.set(R:jP W k b n ρ){x:am}(v:ab)(h:x∉ ["session","text","number"]):jP W k b n (aZ x v ρ):=⟨(eN h E).trans R.s,(eN h E).trans R.t,(eN h E).trans R.n⟩
theorem Pg(y:20<=D)(h:aN H W)(p:a_ W)(m:k∈W.keys)(K:n<100)(w:mY W b n eI)(R:jP W k b n ρ)(r:ρ.lookup "keys"=G (J d)) (l:H d=G (ak (iL (jO W k eI))))
  (A:eT W k eI=af->∀f,jP W k b n f->T .next f H)
  (z:∀i j,eT W k eI=G i->eI=G j->TQ W H (G (k,i,j,if b=true then(n:U)else(W.wm j).act)) λv a=>∀f,T (ck v) f a):
  SS c D [aD (aT "index") (aB 34 342 [(O "session"),(O "keys")]),aQ (ei [(ax dq (O "index") (ai ah)),(ax bB (ea (O "text") [] [(ai (aa 1 0))] []) (ai (aq #[37] 0)))]) [aH (aB 26 290 [(O "session"),(O "index"),(O "number")])] [],aQ (ax dq (O "index") (ai ah)) [aH (aB 25 283 [(O "session"),(O "index")])] []] ρ H T:=by
 have M:(cE n).length<=900:=ar (fG K) (by decide)
 refine bV (a7 (.cons (.var R.s) (.cons (.var r) .nil)) (CH (ap y E) h m l ?_));have R:=R.set (pv (lX (W.cur k) (jO W k eI))) (x:="index") (by decide)
 refine(show∀R:jP W k b n (aZ "index" (pv (eT W k eI)) ρ),SS c D _ (aZ "index" (pv (eT W k eI)) ρ) H T from ?_) R
 cases u:eT W k eI with
 |none=>exact λR=>b7 (.and_f (.cmp (.var aY) .cst E)) (b7 (.cmp (.var aY) .cst E) (a5 (A u _ R)))
 |some i=>
  intro R;obtain ⟨C,B⟩:=sM u;obtain ⟨j,o⟩:=iv C;obtain ⟨_,I,F⟩:=p.rin k m _ (gi o);have e:eI=G j:=B▸o;have w:=w j I F;have q:=z i j u e;have P:=PT.and_t (c:=c) (D:=D) (H:=H) (.cmp (op:=dq) (.var (aY (x:="index") (v:=aa i 0))) (.cst (v:=ah)) E) (.and_t1 (.is37 (.var R.t) M));cases b with
  |true=>exact cZ P (b5 (a7 (.cons (.var R.s) (.cons (.var aY) (.cons (.var R.n) .nil))) (ql (ap y E) h p m o λv a x g=>bX (q v a x (by rw [aJ (show(n:U)∈al (W.wm j).t from w.mp e)]at g;exact g) _))))
  |false=>exact b7 P (cZ (.cmp (.var aY) .cst E) (b5 (a7 (.cons (.var R.s) (.cons (.var aY) .nil)) (CF (ap y E) h p m o λv a x g=>bX (q v a x g _)))))
theorem CM(c:a_ W)(f:k∈W.keys)(g:mY W b n eI){i j:U}(a:lk (W.row k) i=G j):decide (lk (W.row k) i=eI)=if b=true then(al (W.wm j).t).contains (n:U)else j==(n:U):=by
 obtain ⟨_,e,d⟩:=c.rin k f _ (gi a);refine oN.mpr ?_;rw [EJ,a,eq_comm,g j e d];cases b with
 |true=>rw [aJ E,aJ E,dE]
 |false=>rw [aG eX,aG eX,c4]
theorem Ph(hD:30<=D)(h:aN H W)(w:a_ W)(g:k∈W.keys)(Y:n<100)(ac:mY W b n eI)(R:jP W k b n ρ)
  (q0:eT W k eI=af->∀m F,jP W k b n m->aW H F->T .next m F)
  (q1:∀i j,eT W k eI=G i->eI=G j->TQ W H (G (k,i,j,if b=true then(n:U)else(W.wm j).act)) λv F=>∀m,T (ck v) m F):
  SS c D [aD (aT "keys") (b4 fv [(av (O "session") "windows")]),aQ (ax bB (ea (O "text") [] [(ai (aa 1 0))] []) (ai (aq #[37] 0))) [ih "keys" (O "key") "key" (O "keys") [(ax dF (O "number") (aB 36 352 [(aL (av (O "session") "windows") (O "key"))]))] ["number","session"]] [ih "keys" (O "key") "key" (O "keys") [(ax bB (av (aL (av (O "session") "windows") (O "key")) "number") (O "number"))] ["number","session"]],aD (aT "index") (aB 34 342 [(O "session"),(O "keys")]),aQ (ei [(ax dq (O "index") (ai ah)),(ax bB (ea (O "text") [] [(ai (aa 1 0))] []) (ai (aq #[37] 0)))]) [aH (aB 26 290 [(O "session"),(O "index"),(O "number")])] [],aQ (ax dq (O "index") (ai ah)) [aH (aB 25 283 [(O "session"),(O "index")])] []] ρ H T:=by
 obtain ⟨nm,hs⟩:=h.sess k g;have a1:(cE n).length<=900:=ar (fG Y) (by decide)
 have V:=w.rz g;refine bV (ex (.cons (.att (.var R.s) (e4 hs)) .nil) (h4 (h.wds k g) (by rw [sE];exact fS V (by decide)) λd hd=>?_))
 rw [v8];have p:=(aW.refl H).alloc hd (o:=ak (iL (ba (aU (W.row k)))));have I:=aF H d (ak (iL (ba (aU (W.row k)))));show SS c D _ _ (H.set d (ak (iL (ba (aU (W.row k)))))) T;revert p I;generalize H.set d _=H1;intro p I;have C:=R.set (J d) (x:="keys") (by decide)
 have h1:=h.ext p;have P:(ba (aU (W.row k))).length<=1000:=by rw [gL,kw];exact ar (hO V) (by decide)
 have A:=bH I;have ad:∀l a,H1 l=af->aW H1 a->a l=G (ak (((ba (aU (W.row k))).filter λi=>decide (lk (W.row k) i=eI)).map λi=>aa i 0))->SS c D _ (aZ "keys" (J l) (aZ "keys" (J d) ρ)) a T:=λl a _ f q=>Pg (ap hD E) (h1.ext f) w g Y ac (C.set _ (by decide)) aY q (λK m R'=>q0 K m a R' (p.trans f)) λi j K e=>(q1 i j K e).ext (p.trans f)
 have al {y:am} {v:ab} (hy:["number","session"].contains y=true) (a0:y≠ "key") (ao:(aZ "keys" (J d) ρ).lookup y=G v) (u:ab):(aZ "key" u ((aZ "keys" (J d) ρ).filter λas=>["number","session"].contains as.1)).lookup y=G v:=(bf a0).trans ((oh _ y hy _).trans ao);have fs:=λu=>al E (by decide) C.s u
 have fn:=λu=>al E (by decide) C.n u
 refine eO (.is37 (.var C.t) a1) (λe=>kh (a4 (.var aY) (wo (λi=>decide (lk (W.row k) i=eI)) (dm A) A P (λi Z a K2 f z=>?_) (λi _ _ a _=> .var aY) λl a M f q=>a5 (bb (ad l a M f q))))) λe=>kh (a4 (.var aY) (wo (λi=>decide (lk (W.row k) i=eI)) (dm A) A P (λi Z a K2 f z=>?_) (λi _ _ a _=> .var aY) λl a M f q=>a5 (bb (ad l a M f q))))
 all_goals
  obtain ⟨j,B⟩:=iv (eA.mp Z);obtain ⟨_,S,Q⟩:=w.rin k g _ (gi B);have r:=h1.ext f;obtain ⟨a3,X⟩:=r.sess k g;have N:=CM w g ac B;rw [e]at N;simp only [N]at z
 ·exact ec (a4 (.var (fn _)) (en (a7 (.cons (.idx (.att (.var (fs _)) (e4 X)) (.var aY) (lU (r.wds k g) B)) .nil) (CG (ap hD E) r S Q λd3 a2=>ep (p_ (bH (aF _ _ _)) _ _) (z _ ((aW.refl a).alloc a2))))))
 ·obtain ⟨aw,au⟩:=r.wins' S Q
  obtain ⟨_,_,ho,_⟩:=aw.o;exact dM (.cmp (.att (.idx (.att (.var (fs _)) (e4 X)) (.var aY) (lU (r.wds k g) B)) (du ho E E)) (.var (fn _)) (by rw [au];exact fl ..)) (z _ (.refl _))
end
noncomputable def gN(W:Wd)(b:aK)(n:U)(a:aj U)(ks:L U):aj (U×U×U×U):=match eC W a ks,a with
 |some (k,i),G j=>G (k,i,j,if b=true then n else(W.wm j).act)
 |_,_=>af
theorem i8.ext{W:Wd}{H N:Hp}{v:ab}{o:aj (U×U×U×U)}(h:i8 W H v o)(x:aW H N):i8 W N v o:=by
 cases o with
 |none=>exact h
 |some p=>obtain ⟨d,b,a⟩:=h;exact⟨d,b,x.keep a E⟩
theorem i8.sub{W:Wd}{H:Hp}{v:ab}{o:aj (U×U×U×U)}{d:ae}{mo:MO}(h:i8 W H v o)(a:H d=af):i8 W (H.set d mo) v o:=h.ext ((aW.refl H).alloc a)
theorem hD{x y:aP}{l m:L aP}(h:x≠y):((x::l).toArray==(y::m).toArray)=false:=dB.mpr λe=>h (gb (aA a9.toList e:x::l=y::m)).1
theorem ow{x:aP}{l:L aP}:((x::l).toArray==#[])=false:=dB.mpr λe=>nomatch (aA a9.toList e:x::l=[])
theorem qn{H:Hp}{d:ae}{a b t:a9 aP}{p q:aK}(h:H d=G (bm [aq a 0,aq b 0]))(k:bv)(e:(a==t)=p)(c:(b==t)=q):cJ H dF (aq t k) (J d)=G (p||(q||false)):=by show j7 (H d) d (aq t k)=_;rw [h,<-e,<-c];rfl
theorem Pj{H:Hp}{d:ae}{a b t:a9 aP}{p q:aK}(h:H d=G (bm [aq a 0,aq b 0]))(k:bv)(e:(a==t)=p)(c:(b==t)=q):cJ H jn (aq t k) (J d)=G (!(p||(q||false))):=aA (kL λx=>!x) (qn h k e c)
theorem sN{n:ag}(h:n<100){x:aP}(a:¬(48<=x.toNat/\x.toNat<=57)):x∉cE n:=λz=>a ((on h).u x z)
theorem CN{l:L aP}{x:aP}(h:x∉l):l.findIdx? (·==x)=af:=L.findIdx?_eq_none_iff.mpr λy a=>dB.mpr λe=>h (e▸a)
theorem Pk{l:L aP}{x:aP}(h:x∉l):il l x=af:=qJ.mpr (CN λz=>h (Eb.mp z))
theorem wq{b:L aP}{x:aP}:∀{a:L aP},x∉a->(a++x::b).findIdx? (·==x)=G a.length
 |[],_=>by rw [L.nil_append,th,BEq.rfl];rfl
 |y::r,h=>by have h:=not_or.mp λz=>h (bQ.mpr z);rw [no,th,dB.mpr (Ne.symm h.1),wq h.2];rfl
theorem Pl{a b:L aP}{x:aP}(h:x∉b):il (a++x::b) x=G a.length:=by
 have e:(a++x::b).reverse=b.reverse++x::a.reverse:=by rw [tj,tw,fp];rfl
 unfold il;rw [e,wq λz=>h (Eb.mp z),b3,nh,fu];exact aA G (ag.add_sub_cancel (n:=a.length) (m:=b.length))
theorem Pm{b:a9 aP}{t u:bv}:gt (aq b t) (aq b u)=G true:=aA G (eE b)
theorem qo{b:U}{t u:bv}:gt (aa b t) (aa b u)=G true:=aA G (eE b)
theorem jQ{v u:ab}{vs us:L ab}{a b:aK}(h:gt v u=G a)(g:hq vs us=G b):hq (v::vs) (u::us)=G (a&&b):=by show((gt v u).bind λa=>(hq vs us).bind λb=>G (a&&b))=_;rw [h,g];rfl
theorem CO{H:Hp}{a b:ae}{vs us:L ab}{k:aj aK}(h:H a=G (bm vs))(g:H b=G (bm us))(e:hq vs us=k):cJ H bB (J a) (J b)=k:=by rw [mS,pe (sv h) (sv g)];exact e
section
variable{c:Cx}{D:ag}{H:Hp}{ρ:ao}{e:ME}{es:L ME}{QB:KB}
theorem CP(q:TT c D (ei es) ρ H QB):u6 c D es ρ QB true H:=q
theorem Pn(q:QB false H):u6 c D es ρ QB false H:=q
end
section
variable{c:Cx}{D:ag}{H:Hp}{W:Wd}{Q:KV}{n:ag}{b:aK}{eI home:aj U}{cv:ab}
theorem CQ(x:40<=D)(h:aN H W)(r:a_ W)(w:lY W H cv home)(o:n<100)(Z:mY W b n eI)(q:TQ W H (gN W b n eI (fM W home)) Q):CL c D 406 [aq ((if b then 37 else 64)::cE n).toArray 0,J W.asv,cv] H Q:=by
 have p:38<=D-2:=cj x;have V:=CJ (W:=W) w.mem;refine L_ (ap x E) (bV (a7 (.cons (.tail1 (.var E) (ar (fG o) (by decide))) .nil) (CC (ap p E) o (g3 (h2 (.cmp (.var E) .cst E) (a7 (.cons (.var E) (.cons (.var E) .nil)) (Pc (ap p E) h r w λd H1 F u=>hx (dm (bH u)) (h5 (xs:=fM W home) (λA a B=>a.lookup "text"=G (aq ((if b then 37 else 64)::cE n).toArray 0)/\a.lookup "number"=G (aa (n:U) 0)/\aW H B/\B d=G (ak (i9 W (fM W home)))/\∀k∈A,eT W k eI=af) (λA k rs a H2 ad y I T S=>?_) (λa H2 I=>bb (bR .cst (q _ _ I.2.2.1 ?_))) ⟨E,E,F,u,(λ_ z=>nomatch z)⟩))))))))
 ·obtain ⟨N,M,g,P,v⟩:=I
  refine Ph (ap p E) (h.ext g) r (V k (y▸cO _ bn)) o Z ⟨aY,(bf (by decide)).trans N,(bf (by decide)).trans M⟩ (λl C H3 R f=>?_) λi j l Y ac H3 f K C=>S _ _ _ (bX (q _ _ (g.trans f) ?_))
  ·have s:=f.keep P E
   exact T _ _ (bH s) ⟨R.t,R.n,g.trans f,s,λm X=>(dG.mp X).elim (v m) λe=>de.mp e▸l⟩
  ·have e:gN W b n eI (fM W home)=G (k,i,j,if b=true then(n:U)else(W.wm j).act):=by
    unfold gN;rw [y,qm v,eC,l,Y]
   exact e▸K
 ·have e:gN W b n eI (fM W home)=af:=by
   unfold gN;rw [<-hL (fM W home),qm I.2.2.2.2];rfl
  rw [e];rfl
variable{l a e:L aP}
theorem Po(b:2<=D)(f:(58:aP)∉l)(e:(46:aP)∉l)(a:l.length<=900)(q:∀d,H d=af->Q (J d) (H.set d (bm [ah,aq l.toArray 0,ah]))):CL c D 434 [aq l.toArray 0] H Q:=by
 refine Bh b (bV (ge (.var E) E (.cons .cst .nil) (BC.find ?_)));rw [CN f];refine d4 (.slcF (k:=0) (.var E) (.bin (.var E) .cst E) (ar a (by decide)) (eh _)) (bV (ge (.var E) E (.cons .cst .nil) (BC.rfind ?_)))
 rw [L.drop_zero,Pk e];exact d4 (.ite_t (.cmp (.var E) .cst E) (.var E)) (b5 (fL (.cons (.ite_t (.cmp (.var E) .cst E) .cst) (.cons (.var E) (.cons (.ite_t (.cmp (.var E) .cst E) .cst) .nil))) (aS E) q))
theorem Pp{m:L aP}(p:2<=D)(s:(58:aP)∉a)(r:(46:aP)∉e)(o:(a++58::(m++46::e)).length<=900)(q:∀d,H d=af->Q (J d) (H.set d (bm [aq a.toArray 0,aq m.toArray 0,aq e.toArray 0]))):CL c D 434 [aq (a++58::(m++46::e)).toArray 0] H Q:=by
 have f {i:ag}:decide ((i:U)<0)=false:=e7 (mh.mpr (dH i));have b:(a++58::(m++46::e)).length<=bL:=ar o (by decide)
 have z:a.length+1<=(a++58::(m++46::e)).length:=by rw [b3];exact gn (gQ 1 _) _
 have w:m.length+1<=(m++46::e).length:=by rw [b3];exact gn (gQ 1 _) _
 have u:(a++58::(m++46::e)).drop (a.length+1)=m++46::e:=by rw [<-L.drop_drop,L.drop_left];rfl
 have t:(m++46::e).drop (m.length+1)=e:=by rw [<-L.drop_drop,L.drop_left];rfl
 have g:(m++46::e).length<=bL:=ar (ar (ar (dY _) (gQ _ a.length)) (cR (b3 (as:=a) (bs:=58::(m++46::e))).symm)) b;refine Bh p (bV (ge (.var E) E (.cons .cst .nil) (BC.find ?_)));rw [wq s];refine d4 (.slcF (k:=a.length+1) (.var E) (.bin (.var E) .cst E) b z) (bV (ge (.var E) E (.cons .cst .nil) (BC.rfind ?_)));rw [u,Pl r];have n:=PV.slcT (c:=c) (D:=D-2) (H:=H) (ρ:=[("text",aq (a++58::(m++46::e)).toArray 0),("colon",aa (a.length:ag) 0),("rest",aq (m++46::e).toArray 0),("point",aa (m.length:ag) 0)]) (e:=O "rest") (i:=O "point") (l:=m++46::e) (k:=m.length) (.var E) (.var E) g (nl w);rw [xG]at n;have j:=PV.slcT (c:=c) (D:=D-2) (H:=H) (ρ:=[("text",aq (a++58::(m++46::e)).toArray 0),("colon",aa (a.length:ag) 0),("rest",aq (m++46::e).toArray 0),("point",aa (m.length:ag) 0),("window",aq m.toArray 0)]) (e:=O "text") (i:=O "colon") (l:=a++58::(m++46::e)) (k:=a.length) (.var E) (.var E) b (nl z);rw [xG]at j;have h:=PV.slcF (c:=c) (D:=D-2) (H:=H) (ρ:=[("text",aq (a++58::(m++46::e)).toArray 0),("colon",aa (a.length:ag) 0),("rest",aq (m++46::e).toArray 0),("point",aa (m.length:ag) 0),("window",aq m.toArray 0)]) (e:=O "rest") (i:=bT cq (O "point") (ai (aa 1 0))) (l:=m++46::e) (k:=m.length+1) (.var E) (.bin (.var E) .cst E) g w;rw [t]at h;exact d4 (.ite_f (.cmp (.var E) .cst (aA G f)) n) (b5 (fL (.cons (.ite_f (.cmp (.var E) .cst (aA G f)) j) (.cons (.var E) (.cons (.ite_f (.cmp (.var E) .cst (aA G f)) h) .nil))) (aS E) q))
theorem sO{a:a9 aP}{K:KF}{p r:aK}(e:(a==#[])=false)(k:(#[61]==a)=false)(j:(#[123,109,111,117,115,101,125]==a)=false)(i:(#[126]==a)=p)(h:(#[123,109,97,114,107,101,100,125]==a)=r)
  (q:∀d,aW H d->n0 c D [aH (dz [(ai (az true)),(aB 45 413 [(O "server")])])] [] [("text",aq a 0),("server",J W.asv),("current",cv)] (NX c D (rT.drop 3) K) (p||(r||false)) d):SS c D rT [("text",aq a 0),("server",J W.asv),("current",cv)] H K:=by
 refine b7 (.eq (.cmp (.var E) .cst E) e) (dt (ec (a4 (.var E) (en (fL (.cons .cst (.cons .cst .nil)) (aS E) λl g=>ep (qn (aF _ _ _) _ k j) (d5 (a5 (bb ?_))))))));have b:=(aW.refl H).alloc g (o:=bm [aq #[61] 0,aq #[123,109,111,117,115,101,125] 0]);revert b;generalize H.set l _=n;intro b;exact dt (ec (a4 (.var E) (en (fL (.cons .cst (.cons .cst .nil)) (aS E) λm f=>ep (qn (aF _ _ _) _ i h) (q _ (b.alloc f))))))
theorem CR(s:50<=D)(h:aN H W)(l:a_ W)(M:lY W H cv home)(g:n<100)(N:mY W b n eI)(q:∀d u f,aW H f->f d=G (bm [az true,u])->i8 W f u (gN W b n eI (fM W home))->Q (J d) f):CL c D 420 [aq ((if b then 37 else 64)::cE n).toArray 0,J W.asv,cv] H Q:=by
 have r:48<=D-2:=cj s;have w:=fG g;have o:=λ{R} j=>CQ (c:=c) (D:=D-2) (Q:=λu y=>∀m,y m=af->Q (J m) (y.set m (bm [az true,u]))) (H:=R) (ap r E) (h.ext j) l (M.ext j) g N λv f x t d i=>q d v _ ((j.trans x).alloc i) (aF _ _ _) (t.sub i);revert o;generalize F:(if b=true then(37:aP)else 64)=x
 intro o;have l:(x≠61/\x≠123/\x≠126/\x≠58/\x≠46)/\(#[64]==#[x]||(#[37]==#[x]||false))=true:=by rw [<-F];cases b<;>decide
 obtain ⟨e,P⟩:=l;have B:(58:aP)∉x::cE n:=λz=>(bQ.mp z).elim (Ne.symm e.2.2.2.1) (sN g (by decide))
 have C:(46:aP)∉x::cE n:=λz=>(bQ.mp z).elim (Ne.symm e.2.2.2.2) (sN g (by decide))
 refine rU (ap s E) (sO ow (hD e.1.symm) (hD e.2.1.symm) (hD e.2.2.1.symm) (hD e.2.1.symm) λX A=>d5 (a5 (bb ?_)));refine dt (u7 (ec (a4 (.head1 (.var E) (ar w (by decide))) (en (fL (.cons .cst (.cons .cst .nil)) (aS E) λV K=>ep ((qn (aF _ _ _) _ E E).trans (aA G P)) (CP (u7 (ec (a7 (.cons (.var E) .nil) (Po (ap r E) B C (ar (df w) (by decide)) λT I=>en (fL (.cons .cst (.cons (.var E) (.cons .cst .nil))) (aS E) λS p=>ep (k:=true) ?_ (CP (dM .and_n (gI (b5 (mG (bs .cst (bN (a7 (.cons (.var E) (.cons (.var E) (.cons (.var E) .nil))) ((o (((A.alloc K).alloc I).alloc p)).mono λv f z=>bU ⟨aS E,λd i=>bX (z d i)⟩))))))))))))))))))))
 exact CO (bK p (aF _ _ _)) (aF _ _ _) (jQ (a:=true) (b:=true) E (jQ (b:=true) Pm (jQ (a:=true) (b:=true) E E)))
end
section
variable{c:Cx}{D:ag}{H:Hp}{ρ:ao}{T:KF}{r:L MS}{ts:L MT}{e:ME}{v:ab}{vs:L ab}{d:ae}
end
theorem wr{a b:a9 aP}{t u:bv}(h:a.size+b.size<=bL):hp cq (aq a t) (aq b u)=G (aq (a++b) 0):=aJ h
noncomputable def sP(W:Wd)(k i p:U):aj U->aj (U×U×U×U)
 |some j=>if lk W.homes p=G j then G (k,i,j,p)else gN W true p (lk W.homes p) (fM W af)
 |none=>gN W true p (lk W.homes p) (fM W af)
noncomputable def Pq(W:Wd):aj (U×U×U)->aj (U×U×U×U)
 |none=>af
 |some (k,i,p)=>sP W k i p (lk (W.row k) i)
noncomputable def qp(W:Wd):aj (U×U×U×U):=Pq W W.mrk
theorem Ps:((kW++kS++kC).all λx=>x.1.head? ==G 123)=true:=by decide+kernel
theorem wt{l:L aP}{x:aP}(b:x≠123):∀y∈kW++kS++kC,y.1≠x::l:=λy a e=>by have:=fe.mp Ps y a;rw [e]at this;exact b (bc (c4.mp this))
theorem CS{l:L aP}{x:aP}(b:x≠123):∀y∈kW,y.1≠x::l:=λy a=>wt b y (cX _ (cX _ a))
theorem Pt{l:L aP}{x:aP}(b:x≠123):∀y∈kS,y.1≠x::l:=λy a=>wt b y (cX _ (cO _ a))
theorem Pu{l:L aP}{x:aP}(b:x≠123):∀y∈kC,y.1≠x::l:=λy a=>wt b y (cO _ a)
theorem CT{H:Hp}{a:ae}{t:L fd}{l:L aP}(h:H a=G (.db t))(d:(a !=1)=true)(c:∀y∈t,y.1≠l):cJ H dF (aq l.toArray 0) (J a)=G false:=by show j7 (H a) a (aq l.toArray 0)=_;rw [h];exact aJ (by rw [fg];exact⟨fe.mpr λy b=>oQ.mpr (c y b),d⟩)
section
variable{c:Cx}{D:ag}{H:Hp}{W:Wd}{Q:KV}{n:ag}{cv:ab}{k i j:U}{ρ:ao}
theorem CU(a:a_ W)(n:ag):mY W true n (lk W.homes n):=λj c b=>by rw [aJ E];exact(a.lv' c b).symm
theorem CV(n:ag):mY W false n (G (n:U)):=λj _ _=>by rw [aG eX];exact⟨λe=>(bc e).symm,λe=>aA G e.symm⟩
theorem CW(e:50<=D)(h:aN H W)(d:a_ W)(a:n<100)(i:ρ.lookup "found"=G ah) (g:ρ.lookup "number"=G (aa (n:U) 0)) (f:ρ.lookup "server"=G (J W.asv)) (q:TQ W H (gN W true n (lk W.homes n) (fM W af)) Q):
  SS c D (Bg.drop 4) ρ H (RK Q):=
 b5 (h2 (.cmp (.var i) .cst E) (eL (bN (fD (a4 .cst (fY (a7 (.cons (.var g) .nil) (sJ (ap e E) a (gZ ((wr (ar (gn (fG a) 1) (by decide))).trans (aA (λb=>G (aq b 0)) (EK [37] (cE n)))) (cK (bs (.var f) (bs .cst (bU (CQ (b:=true) (home:=af) (ap e E) h d E a (CU d n) q))))))))))))))
theorem Pw(w:60<=D)(h:aN H W)(a:a_ W)(q:TQ W H (qp W) Q):CL c D 413 [J W.asv] H Q:=by
 have m:58<=D-2:=cj w;refine Ma (ap w E) ?_;have A:=CD h.srv;have M:=h.mkt;unfold qp at q;cases l:W.mrk with
 |none=>
  rw [l]at M q;rw [show W.mkv=ah from M]at A
  exact cZ (.cmp (.att (.var E) A) .cst E) (bR .cst (bX q.none))
 |some z=>
  obtain ⟨k,i,p⟩:=z;rw [l]at M q;obtain ⟨b,N,y⟩:=M;rw [N]at A;obtain ⟨e,I,F⟩:=a.mrk k i p l;obtain ⟨n,rfl⟩:=tJ I;have s:n<100:=fo (eH.mp F) (ar (ar a.np a.B) (by decide))
  obtain ⟨R,C⟩:=h.sess k e;refine b7 (.cmp (.att (.var E) A) .cst E) (vi (a4 (.att (.var E) A) (vj y E (dO (dO (dO (f1 (f2 (bs (.get (.att (.var E) (qi h.srv)) (.cons (.var E) .nil) h.ses (aA (·.getD .none) (mX W.sa k e))) (bs .cst (bU (f3 (aS E) E ?_))))))))))))
  have P:=(PT.and_t1 (c:=c) (D:=D-2) (H:=H) (ρ:=[("server",J W.asv),("key",aa k 0),("index",aa i 0),("number",aa (n:U) 0),("found",ah),("session",J (W.sa k))]) (.cmp (op:=dF) (.var (x:="index") E) (.att (.var (x:="session") E) (e4 C)) (qf (h.wds k e) i)));rw [<-lT]at P;have q:TQ W H (sP W k i n (lk (W.row k) i)) Q:=q;revert q P;cases u:lk (W.row k) i with
  |none=>exact λP q=>b7 (.and_t (.cmp (.var E) .cst E) P) (CW (ap m E) h a s E E E q)
  |some j=>
   intro P q;obtain ⟨_,r,o⟩:=a.rin k e _ (gi u);refine cZ (.and_t (.cmp (.var E) .cst E) P) (bV (a7 (.cons (.var E) (.cons (.var E) (.cons (.var E) .nil))) (ql (ap m E) h a e u λv S g b=>a5 (bb ?_))))
   by_cases f:(n:U)∈al (W.wm j).t
   ·rw [aJ f]at b
    obtain ⟨d,rfl,K⟩:=b;have q:TQ W H (if lk W.homes n=G j then G (k,i,j,(n:U))else _) Q:=q
    rw [aJ ((a.lv' r o).mp f)]at q;exact bR (.ite_f (.cmp (.var E) .cst E) (.var E)) (q _ _ g ⟨d,E,K⟩)
   ·rw [aG f]at b
    have b:v=ah:=b;have q:TQ W H (if lk W.homes n=G j then G (k,i,j,(n:U))else _) Q:=q
    rw [aG λz=>f ((a.lv' r o).mpr z)]at q;rw [b];exact CW (ap m E) (h.ext g) a s E E E (q.ext g)
theorem wu{x:aP}(b:10<=D)(a:n<100)(q:Q (aa (n:U) 0) H):CL c D 316 [aq (x::cE n).toArray 0,aq #[x] 0] H Q:=
 have z:=ar (fG a) (by decide)
 LR (ap b E) (b5 (h2 (.cmp (.head1 (.var E) z) (.var E) (aA G BEq.rfl)) (a7 (.cons (.tail1 (.var E) z) .nil) (CC (eM b E) a q))))
theorem CY{x:aP}{l:L aP}(e:2<=D)(g:x≠43)(f:x≠45)(a:l.length<=900)(q:Q ah H):CL c D 328 [aq (x::l).toArray 0] H Q:=CL.up (LW e (dt (ec (a4 (.head1 (.var E) a) (en (fL (.cons .cst (.cons .cst .nil)) (aS E) λd b=>ep (Pj (aF _ _ _) _ (hD (l:=[]) (m:=[]) g.symm) (hD (l:=[]) (m:=[]) f.symm)) (gI (bR .cst (bX ⟨H,(eS.refl H).alloc b,q⟩)))))))))
theorem Px{k:ag}(a:20<=D)(h:aN H W)(b:(k:U)∈W.keys)(d:k<100)(q:Q (J (W.sa k)) H):CL c D 321 [aq (36::cE k).toArray 0,J W.asv,cv] H Q:=LU (ap a E) (b7 (.eq (.cmp (.var E) .cst E) ow) (bV (a7 (.cons (.var E) (.cons .cst .nil)) (wu (x:=36) (eM a E) d (cZ (.cmp (.var E) .cst E) (bR (.get (.att (.var E) (qi h.srv)) (.cons (.var E) .nil) h.ses (aA (·.getD .none) (mX W.sa k b))) (bX q)))))))
theorem Py(F:30<=D)(h:aN H W)(g:a_ W)(a:k∈W.keys)(B:n<100)(q:Q (pv (eT W k (G (n:U)))) H):CL c D 347 [aq (64::cE n).toArray 0,J (W.sa k)] H Q:=by
 have v:28<=D-2:=cj F;obtain ⟨nm,X⟩:=h.sess k a;have A:=g.rz a;have N:(ba (aU (W.row k))).length<60:=by rw [gL,kw];exact A
 have M:(ba (aU (W.row k))).isEmpty=false:=by
  have:=eA.mpr (g.cur k a);cases ac:ba (aU (W.row k))with
  |nil=>rw [ac]at this;cases this
  |cons=>rfl
 refine(L1 (ap F E) (f2 (bN (ex (.cons (.att (.var E) (e4 X)) .nil) (h4 (h.wds k a) (by rw [sE];exact fS A (by decide)) λd s=>?_))))).up
 rw [v8];have e:eS H (H.set d (ak (iL (ba (aU (W.row k)))))):=(eS.refl H).alloc s;have r:=aF H d (ak (iL (ba (aU (W.row k)))));revert e r;generalize H.set d _=K;intro e r;have y:K 237=G (.db kW):=e _ _ h.words;refine cK (bN (ge .glb (rp y) (.cons (.var E) (.cons (.var E) .nil)) (Bb y E (CS (by decide)) (cK (bU (f3 (aS E) E (dt (rN (.eq (.cmp (.var E) .cst E) ow) (hw (ec (a4 (.var E) (en (ed .nil (eh _) λd2 u=>ep ((qg (bH (bK u r)) (aF _ _ _)).trans (aA G M)) (ir (dM .or_n (d5 (a5 (bb ?_))))))))))))))))))
 have b:=e.alloc (o:=ak []) u;have p:=bK (o:=ak []) u r;revert b p;generalize K.set d2 _=H2;intro b p;have I:=h.ext (.of_sub b);refine b7 (.or_f (.eq (.cmp (.var E) .cst E) (hD (l:=cE n) (m:=[]) (by decide))) (.or_f (.eq (.cmp (.var E) .cst E) (hD (l:=cE n) (m:=[]) (by decide))) .or_n)) (b7 (.eq (.cmp (.var E) .cst E) (hD (l:=cE n) (m:=[]) (by decide))) (bV (a7 (.cons (.var E) .nil) (CY (ap v E) (by decide) (by decide) (ar (fG B) (by decide)) (b7 (.cmp (.var E) .cst E) (bV (a7 (.cons (.var E) (.cons .cst .nil)) (wu (x:=64) (ap v E) B (cZ (.cmp (.var E) .cst E) (b5 (eL (bs (.var E) (bN (mH (.var E) (pQ (xs:=ba (aU (W.row k))) (f:=λi=>aa i 0) (λi=>decide (lk (W.row k) i=G (n:U))) (dm (bH p)) (bH p) (ar (hO N) (by decide)) (λi Z d z s=>?_) (λi _ _ d z s=> .var aY) λd4 C=>cK (bU (CH (ap v E) (I.ext ((aW.refl _).alloc C)) a (aF _ _ _) (bX ⟨H,b.alloc C,q⟩))))))))))))))))))
 obtain ⟨j,t⟩:=iv (eA.mp Z);obtain ⟨_,R,P⟩:=g.rin k a _ (gi t);have w:=I.ext ((aW.refl _).alloc s (o:=ak z));obtain ⟨ad,V⟩:=w.sess k a;obtain ⟨T,S⟩:=w.wins' R P;obtain ⟨_,_,Y,_⟩:=T.o;refine .eq (.cmp (.att (.idx (.att (.var E) (e4 V)) (.var E) (lU (w.wds k a) t)) (du Y E E)) (.var E) (fl ..)) ?_;rw [S];exact((CM g a (CV n) t).trans (aG eX)).symm
theorem Pz(g:30<=D)(h:aN H W)(k:0<=j)(i:j<W.nw)(f:n<100)(q:Q (aa (n:U) 0) H):CL c D 387 [aq (37::cE n).toArray 0,J (W.wA j)] H Q:=by have b:28<=D-2:=cj g;refine(L5 (ap g E) (f2 (bN (a7 (.cons (.var E) .nil) (CG (ap b E) h k i λd o=>?_))))).up;have a:eS H (H.set d (ak (iL (al (W.wm j).t)))):=(eS.refl H).alloc o;revert a;generalize H.set d _=p;intro a;have e:p 237=G (.db kW):=a _ _ h.words;exact cK (bN (ge .glb (rp e) (.cons (.var E) (.cons (.var E) .nil)) (Bb e E (CS (by decide)) (cK (bU (f3 (aS E) E (b7 (.eq (.cmp (.var E) .cst E) ow) (b7 (.eq (.cmp (.var E) .cst E) (hD (l:=cE n) (m:=[]) (by decide))) (b7 (.cmp (.var E) .glb (CT (a _ _ h.corns) E (Pu (by decide)))) (b7 (.cmp (.var E) .glb (CT (a _ _ h.sides) E (Pt (by decide)))) (bV (a7 (.cons (.var E) .nil) (CY (ap b E) (by decide) (by decide) (ar (fG f) (by decide)) (b7 (.cmp (.var E) .cst E) (bV (a7 (.cons (.var E) (.cons .cst .nil)) (wu (x:=37) (ap b E) f (cZ (.cmp (.var E) .cst E) (bR (.var E) (bX ⟨H,a,q⟩))))))))))))))))))))
theorem PA(d:40<=D)(h:aN H W)(e:a_ W)(a:k∈W.keys)(b:lk (W.row k) i=G j)(m:n<100)(q:TQ W H (if(n:U)∈al (W.wm j).t then G (k,i,j,(n:U))else af) Q):
  CL c D 394 [J (W.sa k),aa i 0,aq (37::cE n).toArray 0] H Q:=by
 obtain ⟨o,l⟩:=h.sess k a;obtain ⟨_,g,f⟩:=e.rin k a _ (gi b);exact L7 (ap d E) (bV (a7 (.cons (.var E) (.cons (.idx (.att (.var E) (e4 l)) (.var E) (lU (h.wds k a) b)) .nil)) (Pz (eM d E) h g f m (b5 (hu (.cmp (.var E) .cst E) (a7 (.cons (.var E) (.cons (.var E) (.cons (.var E) .nil))) (ql (eM d E) h e a b q)))))))
noncomputable def mZ(W:Wd)(k n p:U):aj (U×U×U×U):=match eT W k (G n)with
 |some i=>if p∈al (W.wm n).t then G (k,i,n,p)else af
 |none=>af
noncomputable def i_(k n p:ag):a9 aP:=((36::cE k)++58::((64::cE n)++46::(37::cE p))).toArray
theorem CZ{k n p:ag}(d:k<100)(c:n<100)(b:p<100):((36::cE k)++58::((64::cE n)++46::(37::cE p))).length<=50:=by rw [b3,fu (a:=58),b3,fu (a:=46)];exact ar (nr (df (fG d)) (df (nr (df (fG c)) (df (df (fG b)))))) (by decide)
theorem PB{k n p:ag}(s:60<=D)(h:aN H W)(m:a_ W)(a:(k:U)∈W.keys)(l:k<100)(r:n<100)(j:p<100)(q:TQ W H (mZ W k n p) Q):CL c D 441 [aq (i_ k n p) 0,J W.asv,cv] H Q:=by
 have g:58<=D-2:=cj s;refine Md (ap s E) (vi (a7 (.cons (.var E) .nil) (Pp (ap g E) (λz=>(bQ.mp z).elim (by decide) (sN l (by decide))) (λz=>(bQ.mp z).elim (by decide) (sN j (by decide))) (ar (CZ l r j) (by decide)) λd x=>vj (aF _ _ _) E (dO (dO (dO (f1 ?_)))))))
 have f:=(aW.refl H).alloc x (o:=bm [aq (36::cE k).toArray 0,aq (64::cE n).toArray 0,aq (37::cE p).toArray 0]);show SS _ _ _ _ (H.set d (bm [aq (36::cE k).toArray 0,aq (64::cE n).toArray 0,aq (37::cE p).toArray 0])) _;revert f;generalize H.set d _=A;intro f;have e:=h.ext f;have q:=q.ext f;obtain ⟨y,w⟩:=e.sess _ a;refine b7 (.and_f (.cmp (.var E) .cst E)) (bV (a7 (.cons (.ite_f (.cmp (.var E) .cst E) (.var E)) (.cons (.var E) (.cons (.var E) .nil))) (Px (ap g E) e a l (b7 (.cmp (.var E) .cst E) (d4 (.and_f (.cmp (.var E) .cst (aA G ow))) (bV (hu (.var E) (a7 (.cons (.var E) (.cons (.var E) .nil)) (Py (ap g E) e m a r ?_)))))))));unfold mZ at q;revert q;cases v:eT W k (G (n:U))with
 |none=>exact λq=>cZ (.or_t (.cmp (.var E) .cst E)) (bR .cst (bX q.none))
 |some i=>intro q;obtain ⟨u,t⟩:=sM v;exact b7 (.or_f (.cmp (.var E) .cst E) (.or_f (.cmp (.var E) (.att (.var E) (e4 w)) ((vY (e.wds _ a) i).trans (aA (λb=>G (!b)) (dE.mpr u)))) .or_n)) (b5 (hu (.cmp (.var E) .cst E) (a7 (.cons (.var E) (.cons (.var E) (.cons (.var E) .nil))) (PA (ap g E) e m a t j q))))
theorem PC{b:aK}(e:70<=D)(h:aN H W)(m:a_ W)(q:∀d u a,aW H a->a d=G (bm [az true,u])->i8 W a u (qp W)->Q (J d) a):CL c D 420 [aq (if b then #[126]else #[123,109,97,114,107,101,100,125]) 0,J W.asv,cv] H Q:=by
 have k:∀(i:a9 aP) f,aW H f->n0 c (D-2) [aH (dz [(ai (az true)),(aB 45 413 [(O "server")])])] [] [("text",aq i 0),("server",J W.asv),("current",cv)] (NX c (D-2) (rT.drop 3) (RK Q)) true f:=λi f g=>gI (b5 (mG (bs .cst (bN (a7 (.cons (.var E) .nil) (Pw (eM e E) (h.ext g) m λu o l t=>cK (bU ⟨aS E,λn j=>bX (q n u _ ((g.trans l).alloc j) (aF _ _ _) (t.sub j))⟩)))))));cases b with
 |true=>exact rU (ap e E) (sO E E E E E (k _))
 |false=>exact rU (ap e E) (sO E E E E E (k _))
theorem PD{l:L aP}(h:10<=D)(e:l.length<=900)(q:∀d a,aW H a->a d=G (bm [az false,ah])->Q (J d) a):CL c D 420 [aq (36::l).toArray 0,J W.asv,cv] H Q:=by exact rU (ap h E) (sO ow (hD (by decide)) (hD (by decide)) (hD (by decide)) (hD (by decide)) λk b=>d5 (a5 (bb (dt (u7 (ec (a4 (.head1 (.var E) e) (en (fL (.cons .cst (.cons .cst .nil)) (aS E) λj g=>ep (qn (aF _ _ _) _ E E) (Pn (d5 (a5 (bb (b5 (fL (.cons .cst (.cons .cst .nil)) (aS E) λi f=>q i _ ((b.alloc g).alloc f) (aF _ _ _))))))))))))))))
end
noncomputable def a0{α:Type}(f:U->α)(k:U)(v:α):U->α:=λx=>if x=k then v else f x
theorem cn{α:Type}(f:U->α)(k:U)(v:α):a0 f k v k=v:=aJ E
theorem cy{α:Type}(f:U->α){k x:U}(v:α)(h:x≠k):a0 f k v x=f x:=aG h
noncomputable def fH:MO->ag
 |ak _=>0
 |eg _=>1
 |bm _=>2
 |aO _=>3
 |eF _=>4
 | .db _=>5
 |bZ C _=>C+10
 |_=>6
section
variable{H H1:Hp}{a d:ae}{mo o o':MO}{X:ae->Prop}{W:Wd}{k:U}
theorem ct(h:H a=G mo)(b:H d=G o)(e:dn (fH mo) (fH o)=false):a≠d:=λz=>by rw [z,b]at h;rw [bc h,ag.beq_refl]at e;cases e
theorem iw(b:H d=G o)(h:H a=G mo)(e:dn (fH mo) (fH o)=false):(H.set d o') a=G mo:=(dT _ _ (ct h b e)).trans h
theorem hc(h:H a=G mo)(e:a≠d):(H.set d o') a=G mo:=(dT _ _ e).trans h
theorem bP.ne{pA:U->ae}{w:WM}(h:bP H pA a w)(b:H d=G o)(e:dn 671 (fH o)=false):a≠d:=let ⟨_,_,g,_⟩:=h.o;ct g b e
theorem mW.ro{m:aj (U×U×U)}{v:ab}(h:mW H m v)(x:bp X H H1):mW H1 m v:=h.keep λa b e=>x.ro e E
theorem aN.winsD(h:aN H W)(x:bp (λz=>z=d) H H1)(b:H d=G o)(e:dn 671 (fH o)=false)(j:ag)(a:j<W.nw):bP H1 W.pA (W.wA j) (W.wm j)/\(W.wm j).n=j:=⟨(h.wins j a).1.extX x ((h.wins j a).1.ne b e),(h.wins j a).2⟩
theorem aN.sessD(h:aN H W)(c:H d=G o)(e:dn 800 (fH o)=false)(k:U)(b:k∈W.keys):∃a,(H.set d o') (W.sa k)=G (c2 k a (W.wd k) (pv (W.lst k)) (pv (G (W.cur k)))):=let ⟨a,g⟩:=h.sess k b;⟨a,iw c g e⟩
noncomputable def Wd.ws(W:Wd)(wm':U->WM):Wd:={W with wm:=wm'}
theorem aN.extWin{wm':U->WM}(h:aN H W)(x:bp X H H1)(o:∀z,X z->∃n c p a l t,H z=G (cQ n c p a l t))(d:∀j:ag,j<W.nw->bP H1 W.pA (W.wA j) (wm' j)/\(wm' j).n=j):aN H1 (W.ws wm'):=
 have K:∀{a mo},H a=G mo->dn (fH mo) 671=false->iu mo=false->H1 a=G mo:=λe f g=>x.keep (λz=>let ⟨_,_,_,_,_,_,q⟩:=o _ z;ct e q f E) e g
 ⟨K h.world E E,K h.ses E E,K h.pla E E,K h.hom E E,K h.win E E,K h.pan E E,K h.srv E E,h.mkt.ro x,K h.dek E E,λk b=>let ⟨c,e⟩:=h.sess k b;⟨c,K e E E⟩,λk b=>K (h.wds k b) E E,λk b=>K (h.bks k b) E E,d,λi m=>x.pane (h.pans i m),x.ro h.emp E,x.ro h.words E,x.ro h.sides E,x.ro h.corns E⟩
noncomputable def Wd.dk(W:Wd)(a:L U):Wd:={W with deck:=a}
theorem aN.deckX{c:L U}(h:aN H W)(d:cd W.toBase)(x:bp (λz=>z=W.adk) H H1)(e:H1 W.adk=G (ak (iL c))):aN H1 (W.dk c):=
 have D:∀{a mo},H a=G mo->dn (fH mo) 0=false->iu mo=false->H1 a=G mo:=λg t l=>x.keep (ct g h.dek t) g l
 ⟨D h.world E E,D h.ses E E,D h.pla E E,D h.hom E E,x.keep d.l2 h.win E,x.keep d.l3 h.pan E,D h.srv E E,h.mkt.ro x,e,λk b=>let ⟨f,g⟩:=h.sess k b;⟨f,D g E E⟩,λk b=>D (h.wds k b) E E,λk b=>D (h.bks k b) E E,h.winsD x h.dek E,λi j=>x.pane (h.pans i j),x.ro h.emp E,x.ro h.words E,x.ro h.sides E,x.ro h.corns E⟩
theorem cd.ase(b:cd W.toBase){a:ae}(h:a∈W.apl::W.aho::(W.keys.map W.wd++W.keys.map W.bk)):W.ase≠a:=λz=>(cS.mp b.di).1 (z▸h)
theorem cd.apl(b:cd W.toBase){a:ae}(h:a∈W.aho::(W.keys.map W.wd++W.keys.map W.bk)):W.apl≠a:=λz=>(cS.mp (cS.mp b.di).2).1 (z▸h)
theorem cd.aho(b:cd W.toBase){a:ae}(h:a∈W.keys.map W.wd++W.keys.map W.bk):W.aho≠a:=λz=>(cS.mp (cS.mp (cS.mp b.di).2).2).1 (z▸h)
theorem cd.tail(a:cd W.toBase):(W.keys.map W.wd++W.keys.map W.bk).Nodup:=(cS.mp (cS.mp (cS.mp a.di).2).2).2
theorem qq(a:k∈W.keys):W.wd k∈W.keys.map W.wd++W.keys.map W.bk:=cX _ (cA.mpr ⟨k,a,E⟩)
theorem lZ(a:k∈W.keys):W.bk k∈W.keys.map W.wd++W.keys.map W.bk:=cO _ (cA.mpr ⟨k,a,E⟩)
theorem wv{f:U->ae}:∀{l:L U},(l.map f).Nodup->∀{a b:U},a∈l->b∈l->f a=f b->a=b
 |x::r,d,a,b,i,h,e=>
  have d:=cS.mp d
  (bQ.mp i).elim (λg=>(bQ.mp h).elim (λc=>g.trans c.symm) λc=>bW (cA.mpr ⟨b,c,e.symm.trans (aA f g)⟩) d.1) λg=>(bQ.mp h).elim (λc=>bW (cA.mpr ⟨a,g,e.trans (aA f c)⟩) d.1) λc=>wv d.2 g c e
theorem cd.wd_inj(c:cd W.toBase){l:U}(b:k∈W.keys)(a:l∈W.keys)(e:W.wd k=W.wd l):k=l:=wv (hM.mp c.tail).1 b a e
theorem cd.bk_inj(c:cd W.toBase){l:U}(b:k∈W.keys)(a:l∈W.keys)(e:W.bk k=W.bk l):k=l:=wv (hM.mp c.tail).2.1 b a e
theorem cd.wd_bk(c:cd W.toBase){l:U}(b:k∈W.keys)(a:l∈W.keys):W.wd k≠W.bk l:=(hM.mp c.tail).2.2 _ (cA.mpr ⟨k,b,E⟩) _ (cA.mpr ⟨l,a,E⟩)
noncomputable def Wd.se(W:Wd)(k:U)(a:L (U×U))(c':U)(b:aj U):Wd:={W with row:=a0 W.row k a,brow:=a0 W.brow k a,cur:=a0 W.cur k c',lst:=a0 W.lst k b}
theorem aN.extSes{g:L (U×U)}{c':U}{r:aj U}(h:aN H W)(f:cd W.toBase)(b:k∈W.keys)(x:bp (λz=>z=W.sa k\/z=W.wd k\/z=W.bk k) H H1)
  (F:∃o,H1 (W.sa k)=G (c2 k o (W.wd k) (pv r) (pv (G c')))) (C:H1 (W.wd k)=G (aO (dU W.wA g))) (B:H1 (W.bk k)=G (aO (cM g))):aN H1 (W.se k g c' r):=by
 obtain ⟨o,t⟩:=h.sess k b;have s:=h.wds k b;have u:=h.bks k b;have D:∀{a:ae} {mo:MO},H a=G mo->iu mo=false->dn (fH mo) 800=false->dn (fH mo) 3=false->H1 a=G mo:=λe y q p=>x.keep (λz=>z.elim (ct e t q) λz=>z.elim (ct e s p) (ct e u p)) e y;have n:∀{a:ae} {v:L (U×ab)},H a=G (aO v)->a≠W.wd k->a≠W.bk k->H1 a=G (aO v):=λe q p=>x.keep (λz=>z.elim (ct e t E) λz=>z.elim q p) e E;refine⟨D h.world E E E,n h.ses (f.ase (dh _ (dh _ (qq b)))) (f.ase (dh _ (dh _ (lZ b)))),n h.pla (f.apl (dh _ (qq b))) (f.apl (dh _ (lZ b))),n h.hom (f.aho (qq b)) (f.aho (lZ b)),D h.win E E E,D h.pan E E E,D h.srv E E E,h.mkt.ro x,D h.dek E E E,λm d=>?_,λm d=>?_,λm d=>?_,λj l=>⟨(h.wins j l).1.extX x λz=>z.elim ((h.wins j l).1.ne t E) λz=>z.elim ((h.wins j l).1.ne s E) ((h.wins j l).1.ne u E),(h.wins j l).2⟩,λi A=>x.pane (h.pans i A),x.ro h.emp E,x.ro h.words E,x.ro h.sides E,x.ro h.corns E⟩
 ·show∃o,H1 (W.sa m)=G (c2 m o (W.wd m) (pv (a0 W.lst k r m)) (pv (G (a0 W.cur k c' m))))
  by_cases c:m=k
  ·rw [c,cn,cn];exact F
  ·rw [cy _ _ c,cy _ _ c]
   obtain ⟨w,e⟩:=h.sess m d;exact⟨w,x.keep (λz=>z.elim (λz=>c (h.sa_inj d b z)) λz=>z.elim (ct e s E) (ct e u E)) e E⟩
 ·show H1 (W.wd m)=G (aO (dU W.wA (a0 W.row k g m)))
  by_cases c:m=k
  ·rw [c,cn];exact C
  ·rw [cy _ _ c];exact n (h.wds m d) (λz=>c (f.wd_inj d b z)) (f.wd_bk d b)
 ·show H1 (W.bk m)=G (aO (cM (a0 W.brow k g m)))
  by_cases c:m=k
  ·rw [c,cn];exact B
  ·rw [cy _ _ c];exact n (h.bks m d) (f.wd_bk b d).symm (λz=>c (f.bk_inj d b z))
noncomputable def Wd.bo(W:Wd)(k:U)(a:L (U×U)):Wd:={W with brow:=a0 W.brow k a}
theorem aN.setBook{c:L (U×U)}(h:aN H W)(e:cd W.toBase)(b:k∈W.keys):aN (H.set (W.bk k) (aO (cM c))) (W.bo k c):=by
 have f:=h.bks k b;have x:bp (λz=>z=W.bk k) H (H.set (W.bk k) (aO (cM c))):= .set f E E;have D {a mo}:=iw (a:=a) (mo:=mo) (o':=aO (cM c)) f;refine⟨D h.world E,hc h.ses (e.ase (dh _ (dh _ (lZ b)))),hc h.pla (e.apl (dh _ (lZ b))),hc h.hom (e.aho (lZ b)),D h.win E,D h.pan E,D h.srv E,h.mkt.ro x,D h.dek E,h.sessD f E,λm d=>hc (h.wds m d) (e.wd_bk d b),λm d=>?_,h.winsD x f E,λi j=>x.pane (h.pans i j),x.ro h.emp E,x.ro h.words E,x.ro h.sides E,x.ro h.corns E⟩;show(H.set (W.bk k) _) (W.bk m)=G (aO (cM (a0 W.brow k c m)))
 by_cases g:m=k
 ·rw [g,cn];exact aF _ _ _
 ·rw [cy _ _ g];exact hc (h.bks m d) λz=>g (e.bk_inj d b z)
noncomputable def Wd.ho(W:Wd)(hs:L (U×U)):Wd:={W with homes:=hs}
theorem aN.setHomes(h:aN H W)(c:cd W.toBase)(hs:L (U×U)):aN (H.set W.aho (aO (cM hs))) (W.ho hs):=
 have x:bp (λz=>z=W.aho) H (H.set W.aho (aO (cM hs))):= .set h.hom E E;have D {a mo}:=iw (a:=a) (mo:=mo) (o':=aO (cM hs)) h.hom
 ⟨D h.world E,hc h.ses (c.ase (dh _ (d_ _))),hc h.pla (c.apl (d_ _)),aF _ _ _,D h.win E,D h.pan E,D h.srv E,h.mkt.ro x,D h.dek E,h.sessD h.hom E,λk b=>hc (h.wds k b) (c.aho (qq b)).symm,λk b=>hc (h.bks k b) (c.aho (lZ b)).symm,h.winsD x h.hom E,λi d=>x.pane (h.pans i d),x.ro h.emp E,x.ro h.words E,x.ro h.sides E,x.ro h.corns E⟩
noncomputable def Wd.mk_(W:Wd)(m:aj (U×U×U))(v:ab):Wd:={W with mrk:=m,mkv:=v}
theorem aN.setMark{m:aj (U×U×U)}{v:ab}(h:aN H W)(c:mW H m v):aN (H.set W.asv (lV (J W.ase) v)) (W.mk_ m v):=
 have x:bp (λz=>z=W.asv) H (H.set W.asv (lV (J W.ase) v)):= .set h.srv E E;have D {a mo}:=iw (a:=a) (mo:=mo) (o':=lV (J W.ase) v) h.srv
 ⟨D h.world E,D h.ses E,D h.pla E,D h.hom E,D h.win E,D h.pan E,aF _ _ _,c.ro x,D h.dek E,h.sessD h.srv E,λk b=>D (h.wds k b) E,λk b=>D (h.bks k b) E,h.winsD x h.srv E,λi d=>x.pane (h.pans i d),x.ro h.emp E,x.ro h.words E,x.ro h.sides E,x.ro h.corns E⟩
theorem m0{i n:ag}(h:i<n):(i:U)≠n:=λe=>qO n (ml.mp e▸h)
theorem sQ{i n:ag}(h:i<n+1)(e:¬(i:U)=n):i<n:=EM (qQ h) λz=>e (aA _ z)
noncomputable def Wd.wi(W:Wd)(a:ae)(w:WM):Wd:={W with nw:=W.nw+1,wA:=a0 W.wA W.nw a,wm:=a0 W.wm W.nw w}
theorem aN.addWin{w:WM}(h:aN H W)(g:cd W.toBase)(f:bP H W.pA a w)(o:w.n=W.nw)(l:∀k∈W.keys,∀p∈W.row k,p.2≠W.nw):aN (H.set W.awi (ak (cP W.wA W.nw++[J a]))) (W.wi a w):=by
 have x:bp (λz=>z=W.awi) H (H.set W.awi (ak (cP W.wA W.nw++[J a]))):= .set h.win E E;have D {s mo}:=iw (a:=s) (mo:=mo) (o':=ak (cP W.wA W.nw++[J a])) h.win;have r:cP W.wA W.nw=cP (a0 W.wA W.nw a) W.nw:=qj λi d=>(cy _ _ (m0 d)).symm;refine⟨D h.world E,D h.ses E,D h.pla E,D h.hom E,?_,hc h.pan g.l1.symm,D h.srv E,h.mkt.ro x,hc h.dek g.l2.symm,h.sessD h.win E,λk b=>?_,λk b=>D (h.bks k b) E,λj q=>?_,λi d=>x.pane (h.pans i d),x.ro h.emp E,x.ro h.words E,x.ro h.sides E,x.ro h.corns E⟩
 ·show(H.set W.awi _) W.awi=G (ak (cP (a0 W.wA W.nw a) (W.nw+1)))
  rw [aF,oq,<-r,cn]
 ·show(_:aj MO)=G (aO (dU (a0 W.wA W.nw a) (W.row k)))
  have e:dU (a0 W.wA W.nw a) (W.row k)=dU W.wA (W.row k):=jq λp m=>by rw [cy _ _ (l k b p m)]
  rw [e];exact D (h.wds k b) E
 ·show bP _ W.pA (a0 W.wA W.nw a j) (a0 W.wm W.nw w j)/\(a0 W.wm W.nw w j).n=j
  by_cases c:(j:U)=W.nw
  ·rw [c,cn,cn]
   exact⟨f.extX x (f.ne h.win E),o⟩
  ·rw [cy _ _ c,cy _ _ c]
   exact h.winsD x h.win E j (sQ q c)
theorem bP.congr{pA b:U->ae}{w:WM}(h:bP H pA a w)(e:∀n∈al w.t,b n=pA n):bP H b a w:=by
 obtain ⟨d,i,g,f⟩:=h.o;have k:dQ b (al w.t)=dQ pA (al w.t):=jq λn c=>by rw [e n c]
 have m:jN b w.last=jN pA w.last:=by
  cases j:w.last with
  |none=>rfl
  |some l=>exact aA J (e l (h.fit.la l j))
 exact⟨⟨d,i,by rw [e _ h.fit.ac,m];exact g,by rw [k];exact f⟩,h.tr,λn c=>by rw [e n c];exact h.pn n c,h.fit⟩
noncomputable def Wd.pa(W:Wd)(a:ae):Wd:={W with np:=W.np+1,pA:=a0 W.pA W.np a}
theorem aN.addPane(h:aN H W)(f:cd W.toBase)(m:dc H a W.np)(l:∀j:ag,j<W.nw->∀n∈al (W.wm j).t,n≠W.np):aN (H.set W.apa (ak (cP W.pA W.np++[J a]))) (W.pa a):=by
 have x:bp (λz=>z=W.apa) H (H.set W.apa (ak (cP W.pA W.np++[J a]))):= .set h.pan E E;have D {p mo}:=iw (a:=p) (mo:=mo) (o':=ak (cP W.pA W.np++[J a])) h.pan;have o:cP W.pA W.np=cP (a0 W.pA W.np a) W.np:=qj λi e=>(cy _ _ (m0 e)).symm;refine⟨D h.world E,D h.ses E,D h.pla E,D h.hom E,hc h.win f.l1,?_,D h.srv E,h.mkt.ro x,hc h.dek f.l3.symm,h.sessD h.pan E,λk b=>D (h.wds k b) E,λk b=>D (h.bks k b) E,λj c=>⟨(h.winsD x h.pan E j c).1.congr λn g=>cy _ _ (l j c n g),(h.wins j c).2⟩,λi e=>?_,x.ro h.emp E,x.ro h.words E,x.ro h.sides E,x.ro h.corns E⟩
 ·show(H.set W.apa _) W.apa=G (ak (cP (a0 W.pA W.np a) (W.np+1)))
  rw [aF,oq,<-o,cn]
 ·show dc _ (a0 W.pA W.np a i) i
  by_cases d:(i:U)=W.np
  ·rw [d,cn];exact x.pane m
  ·rw [cy _ _ d];exact x.pane (h.pans i (sQ e d))
end
theorem C0{a b:U}{t u:bv}(h:b≠0):hp .Mod (aa a t) (aa b u)=G (aa (a.fmod b) 0):=aJ h
theorem PE{a b:U}{t u:bv}(h:b≠0/\b.natAbs<1073741824):hp qI (aa a t) (aa b u)=G (aa (a.fdiv b) 0):=aJ h
theorem PF(x:U){m:ag}(h:0<m):∃q:ag,x.fmod m=q/\q<m:=by have a:(0:U)<m:=eH.mpr h;obtain ⟨q,e⟩:=tJ (U.emod_nonneg x (U.ne_of_gt a));have:=U.emod_lt_of_pos x a;rw [U.fmod_eq_emod_of_nonneg _ (U.le_of_lt a)];exact⟨q,e,eH.mp (e▸this)⟩
noncomputable def fn(W:Wd)(j:U):L U:=(ba (aU W.homes)).filter λn=>decide (lk W.homes n=G j)
section
variable{c:Cx}{D:ag}{H:Hp}{W:Wd}{Q:KV}{a l:ae}{k j n:U}{row:L (U×U)}
theorem C1{m:ag}{n:L U}(v:2<=D)(h:H l=G (ak (iL n)))(f:0<m)(u:m<1000)(q:∀(r:ag) b g,r<m->bp (λz=>z=l) H g->g l=G (ak (iL b))->Q (aa (r:U) 0) g):CL c D 817 [J l,aa (m:U) 0] H Q:=by
 have i:(m:U)≠0:=λe=>bW (ml.mp e) (m4 f);refine M6 v (dt (ec (a4 (.var E) (en (ed .nil (eh _) λd j=>ep (qg (bH (bK j h)) (aF _ _ _)) ?_)))));have y:=(aW.refl H).alloc j (o:=ak []);revert y;generalize H.set d _=p;intro y;have a:=y.keep h E;cases n with
 |nil=>exact gI (bR .cst (bX (q 0 _ p f (.of_ext y) a)))
 |cons x r=>obtain ⟨s,w,t⟩:=PF x f;have k:∀b,SS c (D-2) (Bj.drop 3) [("deck",J l),("many",aa (m:U) 0),("here",aa x 0)] (p.set l (ak (iL b))) (RK Q):=λb=>bR (.bin (.var E) (.var E) ((C0 i).trans (aA (λz=>G (aa z 0)) w))) (q s b _ t ((bp.of_ext y).trans (.set a E E)) (aF _ _ _));exact d5 (a5 (bb (d4 (.idx (.var E) .cst ((e3 a).trans (mO ..))) (eO (.cmp (.var E) (.var E) E) (λ_=>dN (ge (.var E) (jH a) (.cons .cst .nil) (Ba a (xI 0) E (a5 (bb (k r)))))) λ_=>kg (.bin (.var E) (.var E) (PE ⟨i,fS u (by decide)⟩)) (.var E) .cst (A7 a (xI 0) (eH.mpr (gE _)) (a5 (bb (k (x.fdiv m::r)))))))))
theorem l0{m:ag}(i:2<=D)(h:aN H W)(j:cd W.toBase)(g:0<m)(f:m<1000)(q:∀(r:ag) b a,r<m->bp (λz=>z=W.adk) H a->aN a (W.dk b)->Q (aa (r:U) 0) a):CL c D 817 [J W.adk,aa (m:U) 0] H Q:=C1 i h.dek g f λr b a d x e=>q r b a d x (h.deckX j x e)
theorem ox{vs:L ab}(i:10<=D)(h:aN H W)(n:cd W.toBase)(a:H l=G (ak vs)\/H l=G (bm vs))(k:l≠W.adk)(m:vs≠ [])(f:vs.length<1000)(q:∀v b d,v∈vs->bp (λz=>z=W.adk) H d->aN d (W.dk b)->Q v d):CL c D 824 [J W.adk,J l] H Q:=by
 have j:hY H (J l)=G vs.length:=a.elim mN λa=>by exact(rm a).trans (aJ (ar (hO f) (by decide)))
 refine M8 (ap i E) (b5 (pD (a4 (.var E) (rP (a7 (.cons (.var E) (.cons (.len (.var E) j) .nil)) (l0 (eM i E) h n (L.length_pos_iff.mpr m) f λr b o g x w=>rQ (v:=vs[r]) ?_ (q _ b o (ED g) x w)))))));have e:fx vs (r:U)=G vs[r]:=n_ (iD g);rcases a with a|a
 ·exact(e3 (x.keep k a E)).trans e
 ·have:=x.ro a E
  exact(aA (lj · (r:U)) this).trans e
theorem qr:n∈fn W j<->lk W.homes n=G j:=by unfold fn;rw [ie,tB,eA];exact⟨λh=>h.2,λh=>⟨dE.mp ((lT n W.homes).symm.trans (by rw [h];rfl)),h⟩⟩
theorem qs(h:H a=G (aO (cM row)))(b:lk row k=G j):c6 H (J a) (aa k 0)=G (aa j 0):=(oj h k).trans (by rw [kx,b];rfl)
theorem sR(i j:U):decide (G i=G j)=(i==j):=oN.mpr (by rw [EJ,c4];exact⟨bc,aA G⟩)
theorem sS(s:2<=D)(h:aN H W)(g:W.homes.length<60)(q:∀d,H d=af->Q (J d) (H.set d (ak (iL (fn W j))))):CL c D 834 [J W.aw,aa j 0] H Q:=by
 refine vw (Nb s (b5 (pG (ex (.cons (.idx (.var E) .cst h.i_hom) .nil) (h4 h.hom (by rw [hC];exact fS g (by decide)) λd r=>?_))))) q
 rw [ou];have x:eS H (H.set d (ak (iL (ba (aU W.homes))))):=(eS.refl H).alloc r;have l:=bH (aF H d (ak (iL (ba (aU W.homes)))));revert x l;generalize H.set d _=t;intro x l;refine pQ (xs:=ba (aU W.homes)) (f:=λi=>aa i 0) (λn=>decide (lk W.homes n=G j)) (dm l) l (by rw [gL,kw];exact ar (hO g) (by decide)) (λn p b e a=>?_) (λn _ _ b e a=> .var aY) λb a=>⟨b,E,x.fresh a,x.set _ _⟩
 obtain ⟨i,k⟩:=iv (eA.mp p);have m:=h.ext (.of_sub (x.alloc a (o:=ak e)));rw [k,sR];exact .cmp (.idx (.idx (.var E) .cst m.i_hom) (.var E) (qs m.hom k)) (.var E) (fl ..)
end
noncomputable def jR(H:Hp)(v:ab)(o:aj (U×U×U×U)):Prop:=match o with
 |none=>v=ah
 |some (k,i,j,n)=>∃d,v=J d/\H d=G (bm [aa k 0,aa i 0,aa j 0,aa n 0])
noncomputable def DQ(H:Hp)(o:aj (U×U×U×U))(Q:KV):Prop:=∀v a,aW H a->jR a v o->Q v a
theorem jR.ext{H N:Hp}{v:ab}{o:aj (U×U×U×U)}(h:jR H v o)(x:aW H N):jR N v o:=by
 cases o with
 |none=>exact h
 |some p=>obtain ⟨d,b,a⟩:=h;exact⟨d,b,x.keep a E⟩
noncomputable def ja(W:Wd)(j n:U)(home:aj U):aj (U×U×U×U):=(eC W (G j) (fM W home)).map λp=>(p.1,p.2,j,n)
theorem ww{W:Wd}{a:aj U}{h:U}(e:eT W h a=af):∀l:L U,eC W a (l.filter λk=>decide (k≠h))=eC W a l
 |[]=>E
 |k::r=>by
  rw [kZ]
  by_cases b:k=h
  ·rw [b,aG λz:decide (h≠h)=true=>gO z E,ww e r,eC,e]
  ·rw [aJ (cN b),eC,eC,ww e r]
theorem PH{W:Wd}{a:aj U}(h:U)(l:L U):eC W a (h::l.filter λk=>decide (k≠h))=eC W a (h::l):=by
 rw [eC,eC];cases e:eT W h a with
 |none=>exact ww e l
 |some i=>rfl
noncomputable def m1(W:Wd)(n:U)(home:aj U):aj (U×U×U×U):=match lk W.homes n with
 |none=>af
 |some j=>ja W j n home
theorem C2(W:Wd)(n:U)(home:aj U):gN W true n (lk W.homes n) (fM W home)=m1 W n home:=by
 unfold m1;cases lk W.homes n with
 |none=>unfold gN;cases eC W af (fM W home)<;>rfl
 |some j=>show gN W true n (G j) (fM W home)=ja W j n home;unfold gN ja;cases eC W (G j) (fM W home)<;>rfl
theorem PI(W:Wd)(n:U)(home:aj U):gN W false n (G n) (fM W home)=ja W n (W.wm n).act home:=by unfold gN ja;cases eC W (G n) (fM W home)<;>rfl
noncomputable def qt(W:Wd)(k i p:U):aj U->aj (U×U×U×U)
 |none=>af
 |some j=>if lk (W.row k) i=G j then G (k,i,j,p)else ja W j p af
noncomputable def PJ(W:Wd):aj (U×U×U)->aj (U×U×U×U)
 |none=>af
 |some (k,i,p)=>qt W k i p (lk W.homes p)
noncomputable def oy(W:Wd):aj (U×U×U×U):=PJ W W.mrk
theorem PK(W:Wd):qp W=oy W:=by
 unfold qp oy;cases W.mrk with
 |none=>rfl
 |some q=>
  obtain ⟨k,i,p⟩:=q;show sP W k i p (lk (W.row k) i)=qt W k i p (lk W.homes p);have e:=C2 W p af;unfold m1 at e;unfold sP qt;cases c:lk (W.row k) i with
  |none=>
   cases a:lk W.homes p with
   |none=>rw [a]at e;exact e
   |some j=>rw [a]at e;exact e
  |some b=>
   show(if lk W.homes p=G b then _ else gN W true p (lk W.homes p) (fM W af))=_
   rw [e];cases a:lk W.homes p with
   |none=>exact aG nofun
   |some j=>
    by_cases h:j=b
    ·rw [h,aJ E];exact(aJ E).symm
    ·rw [aG λz=>h (bc z)];exact(aG λz=>h (bc z).symm).symm
section
variable{c:Cx}{D:ag}{H H3:Hp}{W:Wd}{Q:KV}{k j n:U}{home:aj U}{d d3:ae}{ks:L U}{hv kv:ab}
theorem C3(S:2<=D)(h:aN H W)(z:a_ W)(p:k∈W.keys)(q:Q (pv (eT W k (G j))) H):CL c D 895 [J W.aw,aa j 0,aa k 0] H Q:=by
 have F:=z.rz p;refine(Np S (d4 (.idx (.idx (.var E) .cst h.i_pla) (.var E) (h.b_at p)) (kh (ex (.cons (.var E) .nil) (h4 (h.bks' z p) (by rw [hC];exact fS F (by decide)) λd R=>?_))))).up
 rw [ou];have x:eS H (H.set d (ak (iL (ba (aU (W.row k)))))):=(eS.refl H).alloc R;have l:=bH (aF H d (ak (iL (ba (aU (W.row k))))));revert x l;generalize H.set d _=w;intro x l;refine pQ (xs:=ba (aU (W.row k))) (f:=λi=>aa i 0) (λi=>decide (lk (W.row k) i=G j)) (dm l) l (by rw [gL,kw];exact ar (hO F) (by decide)) (λi N e C u=>?_) (λn _ _ e C u=> .var aY) λe u=>?_
 ·obtain ⟨m,I⟩:=iv (eA.mp N)
  have T:=h.ext (.of_sub (x.alloc u (o:=ak C)));rw [I,sR];exact .cmp (.idx (.var E) (.var E) (qs (T.bks' z p) I)) (.var E) (fl ..)
 ·show SS c _ _ _ (w.set e (ak (iL (jO W k (G j))))) _
  have y:eS H (w.set e (ak (iL (jO W k (G j))))):=x.alloc u;have t:=aF w e (ak (iL (jO W k (G j))));unfold eT lX at q;revert y t q;generalize w.set e _=Y;generalize jO W k (G j)=K;intro q y t;refine dt (ec (a4 (.var E) (en (ed .nil (eh _) λV A=>ep (qg (bH (bK A t)) (aF _ _ _)) ?_))));have g:=y.alloc (o:=ak []) A;have s:=bK (o:=ak []) A t;revert g s;generalize Y.set V _=X;intro g s;have B:=h.ext (.of_sub g);obtain ⟨Z,M⟩:=B.sess k p;cases K with
  |nil=>exact gI (bR .cst (bX ⟨H,g,q⟩))
  |cons a r=>
   refine d5 (a5 (bb (d4 (.att (.idx (.idx (.var E) .cst B.i_ses) (.var E) (B.s_at p)) (gy M)) ?_)));have P:=PT.cmp (c:=c) (D:=D-2) (op:=dF) (H:=X) (ρ:=aZ "shown" (pv (G (W.cur k))) [("world",J W.aw),("number",aa j 0),("key",aa k 0),("row",J (W.bk k)),("spots",J e)]) (a:=O "shown") (b:=O "spots") (.var E) (.var E) (p_ (bH s) _ _);cases v:(a::r).contains (W.cur k)with
   |true=>rw [v]at P;rw [v,aJ E]at q;exact bR (.ite_t P (.var E)) ⟨H,g,q⟩
   |false=>rw [v]at P;rw [v,aG eX]at q;exact bR (.ite_f P (.idx (.var E) .cst ((e3 s).trans (mO ..)))) ⟨H,g,q⟩
theorem PL(P:8<=D)(h:aN H W)(x:a_ W)(w:aW H H3)(A:H3 d3=G (ak (iL ks)))(M:∀k∈ks,k∈W.keys)(q:DQ H ((eC W (G j) ks).map λp=>(p.1,p.2,j,n)) Q):
  g2 c D "key" [aD (aT "index") (aB 69 895 [(O "world"),(O "number"),(O "key")]),aQ (ax dq (O "index") (ai ah)) [aH (dz [(O "key"),(O "index"),(O "number"),(O "pane")])] []] (λH=>bD H d3=G (iL ks)) (NX c D [aH (ai ah)] (RK Q)) (iL ks) [("world",J W.aw),("number",aa j 0),("pane",aa n 0),("home",hv),("keys",kv)] H3:=by
 refine h5 (xs:=ks) (g:=λi=>aa i 0) (λt ρ u=>ρ.lookup "world"=G (J W.aw)/\ρ.lookup "number"=G (aa j 0)/\ρ.lookup "pane"=G (aa n 0)/\aW H u/\u d3=G (ak (iL ks))/\∀k∈t,eT W k (G j)=af) (λt k T ρ S K s I C B=>?_) (λρ S I=>bb (bR .cst (q _ _ I.2.2.2.1 ?_))) ⟨E,E,E,w,A,λ_ z=>nomatch z⟩
 ·obtain ⟨d,a,b,f,l,r⟩:=I
  have z {y:am} (e:y≠ "key"):=bf (v:=aa k 0) (ρ:=ρ) e;have d:=(z (by decide)).trans d
  have a:=(z (by decide)).trans a
  have b:=(z (by decide)).trans b
  refine bV (a7 (.cons (.var d) (.cons (.var a) (.cons (.var aY) .nil))) (C3 (ap P E) (h.ext f) x (M k (s▸cO _ bn)) ?_));show SS c D _ (aZ "index" (pv (eT W k (G j))) _) _ _;have z {y:am} {v:ab} (e:y≠ "index"):=bf (v:=v) (ρ:=aZ "key" (aa k 0) ρ) e;cases o:eT W k (G j)with
  |none=>exact b7 (.cmp (.var aY) .cst E) (a5 (C _ _ (bH l) ⟨(z (by decide)).trans d,(z (by decide)).trans a,(z (by decide)).trans b,f,l,λm F=>(dG.mp F).elim (r m) λe=>de.mp e▸o⟩))
  |some i=>
   refine cZ (.cmp (.var aY) .cst E) (b5 (fL (.cons (.var ((z (by decide)).trans aY)) (.cons (.var aY) (.cons (.var ((z (by decide)).trans a)) (.cons (.var ((z (by decide)).trans b)) .nil)))) (aS E) λR N=>bX (B _ _ _ (bX (q _ _ (f.alloc N) ?_)))))
   have e:(eC W (G j) ks).map (λp=>(p.1,p.2,j,n))=G (k,i,j,n):=by rw [s,qm r,eC,o];rfl
   rw [e];exact⟨R,E,aF _ _ _⟩
 ·have e:eC W (G j) ks=af:=by rw [<-hL ks,qm I.2.2.2.2.2];rfl
  rw [e];rfl
theorem wy(u:10<=D)(h:aN H W)(g:a_ W)(B:∀k,home=G k->k∈W.keys)(q:DQ H (ja W j n home) Q):CL c D 902 [J W.aw,aa j 0,aa n 0,pv home] H Q:=by
 have y:(ba W.keys).length<=3:=(gL W.keys).symm▸g.kl.1;have w:∀m,m<=1->m+(iL (ba W.keys)).length<=bL:=λm h=>ar (nr h (ar (cR (gU _)) y)) (by decide)
 refine Nr (ap u E) (bV (ex (.cons (.idx (.var E) .cst h.i_ses) .nil) (h4 h.ses (by rw [ot];exact fq g.kl.1 (by decide)) λd F=>?_)))
 rw [sK];have x:=(aW.refl H).alloc F (o:=ak (iL (ba W.keys)));have l:=aF H d (ak (iL (ba W.keys)));show SS c _ _ _ (H.set d (ak (iL (ba W.keys)))) _;revert x l;generalize H.set d _=i;intro x l;have v:∀(a:L U),a.length<=1->(∀k∈a++ba W.keys,k∈W.keys)->DQ H ((eC W (G j) (a++ba W.keys)).map λp=>(p.1,p.2,j,n)) Q->∀f,i f=af->u0 c (D-2) cq (O "keys") [("world",J W.aw),("number",aa j 0),("pane",aa n 0),("home",pv home),("keys",J d)] (vf c (D-2) "key" [aD (aT "index") (aB 69 895 [(O "world"),(O "number"),(O "key")]),aQ (ax dq (O "index") (ai ah)) [aH (dz [(O "key"),(O "index"),(O "number"),(O "pane")])] []] [aH (ai ah)] [("world",J W.aw),("number",aa j 0),("pane",aa n 0),("home",pv home),("keys",J d)] (RK Q)) (J f) (i.set f (ak (iL a))):=λa A z q f t=>by refine fY (a4 (.var E) (sc (bH (aF _ _ _)) (bH (bK t l)) (w _ (ar (cR (gU a)) A)) λd3 C=>?_));rw [<-z6];have r:=aF (i.set f (ak (iL a))) d3 (ak (iL (a++ba W.keys)));exact hx (dm (bH r)) (PL (eM u E) h g ((x.alloc t).alloc C) r z q)
 cases home with
 |none=>exact g3 (fD (h2 (.cmp (.var E) .cst E) (ed .nil (eh _) (v [] (eh _) (λk b=>eA.mp b) q))))
 |some s=>
  have q:DQ H ((eC W (G j) (s::ba W.keys)).map λp=>(p.1,p.2,j,n)) Q:=by rw [<-PH];exact q
  exact g3 (fD (hu (.cmp (.var E) .cst E) (ed (.cons (.var E) .nil) (aS E) (v [s] (cw 1) (λk b=>(bQ.mp b).elim (λe=>e▸B _ E) λb=>eA.mp b) q))))
theorem PM(o:20<=D)(h:aN H W)(g:a_ W)(q:DQ H (oy W) Q):CL c D 916 [J W.aw] H Q:=by
 refine Nt (ap o E) ?_;have A:=CD h.srv;have M:=h.mkt;unfold oy at q;cases l:W.mrk with
 |none=>
  rw [l]at M q;rw [show W.mkv=ah from M]at A
  exact cZ (.cmp (.att (.idx (.var E) .cst h.i_srv) A) .cst E) (bR .cst (bX (q _ _ (.refl H) E)))
 |some z=>
  obtain ⟨k,i,p⟩:=z;rw [l]at M q;obtain ⟨t,u,r⟩:=M;rw [u]at A;obtain ⟨n,w,v⟩:=g.mrk k i p l;have q:DQ H (qt W k i p (lk W.homes p)) Q:=q;refine b7 (.cmp (.att (.idx (.var E) .cst h.i_srv) A) .cst E) (vi (a4 (.att (.idx (.var E) .cst h.i_srv) A) (vj r E (dO (dO (dO (f1 (d4 (.get (.idx (.var E) .cst h.i_hom) (.cons (.var E) .nil) h.hom (aA (·.getD .none) (kx p W.homes))) ?_))))))))
  revert q;cases x:lk W.homes p with
  |none=>exact λq=>b7 (.and_f (.cmp (.var E) .cst E)) (bR (.ite_t (.cmp (.var E) .cst E) .cst) (q _ _ (.refl H) E))
  |some j=>
   intro q;have q:DQ H (if lk (W.row k) i=G j then G (k,i,j,p)else ja W j p af) Q:=q
   have e:cJ H bB (((lk (W.row k) i).map λj=>aa j 0).getD ah) (aa j 0)=G (decide (lk (W.row k) i=G j)):=by
    cases lk (W.row k) i with
    |none=>rfl
    |some m=>exact aA G (sR m j).symm
   have P:=PT.and_t1 (PT.cmp (c:=c) (D:=D-2) (H:=H) (ρ:=aZ "number" (aa j 0) [("world",J W.aw),("key",aa k 0),("index",aa i 0),("pane",aa p 0)]) (op:=bB) (b:=O "number") (.get (a:=aL (aL (O "world") (ai (aE (I "places") 0))) (O "key")) (es:=[O "index"]) (.idx (.idx (.var E) .cst h.i_pla) (.var E) (h.b_at n)) (.cons (.var E) .nil) (h.bks' g n) (aA (·.getD .none) (kx i (W.row k)))) (.var E) e)
   by_cases f:lk (W.row k) i=G j
   ·rw [aJ f]at q
    rw [cN f]at P;exact cZ (.and_t (.cmp (.var E) .cst E) P) (b5 (fL (.cons (.var E) (.cons (.var E) (.cons (.var E) (.cons (.var E) .nil)))) (aS E) λd s=>bX (q _ _ ((aW.refl H).alloc s) ⟨d,E,aF _ _ _⟩)))
   ·rw [aG f]at q
    rw [e7 f]at P;exact b7 (.and_t (.cmp (.var E) .cst E) P) (b5 (hu (.cmp (.var E) .cst E) (a7 (.cons (.var E) (.cons (.var E) (.cons (.var E) (.cons .cst .nil)))) (wy (home:=af) (eM o E) h g (λ_ z=>nomatch z) q))))
end
noncomputable def BX(B:Base)(z:ae):Prop:=z=B.adk\/z=B.awi\/z=B.apa\/z=B.aho\/z=B.asv\/∃k∈B.keys,z=B.sa k\/z=B.wd k\/z=B.bk k
noncomputable def WX(W:Wd)(z:ae):Prop:=BX W.toBase z\/∃j:ag,j<W.nw/\z=W.wA j
structure cH(W:Wd)(H:Hp)(a:Wd)(b:Hp):Prop where
 wat:aN b a
 same:a.toBase=W.toBase
 x:bp (WX W) H b
 nw:W.nw<=a.nw
 old:∀j:ag,j<W.nw->a.wA j=W.wA j
 new:∀j:ag,W.nw<=j->j<a.nw->H (a.wA j)=af
section
variable{W W1 W2 W':Wd}{H H1 H2 H':Hp}{X Y:ae->Prop}{z a:ae}{k j p:U}{ds:L U}{row:L (U×U)}
theorem bp.trans2(x:bp X H H1)(y:bp Y H1 H2)(h:∀z,Y z->X z\/H z=af):bp X H H2:=λa b e=>
 let ⟨o,c,l⟩:=(x.more λz=>bt).trans (y.more h) a b e
 ⟨o,c,l.imp (λz=>⟨z.1.resolve_right (λq=>by rw [q]at e;cases e),z.2⟩) id⟩
theorem cH.wx(s:cH W H W' H'):∀z,WX W' z->WX W z\/H z=af:=λz b=>b.elim (λh=>bt (bt (s.same▸h))) λ⟨j,c,h⟩=>(ag.lt_or_ge j W.nw).elim (λa=>bt (bF ⟨j,a,h.trans (s.old j a)⟩)) λa=>bF (h▸s.new j a c)
theorem cH.trans(a:cH W H W1 H1)(b:cH W1 H1 W2 H2):cH W H W2 H2:=⟨b.wat,b.same.trans a.same,a.x.trans2 b.x a.wx,ar a.nw b.nw,λj c=>(b.old j (fo c a.nw)).trans (a.old j c),λj e d=>(ag.lt_or_ge j W1.nw).elim (λc=>b.old j c▸a.new j e c) λc=>a.x.dom (b.new j c d)⟩
theorem cH.ext(a:cH W H W1 H1)(x:aW H1 H2):cH W H W1 H2:=⟨a.wat.ext x,a.same,a.x.ext x,a.nw,a.old,a.new⟩
theorem cH.pre(x:aW H H1)(a:cH W H1 W1 H2):cH W H W1 H2:=⟨a.wat,a.same,(bp.of_ext x).trans a.x,a.nw,a.old,λj c b=>x.dom (a.new j c b)⟩
theorem cH.refl(h:aN H W):cH W H W H:=⟨h,E,.refl H,cw _,λ_ _=>E,λj b a=>bW a (tz.mpr b)⟩
theorem cH.of(w:aN H' W')(s:W'.toBase=W.toBase)(x:bp X H H')(c:∀z,X z->WX W z)(a:W'.nw=W.nw)(b:W'.wA=W.wA):cH W H W' H':=⟨w,s,x.more c,cR a.symm,λj _=>by rw [b],λj e d=>bW d (tz.mpr (a▸e))⟩
theorem PN(W:Wd):WX W W.adk:=bt (bt E)
theorem C4(W:Wd):WX W W.awi:=bt (bF (bt E))
theorem PO(W:Wd):WX W W.apa:=bt (bF (bF (bt E)))
theorem wz(W:Wd):WX W W.aho:=bt (bF (bF (bF (bt E))))
theorem PP(W:Wd):WX W W.asv:=bt (bF (bF (bF (bF (bt E)))))
theorem wB(a:k∈W.keys)(h:z=W.sa k\/z=W.wd k\/z=W.bk k):WX W z:=bt (bF (bF (bF (bF (bF ⟨k,a,h⟩)))))
theorem wC(c:0<=j)(b:j<W.nw):WX W (W.wA j):=qk (P:=λj=>WX W (W.wA j)) c b λj a=>bF ⟨j,a,E⟩
theorem cH.dk(x:bp (λz=>z=W.adk) H H')(w:aN H' (W.dk ds)):cH W H (W.dk ds) H':= .of w E x (λz h=>h▸PN W) E E
theorem a_.deck(a:a_ W)(b:L U):a_ (W.dk b):=⟨a.knd,a.k0,a.kl,a.cur,a.br,a.rnd,a.rin,a.rl,a.hnd,a.hin,a.lv,a.nw,a.np,a.B,a.mrk⟩
theorem cH.book{b:L (U×U)}(S:cH W H W2 H1)(c:cd W2.toBase)(a:k∈W2.keys):cH W H (W2.bo k b) (H1.set (W2.bk k) (aO (cM b))):=S.trans (.of (S.wat.setBook c a) E (bp.set (X:=λz=>z=W2.bk k) (S.wat.bks k a) E E) (λz e=>wB a (bF (bF e))) E E)
theorem C5(p j:U)(row:L (U×U))(h:p∉aU row):em (cM row) p (aa j 0)=cM (row++[(p,j)]):=Cw (f:=λj=>aa j 0) p j row h
theorem PQ(h:H a=G (aO (cM row)))(k:U):cJ H dF (aa k 0) (J a)=G ((aU row).contains k):=(Cr h k).trans (aA G (by rw [kx,Ed,lT]))
noncomputable def Wd.pt(W:Wd)(k:U)(r:L (U×U))(c:U)(l:aj U)(d:L U):Wd:={W with row:=a0 W.row k r,brow:=a0 W.brow k r,cur:=a0 W.cur k c,lst:=a0 W.lst k l,deck:=d}
theorem wD{α:Type}{f:U->α}{v:α}{P:U->α->Prop}(b:P k v)(a:∀m,m≠k->P m (f m))(m:U):P m (a0 f k v m):=by
 by_cases h:m=k
 ·rw [h,cn];exact b
 ·rw [cy _ _ h];exact a m h
theorem a_.se{c:L (U×U)}{c':U}{e:aj U}(a:a_ W)(d:(aU c).Nodup)(g:∀p∈c,0<=p.1/\0<=p.2/\p.2<W.nw)(f:c.length<=W.B)(i:c'∈aU c):a_ (W.se k c c' e):=by
 refine⟨a.knd,a.k0,a.kl,λm b=>?_,λm b=>?_,λm b=>?_,λm b=>?_,λm b=>?_,a.hnd,a.hin,a.lv,a.nw,a.np,a.B,a.mrk⟩
 ·show a0 W.cur k c' m∈aU (a0 W.row k _ m)
  by_cases h:m=k
  ·rw [h,cn,cn];exact i
  ·rw [cy _ _ h,cy _ _ h];exact a.cur m b
 ·show a0 W.brow k _ m=a0 W.row k _ m
  by_cases h:m=k
  ·rw [h,cn,cn]
  ·rw [cy _ _ h,cy _ _ h];exact a.br m b
 ·exact wD (P:=λm (r:L (U×U))=>m∈W.keys->(aU r).Nodup) (λ_=>d) (λm _=>a.rnd m) m b
 ·exact wD (P:=λm (r:L (U×U))=>m∈W.keys->∀p∈r,0<=p.1/\0<=p.2/\p.2<W.nw) (λ_=>g) (λm _=>a.rin m) m b
 ·exact wD (P:=λm (r:L (U×U))=>m∈W.keys->r.length<=W.B) (λ_=>f) (λm _=>a.rl m) m b
theorem a_.addRow{c':U}{h:aj U}(c:a_ W)(f:k∈W.keys)(n:p∉aU (W.row k))(m:0<=p)(l:0<=j)(i:j<W.nw)(o:c'∈aU (W.row k++[(p,j)]))(s:(W.row k).length+1<=W.B):a_ (W.pt k (W.row k++[(p,j)]) c' h ds):=by refine(c.se ?_ (λq d=>(dG.mp d).elim (c.rin k f q) λd=>de.mp d▸⟨m,l,i⟩) ((b3 (as:=W.row k)).symm▸s) o).deck ds;rw [sH];exact hM.mpr ⟨c.rnd k f,cS.mpr ⟨gc,oU⟩,λa g b r e=>n (by rw [e,de.mp r]at g;exact g)⟩
end
section
variable{c:Cx}{D:ag}{H H3:Hp}{W:Wd}{Q:KV}{j k r y:U}{b:aK}{ρ:ao}{T:KF}{dk mm:L U}{n:ag}
theorem sT(h:aN H W)(a:a_ W)(q:∀d,H d=af->Q (J d) (H.set d (ak (iL (ba W.keys))))):BC fv [J W.ase] H Q:=h4 h.ses (by rw [ot];exact fq a.kl.1 (by decide)) (by rw [sK];exact q)
theorem wE{l:L U}(h:l≠ []):iL l≠ []:=λe=>h (qK.mp e)
theorem C6(a:a_ W):ba W.keys≠ []:=λe=>a.kl.2 (xB ((gL W.keys).symm.trans (by rw [e];rfl)))
theorem PR(a:a_ W):(iL (ba W.keys)).length<1000:=by rw [gU,gL];exact fq a.kl.1 (by decide)
theorem aN.ses'(h:aN H W)(d:∀q∈W.row k,0<=q.1/\0<=q.2/\q.2<W.nw)(c:k∈W.keys):∃a,eB H W.pA W.wA (W.sa k) (W.wd k) k a (W.lst k) (G (W.cur k)) (W.row k):=let ⟨a,e⟩:=h.sess k c;⟨a,e,h.wds k c,λp b=>⟨_,(h.wins' (d p b).2.1 (d p b).2.2).1⟩⟩
structure m2(W:Wd)(k j p:U)(H:Hp)(c':U)(c:aj U)(a:Hp):Prop where
 x:bp (λz=>z=W.sa k\/z=W.wd k) H a
 wd:a (W.wd k)=G (aO (dU W.wA (W.row k++[(p,j)])))
 cu:c'∈aU (W.row k++[(p,j)])
 se:∃b,a (W.sa k)=G (c2 k b (W.wd k) (pv c) (pv (G c')))
theorem PS(u:30<=D)(h:aN H W)(m:(W.row k).length<60)(o:∀q∈W.row k,0<=q.1/\0<=q.2/\q.2<W.nw)(t:W.cur k∈aU (W.row k))(n:k∈W.keys)(l:0<=j)(i:j<W.nw)(v:mU (aU (W.row k)) r y)(q:∀c' d a,m2 W k j y H c' d a->Q (aa y 0) a):CL c D 802 [J (W.wA j),J (W.sa k),ah,aa r 0,az b] H Q:=by obtain ⟨g,S⟩:=h.ses' o n;refine OT u S m (h.wins' l i).1 (λk e=>bc e▸t) λp z a d c' x w f s=>?_;have e:=z.uniq v;rw [e]at w f⊢;exact q c' d a ⟨x,w,f,g,s⟩
structure jb(W:Wd)(j k r y:U)(ρ:ao):Prop where
 r1:ρ.lookup "deck"=G (J W.adk)
 r2:ρ.lookup "world"=G (J W.aw)
 r3:ρ.lookup "number"=G (aa j 0)
 r4:ρ.lookup "session"=G (J (W.sa k))
 r5:ρ.lookup "least"=G (aa r 0)
 r6:ρ.lookup "row"=G (J (W.bk k))
 r7:ρ.lookup "index"=G (aa y 0)
theorem jb.nx{z:U}(R:jb W j k r y ρ):jb W j k r z (aZ "index" (aa z 0) ρ):=
 have f {x:am} (e:x≠ "index"):=bf (v:=aa z 0) (ρ:=ρ) e
 ⟨(f (by decide)).trans R.r1,(f (by decide)).trans R.r2,(f (by decide)).trans R.r3,(f (by decide)).trans R.r4,(f (by decide)).trans R.r5,(f (by decide)).trans R.r6,aY⟩
theorem PU(n:48<=D)(p:cd W.toBase)(d:a_ W)(l:0<=j)(i:j<W.nw)(a:k∈W.keys)(s:cH W H (W.dk dk) H3)(R:jb W j k r y ρ)(o:mU (aU (W.row k)) r y)
  (q:∀e g c' v f,cH W H (((W.dk dk).bo k (W.row k++[(y,j)])).dk e) g->m2 (((W.dk dk).bo k (W.row k++[(y,j)])).dk e) k j y g c' v f->T (ck (az true)) ρ f):SS c D (Bl.drop 3) ρ H3 T:=by
 refine kg (.var R.r3) (.var R.r6) (.var R.r7) (i2 (s.wat.bks' (d.deck dk) a) (ar (df (cR (hC _))) (ar (d.rz a) (by decide))) ?_)
 show kH _ _ _ _ _ (H3.set (W.bk k) (aO (em (cM (W.row k)) y (aa j 0))));rw [C5 y j _ o.2.1];have b:cH W H ((W.dk dk).bo k (W.row k++[(y,j)])) (H3.set (W.bk k) (aO (cM (W.row k++[(y,j)])))):=s.book p a;revert b;generalize H3.set (W.bk k) _=B;intro b;exact b5 (gY (eL (bs (.idx (.idx (.var R.r2) .cst b.wat.i_win) (.var R.r3) (b.wat.w_at l i)) (bs (.var R.r4) (bs .cst (bs (.var R.r5) (bN (gY (a7 (.cons (.var R.r1) (.cons .cst .nil)) (l0 (W:=(W.dk dk).bo k (W.row k++[(y,j)])) (m:=2) (ap n E) b.wat p (by decide) (by decide) λz e g A t h=>g0 (a4 .cst (g1 (fl ..) (cK (bU (PS (W:=((W.dk dk).bo k (W.row k++[(y,j)])).dk e) (ap n E) h (d.rz a) (d.rin k a) (d.cur k a) a l i o λw u f x=>g0 (a4 (.var R.r7) (g1 (k:=true) (aA G (eE y)) (q e g w u f (b.trans (.dk t h)) x))))))))))))))))))
theorem PW{α:Type}(f:U->α)(k:U)(v:α):a0 (a0 f k v) k v=a0 f k v:=funext λz=>by unfold a0;split<;>rfl
theorem PX{c':U}{a:aj U}{g f:Hp}(i:cd W.toBase)(b:k∈W.keys)(d:cH W H (((W.dk dk).bo k (W.row k++[(y,j)])).dk mm) g)(c:m2 (((W.dk dk).bo k (W.row k++[(y,j)])).dk mm) k j y g c' a f):cH W H (W.pt k (W.row k++[(y,j)]) c' a mm) f:=by
 have h:g (W.bk k)=G (aO (cM (W.row k++[(y,j)]))):=(d.wat.bks k b).trans (aA (λr=>G (aO (cM r))) (cn W.brow k _));obtain ⟨n,l⟩:=d.wat.sess k b;have m:aN f ((((W.dk dk).bo k (W.row k++[(y,j)])).dk mm).se k (W.row k++[(y,j)]) c' a):=d.wat.extSes i b (c.x.more λz e=>e.elim bt λe=>bF (bt e)) c.se c.wd (c.x.keep (λz=>z.elim (ct h l E) λz=>i.wd_bk b b z.symm) h E)
 have e:(((W.dk dk).bo k (W.row k++[(y,j)])).dk mm).se k (W.row k++[(y,j)]) c' a=W.pt k (W.row k++[(y,j)]) c' a mm:=by
  show{(W.pt k (W.row k++[(y,j)]) c' a mm)with brow:=a0 (a0 W.brow k (W.row k++[(y,j)])) k (W.row k++[(y,j)])}=_
  rw [PW];rfl
 exact d.trans (.of (e▸m) E c.x (λz e=>wB b (e.elim bt λe=>bF (bt e))) E E)
theorem wF(P:50<=D)(h:aN H W)(g:cd W.toBase)(e:a_ W)(C:0<=j)(A:j<W.nw)(hB:∀m∈W.keys,(W.row m).length+1<=W.B)(q:∀v f,cH W H v f->a_ v->v.B=W.B->Q (az true) f):CL c D 841 [J W.adk,J W.aw,aa j 0] H Q:=by
 have s:48<=D-2:=cj P;refine Nc (ap P E) (f2 (bN (eL (bs (.var E) (bN (ex (.cons (.idx (.var E) .cst h.i_ses) .nil) (sT h e λd K=>cK (bU ?_))))))));have x:=(aW.refl H).alloc K (o:=ak (iL (ba W.keys)));have l:=aF H d (ak (iL (ba W.keys)));have ac:=(f4 K h.dek).symm;show CL _ _ _ _ (H.set d (ak (iL (ba W.keys)))) _;revert x l;generalize H.set d _=H1;intro x l;refine ox (ap s E) (h.ext x) g (bt l) ac (wE (C6 e)) (PR e) λau dk H2 hu Y w=>?_;obtain ⟨k,a,rfl⟩:=cA.mp hu;have a:=eA.mp a;refine cK (bN (a7 (.cons (.var E) (.cons .cst .nil)) (l0 (W:=W.dk dk) (m:=3) (ap s E) w g (by decide) (by decide) λr S H3 hr X b=>cK (bU (f3 (aS E) E (f2 (bs (.idx (.idx (.var E) .cst b.i_ses) (.var E) (b.s_at a)) (bs (.var E) (bs (.idx (.idx (.var E) .cst b.i_pla) (.var E) (b.b_at a)) (bU (f3 (aS E) E (pJ ?_))))))))))))
 have S3:cH W H (W.dk S) H3:=(cH.pre x (.dk Y w)).trans (.dk (W:=W.dk dk) X b);have ad:H3 (W.bk k)=G (aO (cM (W.row k))):=b.bks' (e.deck S) a;obtain ⟨M,al⟩:=we (aU (W.row k));refine rY (λn ρ f=>f=H3/\∃y,jb W j k r y ρ/\n=(M-y).toNat/\(r:U)<=y/\∀z,(r:U)<=z->z<y->z∈aU (W.row k)) (λm ρ f T as k1 k2=>?_) (n:=(M-(r:U)).toNat) ⟨E,(r:U),⟨E,E,E,E,E,E,E⟩,E,xI _,λz u t=>bW t (mh.mpr u)⟩;obtain ⟨rfl,y,R,rfl,i,F⟩:=as;refine dM (.cmp (.var R.r7) (.var R.r6) (PQ ad y)) ?_;cases p:(aU (W.row k)).contains y with
 |true=>have N:=dE.mp p;exact k1 _ λK2 Z q2=>d4 (.bin (.var R.r7) .cst E) (a5 (Z _ _ _ (Cu (al y N)) ⟨E,y+1,R.nx,E,jY i (U.le_of_lt (ii y)),λz u t=>(EH (EI t)).elim (F z u) λao=>ao▸N⟩))
 |false=>
  have I:y∉aU (W.row k):=λz=>by rw [dE.mpr z]at p;cases p
  exact k2 _ (bb (PU s g e C A a S3 R ⟨i,I,F⟩ λmm H5 c6 l6 H6 S5 V=>q _ _ (PX g a S5 V) (e.addRow a I (jY (dH r) i) C A V.cu (hB k a)) E))
end
noncomputable abbrev jS:L ab:=[J 39,aM "Exception",aM "BaseException",aM "object"]
noncomputable abbrev wG:aC:=excClassObj (I "BadTarget") (I "BadTarget") 52 51 [J 39] jS true [] [] false af af (G (J 43)) af (G (aE (I "BadTarget") 227)) (G (aE (I "BadTarget") 235)) (G (az true)) "Exception.__new__"
theorem l4(w:bh):(KK w).lookup 52=G wG:=by kernel_rfl!
theorem PY(w:bh):jW (KK w) (J 52) "__init__"=G (G (J 36)):=by kernel_rfl!
theorem PZ(w:bh):typeIn (KK w) (J 36)=G (aM "function"):=by kernel_rfl!
theorem P0(w:bh):jW (KK w) (J 52) "__setattr__"=G (G (bS "object.__setattr__")):=by kernel_rfl!
theorem C7(w:bh):jW (KK w) (J 52) "told"=G af:=by kernel_rfl!
theorem P1(w:bh):jW (KK w) (J 52) "__getattribute__"=G (G (bS "BaseException.__getattribute__")):=by kernel_rfl!
theorem P2(w:bh):jW (KK w) (J 52) "__getattr__"=G af:=by kernel_rfl!
theorem P4(w:bh):mroIn (KK w) 52 (aM "object")=G true:=by kernel_rfl!
theorem P5(w:bh):mroIn (KK w) 52 (aM "BaseException")=G true:=by kernel_rfl!
section
variable{w:bh}{A:bj}{be:ab->ay->Prop}{h:bI}{g:a9 GenState}{d:Drawn}{t:ag}{os:OsState}
theorem P6{M:gB}{b:L ab}{Q:hK->ay->Prop}(a:h.get? 52=G wG)(c:Q () ⟨h,g,d,t,os⟩):aX M A (checkBuiltinCall "Exception.__new__" ⟨J 52::b,[]⟩) Q be ⟨h,g,d,t,os⟩:=by
 have F:=EN;have e:(J 52::jS).contains (aM "Exception")=true:=by decide
 have f:=F.noStar;simp only [checkBuiltinCall,F.newKind,F.newSplit,F.newRow]
 repeat (first|refine oX a ?_|(refine xJ a ?_;rw [e])|refine wpAny_staticBase_exc a ?_|refine wpAny_madeBy_exc a ?_|simp only [bne_self_eq_false,oO,kU]|wp_step)
 exact c
theorem P7{R:hH->ay->Prop}{a:L ab}(b:h.get? 52=G wG)
  (c:R (dW (ck (J (h.objs.size+1)))) ⟨(h.push {cls:=aM "tuple",data:=dp a.toArray}).push {cls:=J 52,data:=cx #[J h.objs.size,ah,ah,ah,az false,ah]},g,d,t,os⟩) (hrest:a.length<=m_):
  jl (aV au w) A (hI "Exception.__new__" ⟨J 52::a,[]⟩) R ⟨h,g,d,t,os⟩:=by
 have F:=EN;have j:=F.ends;have f:(J 52::jS).contains (aM "Exception")=true:=by decide
 have i:(J 52::jS).contains (aM "AttributeError")=false:=by decide
 have e:(J 52::jS).contains (aM "NameError")=false:=by decide
 refine PySem.codeAny_builtinAt F.entry ?_;unfold Builtin.«BaseException.__new__»;refine PySem.wpAt_bind ?_;show PySem.wpAt _ _ _ (stack>>=_) _ _ _;refine PySem.wpAt_bind (PySem.wpAt_stack λp k=>PySem.wpAt_of_wpAny ?_)
 wp_walk
 refine PySem.wpAt_of_wpAny ?_;rw [F.owner]
 repeat (first|with_reducible refine wpAny_madeHere_exc F.canon b ?_|with_reducible refine oX b ?_|(with_reducible refine xJ b ?_;first|rw [f]|rw [i]|rw [e])|wp_step)
 show R _ _;rw [bI.size_push];exact c
theorem P8{c:L ab}{Q:gk->ay->Prop}(X:(KK w).In h)
  (m:∀h' e,bI.MadeExcOf h h' e (J 52) c->aX (aV au w) A (hP (J 36) (J e::c)) (λr s'=>r=ah/\Q (.done (ck (J e))) s') be ⟨h',g,d,t,os⟩) (hrest:c.length<=m_):
  aX (aV au w) A (Builtin.«type.__call__» ⟨J 52::c,[]⟩) Q be ⟨h,g,d,t,os⟩:=by
 have F:=EN;have f:=X _ _ (l4 w)
 repeat (first|with_reducible refine oX f ?_|with_reducible refine wpAny_madeBy_exc f ?_|wp_step)
 refine codeAny_call_builtin_code (Code.quiet_builtin _ F.quiet) (P6 f ?_);refine P7 f ?_ hrest;show aX _ _ _ _ _ _;have i:∀b o,h.get? b=G o->((h.push {cls:=aM "tuple",data:=dp c.toArray}).push {cls:=J 52,data:=cx #[J h.objs.size,ah,ah,ah,az false,ah]}).get? b=G o:=λb o e=>gF _ (gF _ e);have s:=i _ _ f;have k:(KK w).In ((h.push {cls:=aM "tuple",data:=dp c.toArray}).push {cls:=J 52,data:=cx #[J h.objs.size,ah,ah,ah,az false,ah]}):=λa o e=>i _ _ (X a o e)
 have j:((h.push {cls:=aM "tuple",data:=dp c.toArray}).push {cls:=J 52,data:=cx #[J h.objs.size,ah,ah,ah,az false,ah]}).get? (h.objs.size+1)=G
   {cls:=J 52,data:=cx #[J h.objs.size,ah,ah,ah,az false,ah]}:=by heap_get
 have n:(J 52::jS).contains (J 52)=true:=by decide
 unfold isInstance
 repeat (first|with_reducible refine oX j ?_|(with_reducible refine xJ s ?_;rw [n])|wp_step)
 show aX _ _ (typeLookup (J 52) _) _ _ _;refine tm k (PY w) _ _ _ _ (λ_ _ e=>e) ?_;refine fO (aR ?_);refine bind_fn k (J (h.objs.size+1)) (PZ w) _ _ _ _ (λ_ _ e=>e) ?_;refine aR (cf (m _ (h.objs.size+1) ⟨λb o p=>gF _ (gF _ p),ga (dY _),h.objs.size,j,ga (cw _),?_⟩) (λr s' l=>?_) λ_ _ x=>x)
 ·exact gF _ (bI.get?_push_at E E)
 ·obtain ⟨rfl,q⟩:=l
  wp_walk
  exact q
theorem P9{a:L ab}{Q:ab->ay->Prop}(X:(KK w).In h)
  (c:∀h' e,bI.MadeExcOf h h' e (J 52) a->aX (aV au w) (A.under (hI "type.__call__" ⟨J 52::a,[]⟩)) (hP (J 36) (J e::a)) (λr s'=>r=ah/\Q (J e) s') be ⟨h',g,d,t,os⟩) (hrest:a.length<=m_):
  aX (aV au w) A (hP (J 52) a) Q be ⟨h,g,d,t,os⟩:=by
 have b:=X _ _ (l4 w);have k:=tc_lookup;have j:=tc_bind (J 52);have i:(⟨h,g,d,t,os⟩:ay).TypeIs (J 52) "type":=⟨_,b,E⟩;refine oR (codeAny_of_tree ?_);show aX _ _ (callAny (J 52) _) _ _ _
 repeat (any_goals (first|assumption|with_reducible refine oX b ?_|wp_step))
 refine⟨E,?_⟩;refine codeAny_call_builtin_at (Code.quiet_builtin _ (by decide+kernel)) entry_typeCall (wpAny_check_type_call_sub b (P8 (hrest:=hrest) X λh' e f=>?_))
 exact c h' e f
end
noncomputable def l5(od:aC)(v:ab):Prop:=dL od/\lookIn "told" od=G (G v)
theorem P_{h:bI}{dx:ae}{a:a6->aj ab}{name:a6}{v:ab}(x:h.Ns1 dx a)(e:a name=G v):∃od,h.get? dx=G od/\dL od/\lookIn name od=G (G v):=by
 obtain ⟨o,c,g,d,b,_,_,f⟩:=x;refine⟨o,d,⟨c,g,b⟩,?_⟩;unfold lookIn;rw [b];have:=f name;rw [e]at this;unfold nsFind findBy at this;rw [<-a9.find?_toList]at this;dsimp only;cases q:c.toList.find? λe=>e.key.isStr name with
 |none=>rw [q]at this;cases this
 |some i=>rw [q]at this;cases this;rfl
section
variable{w:bh}{A:bj}{be:ab->ay->Prop}{s:ay}
theorem Qa{e:ae}{vs:a9 ab}{sl:a9 (aj ab)}{v:ab}{Q:hK->ay->Prop}(X:(KK w).In s.heap)(h:s.heap.get? e=G {cls:=J 52,dict:=af,data:=cx vs,slots:=sl})
  (q:∀h' p dx od,(∀b o,b≠e->s.heap.get? b=G o->h'.get? b=G o)->s.heap.get? dx=af->dx≠e->h'.get? e=G {cls:=J 52,dict:=G dx,data:=cx vs,slots:=sl}->h'.get? dx=G od->l5 od v->Q () {s with heap:=h',toks:=p}):
  aX (aV au w) A (setAttr (J e) "told" v) Q be s:=by
 have i:InstAt s.heap e _ 52 af:=⟨h,E,E,trivial⟩;refine set_plain X i (P0 w) ?_;have f:=PySem.F.store_object;obtain ⟨c,g,d,t,u⟩:=s;have r:Looks (aV au w) c (isInstance (J e) (aM "object")) true:=i.type.andThen (looks_mroIn X (P4 w));refine codeAny_call_builtin f.slot.plain f.entry (@check_slot (aV au w) _ _ _ "object.__setattr__" "object" "__setattr__" (J e) [aE "told" t,v] [] _ f.kind f.split r (f.args (J e) (aE "told" t) v) ?_);have S:=X _ _ (l4 w);have n:clsIn (KK w) 52=G {name:=I "BadTarget",bases:=[J 39],mro:=J 52::jS,ns:=51,qualname:=I "BadTarget",hasDict:=true,slotNames:=[],subclasses:=[],abstract:=false,collection:=af,hasDel:=false}:=by unfold clsIn;rw [l4 w]
 have z:Looks (aV au w) c (mroOf (J 52)) (J 52::jS):=(looks_clsIn X n).andThen .now;rw [osa_eq,refuse_eq];refine aR (aR (i.type _ _ _ _ (λ_ _ e=>e) (aR (z _ _ _ _ (λ_ _ e=>e) ?_))));rw [refuseLoop_ref,refuseLoop_ref,PySem.F.store_Exception.passes];refine bY (aR (i.type _ _ _ _ (λ_ _ e=>e) (aR (tm X (C7 w) _ _ _ _ (λ_ _ e=>e) (aR ?_)))));refine bY (a:=af) ?_;show aX _ _ (Sx (J e) (J 52) (aE "told" t) "told" v false) _ _ _;unfold Sx;refine aR (bY ?_);rw [aG (by decide)]
 refine aR ?_;unfold Builtin.ObjectAttr.ownDictForStores instanceDict;refine aR (wpAny_loadPart (s:=⟨c,g,d,t+1,u⟩) h ?_);dsimp only;refine aR (looks_clsIn X n _ _ _ _ (λ_ _ e=>e) ?_);dsimp only;have k:(c.push {cls:=aM "dict",data:=e5 #[]}).get? e=G {cls:=J 52,dict:=af,data:=cx vs,slots:=sl}:=gF _ h;have j:e≠c.objs.size:=l8 (kT h);rw [aG (by decide)]
 rw [aG (by simp [typeHasDict])]
 refine aR (wpAny_alloc' ?_);refine aR (wpAny_update' k ?_);refine bY ?_;have B:((c.push {cls:=aM "dict",data:=e5 #[]}).update e λo=>{cls:=o.cls,dict:=G c.objs.size,data:=o.data,slots:=o.slots}).get? c.objs.size=G {cls:=aM "dict",data:=e5 #[]}:=(Ek _ _ _ _ j.symm).trans (bI.get?_push_at E E);have y:((c.push {cls:=aM "dict",data:=e5 #[]}).update e λo=>{cls:=o.cls,dict:=G c.objs.size,data:=o.data,slots:=o.slots}).Ns c.objs.size (λ_=>af):=⟨_,#[],_,B,E,λe C=>bW C (by simp),λ_=>E⟩
 show aX _ _ (Sy c.objs.size (aE "told" t) "told" v) _ _ _;unfold Sy Builtin.ObjectAttr.newKeyGuard;refine aR (bY (aR (wpAny_nsSet1 (bI.Ns1.of_empty y) λh' m l=>?_)));obtain ⟨R,T,V,x,D,H⟩:=m.count (Within.cons "told" v Within.nil);refine aR (wpAny_lookBehind x (by rw [D];exact pastItsLine_dict (ar H (by rw [fu,Ex,sizeLine_eq];omega))) ?_)
 wp_walk
 obtain ⟨od,P,N,M⟩:=P_ m (name:="told") (v:=v) (aJ E);refine q h' _ c.objs.size od (λb o K e=>(l.2 b (l8 (kT e))).trans ((Ek _ _ _ _ K).trans (gF _ e))) (ga (cw _)) (Ne.symm j) ?_ P ⟨N,M⟩;exact(l.2 e j).trans (tn _ k E)
end
section
variable{w:bh}{A:bj}{be:ab->ay->Prop}
theorem Qb{M:gB}{h:bI}{e dx:ae}{vs:a9 ab}{sl:a9 (aj ab)}{od:aC}{v:ab}(X:(KK w).In h)(a:h.get? e=G {cls:=J 52,dict:=G dx,data:=cx vs,slots:=sl})(b:h.get? dx=G od)(T:l5 od v):
  Looks M h (Builtin.ObjectAttr.find (J e) (J 52) "told") (.value v):=by
 have d:InstAt h e _ 52 (G od):=⟨a,E,E,b⟩;have c:clsIn (KK w) 52=G {name:=I "BadTarget",bases:=[J 39],mro:=J 52::jS,ns:=51,qualname:=I "BadTarget",hasDict:=true,slotNames:=[],subclasses:=[],abstract:=false,collection:=af,hasDel:=false}:=by unfold clsIn;rw [l4 w]
 refine looks_find X d ?_;unfold findObj;rw [c,aj.bind_some,show jW (KK w) (J 52) (m7 "told")=G af from C7 w,aj.bind_some]
 show(W.ownOf _ (G od) _).bind _=_;unfold W.ownOf;rw [aJ E];dsimp only;rw [T.2];rfl
theorem Qc{s:ay}{e dx:ae}{vs:a9 ab}{sl:a9 (aj ab)}{od:aC}{v:ab}{a:aK}{Q:ab->ay->Prop}(X:(KK w).In s.heap)(c:s.heap.get? e=G {cls:=J 52,dict:=G dx,data:=cx vs,slots:=sl})(f:s.heap.get? dx=G od)(T:l5 od v)(o:handedIn v=true)
  (q:∀j,Q v {s with toks:=j}):aX (aV au w) A (getAttr (J e) "told" a) Q be s:=by
 have I:InstAt s.heap e _ 52 (G od):=⟨c,E,E,f⟩;have i:=PySem.F.attr_Exception;obtain ⟨h,g,d,t,B⟩:=s;have b:=I.type (M:=aV au w);have z:=tm (M:=aV au w) X (P1 w);have y:=tm (M:=aV au w) X (P2 w);have x:=Qb (M:=aV au w) X c f T;have C:=X _ _ (l4 w);have u:=i.ga.bind (J e);have n:(a&&onTheHeap (bS "BaseException.__getattribute__"))=false:=by cases a<;>rfl
 have l:(bS "BaseException.__getattribute__"==bS "object.__getattribute__")=false:=by decide+kernel
 have m:(onTheHeap (J 52)&&bS "BaseException.__getattribute__"==bS "object.__getattribute__")=false:=by rw [l];rfl
 have k:Looks (aV au w) h (isInstance (J e) (aM "BaseException")) true:=b.andThen (looks_mroIn X (P5 w));have r:builtinKind "BaseException.__getattribute__"=G .slot:=by decide+kernel
 have p:splitId "BaseException.__getattribute__"=G ("BaseException","__getattribute__"):=by decide+kernel
 unfold getAttr getAttrBy;refine aR (wpAny_mkText (fO (aR (b.at (aR (z.at ?_))))));dsimp only;rw [m,aG (by decide)]
 unfold getAttrByItsOwn;refine aR ?_;unfold hookBefore;rw [aJ (show onTheHeap (J 52)=true from E)]
 refine y.at ?_;refine aR (wpAny_attempt (fO ?_));unfold callGetattribute;rw [n,aG (by decide)]
 unfold boundAndCalled;rw [u];refine aR (bY (oR (codeAny_call_builtin i.ga.plain PySem.F.entry_bexc_ga (@check_slot (aV au w) _ _ _ "BaseException.__getattribute__" "BaseException" "__getattribute__" (J e) [aE "told" t] [] _ r p k (PySem.F.args_bexc_ga _ _) ?_))));show aX _ _ (Builtin.«object.__getattribute__» ⟨[J e,aE "told" t],[]⟩) _ _ _;refine aR (bY (aR (bY (aR (b.at (aR (x.at ?_)))))));refine bY ?_;show aX _ _ (handedOut v) _ _ _;rw [handedOut_of o];exact bY (q _)
theorem Qd{env:a8}{Q:b_->ay->Prop}{x:ef ab}{s:ay}(j:A.handled=af)
  (h:aX (aV au w) A x (λv a=>∃e c vs sl,v=J e/\(KK w).In a.heap/\a.heap.get? e=G {cls:=J 52,dict:=c,data:=cx vs,slots:=sl}/\vs[1]? =G ah/\be (J e) a) be s):
  aX (aV au w) A (raiseStmt env (G x) af) Q be s:=by
 have l:(J 52::jS).contains (aM "BaseException")=true:=by decide
 unfold raiseStmt;refine aR (cf h (λv a f=>?_) λ_ _ x=>x);obtain ⟨e,c,vs,sl,rfl,X,k,i,m⟩:=f;have b:=X _ _ (l4 w);obtain ⟨p,g,d,n,o⟩:=a
 repeat (first|with_reducible refine oX k ?_|with_reducible refine oX b ?_|(with_reducible refine xJ b ?_;rw [l])|wp_step)
 rw [i];refine bY ?_;rw [aG (by decide)]
 exact bY (wpAny_raiseNew_none j m)
end
section
variable{w:bh}{h₀ h h':bI}{H:Hp}{P:Pr}{c9:ae->aj ae}
theorem HR.slots{g:L ae}(x:HR w h₀ H P c9 h)(j:bI.SlotsOnly g h h')(f:∀b∈g,h₀.get? b=af/\∃o,P b=G o/\dL o):HR w h₀ H P c9 h':=by
 have c:∀b o,b∉g->h.get? b=G o->h'.get? b=G o:=λb o y e=>(j.2.1 b y).trans e;refine⟨λb o e=>c b o (λm=>by rw [(f b m).1]at e;cases e) (x.stat b o e),λb o e=>?_,λa s e=>?_,x.apart,λd a e=>?_⟩
 ·by_cases m:b∈g
  ·obtain ⟨_,D,l,B⟩:=f b m
   rw [e]at l;cases l;obtain ⟨i,A,k⟩:=x.prot b o e;obtain ⟨u,z⟩:=j.2.2 b i A;refine⟨_,z,bF ⟨B,u,?_⟩⟩;rcases k with rfl|⟨_,C,rfl⟩<;>rfl
  ·exact(x.prot b o e).keep λi=>c b i m
 ·have v:a∉g:=λm=>by obtain ⟨_,o,p,_⟩:=f a m;rw [(x.apart a s e).2.1]at p;cases p
  refine(x.real a s e).keeps (λo=>c a o v) λd t=>⟨t,λo=>c d o λm=>?_⟩;obtain ⟨_,o,p,_⟩:=f d m;rw [(x.owned d a t).1]at p;cases p
 ·obtain ⟨p,q,o,r⟩:=x.owned d a e
  exact⟨p,q,o,c d o (λm=>by obtain ⟨_,o,n,_⟩:=f d m;rw [p]at n;cases n) r⟩
end
section
variable{c:Cx}{A:bj}{env:a8}{V:ae}{Pb P:Pr}{be:ab->ay->Prop}{ρ:ao}{H:Hp}{D:ag}{M:gB}
theorem FS.slots{m s h'}{d:L a8}(fs:FS c A.frames V m P H s)(q:A.frames=G d)(h:bI.SlotsOnly (d.filterMap (·.frame)) s.heap h'):FS c A.frames V m P H {s with heap:=h'}:=by obtain ⟨i,p,l,n,w,v,a,j,z⟩:=fs;refine⟨i,p,l,n,w,v,a,j,z.slots h λb u=>?_⟩;obtain ⟨C,e,k⟩:=a;rw [q]at e;cases e;obtain ⟨env,t,r⟩:=D5.mp u;obtain ⟨_,f,o,g,B,y,x⟩:=k env t;rw [r]at g;cases g;exact⟨x,o,B,y⟩
theorem FS.funs{m s}{a:L a8}(fs:FS c A.frames V m P H s)(b:A.frames=G a):s.heap.FunFrames c.h₀ a:=by
 obtain ⟨B,F,D,n,K,I,l,C,z⟩:=fs;obtain ⟨M,e,k⟩:=l;rw [b]at e;cases e;clear b
 induction a with
 |nil=>trivial
 |cons env r h=>obtain ⟨g,f,o,w,v,⟨N,Q,u⟩,t⟩:=k env bn;obtain ⟨d,q,p⟩:=z.prot f o v;refine⟨g,⟨f,d,w,t,q,λx i=>?_⟩,h λenv j=>k env (bM _ j)⟩;rcases p with rfl|⟨_,y,rfl⟩<;>exact nomatch u.symm.trans i
theorem C8{m s}{x:L a8}{F e:ae}{h:aC}{vs:a9 ab}{k:ab}{N:aK}{Q:hK->ay->Prop}(fs:FS c A.frames V m P H s)(j:A.frames=G (env::x))(C:env.frame=G F)
  (i:P e=G h) (D:c.h₀.get? e=af) (l:h.data=cx vs) (hsz:1<vs.size)
  (q:∀s' T r ts,FS c A.frames V m ((P.set T r).set e (h.mapFields (·.setIfInBounds 1 (J T)))) H s'->P T=af->c.h₀.get? T=af->T≠e->r.data=cx ts->3<ts.size->Q () s'):
  aX M A (do let a<-frameOf env;let g<-entryPlaceOf F N;let b<-Sz k a ah (iJ F) ah g;setField (J e) 1 b) Q be s:=by
 refine aR (wpAny_frameOf_fun j (fs.funs j) C λf z=>?_);have W:=fs.slots j z;refine aR (wpAny_entryPlaceOf λg B=>?_);unfold Sz newFields;refine aR (Eh ?_ (B.sizeOk5 _ _ _ _ _));have y:=W.keepNew (s':={s with heap:=f.push {cls:=aM "traceback",dict:=af,data:=cx ([k,J F,ah,iJ F,ah]++(if g.isEmpty then L.replicate 6 ah else g)).toArray}}) (d:=f.objs.size) (ga (cw _)) (λb o e=>gF _ e) (ng f E) E E
 obtain ⟨p,R,X,v⟩:=y;have w:f.objs.size≠e:=by rintro rfl;rw [p]at i;cases i
 have n:=(bg P {cls:=aM "traceback",dict:=af,data:=cx ([k,J F,ah,iJ F,ah]++(if g.isEmpty then L.replicate 6 ah else g)).toArray} (Ne.symm w)).trans i
 have t:¬dL h:=ek l;have u:=v.prot n t;refine wpAny_setField u l hsz ?_;have I:=ER l (·.setIfInBounds 1 (J f.objs.size))
 have S:=v.keepSet (d:=e) (o':=h.mapFields (·.setIfInBounds 1 (J f.objs.size))) (s':={s with heap:=(f.push _).update e (EO (·.setIfInBounds 1 (J f.objs.size)))}) n D (λb o K e=>(tt _ _ (Ne.symm K)).trans e) (tn _ u (ES I)) E E t
 exact q _ _ _ _ S p R w E (by simp only [fP,b3,fu,Ex]<;>omega)
structure ky(c:Cx)(P:Pr)(e:ae)(vs:a9 ab)(T:ae):Prop where
 sz:1<vs.size
 h1:vs[1]? =G (J T)
 T0:c.h₀.get? T=af
 Te:T≠e
 pT:∃a ts,P T=G a/\a.data=cx ts/\3<ts.size
theorem C9{vs:a9 ab}(h:1<vs.size)(v:ab):(vs.setIfInBounds 1 v)[1]? =G v:=by simp [h]
theorem C_{m s}{W:L a8}{F e:ae}{f:aC}{vs:a9 ab}{Q:hK->ay->Prop}(fs:FS c A.frames V m P H s)(B:A.frames=G (env::W))(u:env.frame=G F)
  (r:P e=G f) (C:c.h₀.get? e=af) (h:f.data=cx vs) (hsz:1<vs.size)
  (k:vs[1]? =G ah\/∃a g ts,vs[1]? =G (J a)/\P a=G g/\c.h₀.get? a=af/\a≠e/\g.data=cx ts/\ts[3]? =G ah)
  (q:∀s' P' T vs',FS c A.frames V m P' H s'->P' e=G {f with data:=cx vs'}->ky c P' e vs' T->P T=af->(∀b o,P b=G o->b≠e->vs[1]?≠G (J b)->P' b=G o)->Q () s'):aX M A (noteFrame (J e) env) Q be s:=by
 have Y:¬dL f:=ek h;have D:=fs.prot r Y;have K:∀v,f.mapFields (·.setIfInBounds 1 v)={f with data:=cx (vs.setIfInBounds 1 v)}:=λv=>by obtain ⟨as,ap,dt,sl⟩:=f;simp only at h;subst h;rfl
 unfold noteFrame;simp only [u];rcases k with k|⟨a,g,ts,k,l,w,p,j,I⟩
 ·refine aR (qP D h k ?_)
  rw [aG (by decide)]
  refine C8 fs B u r C h hsz λs' T g ts x l w p j t=>?_;rw [K]at x;refine q s' _ T _ x (b8 _ _ _) ⟨by simp [hsz],C9 hsz _,w,p,g,ts,by rw [bg _ _ p,b8],j,t⟩ l λb o e n _=>?_
  have:b≠T:=by rintro rfl;rw [l]at e;cases e
  rw [bg _ _ n,bg _ _ this];exact e
 ·have z:¬dL g:=ek j
  have y:=fs.prot l z;refine aR (qP D h k ?_);rw [aJ (show(J a !=ah)=true from by simp)]
  refine aR (qP y j I ?_);rw [aG (show¬((ah==iJ F)=true)from by simp [iJ])]
  refine aR (wpAny_setField y j (DY.mp I).1 ?_);have ac:=ER j (·.setIfInBounds 3 ah)
  have ao:=fs.keepSet (d:=a) (o':=g.mapFields (·.setIfInBounds 3 .none)) (s':={s with heap:=s.heap.update a (EO (·.setIfInBounds 3 .none))}) l w (λb o n e=>(tt _ _ (Ne.symm n)).trans e) (tn _ y (ES ac)) E E z
  refine C8 ao B u (by rw [bg _ _ (Ne.symm p)];exact r) C h hsz λs' T X S x i al R Z t=>?_
  rw [K]at x;refine q s' _ T _ x (b8 _ _ _) ⟨by simp [hsz],C9 hsz _,al,R,X,S,by rw [bg _ _ R,b8],Z,t⟩ (by rw [bg _ _ (by rintro rfl;rw [b8]at i;cases i)]at i;exact i) λb o e n ad=>?_
  have N:b≠a:=by rintro rfl;exact ad k
  have:b≠T:=by rintro rfl;rw [bg _ _ N,e]at i;cases i
  rw [bg _ _ n,bg _ _ this,bg _ _ N];exact e
theorem wH{m s}{e T:ae}{f:aC}{vs:a9 ab}{Q:hK->ay->Prop}(fs:FS c A.frames V m P H s)(k:P e=G f)(p:f.data=cx vs)(B:ky c P e vs T)
  (q:∀s' P',FS c A.frames V m P' H s'->P' e=G f->ky c P' e vs T->(∃a ts,P' T=G a/\a.data=cx ts/\ts[3]? =G ah)->(∀b o,P b=G o->b≠T->P' b=G o)->Q () s'):aX M A (setFlight (J e) af) Q be s:=by
 obtain ⟨w,t,v,u,a,ts,l,g,j⟩:=B;have x:¬dL f:=ek p;have n:¬dL a:=ek g;have y:=fs.prot k x;have r:=fs.prot l n;refine wpAny_setFlight_none y p t r g j ?_;have h:=ER g (·.setIfInBounds 3 ah)
 have z:=fs.keepSet (d:=T) (o':=a.mapFields (·.setIfInBounds 3 .none)) (s':={s with heap:=s.heap.update T (EO (·.setIfInBounds 3 .none))}) l v (λb o i e=>(tt _ _ (Ne.symm i)).trans e) (tn _ r (ES h)) E E n
 exact q _ _ z (by rw [bg _ _ (Ne.symm u)];exact k) ⟨w,t,v,u,_,_,b8 _ _ _,h,by simp [j]⟩ ⟨_,_,b8 _ _ _,h,by simp [j]⟩ λb o e i=>by rw [bg _ _ i];exact e
theorem Qe(w:bh):(KK w).lookup 36=G (a3 (mt 3 0) "TermError.__init__" (J 29) ik 35):=by kernel_rfl!
theorem Qf:gq (mt 3 0)=[hN [eu (bA (I "self") ⟨9,8,9,12⟩) (I "told") ⟨9,8,9,17⟩] (bA (I "told") ⟨9,20,9,24⟩) ⟨9,8,9,24⟩]:=by kernel_rfl!
theorem Qg:mx (c5 (mt 3 0)) ["self","told"]=true:=by kernel_rfl!
noncomputable abbrev jc(a:aj ae)(vs:a9 ab)(sl:a9 (aj ab)):aC:={cls:=J 52,dict:=a,data:=cx vs,slots:=sl}
theorem FS.keepSetNew{m s s'}{d x:ae}{o o' q:aC}(fs:FS c A.frames V m P H s)(k:P d=G o)(C:c.h₀.get? d=af)(z:∀b f,b≠d->s.heap.get? b=G f->s'.heap.get? b=G f)(p:s'.heap.get? d=G o')(l:¬dL o)
  (w:s.heap.get? x=af) (j:x≠d) (v:s'.heap.get? x=G q) (B:s'.gens=s.gens) (y:s'.os=s.os):P x=af/\c.h₀.get? x=af/\FS c A.frames V m ((P.set x q).set d o') H s':=by
 have n:=fs.prot k l;let g:bI:={s'.heap with objs:=s'.heap.objs.setIfInBounds d o}
 have i:∀b,b≠d->g.get? b=s'.heap.get? b:=λb a=>by
  show(match (s'.heap.objs.setIfInBounds d o)[b]? with|some ⟨_,_,.freed,_⟩=>af|r=>r)=_
  rw [a9.getElem?_setIfInBounds_ne (Ne.symm a)];rfl
 have D:g.get? d=G o:=by refine nt (h:=g) ?_ (bI.get?_some_iff.mp n).2;show(s'.heap.objs.setIfInBounds d o)[d]? =_;rw [a9.getElem?_setIfInBounds_self_of_lt (kT p)]
 obtain ⟨u,t,I,F⟩:=fs.keepNew (s':={s' with heap:=g}) w (λb f e=>by
  by_cases a:b=d
  ·subst a;rw [n]at e;cases e;exact D
  ·exact(i b a).trans (z b f a e)) ((i x j).trans v) B y
 refine⟨u,t,F.keepSet (s':=s') (by rw [bg _ _ (Ne.symm j)];exact k) C (λb f a e=>(i b a).symm.trans e) p E E l⟩
theorem Qh{s}{e:ae}{v:ab}{vs:a9 ab}{sl:a9 (aj ab)}(S:bu A (D+1))(hs:HS c A.frames P H s)(y:P e=G (jc af vs sl))(Z:c.h₀.get? e=af):
  jl (aV au c.w) A (.call (J 36) ⟨[J e,v],[]⟩) (λr s'=>r=dW (ck ah)/\∃dx od,HS c A.frames ((P.set dx od).set e (jc (G dx) vs sl)) H s'/\P dx=af/\c.h₀.get? dx=af/\dx≠e/\∃d,er d=er v/\l5 od d) s:=by
 refine ri (ρ0:=[("self",J e),("told",er v)]) (Qe c.w) (by decide+kernel) Qg S hs ⟨[(I "self",J e),(I "told",v)],kp_binds hs.kk (λ_=>by kernel_rfl),E⟩ λenv V P' aF s1 K es aN aw i fs p kp nL=>?_
 rw [Qf];refine xm ?_;rw [exec_Assign_arm];refine aR (iG ?_);rw [show swapsWithSole [eu (bA (I "self") ⟨9,8,9,12⟩) (I "told") ⟨9,8,9,17⟩] (bA (I "told") ⟨9,20,9,24⟩) 9 env=b6 false from E]
 refine aR (bY ?_);rw [aG (by decide)]
 refine aR ((lh (Q:=λu m=>u=er v/\m=H) K (x:="told") (v:=er v) E ⟨E,E⟩).here fs p λd n H2 ao ⟨e1,l⟩=>?_);subst l;have l:jZ [eu (bA (I "self") ⟨9,8,9,12⟩) (I "told") ⟨9,8,9,17⟩] (bA (I "told") ⟨9,20,9,24⟩) env=b6 af:=E;rw [l];refine aR (bY ?_);show aX _ _ (do assignAll d ((jr [eu (bA (I "self") ⟨9,8,9,12⟩) (I "told") ⟨9,8,9,17⟩] env).map (·.2));b6 b_.next) _ _ n
 refine aR ?_;show aX _ _ (jp (eu (bA (I "self") ⟨9,8,9,12⟩) (I "told") ⟨9,8,9,17⟩) env d) _ _ n;refine kas_attr ((lh (Q:=λu m=>u=J e/\m=H2) K (x:="self") (v:=J e) E ⟨E,E⟩).here ao p λu R H3 k ⟨e3,e4⟩=>?_);obtain rfl:=dr e3;subst e4;have j:¬dL (jc af vs sl):=ek E;have t:=i.sub _ _ y;refine Qa k.kk (k.prot t j) λh' M dx od Y X z ac ad as=>?_;obtain ⟨g,W,al⟩:=k.keepSetNew (s':={R with heap:=h',toks:=M}) t Z Y ac j X z ad E E
 refine bY (oT ⟨E,dx,od,?_,?_,W,z,d,e1,as⟩)
 ·have T:P dx=af:=by
   cases q:P dx with
   |none=>rfl
   |some o=>rw [i.sub _ _ q]at g;cases g
  have N:∀b o,((P.set dx od).set e (jc (G dx) vs sl)) b=G o->((P'.set dx od).set e (jc (G dx) vs sl)) b=G o:=λb o h=>by
   by_cases F:b=e
   ·subst F;rw [b8]at h⊢;exact h
   ·rw [bg _ _ F]at h⊢
    by_cases C:b=dx
    ·subst C;rw [b8]at h⊢;exact h
    ·rw [bg _ _ C]at h⊢;exact i.sub _ _ h
  refine al.back N ?_;refine hs.frs.map λf o a B _=>⟨o,?_,B⟩;have ap:f≠e:=by rintro rfl;rw [y]at a;cases a;exact j B
  have fd:f≠dx:=by rintro rfl;rw [T]at a;cases a
  rw [bg _ _ ap,bg _ _ fd];exact a
 ·cases q:P dx with
  |none=>rfl
  |some o=>rw [i.sub _ _ q]at g;cases g
structure jT(c:Cx)(a P:Pr)(e:ae)(vs:a9 ab)(w:ab):Prop where
 obj:∃dx sl od,P e=G (jc (G dx) vs sl)/\P dx=G od/\dx≠e/\a dx=af/\l5 od w
 e0:c.h₀.get? e=af
 sz:1<vs.size
theorem Qi{m s}{v:ab}{Q:ab->ay->Prop}(N:bu A (D+2))(fs:FS c A.frames V m P H s)
  (q:∀s' P' e vs w,FS c A.frames V m P' H s'->(∀b o,P b=G o->P' b=G o)->P e=af->jT c P P' e vs w->vs[1]? =G ah->er w=er v->Q (J e) s'):aX (aV au c.w) A (hP (J 52) [v]) Q be s:=by
 have al:=fs.kk;obtain ⟨as,g,ad,t,R⟩:=s;refine P9 al (λZ e r=>?_) (by rw [sizeLine_eq];show 1<=16777216;decide)
 obtain ⟨d,W,_,_⟩:=r.there;obtain ⟨F,K,k,ac⟩:=fs.keepNew (s':=⟨Z,g,ad,t,R⟩) r.new r.keeps W E E;obtain ⟨C,T,p,n,y⟩:=ac;have M:bu (A.under (hI "type.__call__" ⟨J 52::[v],[]⟩)) (D+1):=N.tc;refine oR (jm (Qh (v:=v) (vs:=#[J d,ah,ah,ah,az false,ah]) (sl:=#[]) M y (by rw [bg _ _ k,b8]) K) λap s' z=>?_)
 obtain ⟨rfl,a,i,S,f,p2,l,w,ew,ao⟩:=z;have B:a≠V:=by rintro rfl;rw [b8]at f;cases f
 have I:P a=af:=by rw [bg _ _ B,bg _ _ l]at f;exact f
 refine⟨E,q s' ((P.set a i).set e (jc (G a) #[J d,ah,ah,ah,az false,ah] #[])) e #[J d,ah,ah,ah,az false,ah] w ⟨?_,T,p,n,?_⟩ (λb o h=>?_) F ⟨⟨a,#[],i,b8 _ _ _,(bg _ _ l).trans (b8 _ _ _),l,I,ao⟩,K,by show 1<6;decide⟩ E ew⟩
 ·rw [bg _ _ (Ne.symm k),bg _ _ (Ne.symm B)];rw [bg _ _ (Ne.symm k)]at C;exact C
 ·have:((P.set a i).set e (jc (G a) #[J d,ah,ah,ah,az false,ah] #[])).set V p=((((P.set e (jc af #[J d,ah,ah,ah,az false,ah] #[])).set V p).set a i).set e (jc (G a) #[J d,ah,ah,ah,az false,ah] #[])):=by
   funext b
   by_cases x:b=V
   ·subst x;rw [b8,bg _ _ (Ne.symm k),bg _ _ (Ne.symm B),b8]
   ·rw [bg _ _ x]
    by_cases j:b=e
    ·subst j;rw [b8,b8]
    ·rw [bg _ _ j,bg _ _ j]
     by_cases u:b=a
     ·subst u;rw [b8,b8]
     ·rw [bg _ _ u,bg _ _ u,bg _ _ x,bg _ _ j]
  rw [this];exact S
 ·have X:b≠e:=by rintro rfl;rw [F]at h;cases h
  have Y:b≠a:=by rintro rfl;rw [I]at h;cases h
  rw [bg _ _ X,bg _ _ Y];exact h
theorem Qj{v:ab}{F n ad pos:aI}{Q:b_->ao->Hp->Prop}(l:cc env V)(f:bu A (D+2))(k:env.kindOf (I "BadTarget")=G f9) (N:my.contains ("BadTarget",J 52)=true) (K:ρ.lookup "octets"=G v)
  (M:∀s m P P' e vs w,cY c env V Pb P->FS c A.frames V m P' H s->(∀b o,P b=G o->P' b=G o)->P e=af->jT c P P' e vs w->vs[1]? =G ah->er w=v->be (J e) s):
  X1 c A env V Pb be ρ H (.Raise (G (eV (bA (I "BadTarget") F) [bA (I "octets") n] [] ad)) af pos) Q:=λs m P S R g=>by
 rw [arm_exec_Raise];refine aR (iG (Qd f.handled ?_));refine aR (tl ((rj (Q:=λv H'=>v=J 52/\H'=H) l k N ⟨E,E⟩).here R g λal d q j ⟨e1,ac⟩=>?_));obtain rfl:=dr e1;subst ac;have LX:e2 c A env V P ρ q [bA (I "octets") n] λvs p=>vs=[v]/\p=q:=pg E (lh l K (ra ⟨E,E⟩));refine callWith_K (h₀:=d.heap) j.kk (rd (by decide)) (eK (cf (LX d m _ j g) (λws s2 ⟨p,i,Z,Y⟩=>?_) λ_ _ x=>x)) (nH E) E
 subst Y;obtain ⟨w,_,rfl,X,W⟩:=ki Z;obtain rfl:=vo W;refine⟨i.kk,Qi f i λy P' e vs r a t z B h T=>aR (iG (bY ?_))⟩;obtain ⟨dx,u,od,C,o2,o3,o5,o4⟩:=B.obj;exact⟨e,G dx,vs,u,E,a.kk,a.prot C (ek E),h,M y m P P' e vs r S a t z B h (T.trans X)⟩
structure oz(c:Cx)(b P:Pr)(e T:ae)(vs:a9 ab)(w:ab):Prop where
 born:jT c b P e vs w
 fly:ky c P e vs T
 at3:∃a ts,P T=G a/\a.data=cx ts/\ts[3]? =G ah
noncomputable def oA(c:Cx)(D:ag)(f:ab)(vs:L ab)(H:Hp)(Q R:ab->Hp->Prop):Prop:=
 ∀A P s (g:L ab),bu A D->HS c A.frames P H s->g.map er=vs->
  jl (aV au c.w) A (.call f ⟨g,[]⟩) (λr i=>match r with
   |dW (ck v)=>∃a,HS c A.frames P a i/\Q (er v) a
   |jf v=>∃a d e T vs h,v=J e/\HS c A.frames d a i/\(∀b o,P b=G o->d b=G o)/\P e=af/\P T=af/\oz c P d e T vs h/\R (er h) a
   |_=>d8) s
noncomputable def rt(k:ag):bz:=((gq (as 65))[k]?).getD (.Pass d9)
noncomputable def lr(k:ag):bz:=((gq (as 92))[k]?).getD (.Pass d9)
theorem Qk(w:bh):(KK w).lookup 448=G (a3 (as 65) "read_target" ah bO 447):=by kernel_rfl!
theorem Ql:mx (c5 (as 65)) ["octets","kind","server","current"]=true:=by kernel_rfl!
noncomputable abbrev Db:an:=kV (bA (I "found") ⟨412,7,412,12⟩) [b0] [iE .none 0 ⟨412,16,412,20⟩] ⟨412,7,412,20⟩
theorem Qm:gq (as 65)=[rt 0,rt 1,.If Db [.Raise (G (eV (bA (I "BadTarget") ⟨413,14,413,23⟩) [bA (I "octets") ⟨413,24,413,30⟩] [] ⟨413,14,413,31⟩)) af ⟨413,8,413,31⟩] [] ⟨412,4,413,31⟩,
 ni (G (bA (I "found") ⟨414,11,414,16⟩)) ⟨414,4,414,16⟩]:=by kernel_rfl!
noncomputable def Dc:MS:=aD (.tup [aT "is_told",aT "found"]) (aB 46 420 [O "octets",O "server",O "current"])
noncomputable def wI:MS:=aQ (ei [fw (O "is_told"),d0 [ax dF (ai (aq #[58] 0)) (O "octets"),ax dF (ai (aq #[46] 0)) (O "octets")]]) [aD (aT "found") (aB 49 441 [O "octets",O "server",O "current"])] [aQ (fw (O "is_told")) [.any] []]
noncomputable def wJ:ME:=ax b0 (O "found") (ai ah)
theorem Qn:py (c5 (as 65)) Dc (rt 0)=true:=by kernel_rfl!
theorem Qo:py (c5 (as 65)) wI (rt 1)=true:=by kernel_rfl!
theorem Qp:cm true (c5 (as 65)) wJ Db=true:=by kernel_rfl!
theorem Qq:(c5 (as 65)).names.lookup (I "BadTarget")=G f9:=by kernel_rfl!
theorem X1.any{a:bz}{Q:b_->ao->Hp->Prop}(h:X1 c A env V Pb No ρ H a Q):X1 c A env V Pb be ρ H a Q:=λs m P e d b=>eK (h s m P e d b)
theorem jT.less{g a P:Pr}{e:ae}{vs:a9 ab}{w:ab}(B:jT c g P e vs w)(h:∀b o,a b=G o->g b=G o):jT c a P e vs w:=by
 obtain ⟨⟨f,j,k,p,n,m,d,l⟩,q,i⟩:=B;refine⟨⟨f,j,k,p,n,m,?_,l⟩,q,i⟩;cases z:a f with
 |none=>rfl
 |some o=>rw [h _ _ z]at d;cases d
theorem Qr{m s}{t:L a8}{k:Pr}{e:ae}{vs:a9 ab}{w:ab}{Q:hK->ay->Prop}(fs:FS c A.frames V m P H s)(F:A.frames=G (env::t))(I:env.frame=G V)(B:jT c k P e vs w)(g:vs[1]? =G ah)
  (q:∀s' P' T vs',FS c A.frames V m P' H s'->(∀b o,P b=G o->b≠e->P' b=G o)->P T=af->oz c k P' e T vs' w->Q () s'):aX M A (leaving env (J e)) Q be s:=by
 obtain ⟨W,l,u,z,y,d,v,x⟩:=B.obj;unfold leaving;refine aR (C_ fs F I z B.e0 E B.sz (bt g) λY Z T vs' R r S a D=>?_);refine wH R r E S λn j N p i X C=>?_;have f:∀b o,P b=G o->b≠e->j b=G o:=λb o h K=>C b o (D b o h K (by rw [g];nofun)) (by rintro rfl;rw [a]at h;cases h)
 exact q n j T vs' N f a ⟨⟨⟨W,l,u,p,f _ _ y d,d,v,x⟩,B.e0,i.sz⟩,i,X⟩
theorem Qs{i t s r:ab}{Q R:ab->Hp->Prop}(h:S1 c D Dc [("octets",i),("kind",t),("server",s),("current",r)] H λd Z N=>d= .next/\S1 c D wI Z N λd k T=>d= .next/\k.lookup "octets"=G i/\∃f,k.lookup "found"=G f/\
   TT c D wJ k T λb S=>if b=true then R i S else Q f S):oA c (D+4) (J 448) [i,t,s,r] H Q R:=λA P a5 ws rm y a=>by
 obtain ⟨w0,_,rfl,e0,a⟩:=ki a;obtain ⟨w1,_,rfl,e1,a⟩:=ki a;obtain ⟨w2,_,rfl,e2,a⟩:=ki a;obtain ⟨w3,_,rfl,e3,a⟩:=ki a;obtain rfl:=vo a;refine ri (D:=D+3) (ρ0:=[("octets",i),("kind",t),("server",s),("current",r)]) (Qk c.w) (by decide+kernel) Ql rm y ⟨[(I "octets",w0),(I "kind",w1),(I "server",w2),(I "current",w3)],BindsTo.of_eq (by kernel_rfl),by simp only [e6,xD,e0,e1,e2,e3]⟩ λenv V P' aF s1 p F a1 x aZ fs ap kp nL=>?_
 let EX:ab->ay->Prop:=λv W=>∃j M e l g m',v=J e/\FS c (A.deeper env).frames V m' M j W/\(∀b o,P b=G o->M b=G o)/\P e=af/\jT c P M e l g/\l[1]? =G ah/\R (er g) j;have kb:env.kindOf (I "BadTarget")=G f9:=by show env.scope.names.lookup _=_;rw [F];exact Qq
 have a2:XS c (A.deeper env) env V P EX [("octets",i),("kind",t),("server",s),("current",r)] H (gq (as 65)) (λd a4 j=>Q (match d with|ck v=>v|_=>ah) j):=by
  rw [Qm];refine lq (X1.mono (h _ _ _ _ _ (x.le (by omega)) p (F.symm▸Qn)).any λd Z N q=>?_)
  obtain ⟨rfl,q⟩:=q;refine lq (X1.mono (q _ _ _ _ _ (x.le (by omega)) p (F.symm▸Qo)).any λd k T q=>?_)
  obtain ⟨rfl,ho,f,aU,q⟩:=q;refine lq (zs λP4 a7=>?_);refine TV.mono (q.at (x.le (by omega)) p (F.symm▸Qp)) λb S q=>?_
  cases b with
  |true=>
   simp only [nc]at q⊢;exact lq (Qj (D:=D) p (x.le (by omega)) kb (by decide) ho λao aw K P6 e l g C Y u m B X a=>⟨S,P6,e,l,g,aw,E,Y,λb o n=>u b o (C.sub b o n),(by
    cases z:P e with
    |none=>rfl
    |some o=>rw [C.sub _ _ z]at m;cases m),B.less C.sub,X,by rw [a];exact q⟩)
  |false=>simp only [oO,kU]at q⊢;exact zq (lq (zr λK C=>lh p aU q))
 refine cf (a2 s1 aF P' aZ fs ap) (λd W ⟨P2,k,T,m2,f2,aY,r2,q⟩=>⟨T,aY.back f2.sub y.frs,by cases d<;>exact q⟩) ?_
 rintro v W ⟨j,M,e,l,g,m',rfl,aW,u,m,B,X,au⟩;obtain ⟨d,a0,_⟩:=y.frs;refine Qr (A:=A.deeper env) aW (El a0) a1 B X λao K ad al Y aN pT a3=>?_;have ac:∀b o,P b=G o->K b=G o:=λb o n=>aN b o (u b o n) (by rintro rfl;rw [m]at n;cases n)
 refine⟨j,K,e,ad,al,g,E,Y.back (λ_ _ h=>h) (y.frs.more ac),ac,m,?_,a3,au⟩;cases z:P ad with
 |none=>rfl
 |some o=>rw [u _ _ z]at pT;cases pT
theorem oA.here{f:ab}{vs ws:L ab}{Q R:ab->Hp->Prop}{S W:ab->ay->Prop}{m s}(h:oA c D f vs H Q R)(fs:FS c A.frames V m P H s)(Z:bu A D)(e:ws.map er=vs)
  (k1:∀v s' d,FS c A.frames V m P d s'->Q (er v) d->S v s')
  (k2:∀s' d P' e T vs w,FS c A.frames V m P' d s'->(∀b o,P b=G o->P' b=G o)->P e=af->P T=af->oz c P P' e T vs w->R (er w) d->W (J e) s'):aX (aV au c.w) A (hP f ws) S W s:=by
 obtain ⟨C,M,o,n,y⟩:=fs;refine oR (jm (h A (P.set V o) s ws Z y e) λr s' z=>?_);rcases r with v|(v|_|_|_)<;>first|exact z.elim|skip
 ·obtain ⟨d,P',e,T,vs,w,rfl,hs,B,F,pT,⟨⟨⟨p,Y,od,o1,o2,o3,K,o4⟩,e0,X⟩,k,ac⟩,r⟩:=z
  have PL:P' V=G o:=B V o (b8 _ _ _)
  have i:∀b,(P.set V o) b=af->b≠V/\P b=af:=λb a=>by
   have:b≠V:=by rintro rfl;rw [b8]at a;cases a
   exact⟨this,by rw [bg _ _ this]at a;exact a⟩
  have eq:(P'.del V).set V o=P':=by
   funext b
   by_cases a:b=V
   ·subst a;rw [b8,PL]
   ·rw [bg _ _ a,j9 _ a]
  have g:∀b j,b≠V->P' b=G j->(P'.del V) b=G j:=λb j a e=>by rw [j9 _ a];exact e
  obtain ⟨I,q,x,u,t⟩:=ac;have l:=i T pT;refine k2 s' d (P'.del V) e T vs w ⟨zM _ _,M,o,n,by rw [eq];exact hs⟩ (λb j a=>?_) (i e F).2 l.2 ⟨⟨⟨p,Y,od,g _ _ (i e F).1 o1,g _ _ (i p K).1 o2,o3,(i p K).2,o4⟩,e0,X⟩,⟨k.sz,k.h1,k.T0,k.Te,?_⟩,I,q,g _ _ l.1 x,u,t⟩ r
  ·have N:b≠V:=by rintro rfl;rw [C]at a;cases a
   exact g _ _ N (B _ _ (by rw [bg _ _ N];exact a))
  ·exact⟨I,q,g _ _ l.1 x,u,(DY.mp t).1⟩
 ·obtain ⟨d,ad,b⟩:=z
  exact k1 _ s' d (zh C M n ad) b
theorem Qt{od:aC}{x:aj aC}{w:ab}(T:l5 od w)(s:hn od x):∃o',x=G o'/\l5 o' w:=by
 obtain ⟨o',e,rfl|⟨_,a,rfl⟩⟩:=s
 ·exact⟨_,e,T⟩
 ·exact⟨_,e,T⟩
theorem Qu{e dx:ae}{vs:a9 ab}{sl:a9 (aj ab)}{od:aC}{w:ab}{p i:aI}{Q:ab->Hp->Prop}(o:cc env V)(k:ρ.lookup "fault"=G (J e)) (g:P e=G (jc (G dx) vs sl)) (h:P dx=G od) (T:l5 od w) (j:handedIn w=true) (q:Q (er w) H):
  EV c A env V P ρ H (eu (bA (I "fault") p) (I "told") i) Q:=λs m n f=>by
 rw [D2,q2 E];refine aR ((lh (Q:=λu b=>u=J e/\b=H) o k ⟨E,E⟩).here n f λv y b a ⟨t,r⟩=>?_);obtain rfl:=dr t;subst r;refine aR (iG (aR (fO ?_)));obtain ⟨z,l,x⟩:=Qt T (a.protS h);refine Qc a.kk (a.prot g (ek E)) l x j λd=>?_;exact aR (D3 (bY ⟨b,a.toks d,q⟩))
theorem cs.more{m:a6->aj ab}{P':Pr}(r:cs env P m ρ)(h:∀b o,P b=G o->P' b=G o):cs env P' m ρ:=λx v e=>by
 obtain ⟨c,a,j,l⟩:=r x v e;refine⟨c,a,j,?_⟩;cases l with
 |loc k d=>exact .loc k d
 |cell k i g f=>exact me k i (h _ _ g) f
theorem cY.more{P':Pr}(f:cY c env V Pb P)(h:∀b o,P b=G o->P' b=G o):cY c env V Pb P':=⟨f.eo,λb o e=>h b o (f.sub b o e),λx a l k=>let ⟨j,i,o,v,g,d⟩:=f.own x a l k;⟨j,i,o,v,h _ _ g,d⟩⟩
theorem Qv(A:bj)(v:aj ab):(A.mark v).units=A.units:=E
theorem Qw{u:an}{as:L an}{tb:a9 aP}{s p2 p3 p4 p5 q1 Z Y X q5 q6 q7 q8 q9 bk p:aI}{k5:ag}{br:L a8}{Q:b_->ao->Hp->Prop}(bE:A.frames=G (env::br))(bK:env.frame=G V)(rm:bu A D)
  (sf:iT env "found"=true) (kf:env.kindOf (I "fault")=G .local) (kr:env.kindOf (I "read_target")=G f9) (kb:env.kindOf (I "BadTarget")=G f9)
  (ns:(u::as).all cW=true) (ht:ρ.lookup "text"=G (aq tb 0))
  (h:∀P,cY c env V Pb P->e2 c A env V P ρ H (u::as) λvs N=>oA c D (J 448) vs N (λf i=>Q .next (aZ "found" f ρ) i) (λw i=>w=aq tb 0/\Q (ck ah) [] i)):
  X1 c A env V Pb No ρ H (.Try [hN [bA (I "found") s] (eV (bA (I "read_target") p2) (u::as) [] p3) p4]
   [.ExceptHandler (G (bA (I "BadTarget") p5)) (G (I "fault")) [ni (G (.IfExp (kV (eu (bA (I "fault") q1) (I "told") Z) [bB] [bA (I "text") Y] X) (iE .none k5 q5) (eu (bA (I "fault") q6) (I "told") q7) q8)) q9] bk] [] [] p) Q:=λbg m P R fs g=>by
 have d:=R.eo;refine wpAny_Try_except (xm ?_);rw [exec_Assign_arm];refine aR (iG ?_);rw [show swapsWithSole [bA (I "found") s] (eV (bA (I "read_target") p2) (u::as) [] p3) p4.line env=b6 false from E]
 refine aR (bY ?_);rw [aG (by decide)]
 refine aR (tl ((rj (Q:=λv H'=>v=J 448/\H'=H) d kr (by decide) ⟨E,E⟩).here fs g λbf W N M ⟨l,j⟩=>?_))
 obtain rfl:=dr l;subst j;have ad:=ns;simp only [oP,fg]at ad;refine callWith_K (h₀:=W.heap) M.kk (rd (by decide)) (eK (cf (h P R W m _ M g) (λws s2 ⟨i,t,b7⟩=>⟨t.kk,?_⟩) λ_ _ x=>x)) (nH ad.1) (nK ad.2).2
 refine b7.here t rm E (λv C H3 aw ac=>?_) λC H3 P3 e aF vs w aw T pe pT F r=>?_
 ·rw [show jZ [bA (I "found") s] (eV (bA (I "read_target") p2) (u::as) [] p3) env=b6 af from E]
  refine aR (bY ?_);show aX _ A (do assignAll v ((jr [bA (I "found") s] env).map (·.2));b6 b_.next) _ _ C
  refine aR ?_;show aX _ A (jp (bA (I "found") s) env v) _ _ C;refine eK (cf ((ue (Q:=Q .next) (Pb:=Pb) sf ac) C m P v R aw g E) (λ_ s' y=>bY (oT (oT y))) λ_ _ x=>x)
 ·obtain ⟨hw,r⟩:=r
  obtain ⟨cb,rfl⟩:=Gz hw;obtain ⟨dx,sl,od,o1,K,o3,o5,o4⟩:=F.born.obj;obtain ⟨bs,ts,S,t2,t3⟩:=F.at3;have dT:dx≠aF:=by rintro rfl;rw [K]at S;cases S;exact ek t2 o4.1
  refine C_ aw bE bK o1 F.born.e0 E F.born.sz (bF ⟨aF,bs,ts,F.fly.h1,S,F.fly.T0,F.fly.Te,t2,t3⟩) λcd P4 T1 ca bU bo b1 q bC=>?_;have a2:∀b o,P3 b=G o->b≠e->b≠aF->P4 b=G o:=λb o a al h2=>bC b o a al (by rw [F.fly.h1];rintro ⟨⟩;exact h2 E)
  refine wH bU bo E b1 λcc P5 bR a1 bX cl a4=>?_;have be:dx≠T1:=by rintro rfl;rw [q]at K;cases K
  have aU:∀b o,P b=G o->P5 b=G o:=λb o a=>a4 b o (a2 b o (T b o a) (by rintro rfl;rw [pe]at a;cases a) (by rintro rfl;rw [pT]at a;cases a)) (by rintro rfl;rw [T _ _ a]at q;cases q)
  have bq:=a4 _ _ (a2 _ _ K o3 dT) be;refine wpAny_handleBy_cons (codeAny_handlers_test ((rj (A:=A.mark (G (J e))) (Q:=λv H'=>v=J 52/\H'=H3) d kb (by decide) ⟨E,E⟩).here bR (g.more aU) λu6 a0 n ap ⟨l,j⟩=>?_)) (by intro ac;cases ac)
  obtain rfl:=dr l;subst j;have X6:=ap.kk;have bL:=ap.prot a1 (ek E);have bP:FS c A.frames V m P5 n a0:=ap;obtain ⟨h6,g6,d6,t6,ce⟩:=a0;refine wpAny_excMatches_sub_self (X6 _ _ (l4 c.w)) bL E (by decide) ?_
  refine codeAny_handlers_suite_as ?_;refine wH bP a1 E bX λaY B bd bl ch ci a3=>?_;have aN:∀b o,P b=G o->B b=G o:=λb o a=>a3 b o (aU b o a) (by rintro rfl;rw [T _ _ a]at q;cases q)
  have bp:=a3 _ _ bq be;refine Ei (m:=m) kf (by rw [d.loc];exact bd.ns) (λh8 a_ a5=>?_) (by rw [d.kind];rfl)
  rw [d.loc]at a_ a5;have bO:=bd.store (s':={aY with heap:=h8,toks:=aY.toks+1}) a_ a5 E E
  have bi:cs env B (λx=>if x=I "fault" then G (J e)else m x) (aZ "fault" (J e) ρ):=λy v h=>by
   rw [lp]at h
   by_cases hy:y="fault"
   ·subst hy;rw [aJ E]at h;cases h
    exact⟨E,J e,E,.loc kf (aJ E)⟩
   ·rw [aG hy]at h
    obtain ⟨ok,v',e',bx⟩:=(g.more aN) y v h;refine⟨ok,v',e',?_⟩;cases bx with
    |loc k hv=>exact .loc k (by rw [aG (λz=>hy (li z))];exact hv)
    |cell k al h2 h3=>exact me k al h2 h3
  have bH:(aZ "fault" (J e) ρ).lookup "fault"=G (J e):=by rw [lp,aJ E]
  have bD:(aZ "fault" (J e) ρ).lookup "text"=G (aq tb 0):=by rw [lp,aG (by decide)];exact ht
  have b8:TV c (A.mark (G (J e))) env V B (aZ "fault" (J e) ρ) n (kV (eu (bA (I "fault") q1) (I "told") Z) [bB] [bA (I "text") Y] X) (λk N=>k=true/\N=n):=λbg m fs g=>wpAny_isTrue_Compare1 ((Qu (Q:=λv N=>v=aq tb 0/\N=n) d bH bl bp o4 E ⟨E,E⟩).here fs g λv W N M ⟨e3,e4⟩=>(lh (Q:=λv i=>v=aq tb 0/\i=N) d bD ⟨E,E⟩).here M g λbf s2 i t ⟨b5,b2⟩=>(t_ t (by rw [Qv];exact rm.lt) (k:=true) (by rw [e3,b5];exact aA G (eE tb))).1 au c.w No _ (iI ⟨i,t,E,by rw [b2,e4]⟩)) E
  have b9:EV c (A.mark (G (J e))) env V B (aZ "fault" (J e) ρ) n (.IfExp (kV (eu (bA (I "fault") q1) (I "told") Z) [bB] [bA (I "text") Y] X) (iE .none k5 q5) (eu (bA (I "fault") q6) (I "told") q7) q8) (λv N=>v=ah/\N=n):=zb (TV.mono b8 λk N z=>by obtain ⟨l,j⟩:=z;rw [l,j,aJ E];exact yN (Q:=λv N=>v=ah/\N=n) ⟨E,E⟩)
  refine xm (wpAny_Return_some (b9.here bO bi λv aW H9 bb ⟨l,j⟩=>?_));obtain rfl:=yJ l;subst j;refine wpAny_nameGoes kf (by rw [d.loc];exact bb.ns) (by rw [d.kind];rfl) λbN bw ba a7=>?_
  rw [d.loc]at ba a7;have bV:=bb.store (s':={aW with heap:=bN,toks:=aW.toks+1}) ba a7 E E
  exact⟨B,[],H9,bw,R.more aN,bV,λx v h=>(nomatch h),r⟩
theorem Qx(w:bh):(KK w).lookup 909=G (a3 (as 92) "_law_read" ah cl 908):=by kernel_rfl!
theorem Qy:mx (c5 (as 92)) ["world","text","kind","home"]=true:=by kernel_rfl!
noncomputable abbrev Dd:an:=oM (bA (I "world") ⟨782,40,782,45⟩) (iE (.str (I "server")) 0 ⟨782,46,782,54⟩) ⟨782,40,782,55⟩
theorem Qz:gq (as 92)=[lr 0,.Try [hN [bA (I "found") ⟨782,8,782,13⟩] (eV (bA (I "read_target") ⟨782,16,782,27⟩) [bA (I "text") ⟨782,28,782,32⟩,bA (I "kind") ⟨782,34,782,38⟩,Dd,bA (I "current") ⟨782,57,782,64⟩] [] ⟨782,16,782,65⟩) ⟨782,8,782,65⟩]
   [.ExceptHandler (G (bA (I "BadTarget") ⟨783,11,783,20⟩)) (G (I "fault")) [ni (G (.IfExp (kV (eu (bA (I "fault") ⟨784,23,784,28⟩) (I "told") ⟨784,23,784,33⟩) [bB] [bA (I "text") ⟨784,37,784,41⟩] ⟨784,23,784,41⟩) (iE .none 0 ⟨784,15,784,19⟩) (eu (bA (I "fault") ⟨784,47,784,52⟩) (I "told") ⟨784,47,784,57⟩) ⟨784,15,784,57⟩)) ⟨784,8,784,57⟩] ⟨783,4,784,57⟩] [] [] ⟨781,4,784,57⟩,
  lr 2,lr 3,lr 4]:=by kernel_rfl!
noncomputable def De:MS:=aD (aT "current") (cg (ax b0 (O "home") (ai ah)) (ai ah) (aB 24 276 [aL (aL (O "world") (ai (aE (I "sessions") 0))) (O "home")]))
noncomputable def qu:L ME:=[O "text",O "kind",aL (O "world") (ai (aE (I "server") 0)),O "current"]
noncomputable def wK:L MS:=[fR ["number","pane"] [av (av (O "found") "window") "number",av (av (O "found") "pane") "number"],
 aQ (d0 [ax dq (av (O "found") "session") (aL (aL (O "world") (ai (aE (I "sessions") 0))) (av (av (O "found") "session") "number")),ax dq (av (O "found") "window") (aL (aL (O "world") (ai (aE (I "windows") 0))) (O "number"))]) [aH (dz [ai (az false),O "number"])] [],
 aH (cg (ax b0 (av (O "found") "pane") (aL (aL (O "world") (ai (aE (I "panes") 0))) (O "pane"))) (dz [av (av (O "found") "session") "number",av (O "found") "index",O "number",O "pane"]) (dz [ai (az false),O "pane"]))]
theorem QA:py (c5 (as 92)) De (lr 0)=true:=by kernel_rfl!
theorem QC:cT false (c5 (as 92)) qu [bA (I "text") ⟨782,28,782,32⟩,bA (I "kind") ⟨782,34,782,38⟩,Dd,bA (I "current") ⟨782,57,782,64⟩]=true:=by kernel_rfl!
theorem QD:gW (c5 (as 92)) wK [lr 2,lr 3,lr 4]=true:=by kernel_rfl!
theorem sU:(c5 (as 92)).names.lookup (I "BadTarget")=G f9/\(c5 (as 92)).names.lookup (I "read_target")=G f9/\(c5 (as 92)).names.lookup (I "fault")=G .local/\(c5 (as 92)).names.lookup (I "found")=G .local:=⟨by kernel_rfl!,by kernel_rfl!,by kernel_rfl!,by kernel_rfl!⟩
theorem QE{i g e:ab}{tb:a9 aP}{Q:ab->Hp->Prop}(h:S1 c D De [("world",i),("text",aq tb 0),("kind",g),("home",e)] H λb d N=>b= .next/\d.lookup "text"=G (aq tb 0)/\
   EL c D qu d N λvs o=>oA c D (J 448) vs o (λf u=>SS c D wK (aZ "found" f d) u (RK Q)) (λw u=>w=aq tb 0/\Q ah u)):fX c (D+2) (J 909) [i,aq tb 0,g,e] H Q:=λA P aY ws T p a=>by
 obtain ⟨R,_,rfl,e0,a⟩:=ki a;obtain ⟨M,_,rfl,e1,a⟩:=ki a;obtain ⟨K,_,rfl,au,a⟩:=ki a;obtain ⟨F,_,rfl,e3,a⟩:=ki a;obtain rfl:=vo a;refine ri (D:=D+1) (ρ0:=[("world",i),("text",aq tb 0),("kind",g),("home",e)]) (Qx c.w) (by decide+kernel) Qy T p ⟨[(I "world",R),(I "text",M),(I "kind",K),(I "home",F)],BindsTo.of_eq (by kernel_rfl),by simp only [e6,xD,e0,e1,au,e3]⟩ λenv V t m S s n ap j al fs W kp nL=>?_
 obtain ⟨b,ao,_⟩:=p.frs;have l:∀x k,(c5 (as 92)).names.lookup x=G k->env.kindOf x=G k:=λx k Y=>by show env.scope.names.lookup x=_;rw [n];exact Y
 have aF:XS c (A.deeper env) env V P No [("world",i),("text",aq tb 0),("kind",g),("home",e)] H (gq (as 92)) (RK Q):=by
  rw [Qz];refine lq (X1.mono (h _ _ _ _ _ j s (n.symm▸QA)) λb d N q=>?_);obtain ⟨rfl,Z,q⟩:=q;refine lq (Qw (D:=D) (tb:=tb) (El ao) ap (j.le (by omega)) ?_ (l _ _ sU.2.2.1) (l _ _ sU.2.1) (l _ _ sU.1) E Z λP5 a0=>?_)
  ·unfold iT
   rw [l _ _ sU.2.2.2];rfl
  ·exact e2.mono (q.at j s (n.symm▸QC)) λvs o aw=>λA' t B C X ac e'=>jm (aw A' t B C X ac e') λr s2 z=>by
    rcases r with v|(v|_|_|_)<;>first|exact z.elim|skip
    ·exact z
    ·obtain ⟨H',aU,aN⟩:=z
     exact⟨H',aU,SS.at aN j s (n.symm▸QD)⟩
 refine cf (aF S m t al fs W) (λb B ⟨P2,aW,o,m2,f2,ad,r2,q⟩=>⟨o,ad.back f2.sub p.frs,by cases b<;>exact q⟩) λ_ _ y=>y.elim
end
noncomputable def m3(W:Wd)(o:aj (U×U×U×U)):Prop:=∀k i j n,o=G (k,i,j,n)->k∈W.keys/\0<=j/\j<W.nw/\0<=n/\n<W.np
theorem wL{W:Wd}{k i:U}{b:aj U}:∀{ks:L U},eC W b ks=G (k,i)->k∈ks/\eT W k b=G i
 |a::r,h=>by
  unfold eC at h;split at h
  ·cases h;exact⟨bn,by assumption⟩
  ·exact⟨bM _ (wL h).1,(wL h).2⟩
@[irreducible] noncomputable def CX(c:Cx)(D:ag)(a:ae)(vs:L ab)(H:Hp)(Q R:KV):Prop:=oA c D (J a) vs H Q R
section
variable{c:Cx}{D:ag}{H:Hp}{W:Wd}{ρ ρ1:ao}{Q R:KV}{tb:a9 aP}{v0 v1 v2 v3 u1 u2 u kv cv:ab}{d:ae}{o:aj (U×U×U×U)}{home:aj U}
theorem CX.le{b:ag}{a:ae}{vs:L ab}(h:CX c D a vs H Q R)(f:D<=b):CX c b a vs H Q R:=by unfold CX at*;exact λA P s d r x e=>h A P s d (r.le f) x e
noncomputable def sV(c:Cx)(D:ag)(tb:a9 aP)(ρ:ao)(Q:KV):KL:=λb d=>CX c D 448 b d (λf a=>SS c D wK (aZ "found" f ρ) a (RK Q)) λw a=>w=aq tb 0/\Q ah a
noncomputable def Df(c:Cx)(D:ag)(tb:a9 aP)(ρ:ao)(Q:KV):KV:=λv a=>b_.next= .next/\(aZ "current" v ρ).lookup "text"=G (aq tb 0)/\EL c D qu (aZ "current" v ρ) a (sV c D tb (aZ "current" v ρ) Q)
theorem Dg(e:(aZ "current" u ρ).lookup "text"=G (aq tb 0)) (k:EL c D qu (aZ "current" u ρ) H (sV c D tb (aZ "current" u ρ) Q)):Df c D tb ρ Q u H:=⟨E,e,k⟩
theorem QF(a:2<=D)(h:EE c (D-2) (cg (ax b0 (O "home") (ai ah)) (ai ah) (aB 24 276 [aL (aL (O "world") (ai (aE (I "sessions") 0))) (O "home")])) [("world",v0),("text",aq tb 0),("kind",v2),("home",v3)] H (Df c (D-2) tb [("world",v0),("text",aq tb 0),("kind",v2),("home",v3)] Q)):CL c D 909 [v0,aq tb 0,v2,v3] H Q:=by
 have b:D-2+2=D:=xC a;have k:fX c (D-2+2) (J 909) [v0,aq tb 0,v2,v3] H Q:=QE (mI (h.mono λv f q=>vd ⟨E,q.2.1,q.2.2.mono λd e q=>by unfold sV CX at q;exact q⟩))
 unfold CL;exact b▸k
noncomputable def qv(c:Cx)(D:ag)(d:ab)(Q R:KV):KF:=λg a h=>g= .next/\a.lookup "octets"=G d/\∃f,a.lookup "found"=G f/\TT c D wJ a h λb e=>if b=true then R d e else Q f e
theorem QG(e:ρ.lookup "octets"=G v0) (g:ρ.lookup "found"=G ah) (r:R v0 H):qv c D v0 Q R .next ρ H:=⟨E,e,_,g,dM (.cmp (.var g) .cst E) r⟩
theorem QH(e:ρ.lookup "octets"=G v0) (g:ρ.lookup "found"=G (J d)) (q:Q (J d) H):qv c D v0 Q R .next ρ H:=⟨E,e,_,g,dM (.cmp (.var g) .cst E) q⟩
noncomputable def QI:L MS:=[aD (aT "found") (aB 49 441 [O "octets",O "server",O "current"])]
noncomputable def QJ:L MS:=[aQ (fw (O "is_told")) [.any] []]
noncomputable def QK:ME:=ei [fw (O "is_told"),d0 [ax dF (ai (aq #[58] 0)) (O "octets"),ax dF (ai (aq #[46] 0)) (O "octets")]]
noncomputable def Dh(c:Cx)(D:ag)(a:ab)(ρ:ao)(Q R:KV):KV:=λv d=>A1 c D (.tup [aT "is_told",aT "found"]) v ρ d λρ1 b=>b_.next= .next/\S1 c D wI ρ1 b (qv c D a Q R)
theorem Di(h:H d=G (bm [u1,u2]))(k:TT c D QK (aZ "found" u2 (aZ "is_told" u1 ρ)) H (n0 c D QI QJ (aZ "found" u2 (aZ "is_told" u1 ρ)) (qv c D v0 Q R))):Dh c D v0 ρ Q R (J d) H:=by exact AU h E (dO (dO (f1 ⟨E,AV k⟩)))
theorem Dj(a:4<=D)(h:EE c (D-4) (aB 46 420 [O "octets",O "server",O "current"]) [("octets",v0),("kind",v1),("server",v2),("current",v3)] H (Dh c (D-4) v0 [("octets",v0),("kind",v1),("server",v2),("current",v3)] Q R)):CX c D 448 [v0,v1,v2,v3] H Q R:=by have b:D-4+4=D:=xC a;have k:oA c (D-4+4) (J 448) [v0,v1,v2,v3] H Q R:=Qs (mI h);unfold CX;exact b▸k
theorem Dk(e:ρ.lookup "octets"=G v0) (g:ρ.lookup "found"=G u) (t:i8 W H u o) (a:o≠af->Q u H) (b:o=af->R v0 H):qv c D v0 Q R .next ρ H:=by
 cases o with
 |none=>exact QG e ((show u=ah from t)▸g) (b E)
 |some p=>obtain ⟨d,rfl,_⟩:=t;exact QH e g (a nofun)
noncomputable def wM(c:Cx)(D:ag)(W:Wd)(tb:a9 aP)(kv b:ab)(H:Hp)(o:aj (U×U×U×U)):Prop:=∀Q R:KV,(∀f a,aW H a->i8 W a f o->o≠af->Q f a)->(∀a,aW H a->o=af->R (aq tb 0) a)->CX c D 448 [aq tb 0,kv,J W.asv,b] H Q R
theorem wN(h:4<=D)(b:∀Q:KV,(∀d u a,aW H a->a d=G (bm [az true,u])->i8 W a u o->Q (J d) a)->CL c (D-4) 420 [aq tb 0,J W.asv,cv] H Q):wM c D W tb kv cv H o:=λQ R e f=>Dj h (a7 (.cons (.var E) (.cons (.var E) (.cons (.var E) .nil))) (b _ λd u a x g t=>Di g (dM (.and_f (.eq (.not (.var E)) E)) (d5 (b7 (.eq (.not (.var E)) E) (a5 (Dk E E t (e u a x t) (f a x))))))))
theorem QM{k n p:ag}(i:74<=D)(h:aN H W)(o:a_ W)(q:(k:U)∈W.keys)(f:k<100)(e:n<100)(b:p<100):wM c D W (i_ k n p) kv cv H (mZ W k n p):=λQ R l m=>by
 have g:70<=D-4:=cj i;have z:=CZ f e b;rw [no,fu]at z;refine Dj (ap i E) (a7 (.cons (.var E) (.cons (.var E) (.cons (.var E) .nil))) (PD (ap g E) (ar (nl z) (by decide)) λd s x r=>Di r (dM (.and_t (.eq (.not (.var E)) E) (.and_t1 (.or_t (.cmp .cst (.var E) ?_)))) (gI (bV (a7 (.cons (.var E) (.cons (.var E) (.cons (.var E) .nil))) (PB (ap g E) (h.ext x) o q f e b λu j a t=>a5 (Dk E E t (l u j (x.trans a) t) (m j (x.trans a))))))))))
 exact aA G (dE.mpr (cO _ bn))
theorem sW(I:100<=D)(h:aN H W)(x:a_ W)(Y:∀k,home=G k->k∈W.keys)(S:m3 W o)(R:∀N a,aW H N->lY W N a home->wM c (D-20) W tb kv a N o)(q:DQ H o Q):CL c D 909 [J W.aw,aq tb 0,kv,pv home] H Q:=by
 have hE:98<=D-2:=cj I
 have K:∀N a,aW H N->lY W N a home->EL c (D-2) qu [("world",J W.aw),("text",aq tb 0),("kind",kv),("home",pv home),("current",a)] N (sV c (D-2) tb [("world",J W.aw),("text",aq tb 0),("kind",kv),("home",pv home),("current",a)] Q):=λN a m hc=>by
  refine bs (.var E) (bs (.var E) (bs (.idx (.var E) .cst (h.ext m).i_srv) (bs (.var E) (bU ((R N a m hc _ _ (λf M s t V=>?_) λM s e=>⟨E,q _ _ (m.trans s) (e▸E)⟩).le (ag.sub_le_sub_left (by decide) D))))))
  cases o with
  |none=>exact bW E V
  |some p=>obtain ⟨k,i,j,n⟩:=p;obtain ⟨l,B,A,z,y⟩:=S k i j n E;obtain ⟨d,rfl,b⟩:=t;have w:=m.trans s;have g:=h.ext w;obtain ⟨u,P⟩:=g.wins' B A;have v:=g.pans' z y;obtain ⟨nm,r⟩:=g.sess k l;obtain ⟨pl,ac,T,ad⟩:=u.o;have C:=du (f:="number") T E E;rw [P]at C;have F:PV c (D-2) [("world",J W.aw),("text",aq tb 0),("kind",kv),("home",pv home),("current",a),("found",J d),("pane",aa n 0),("number",aa j 0)] M (O "found") (J d):= .var E;refine f2 (bs (.att (.att (.var E) (wh b)) C) (bs (.att (.att (.var E) (wj b)) v.att) (bU (f3 (aS E) E ?_))));refine b7 (.or_f (.eq (.cmp (.att F (qh b)) (.idx (.idx (.var E) .cst g.i_ses) (.att (.att F (qh b)) (vX r)) (g.s_at l)) (n9 (kn r) (kn r))) (aA not (cN E))) (.or_f (.eq (.cmp (.att F (wh b)) (.idx (.idx (.var E) .cst g.i_win) (.var E) (g.w_at B A)) (n9 u.inst u.inst)) (aA not (cN E))) .or_n)) (b5 (h2 (.eq (.cmp (.att F (wj b)) (.idx (.idx (.var E) .cst g.i_pan) (.var E) (g.p_at z y)) (h6 v.inst v.inst)) (cN E)) (fL (.cons (.att (.att F (qh b)) (vX r)) (.cons (.att F (O4 b)) (.cons (.var E) (.cons (.var E) .nil)))) (aS E) λd4 Z=>q _ _ (w.alloc Z) ⟨d4,E,aF _ _ _⟩)))
 refine QF (ap I E) ?_;cases home with
 |none=>exact a4 (.ite_t (.cmp (.var E) .cst E) .cst) (Dg E (K H ah (.refl H) E))
 |some k=>have l:=Y k E;obtain ⟨j,X⟩:=x.curJ l;exact hu (.cmp (.var E) .cst E) (a7 (.cons (.idx (.idx (.var E) .cst h.i_ses) (.var E) (h.s_at l)) .nil) (O9 (ap hE E) h x l X λa N m t=>Dg E (K N a m (let ⟨d,e,b⟩:=t;⟨l,d,_,_,_,e,b⟩))))
theorem qw:m3 W af:=λ_ _ _ _ e=>by cases e
theorem Dl{k i j n:U}(h:k∈W.keys/\0<=j/\j<W.nw/\0<=n/\n<W.np):m3 W (G (k,i,j,n)):=λb d c a e=>by cases e;exact h
theorem wO{j n:U}(d:a_ W)(m:∀k,home=G k->k∈W.keys)(g:0<=n)(f:n<W.np):m3 W (ja W j n home):=λk i s r e=>by obtain ⟨p,q,o⟩:=gm.mp e;cases o;obtain ⟨a,b⟩:=wL q;have c:=CJ m _ a;obtain ⟨_,l,h⟩:=d.rin _ c _ (gi (sM b).2);exact⟨c,l,h,g,f⟩
theorem eD(a:a_ W){n j:U}(e:lk W.homes n=G j):0<=n/\n<W.np/\0<=j/\j<W.nw:=a.hin _ (gi e)
theorem QN{n:ag}(i:200<=D)(h:aN H W)(a:a_ W)(f:∀k,home=G k->k∈W.keys)(m:n<100)(q:DQ H (m1 W n home) Q):CL c D 909 [J W.aw,aq (37::cE n).toArray 0,kv,pv home] H Q:=by
 have g:180<=D-20:=cj i;refine sW (ap i E) h a f ?_ (λs cv x o=>wN (ap g E) λr l=>CR (b:=true) (cj (ap g E)) (h.ext x) a o m (CU a n) λd u p y e t=>l d u p y e (C2 W n home▸t)) q;unfold m1;cases e:lk W.homes n with
 |none=>exact qw
 |some j=>exact wO a f (eD a e).1 (eD a e).2.1
theorem QO{n:ag}(m:200<=D)(h:aN H W)(f:a_ W)(j:∀k,home=G k->k∈W.keys)(i:n<W.nw)(q:DQ H (ja W n (W.wm n).act home) Q):CL c D 909 [J W.aw,aq (64::cE n).toArray 0,kv,pv home] H Q:=by have l:180<=D-20:=cj m;have g:=eH.mpr i;obtain ⟨a,b,_,_⟩:=eD f ((f.lv' (dH n) g).mp (h.wins' (dH n) g).1.fit.ac);exact sW (ap m E) h f j (wO f j a b) (λv cv x p=>wN (ap l E) λs o=>CR (b:=false) (cj (ap l E)) (h.ext x) f p (fo i (ar (ar f.nw f.B) (by decide))) (CV n) λd u r y e t=>o d u r y e (PI W n home▸t)) q
theorem QP{b:aK}(l:200<=D)(h:aN H W)(f:a_ W)(r:∀k,home=G k->k∈W.keys)(q:DQ H (oy W) Q):CL c D 909 [J W.aw,aq (if b then #[126]else #[123,109,97,114,107,101,100,125]) 0,kv,pv home] H Q:=by
 have g:180<=D-20:=cj l;refine sW (ap l E) h f r ?_ (λC cv x A=>wN (ap g E) λB m=>PC (b:=b) (cj (ap g E)) (h.ext x) f λd u w y e t=>m d u w y e (PK W▸t)) q;unfold oy;cases n:W.mrk with
 |none=>exact qw
 |some p=>
  obtain ⟨k,i,p⟩:=p;show m3 W (qt W k i p (lk W.homes p));cases o:lk W.homes p with
  |none=>exact qw
  |some j=>
   obtain ⟨a,b,v,s⟩:=eD f o;show m3 W (if lk (W.row k) i=G j then G (k,i,j,p)else ja W j p af)
   by_cases e:lk (W.row k) i=G j
   ·rw [aJ e];exact Dl ⟨(f.mrk _ _ _ n).1,v,s,a,b⟩
   ·rw [aG e];exact wO f (λ_ z=>nomatch z) a b
theorem QQ{k n p:ag}(l:200<=D)(h:aN H W)(d:a_ W)(s:∀k,home=G k->k∈W.keys)(e:(k:U)∈W.keys)(o:n<100)(m:p<100)(q:DQ H (mZ W k n p) Q):CL c D 909 [J W.aw,aq (i_ k n p) 0,kv,pv home] H Q:=by
 have u:180<=D-20:=cj l;refine sW (ap l E) h d s ?_ (λw cv x v=>QM (ap u E) (h.ext x) d e (eH.mp (tK (d.k0 _ e).2 (by decide))) o m) q
 unfold mZ;cases r:eT W k (G (n:U))with
 |none=>exact qw
 |some i=>
  show m3 W (if(p:U)∈al (W.wm n).t then G ((k:U),i,(n:U),(p:U))else af)
  by_cases f:(p:U)∈al (W.wm n).t
  ·rw [aJ f]
   obtain ⟨_,j,g⟩:=d.rin _ e _ (gi (sM r).2);obtain ⟨a,b,_,_⟩:=eD d ((d.lv' j g).mp f);exact Dl ⟨e,j,g,a,b⟩
  ·rw [aG f];exact qw
end
theorem Dm{H:Hp}{v u:ab}{o:aj (U×U×U×U)}(h:jR H v o)(g:jR H u o):cJ H bB v u=G true:=by
 cases o with
 |none=>rw [show v=ah from h,show u=ah from g];rfl
 |some q=>obtain ⟨a,rfl,d⟩:=h;obtain ⟨b,rfl,c⟩:=g;exact CO d c (jQ (b:=true) qo (jQ (b:=true) qo (jQ (b:=true) qo (jQ (b:=true) qo E))))
theorem wP{H:Hp}{v u:ab}{o:aj (U×U×U×U)}(h:jR H v o)(g:jR H u o):cJ H eY v u=G false:=by
 have c:∀x,jR H x o->gs x=false:=λx b=>by
  cases o with
  |none=>rw [show x=ah from b];rfl
  |some q=>obtain ⟨a,rfl,_⟩:=b;rfl
 rw [vS,c v h,c u g,aJ E,<-mS,Dm h g];rfl
section
variable{c:Cx}{D:ag}{H H1:Hp}{W:Wd}{Q:KV}{kv u num:ab}{home:aj U}{n:ag}
theorem QR(f:290<=D)(h:aN H1 W)(j:a_ W)(l:∀k,home=G k->k∈W.keys)(e:n<20)(i:aW H H1)(o:jR H1 u (m1 W n home))(q:∀g,aW H g->Q (az true) g):SS c D (Bq.drop 2) [("world",J W.aw),("pane",aa n 0),("kind",kv),("home",pv home),("number",num),("due",u)] H1 (RK Q):=by
 have d:n<100:=fS e (by decide)
 exact b5 (gY (eL (bs (.var E) (bN (fD (a4 .cst (fY (a7 (.cons (.var E) .nil) (oo (ap f E) e (gZ ((wr (ar (gn (fG d) 1) (by decide))).trans (aA (λb=>G (aq b 0)) (EK [37] (cE n)))) (cK (bs (.var E) (bs (.var E) (bU (QN (ap f E) h j l d λv p a m=>g0 (a4 (.var E) (g1 (Dm m (o.ext a)) (q _ (i.trans a)))))))))))))))))))
theorem Dn(b:300<=D)(h:aN H W)(e:a_ W)(f:∀k,home=G k->k∈W.keys)(l:n<20)(q:∀g,aW H g->Q (az true) g):CL c D 923 [J W.aw,aa n 0,kv,pv home] H Q:=by
 refine Nu (ap b E) (d4 (.get (.idx (.var E) .cst h.i_hom) (.cons (.var E) .nil) h.hom (aA (·.getD .none) (kx n W.homes))) ?_)
 have a:=λ{num u H1} x d=>QR (c:=c) (D:=D-2) (kv:=kv) (num:=num) (u:=u) (H1:=H1) (eM b E) (h.ext x) e f l x d q;unfold m1 at a;revert a;cases lk W.homes n with
 |none=>exact λa=>d4 (.ite_t (.cmp (.var E) .cst E) .cst) (a (.refl H) E)
 |some j=>exact λa=>bV (hu (.cmp (.var E) .cst E) (a7 (.cons (.var E) (.cons (.var E) (.cons (.var E) (.cons (.var E) .nil)))) (wy (eM b E) h e f λu H1 i d=>a i d)))
end
noncomputable def wQ(k v:U)(p:U×U):U×U:=(p.1,if p.1=k then v else p.2)
noncomputable def cz(row:L (U×U))(k v:U):L (U×U):=if k∈aU row then row.map (wQ k v)else row++[(k,v)]
section
variable{row:L (U×U)}{k v x:U}
theorem oB(row:L (U×U))(k v:U):em (cM row) k (aa v 0)=cM (cz row k v):=by
 unfold cz
 by_cases h:k∈aU row
 ·rw [aJ h]
  unfold em;obtain ⟨p,b,e⟩:=cA.mp h;rw [aJ (show((cM row).any λa=>decide (a.1=k))=true from tv.mpr ⟨(p.1,aa p.2 0),cA.mpr ⟨p,b,E⟩,cN e⟩)]
  unfold cM;rw [dC,dC];refine jq λp _=>?_;show(if p.1=k then _ else _)=(p.1,aa (if p.1=k then v else p.2) 0)
  by_cases e:p.1=k
  ·rw [aJ e,aJ e]
  ·rw [aG e,aG e]
 ·rw [aG h];exact C5 k v row h
theorem QS(row:L (U×U))(k v:U):aU (cz row k v)=if k∈aU row then aU row else aU row++[k]:=by
 unfold cz
 by_cases h:k∈aU row
 ·rw [aJ h,aJ h];exact dC
 ·rw [aG h,aG h];exact sH ..
theorem qx(h:(aU row).Nodup):(aU (cz row k v)).Nodup:=by
 rw [QS]
 by_cases c:k∈aU row
 ·rw [aJ c];exact h
 ·rw [aG c]
  exact hM.mpr ⟨h,cS.mpr ⟨gc,oU⟩,λa d b f e=>c (by rw [e,de.mp f]at d;exact d)⟩
theorem Do:∀row:L (U×U),lk (row.map (wQ k v)) x=(lk row x).map λm=>if x=k then v else m
 |[]=>E
 |(i,m)::r=>by
  rw [e6,show wQ k v (i,m)=(i,if i=k then v else m)from E,mT,mT,Do r]
  by_cases h:i=x
  ·rw [aJ h,aJ h,h];rfl
  ·rw [aG h,aG h]
theorem QT(a b:L (U×U)):lk (a++b) x=(lk a x).or (lk b x):=by unfold lk;rw [L.find?_append,aj.map_or]
theorem QU:∀{row:L (U×U)},k∉aU row->lk row k=af:=λ{row} h=>aj.isSome_eq_false_iff.mp ((lT k row).trans (aK.eq_false_iff.mpr λz=>h (dE.mp z)))|>Sd.mp
theorem l6(row:L (U×U))(k v x:U):lk (cz row k v) x=if x=k then G v else lk row x:=by
 unfold cz
 by_cases h:k∈aU row
 ·rw [aJ h,Do]
  by_cases e:x=k
  ·obtain ⟨m,a⟩:=iv h
   rw [aJ e,e,a];exact aA G (aJ E)
  ·rw [aG e]
   cases lk row x with
   |none=>rfl
   |some m=>exact aA G (aG e)
 ·rw [aG h,QT,mT]
  by_cases e:x=k
  ·rw [aJ e,e,QU h];exact aJ E
  ·rw [aG e,aG (Ne.symm e)]
   cases lk row x<;>rfl
theorem wR(k x:U):∀row:L (U×U),lk (gM row k) x=if x=k then af else lk row x
 |[]=>(ite_self _).symm
 |(i,m)::r=>by
  have c:=wR k x r;unfold gM at*
  rw [kZ,mT]
  by_cases b:i=k
  ·rw [aG λz:decide (i≠k)=true=>gO z b,c,b]
   by_cases a:x=k
   ·rw [aJ a,aJ a]
   ·rw [aG a,aG a,aG (Ne.symm a)]
  ·rw [aJ (cN b),mT,c]
   by_cases a:i=x
   ·rw [aJ a,aJ a,aG (λz=>b (a.trans z))]
   ·rw [aG a,aG a]
theorem Dp(h:(aU row).Nodup):(aU (gM row k)).Nodup:=Ss (L.Sublist.map _ EG) h
end
theorem Dq(n:ag)(l:L U)(b:l.Nodup)(h:∀x∈l,0<=x/\x<n):l.length<=n:=by have:=b.length_le_of_subset (l₂:=(et n).map λi:ag=>(i:U)) λx a=>cA.mpr ⟨x.toNat,ji.mpr ((U.toNat_lt (h x a).1).mpr (h x a).2),xw (h x a).1⟩;rw [bJ,iK]at this;exact this
section
variable{W W':Wd}{H H':Hp}{j:U}{b:ag}
theorem a_.hz(a:a_ W):W.homes.length<=W.np:=kw W.homes▸Dq W.np (aU W.homes) a.hnd λx c=>let ⟨p,b,e⟩:=cA.mp c;e▸⟨(a.hin p b).1,(a.hin p b).2.1⟩
theorem a_.hz60(a:a_ W):W.homes.length<60:=fq (ar a.hz (ar a.np a.B)) (by decide)
theorem a_.lvz(c:a_ W)(h:aN H W)(e:0<=j)(d:j<W.nw):(al (W.wm j).t).length<=W.np:=Dq W.np _ (h.wins' e d).1.fit.nd λx f=>let ⟨a,b,_⟩:=eD c ((c.lv' e d).mp f);⟨a,b⟩
theorem a_.rehome(d:a_ W)(f:W'.keys=W.keys)(g:W'.row=W.row)(x:W'.brow=W.brow)(w:W'.cur=W.cur)(r:W'.mrk=W.mrk)(o:W.nw<=W'.nw)(q:W.np<=W'.np)(y:W.B<=W'.B)(C:W'.B<=18)(z:W'.nw<=W'.B)(A:W'.np<=W'.B)
  (l:(aU W'.homes).Nodup) (v:∀n j,lk W'.homes n=G j->0<=n/\n<W'.np/\0<=j/\j<W'.nw) (s:∀j n:U,0<=j->j<W'.nw->(n∈al (W'.wm j).t<->lk W'.homes n=G j)):a_ W':=
 ⟨f▸d.knd,f▸d.k0,f▸d.kl,by rw [f,w,g];exact d.cur,by rw [f,x,g];exact d.br,by rw [f,g];exact d.rnd,
 by rw [f,g];exact λk m p h=>let ⟨a,b,c⟩:=d.rin k m p h;⟨a,b,tq c (ib.mpr o)⟩,by rw [f,g];exact λk m=>ar (d.rl k m) y,
 l,λp h=>v p.1 p.2 ((wl l).mpr h),λj n u=>(s j n (dH j) (eH.mpr u)).trans (wl l),z,A,C,
 by rw [r,f];exact λk i p e=>let ⟨a,b,c⟩:=d.mrk k i p e;⟨a,b,tq c (ib.mpr q)⟩⟩
noncomputable def Wd.sb(W:Wd)(b:ag):Wd:={W with B:=b}
theorem a_.setB(a:a_ W)(d:b<=18)(h:W.B<=b):a_ (W.sb b):=⟨a.knd,a.k0,a.kl,a.cur,a.br,a.rnd,a.rin,λk c=>ar (a.rl k c) h,a.hnd,a.hin,a.lv,ar a.nw h,ar a.np h,d,a.mrk⟩
theorem aN.setB(h:aN H W)(b:ag):aN H (W.sb b):=⟨h.world,h.ses,h.pla,h.hom,h.win,h.pan,h.srv,h.mkt,h.dek,h.sess,h.wds,h.bks,h.wins,h.pans,h.emp,h.words,h.sides,h.corns⟩
theorem cH.setB(s:cH W H W' H')(b:ag):cH W H (W'.sb b) H':=⟨s.wat.setB b,s.same,s.x,s.nw,s.old,s.new⟩
end
noncomputable def hE(W:Wd)(H:Hp)(Q:KV):Prop:=∀a b,cH W H a b->a_ a->a.B<=W.B+1->Q (az true) b
noncomputable def Wd.nwin(W:Wd)(a:ae)(w:WM)(p:U):Wd:=(W.wi a w).ho (cz W.homes p W.nw)
section
variable{c:Cx}{D:ag}{H H':Hp}{W:Wd}{Q:KV}{n p:U}{a:ae}{w:WM}{b:ag}
theorem l7{f:U->ae}{n:ag}(h:H a=G (ak (cP f n))):hY H (J a)=G n:=by rw [mN h,lW]
theorem QV(e:10<=D)(q:∀a b,H a=af->aW H b->dc b a n->Q (J a) b):CL c D 480 [aa n 0] H Q:=by refine pU (i:=463) E (ap e E) λa d=>Mf (cj (ap e E:3<=D)) ?_;simp! [];exact⟨E,q a _ d ((aW.refl H).alloc d) ⟨0,0,aF _ _ _⟩⟩
theorem Dr(r:10<=D)(h:aN H W)(g:cd W.toBase)(o:bP H W.pA a w)(m:w.n=W.nw)(l:∀k∈W.keys,∀p∈W.row k,p.2≠W.nw)(i:W.homes.length<60)(j:W.nw<60)
  (q:∀e,bp (λz=>z=W.awi\/z=W.aho) H e->aN e (W.nwin a w p)->Q (aa W.nw 0) e):CL c D 848 [J W.aw,J a,aa p 0] H Q:=by
 refine Bm (ap r E) (d4 (.len (.idx (.var E) .cst h.i_win) (l7 h.win)) (dN (ge (.idx (.var E) .cst h.i_win) (jH h.win) (.cons (.var E) .nil) (pM h.win (by rw [lW];exact ar j (by decide)) ?_))))
 have b:=h.addWin g o m l;have d:bp (λz=>z=W.awi\/z=W.aho) H (H.set W.awi (ak (cP W.wA W.nw++[J a]))):= .set h.win E (bt E);revert b d;generalize H.set W.awi _=s;intro b d;have f:s W.aho=G (aO (cM W.homes)):=b.hom;refine kg (.var E) (.idx (.var E) .cst b.i_hom) (.var E) (i2 f (by rw [hC];exact ar i (by decide)) ?_)
 rw [oB];exact bR (.var E) (q _ (d.trans (.set f E (bF E))) (b.setHomes g (cz W.homes p W.nw)))
theorem wS(k:20<=D)(h:aN H W)(u:cd W.toBase)(r:∀j:ag,j<W.nw->∀n∈al (W.wm j).t,n≠W.np)(o:W.np<60)(q:∀a g,H a=af->bp (λz=>z=W.apa) H g->aN g (W.pa a)->Q (J a) g):CL c D 855 [J W.aw] H Q:=by
 refine Ng (ap k E) (dN (rO (.idx (.var E) .cst h.i_pan) (jH h.pan) (bN (a7 (.cons (.len (.idx (.var E) .cst h.i_pan) (l7 h.pan)) .nil) (QV (eM k E) λa f s i p=>cK (bU ?_))))));have e:=h.ext i;refine pM e.pan (by rw [lW];exact ar o (by decide)) ?_
 have b:=e.addPane u p r;have d:bp (λz=>z=W.apa) f (f.set W.apa (ak (cP W.pA W.np++[J a]))):= .set e.pan E E;revert b d;generalize f.set W.apa _=m;intro b d;have l:c6 m (J W.apa) (aa (-1) 0)=G (J a):=by refine(e3 b.pan).trans ?_;show fx (cP (a0 W.pA W.np a) (W.np+1)) (-1)=_;rw [oq,cn];exact p3 _ [] _
 exact bR (.idx (.idx (.var E) .cst b.i_pan) (.neg .cst) l) (q a m s ((bp.of_ext i).trans d) b)
theorem a_.freshPane(f:a_ W)(a:ae)(i:W.B+1<=18):a_ ((W.pa a).sb (W.B+1)):=f.rehome E E E E E (cw _) (dY _) (dY _) i (xz f.nw) (df f.np) f.hnd (λn j e=>let ⟨a,b,c,d⟩:=eD f e;⟨a,tK b (ii _),c,d⟩) λj n h g=>f.lv' h g
theorem a_.lvNe(a:a_ W):∀j:ag,j<W.nw->∀n∈al (W.wm j).t,n≠W.np:=λj c n b=>U.ne_of_lt (a.hin _ ((a.lv j n c).mp b)).2.1
theorem Ds(x:bp (λz=>z=W.apa) H H')(w:aN H' (W.pa a)):cH W H ((W.pa a).sb b) H':= .of (w.setB b) E x (λz h=>h▸PO W) E E
theorem QW(d:H a=af)(x:bp (λz=>z=W.awi\/z=W.aho) H H')(b:aN H' (W.nwin a w p)):cH W H (W.nwin a w p) H':=⟨b,E,x.more λz h=>h.elim (λh=>h▸C4 W) λh=>h▸wz W,dY _,λj c=>cy _ _ (m0 c),λj f e=>by show H (a0 W.wA W.nw a j)=af;rw [EF (qQ e) f,cn];exact d⟩
theorem a_.rowNe(a:a_ W):∀k∈W.keys,∀p∈W.row k,p.2≠W.nw:=λk c p b=>U.ne_of_lt (a.rin k c p b).2.2
theorem a_.newWin{wm':U->WM}(g:a_ W)(q:al w.t=[p])(k:0<=p)(i:p<W.np)(r:W.nw+1<=W.B)(o:∀j n:U,0<=j->j<W.nw->(n∈al (wm' j).t<->lk W.homes n=G j/\n≠p)):a_ ((W.ws wm').nwin a w p):=by
 refine g.rehome E E E E E (dY _) (cw _) (cw _) g.B r g.np (qx g.hnd) (λn j e=>?_) λj n m l=>?_
 ·have e:lk (cz W.homes p W.nw) n=G j:=e
  rw [l6]at e
  by_cases f:n=p
  ·rw [aJ f]at e
   rw [f,<-bc e];exact⟨k,i,dH _,ii _⟩
  ·rw [aG f]at e
   obtain ⟨a,b,c,d⟩:=eD g e;exact⟨a,b,c,tK d (ii _)⟩
 ·show n∈al (a0 wm' W.nw w j).t<->lk (cz W.homes p W.nw) n=G j
  rw [l6]
  by_cases h:j=W.nw
  ·rw [h,cn,q,de]
   by_cases f:n=p
   ·rw [aJ f];exact⟨λ_=>E,λ_=>f⟩
   ·rw [aG f];exact⟨λz=>bW z f,λz=>bW (eD g z).2.2.2 (ET _)⟩
  ·rw [cy _ _ h,o j n m ((EH (EI l)).resolve_right h)]
   by_cases f:n=p
   ·rw [aJ f];exact⟨λz=>bW f z.2,λz=>bW (bc z).symm h⟩
   ·rw [aG f];exact⟨λz=>z.1,λz=>⟨z,f⟩⟩
theorem QX(t:400<=D)(h:aN H W)(j:cd W.toBase)(d:a_ W)(Z:W.B+1<=18)(q:hE W H Q):CL c D 862 [J W.adk,J W.aw] H Q:=by
 have g:398<=D-2:=cj t;have u:∀{m},m<=W.B->m<60:=λh=>fq (ar h d.B) (by decide)
 refine Ni (ap t E) (bV (a7 (.cons (.var E) .nil) (wS (ap g E) h j d.lvNe (u d.np) λa H1 ha A f=>?_)));have R:=d.freshPane a Z;have y:=Ds (b:=W.B+1) A f;have s:dc H1 (a0 W.pA W.np a W.np) W.np:=f.pans' (dH _) (ii _);have r:a0 W.pA W.np a W.np=a:=cn ..;refine bV (a7 (.cons (.len (.idx (.var E) .cst f.i_win) (l7 f.win)) (.cons .cst (.cons (.var (aA G (aA J r.symm))) (.cons .cst (.cons .cst .nil))))) (vW (pA:=a0 W.pA W.np a) (k:=(W.np:U)) (ap g E) s λv H2 l Y i C F I=>?_));have M:=y.wat.ext i;have o:=i.pane s;rw [r]at o;refine b5 (eL (bs (.var E) (bs (.var E) (bN (a7 (.cons (.var E) (.cons (.var E) (.cons (.att (.var E) o.att) .nil))) (Dr (W:=(W.pa a).sb (W.B+1)) (p:=(W.np:U)) (ap g E) M j C F d.rowNe d.hz60 (u d.nw) λH3 z K=>cK (bU ?_)))))));have x:=y.trans (QW Y ((bp.of_ext i).trans z) K);have P:=R.newWin (a:=v) (w:=l) (p:=(W.np:U)) (wm':=W.wm) I (dH _) (ii _) (df d.nw) λac n T S=>(d.lv' T S).trans ⟨λe=>⟨e,U.ne_of_lt (eD d e).2.1⟩,λe=>e.1⟩;exact wF (W:=((W.pa a).sb (W.B+1)).nwin v l W.np) (ap g E) x.wat j P (dH _) (ii _) (λm V=>df (d.rl m V)) λW' H4 S4 N X=>q W' H4 (x.trans S4) N (cR X)
end
section
variable{c:Cx}{D:ag}{H H' H1:Hp}{W:Wd}{Q:KV}{i j n:U}{w' w1 w2:WM}{dk:L U}{ρ:ao}{e:ME}
theorem QY{n m:U}{f d:a9 aP}{a b l t j h g c:ab}(e:cQ n f a b l t=cQ m d j h g c):n=m:=aA (λo:MO=>match o with|bZ _ ((_,aa i _)::_)=>i|_=>0) e
theorem aN.wA_inj(h:aN H W)(l:0<=i)(k:i<W.nw)(g:0<=j)(f:j<W.nw)(e:W.wA i=W.wA j):i=j:=by obtain ⟨a,n⟩:=h.wins' l k;obtain ⟨b,m⟩:=h.wins' g f;obtain ⟨_,_,c,_⟩:=a.o;obtain ⟨_,_,d,_⟩:=b.o;rw [e,d]at c;rw [<-n,<-m];exact(QY (bc c)).symm
theorem aN.isWin(h:aN H W)(e:0<=i)(d:i<W.nw):∃n c p a l t,H (W.wA i)=G (cQ n c p a l t):=let ⟨_,_,b,_⟩:=(h.wins' e d).1.o;⟨_,_,_,_,_,_,b⟩
theorem sX(h:aN H W)(b:0<=j)(a:j<W.nw)(x:bp (λz=>z=W.wA j) H H')(d:bP H' W.pA (W.wA j) w')(f:w'.n=j):cH W H (W.ws (a0 W.wm j w')) H':=by
 refine .of (h.extWin x (λz e=>e▸h.isWin b a) λi c=>?_) E x (λz e=>e▸wC b a) E E
 by_cases e:(i:U)=j
 ·rw [e,cn];exact⟨d,f⟩
 ·rw [cy _ _ e]
  exact⟨(h.wins i c).1.extX x λz=>e (h.wA_inj (dH i) (eH.mpr c) b a z),(h.wins i c).2⟩
theorem Dt(h:aN H W)(s:i≠j)(d:0<=i)(c:i<W.nw)(b:0<=j)(a:j<W.nw)(x:bp (λz=>z=W.wA i\/z=W.wA j) H H')(p:bP H' W.pA (W.wA i) w1)(r:w1.n=i)(o:bP H' W.pA (W.wA j) w2)(q:w2.n=j):
  cH W H (W.ws (a0 (a0 W.wm i w1) j w2)) H':=by
 refine .of (h.extWin x (λz e=>e.elim (λe=>e▸h.isWin d c) λe=>e▸h.isWin b a) λk f=>?_) E x (λz e=>e.elim (λe=>e▸wC d c) λe=>e▸wC b a) E E
 by_cases e:(k:U)=j
 ·rw [e,cn];exact⟨o,q⟩
 ·rw [cy _ _ e]
  by_cases g:(k:U)=i
  ·rw [g,cn];exact⟨p,r⟩
  ·rw [cy _ _ g]
   have m:=dH k;have l:=eH.mpr f;exact⟨(h.wins k f).1.extX x λz=>z.elim (λz=>g (h.wA_inj m l d c z)) λz=>e (h.wA_inj m l b a z),(h.wins k f).2⟩
theorem qy{hs:L (U×U)}(h:aN H W)(a:cd W.toBase):cH W H (W.ho hs) (H.set W.aho (aO (cM hs))):=.of (h.setHomes a hs) E (X:=λz=>z=W.aho) (.set h.hom E E) (λz e=>e▸wz W) E E
theorem QZ(j:U)(W:Wd):(fn W j).length<=W.homes.length:=ar (qM ..) (cR ((gL _).trans (kw _)))
theorem wT{m:ag}(i:2<=D)(k:cd W.toBase)(S:cH W H (W.dk a) H1)(h:0<m)(g:m<1000)(r:ρ.lookup "deck"=G (J W.adk)) (d:PV c D ρ H1 e (aa m 0)) (q:∀(r:ag) a b,r<m->cH W H (W.dk a) b->Q (aa (r:U) 0) b):EE c D (aB 57 817 [(O "deck"),e]) ρ H1 Q:=a7 (.cons (.var r) (.cons d .nil)) (l0 (W:=W.dk a) i S.wat k h g λr j b f x w=>q r j b f (S.trans (.dk (W:=W.dk a) x w)))
theorem sY(k:10<=D)(A:cd W.toBase)(b:a_ W)(S:cH W H (W.dk a) H1)(h:0<=j)(g:j<W.nw)(r:ρ.lookup "deck"=G (J W.adk)) (p:ρ.lookup "world"=G (J W.aw)) (s:PV c D ρ H1 e (aa j 0)) (q:∀n a m,lk W.homes n=G j->cH W H (W.dk a) m->Q (aa n 0) m):EE c D (aB 58 824 [(O "deck"),(aB 60 834 [(O "world"),e])]) ρ H1 Q:=by
 refine eL (bs (.var r) (bN (a7 (.cons (.var p) (.cons s .nil)) (sS (W:=W.dk a) (ap k E) S.wat b.hz60 λd i=>cK (bU ?_)))));have x:aW H1 (H1.set d (ak (iL (fn W j)))):=(aW.refl H1).alloc i;have l:=aF H1 d (ak (iL (fn W j)));have t:d≠W.adk:=(f4 i S.wat.dek).symm;show CL c D 824 _ (H1.set d (ak (iL (fn W j)))) Q;revert x l;generalize H1.set d _=C;intro x l;have f:=qr.mpr ((b.lv' h g).mp (S.wat.wins' h g).1.fit.ac);refine ox (W:=W.dk a) k (S.wat.ext x) A (bt l) t (wE λz=>by rw [show fn W j=[]from z]at f;cases f) (by rw [gU];exact fq (QZ j W) (fS b.hz60 (by decide))) λv y B u o w2=>?_
 obtain ⟨n,w,rfl⟩:=cA.mp u;exact q n y B (qr.mp w) (S.trans (.pre x (.dk (W:=W.dk a) o w2)))
theorem hE.of(q:hE W H Q)(S:cH W H (W.dk dk) H1):hE (W.dk dk) H1 Q:=λc H' d a b=>q c H' (S.trans d) a b
theorem Q0{b:aK}(F:398<=D)(h:aN H W)(M:cd W.toBase)(d:a_ W)(l:0<=j)(k:j<W.nw)(Z:lk W.homes n=G j)(I:W.B+1<=18)(q:hE W H Q):
  SS c D Bn.tail [("deck",J W.adk),("world",J W.aw),("one",aa j 0),("is_row",az b),("number",aa n 0)] H (RK Q):=by
 have K:∀{m},m<=W.B->m<60:=λh=>fq (ar h d.B) (by decide)
 refine bV (a7 (.cons (.var E) .nil) (wS (ap F E) h M d.lvNe (K d.np) λa H3 ha N g=>?_));have p:=d.freshPane a I;have v:=Ds (b:=W.B+1) N g;obtain ⟨C,S,_,_⟩:=eD d Z;have A:=tK S (ii (W.np:U));have u:=g.wins' l k;have x:dc H3 (a0 W.pA W.np a W.np) W.np:=g.pans' (dH _) (ii _);have y:a0 W.pA W.np a W.np=a:=cn ..;obtain ⟨pl,ad,P,_⟩:=u.1.o;have ac:(W.np:U)∉al (W.wm j).t:=λz=>bW (eD d ((d.lv' l k).mp z)).2.1 (ET _);refine dt (ke (.idx (.idx (.var E) .cst g.i_win) (.var E) (g.w_at l k)) (dv P E E) (.cons (.idx (.idx (.var E) .cst g.i_pan) (.var E) (g.p_at C A)) (.cons (.var (aA G (aA J y.symm))) (.cons (.var E) .nil))) (Ov (ap F E) u.1 (g.pans' C A) x ac (ag.succ_le_of_lt (K (ar (d.lvz h l k) d.np))) (λH4 r=>?_) λH4 w' r X Y R=>?_))
 ·exact gu (d5 (a5 (bb (bR .cst (q _ _ (v.ext r) p (cw _))))))
 ·have s:=v.trans (sX v.wat l k r X (Y.trans u.2))
  have S5:=s.trans (qy (hs:=cz W.homes W.np j) s.wat M);have w:=r.pane x;rw [y]at w;refine gu (gI (kg (.var E) (.idx (.var E) .cst s.wat.i_hom) (.att (.var E) w.att) (i2 s.wat.hom (by rw [hC];exact ar d.hz60 (by decide)) ?_)))
  rw [oB];refine a5 (bb (bR .cst (q _ _ S5 (p.rehome E E E E E (cw _) (cw _) (cw _) I p.nw p.np (qx d.hnd) (λm i e=>?_) λi m V T=>?_) (cw _))))
  ·have e:lk (cz W.homes W.np j) m=G i:=e
   rw [l6]at e
   by_cases f:m=W.np
   ·rw [aJ f]at e
    rw [f,<-bc e];exact⟨dH _,ii _,l,k⟩
   ·rw [aG f]at e
    exact eD p e
  ·show m∈al (a0 W.wm j w' i).t<->lk (cz W.homes W.np j) m=G i
   rw [l6]
   by_cases e:i=j
   ·rw [e,cn,R.mem_iff,bQ]
    by_cases f:m=W.np
    ·rw [aJ f];exact⟨λ_=>E,λ_=>bt f⟩
    ·rw [aG f,<-d.lv' l k];exact⟨λz=>z.resolve_left f,bF⟩
   ·rw [cy _ _ e,d.lv' V T]
    by_cases f:m=W.np
    ·rw [aJ f,f]
     exact⟨λz=>bW (eD d z).2.1 (ET _),λz=>bW (bc z).symm e⟩
    ·rw [aG f]
theorem Q1(a:400<=D)(h:aN H W)(b:cd W.toBase)(d:a_ W)(f:0<=j)(e:j<W.nw)(l:W.B+1<=18)(q:hE W H Q):CL c D 869 [J W.adk,J W.aw,aa j 0] H Q:=Nj (ap a E) (f2 (bN (sY (W:=W) (eM a E) b d (cH.refl h) f e E E (.var E) λn dk H1 k o=>cK (bN (gY (wT (W:=W) (m:=2) (eM a E) b o (by decide) (by decide) E .cst λr g s p i=>g0 (a4 .cst (g1 (fl ..) (cK (bU (f3 (aS E) E (Q0 (W:=W.dk g) (eM a E) i.wat b (d.deck g) f e k l (q.of i)))))))))))))
end
noncomputable def wU:L MS->L MS
 |aQ _ a _::_=>a
 |_=>[]
noncomputable def Q2:L MS:=wU (n3.drop 3)
noncomputable def Q3:L MS:=wU (n3.drop 4)
noncomputable def Q4:L MS:=wU (n3.drop 5)
noncomputable def qz(W:Wd)(a d c n m:U)(b:aK):ao:=[("deck",J W.adk),("world",J W.aw),("way",aa a 0),("one",aa d 0),("other",aa c 0),("homes",J W.aho),("panes",J W.apa),("windows",J W.awi),("mate",aa m 0),("number",aa n 0),("is_lone",az b)]
theorem Q5(l:L U)(n:U):hq (iL l) [aa n 0]=G (decide (l=[n])):=by
 cases l with
 |nil=>exact aA G (e7 nofun).symm
 |cons a r=>
  have e:hq (iL (a::r)) [aa n 0]=G ((a==n)&&r.isEmpty):=by
   cases r with
   |nil=>exact jQ E E
   |cons b s=>exact jQ E E
  rw [e];refine aA G (oN.mpr ?_);rw [EJ,fg,c4,L.isEmpty_iff];exact⟨λh=>by rw [h.1,h.2],λh=>⟨(gb h).1,(gb h).2⟩⟩
theorem kz{x k:U}{l a:L U}(p:l.Perm (k::a))(c:l.Nodup):x∈a<->x∈l/\x≠k:=by have b:=cS.mp (p.nodup_iff.mp c);rw [p.mem_iff,bQ];exact⟨λh=>⟨bF h,λe=>b.1 (e▸h)⟩,λh=>h.1.resolve_left h.2⟩
theorem Du(row:L (U×U))(k:U):iW (cM row) k=cM (gM row k):=Cy (f:=λj=>aa j 0) row k
theorem Dv{H:Hp}{a b:ae}{vs us:L ab}{k:aj aK}(h:H a=G (ak vs))(g:H b=G (ak us))(e:hq vs us=k):cJ H bB (J a) (J b)=k:=by rw [mS,pe (ol (bH h)) (ol (bH g))];exact e
theorem wV{P:U->U->Prop}{row:L (U×U)}{k v:U}(h:∀x j,lk row x=G j->P x j)(g:P k v)(x j:U)(e:lk (cz row k v) x=G j):P x j:=by
 rw [l6]at e
 by_cases a:x=k
 ·rw [aJ a]at e
  rw [a,<-bc e];exact g
 ·rw [aG a]at e;exact h x j e
theorem kD{i j:U}(h:i≠j):(G i=G j)=d8:=eq_false λe=>h (bc e)
section
variable{c:Cx}{D:ag}{H H' H2 H3:Hp}{W W2:Wd}{T:KF}{Q:KV}{fI b1 cL n m i j p:U}{b:aK}{w' w1 w2 w:WM}{hs:L (U×U)}{a:ae}{wm':U->WM}
theorem Dw(a:a_ W)(h:aN H W)(c:0<=j)(b:j<W.nw):(fn W j).Perm (al (W.wm j).t):=(Sv (Ss EG ((mB _).nodup_iff.mpr a.hnd)) (h.wins' c b).1.fit.nd).mpr λn=>qr.trans (a.lv' c b).symm
theorem Q6(c:a_ W)(h:aN H W)(f:0<=j)(d:j<W.nw)(g:lk W.homes n=G j):fn W j=[n]<->(al (W.wm j).t).length=1:=by
 have p:=Dw c h f d;have m:=qr.mpr g;rw [<-p.length_eq];refine⟨λe=>by rw [e];rfl,λe=>?_⟩
 obtain ⟨a,b⟩:=Sr.mp e;rw [b,de]at m;rw [b,m]
theorem Dx(a:a_ W)(f:∀x,x∈al w'.t<->lk hs x=G b1)(d:∀i x,i≠b1->(lk hs x=G i<->lk W.homes x=G i))(i x:U)(c:0<=i)(b:i<W.nw):x∈al (a0 W.wm b1 w' i).t<->lk hs x=G i:=by
 by_cases e:i=b1
 ·rw [e,cn];exact f x
 ·rw [cy _ _ e];exact(a.lv' c b).trans (d i x e).symm
theorem Dy(b:a_ W)(h:∀x,x∈al w1.t<->lk hs x=G b1)(g:∀x,x∈al w2.t<->lk hs x=G cL)(f:∀i x,i≠b1->i≠cL->(lk hs x=G i<->lk W.homes x=G i))(i x:U)(d:0<=i)(c:i<W.nw):x∈al (a0 (a0 W.wm b1 w1) cL w2 i).t<->lk hs x=G i:=by
 by_cases e:i=cL
 ·rw [e,cn];exact g x
 ·rw [cy _ _ e]
  by_cases a:i=b1
  ·rw [a,cn];exact h x
  ·rw [cy _ _ a];exact(b.lv' d c).trans (f i x a e).symm
theorem a_.home(a:a_ W)(b:(aU hs).Nodup)(d:∀n j,lk hs n=G j->0<=n/\n<W.np/\0<=j/\j<W.nw)(c:∀j n:U,0<=j->j<W.nw->(n∈al (wm' j).t<->lk hs n=G j)):a_ ((W.ws wm').ho hs):=a.rehome E E E E E (cw _) (cw _) (cw _) a.B a.nw a.np b d c
theorem Q7(S:cH W H W2 H2)(d:W2.nw=W.nw)(e:H a=af)(x:bp (λz=>z=W2.awi\/z=W2.aho) H2 H3)(c:aN H3 (W2.nwin a w p)):cH W H (W2.nwin a w p) H3:=⟨c,S.same,S.x.trans2 x λz h=>S.wx z (h.elim (λh=>h▸C4 W2) λh=>h▸wz W2),xz S.nw,λj b=>(cy _ _ (m0 (fo b S.nw))).trans (S.old j b),λj g f=>by show H (a0 W2.wA W2.nw a j)=af;rw [show j=W2.nw from EF (qQ f) (d▸g),cn];exact e⟩
noncomputable abbrev qA(W:Wd)(H:Hp)(K:KF):Prop:=hE W H λv H'=>∀a,K (ck v) a H'
theorem hE.self(q:hE W H Q)(h:aN H W)(a:a_ W):Q (az true) H:=q W H (.refl h) a (dY _)
theorem Q8(s:410<=D)(h:aN H W)(x:cd W.toBase)(d:a_ W)(g:0<=b1)(f:b1<W.nw)(o:lk W.homes n=G b1)(i:b=decide ((al (W.wm b1).t).length=1))(hB:W.B+1<=18)(q:qA W H T):SS c D Q2 (qz W fI b1 cL n m b) H T:=by
 obtain ⟨v,u,_,_⟩:=eD d o;have l:=h.wins' g f;refine bV (a7 (.cons (.idx (.var E) (.var E) (h.w_at g f)) (.cons (.idx (.var E) (.var E) (h.p_at v u)) (.cons (.len (.var E) (l7 h.win)) (.cons .cst .nil)))) (OD (ap s E) l.1 ((d.lv' g f).mpr o) h.emp (λH1 k r=>?_) λH1 A w' w2 k r ad V Y M S X ac=>?_))
 ·exact cZ (.eq (.var E) (i.trans (cN r))) (bR (.cmp (.var E) .cst E) (bX (q _ _ ((cH.refl h).ext k) d (dY _) _)))
 ·have F:=sX h g f k V (Y.trans l.2)
  refine b7 (.eq (.var E) (i.trans (e7 r))) (b5 (eL (bs (.var E) (bs (.var E) (bN (a7 (.cons (.var E) (.cons (.var E) (.cons (.var E) .nil))) (Dr (W:=W.ws (a0 W.wm b1 w')) (p:=n) (ap s E) F.wat x S X d.rowNe d.hz60 (fq (ar d.nw d.B) (by decide)) λH2 I K=>cK (bU ?_))))))))
  have C:=(Q7 F E ad I K).setB (W.B+1)
  have P:=(d.setB hB (dY _)).newWin (a:=A) (w:=w2) (p:=n) (wm':=a0 W.wm b1 w') ac v u (df d.nw) λj ao R Q=>by
   by_cases e:j=b1
   ·rw [e,cn,kz M l.1.fit.nd,d.lv' g f];rfl
   ·rw [cy _ _ e,d.lv' R Q]
    exact⟨λz=>⟨z,λy=>e (bc (z.symm.trans (y▸o)))⟩,λz=>z.1⟩
  exact wF (W:=((W.ws (a0 W.wm b1 w')).nwin A w2 n).sb (W.B+1)) (ap s E) C.wat x P (dH _) (ii _) (λm Z=>df (d.rl m Z)) λW' H4 S4 N i=>q W' H4 (C.trans S4) N (cR i) _
theorem Q9(V:410<=D)(h:aN H W)(X:cd W.toBase)(a:a_ W)(l:0<=b1)(k:b1<W.nw)(r:lk W.homes n=G b1)(g:0<=cL)(f:cL<W.nw)(R:lk W.homes m=G cL)(S:b=decide ((al (W.wm b1).t).length=1))(q:qA W H T):SS c D Q3 (qz W fI b1 cL n m b) H T:=by
 obtain ⟨Q,N,_,_⟩:=eD a r;obtain ⟨m0,m1,_,_⟩:=eD a R;have s:∀{F y ρ},cH W H y F->a_ y->y.B=W.B->SS c D [aH (ai (az true))] ρ F T:=λad o e=>bR .cst (q _ _ ad o (e▸dY _) _);have P:=PT.cmp (c:=c) (D:=D) (H:=H) (ρ:=qz W fI b1 cL n m b) (op:=eY) (.var (x:="one") E) (.var (x:="other") E) (show _=G (!(b1==cL))from E)
 by_cases e:b1=cL
 ·exact b7 (.and_f (P.eq (aA not (c4.mpr e)))) (s (.refl h) a E)
 have P:=P.eq (aA not (dB.mpr e))
 by_cases w:(al (W.wm b1).t).length=1
 ·exact b7 (.and_t P (.and_t1 (.eq (.not (.var E)) (aA not (S.trans (cN w)))))) (s (.refl h) a E)
 refine cZ (.and_t P (.and_t1 (.eq (.not (.var E)) (aA not (S.trans (e7 w)))))) (dt (u8 (bs (.idx (.var E) (.var E) (h.w_at l k)) (bs (.idx (.var E) (.var E) (h.p_at Q N)) (bs (.idx (.var E) (.var E) (h.w_at g f)) (bs (.idx (.var E) (.var E) (h.p_at m0 m1)) (bN (gY (wT (W:=W) (m:=2) (ap V E) X (cH.refl h) (by decide) (by decide) E .cst λau u F hr C=>g0 (a4 .cst (g1 (fl ..) (cK (bU ?_)))))))))))))
 have w1:=C.wat;have p:=w1.wins' l k;have I:=w1.wins' g f;refine OE (ap V E) p.1 I.1 (λz=>e (h.wA_inj l k g f z)) ((a.lv' l k).mpr r) ((a.lv' g f).mpr R) (λz=>e (bc (r.symm.trans ((a.lv' g f).mp z)))) (ar (df (ar (a.lvz h g f) (ar a.np a.B))) (by decide)) w1.emp w (λH2 v=>?_) λH2 as ao v ac g2 Z Y M K=>?_
 ·exact gu (d5 (a5 (bb (a5 (bb (s (C.ext v) (a.deck u) E))))))
 have A:=C.trans (Dt (W:=W.dk u) w1 e l k g f v ac (Z.trans p.2) g2 (Y.trans I.2));have S3:=A.trans (qy (hs:=cz W.homes n cL) A.wat X);refine gu (gI (kg (.var E) (.var E) (.var E) (i2 A.wat.hom (by rw [hC];exact ar a.hz60 (by decide)) ?_)))
 rw [oB];refine a5 (bb (a5 (bb (s S3 ((a.deck u).home (qx a.hnd) (wV (λx j=>eD a) ⟨Q,N,g,f⟩) (Dy (a.deck u) (λx=>?_) (λx=>?_) λi x e2 e1=>?_)) E))))
 all_goals
  rw [l6]
  by_cases d:x=n
 ·rw [kz M p.1.fit.nd,aJ d,kD (Ne.symm e)];exact⟨λz=>z.2 d,λz=>z.elim⟩
 ·rw [kz M p.1.fit.nd,aG d];exact⟨λz=>(a.lv' l k).mp z.1,λz=>⟨(a.lv' l k).mpr z,d⟩⟩
 ·rw [K.mem_iff,bQ,aJ d];exact⟨λ_=>E,λ_=>bt d⟩
 ·rw [K.mem_iff,bQ,aG d];exact⟨λz=>(a.lv' g f).mp (z.resolve_left d),λz=>bF ((a.lv' g f).mpr z)⟩
 ·rw [aJ d,d,kD (Ne.symm e1)];exact⟨λz=>z.elim,λz=>e2 (bc (z.symm.trans r))⟩
 ·rw [aG d];exact Iff.rfl
theorem Q_(hD:410<=D)(h:aN H W)(ad:cd W.toBase)(f:a_ W)(l:0<=b1)(g:b1<W.nw)(r:lk W.homes n=G b1)(p:0<=cL)(o:cL<W.nw)(s:lk W.homes m=G cL)(q:qA W H T):SS c D Q4 (qz W fI b1 cL n m b) H T:=by
 obtain ⟨V,S,_,_⟩:=eD f r;obtain ⟨Y,X,_,_⟩:=eD f s;have kn:n∈aU W.homes:=dE.mp ((lT n W.homes).symm.trans (by rw [r];rfl))
 have w:=qy (hs:=cz W.homes n cL) h ad;have ao:(cz W.homes n cL).length=W.homes.length:=by unfold cz;rw [aJ kn,bJ]
 have I:W.homes.length+1<=bL:=ar f.hz60 (by decide)
 refine lE (.cons (.var E) (.cons (.var E) .nil)) E (aS E) (pH (.var E) (.var E) (i2 h.hom (by rw [hC];exact I) ?_))
 rw [oB];revert w;generalize H.set W.aho _=F;intro w;refine pH (.var E) (.var E) (i2 w.wat.hom (by rw [hC];exact ao.symm▸I) (f1 ?_))
 have u:cH W H (W.ho (cz (cz W.homes n cL) m b1)) (F.set W.aho (aO (cM (cz (cz W.homes n cL) m b1)))):=w.trans (qy (W:=W.ho (cz W.homes n cL)) (hs:=cz (cz W.homes n cL) m b1) w.wat ad);show SS c D _ _ (F.set W.aho (aO (em (cM (cz W.homes n cL)) m (aa b1 0)))) T;rw [oB];revert u;generalize F.set W.aho _=H2;intro u;have w2:aN H2 (W.ho (cz (cz W.homes n cL) m b1)):=u.wat;have A:=w2.wins' l g;have K:=w2.wins' p o;have au:=(f.lv' l g).mpr r;have as:=(f.lv' p o).mpr s;have Z:∀x,lk (cz (cz W.homes n cL) m b1) x=if x=m then G b1 else if x=n then G cL else lk W.homes x:=λx=>by rw [l6,l6]
 have ac:=wV (wV (λx j=>eD f) ⟨V,S,p,o⟩) ⟨Y,X,l,g⟩;have R:=qx (k:=m) (v:=b1) (qx (k:=n) (v:=cL) f.hnd);refine b5 (gY (a7 (.cons (.idx (.var E) (.var E) (w2.w_at l g)) (.cons (.idx (.var E) (.var E) (w2.p_at V S)) (.cons (.idx (.var E) (.var E) (w2.w_at p o)) (.cons (.idx (.var E) (.var E) (w2.p_at Y X)) .nil)))) (OI (ap hD E) A.1 K.1 au as w2.emp (λe=>aA W.wm (h.wA_inj l g p o e)) (λe k d a=>e (aA W.wA (bc (((f.lv' l g).mp d).symm.trans ((f.lv' p o).mp a))))) (λH3 w' B y aZ aW pm=>g0 (a4 .cst (g1 (k:=true) E ?_))) λH3 a1 a0 B y aY g2 aF aw N M=>g0 (a4 .cst (g1 (k:=true) E ?_)))))
 ·have e:b1=cL:=h.wA_inj l g p o B
  have C:=u.trans (sX (W:=W.ho (cz (cz W.homes n cL) m b1)) w2 l g y aZ (aW.trans A.2))
  have el:∀x,lk (cz (cz W.homes n cL) m b1) x=lk W.homes x:=λx=>by
   rw [Z,<-e]
   by_cases d:x=m
   ·rw [aJ d,d,s,e]
   ·rw [aG d]
    by_cases a:x=n
    ·rw [aJ a,a,r]
    ·rw [aG a]
  exact q _ _ C (f.home (hs:=cz (cz W.homes n cL) m b1) R ac (Dx f (λx=>by rw [el,pm.mem_iff];exact f.lv' l g) λi x _=>by rw [el])) (dY _) _
 ·have e:b1≠cL:=λz=>B (aA W.wA z)
  have nm:n≠m:=λz=>e (bc (r.symm.trans (z▸s)));have C:=u.trans (Dt (W:=W.ho (cz (cz W.homes n cL) m b1)) w2 e l g p o y aY (aF.trans A.2) g2 (aw.trans K.2));have Q:(m::al (W.wm b1).t).Nodup:=cS.mpr ⟨λz=>e (bc (((f.lv' l g).mp z).symm.trans s)),(h.wins' l g).1.fit.nd⟩;have P:(n::al (W.wm cL).t).Nodup:=cS.mpr ⟨λz=>e (bc (r.symm.trans ((f.lv' p o).mp z))),(h.wins' p o).1.fit.nd⟩;refine q _ _ C (f.home (hs:=cz (cz W.homes n cL) m b1) R ac (Dy f (λx=>?_) (λx=>?_) λi x e2 e1=>?_)) (dY _) _
  all_goals
   rw [Z]
   by_cases d:x=m
  ·rw [kz N.symm Q,bQ,aJ d];exact⟨λ_=>E,λ_=>⟨bt d,λz=>nm (z.symm.trans d)⟩⟩
  ·rw [kz N.symm Q,bQ,aG d,show x∈al ((W.ho (cz (cz W.homes n cL) m b1)).wm b1).t<->_ from f.lv' l g]
   by_cases a:x=n
   ·rw [aJ a,kD (Ne.symm e)];exact⟨λz=>z.2 a,λz=>z.elim⟩
   ·rw [aG a];exact⟨λz=>z.1.resolve_left d,λz=>⟨bF z,a⟩⟩
  ·rw [kz M.symm P,aJ d,kD e];exact⟨λz=>z.2 d,λz=>z.elim⟩
  ·rw [kz M.symm P,bQ,aG d,show x∈al ((W.ho (cz (cz W.homes n cL) m b1)).wm cL).t<->_ from f.lv' p o]
   by_cases a:x=n
   ·rw [aJ a];exact⟨λ_=>E,λ_=>⟨bt a,d⟩⟩
   ·rw [aG a];exact⟨λz=>z.1.resolve_left a,λz=>⟨bF z,d⟩⟩
  ·rw [aJ d,d,s,kD (Ne.symm e2),kD (Ne.symm e1)]
  ·rw [aG d]
   by_cases a:x=n
   ·rw [aJ a,a,r,kD (Ne.symm e2),kD (Ne.symm e1)]
   ·rw [aG a]
theorem Ra(K:410<=D)(h:aN H W)(S:cd W.toBase)(d:a_ W)(l:0<=b1)(f:b1<W.nw)(r:lk W.homes n=G b1)(I:b=decide ((al (W.wm b1).t).length=1))(q:qA W H T):SS c D (n3.drop 6) (qz W fI b1 cL n m b) H T:=by
 obtain ⟨C,B,_,_⟩:=eD d r;have F:=(d.lv' l f).mpr r
 by_cases s:(al (W.wm b1).t).length=1
 ·have e:b=true:=I.trans (cN s)
  obtain ⟨P,N,v,_⟩:=(h.wins' l f).1.o;exact b7 (.eq (.not (.var E)) (aA not e)) (b5 (gY (eR (.idx (.var E) (.var E) (h.w_at l f)) (dv v E E) (.cons (.idx (.var E) (.var E) (h.p_at C B)) .nil) (sA (ap K E) (h.wins' l f).1 F h.emp (λM y _=>g0 (a4 (.not (.var E)) (g1 (k:=true) (by rw [e];rfl) (q _ _ ((cH.refl h).ext y) d (dY _) _)))) λM w' y g _ _ _=>bW s g))))
 ·have e:b=false:=I.trans (e7 s)
  have u:=qy (hs:=gM W.homes n) h S;refine cZ (.eq (.not (.var E)) (aA not e)) (dN (ge (.var E) (pO h.hom) (.cons (.var E) .nil) (Bc h.hom ((kx n W.homes).trans (by rw [r];rfl)) (a5 (bb ?_)))))
  rw [Du];revert u;generalize H.set W.aho _=M;intro u;have w1:=u.wat;have p:=w1.wins' l f;obtain ⟨P,N,v,_⟩:=p.1.o;refine b5 (gY (eR (.idx (.var E) (.var E) (w1.w_at l f)) (dv v E E) (.cons (.idx (.var E) (.var E) (w1.p_at C B)) .nil) (sA (ap K E) p.1 F w1.emp (λH2 w g=>bW g s) λH2 w' w _ g Q A=>g0 (a4 (.not (.var E)) (g1 (k:=true) (by rw [e];rfl) (q _ _ (u.trans (sX (W:=W.ho (gM W.homes n)) w1 l f w g (Q.trans p.2))) (d.home (hs:=gM W.homes n) (Dp d.hnd) (λx j e=>?_) (Dx d (λx=>?_) λi x R=>?_)) (dY _) _))))))
  ·rw [wR]at e
   by_cases a:x=n
   ·rw [aJ a]at e;cases e
   ·rw [aG a]at e;exact eD d e
  all_goals
   rw [wR]
   by_cases a:x=n
  ·rw [kz A p.1.fit.nd,aJ a];exact⟨λz=>bW a z.2,nofun⟩
  ·rw [kz A p.1.fit.nd,aG a];exact⟨λz=>(d.lv' l f).mp z.1,λz=>⟨(d.lv' l f).mpr z,a⟩⟩
  ·rw [aJ a,a,r,kD (Ne.symm R)];exact⟨nofun,λz=>z.elim⟩
  ·rw [aG a]
theorem Rb(j:415<=D)(h:aN H W)(s:cd W.toBase)(e:a_ W)(g:0<=b1)(f:b1<W.nw)(i:lk W.homes n=G b1)(w:0<=cL)(u:cL<W.nw)(x:lk W.homes m=G cL)(F:W.B+1<=18)(q:hE W H Q):
  SS c D (n3.drop 2) [("deck",J W.adk),("world",J W.aw),("way",aa fI 0),("one",aa b1 0),("other",aa cL 0),("homes",J W.aho),("panes",J W.apa),("windows",J W.awi),("mate",aa m 0),("number",aa n 0)] H (RK Q):=by
 refine bV (gY (a7 (.cons (.var E) (.cons (.var E) .nil)) (sS (ap j E) h e.hz60 λd C=>g0 (ed (.cons (.var E) .nil) (aS E) λA y=>g1 (k:=decide ((al (W.wm b1).t).length=1)) ((Dv (bK y (aF _ _ _)) (aF _ _ _) (Q5 ..)).trans (aA G (decide_eq_decide.mpr (Q6 e h g f i)))) ?_))));have l:aW H ((H.set d (ak (iL (fn W b1)))).set A (ak [aa n 0])):=((aW.refl H).alloc C).alloc y;revert l;generalize (H.set d (ak (iL (fn W b1)))).set A _=H2;intro l;have r:=h.ext l;have p:∀T:KF,(∀v a H',Q v H'->T (ck v) a H')->qA W H2 T:=λT k I H' S o b a=>k _ a H' (q I H' (.pre l S) o b);exact eO (.cmp (.var E) .cst (fl ..)) (λ_=>Q8 (ap j E) r s e g f i E F (p _ λv a H' z=>bX z)) λ_=>a5 (bb (eO (.cmp (.var E) .cst (fl ..)) (λ_=>Q9 (ap j E) r s e g f i w u x E (p _ λv a H' z=>bX z)) λ_=>a5 (bb (eO (.cmp (.var E) .cst (fl ..)) (λ_=>Q_ (ap j E) r s e g f i w u x (p _ λv a H' z=>bX z)) λ_=>a5 (bb (Ra (ap j E) r s e g f i E (p _ λv a H' z=>z)))))))
theorem Rc(j:420<=D)(h:aN H W)(d:cd W.toBase)(a:a_ W)(i:0<=b1)(g:b1<W.nw)(f:0<=cL)(e:cL<W.nw)(r:W.B+1<=18)(q:hE W H Q):CL c D 876 [J W.adk,J W.aw,aa fI 0,aa b1 0,aa cL 0] H Q:=by have b:418<=D-2:=cj j;exact Nk (ap j E) (f2 (bs (.idx (.var E) .cst h.i_win) (bs (.idx (.var E) .cst h.i_pan) (bs (.idx (.var E) .cst h.i_hom) (bU (f3 (aS E) E (f2 (bN (sY (W:=W) (ap b E) d a (cH.refl h) i g E E (.var E) λn t u o s=>cK (bN (sY (W:=W) (ap b E) d a s f e E E (.var E) λm k H2 p l=>cK (bU (f3 (aS E) E (Rb (W:=W.dk k) (ap b E) l.wat d (a.deck k) i g o f e p r (q.of l)))))))))))))))
end
section
variable{c:Cx}{D:ag}{H H' H1:Hp}{W:Wd}{Q:KV}{k i fI:U}{dk l:L U}{d:ae}
theorem Dz(s:10<=D)(t:cd W.toBase)(S:cH W H (W.dk dk) H1)(f:H1 d=af)(r:l≠ [])(k:l.length<60)(q:∀x b g,x∈l->cH W H (W.dk b) g->Q (aa x 0) g):CL c D 824 [J W.adk,J d] (H1.set d (ak (iL l))) Q:=by
 have a:=S.ext ((aW.refl H1).alloc f (o:=ak (iL l)));have e:=aF H1 d (ak (iL l));have j:d≠W.adk:=(f4 f S.wat.dek).symm;revert e a;generalize H1.set d _=w;intro a e;refine ox (W:=W.dk dk) (ap s E) a.wat t (bt e) j (wE r) (by rw [gU];exact fS k (by decide)) λv b u m h i=>?_
 obtain ⟨n,p,rfl⟩:=cA.mp m;exact q n b u p (a.trans (.dk (W:=W.dk dk) h i))
theorem DA{a:L (U×U)}{c':U}{b:aj U}(h:aN H W)(j:cd W.toBase)(c:k∈W.keys)(x:bp (λz=>z=W.sa k\/z=W.wd k\/z=W.bk k) H H1)
  (i:∃d,H1 (W.sa k)=G (c2 k d (W.wd k) (pv b) (pv (G c')))) (g:H1 (W.wd k)=G (aO (dU W.wA a))) (f:H1 (W.bk k)=G (aO (cM a))):cH W H (W.se k a c' b) H1:= .of (h.extSes j c x i g f) E x (λz e=>wB c e) E E
theorem Rd(I:30<=D)(h:aN H W)(x:cd W.toBase)(b:a_ W)(f:k∈W.keys)(F:i∈aU (W.row k))(q:hE W H Q):
  SS c D (Bo.drop 3) [("deck",J W.adk),("world",J W.aw),("way",aa fI 0),("key",aa k 0),("session",J (W.sa k)),("row",J (W.bk k)),("index",aa i 0)] H (RK Q):=by
 obtain ⟨j,t⟩:=iv F;obtain ⟨_,T,R⟩:=b.rin k f _ (gi t);obtain ⟨P,S⟩:=h.ses' (b.rin k f) f;have p:=S.o;have C:=S.w;have r:=h.bks' b f;have V:=b.rz f;refine eO (.cmp (.var E) .cst (fl ..)) (λ_=>?_) λ_=>a5 (bb (eO (.cmp (.var E) .cst (fl ..)) (λ_=>?_) λ_=>a5 (bb ?_)))
 ·have ln:hY H (J (W.bk k))=G (W.row k).length:=(rm r).trans (aA G (hC _))
  refine eO (.cmp (.len (.var E) ln) .cst (fl ..)) (λ_=>bR .cst (bX (bX (q.self h b)))) λe=>a5 (bb ?_);have l2:2<=(W.row k).length:=EM (L.length_pos_of_mem (gi t)) λz=>by rw [<-z]at e;cases e
  refine b5 (gY (eR (.var E) (dv p E E) (.cons (.var E) .nil) (OU (ap I E) S V t (b.rnd k f) l2 λH1 ad ao g Z al y=>?_)));have K:∀{a:ae} {s:MO},H a=G s->iu s=false->dn (fH s) 800=false->dn (fH s) 3=false->H1 a=G s:=λe hl A n2=>g.keep (λz=>z.elim (ct e p A) (ct e C n2)) e hl;have Y:=K h.win E E E;have N:=ct r p E;have M:=(x.wd_bk f f).symm;have u:H1 (W.bk k)=_:=g.keep (λz=>z.elim N M) r E;refine g0 (pD (a4 (.idx (.var E) .cst ((g_ (K h.world E E E) _).trans E)) (rP (ge (.var E) (pO u) (.cons (.var E) .nil) (Bc u ((kx i _).trans (by rw [t];rfl)) (rQ (wk (iw u Y E) T R) (g1 (k:=true) (show pf _ (J (W.wA j)) (J (W.wA j))=G true from aJ E) (bX (q _ _ (DA h x f ((g.more λz e=>e.elim bt λe=>bF (bt e)).trans (.set u E (bF (bF E)))) ⟨P,(dT _ _ N.symm).trans y⟩ ((dT _ _ M.symm).trans Z) ?_) (b.se (Dp (b.rnd k f)) (λac hp=>b.rin k f ac (wg.mp hp).1) (ar (qM ..) (b.rl k f)) al) (dY _))))))))))
  rw [aF,Du]
 ·refine lD (mG (bs (.var E) (bs (.var E) (bN (sY (W:=W) (ap I E) x b (cH.refl h) T R E E (.idx (.var E) (.var E) (qs r t)) λn dk H1 hn S1=>cK (bU ⟨aS E,λd hd=>?_⟩))))))
  obtain ⟨n0,A,_,_⟩:=eD b hn;have l:=S1.ext ((aW.refl H1).alloc hd (o:=bm [aa k 0,aa i 0,aa n 0]));have e:=aF H1 d (bm [aa k 0,aa i 0,aa n 0]);show AZ _ _ _ _ _ _ _ _ (H1.set d (bm [aa k 0,aa i 0,aa n 0]));revert e l;generalize H1.set d _=H2;intro l e;have S3:=l.trans (cH.of (W:=W.dk dk) (X:=λz=>z=W.asv) (l.wat.setMark (m:=G (k,i,n)) (v:=J d) ⟨d,E,e⟩) E (.set l.wat.srv E E) (λz e=>e▸PP (W.dk dk)) E E);exact a4 (.idx (.var E) .cst l.wat.i_srv) (e9 l.wat.srv E (aS E) E (bR .cst (bX (q _ _ S3 ⟨b.knd,b.k0,b.kl,b.cur,b.br,b.rnd,b.rin,b.rl,b.hnd,b.hin,b.lv,b.nw,b.np,b.B,λk' i' p' e=>by cases e;exact⟨f,n0,A⟩⟩ (dY _)))))
 ·refine b5 (gY (eR (.var E) (dv p E E) (.cons (.var E) .nil) (Cz (ap I E) S (fS V (by decide)) F λH1 ad g y=>g0 (a4 .cst (g1 (k:=true) E (q _ _ (DA h x f (g.more λz=>bt) ⟨P,y⟩ (g.keep (ct C p E) C E) (g.keep (ct r p E) r E)) (b.se (b.rnd k f) (b.rin k f) (b.rl k f) F) (dY _)))))))
end
section
variable{c:Cx}{D:ag}{H H' H1:Hp}{W:Wd}{Q:KV}{k fI:U}{dk:L U}{l:ae}{vs:L ab}
theorem Re(a:a_ W)(b:k∈W.keys):ba (aU (W.row k))≠ []:=λz=>by have:=eA.mpr (a.cur k b);rw [z]at this;cases this
theorem Rf(m:40<=D)(h:aN H W)(j:cd W.toBase)(b:a_ W)(q:hE W H Q):CL c D 883 [J W.adk,J W.aw,aa fI 0] H Q:=by
 have g:38<=D-2:=cj m;refine Nl (ap m E) (bV (eL (bs (.var E) (bN (ex (.cons (.idx (.var E) .cst h.i_ses) .nil) (sT h b λd f=>cK (bU (Dz (W:=W) (ap g E) j (cH.refl h) f (C6 b) (by rw [gL];exact fq b.kl.1 (by decide)) λk dk H1 a e=>?_))))))))
 have a:=eA.mp a;have r:=e.wat.bks' (b.deck dk) a;have l:=b.rz a;refine f2 (bs (.idx (.idx (.var E) .cst e.wat.i_pla) (.var E) (e.wat.b_at a)) (bs (.idx (.idx (.var E) .cst e.wat.i_ses) (.var E) (e.wat.s_at a)) (bU (f3 (aS E) E (bV (eL (bs (.var E) (bN (ex (.cons (.var E) .nil) (h4 r (by rw [hC];exact fS l (by decide)) λd f=>?_))))))))))
 rw [ou];exact cK (bU (Dz (W:=W) (ap g E) j e f (Re (b.deck dk) a) (by rw [gL,kw];exact l) λi n s p o=>Rd (W:=W.dk n) (ap g E) o.wat j (b.deck n) a (eA.mp p) (q.of o)))
theorem DB(h:10<=D)(j:cd W.toBase)(S:cH W H (W.dk dk) H1)(g:H1 l=G (ak vs))(d:l≠W.adk)(i:vs≠ [])(e:vs.length<60)(q:∀x b a,x∈vs->bp (λz=>z=W.adk) H1 a->cH W H (W.dk b) a->Q x a):CL c D 824 [J W.adk,J l] H1 Q:=ox (W:=W.dk dk) h S.wat j (bt g) d i (fS e (by decide)) λv b a f x w=>q v b a f x (S.trans (.dk (W:=W.dk dk) x w))
theorem Rg{a:ae}(h:H a=G (bm [aa 6 0,aa 7 0,aa 8 0])):cJ H dF (aa fI 0) (J a)=G (6==fI||(7==fI||(8==fI||false))):=by exact aA (j7 · a (aa fI 0)) h
noncomputable def kF(n:ag):L ab:=iL ((et n).map λi:ag=>(i:U))
theorem DC{n:ag}{v:ab}(h:v∈kF n):∃j:U,v=aa j 0/\0<=j/\j<n:=by obtain ⟨x,a,rfl⟩:=cA.mp h;obtain ⟨i,b,rfl⟩:=cA.mp a;exact⟨_,E,dH i,eH.mpr (ji.mp b)⟩
theorem DE(n:ag):(kF n).length=n:=(gU _).trans ((bJ _).trans iK)
theorem DF{n:ag}(h:0<n):kF n≠ []:=λe=>m4 h ((DE n).symm.trans (by rw [e];rfl))
theorem Rh{n:ag}(h:H l=G (.rng n))(a:n<=1000000):ly H (J l)=G (kF n):=by
 refine(uJ h).trans ?_;show(if 0<=(n:U)/\(n:U)<=1000000 then G (iX (n:U))else af)=_
 unfold kF iL;rw [aJ ⟨dH n,ib.mpr a⟩,dC];rfl
theorem Ri(f:448<=D)(h:aN H W)(g:cd W.toBase)(e:a_ W)(w:0<W.nw)(k:W.B+1<=18)(P:H l=G (ak (kF W.nw)))(p:l≠W.adk)(q:hE W H Q):
  SS c D Bp.tail [("deck",J W.adk),("world",J W.aw),("some",J l),("way",aa fI 0)] H (RK Q):=by
 have u:(kF W.nw).length<60:=by rw [DE];exact fq (ar e.nw e.B) (by decide)
 refine eO (.cmp (.var E) .cst (fl ..)) (λ_=>b5 (a7 (.cons (.var E) (.cons (.var E) .nil)) (QX (ap f E) h g e k λa H' S o b=>bX (q a H' S o b)))) λ_=>a5 (bb (dt (ec (a4 (.var E) (en (fL (.cons .cst (.cons .cst (.cons .cst .nil))) (aS E) λd y=>ep (Rg (aF _ _ _)) ?_))))));have x:=(aW.refl H).alloc y (o:=bm [aa 6 0,aa 7 0,aa 8 0]);have j:=bK (o:=bm [aa 6 0,aa 7 0,aa 8 0]) y P;revert x j;generalize H.set d _=H1;intro x j;have z:=h.ext x;have q:hE W H1 Q:=λa H' S o b=>q a H' (.pre x S) o b;cases (6==fI||(7==fI||(8==fI||false)))with
 |true=>exact gI (b5 (a7 (.cons (.var E) (.cons (.var E) (.cons (.var E) .nil))) (Rf (ap f E) z g e λa H' S o b=>bX (q a H' S o b))))
 |false=>refine d5 (a5 (bb (bV (a7 (.cons (.var E) (.cons (.var E) .nil)) (DB (W:=W) (ap f E) g (cH.refl z) j p (DF w) u λv dk Y t F i=>?_)))));obtain ⟨X,rfl,s,r⟩:=DC t;refine eO (.cmp (.var E) .cst (fl ..)) (λ_=>b5 (a7 (.cons (.var E) (.cons (.var E) (.cons (.var E) .nil))) (Q1 (W:=W.dk dk) (ap f E) i.wat g (e.deck dk) s r k λa H' S o b=>bX (q.of i a H' S o b)))) λ_=>a5 (bb (eO (.cmp (.var E) .cst (fl ..)) (λ_=>b5 (a7 (.cons (.var E) (.cons (.var E) (.cons (.var E) .nil))) (wF (W:=(W.dk dk).sb (W.B+1)) (ap f E) (i.wat.setB (W.B+1)) g ((e.deck dk).setB k (dY _)) s r (λm N=>df (e.rl m N)) λa C n I R=>bX (q a C ((i.setB (W.B+1)).trans n) I (cR R))))) λ_=>a5 (bb ?_)));refine b5 (eL (bs (.var E) (bs (.var E) (bs (.var E) (bs (.var E) (bN (a7 (.cons (.var E) (.cons (.var E) .nil)) (DB (W:=W) (ap f E) g i (F.keep p j E) p (DF w) u λv A C t T n=>cK (bU ?_)))))))));obtain ⟨V,rfl,M,K⟩:=DC t;exact Rc (W:=W.dk A) (ap f E) n.wat g (e.deck A) s r M K k (q.of n)
theorem Rj(i:450<=D)(h:aN H W)(j:cd W.toBase)(b:a_ W)(l:0<W.nw)(n:W.B+1<=18)(q:hE W H Q):CL c D 890 [J W.adk,J W.aw] H Q:=by
 have g:448<=D-2:=cj i;refine Nm (ap i E) (f2 (bN (wT (W:=W) (m:=10) (ap g E) j (cH.refl h) (by decide) (by decide) E .cst λfI dk H1 p a=>cK (bN (kf (bN (ex (.cons (.len (.idx (.var E) .cst a.wat.i_win) (l7 a.wat.win)) .nil) (pL λd f=>cK (bU (A9 (vs:=kF W.nw) ?_ λr e=>cK (bU (f3 (aS E) E ?_))))))))))))
 ·exact Rh (aF _ _ _) (ar (ar b.nw b.B) (by decide))
 ·have k:=a.ext (((aW.refl H1).alloc f (o:= .rng W.nw)).alloc e (o:=ak (kF W.nw)))
  exact Ri (W:=W.dk dk) g k.wat j (b.deck dk) l n (aF _ _ _) (f4 e (bK f a.wat.dek)).symm (q.of k)
end
theorem oC{c:Cx}{D:ag}{x:am}{s:L MS}{o:Hp->Prop}{K:KF}{α:Type}{g:α->ab}{xs:L α}{ρ:ao}{H:Hp}(p:α->aK)(I:ao->Hp->Prop)(w:∀ρ H,I ρ H->o H)
  (A:∀a∈xs,∀ρ H (l:KF),I ρ H->(p a=false->∀d f,I d f->l .next d f)->(p a=true->xs.find? p=G a/\∀u d f,K (ck u) d f->l (ck u) d f)->SS c D s (aZ x (g a) ρ) H l)
  (y:xs.find? p=af->∀ρ H,I ρ H->K .next ρ H) (h:I ρ H):g2 c D x s o K (xs.map g) ρ H:=by
 have q:∀b:L α,(∀k∈b,p k=false)->b.find? p=af:=λb h=>L.find?_eq_none.mpr λm j=>by rw [h m j];exact eX
 refine h5 (λb ρ H=>I ρ H/\∀k∈b,p k=false) (λb a B ρ H l e i v t=>A a (e▸cO _ bn) ρ H l i.1 (λn d f r=>v _ _ (w _ _ r) ⟨r,λm j=>(dG.mp j).elim (i.2 m) λj=>de.mp j▸n⟩) λn=>⟨?_,t⟩) (λρ H i=>y (q xs i.2) ρ H i.1) ⟨h,λ_ z=>nomatch z⟩;rw [e,L.find?_append,q b i.2,aj.none_or,iF,n]
noncomputable def jU(W:Wd)(k:U)(a:aj U):aj U:=(ba (aU (W.row k))).find? λi=>decide (lk (W.row k) i=a)
noncomputable def oD(W:Wd)(a:aj U):aj U:=(ba W.keys).find? λk=>(jU W k a).isSome
noncomputable def qB(W:Wd)(H:Hp)(v:ab)(n:U):Prop:=(oD W (lk W.homes n)=af->v=ah)/\∀k i j,oD W (lk W.homes n)=G k->jU W k (lk W.homes n)=G i->lk W.homes n=G j->∃d,v=J d/\H d=G (bm [J (W.sa k),aa i 0,J (W.wA j),J (W.pA n)])
noncomputable def Rk:L MS:=[aD (aT "pane") (aB 51 491 [(av (aL (av (O "session") "windows") (O "index")) "panes"),(O "number")]),aQ (ax dq (O "pane") (ai ah)) [aH (dz [(O "session"),(O "index"),(aL (av (O "session") "windows") (O "index")),(O "pane")])] []]
section
variable{c:Cx}{D:ag}{H:Hp}{W:Wd}{ρ:ao}{T:KF}{Q:KV}{k n:U}{d l:ae}
theorem Rl(Z:10<=D)(h:aN H W)(s:a_ W)(y:k∈W.keys)(a:ρ.lookup "session"=G (J (W.sa k))) (f:ρ.lookup "number"=G (aa n 0)) (Y:H d=G (ak (iL (ba (aU (W.row k))))))
  (R:∀i j q b r,jU W k (lk W.homes n)=G i->lk W.homes n=G j->aW H r->r q=G (bm [J (W.sa k),aa i 0,J (W.wA j),J (W.pA n)])->T (ck (J q)) b r)
  (M:jU W k (lk W.homes n)=af->∀b,b.lookup "number"=G (aa n 0)->T .next b H):g2 c D "index" Rk (λH=>bD H d=G (iL (ba (aU (W.row k))))) T (iL (ba (aU (W.row k)))) ρ H:=by
 obtain ⟨nm,F⟩:=h.sess k y;refine oC (xs:=ba (aU (W.row k))) (g:=λi=>aa i 0) (λi=>decide (lk (W.row k) i=lk W.homes n)) (λρ H'=>H'=H/\ρ.lookup "session"=G (J (W.sa k))/\ρ.lookup "number"=G (aa n 0)) (λρ H1 z=>z.1▸bH Y) (λi S ρ H1 K2 I N B=>?_) (λV b r I=>I.1▸M V b I.2.2) ⟨E,a,f⟩;obtain ⟨rfl,a,f⟩:=I;obtain ⟨j,p⟩:=iv (eA.mp S);obtain ⟨_,w,u⟩:=s.rin k y _ (gi p);have A:=(h.wins' w u).1;obtain ⟨pl,ac,P,Q⟩:=A.o;have z {x:am} (e:x≠ "index"):=bf (v:=aa i 0) (ρ:=ρ) e;have a:=(z (by decide)).trans a
 have f:=(z (by decide)).trans f
 have C:=lU (h.wds k y) p;refine bV (a7 (.cons (.att (.idx (.att (.var a) (e4 F)) (.var aY) C) (lQ P)) (.cons (.var f) .nil)) (sy (pA:=W.pA) (ns:=al (W.wm j).t) (ap Z E) (g4 Q) A.pn ?_));have z {x:am} {v:ab} (e:x≠ "pane"):=bf (v:=v) (ρ:=aZ "index" (aa i 0) ρ) e
 by_cases l:n∈al (W.wm j).t
 ·have m:=(s.lv' w u).mp l
  have K:decide (lk (W.row k) i=lk W.homes n)=true:=cN (p.trans m.symm);rw [aJ l];exact cZ (.cmp (.var aY) .cst E) (b5 (fL (.cons (.var ((z (by decide)).trans a)) (.cons (.var ((z (by decide)).trans aY)) (.cons (.idx (.att (.var ((z (by decide)).trans a)) (e4 F)) (.var ((z (by decide)).trans aY)) C) (.cons (.var aY) .nil)))) (aS E) λq X=>bX ((B K).2 _ _ _ (R i j q _ _ (B K).1 m ((aW.refl _).alloc X) (aF _ _ _)))))
 ·have m:lk (W.row k) i≠lk W.homes n:=λe=>l ((s.lv' w u).mpr (e▸p))
  rw [aG l];exact b7 (.cmp (.var aY) .cst E) (a5 (N (e7 m) _ _ ⟨E,(z (by decide)).trans a,(z (by decide)).trans f⟩))
theorem Rm(C:20<=D)(h:aN H W)(w:a_ W)(A:H l=G (ak (i9 W (ba W.keys))))(q:∀v m,aW H m->qB W m v n->Q v m):CL c D 809 [J l,aa n 0] H Q:=by
 have B:18<=D-2:=cj C;refine M5 (ap C E) (jF (.var E) (dm (bH A)) (oC (xs:=ba W.keys) (g:=λk=>J (W.sa k)) (λk=>(jU W k (lk W.homes n)).isSome) (λρ m=>aW H m/\ρ.lookup "number"=G (aa n 0)) (λρ j z=>bH (z.1.keep A E)) (λk f ρ j T I N s=>?_) (λi ac j I=>bb (bR .cst (q _ _ I.1 ⟨λ_=>E,λP S R a=>by rw [show oD W (lk W.homes n)=af from i]at a;cases a⟩))) ⟨.refl H,E⟩))
 obtain ⟨r,M⟩:=I;have f:=eA.mp f;have t:=h.ext r;obtain ⟨nm,x⟩:=t.sess k f;refine g3 (eR (.var aY) (dv x E E) .nil (v_ (ap B E) x (t.wds k f) (fS (w.rz f) (by decide)) λd X=>?_))
 have y:=(aW.refl j).alloc X (o:=ak (iL (ba (aU (W.row k)))));have e:=aF j d (ak (iL (ba (aU (W.row k)))));revert y e;generalize j.set d _=H2;intro y e;refine hx (dm (bH e)) (Rl (ap B E) (t.ext y) w f aY ((bf (by decide)).trans M) e (λal ad Z u H3 p V F Y=>?_) λp u K=>i1 (N (by rw [p];rfl) u H2 ⟨r.trans y,K⟩))
 obtain ⟨i,s⟩:=s (by rw [p];rfl)
 have i:oD W (lk W.homes n)=G k:=i;refine i1 (s _ _ _ (bX (q _ _ ((r.trans y).trans F) ⟨λz=>?_,λP S R a b c=>?_⟩)))
 ·rw [i]at z;cases z
 ·rw [i]at a
  rw [V]at c;cases a;rw [p]at b;cases b;cases c;exact⟨Z,E,Y⟩
end
noncomputable def Rn:L MS:=match Br.drop 2 with
 |d1 _ _ b::_=>b
 |_=>[]
noncomputable def DG:L MS:=match Rn with
 |d1 _ _ b::_=>b
 |_=>[]
structure jd(W:Wd)(n:U)(v:ab)(ρ:ao):Prop where
 r0:ρ.lookup "world"=G (J W.aw)
 r1:ρ.lookup "number"=G (pv (lk W.homes n))
 r2:ρ.lookup "told"=G v
 r3:ρ.lookup "pane"=G (aa n 0)
section
variable{c:Cx}{D:ag}{H H1:Hp}{W:Wd}{ρ:ao}{T:KF}{Q:KV}{k i n:U}{d:ae}{v u:ab}{a b:ME}{vs:L ab}
theorem oE{m:ag}(h:H d=G (bm vs))(e:vs[m]? =G v):c6 H (J d) (aa m 0)=G v:=(aA (lj · (m:U)) h).trans (n_ e)
theorem jd.set{x:am}(r:jd W n v ρ)(h:x∉ ["world","number","told","pane"]):jd W n v (aZ x u ρ):=⟨(eN h E).trans r.r0,(eN h E).trans r.r1,(eN h E).trans r.r2,(eN h E).trans r.r3⟩
theorem Ro(h:aN H W)(u:a_ W)(g:k∈W.keys)(S:i∈aU (W.row k))(r:jd W n v ρ)(t:ρ.lookup "key"=G (aa k 0)) (s:ρ.lookup "index"=G (aa i 0)) (R:qB W H v n)
  (Q:lk (W.row k) i=lk W.homes n->oD W (lk W.homes n)=G k/\jU W k (lk W.homes n)=G i) (N:lk (W.row k) i≠lk W.homes n->T .next ρ H) (M:lk (W.row k) i=lk W.homes n->T (ck (az true)) ρ H):SS c D DG ρ H T:=by
 obtain ⟨m,o⟩:=iv S;have P:=λ{b:aK} (e:cJ H bB (aa m 0) (pv (lk W.homes n))=G b)=>PT.cmp (c:=c) (D:=D) (.idx (a:=aL (aL (O "world") (ai (aE (I "places") 0))) (O "key")) (b:=O "index") (.idx (.idx (.var r.r0) .cst h.i_pla) (.var t) (h.b_at g)) (.var s) (qs (h.bks' u g) o)) (.var r.r1) e
 by_cases e:lk (W.row k) i=lk W.homes n
 ·have f:lk W.homes n=G m:=e.symm.trans o
  obtain ⟨K,F⟩:=Q e;obtain ⟨d,rfl,l⟩:=R.2 k i m K F f;obtain ⟨X,B⟩:=h.sess k g;obtain ⟨x,w,A,y⟩:=eD u f;have q:=(h.wins' A y).1.inst;have p:=(h.pans' x w).inst;have C:ρ.lookup "number"=G (aa m 0):=r.r1.trans (by rw [f];rfl)
  refine cZ (P (by rw [f];exact aA G (eE m))) (b7 (.or_f (.cmp (.var r.r2) .cst E) (.or_f (.eq (.cmp (.idx (.var r.r2) .cst (oE (m:=0) l E)) (.idx (.idx (.var r.r0) .cst h.i_ses) (.var t) (h.s_at g)) (n9 (kn B) (kn B))) (aA not (cN E))) (.or_f (.eq (.cmp (.idx (.var r.r2) .cst (oE (m:=1) l E)) (.var s) (show _=G (!(i==i))from E)) (aA not (eE i))) .or_n))) (bR (.and2 (.cmp (.idx (.var r.r2) .cst (oE (m:=2) l E)) (.idx (.idx (.var r.r0) .cst h.i_win) (.var C) (h.w_at A y)) ((h6 q q).trans (aA G (cN E)))) (.cmp (.idx (.var r.r2) .cst (oE (m:=3) l E)) (.idx (.idx (.var r.r0) .cst h.i_pan) (.var r.r3) (h.p_at x w)) ((h6 p p).trans (aA G (cN E))))) (bX (M e))))
 ·have V:cJ H bB (aa m 0) (pv (lk W.homes n))=G false:=by
   cases f:lk W.homes n with
   |none=>rfl
   |some j=>exact aA G (dB.mpr λz=>e (by rw [o,f];exact aA G z))
  exact b7 (P V) (a5 (N e))
theorem Rp(h:aN H W)(j:a_ W)(q:k∈W.keys)(r:jd W n v ρ)(b:ρ.lookup "key"=G (aa k 0)) (p:qB W H v n) (A:H d=G (ak (iL (ba (aU (W.row k)))))) (o:∀i,jU W k (lk W.homes n)=G i->oD W (lk W.homes n)=G k)
  (l:jU W k (lk W.homes n)=af->∀a,jd W n v a->T .next a H) (s:∀i,jU W k (lk W.homes n)=G i->∀a,T (ck (az true)) a H):g2 c D "index" DG (λH=>bD H d=G (iL (ba (aU (W.row k))))) T (iL (ba (aU (W.row k)))) ρ H:=by
 refine oC (xs:=ba (aU (W.row k))) (g:=λi=>aa i 0) (λi=>decide (lk (W.row k) i=lk W.homes n)) (λρ B=>B=H/\jd W n v ρ/\ρ.lookup "key"=G (aa k 0)) (λρ H1 z=>z.1▸bH A) (λi t ρ H1 C I m f=>?_) (λw a F I=>I.1▸l w a I.2.1) ⟨E,r,b⟩;obtain ⟨rfl,r,b⟩:=I;have b:=(bf (y:="index") (v:=aa i 0) (by decide)).trans b
 have r:=r.set (u:=aa i 0) (x:="index") (by decide)
 exact Ro h j q (eA.mp t) r b aY p (λe=>⟨o i (f (cN e)).1,(f (cN e)).1⟩) (λe=>m (e7 e) _ _ ⟨E,r,b⟩) λe=>(f (cN e)).2 _ _ _ (s i (f (cN e)).1 _)
theorem qB.ext(h:qB W H v n)(x:aW H H1):qB W H1 v n:=⟨h.1,λk i j a b e=>let ⟨d,f,c⟩:=h.2 k i j a b e;⟨d,f,x.keep c E⟩⟩
theorem DH(o:aj U):(kL (λj=>aa j 0) o).getD ah=pv o:=by cases o<;>rfl
theorem Rq(S:30<=D)(h:aN H W)(b:a_ W)(q:∀t,aW H t->Q (az true) t):CL c D 928 [J W.aw,aa n 0] H Q:=by
 have hE:28<=D-2:=cj S;have kz:(ba W.keys).length<=bL:=(gL W.keys).symm▸ar b.kl.1 (by decide)
 refine Nv (ap S E) (f2 (bs (.get (.idx (.var E) .cst h.i_hom) (.cons (.var E) .nil) h.hom ((aA (·.getD .none) (kx n W.homes)).trans (DH _))) (bN (ex (.cons (.idx (.var E) .cst h.i_ses) .nil) (sT h b λd C=>cK (bU (f3 (aS E) E ?_)))))))
 have x:=(aW.refl H).alloc C (o:=ak (iL (ba W.keys)));have l:=aF H d (ak (iL (ba W.keys)));revert x l;generalize H.set d _=H1;intro x l;have X:=h.ext x;refine bV (eL (bN (mH (.var E) (kj (xs:=ba W.keys) (g:=λk=>aa k 0) (f:=λk=>J (W.sa k)) (dm (bH l)) (bH l) kz (λk a d Z C=>?_) λF ao=>cK (bs (.var E) (bU ?_))))))
 ·have V:=X.ext ((aW.refl H1).alloc C (o:=ak Z))
  exact .idx (.idx (.var E) .cst V.i_ses) (.var aY) (V.s_at (eA.mp a))
 have j:=(aW.refl H1).alloc ao (o:=ak (i9 W (ba W.keys)));have A:=aF H1 F (ak (i9 W (ba W.keys)));show CL _ _ _ _ (H1.set F (ak (i9 W (ba W.keys)))) _;revert j A;generalize H1.set F _=H2;intro j A;refine Rm (ap hE E) (X.ext j) b A λv Y M N=>?_;have w:=(x.trans j).trans M;have P:=(j.trans M).keep l E;refine jF (.var E) (dm (bH P)) (oC (xs:=ba W.keys) (g:=λk=>aa k 0) (λk=>(jU W k (lk W.homes n)).isSome) (λρ t=>aW Y t/\jd W n v ρ) (λρ H1 z=>bH (z.1.keep P E)) (λk a ρ s T I kn R=>?_) (λad as s I=>?_) ⟨.refl Y,⟨E,E,E,E⟩⟩)
 ·obtain ⟨y,r⟩:=I
  have a:=eA.mp a;have p:=h.ext (w.trans y);have r:=r.set (u:=aa k 0) (x:="key") (by decide)
  refine g3 (ex (.cons (.idx (.idx (.var r.r0) .cst p.i_pla) (.var aY) (p.b_at a)) .nil) (h4 (p.bks' b a) (by rw [hC];exact fS (b.rz a) (by decide)) λe al=>?_))
  rw [ou];have z:=(aW.refl s).alloc al (o:=ak (iL (ba (aU (W.row k)))));have m:=aF s e (ak (iL (ba (aU (W.row k)))));revert z m;generalize s.set e _=H5;intro z m;exact hx (dm (bH m)) (Rp (p.ext z) b a r aY (N.ext (y.trans z)) m (λi B=>(R (by rw [B];rfl)).1) (λhn K ac=>i1 (kn (by rw [hn];rfl) K H5 ⟨y.trans z,ac⟩)) λi B K=>i1 ((R (by rw [B];rfl)).2 _ _ _ (bX (q _ (w.trans (y.trans z))))))
 ·obtain ⟨y,r⟩:=I
  exact bb (bR (.cmp (.var r.r2) .cst (by rw [N.1 ad];rfl)) (q _ (w.trans y)))
end
theorem Rr{W:Wd}{k i j:U}(b:lk (W.row k) i=G j):∃c,eT W k (G j)=G c:=by
 have m:i∈jO W k (G j):=ie.mpr ⟨eA.mpr (cA.mpr ⟨_,gi b,E⟩),cN b⟩;unfold eT lX
 by_cases e:(jO W k (G j)).contains (W.cur k)=true
 ·rw [aJ e];exact⟨_,E⟩
 ·rw [aG e]
  cases e:jO W k (G j)with
  |nil=>rw [e]at m;cases m
  |cons a r=>exact⟨a,E⟩
theorem fN{a b:L aP}{m n:ag}(d:a.length<=m)(c:b.length<=n):(a++b).length<=m+n:=by rw [b3];exact nr d c
theorem kG{a b:L aP}{t u:bv}{m n:ag}(d:a.length<=m)(c:b.length<=n)(h:m8 (m+n) 1000=true):hp cq (aq a.toArray t) (aq b.toArray u)=G (aq (a++b).toArray 0):=(wr (a:=a.toArray) (b:=b.toArray) (ar (nr d c) (ar (aS h) (by decide)))).trans (aA (λb=>G (aq b 0)) (EK a b))
theorem DI(k j n:ag):([36]++cE k++[58,64]++cE j++[46,37]++cE n).toArray=i_ k j n:=by unfold i_;simp only [fp,no,L.nil_append]
section
variable{c:Cx}{D:ag}{H:Hp}{W:Wd}{Q:KV}{T:KF}{ρ:ao}{v kv hv u:ab}{i:U}{k j n:ag}{home:aj U}
theorem PV.txt{e d:ME}{a b:L aP}{t:bv}{m n:ag}(p:PV c D ρ H e (aq a.toArray 0))(r:PV c D ρ H d (aq b.toArray t))(g:a.length<=m)(f:b.length<=n)(h:m8 (m+n) 1000=true):PV c D ρ H (bT cq e d) (aq (a++b).toArray 0):= .bin p r (kG g f h)
theorem Rs(z:10<=D)(h:aN H W)(M:(k:U)∈W.keys)(N:j<W.nw)(K:n<W.np)(w:k<100)(x:j<100)(u:n<100)(t:i8 W H v (G ((k:U),i,(j:U),(n:U))))(q:Q (aq (i_ k j n) 0) H):CL c D 297 [v] H Q:=by have s:8<=D-2:=cj z;obtain ⟨d,rfl,r⟩:=t;obtain ⟨S,I⟩:=h.sess _ M;obtain ⟨A,B⟩:=h.wins' (dH j) (eH.mpr N);obtain ⟨R,P,F,T⟩:=A.o;have y:=du (f:="number") F E E;rw [B]at y;have C:=h.pans' (dH n) (eH.mpr K);have g:=fG w;have p:=fG x;have e {m:ag}:∀{l:L aP},l.length=m->l.length<=m:=cR;refine LP (ap z E) (f2 (bN (a7 (.cons (.att (.att (.var E) (qh r)) (vX I)) .nil) (sJ (ap s E) w (cK (bN (a7 (.cons (.att (.att (.var E) (wh r)) y) .nil) (sJ (ap s E) x (cK (bU (f3 (aS E) E (b5 (fD (a4 (.txt (.txt (.txt (.txt (a:=[36]) .cst (.var E) (e E) g E) (b:=[58,64]) .cst (fN (e E) g) (e E) E) (.var E) (fN (fN (e E) g) (e E)) p E) (b:=[46,37]) .cst (fN (fN (fN (e E) g) (e E)) p) (e E) E) (fY (a7 (.cons (.att (.att (.var E) (wj r)) C.att) .nil) (sJ (ap s E) u (gZ (kG (fN (fN (fN (fN (e E) g) (e E)) p) (e E)) (fG u) E) ?_))))))))))))))))));rw [DI];exact q
noncomputable def Rt:L MS:=match Bs.drop 1 with
 |d1 _ _ b::_=>b
 |_=>[]
structure iy(W:Wd)(k i j:U)(kv a:ab)(ρ:ao):Prop where
 r0:ρ.lookup "world"=G (J W.aw)
 r1:ρ.lookup "key"=G (aa k 0)
 r2:ρ.lookup "index"=G (aa i 0)
 r3:ρ.lookup "kind"=G kv
 r4:ρ.lookup "home"=G a
 r5:ρ.lookup "number"=G (aa j 0)
 r6:ρ.lookup "session"=G (J (W.sa k))
theorem iy.set{k j:U}{x:am}(r:iy W k i j kv hv ρ)(h:x∉ ["world","key","index","kind","home","number","session"]):iy W k i j kv hv (aZ x u ρ):=⟨(eN h E).trans r.r0,(eN h E).trans r.r1,(eN h E).trans r.r2,(eN h E).trans r.r3,(eN h E).trans r.r4,(eN h E).trans r.r5,(eN h E).trans r.r6⟩
theorem Ru(p:290<=D)(h:aN H W)(f:a_ W)(as:∀k,home=G k->k∈W.keys)(z:(k:U)∈W.keys)(ao:lk (W.row k) i=G (j:U))(hn:lk W.homes (n:U)=G (j:U))(r:iy W k i j kv (pv home) ρ)(l:ρ.lookup "pane"=G (aa n 0))
  (q:∀R H2,aW H H2->iy W k i j kv (pv home) R->T .next R H2):SS c D Rt ρ H T:=by
 obtain ⟨p0,p1,q0,Y⟩:=eD f hn;have N:k<20:=eH.mp (tK (f.k0 _ z).2 (by decide))
 have j1:=eH.mp Y;have Z:=eH.mp p1;have F:j<20:=fo j1 (ar (ar f.nw f.B) (by decide))
 have C:n<20:=fo Z (ar (ar f.np f.B) (by decide))
 have g:∀{m},m<20->m<100:=λh=>fS h (by decide)
 have s:=fG (g N);have K:=fG (g F);have e {m:ag}:∀{ac:L aP},ac.length=m->ac.length<=m:=cR;have hl:(n:U)∈al (W.wm (j:U)).t:=(f.lv' q0 Y).mpr hn;refine bV (a7 (.cons (.var r.r6) (.cons (.var r.r2) (.cons (.var l) .nil))) (ql (ap p E) h f z ao λv H1 V M=>?_));rw [aJ hl]at M;have P:=h.ext V;have r:=r.set (u:=v) (x:="target") (by decide)
 have l:=(bf (y:="target") (v:=v) (by decide)).trans l
 refine bV (fD (fD (fD (fD (fD (a4 .cst (fY (a7 (.cons (.var r.r1) .nil) (oo (ap p E) N (gZ (kG (a:=[36]) (e E) s E) (fY (a4 .cst (gZ (kG (b:=[58,64]) (fN (e E) s) (e E) E) (fY (a7 (.cons (.var r.r5) .nil) (oo (ap p E) F (gZ (kG (fN (fN (e E) s) (e E)) K E) (fY (a4 .cst (gZ (kG (b:=[46,37]) (fN (fN (fN (e E) s) (e E)) K) (e E) E) (fY (a7 (.cons (.var l) .nil) (oo (ap p E) C (gZ (kG (fN (fN (fN (fN (e E) s) (e E)) K) (e E)) (fG (g C)) E) ?_))))))))))))))))))))))));rw [DI];have r:=r.set (u:=aq (i_ k j n) 0) (x:="text") (by decide)
 have l:=(bf (y:="text") (v:=aq (i_ k j n) 0) (by decide)).trans l
 have X:(aZ "text" (aq (i_ k j n) 0) (aZ "target" v ρ)).lookup "target"=G v:=(bf (by decide)).trans aY
 have vn:cJ H1 b0 v ah=G false:=by obtain ⟨d,rfl,_⟩:=M;rfl
 refine dt (rN (.cmp (.var X) .cst vn) (hw (ec (a7 (.cons (.var X) .nil) (Rs (ap p E) P z j1 Z (g N) (g F) (g C) M (en (a4 (.var aY) (ep (k:=false) (show G (!(i_ k j n==i_ k j n))=_ by rw [eE];rfl) (ir (dM .or_n (d5 (a5 (bb ?_)))))))))))))
 obtain ⟨w,ad⟩:=Rr ao;refine dt (ec (a7 (.cons (.var r.r0) (.cons (.var aY) (.cons (.var r.r3) (.cons (.var r.r4) .nil)))) (QQ (ap p E) P f as z (g F) (g C) λu I S du=>en (mG (bs (.var r.r1) (bN (a7 (.cons (.var r.r0) (.cons (.var r.r5) (.cons (.var r.r1) .nil))) (C3 (ap p E) (P.ext S) f z (cK (bs (.var r.r5) (bs (.var l) (bU ⟨aS E,λd hd=>?_⟩))))))))))));have au:mZ W k j n=G ((k:U),w,(j:U),(n:U)):=by unfold mZ;rw [ad];exact aJ hl
 rw [au]at du;rw [ad];have A:=(aW.refl I).alloc hd (o:=bm [aa (k:U) 0,aa w 0,aa (j:U) 0,aa (n:U) 0]);have Q:=aF I d (bm [aa (k:U) 0,aa w 0,aa (j:U) 0,aa (n:U) 0]);show uZ _ _ _ _ (I.set d (bm [aa (k:U) 0,aa w 0,aa (j:U) 0,aa (n:U) 0]));revert A Q;generalize I.set d _=H8;intro A Q;exact ep (wP (du.ext A) (show jR H8 (J d) (G ((k:U),w,(j:U),(n:U)))from⟨d,E,Q⟩)) (d5 (a5 (i1 (q _ _ ((V.trans S).trans A) r))))
theorem Rv(H:Hp)(o:aj U)(j:U):cJ H eY (pv o) (aa j 0)=G (decide (o≠G j)):=by
 cases o with
 |none=>rfl
 |some i=>exact aA G (by show(!(i==j))=_;rw [<-sR,decide_not])
theorem wW{d:ae}{n:ag}(h:H d=G (.rng n))(a:n<=1000):fB H (J d)=G (((et n).map λi:ag=>(i:U)).map λi=>aa i 0,af):=by
 refine(aA (po · d) h).trans ?_
 show(if 0<=(n:U)/\(n:U)<=1000000 then G (iX (n:U),(af:aj ae))else af)=_
 rw [aJ ⟨dH n,ib.mpr (ar a (by decide))⟩,dC];rfl
theorem Rw{k i j:U}(hD:300<=D)(h:aN H W)(a:a_ W)(as:∀k,home=G k->k∈W.keys)(l:k∈W.keys)(C:lk (W.row k) i=G j)(q:∀p,aW H p->Q (az true) p):CL c D 933 [J W.aw,aa k 0,aa i 0,kv,pv home] H Q:=by
 have R:298<=D-2:=cj hD;have P:W.np<=1000:=ar (ar a.np a.B) (by decide)
 obtain ⟨_,ac,j1⟩:=a.rin _ l _ (gi C);refine Nw (ap hD E) (lE (.cons (.idx (.idx (.idx (.var E) .cst h.i_pla) (.var E) (h.b_at l)) (.var E) (qs (h.bks' a l) C)) (.cons (.idx (.idx (.var E) .cst h.i_ses) (.var E) (h.s_at l)) .nil)) E (aS E) (dO (dO (f1 (g3 (a7 (.cons (.var E) (.cons (.var E) .nil)) (sS (ap R E) h a.hz60 λd F=>?_)))))));have N:=(aW.refl H).alloc F (o:=ak (iL (fn W j)));have A:=aF H d (ak (iL (fn W j)));revert N A;generalize H.set d _=H1;intro N A;refine hx (dm (bH A)) (oC (xs:=fn W j) (g:=λn=>aa n 0) (λ_=>false) (λρ p=>aW H p/\p d=G (ak (iL (fn W j)))/\iy W k i j kv (pv home) ρ) (λρ H1 z=>bH z.2.1) (λn b ρ X T I kn _=>?_) (λ_ ρ X I=>bb ?_) ⟨N,A,⟨E,E,E,E,E,E,E⟩⟩)
 ·obtain ⟨m,l2,r⟩:=I
  have b:=qr.mp b;obtain ⟨n,rfl⟩:=tJ (eD a b).1;obtain ⟨k,rfl⟩:=tJ (a.k0 _ l).1;obtain ⟨j,rfl⟩:=tJ ac;exact Ru (ap R E) (h.ext m) a as l C b (r.set (by decide)) aY λa0 M e r3=>kn E _ _ ⟨m.trans e,e.keep l2 E,r3⟩
 ·obtain ⟨m,_,r⟩:=I
  have h2:=h.ext m;refine kh (ex (.cons (.len (.idx (.var r.r0) .cst h2.i_pan) (l7 h2.pan)) .nil) (pL λd3 aU=>?_));have e:=m.alloc aU (o:= .rng W.np);have V:=aF X d3 (.rng W.np);revert e V;generalize X.set d3 _=M;intro e V;have h3:=h.ext e;have f {y:am} {S:L am} {v u:ab} {ρ:ao} (hy:S.contains y=true) (al:y≠ "pane") (r:ρ.lookup y=G v):(aZ "pane" u (ρ.filter λq=>S.contains q.1)).lookup y=G v:=(bf al).trans ((oh S y hy _).trans r);refine pQ (xs:=(et W.np).map λi:ag=>(i:U)) (f:=λi=>aa i 0) (λn=>decide (lk W.homes n≠G j)) (wW V P) trivial (by rw [bJ,iK];exact ar P (by decide)) (λn b d Y F=>?_) (λn _ _ d Y F=> .var aY) λK au=>?_
  ·have h5:=h3.ext ((aW.refl _).alloc F (o:=ak Y))
   exact .cmp (.get (.idx (.var (f E (by decide) r.r0)) .cst h5.i_hom) (.cons (.var aY) .nil) h5.hom ((aA (·.getD .none) (kx n W.homes)).trans (DH _))) (.var (f E (by decide) r.r5)) (Rv ..)
  have s:=e.alloc au (o:=ak (iL (((et W.np).map λi:ag=>(i:U)).filter λn=>decide (lk W.homes n≠G j))));have w:=aF M K (ak (iL (((et W.np).map λi:ag=>(i:U)).filter λn=>decide (lk W.homes n≠G j))));show kA _ _ _ _ _ _ _ (M.set K (ak (iL (((et W.np).map λi:ag=>(i:U)).filter λn=>decide (lk W.homes n≠G j)))));revert s w;generalize M.set K _=H4;intro s w;have Z:=r.set (u:=J K) (x:="strange") (by decide)
  refine b5 (gY (mH (.var aY) (wo (xs:=((et W.np).map λi:ag=>(i:U)).filter λn=>decide (lk W.homes n≠G j)) (f:=λi=>aa i 0) (λ_=>false) (dm (bH w)) (bH w) (ar (qM ..) (by rw [bJ,iK];exact P)) (λn b H6 T x6 q=>?_) (λ_ _ z=>nomatch z) λd5 H5 a1 x5 l5=>g0 (ed .nil (eh _) λd6 ad=>g1 (qg (ks:=[]) (bH (bK ad ?_)) (aF _ _ _)) (q _ ((s.trans x5).alloc ad))))))
  ·have b:=gO (ie.mp b).2
   refine ec (a7 (.cons (.var (f E (by decide) Z.r6)) (.cons (.var (f E (by decide) Z.r2)) (.cons (.var aY) .nil))) (ql (ap R E) (h.ext (s.trans x6)) a l C λu H7 x7 t=>?_))
   rw [aG λz=>b ((a.lv' ac j1).mp z)]at t;rw [show u=ah from t]
   exact en (a4 .cst (ep (k:=false) E (q H7 x7)))
  ·rw [l5,L.filter_eq_nil_iff.mpr λ_ _=>eX];rfl
end
theorem DJ:∀ks:L U,hq (iL ks) (iL ks)=G true
 |[]=>E
 |k::r=>by exact jQ qo (DJ r)
theorem wX{H:Hp}{r e:ae}{ks:L U}(h:H r=G (ak (iL ks)))(a:H e=G (ak (iL ks))):cJ H eY (J r) (J e)=G false:=by rw [vS,aJ (show gs (J r)=gs (J e)from E),<-mS,Dv h a (DJ ks)];rfl
theorem wY{n a:ag}{b c:L ag}(e:et n=b++a::c):a=b.length/\a<n:=by
 have l:b.length<n:=by have:=aA hJ e;rw [iK,b3]at this;exact this▸nf (gE _)
 have:=aA (·[b.length]?) e
 rw [L.getElem?_range l,xE (cw _),qR]at this;have:=(bc this).symm;exact⟨this,this▸l⟩
noncomputable def Rx:L MS:=match vt with
 | .forE _ _ b::_=>b
 |_=>[]
noncomputable def DK(n:ag):L MS:=match vt.drop n with
 |d1 _ _ b::_=>b
 |_=>[]
structure hF(W:Wd)(kv a:ab)(ρ:ao):Prop where
 r0:ρ.lookup "world"=G (J W.aw)
 r1:ρ.lookup "kind"=G kv
 r2:ρ.lookup "home"=G a
section
variable{c:Cx}{D:ag}{H:Hp}{W:Wd}{Q:KV}{T:KF}{ρ:ao}{kv hv u:ab}{home:aj U}{x:am}{k j:U}
theorem wZ{f:L MS}{e:Hp->Prop}{α:Type}{g:α->ab}{xs:L α}(I:ao->Hp->Prop)(l:∀ρ H,I ρ H->e H)(n:∀a∈xs,∀ρ H (b:KF),I ρ H->(∀d j,I d j->b .next d j)->SS c D f (aZ x (g a) ρ) H b)
  (m:∀ρ H,I ρ H->T .next ρ H) (h:I ρ H):g2 c D x f e T (xs.map g) ρ H:=oC (λ_=>false) I l (λa o ρ H b i k _=>n a o ρ H b i (k E)) (λ_=>m) h
theorem Ry(a:a_ W)(h:aN H W)(c:0<=j)(b:j<W.nw):ba (al (W.wm j).t)=fn W j:=(uH (Dw a h c b) ((uG _).filter _)).symm
theorem hF.set(r:hF W kv hv ρ)(h:x∉ ["world","kind","home"]):hF W kv hv (aZ x u ρ):=⟨(eN h E).trans r.r0,(eN h E).trans r.r1,(eN h E).trans r.r2⟩
theorem Rz{j:ag}(n:290<=D)(h:aN H W)(b:a_ W)(ao:∀k,home=G k->k∈W.keys)(I:j<W.nw)(r:hF W kv (pv home) ρ)(i:ρ.lookup "number"=G (aa j 0)) (m:ρ.lookup "window"=G (J (W.wA j)))
  (q:∀M H2,aW H H2->hF W kv (pv home) M->T .next M H2):SS c D Rx ρ H T:=by
 have A:=dH j;have z:=eH.mpr I;have X:j<20:=fo I (ar (ar b.nw b.B) (by decide))
 have S:(al (W.wm j).t).length<64:=fq (ar (b.lvz h A z) (ar b.np b.B)) (by decide)
 have V:=Ry b h A z;refine bV (a7 (.cons (.var r.r0) (.cons (.var i) .nil)) (sS (ap n E) h b.hz60 λl a2=>?_));have s:=(aW.refl H).alloc a2 (o:=ak (iL (fn W j)));have w:=aF H l (ak (iL (fn W j)));show kA _ _ _ _ _ _ _ (H.set l (ak (iL (fn W j))));revert s w;generalize H.set l _=F;intro s w;have h1:=h.ext s;have r:=r.set (u:=J l) (x:="row") (by decide)
 have i:=(bf (y:="row") (v:=J l) (by decide)).trans i
 have m:=(bf (y:="row") (v:=J l) (by decide)).trans m
 have e:=(h1.wins' A z).1;obtain ⟨pl,bd,Z,ad⟩:=e.o;refine dt (hw (ec (kf (bN (mH (.att (.var m) (lQ Z)) (kj (xs:=al (W.wm j).t) (f:=λaZ=>aa aZ 0) (dm (g4 ad)) (g4 ad) (ar e.fit.z90 (by decide)) (λa0 hm d us C=> .att (.var aY) (((aW.refl F).alloc C).pane (e.pn a0 hm)).att) λd C=>cK (bU (A8 (ns:=al (W.wm j).t) (aF _ _ _) S λd3 aw=>en (a4 (.var aY) (ep (k:=false) (wX (ks:=fn W j) ?_ (bK aw (bK C w))) ?_))))))))))
 ·rw [aF,V]
 have g:=((aW.refl F).alloc C (o:=ak (iL (al (W.wm j).t)))).alloc aw (o:=ak (iL (ba (al (W.wm j).t))));show pz _ _ _ _ _ _ ((F.set d (ak (iL (al (W.wm j).t)))).set d3 (ak (iL (ba (al (W.wm j).t)))));revert g;generalize (F.set d (ak (iL (al (W.wm j).t)))).set d3 _=K;intro g;have l3:=g.keep w E;have Y:=g.keep Z E;have h3:=h1.ext g;refine ir (hw (ec (kf (bN (a7 (.cons (.att (.var m) (i6 Y)) .nil) (oa (t:=(W.wm (j:U)).t) ?_ (fm.at (e.tr.ext g)) e.fit.wf (ar (ar (cR it.symm) e.fit.z90) (by decide)) λd4 au=>cK (bU (A8 (ns:=al (W.wm j).t) (aF _ _ _) S λaU as=>en (a4 (.var aY) (ep (k:=false) (wX (ks:=fn W j) ?_ (bK as (bK au l3))) ?_))))))))))
 ·exact ar (go (mf 2 (ar e.fit.wf.ht e.fit.z90)) 2) (ap n E:182<=D)
 ·rw [aF,V]
 have p:=((aW.refl K).alloc au (o:=ak (iL (al (W.wm j).t)))).alloc as (o:=ak (iL (ba (al (W.wm j).t))));show pz _ _ _ _ _ _ ((K.set d4 (ak (iL (al (W.wm j).t)))).set aU (ak (iL (ba (al (W.wm j).t)))));revert p;generalize (K.set d4 (ak (iL (al (W.wm j).t)))).set aU _=H5;intro p;have Q:=s.trans (g.trans p);have h5:=h.ext Q;have a1:=p.keep Y E;have R:=(h5.wins' A z).1;refine ir (dM .or_n (d5 (a5 (bb (bV (a7 (.cons (.var r.r0) (.cons (.var i) (.cons (.att (.att (.var m) (oe a1)) (R.pn _ R.fit.ac).att) (.cons (.var r.r2) .nil)))) (wy (ap n E) h5 b ao λu H6 x6 du=>?_)))))));have P:=Q.trans x6;have r:=r.set (u:=u) (x:="due") (by decide)
 have i:=(bf (y:="due") (v:=u) (by decide)).trans i
 exact dt (ec (eL (bs (.var r.r0) (bN (fD (a4 .cst (fY (a7 (.cons (.var i) .nil) (oo (ap n E) X (gZ (kG (a:=[64]) (cw 1) (fG (fS X (by decide))) E) (cK (bs (.var r.r1) (bs (.var r.r2) (bU (QO (ap n E) (h.ext P) b ao I λa3 H8 N dw=>en (a4 (.var aY) (ep (k:=false) (wP dw (du.ext N)) (d5 (a5 (i1 (q _ _ (P.trans N) r)))))))))))))))))))))
theorem RA{n:ag}(f:310<=D)(h:aN H W)(e:a_ W)(j:∀k,home=G k->k∈W.keys)(i:n<20)(r:hF W kv (pv home) ρ)(d:ρ.lookup "pane"=G (aa n 0)) (q:∀a,aW H a->T .next ρ a):SS c D (DK 1) ρ H T:=dt (hw (h3 (nY (.cons (.var r.r0) (.cons (.var d) (.cons (.var r.r1) (.cons (.var r.r2) .nil)))) (Dn (ap f E) h e j i λl b=>gu (is (ir (hw (h3 (nY (.cons (.var r.r0) (.cons (.var d) .nil)) (Rq (ap f E) (h.ext b) e λa g=>gu (is (ir (dM .or_n (d5 (a5 (i1 (q _ (b.trans g))))))))))))))))))
theorem RB(R:310<=D)(h:aN H W)(n:a_ W)(ad:∀k,home=G k->k∈W.keys)(b:k∈W.keys)(r:hF W kv (pv home) ρ)(a:ρ.lookup "key"=G (aa k 0)) (q:∀K f,aW H f->hF W kv (pv home) K->T .next K f):SS c D (DK 2) ρ H T:=by
 have t:(W.row k).length<64:=fS (n.rz b) (by decide)
 obtain ⟨nm,P⟩:=h.sess k b;refine d4 (.idx (.idx (.var r.r0) .cst h.i_ses) (.var a) (h.s_at b)) ?_;have r:=r.set (u:=J (W.sa k)) (x:="session") (by decide)
 have a:=(bf (y:="session") (v:=J (W.sa k)) (by decide)).trans a
 refine dt (ec (eR (.var aY) (dv P E E) .nil (v_ (ap R E) P (h.wds k b) t λd hd=>?_)));have m:=(aW.refl H).alloc hd (o:=ak (iL (ba (aU (W.row k)))));have e:=aF H d (ak (iL (ba (aU (W.row k)))));revert m e;generalize H.set d _=F;intro m e;have A:=h.ext m;refine en (ex (.cons (.idx (.idx (.var r.r0) .cst A.i_pla) (.var a) (A.b_at b)) .nil) (h4 (A.bks' n b) (by rw [hC];exact t) λS Q=>?_))
 rw [ou];have l:=m.alloc Q (o:=ak (iL (ba (aU (W.row k)))));have B:=aF F S (ak (iL (ba (aU (W.row k)))));have e:=bK (o:=ak (iL (ba (aU (W.row k))))) Q e;revert l B e;generalize F.set S _=f;intro l B e;have w:=h.ext l;refine ep (k:=false) (wX e B) (d5 (a5 (bb (g3 (ex (.cons (.idx (.idx (.var r.r0) .cst w.i_pla) (.var a) (w.b_at b)) .nil) (h4 (w.bks' n b) (by rw [hC];exact t) λC al=>?_))))))
 rw [ou];have s:=l.alloc al (o:=ak (iL (ba (aU (W.row k)))));have p:=aF f C (ak (iL (ba (aU (W.row k)))));revert s p;generalize f.set C _=H3;intro s p;refine hx (dm (bH p)) (wZ (xs:=ba (aU (W.row k))) (g:=λi=>aa i 0) (λρ V=>aW H V/\V C=G (ak (iL (ba (aU (W.row k)))))/\hF W kv (pv home) ρ/\ρ.lookup "key"=G (aa k 0)) (λρ F z=>bH z.2.1) (λi ac ρ H4 T I Y=>?_) (λρ H4 I=>i1 (q _ _ I.1 I.2.2.1)) ⟨s,p,r,a⟩);obtain ⟨N,X,r,a⟩:=I;obtain ⟨j,Z⟩:=iv (eA.mp ac);have r:=r.set (u:=aa i 0) (x:="index") (by decide)
 have a:=(bf (y:="index") (v:=aa i 0) (by decide)).trans a
 exact dt (h3 (nY (.cons (.var r.r0) (.cons (.var a) (.cons (.var aY) (.cons (.var r.r1) (.cons (.var r.r2) .nil))))) (Rw (ap R E) (h.ext N) n ad b Z λH5 M=>gu (is (d5 (a5 (i1 (Y _ _ ⟨N.trans M,M.keep X E,r,a⟩))))))))
theorem RC(A:320<=D)(h:aN H W)(d:a_ W)(o:∀k,home=G k->k∈W.keys)(q:∀a,Q (az true) a):CL c D 938 [J W.aw,kv,pv home] H Q:=by
 have p:318<=D-2:=cj A;have y:=ar d.np d.B;refine Nx (ap A E) (vl (.idx (.var E) .cst h.i_win) h.win (By (α:=ag) (xs:=et W.nw) (g:=λi=>J (W.wA (i:U))) (λad ρ a=>aW H a/\hF W kv (pv home) ρ) (λad ao j ρ s T e1 I S _=>⟨E,?_⟩) (λρ s I=>bb ?_) ⟨.refl H,⟨E,E,E⟩⟩))
 ·obtain ⟨b,f⟩:=I
  obtain ⟨ac,ha⟩:=wY e1;rw [<-ac];exact dO (dO (f1 (Rz (ap p E) (h.ext b) d o ha ((f.set (by decide)).set (by decide)) ((bf (by decide)).trans aY) aY λK H2 w P=>S _ _ (bH ((b.trans w).keep h.win E)) ⟨b.trans w,P⟩)))
 obtain ⟨b,f⟩:=I;have F:=h.ext b;refine g3 (ex (.cons (.bin (.len (.idx (.var f.r0) .cst F.i_pan) (l7 F.pan)) .cst E) .nil) (pL λal hd=>hx (wW (n:=W.np+1) (aF _ _ _) (ar (df y) (by decide))) (wZ (I:=λρ a=>aW H a/\hF W kv (pv home) ρ) (λρ s z=>trivial) (λn V ρ H3 T I l=>?_) (λρ H3 I=>bb ?_) ⟨b.alloc hd,f⟩)))
 ·obtain ⟨e,r⟩:=I
  obtain ⟨m,X,rfl⟩:=cA.mp V;have j:=r.set (u:=aa (m:U) 0) (x:="pane") (by decide)
  exact RA (n:=m) (ap p E) (h.ext e) d o (fo (ji.mp X) (ar (df y) (by decide))) j aY λH4 M=>l _ _ ⟨e.trans M,j⟩
 obtain ⟨e,r⟩:=I;have C:=h.ext e;refine g3 (ex (.cons (.idx (.var r.r0) .cst C.i_pla) .nil) (h4 C.pla (by rw [ot];exact fq d.kl.1 (by decide)) λd4 Z=>?_))
 rw [sK];refine hx (dm (bH (aF _ _ _))) (wZ (xs:=ba W.keys) (g:=λi=>aa i 0) (I:=λρ a=>aW H a/\a d4=G (ak (iL (ba W.keys)))/\hF W kv (pv home) ρ) (λρ s z=>bH z.2.1) (λk Y ρ H5 T I l=>?_) (λρ H5 I=>bb (bR .cst (q _))) ⟨e.alloc Z,aF _ _ _,r⟩);obtain ⟨v,R,r⟩:=I;exact RB (ap p E) (h.ext v) d o (eA.mp Y) (r.set (by decide)) aY λK H6 t N=>l _ _ ⟨v.trans t,t.keep R E,N⟩
end
theorem DL(f:U->ae){k:U}(a:ae){ks:L U}(g:k∉ks):em (fb ks f) k (J a)=fb (ks++[k]) (a0 f k a):=by
 have c:∀x∈ks,x≠k:=λx b e=>g (e▸b);unfold em;rw [L.any_eq_false.mpr λx b=>by obtain ⟨y,d,rfl⟩:=cA.mp b;exact λz=>c y d (gO z),aG eX]
 unfold fb;rw [c0];show _=_++[(k,J (a0 f k a k))];rw [cn];exact aA (·++_) (jq λx b=>by rw [cy f a (c x b)])
theorem DM{f:U->ae}{k:U}{a:ae}{ks:L U}(c:k∉ks):(ks++[k]).map (a0 f k a)=ks.map f++[a]:=by rw [c0];show _++[a0 f k a k]=_;rw [cn];exact aA (·++_) (jq λx b=>cy f a λe=>c (e▸b))
section
variable{c:Cx}{D:ag}{H H':Hp}{W:Wd}{Q:KV}{a wd b wa pa:ae}{p:U}{vs:L ab}{k cu:U}{SD:L (U×U)}{l:aj U}{w:WM}{hs:L (U×U)}{dk:L U}{nm:a9 aP}
theorem RD(m:10<=D)(h:H W.aw=G (eF [("sessions",J W.ase),("places",J W.apl),("homes",J W.aho),("windows",J W.awi),("panes",J W.apa),("server",J W.asv)])) (d:H W.awi=G (ak vs)) (b:H W.aho=G (aO (cM hs))) (k:hs.length<60) (l:vs.length<60)
  (q:∀e,bp (λz=>z=W.awi\/z=W.aho) H e->e W.awi=G (ak (vs++[J a]))->e W.aho=G (aO (cM (cz hs p vs.length)))->Q (aa vs.length 0) e):CL c D 848 [J W.aw,J a,aa p 0] H Q:=by
 refine Bm (ap m E) (d4 (.len (.idx (.var E) .cst ((g_ h _).trans E)) (mN d)) (dN (ge (.idx (.var E) .cst ((g_ h _).trans E)) (jH d) (.cons (.var E) .nil) (pM d (ar l (by decide)) ?_))))
 have j:=ct b d E;have f:bp (λz=>z=W.awi\/z=W.aho) H (H.set W.awi (ak (vs++[J a]))):= .set d E (bt E);have i:=aF H W.awi (ak (vs++[J a]));have b:=iw (o':=ak (vs++[J a])) d b E;have g:=iw (o':=ak (vs++[J a])) d h E;revert f i b g;generalize H.set W.awi _=n;intro f i b g;refine kg (.var E) (.idx (.var E) .cst ((g_ g _).trans E)) (.var E) (i2 b (by rw [hC];exact ar k (by decide)) ?_)
 rw [oB];exact bR (.var E) (q _ (f.trans (.set b E (bF E))) ((dT _ _ j.symm).trans i) (aF _ _ _))
noncomputable def Wd.lap(W:Wd)(k:U)(a d b e f:ae)(c:L (U×U))(h:U)(l:aj U)(w:WM)(hs:L (U×U))(g:L U):Wd:={W with keys:=W.keys++[k],sa:=a0 W.sa k a,wd:=a0 W.wd k d,bk:=a0 W.bk k b,row:=a0 W.row k c,brow:=a0 W.brow k c,cur:=a0 W.cur k h,lst:=a0 W.lst k l,nw:=W.nw+1,wA:=a0 W.wA W.nw e,wm:=a0 W.wm W.nw w,np:=W.np+1,pA:=a0 W.pA W.np f,homes:=hs,deck:=g,B:=W.B+1}
theorem cd.lap(g:cd W.toBase)(h:aN H W)(d:k∉W.keys)(q:H wd=af)(p:H b=af)(o:wd≠b):cd (W.lap k a wd b wa pa SD cu l w hs dk).toBase:=by
 refine⟨?_,g.l1,g.l2,g.l3⟩;show(W.ase::W.apl::W.aho::((W.keys++[k]).map (a0 W.wd k wd)++(W.keys++[k]).map (a0 W.bk k b))).Nodup;rw [DM d,DM d];have f:∀{z:ae} {m:MO},H z=G m->H z≠af:=λe n=>by rw [n]at e;cases e
 have i:∀z∈W.ase::W.apl::W.aho::(W.keys.map W.wd++W.keys.map W.bk),H z≠af:=λz c=>(bQ.mp c).elim (λe=>e▸f h.ses) λc=>(bQ.mp c).elim (λe=>e▸f h.pla) λc=>(bQ.mp c).elim (λe=>e▸f h.hom) λc=>(dG.mp c).elim (λc=>let ⟨k,d,e⟩:=cA.mp c;e▸f (h.wds k d)) λc=>let ⟨k,d,e⟩:=cA.mp c;e▸f (h.bks k d);have j:(wd::b::(W.ase::W.apl::W.aho::(W.keys.map W.wd++W.keys.map W.bk))).Nodup:=cS.mpr ⟨λz=>(bQ.mp z).elim o λz=>i _ z q,cS.mpr ⟨λz=>i _ z p,g.di⟩⟩;refine L.Perm.nodup ?_ j;refine((js (l₁:=[wd,b]) (l₂:=W.ase::W.apl::W.aho::(W.keys.map W.wd++W.keys.map W.bk)))).trans ?_;refine .cons _ (.cons _ (.cons _ ?_));show((W.keys.map W.wd++W.keys.map W.bk)++[wd,b]).Perm ((W.keys.map W.wd++[wd])++(W.keys.map W.bk++[b]));rw [fp,fp];refine xF _ ?_;refine(js (l₁:=W.keys.map W.bk) (l₂:=[wd,b])).trans ?_;exact .cons _ ((js (l₁:=[b]) (l₂:=W.keys.map W.bk)))
end
noncomputable def LX(B:Base)(z:ae):Prop:=z=B.apa\/z=B.ase\/z=B.apl\/z=B.awi\/z=B.aho\/z=B.adk
theorem aN.lap{H c:Hp}{W:Wd}{k:U}{a v b g s:ae}{A:a9 aP}{y:L (U×U)}{M:U}{l:aj U}{w:WM}{hs:L (U×U)}{X:L U}(h:aN H W)(T:cd W.toBase)(x:bp (LX W.toBase) H c)
  (e1:c W.ase=G (aO (fb (W.keys++[k]) (a0 W.sa k a)))) (e2:c W.apl=G (aO (fb (W.keys++[k]) (a0 W.bk k b)))) (e3:c W.aho=G (aO (cM hs))) (e4:c W.awi=G (ak (cP W.wA W.nw++[J g]))) (aw:c W.apa=G (ak (cP W.pA W.np++[J s]))) (au:c W.adk=G (ak (iL X)))
  (as:c a=G (c2 k A v (pv l) (pv (G M)))) (e8:c v=G (aO (dU (a0 W.wA W.nw g) y))) (e9:c b=G (aO (cM y))) (aU:bP c (a0 W.pA W.np s) g w) (Q:w.n=W.nw) (aF:dc c s W.np) (hk:k∉W.keys) (ad:∀j:ag,j<W.nw->∀n∈al (W.wm j).t,n≠W.np) (ac:∀k∈W.keys,∀p∈W.row k,p.2≠W.nw):
  aN c (W.lap k a v b g s y M l w hs X):=by
 have N:∀{z:ae} {r:MO},H z=G r->dn (fH r) 0=false->dn (fH r) 3=false->¬LX W.toBase z:=λe C B f=>f.elim (ct e h.pan C) λf=>f.elim (ct e h.ses B) λf=>f.elim (ct e h.pla B) λf=>f.elim (ct e h.win C) λf=>f.elim (ct e h.hom B) (ct e h.dek C);have K:∀{z:ae} {r:MO},H z=G r->dn (fH r) 0=false->dn (fH r) 3=false->iu r=false->c z=G r:=λe C B Z=>x.keep (N e C B) e Z;have Y:∀{z:ae} {V},H z=G (aO V)->z∈W.keys.map W.wd++W.keys.map W.bk->c z=G (aO V):=λe m=>x.keep (λf=>f.elim (ct e h.pan E) λf=>f.elim (T.ase (dh _ (dh _ m))).symm λf=>f.elim (T.apl (dh _ m)).symm λf=>f.elim (ct e h.win E) λf=>f.elim (T.aho m).symm (ct e h.dek E)) e E;have u:∀{m:U},m∈W.keys->m≠k:=λd e=>hk (e▸d);have er:cP W.wA W.nw=cP (a0 W.wA W.nw g) W.nw:=qj λi D=>(cy _ _ (m0 D)).symm;have ep:cP W.pA W.np=cP (a0 W.pA W.np s) W.np:=qj λi D=>(cy _ _ (m0 D)).symm;have S:∀{P:U->Prop},P k->(∀m∈W.keys,P m)->∀m∈W.keys++[k],P m:=λp q m d=>(dG.mp d).elim (q m) λd=>de.mp d▸p;refine⟨K h.world E E E,e1,e2,e3,?_,?_,K h.srv E E E,h.mkt.ro x,au,S ⟨A,?_⟩ λm d=>?_,S ?_ λm d=>?_,S ?_ λm d=>?_,λj ao=>?_,λi D=>?_,x.ro h.emp E,x.ro h.words E,x.ro h.sides E,x.ro h.corns E⟩
 ·show c W.awi=G (ak (cP (a0 W.wA W.nw g) (W.nw+1)));rw [e4,oq,<-er,cn]
 ·show c W.apa=G (ak (cP (a0 W.pA W.np s) (W.np+1)));rw [aw,oq,<-ep,cn]
 ·show c (a0 W.sa k a k)=G (c2 k A (a0 W.wd k v k) (pv (a0 W.lst k l k)) (pv (G (a0 W.cur k M k))));rw [cn,cn,cn,cn];exact as
 ·obtain ⟨A,e⟩:=h.sess m d
  refine⟨A,?_⟩;show c (a0 W.sa k a m)=G (c2 m A (a0 W.wd k v m) (pv (a0 W.lst k l m)) (pv (G (a0 W.cur k M m))));rw [cy _ _ (u d),cy _ _ (u d),cy _ _ (u d),cy _ _ (u d)];exact K e E E E
 ·show c (a0 W.wd k v k)=G (aO (dU (a0 W.wA W.nw g) (a0 W.row k y k)));rw [cn,cn];exact e8
 ·show c (a0 W.wd k v m)=G (aO (dU (a0 W.wA W.nw g) (a0 W.row k y m)))
  rw [cy _ _ (u d),cy _ _ (u d),show dU (a0 W.wA W.nw g) (W.row m)=dU W.wA (W.row m)from jq λp hp=>by rw [cy _ _ (ac m d p hp)]]
  exact Y (h.wds m d) (qq d)
 ·show c (a0 W.bk k b k)=G (aO (cM (a0 W.brow k y k)));rw [cn,cn];exact e9
 ·show c (a0 W.bk k b m)=G (aO (cM (a0 W.brow k y m)))
  rw [cy _ _ (u d),cy _ _ (u d)];exact Y (h.bks m d) (lZ d)
 ·show bP c (a0 W.pA W.np s) (a0 W.wA W.nw g j) (a0 W.wm W.nw w j)/\(a0 W.wm W.nw w j).n=j
  by_cases F:(j:U)=W.nw
  ·rw [F,cn,cn];exact⟨aU,Q⟩
  ·rw [cy _ _ F,cy _ _ F]
   have I:=sQ ao F;obtain ⟨_,_,ap,_⟩:=(h.wins j I).1.o;exact⟨((h.wins j I).1.extX x (N ap E E)).congr λn Q=>cy _ _ (ad j I n Q),(h.wins j I).2⟩
 ·show dc c (a0 W.pA W.np s i) i
  by_cases R:(i:U)=W.np
  ·rw [R,cn];exact aF
  ·rw [cy _ _ R];exact x.pane (h.pans i (sQ D R))
noncomputable def cF(i:ag):U:=((1+2*i:ag):U)
theorem w0{i j:ag}(h:cF i=cF j):i=j:=ag.eq_of_mul_eq_mul_left (by decide) (ag.add_left_cancel (ml.mp h))
noncomputable def oF(t:ag):L U:=(et t).map cF
theorem RE(t:ag):oF (t+1)=oF t++[cF t]:=by unfold oF;rw [xi,c0];rfl
theorem w3{t:ag}{k:U}(h:k∈oF t):∃i:ag,i<t/\cF i=k:=let ⟨i,a,e⟩:=cA.mp h;⟨i,ji.mp a,e⟩
theorem w4(t:ag):(oF t).length=t:=(bJ _).trans iK
noncomputable def sZ(t:ag):L (U×U):=(et t).map λj:ag=>((j:U),(j:U))
theorem w5{t:ag}{n j:U}(h:(n,j)∈sZ t):∃i:ag,i<t/\n=i/\j=i:=by obtain ⟨i,a,e⟩:=cA.mp h;cases e;exact⟨i,ji.mp a,E,E⟩
theorem DN{α c:Type}{f:α->c}(d:∀a b,f a=f b->a=b){l:L α}(h:l.Nodup):(l.map f).Nodup:=So f (λa b h e=>h (d a b e)) h
structure gz(W:Wd)(t:ag):Prop where
 keys:W.keys=oF t
 nw:W.nw=t
 np:W.np=t
 B:W.B=t
 row:∀i:ag,i<t->∃p:U,0<=p/\W.row (cF i)=[(p,(i:U))]/\W.brow (cF i)=[(p,(i:U))]/\W.cur (cF i)=p
 lv:∀j:ag,j<t->al (W.wm j).t=[(j:U)]
 hom:W.homes=sZ t
 mrk:W.mrk=af
theorem DO{i t:ag}(h:i<t+1)(e:i≠t):i<t:=EM (qQ h) e
theorem gz.lap{t:ag}{W:Wd}{a d b f g:ae}{p:U}{l:aj U}{w:WM}{y:L U}(I:gz W t)(m:0<=p)(h:al w.t=[(t:U)]):gz (W.lap (cF t) a d b f g [(p,(t:U))] p l w (cz W.homes t t) y) (t+1):=by
 refine⟨by show W.keys++[_]=_;rw [I.keys,RE],aA h9 I.nw,aA h9 I.np,aA h9 I.B,λi o=>?_,λj c=>?_,?_,I.mrk⟩
 ·show∃q:U,0<=q/\a0 W.row _ _ _=_/\a0 W.brow _ _ _=_/\a0 W.cur _ _ _=_
  by_cases e:i=t
  ·rw [e];exact⟨p,m,cn _ _ _,cn _ _ _,cn _ _ _⟩
  ·obtain ⟨q,v,u,s,r⟩:=I.row i (DO o e)
   have n:cF i≠cF t:=λz=>e (w0 z);exact⟨q,v,(cy _ _ n).trans u,(cy _ _ n).trans s,(cy _ _ n).trans r⟩
 ·show al (a0 W.wm W.nw w j).t=_
  rw [I.nw]
  by_cases e:j=t
  ·rw [e,cn];exact h
  ·rw [cy _ _ λz=>e (ml.mp z)];exact I.lv j (DO c e)
 ·show cz W.homes t t=_
  rw [I.hom];unfold cz;rw [aG λz=>by obtain ⟨q,k,e⟩:=cA.mp z;obtain ⟨j,c,x,_⟩:=w5 k;exact qO t (ml.mp (x.symm.trans e)▸c)]
  unfold sZ;rw [xi,c0];rfl
theorem gz.ok{t:ag}{W:Wd}(I:gz W t)(u:0<t)(s:t<=3):a_ W:=by
 have g:∀k∈W.keys,∃i:ag,i<t/\k=cF i/\∃p:U,0<=p/\W.row k=[(p,(i:U))]/\W.brow k=[(p,(i:U))]/\W.cur k=p:=λk g=>by rw [I.keys]at g;obtain ⟨i,c,rfl⟩:=w3 g;exact⟨i,c,E,I.row i c⟩
 refine⟨?_,λk f=>?_,?_,λk f=>?_,λk f=>?_,λk f=>?_,λk f q l=>?_,λk f=>?_,?_,λq l=>?_,λj n r=>?_,cR (I.nw.trans I.B.symm),cR (I.np.trans I.B.symm),by rw [I.B];exact ar s (by decide),λk i p e=>by rw [I.mrk]at e;cases e⟩
 ·rw [I.keys];exact DN (λa b=>w0) L.nodup_range
 ·obtain ⟨i,c,e,_⟩:=g k f
  rw [e];exact⟨dH _,eH.mpr (fq (gn (mf 2 (ar (hO c) s)) 1) (by decide))⟩
 ·rw [I.keys]
  exact⟨(w4 t).symm▸s,λe=>m4 u ((w4 t).symm.trans (by rw [e];rfl))⟩
 ·obtain ⟨i,c,_,p,_,d,_,m⟩:=g k f
  rw [d,m];exact de.mpr E
 ·obtain ⟨i,c,_,p,_,d,o,m⟩:=g k f
  rw [d,o]
 ·obtain ⟨i,c,_,p,_,d,_,m⟩:=g k f
  rw [d];exact cS.mpr ⟨gc,oU⟩
 ·obtain ⟨i,c,_,p,v,d,_,m⟩:=g k f
  rw [d]at l;rw [de.mp l,I.nw];exact⟨v,dH i,eH.mpr c⟩
 ·obtain ⟨i,c,_,p,_,d,_,m⟩:=g k f
  rw [d,I.B];exact u
 ·rw [I.hom]
  unfold aU sZ;rw [dC];exact DN (λa b=>ml.mp) L.nodup_range
 ·rw [I.hom]at l
  obtain ⟨i,c,d,o⟩:=w5 (n:=q.1) (j:=q.2) l;rw [d,o,I.np,I.nw];exact⟨dH i,eH.mpr c,dH i,eH.mpr c⟩
 ·rw [I.nw]at r
  rw [I.lv j r,I.hom,de];refine⟨λe=>cA.mpr ⟨j,ji.mpr r,by rw [e]⟩,λh=>?_⟩
  obtain ⟨i,c,d,o⟩:=w5 h;exact d.trans o.symm
structure hG(W:Wd)(ρ:ao):Prop where
 r0:ρ.lookup "world"=G (J W.aw)
 r1:ρ.lookup "deck"=G (J W.adk)
theorem hG.set{W:Wd}{u:ab}{ρ:ao}{x:am}(r:hG W ρ)(h:x∉ ["world","deck"]):hG W (aZ x u ρ):=⟨(eN h E).trans r.r0,(eN h E).trans r.r1⟩
noncomputable def s0(n:ag):L MS:=match rV.drop n with
 |d1 _ _ b::_=>b
 |_=>[]
section
variable{c:Cx}{D:ag}{H:Hp}{W:Wd}{T:KF}{ρ:ao}
theorem RF{t:ag}(R:400<=D)(ht:t<3)(h:aN H W)(s:cd W.toBase)(I:gz W t)(r:hG W ρ)(X:ρ.lookup "lap"=G (aa t 0))
  (q:∀W' ca H2,aN H2 W'->cd W'.toBase->gz W' (t+1)->hG W' ca->(∀a mo,H a=G mo->mo.rw=false->H2 a=G mo)->T .next ca H2):SS c D (s0 4) ρ H T:=by
 have P:cF t∉W.keys:=λz=>by rw [I.keys]at z;obtain ⟨i,Q,e⟩:=w3 z;exact qO t (w0 e▸Q)
 have cL:∀aW:ag,aW<W.nw->∀n∈al (W.wm aW).t,n≠W.np:=λaW bP n hn e=>by rw [I.nw]at bP;rw [I.lv aW bP,de]at hn;rw [I.np]at e;exact qO t (ml.mp (hn.symm.trans e)▸bP)
 have dk:∀k∈W.keys,∀p∈W.row k,p.2≠W.nw:=λk P p hp e=>by rw [I.keys]at P;obtain ⟨i,Q,rfl⟩:=w3 P;obtain ⟨q,_,e1,_⟩:=I.row i Q;rw [e1]at hp;rw [de.mp hp,I.nw]at e;exact qO t (ml.mp e▸Q)
 have cu:1+2*t<20:=fq (gn (mf 2 (hO ht)) 1) (by decide)
 have bl:∀{m},m=t->m<60:=λe=>e▸fS ht (by decide)
 refine f2 (bs (v:=aa (cF t) 0) (.bin .cst (.bin .cst (.var X) E) E) (bN (a7 (.cons (.var r.r0) .nil) (wS (ap R E) h s cL (bl I.np) λd H1 bH x1 K=>cK (bU (f3 (aS E) E ?_))))));have r:=(r.set (u:=J d) (x:="pane") (by decide)).set (u:=aa (cF t) 0) (x:="key") (by decide)
 have X:=((bf (y:="key") (v:=aa (cF t) 0) (by decide)).trans (bf (y:="pane") (v:=J d) (by decide))).trans X
 have l:(aZ "key" (aa (cF t) 0) (aZ "pane" (J d) ρ)).lookup "key"=G (aa (cF t) 0):=aY;have rp:(aZ "key" (aa (cF t) 0) (aZ "pane" (J d) ρ)).lookup "pane"=G (J d):=(bf (by decide)).trans aY
 show SS c D _ (aZ "key" (aa (cF t) 0) (aZ "pane" (J d) ρ)) H1 T;revert r X l rp;generalize aZ "key" (aa (cF t) 0) (aZ "pane" (J d) ρ)=c5;intro r X l rp;refine rS (bN (eL (bs (.var l) (bN (fD (a4 .cst (fY (a7 (.cons (.var l) .nil) (oo (n:=1+2*t) (ap R E) cu (gZ (kG (a:=[115]) (cw 1) (fG (fS cu (by decide))) E) (cK (bU (OV (ap R E) λa F H3 ha cE dw x3 ac ew=>cK (bN (nX λb hb=>cK (bU (vk (aS E) E ?_)))))))))))))))))
 have b1:=f4 hb ew;have bi:=K.ext x3;have Y:∀{z:ae} {mo},H1 z=G mo->z≠F:=λe=>f4 cE e;have bu:∀{z:ae} {mo},H3 z=G mo->z≠b:=λe=>f4 hb e;have br:=bu bi.ses;have cs:=bu bi.pla;have cr:=bu bi.hom;have x4:=x3.alloc hb (o:=aO []);have eb:=aF H3 b (aO []);have ac:=bK (o:=aO []) hb ac;have ew:=bK (o:=aO []) hb ew;revert x4 eb ac ew;generalize H3.set b _=f;intro x4 eb ac ew;have B:=K.ext x4;have bE:f W.aw=G (eF [("sessions",J W.ase),("places",J W.apl),("homes",J W.aho),("windows",J W.awi),("panes",J W.apa),("server",J W.asv)]):=B.world;have a_:f W.ase=G (aO (fb W.keys W.sa)):=B.ses;have cH:f W.apl=G (aO (fb W.keys W.bk)):=B.pla;have dl:f W.aho=G (aO (cM W.homes)):=B.hom;have cD:f W.awi=G (ak (cP W.wA W.nw)):=B.win;have bH:f W.apa=G (ak (cP (a0 W.pA W.np d) (W.np+1))):=B.pan;have cQ:f W.adk=G (ak (iL W.deck)):=B.dek;have kz:W.keys.length+1<=bL:=by rw [I.keys,w4];exact ar (df (hO ht)) (by decide)
 refine pH (.idx (.var r.r0) .cst B.i_ses) (.var l) (i2 a_ (by rw [ot];exact kz) ?_)
 show AL c D _ _ _ (f.set W.ase (aO (em (fb W.keys W.sa) (cF t) (J a)))) _;rw [DL W.sa a P];have cp:=s.ase (d_ _);have x5:bp (λz=>z=W.ase\/z=W.apl) f (f.set W.ase (aO (fb (W.keys++[cF t]) (a0 W.sa (cF t) a)))):= .set a_ E (bt E);have bX:=aF f W.ase (aO (fb (W.keys++[cF t]) (a0 W.sa (cF t) a)));have bx:=iw (o':=aO (fb (W.keys++[cF t]) (a0 W.sa (cF t) a))) a_ bE E;have a3:=hc (o':=aO (fb (W.keys++[cF t]) (a0 W.sa (cF t) a))) cH cp.symm;show AL c D _ _ _ (f.set W.ase (aO (fb (W.keys++[cF t]) (a0 W.sa (cF t) a)))) _;revert x5 bX bx a3;generalize f.set W.ase _=H5;intro x5 bX bx a3;refine pH (.idx (.var r.r0) .cst ((g_ bx _).trans E)) (.var l) (i2 a3 (by rw [ot];exact kz) ?_)
 show AL c D _ _ _ (H5.set W.apl (aO (em (fb W.keys W.bk) (cF t) (J b)))) _;rw [DL W.bk b P];have j:bp (λz=>z=W.ase\/z=W.apl) f (H5.set W.apl (aO (fb (W.keys++[cF t]) (a0 W.bk (cF t) b)))):=x5.trans (.set a3 E (bF E));have ba:=aF H5 W.apl (aO (fb (W.keys++[cF t]) (a0 W.bk (cF t) b)));have a2:=hc (o':=aO (fb (W.keys++[cF t]) (a0 W.bk (cF t) b))) bX cp;revert j ba a2;generalize H5.set W.apl _=H6;intro j ba a2;have N6:∀{z mo},f z=G mo->dn (fH mo) 3=false->¬(z=W.ase\/z=W.apl):=λe n y=>y.elim (ct e a_ n) (ct e cH n);have a1:=j.keep (N6 bE E) bE E;have bd:=j.keep (N6 ac E) ac E;have ci:=j.keep (λy=>y.elim (Y K.ses).symm (Y K.pla).symm) ew E;have c1:=j.keep (λy=>y.elim br.symm cs.symm) eb E;have aU:=j.keep (N6 cD E) cD E;have co:=j.keep (N6 bH E) bH E;have b5:=j.keep (N6 cQ E) cQ E;have Z:=j.keep (λy=>y.elim (s.ase (dh _ (d_ _))).symm (s.apl (d_ _)).symm) dl E;have cm:dc H6 (a0 W.pA W.np d W.np) W.np:=j.pane (B.pans' (dH _) (ii _));have pe:a0 W.pA W.np d W.np=d:=cn ..;have bo:=cm;rw [pe]at bo;refine f1 (bV (eL (bs (.var r.r0) (bN (a7 (.cons (.var X) (.cons .cst (.cons (.var (rp.trans (aA (λz=>G (J z)) pe.symm))) (.cons .cst (.cons .cst .nil))))) (vW (pA:=a0 W.pA W.np d) (ap R E) cm λV H7 da dx C ww wn wl=>cK (bs (.att (.var rp) (C.pane bo).att) (bU (RD (W:=W) (hs:=W.homes) (ap R E) (C.keep a1 E) (C.keep aU E) (C.keep Z E) ?_ ?_ λH8 x8 c7 bO=>?_)))))))))
 ·rw [I.hom];exact bl ((bJ _).trans iK)
 ·rw [lW];exact bl I.nw
 rw [lW,I.nw,I.np]at bO;rw [lW,I.nw];have n1:=ct bd aU E;have y8:bp (λz=>z=W.awi\/z=W.aho\/z=W.adk) H6 H8:=(bp.of_ext C).trans (x8.more λz y=>y.elim bt λy=>bF (bt y));have ce:=ww.extX x8 λy=>y.elim (ww.ne (C.keep aU E) E) (ww.ne (C.keep Z E) E);have b2:=x8.keep (λy=>y.elim s.l2.symm (ct b5 Z E)) (C.keep b5 E) E;have r:=r.set (u:=aa (t:U) 0) (x:="number") (by decide)
 have l:=(bf (y:="number") (v:=aa (t:U) 0) (by decide)).trans l
 refine bV (a7 (.cons (.var r.r1) (.cons .cst .nil)) (C1 (m:=3) (ap R E) b2 (by decide) (by decide) λi du M Q x9 cZ=>?_))
 have A:=y8.trans (x9.more λz y=>bF (bF y));have r:=r.set (u:=aa (i:U) 0) (x:="index") (by decide)
 have l:=(bf (y:="index") (v:=aa (i:U) 0) (by decide)).trans l
 have rn:(aZ "index" (aa (i:U) 0) (aZ "number" (aa (t:U) 0) c5)).lookup "number"=G (aa (t:U) 0):=(bf (by decide)).trans aY
 have N9:∀{z mo},H6 z=G mo->dn (fH mo) 0=false->z≠W.aho->¬(z=W.awi\/z=W.aho\/z=W.adk):=λe n o y=>y.elim (ct e aU n) λy=>y.elim o (ct e b5 n);have bw:=A.keep (N9 a1 E (ct a1 Z E)) a1 E;have bD:=A.keep (N9 ba E (s.apl (d_ _))) ba E;have bC:=A.keep (N9 a2 E (s.ase (dh _ (d_ _)))) a2 E;have ad:=A.keep (N9 bd E (ct bd Z E)) bd E;have ch:=A.keep (N9 ci E (Y K.hom).symm) ci E;have S:=A.keep (N9 c1 E cr.symm) c1 E;have cc:=ce.extX x9 (ce.ne b2 E);have mk:cF t∈W.keys++[cF t]:=cO _ (de.mpr E);have dg:c6 M (J W.apl) (aa (cF t) 0)=G (J b):=(oj bD _).trans ((mX (a0 W.bk (cF t) b) (cF t) mk).trans (by rw [cn]))
 refine kg (.var rn) (.idx (.idx (.var r.r0) .cst ((g_ bw _).trans E)) (.var l) dg) (.var aY) (i2 S (aS E) ?_);show kH _ _ _ _ _ (M.set b (aO (cM [((i:U),(t:U))])));have w:bp (λz=>z=b) M (M.set b (aO (cM [((i:U),(t:U))]))):= .set S E E;have bb:=aF M b (aO (cM [((i:U),(t:U))]));revert w bb;generalize M.set b _=b9;intro w bb;have be:=w.keep (ct ad S E) ad E;have cl:=w.keep b1 ch E;have cv:=w.keep (ct bw S E) bw E;have dd:=w.keep br bC E;have au:=x9.keep s.l2 c7 E;have c9:=w.keep (ct au S E) au E;have as:=cc.extX w (cc.ne S E);have cY:a0 W.wA (W.nw:U) V (t:U)=V:=by rw [I.nw];exact cn ..
 have di:c6 b9 (J W.ase) (aa (cF t) 0)=G (J a):=(oj dd _).trans ((mX (a0 W.sa (cF t) a) (cF t) mk).trans (by rw [cn]))
 have i4:c6 b9 (J W.awi) (aa (t:U) 0)=G (J (a0 W.wA (W.nw:U) V (t:U))):=by rw [cY];refine(e3 c9).trans (n_ ?_);show(cP W.wA W.nw++[J V])[t]? =_;rw [xE (by rw [lW,I.nw];exact cw _),lW,I.nw,qR];rfl
 have ds:eB b9 (a0 W.pA W.np d) (a0 W.wA W.nw V) a F (cF t) _ af af []:=⟨be,cl,λp hp=>nomatch hp⟩;refine dt (ec (eR (.idx (.idx (.var r.r0) .cst ((g_ cv _).trans E)) (.var l) di) (dv be E E) (.cons (.idx (.idx (.var r.r0) .cst ((g_ cv _).trans E)) (.var rn) i4) (.cons (.var aY) .nil)) (OS (p:=(i:U)) (ap R E) ds (by decide) (cY▸as) (λk e=>nomatch e) gc λb8 db dr ao c_ bR c2=>en (a4 (.var aY) (ep (k:=false) (show G (!((i:U)==i))=_ by rw [eE];rfl) (d5 (a5 (i1 ?_))))))))
 have bR:dr=i:=de.mp bR;rw [bR]at c2;have fa:H a=af:=x1.dom ha;have cT:H F=af:=x1.dom cE;have cW:H b=af:=x1.dom (x3.dom hb);have cb:bp (LX W.toBase) H b8:=(((((x1.more λz=>bt).ext x4).trans (j.more λz y=>bF (y.elim bt λy=>bF (bt y)))).trans (A.more λz y=>bF (bF (bF y)))).trans2 w λz e=>bF (e▸cW)).trans2 ao λz e=>bF (e.elim (λe=>e▸fa) λe=>e▸cT);have N:bp (λz=>z=b\/z=a\/z=F) M b8:=(w.more λz=>bt).trans (ao.more λz=>bF);have bg:∀{z:ae},z≠b->z≠a->z≠F->¬(z=b\/z=a\/z=F):=λn1 n2 n3 y=>y.elim n1 λy=>y.elim n2 n3;have b7:∀{z mo},M z=G mo->dn (fH mo) 3=false->dn (fH mo) 800=false->¬(z=b\/z=a\/z=F):=λe n1 n2=>bg (ct e S n1) (ct e ad n2) (ct e ch n1);have cJ:=x9.keep (ct bO b2 E) bO E;have bq:=A.keep (λy=>y.elim s.l1.symm λy=>y.elim (ct co Z E) s.l3) co E;have dm:cP (a0 W.pA W.np d) (W.np+1)=cP W.pA W.np++[J d]:=by rw [oq,cn,qj (g:=W.pA) λi Q=>cy _ _ (m0 Q)]
 rw [dm]at bq;refine q (W.lap (cF t) a F b V d [((i:U),(t:U))] i db da (cz W.homes t t) du) _ b8 (h.lap s cb (N.keep (bg br (ct bC ad E) (Y K.ses)) bC E) (N.keep (bg cs (ct bD ad E) (Y K.pla)) bD E) (N.keep (bg cr (ct cJ ad E) (Y K.hom)) cJ E) (N.keep (b7 au E E) au E) (N.keep (b7 bq E E) bq E) (N.keep (b7 cZ E E) cZ E) c2 c_ (ao.keep (λy=>y.elim (ct bb be E) b1.symm) bb E) (as.extX ao λy=>y.elim (as.ne be E) (as.ne cl E)) (wn.trans (aA _ I.nw.symm)) (N.pane (A.pane bo)) P cL dk) (s.lap h P cT cW b1) (I.lap (dH i) (wl.trans (by rw [I.np]))) ⟨r.r0,r.r1⟩ λz mo e hr=>cb.ro e hr
end
section
variable{c:Cx}{D:ag}{H H1:Hp}{W:Wd}{T:KF}{ρ:ao}{dl:ae}{ks:L U}{vs:L ab}
theorem DP(h:aN H W)(a:H dl=G (ak (ah::vs))):¬WX W dl:=λz=>by
 have q:∀{f:U->ab} {l:L U},(∀i,f i≠ah)->ak (ah::vs)≠ak (l.map f):=λc e=>by have m:ah∈ah::vs:=bn;rw [MO.list.inj e]at m;obtain ⟨i,_,z⟩:=cA.mp m;exact c i z
 have g:∀{d:ae} {f:U->ab} {l:L U},(∀i,f i≠ah)->H d=G (ak (l.map f))->dl≠d:=λc e z=>q c (bc (a.symm.trans (z▸e)));have p:∀(f:U->ae) n,cP f n=((et n).map λi:ag=>(i:U)).map λi=>J (f i):=λf n=>by unfold cP;rw [dC];rfl
 rcases z with (z|z|z|z|z|⟨k,b,z⟩)|⟨j,s,z⟩
 ·exact g (f:=λi=>aa i 0) (λi e=>by cases e) h.dek z
 ·have:=h.win;rw [p]at this;exact g (λi e=>by cases e) this z
 ·have:=h.pan;rw [p]at this;exact g (λi e=>by cases e) this z
 ·exact ct a h.hom E z
 ·exact ct a h.srv E z
 ·obtain ⟨r,e⟩:=h.sess k b
  exact z.elim (ct a e E) λz=>z.elim (ct a (h.wds k b) E) (ct a (h.bks k b) E)
 ·obtain ⟨t,r,e,_⟩:=(h.wins j s).1.o
  exact ct a e E z
theorem RG{x:ab}(h:x∈ah::iL ks):∃o:aj U,x=pv o/\∀k,o=G k->k∈ks:=by
 rcases bQ.mp h with rfl|h
 ·exact⟨af,E,λ_ z=>nomatch z⟩
 ·obtain ⟨k,a,rfl⟩:=cA.mp h
  exact⟨G k,E,λ_ z=>bc z▸a⟩
structure kJ(W:Wd)(H:Hp)(a:ae)(ks:L U)(vs:L ab)(ρ:ao):Prop where
 kd:H 810=G (bm vs)
 l:H a=G (ak (ah::iL ks))
 ks:∀k∈ks,k∈W.keys
 r:hG W ρ
 rh:ρ.lookup "homes"=G (J a)
theorem RH(f:460<=D)(h:aN H W)(au:cd W.toBase)(ok:a_ W)(hn:0<W.nw)(hB:W.B+1<=18)(a4:vs≠ [])(a3:vs.length<60)(bd:ks.length<50)(R:kJ W H dl ks vs ρ)
  (q:∀j A K kv home,aN K j->j.toBase=W.toBase->a_ j->j.B<=W.B+1->0<j.nw->kJ j K dl ks vs A->A.lookup "kind"=G kv->A.lookup "home"=G (pv home)->(∀k,home=G k->k∈j.keys)->T .next A K):SS c D (s0 7) ρ H T:=by
 have a:=R.r;refine dt (h3 (nY (.cons (.var a.r1) (.cons (.var a.r0) .nil)) (Rj (ap f E) h au ok hn hB λb H1 w p bi=>gu (is (d5 (a5 (bb ?_)))))));have h1:=w.wat;have n1:0<b.nw:=fo hn w.nw;have nn:=DP h R.l;have n:=w.same;have nd:dl≠b.adk:=λe=>nn (bt (bt (e.trans (aA Base.adk n))));have X:=w.x.ro R.kd E;have al:=w.x.keep nn R.l E;have I:cd b.toBase:=n▸au;have a:hG b ρ:=⟨a.r0.trans (by rw [show b.aw=W.aw from aA Base.aw n]),a.r1.trans (by rw [show b.adk=W.adk from aA Base.adk n])⟩
 have ao:∀k∈ks,k∈b.keys:=λk hk=>by rw [show b.keys=W.keys from aA Base.keys n];exact R.ks k hk
 have d:=R.rh;have aW:(ah::iL ks).length<1000:=by rw [fu,gU];exact fS (oW bd) (by decide)
 refine f2 (bN (a7 (.cons (.var a.r1) (.cons (.var d) .nil)) (ox (ap f E) h1 I (bt al) nd nofun aW λx bl K hx Q w2=>cK (bN (a7 (.cons (.var a.r1) (.cons .glb .nil)) (ox (W:=b.dk bl) (ap f E) w2 I (bF (Q.ro X E)) (ct (Q.ro X E) w2.dek E) a4 (fS a3 (by decide)) λkv bo H3 bq x3 V=>cK (bU (f3 (aS E) E ?_))))))))
 have a1:=Q.trans x3;obtain ⟨home,rfl,t⟩:=RG hx;have t:∀k,home=G k->k∈b.keys:=λk e=>ao k (t k e);have ac:=ar p.np p.B;show SS c D _ (aZ "home" (pv home) (aZ "kind" kv ρ)) H3 T;have a:hG b (aZ "home" (pv home) (aZ "kind" kv ρ)):=(a.set (by decide)).set (by decide)
 have d:=((bf (y:="home") (v:=pv home) (by decide)).trans (bf (y:="kind") (v:=kv) (by decide))).trans d
 have i:(aZ "home" (pv home) (aZ "kind" kv ρ)).lookup "home"=G (pv home):=aY;have g:(aZ "home" (pv home) (aZ "kind" kv ρ)).lookup "kind"=G kv:=(bf (by decide)).trans aY
 revert a d i g;generalize aZ "home" (pv home) (aZ "kind" kv ρ)=aU;intro a d i g;refine bV (a7 (.cons (.var a.r1) (.cons (.bin (.len (.idx (.var a.r0) .cst V.i_pan) (l7 V.pan)) .cst E) .nil)) (l0 (W:=b.dk bo) (m:=b.np+1) (ap f E) V I (gE _) (fq (df ac) (by decide)) λad Y H4 ba x4 Z=>?_))
 have a:=a.set (u:=aa (ad:U) 0) (x:="pane") (by decide)
 have z {y:am} (e:y≠ "pane"):=bf (v:=aa (ad:U) 0) (ρ:=aU) e;have d:=(z (by decide)).trans d
 have i:=(z (by decide)).trans i
 have g:=(z (by decide)).trans g
 have a0:=a1.trans x4;refine dt (h3 (nY (.cons (.var a.r0) (.cons (.var aY) (.cons (.var g) (.cons (.var i) .nil)))) (Dn (W:=b.dk Y) (ap f E) Z (p.deck Y) t (fo ba (ar (df ac) (by decide))) λH5 x5=>gu (is (d5 (a5 (bb ?_)))))))
 refine dt (ec (eL (bs (.var a.r0) (bN (pD (fL (.cons .cst (.cons .cst .nil)) (aS E) λd6 be=>rP ?_))))));have C:=x5.alloc be (o:=bm [aq #[126] 0,aq #[123,109,97,114,107,101,100,125] 0]);have F:=aF H5 d6 (bm [aq #[126] 0,aq #[123,109,97,114,107,101,100,125] 0]);revert C F;generalize H5.set d6 _=H6;intro C F;have a2:=Z.ext C;refine a7 (.cons (.var a.r1) (.cons .cst .nil)) (l0 (W:=b.dk Y) (m:=2) (ap f E) a2 I (by decide) (by decide) λas s H7 bg P S=>rQ (v:=aq (if dn as 0 then #[126]else #[123,109,97,114,107,101,100,125]) 0) ?_ (cK (bs (.var g) (bs (.var i) (bU (QP (W:=b.dk s) (ap f E) S (p.deck s) t λu H8 N du=>en (a7 (.cons (.var a.r0) .nil) (PM (W:=b.dk s) (ap f E) (S.ext N) (p.deck s) λu2 H9 M bk=>ep (k:=false) (wP (du.ext M) bk) (d5 (a5 (i1 ?_)))))))))))
 ·match as,bg with
  |0,_=>exact oE (m:=0) (P.ro F E) E
  |1,_=>exact oE (m:=1) (P.ro F E) E
 ·have y:bp (λz=>z=b.adk) H1 H9:=(((a0.ext C).trans P).ext N).ext M
  exact q (b.dk s) _ H9 kv home ((S.ext N).ext M) n (p.deck s) bi n1 ⟨y.ro X E,y.keep nd al E,ao,⟨a.r0,a.r1⟩,d⟩ g i t
end
section
variable{c:Cx}{D:ag}{H:Hp}{W:Wd}{T:KF}{ρ:ao}
theorem RI{n:ag}(x:400<=D)(w:n<=3)(h:aN H W)(d:cd W.toBase)(I:gz W 0)(r:hG W ρ)
  (q:∀W g f,aN f W->cd W.toBase->gz W n->hG W g->(∀a mo,H a=G mo->mo.rw=false->f a=G mo)->T .next g f):
  g2 c D "lap" (s0 4) (λH=>True) T ((et n).map λi:ag=>aa (i:U) 0) ρ H:=by
 refine h5 (xs:=et n) (λm ρ o=>∃b,aN o b/\cd b.toBase/\gz b m.length/\hG b ρ/\∀a mo,H a=G mo->mo.rw=false->o a=G mo) (λm t K ρ F N e j u M=>?_) (λρ F j=>?_) ⟨W,h,d,I,r,λ_ _ e _=>e⟩
 ·obtain ⟨b,h,d,I,r,z⟩:=j
  obtain ⟨l,v⟩:=wY e;rw [<-l]at I;exact RF x (fo v w) h d I (r.set (by decide)) aY λB g f y A C s p=>u _ _ trivial ⟨B,y,A,by rw [b3,<-l];exact C,s,λa mo e k=>p a mo (z a mo e k) k⟩
 ·obtain ⟨b,h,d,I,r,z⟩:=j
  rw [iK]at I;exact q _ _ _ h d I r z
noncomputable def W0(b:L U)(e f g i d h a c:ae):Wd:={keys:=[],sa:=λ_=>0,wd:=λ_=>0,bk:=λ_=>0,aw:=e,ase:=f,apl:=g,aho:=i,awi:=d,apa:=h,asv:=a,adk:=c,row:=λ_=>[],brow:=λ_=>[],cur:=λ_=>0,lst:=λ_=>af,nw:=0,wA:=λ_=>0,wm:=λ_=>⟨0,0,af,cV 0 0 "" af []⟩,np:=0,pA:=λ_=>0,homes:=[],mrk:=af,mkv:=ah,deck:=b,B:=0}
theorem RJ{ns:L U}{sc:ae}(hD:20<=D)(hs:H sc=G (eg (iL ns)))(hn:ns.length<=63)(bd:H 529=G (bm []))(wk:H 237=G (.db kW))(sk:H 238=G (.db kS))(be:H 239=G (.db kC))
  (q:∀W ba x,aN x W->cd W.toBase->gz W 0->hG W ba->(∀a mo,H a=G mo->mo.rw=false->x a=G mo)->SS c D (rV.drop 4) ba x T):SS c D rV [("script",J sc)] H T:=by
 have hc:=ar (zf ns af (G 63)) hn;refine kh (va (k:=63) (.var E) .cst (AO (g4 hs) λa_ hd=>?_));rw [show e8 (iL ns) af (G 63)=iL (e8 ns af (G 63))from(ze _ _ _ _).symm]
 have x1:=(aW.refl H).alloc hd (o:=ak (iL (e8 ns af (G 63))));have S:=bH (aF H a_ (ak (iL (e8 ns af (G 63)))));revert x1 S;generalize H.set a_ _=H1;intro x1 S;refine kj (xs:=e8 ns af (G 63)) (g:=λn=>aa n 0) (f:=λn=>aa (n.fmod (10^12)) 0) (dm S) S (ar hc (by decide)) (λn hn a_ us hd=> .bin (v:=aa (n.fmod (10^12)) 0) (w:=aa (10^12) 0) (.of λbg q=>ex (.cons (.var aY) .nil) (KY q)) (.bin .cst .cst E) (C0 (by decide))) λd2 bb=>?_
 have K:=x1.alloc bb (o:=ak (iL ((e8 ns af (G 63)).map λn=>n.fmod (10^12))));have l2:=aF H1 d2 (ak (iL ((e8 ns af (G 63)).map λn=>n.fmod (10^12))));rw [show(e8 ns af (G 63)).map (λn=>aa (n.fmod (10^12)) 0)=iL ((e8 ns af (G 63)).map λn=>n.fmod (10^12))from by unfold iL;rw [dC];rfl]
 revert K l2;generalize (e8 ns af (G 63)).map (λn=>n.fmod (10^12))=dk;generalize H1.set d2 _=x;intro K l2;refine bV (a7 (.cons .cst (.cons .cst (.cons .cst (.cons .cst .nil)))) (wn (ap hD E) E E E E λm a1=>?_));have I:=K.alloc a1 (o:=i7 ah ah ah ah);have e3:=aF x m (i7 ah ah ah ah);have l3:=bK (o:=i7 ah ah ah ah) a1 l2;revert I e3 l3;generalize x.set m _=C;intro I e3 l3;refine bV (Kk λj R=>nW (nX λe B=>nW (nX λt s=>nW (nX λb i=>nW (ed .nil (eh _) λd p=>nW (ed .nil (eh _) λl h=>nW (a4 (.var E) (Kj ⟨?_,?_⟩))))))))
 ·exact bK h (bK p (bK i (bK s (bK B (aF _ _ _)))))
 have n1:=f4 s (aF (C.set j (eF [])) e (aO []));have P:=bK (o:=aO []) s (aF (C.set j (eF [])) e (aO []));have Q:=aF ((C.set j (eF [])).set e (aO [])) t (aO []);have ad:=bK (o:=aO []) s (bK (o:=aO []) B (aF C j (eF [])));have A:=bK (o:=aO []) s (bK (o:=aO []) B (bK (o:=eF []) R l3));have a3:=bK (o:=aO []) s (bK (o:=aO []) B (bK (o:=eF []) R e3));have Y:=((I.alloc R (o:=eF [])).alloc B (o:=aO [])).alloc s (o:=aO []);revert P Q ad A a3 Y i p h;generalize ((C.set j (eF [])).set e (aO [])).set t (aO [])=r;intro i p h P Q ad A a3 Y;have n2:=f4 i P;have n3:=f4 i Q;have n4:=f4 p (bK (o:=aO []) i A);have n5:=f4 h (bK (o:=ak []) p (bK (o:=aO []) i A));have n6:=f4 h (aF (r.set b (aO [])) d (ak []));have u:∀{z mo},r z=G mo->(((r.set b (aO [])).set d (ak [])).set l (ak [])) z=G mo:=λa5=>bK h (bK p (bK i a5));have o9:=bK (o:=ak []) h (bK (o:=ak []) p (aF r b (aO [])));have i9:=bK (o:=ak []) h (aF (r.set b (aO [])) d (ak []));have q9:=aF ((r.set b (aO [])).set d (ak [])) l (ak []);have V:=((Y.alloc i (o:=aO [])).alloc p (o:=ak [])).alloc h (o:=ak []);have al:=u P;have p9:=u Q;have ac:=u ad;have aU:=u A;have a2:=u a3;clear u;show kA _ _ _ _ _ _ _ ((((r.set b (aO [])).set d (ak [])).set l (ak [])).set j (eF [("sessions",J e),("places",J t),("homes",J b),("windows",J d),("panes",J l),("server",J m)]));revert o9 i9 q9 V al p9 ac aU a2;generalize ((r.set b (aO [])).set d (ak [])).set l (ak [])=H9;intro o9 i9 q9 V al p9 ac aU a2;have F {z mo}:=iw (a:=z) (mo:=mo) (o':=eF [("sessions",J e),("places",J t),("homes",J b),("windows",J d),("panes",J l),("server",J m)]) ac;have M:=aF H9 j (eF [("sessions",J e),("places",J t),("homes",J b),("windows",J d),("panes",J l),("server",J m)]);have ao:=F al E;have au:=F p9 E;have aw:=F o9 E;have a0:=F i9 E;have as:=F q9 E;have aZ:=F aU E;have N:=F a2 E;have Z:=V.fresh (I.dom R) (o:=eF [("sessions",J e),("places",J t),("homes",J b),("windows",J d),("panes",J l),("server",J m)]);clear F;revert M ao au aw a0 as aZ N Z;generalize H9.set j _=bf;intro M ao au aw a0 as aZ N Z;refine lE (.cons (.idx (.var E) .cst ((g_ M _).trans E)) (.cons .cst .nil)) E (aS E) (mK (.var E) (e9 N E (aS E) E (mK (.var E) (e9 (aF _ _ _) E (aS E) E (f1 ?_)))));rw [lA];have y:∀a mo,H a=G mo->mo.rw=false->(bf.set m (lV (J e) ah)) a=G mo:=λa mo a5 hr=>(bp.of_ext (X:=λ_=>d8) (Z.fresh (K.dom a1))).ro a5 hr;have F {z mo}:=iw (a:=z) (mo:=mo) (o':=lV (J e) ah) N;refine q (W0 dk j e t b d l m d2) _ _ ⟨F M E,F ao E,F au E,F aw E,F a0 E,F as E,aF _ _ _,E,F aZ E,λ_ z=>(nomatch z),λ_ z=>(nomatch z),λ_ z=>(nomatch z),λ_ z=>(nomatch z),λ_ z=>(nomatch z),y _ _ bd E,y _ _ wk E,y _ _ sk E,y _ _ be E⟩ ⟨?_,n6,n4.symm,n5.symm⟩ ⟨E,E,E,E,λ_ z=>(nomatch z),λ_ z=>(nomatch z),E,E⟩ ⟨E,E⟩ y;exact cS.mpr ⟨λz=>(bQ.mp z).elim n1 λz=>n2 (de.mp z),cS.mpr ⟨λz=>n3 (de.mp z),cS.mpr ⟨gc,oU⟩⟩⟩
end
section
variable{c:Cx}{D:ag}{H:Hp}{W:Wd}{T:KF}{ρ:ao}{dl:ae}{ks:L U}{vs:L ab}{kv:ab}{home:aj U}{Q:KV}
theorem RL{n:ag}(Q:460<=D)(h:aN H W)(j:cd W.toBase)(f:a_ W)(p:0<W.nw)(g:W.B+n<=18)(K:vs≠ [])(I:vs.length<60)(N:ks.length<50)(R:kJ W H dl ks vs ρ)(m:ρ.lookup "kind"=G kv) (o:ρ.lookup "home"=G (pv home)) (s:∀k,home=G k->k∈W.keys)
  (q:∀W d v kv home,aN v W->a_ W->hG W d->d.lookup "kind"=G kv->d.lookup "home"=G (pv home)->(∀k,home=G k->k∈W.keys)->T .next d v):
  g2 c D "lap" (s0 7) (λH=>True) T ((et n).map λi:ag=>aa (i:U) 0) ρ H:=by
 refine h5 (xs:=et n) (λt ρ w=>∃a kv home,aN w a/\cd a.toBase/\a_ a/\0<a.nw/\a.B+n<=18+t.length/\kJ a w dl ks vs ρ/\ρ.lookup "kind"=G kv/\ρ.lookup "home"=G (pv home)/\∀k,home=G k->k∈a.keys) (λt ac rs ρ H1 K1 e u F k2=>?_) (λρ H1 u=>?_) ⟨W,kv,home,h,j,f,p,g,R,m,o,s⟩
 ·obtain ⟨a,kv,home,h,j,f,p,g,R,m,o,s⟩:=u
  obtain ⟨V,M⟩:=wY e;have Y:a.B+1<=18:=ag.le_of_add_le_add_right (b:=t.length) (ar (by rw [tF,qC 1,<-V];exact gn M _) g)
  exact RH Q h j f p Y K I N ⟨R.kd,R.l,R.ks,R.r.set (by decide),(bf (by decide)).trans R.rh⟩ λZ d v kv home S y C X x R2 z A P=>F _ _ trivial ⟨Z,kv,home,S,y▸j,C,x,by rw [b3];exact ar (go X n) (by rw [ta];exact df g),R2,z,A,P⟩
 ·obtain ⟨a,kv,home,h,j,f,p,g,R,m,o,s⟩:=u
  exact q _ _ _ kv home h f R.r m o s
theorem DR{d:ae}{n:ag}(h:H d=G (.rng n))(a:n<=1000):fB H (J d)=G ((et n).map λi:ag=>aa (i:U) 0,af):=(wW h a).trans (by rw [dC];rfl)
theorem RM{ns:L U}{y:ae}(N:500<=D)(hs:H y=G (eg (iL ns)))(hn:ns.length<=63)(bd:H 529=G (bm []))(wk:H 237=G (.db kW))(sk:H 238=G (.db kS))(bi:H 239=G (.db kC))(kd:H 810=G (bm vs))(aU:vs≠ [])(aN:vs.length<60)(q:∀H',Q (az true) H'):CL c D 943 [J y] H Q:=by
 have d:498<=D-2:=cj N;refine Ny (ap N E) (RJ (ap d E) hs hn bd wk sk bi λW ρ H1 a_ Z b r z=>?_);have aw:=z _ _ kd E;refine g3 (kf (bN (fD (a4 .cst (fY (a7 (.cons (.var r.r1) (.cons .cst .nil)) (l0 (m:=2) (ap d E) a_ Z (by decide) (by decide) λn bg H2 a0 x2 w2=>gZ (v:=aa ((2+n:ag):U) 0) E (cK (bU (pL λbp M=>?_))))))))))
 have g:2+n<=3:=gn (qQ a0) 2;refine hx (DR (n:=2+n) (aF _ _ _) (ar g (by decide))) (RI (W:=W.dk bg) (ap d E) g (w2.ext ((aW.refl _).alloc M)) Z ⟨b.keys,b.nw,b.np,b.B,b.row,b.lv,b.hom,b.mrk⟩ ⟨r.r0,r.r1⟩ λa t s S Y p A z4=>bb ?_)
 have au:=z4 _ _ (bK M (x2.ro aw E)) E;have j:=p.ok (fo (by decide) (he 2 n)) g
 have F:a.keys.length<=3:=j.kl.1;refine bV (fD (ed (.cons .cst .nil) (aS E) λX a5=>fY ?_));have f:=(aW.refl s).alloc a5 (o:=ak [ah]);have l:=aF s X (ak [ah]);revert f l;generalize s.set X _=H5;intro f l;have R:=S.ext f;refine ex (.cons (.idx (.var A.r0) .cst R.i_ses) .nil) (sT R j λV K=>sc (bH (bK K l)) (bH (aF _ _ _)) (by rw [gU,gL];exact ar (gn F 1) (by decide)) λdl a3=>?_)
 have e:=(f.alloc K (o:=ak (iL (ba a.keys)))).alloc a3 (o:=ak ([ah]++iL (ba a.keys)));have h:=aF (H5.set V (ak (iL (ba a.keys)))) dl (ak ([ah]++iL (ba a.keys)));revert e h;generalize (H5.set V (ak (iL (ba a.keys)))).set dl _=H7;intro e h;have P:=S.ext e;have i:=((A.set (u:=J dl) (x:="homes") (by decide)).set (u:=aE (I "pane") 0) (x:="kind") (by decide)).set (u:=ah) (x:="home") (by decide)
 have rh:(aZ "home" ah (aZ "kind" (aE (I "pane") 0) (aZ "homes" (J dl) t))).lookup "homes"=G (J dl):=(bf (by decide)).trans ((bf (by decide)).trans aY)
 have rk:(aZ "home" ah (aZ "kind" (aE (I "pane") 0) (aZ "homes" (J dl) t))).lookup "kind"=G (aE (I "pane") 0):=(bf (by decide)).trans aY
 refine lE (.cons .cst (.cons .cst .nil)) E (aS E) (dO (dO (f1 (g3 (kf (bN (fD (a4 .cst (fY (a7 (.cons (.var i.r1) (.cons .cst .nil)) (l0 (m:=8) (ap d E) P Y (by decide) (by decide) λm T H8 a1 w ac=>gZ (v:=aa ((1+m:ag):U) 0) E (cK (bU (pL λbo k=>?_))))))))))))))
 have C:1+m<=8:=qC m 1▸a1;have as:dl≠a.adk:=λbe=>DP P h (bt (bt be));refine hx (DR (n:=1+m) (aF _ _ _) (ar C (by decide))) (RL (W:=a.dk T) (home:=af) (ks:=ba a.keys) (ap d E) (ac.ext ((aW.refl _).alloc k)) Y (j.deck T) (p.nw▸fo (by decide) (he 2 n)) (ar (nr (ar (cR p.B) g) C) (by decide)) aU aN (by rw [gL];exact fq F (by decide)) ⟨bK k (w.ro (e.keep au E) E),bK k (w.keep as h E),λbl hk=>eA.mp hk,⟨i.r0,i.r1⟩,rh⟩ rk aY (λ_ z=>nomatch z) λW' bk H2 kv home h' ao r' ad al a2=>bb (b5 (a7 (.cons (.var r'.r0) (.cons (.var ad) (.cons (.var al) .nil))) (RC (ap d E) h' ao a2 q))))
end
theorem RN(w:bh):(KK w).lookup 529=G {cls:=aM "tuple",data:=dp #[] 0}:=by kernel_rfl
theorem RO(w:bh):(KK w).lookup 810=G {cls:=aM "tuple",data:=dp #[aE (I "pane") 1370,aE (I "window") 1371,aE (I "session") 1372] 0}:=by kernel_rfl
theorem RP(w:bh):(KK w).lookup 237=G (fi au w kW):=by kernel_rfl
theorem RQ(w:bh):(KK w).lookup 238=G (fi au w kS):=by kernel_rfl
theorem RR(w:bh):(KK w).lookup 239=G (fi au w kC):=by kernel_rfl
noncomputable def kK(a:ae)(ns:L U):Hp:=λz=>if z=a then G (eg (iL ns))else if z=529 then G (bm [])else if z=810 then G (bm [aE (I "pane") 0,aE (I "window") 0,aE (I "session") 0])
 else if z=237 then G (.db kW)else if z=238 then G (.db kS)else if z=239 then G (.db kC)else af
theorem DS:∀{vs:L ab} {ns:L U},qH vs ns->vs.map er=iL ns
 |_,_,.nil=>E
 |_,_,.cons n t h=>by
  have:=DS h;unfold iL at*
  rw [e6,e6,this];rfl
theorem RS:tX:=by
 intro w s v ns a F i R Q S M N K;subst S;have h:∀{z o},(KK w).lookup z=G o->s.heap.get? z=G o:=λe=>i _ _ e;have p:=h (RN w);have m:=h (RO w);have l:=h (RP w);have k:=h (RQ w);have j:=h (RR w);obtain ⟨o,f,b,n,t⟩:=M;have B:(529:ae)≠a:=by rintro rfl;rw [p]at f;cases f;simp at b
 have A:(810:ae)≠a:=by rintro rfl;rw [m]at f;cases f;simp at b
 have y:(237:ae)≠a:=by rintro rfl;rw [l]at f;cases f;have b:aM "dict"=aM "list":=b;simp at b
 have x:(238:ae)≠a:=by rintro rfl;rw [k]at f;cases f;have b:aM "dict"=aM "list":=b;simp at b
 have u:(239:ae)≠a:=by rintro rfl;rw [j]at f;cases f;have b:aM "dict"=aM "list":=b;simp at b
 let c:Cx:=⟨w,s.heap,s.os,i,R⟩;have D:(iL ns).length=ns.length:=bJ _
 have H:HS c callerA.frames (λ_=>af) (kK a ns) s:=by
  refine⟨Q,E,⟨[],E,(λ_ z=>nomatch z)⟩,λ_=>af,⟨λ_ _ e=>e,(λ_ _ e=>nomatch e),λz C e=>?_,λz C e=>?_,(λ_ _ e=>nomatch e)⟩⟩
  ·unfold kK at e
   split at e
   ·rename_i d;subst d;cases e
    exact⟨by rw [D];show _<=1000000;omega,F.toList,⟨o,f,b,n,by rw [t]⟩,DS N⟩
   split at e
   ·rename_i d;subst d;cases e
    exact⟨by decide,[],⟨_,p,E,0,E⟩,E⟩
   split at e
   ·rename_i d;subst d;cases e
    exact⟨by decide,[_,_,_],⟨_,m,E,0,E⟩,E⟩
   split at e
   ·rename_i d;subst d;cases e;exact l
   split at e
   ·rename_i d;subst d;cases e;exact k
   split at e
   ·rename_i d;subst d;cases e;exact j
   ·cases e
  ·refine⟨E,E,λg=>?_⟩
   unfold kK at e;split at e
   ·cases e;cases g
   split at e
   ·cases e;cases g
   split at e
   ·cases e;cases g
   split at e
   ·cases e;cases g
   split at e
   ·cases e;cases g
   split at e
   ·cases e;cases g
   ·cases e
 have q:CL c 500 943 [J a] (kK a ns) λv _=>v=az true:=RM (ns:=ns) (cw _) (aJ E) K (by unfold kK;rw [aG B];rfl) (by unfold kK;rw [aG y];rfl) (by unfold kK;rw [aG x];rfl) (by unfold kK;rw [aG u];rfl) (by unfold kK;rw [aG A];rfl) (by simp) (by decide) λ_=>E
 unfold CL at q;refine oR (jm (q callerA (λ_=>af) s [J a] ⟨by decide+kernel,by decide+kernel,E⟩ H E) λr T z=>?_)
 rcases r with _|(v|_|_|_)<;>first|exact z.elim|skip
 obtain ⟨W,⟨P,I,_,V,g⟩,e⟩:=z;exact⟨nA e,g.stat,P,I⟩
theorem RT:namesResolve au=true:=by kernel_rfl
theorem RU:noRoadLSs {strict:=!(importedModules au.main.body).all cThrough.contains,foot:=af,bare:=(["vars","dir","locals"]:L a6).filter (readsOut au au.main.body)} au.main.body=true:=by kernel_rfl
theorem RV:namesMeet au au.main.body (λ_ n=>attrL n)=true:=by kernel_rfl
theorem RW:dD.bound'.all (λn=>!builtinNamed n||rw_rh0239_01.about==[n]||!dD.reads n)=true:=by kernel_rfl
theorem RX:namesMeet au dD.above (λ_ n=>!dD.own.contains n)=true:=by kernel_rfl
theorem RY:noRoadLSs {strict:=true,foot:=G dD.bound',writes:=false,may:=dD.may} dD.footing=true:=by kernel_rfl
theorem RZ:looksOpen au=true:=by refine dj (dj (dj (dj ?_ RT) ?_) RU) RV<;>kernel_rfl
theorem R0:dD.row.partSaid=true:=by refine dj (dj (dj (dj (dj (dj (dj (dj (dj (dj (dj (dj (dj RZ ?_) ?_) ?_) ?_) ?_) ?_) ?_) ?_) ?_) ?_) ?_) ?_) ?_<;>kernel_rfl
theorem R1:dD.row.wellSaid=true:=by refine dj (dj R0 ?_) ?_<;>kernel_rfl
theorem R2:dD.wellSaid=true:=by refine dj (dj (dj (dj (dj (dj (dj (dj (dj (dj (dj (dj (dj (dj (dj (dj (dj (dj R1 ?_) ?_) ?_) ?_) ?_) RY) ?_) ?_) ?_) RW) ?_) ?_) ?_) ?_) ?_) ?_) RX) ?_<;>kernel_rfl
theorem whole:dD.Holds:=holds_law R2 (Gx RS)
end Mine
theorem PySem.Challenge.cw_rh0239_01_holds : PySem.Challenge.rw_rh0239_01.Holds :=
  Mine.whole
