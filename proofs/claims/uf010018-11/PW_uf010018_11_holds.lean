import PyProof.Rows.All
import PyProof.CodeObj
import PyProof.Claim2
import PyProof.Rows.Frame
import PyProof.FactsAll.list_3
import PyProof.AttrMissHeap
import PyProof.AutoSeq1
import PyProof.FitsInt
import PyProof.ListIndex
import PyProof.CallType
import PyProof.CallStr
import PyProof.Cells
import PyProof.CompMap
import PyProof.PlainList
import PyProof.ConsumeS
import PyProof.CompFree
import PyProof.Conv_int_bool
import PyProof.MeetsSeq
import PyProof.DictKinds
import PyProof.DictCalls
import PyProof.DictWalks
import PyProof.EnumMake
import PyProof.StationsW
import PyProof.StrBlock
import PyProof.StrBlockI
import PyProof.RangeIter
import PyProof.WalksMore
import PyProof.ListRange
import PyProof.WalkInts
import PyProof.Rows.Tup
import PyProof.Rows.DictSet
import PyProof.ZipIter
import PyProof.Rows.Own
import PyProof.Rows.AttrNodeAny
import PyProof.WalksEnum
import PyProof.Rows.ListMulArg
import PyProof.Rows.RuleN_abs
import PyProof.Rows.TupMore
import PyProof.Rows.CallKwBuiltin
import PyProof.Rows.PlainObj
import PyProof.Rows.TopObj
import PyProof.Rows.PlainNoArg
import PyProof.Rows.SortStr
import Open.Head
import OpenK.KLine
import KE.KNest
import KE.KLam
import KE.KDictList
import KE.KDictSum
import KE.KDictOf
import KE.KSliceW
import KE.KMinKey
import Wide.FinOn
import OpenK.AllK
import Wide.All
import Lean
import PySem.Challenge.RW_uf010018_11
set_option Elab.async false
set_option linter.all false
set_option bootstrap.genMatcherCode false
set_option autoImplicit false
set_option tactic.hygienic false
set_option genSizeOf false
set_option genInjectivity false
set_option genCtorIdx false
namespace Mine.Internal
open Array renaming toList_append->zT,length_toList->C0,eq_empty_of_size_eq_zero->Iz,mem_toList_iff->S1,size_append->akp,toList_push->akO,toList_inj->alx
open Bool renaming false_ne_true->f6,and_eq_true_iff->gX,not_eq_true'->ru,and_true->zU,and_eq_true->z0,rec->Dh,not_true->IV,or_eq_true->SR,or_eq_true_iff->SY,false_eq_true->Tn,false_or->TB,eq_iff_iff->akt,true_and->ald,or_true->alj,eq_false_iff->alB
open Classical renaming byContradiction->j6,epsilon->akd,epsilon_spec->ake
open Eq renaming symm->gW
open ForInStep renaming yield->IQ
open Function renaming comp->SS,comp_def->akj
open HAdd renaming hAdd->alh
open Int renaming le_trans->eY,add_zero->aod,le_of_lt->gY,zero_mul->g0,not_lt->hR,mul_zero->aom,ofNat_lt->kE,ofNat_le->lw,mul_one->oU,natAbs_mul->qb,toNat_le->rn,add_comm->ro,natCast_nonneg->rp,le_of_eq->aoC,mul_comm->rA,mul_assoc->sR,add_le_add->sS,lt_of_le_of_lt->uJ,le_of_lt_add_one->uK,mul_left_comm->uL,zero_add->uR,natAbs_neg->wY,mul_sub->w1,one_mul->w2,sub_eq_add_neg->w3,add_assoc->w4,natAbs_natCast->xc,toNat_of_nonneg->zJ,add_sub_cancel->zK,sub_mul->zL,natAbs_of_nonneg->zM,eq_ofNat_of_zero_le->zN,natAbs_sub_le->zO,neg_mul->z9,natAbs_add_le->z',sub_zero->CR,zero_sub->CS,natAbs_pos->CV,mul_add->Dj,mul_nonneg->Dk,toNat->Dm,le_natAbs->Ii,lt_of_lt_of_le->Ij,sub_eq_iff_eq_add'->Im,ofNat_natAbs_of_nonpos->Io,fmod_nonneg_of_pos->I9,fmod_lt_of_pos->I',ne_of_gt->Ja,mul_fdiv_add_fmod->Jd,natAbs_eq_zero->Je,add_le_add_left->Sy,toNat_lt->Sz,sub_le_self->SA,toNat_add->SD,ofNat_inj->SE,mul_neg->SF,natCast_ne_zero_iff_pos->SJ,mul_le_mul_of_nonneg_left->SK,sub_le_sub_right->SN,le_refl->Tw,fmod_eq_emod_of_nonneg->TD,add_mul->TH,mul_neg_of_neg_of_pos->TK,toNat_natCast->TL,sub_self->TP,neg_le_of_neg_le->ajS,sub_nonneg_of_le->ajU,toNat_of_nonpos->ajV,emod_eq_of_lt->ajW,add_sub_add_left->ajX,add_sub_add_right->ajY,natCast_add->ajZ,neg_add_cancel_right->aj0,sub_eq_iff_eq_add->aj2,add_left_comm->aj3,lt_or_gt_of_ne->aj7,toNat_sub->akR,ofNat_eq_zero->akY,le_add_of_nonneg_right->alG,emod_nonneg->alH,mul_neg_of_pos_of_neg->alN,mul_nonneg_of_nonpos_of_nonpos->alO,le_antisymm->alP,neg_mul_neg->alQ,lt_iff_le_and_ne->alZ,le_sub_right_of_add_le->al6,sub_right_le_of_le_add->al7,zero_fdiv->al9
open Int.ofNat renaming inj->am2
open List renaming length_map->a0,range->bf,length_append->bW,length_range->an5,mem_cons_self->cW,mem_singleton->c3,mem_cons->dG,mem_cons_of_mem->dM,getElem?_eq_some_iff->dN,mem_map->dQ,append_assoc->ek,mem_range->eE,replicate->eL,mem_append->eM,getElem?_map->aob,length_cons->aoc,map_cons->gu,map_map->hk,mem_append_right->ho,map_append->hS,prefix_refl->hT,mem_of_getElem?->ik,append_nil->il,map_congr_left->i0,lookup_cons->i4,filterMap_cons->j',length_set->lY,nodup_append->mQ,nodup_cons->mR,getElem?_append_left->mS,getElem?_eq_none->nN,getElem?_append_right->nP,all_eq_true->oZ,getElem?_range->p9,length_replicate->qa,not_mem_nil->rv,replicate_succ->rx,foldl_cons->sU,mem_append_left->sV,nodup_nil->sY,getElem?_eq_getElem->uP,ext_getElem?->uQ,any_eq_true->w5,getElem?_set_ne->w6,contains_iff_mem->w7,length->w9,set_set->xa,getElem_mem->xd,getElem?_set_self->zS,getD->zX,filter_cons->z5,range_succ->z6,length_filter_le->z7,length_nil->z8,zipWith->CY,find?_eq_none->CZ,drop_eq_getElem_cons->aoQ,foldl_append->Di,set_append_right->Dl,find?_cons->It,cons->Iv,any_cons->Iw,getElem?_of_mem->Ix,range_succ_eq_map->IG,take_length->IL,mem_of_mem_take->IZ,mem_filterMap->aoX,nil_append->I3,getElem?_take_of_lt->I4,take_append_drop->I5,getElem_of_mem->I6,getElem?_set->I7,take_left->I8,Nodup->Jb,pairwise_map->Jc,filter_append->Jg,mem_of_find?_eq_some->SU,getElem?_inj->SX,drop_eq_nil_of_le->S8,getElem?_take->Tb,getElem?_drop->Tc,any_eq_false->Tj,zip_cons_cons->ao7,cons_append->Tp,nodup_range->Tx,mem_filter->Tz,getElem_range->TR,append_cons->TU,find?_some->akl,prefix_append->akn,pairwise_cons->aky,all_cons->akJ,length_drop->akV,drop_length->alg,getElem?_zipWith->alo,lookup->alq,mem_of_mem_drop->als,take_sublist->alt,eq_of_mem_replicate->alu,drop_append->alD,eq_nil_of_length_eq_zero->alE,append_cancel_left->alI,length_filterMap_le->alJ,filter->alK,take_add_one->alL,map_nil->al0,flatMap_append->al3,flatMap_cons->al4,drop_succ_cons->ama,map_replicate->amc
open List.Pairwise renaming filterMap->anY
open List.Perm renaming eq_of_pairwise->aki
open List.Sublist renaming map->anX
open List.cons renaming inj->nL,injEq->alw
open List.eraseDupsBy renaming loop->anV
open Nat renaming le_trans->ax,add_le_add->aG,le_of_eq->bx,le_add_right->bO,le_refl->cu,mul_le_mul_left->cE,zero_le->d4,lt_of_lt_of_le->an9,le_of_lt->et,add_assoc->eK,add_le_add_left->fv,lt_of_le_of_lt->fR,not_lt->gq,lt_succ_self->aog,ne_of_lt->gV,pow_le_pow_right->hV,lt_trans->jt,pow_add->jw,lt_succ_of_lt->j7,le_of_not_lt->kC,lt_irrefl->kD,ne_of_gt->kF,add_comm->kG,sub_le->kH,pow_pos->kI,add_le_add_right->lx,add_sub_cancel_left->l0,mul_assoc->aou,beq->mO,zero_add->mT,mul_le_mul_right->mU,le_succ->nK,not_lt_zero->nM,pow_succ->nQ,add_lt_add_left->oV,add_lt_add_right->oW,le_mul_of_pos_right->o1,le_add_left->pZ,mul_le_mul->p0,sub_self->p7,blt->p8,le_of_succ_le->rq,le_antisymm->sQ,lt_or_gt_of_ne->sT,mul_comm->sZ,add_left_cancel->uI,add_right_comm->uM,mul_pos->uS,lt_of_lt_of_eq->wZ,succ_le_succ->w0,lt_of_not_le->xb,gcd->xe,not_le_of_lt->zY,lt_trichotomy->z3,le_of_ble_eq_true->z4,le_mul_of_pos_left->Aa,lt_add_right->CT,lt_of_le_of_ne->CU,le_max_left->CW,le_max_right->CX,add_sub_cancel'->Dg,le_total->Ik,succ_le_of_lt->Il,min_eq_left->Ip,sub_le_iff_le_add'->Iq,succ->Iu,add_left_comm->IA,lt_of_succ_lt->ID,add_lt_of_lt_sub->IJ,lt_add_of_pos_left->Jf,le_of_lt_succ->Sx,lt_add_one->SG,lt_of_succ_le->SH,lt_succ_of_le->SI,gt_of_not_le->SM,min_eq_right->SO,sub_lt_sub_right->TC,lt_add_of_pos_right->TF,succ_pos->TG,mul_add->TJ,le_zero->TM,add_mul->TN,mul_left_comm->TO,lt_succ_iff_lt_or_eq->ao8,exists_eq_add_of_le->TS,pos_of_neZero->aj1,ne_of_lt'->aj4,lt_of_add_left_lt->aj5,not_lt_of_le->aj6,sub_add_cancel->aj8,add_lt_of_lt_sub'->aj9,le_of_add_right_le->aka,div_le_self->akb,le_succ_of_le->akc,succ_mul->akq,lt_of_succ_lt_succ->aku,min_self->akv,log2_lt->akK,sub_eq_zero_of_le->akS,min_le_right->akU,beq_refl->alA,eq_of_beq_eq_true->alC,add_zero->alF,mul_one->alM,eq_zero_or_pos->alR,mul_zero->alS,add_div_right->alT,le_div_iff_mul_le->alU,div_mul_le_self->alV,one_mul->alW,succ_lt_succ->alY,ne_add_one->al1,le_add_right_of_le->al2,add_left_inj->al5,gcd_comm->al8,mul_div_le->amd
open Nat.ToInt renaming of_le->ajT,mul_congr->amb,of_diseq->am1,div_congr->anZ,add_congr->an0
open Nat.le renaming intro->IS
open Nat.succ renaming inj->IN
open Ne renaming symm->eD
open Option renaming map_eq_some_iff->dh,bind_eq_some_iff->eN,isSome_iff_exists->gv,rec->hq,map->mP,isNone_iff_eq_none->IP,map_some->S4,map_eq_none_iff->akk,getD_some->ale
open Option.some renaming inj->dp,injEq->SW
open Prod renaming fst->bz,snd->ju,ext->aks
open Prod.mk renaming inj->alz
open PyProof.Rows renaming pairsOf->akz,mul_int->anB,floordiv_int->anC,gt_int->anF,is_none_gen->anG,isnot_none_gen->anH,truthy_int->anI,getItem_tuple->anJ,getItem_str->anK,len_tuple->anM,entry_tuple_getitem->anQ,args_tuple_getitem->anR,neg_int->anT
open PySem renaming wpAny->aS,wpAny_bind->a6,wpAny_pure->cn,mainGlobals->gr,starEach->gy,cellsFrom->gZ,backTo->hl,sizeLine_eq->i3,wpAny_holding->j9,wpAny_standAt->lZ,builtinsNs->mL,sysModules->mM,wpAny_mono->nO,foldedForSure->oX,constantsAlone->oY,standAt->p5,assignEach->p6,swapsWith->rz,codeAny->sX,cLine->uO,callEnvC->w8,codeAmong->zP,valueAt->zQ,typeLookup->zR,pyNext->zV,holding->zW,callWith->zZ,exec->z1,execs->z2,compareOp->C1,strKind_is->C2,pyIter->C3,wpAny_newObj_type->C6,isTrue->C7,spliced->C8,bindName->Db,letOwnedTupleGo->Dc,pushCells->De,rawInt->Df,cStatics->Ir,binaryOp->Iy,sizeLine->IB,call_meets->IC,backToKw->IT,keywordEach->IU,wpAny_execs_nil->IW,evalThenUse->IX,swappedStores->IY,Data->SP,importedModules->SQ,wpAny_truthy_bool->S2,slot_list_getitem->S3,wpAny_newList->S5,wpAny_call_entry->S6,wpAny_typeOf->S9,wpAny_field->Ta,wpAny_Name->Td,evalEach->Tf,evalArgs->Tg,attributeBase->Ti,storeName->Tk,wpAny_bindName->Tl,assignInOrder->Tm,newFunctionEnv->Tq,compEnvC->Tr,methodCallPos->Ts,assignStores->Tt,bindArgs->Tv,bltViewBooted->akg,intBits_le_64->akh,wpAny_getItem_list->akw,rangeSize_one->akx,sub_AttributeError->akA,getattributeRaised->akB,codeAny_builtin->akC,plainId_quiet->akG,wpAny_list_append_plain->akN,wpAny_sequenceKey->akW,wpAny_callSpecial?_slot->akX,wpAny_loadName_local->ak2,wpAny_loadName_free->ak3,wpAny_UnaryOp->ak4,arm_eval_BoolOp->ak5,arm_isTrue_BoolOp->ak6,wpAny_newTuple->ak7,callWith_type->alb,pushCells_keeps->alf,methodCallForm->ali,wpAny_comprehension_free->alk,wpAny_Assign_Name->alm,slot_list_setitem->aln,typeLookup_type->aly
open PySem.Around renaming under_plainId->akD
open PySem.Builtin.Dict renaming pairItems->akF,updateFrom->akI,addKeywords->anN,selfAndRest->anO
open PySem.Builtin.Int renaming intBits->Ab,intTooBig->alX
open PySem.Builtin.List renaming listTooLong->S0,listFitsIndex->anA,listSubscript?->anW
open PySem.Builtin.Range renaming rangeSize->anL
open PySem.Builtin.Slice renaming slicePlaces->II,sliceAdjust->S',sliceApplied->akT,sliceFields->anP
open PySem.Builtin.Str renaming tooLong->anx
open PySem.Builtin.Tuple renaming tupleExact->IK,tupleItemsOf->anS
open PySem.Calls renaming spliced_cons->C9,Name_function_global->C',spliced_nil->IM,loadGlobal_global->Te,callWith_builtin->Th,evalArgs_plain->ak8,callWith_function->ak9,loadGlobal_builtin->ala
open PySem.Challenge renaming rw_uf010018_11->akf
open PySem.ClsRec renaming quiet->TA
open PySem.Data.dict renaming elim->anb
open PySem.Data.fields renaming elim->am5
open PySem.Data.func renaming elim->am4
open PySem.Expr.Attribute renaming elim->anr
open PySem.Expr.BinOp renaming elim->anh
open PySem.Expr.BoolOp renaming elim->ang
open PySem.Expr.Call renaming elim->SV
open PySem.Expr.Compare renaming elim->anj
open PySem.Expr.Constant renaming elim->anf
open PySem.Expr.Dict renaming elim->anl
open PySem.Expr.IfExp renaming elim->anq
open PySem.Expr.Lambda renaming elim->anw
open PySem.Expr.List renaming elim->ank
open PySem.Expr.ListComp renaming elim->anp
open PySem.Expr.Name renaming elim->anc
open PySem.Expr.Slice renaming elim->ano
open PySem.Expr.Subscript renaming elim->anm
open PySem.Expr.Tuple renaming elim->ane
open PySem.Expr.UnaryOp renaming elim->ani
open PySem.F renaming slot_tuple_getitem->IE,slot_tuple_getattribute->S7,slot_int_rmul->akr,slot_list_extend->akP,slot_dict_get->akQ,plainAttrs_list->alc
open PySem.Flow renaming next->Tu
open PySem.Heap renaming get?_push_of_some->gw,get?_push_size->jv,lt_size->j8,Ns->ry,size_push->sW,get?_update_other->aoR,mk->I2,get?_update_self->akM,get?_none_of_le->ak0
open PySem.Heap.DictOf renaming new->akH
open PySem.Heap.IsCell renaming keeps->anU
open PySem.Heap.IsSliceOf renaming new->akZ
open PySem.IsRange renaming new->akL
open PySem.NameKind renaming free->lz,cell->Dd
open PySem.Obj renaming mapSeq->IH
open PySem.PylongRoom renaming of->anz
open PySem.Stmt.Assign renaming elim->ans
open PySem.Stmt.Expr renaming elim->anu
open PySem.Stmt.Return renaming elim->anv
open PySem.Stmt.While renaming elim->ant
open PySem.Str renaming ofString->ly,empty->ako
open PySem.Value renaming ref->IF,none->akE,int->alr
open PySem.Value.bool renaming elim->am8
open PySem.Value.int renaming elim->am7,inj->anE
open PySem.Value.none renaming elim->ana
open PySem.Value.ref renaming elim->am3
open PySem.Value.str renaming elim->am6,inj->anD
open PySem.Value.type renaming elim->am9
open PySem.W renaming tabObj->uN,kla_obj->I0,CodeHd->akm,kms_pick->ak1,kla_fn->alp,cellsFrom_some->alv
noncomputable section
noncomputable def en{a b c d e:Type}(z0:a×b×c×d×e):=z0.2.2.2.2
noncomputable def ey{a b c d e f g h i:Type}(z0:a×b×c×d×e×f×g×h×i):=z0.2.2.2.2.2.2.2.2
noncomputable def eA{a b c d e f g h i j k l m:Type}(z0:a×b×c×d×e×f×g×h×i×j×k×l×m):=z0.2.2.2.2.2.2.2.2.2.2.2.2
noncomputable def eS{a b c d e f g h i j k l m n o p q:Type}(z0:a×b×c×d×e×f×g×h×i×j×k×l×m×n×o×p×q):=z0.2.2.2.2.2.2.2.2.2.2.2.2.2.2.2.2
theorem bl.{u}{c:Prop}{h:Decidable c}(k:c){α:Sort u}{t e:α}:ite c t e=t:=if_pos k
theorem b5.{u}{c:Prop}{h:Decidable c}(k:¬c){α:Sort u}{t e:α}:ite c t e=e:=if_neg k
theorem b9{p:Prop}[h:Decidable p](k:p):decide p=true:=decide_eq_true k
theorem ct{p:Prop}[h:Decidable p](k:decide p=true):p:=of_decide_eq_true k
theorem dk{a b:Prop}(h:a)(k:¬a):b:=absurd h k
theorem dt.{u,v}{α:Sort u}{β:Sort v}{a b:α}(f:α->β)(h:a=b):f a=f b:=congrArg f h
theorem dC{α:Type _}[BEq α][LawfulBEq α]{a b:α}(h:(a==b)=true):a=b:=eq_of_beq h
theorem d8{p:Prop}[h:Decidable p](k:¬p):decide p=false:=decide_eq_false k
theorem ef{α:Type _}[BEq α][ReflBEq α](a:α):(a==a)=true:=beq_self_eq_true a
theorem ej{α:Type _}[BEq α][LawfulBEq α]{a b:α}:(a==b)=true<->a=b:=beq_iff_eq
section
variable {a b c d e f h l n r:Nat}
theorem o2{i j:Nat}(h:i≠j):n+i≠n+j:=fun q=>h (uI q)
theorem rB(h:a<n)(k:Nat):a≠n+k:=gV (an9 h (bO n k))
theorem Ac(h:n<=1000000):(n:Int)<2^63:=uJ (lw.mpr h) (by decide)
theorem Dn{n:Int}(h:n<=1000000):n<2^63:=uJ h (by decide)
theorem TV{n:Int}(h:0<=n):-(2^63)<=n:=eY (by decide) h
variable {k x y:Int}
theorem Jh(h:x.natAbs<=1000000):-1000000<=x/\x<=1000000:=⟨ajS (eY (wY x▸Ii) (lw.mpr h)),eY Ii (lw.mpr h)⟩
theorem Ad(h:x.natAbs<=1000000):-(2^62)<=x:=eY (by decide) (Jh h).1
theorem Ae(h:x.natAbs<=1000000):x<2^62:=uJ (Jh h).2 (by decide)
theorem Do(a:-(n:Int)<=x)(O:x<=n):x.natAbs<=n:=by cases x with|ofNat k=>exact lw.mp O|negSucc k=>exact lw.mp (Int.le_of_neg_le_neg a)
theorem ao9(c:a<=b-(1:Nat))(O:(0:Nat)<b):a+(1:Nat)<=b:=Nat.add_le_of_le_sub O c
theorem TX(b:a<=(1000000:Nat)):(↑a:Int)<=(1000000:Int):=ajT rfl rfl b
theorem TY(c:¬a<b)(O:a<b+(1:Nat)):a=b:=sQ (Sx O) (kC c)
theorem TZ(d:b=c)(O:a<c):a<b:=wZ O (id (gW d))
variable {P aE aZ P3 eu Q:Prop}
theorem im{a b c:Bool}(h:(a&&b&&c)=true)(k:a=true->b=true->c=true->P):P:=(gX.mp h).elim fun h c=>(gX.mp h).elim fun a b=>k a b c
theorem uT{a b c d:Bool}(h:(a&&b&&c&&d)=true)(k:a=true->b=true->c=true->d=true->P):P:=(gX.mp h).elim fun h z=>im h fun a b c=>k a b c z
theorem Ji{a b c d e:Bool}(h:(a&&b&&c&&d&&e)=true)(k:a=true->b=true->c=true->d=true->e=true->P):P:=(gX.mp h).elim fun h z=>uT h fun a b c d=>k a b c d z
theorem Dp{a b c d e f:Bool}(h:(a&&b&&c&&d&&e&&f)=true)(k:a=true->b=true->c=true->d=true->e=true->f=true->P):P:=(gX.mp h).elim fun h z=>Ji h fun a b c d e=>k a b c d e z
variable {g i j:Bool}
theorem Jj{a b c d e f:Bool}(h:(a&&b&&c&&d&&e&&f&&g)=true)(k:a=true->b=true->c=true->d=true->e=true->f=true->g=true->P):P:=(gX.mp h).elim fun h z=>Dp h fun a b c d e f=>k a b c d e f z
theorem T0{a b c d e f:Bool}(h:(a&&b&&c&&d&&e&&f&&g&&i)=true)(k:a=true->b=true->c=true->d=true->e=true->f=true->g=true->i=true->P):P:=(gX.mp h).elim fun h z=>Jj h fun a b c d e f g=>k a b c d e f g z
theorem Jk{a b c d e f:Bool}(h:(a&&b&&c&&d&&e&&f&&g&&i&&j)=true)(k:a=true->b=true->c=true->d=true->e=true->f=true->g=true->i=true->j=true->P):P:=(gX.mp h).elim fun h z=>T0 h fun a b c d e f g i=>k a b c d e f g i z
theorem T1{a b c d e f l:Bool}(h:(a&&b&&c&&d&&e&&f&&g&&i&&j&&l)=true)(k:a=true->b=true->c=true->d=true->e=true->f=true->g=true->i=true->j=true->l=true->P):P:=(gX.mp h).elim fun h z=>Jk h fun a b c d e f g i j=>k a b c d e f g i j z
theorem bt(h:aE/\aZ)(f:aE->aZ->Q):Q:=by obtain⟨a,O⟩:=h;exact f a O
theorem mV(h:aE/\aZ/\P3)(f:aE->aZ->P3->Q):Q:=by obtain⟨a,O,b⟩:=h;exact f a O b
theorem Jl(h:aE/\aZ/\P3/\eu)(f:aE->aZ->P3->eu->Q):Q:=by obtain⟨a,O,b,c⟩:=h;exact f a O b c
theorem T2{b:Prop}  (h:aE/\aZ/\P3/\eu/\b)(f:aE->aZ->P3->eu->b->Q):Q:=by obtain⟨a,O,c,d,e⟩:=h;exact f a O c d e
variable {α hu jy mW s3 Jm:Type}
theorem bK{aE:hu->Prop}(h:∃a,aE a)(f:∀a,aE a->Q):Q:=by obtain⟨a,b⟩:=h;exact f a b
theorem aw{aE aZ:hu->Prop}(h:∃a,aE a/\aZ a)(f:∀a,aE a->aZ a->Q):Q:=by obtain⟨a,b,O⟩:=h;exact f a b O
theorem fS{aE aZ P3:hu->Prop}(h:∃a,aE a/\aZ a/\P3 a)(f:∀a,aE a->aZ a->P3 a->Q):Q:=by obtain⟨a,b,O,c⟩:=h;exact f a b O c
theorem s4{aE aZ P3 eu:hu->Prop}(h:∃a,aE a/\aZ a/\P3 a/\eu a)(f:∀a,aE a->aZ a->P3 a->eu a->Q):Q:=by obtain⟨a,b,O,c,d⟩:=h;exact f a b O c d
theorem nR{aE aZ P3 eu c:hu->Prop}(h:∃a,aE a/\aZ a/\P3 a/\eu a/\c a)(f:∀a,aE a->aZ a->P3 a->eu a->c a->Q):Q:=by obtain⟨a,b,O,d,e,g⟩:=h;exact f a b O d e g
theorem hv{aE:hu->jy->Prop}(h:∃a b,aE a b)(f:∀a b,aE a b->Q):Q:=by obtain⟨a,b,c⟩:=h;exact f a b c
theorem bZ{aE aZ:hu->jy->Prop}(h:∃a b,aE a b/\aZ a b)(f:∀a b,aE a b->aZ a b->Q):Q:=by obtain⟨a,b,c,O⟩:=h;exact f a b c O
theorem db{aE aZ P3:hu->jy->Prop}(h:∃a b,aE a b/\aZ a b/\P3 a b)(f:∀a b,aE a b->aZ a b->P3 a b->Q):Q:=by obtain⟨a,b,c,O,d⟩:=h;exact f a b c O d
theorem i5{aE aZ P3 eu:hu->jy->Prop}(h:∃a b,aE a b/\aZ a b/\P3 a b/\eu a b)(f:∀a b,aE a b->aZ a b->P3 a b->eu a b->Q):Q:=by obtain⟨a,b,c,O,d,e⟩:=h;exact f a b c O d e
theorem s5{aE aZ P3 eu d:hu->jy->Prop}(h:∃a b,aE a b/\aZ a b/\P3 a b/\eu a b/\d a b)(f:∀a b,aE a b->aZ a b->P3 a b->eu a b->d a b->Q):Q:=by obtain⟨a,b,c,O,e,g,i⟩:=h;exact f a b c O e g i
theorem d5{aE:hu->jy->mW->Prop}(h:∃a b c,aE a b c)(f:∀a b c,aE a b c->Q):Q:=by obtain⟨a,b,c,d⟩:=h;exact f a b c d
theorem Jn{aE aZ:hu->jy->mW->Prop}(h:∃a b c,aE a b c/\aZ a b c)(f:∀a b c,aE a b c->aZ a b c->Q):Q:=by obtain⟨a,b,c,d,O⟩:=h;exact f a b c d O
theorem qc{aE aZ P3:hu->jy->mW->Prop}(h:∃a b c,aE a b c/\aZ a b c/\P3 a b c)(f:∀a b c,aE a b c->aZ a b c->P3 a b c->Q):Q:=by obtain⟨a,b,c,d,O,e⟩:=h;exact f a b c d O e
theorem Af{aE aZ P3 eu:hu->jy->mW->Prop}(h:∃a b c,aE a b c/\aZ a b c/\P3 a b c/\eu a b c)(f:∀a b c,aE a b c->aZ a b c->P3 a b c->eu a b c->Q):Q:=by obtain⟨a,b,c,d,O,e,g⟩:=h;exact f a b c d O e g
theorem Jo{aE aZ P3 eu e:hu->jy->mW->Prop}(h:∃a b c,aE a b c/\aZ a b c/\P3 a b c/\eu a b c/\e a b c)(f:∀a b c,aE a b c->aZ a b c->P3 a b c->eu a b c->e a b c->Q):Q:=by obtain⟨a,b,c,d,O,g,i,j⟩:=h;exact f a b c d O g i j
theorem o3{aE:hu->jy->mW->s3->Prop}(h:∃a b c d,aE a b c d)(f:∀a b c d,aE a b c d->Q):Q:=by obtain⟨a,b,c,d,e⟩:=h;exact f a b c d e
theorem T3{aE aZ:hu->jy->mW->s3->Prop}(h:∃a b c d,aE a b c d/\aZ a b c d)(f:∀a b c d,aE a b c d->aZ a b c d->Q):Q:=by obtain⟨a,b,c,d,e,O⟩:=h;exact f a b c d e O
theorem Jp{aE aZ P3:hu->jy->mW->s3->Prop}(h:∃a b c d,aE a b c d/\aZ a b c d/\P3 a b c d)(f:∀a b c d,aE a b c d->aZ a b c d->P3 a b c d->Q):Q:=by obtain⟨a,b,c,d,e,O,g⟩:=h;exact f a b c d e O g
theorem T4{aE aZ P3 eu:hu->jy->mW->s3->Prop}(h:∃a b c d,aE a b c d/\aZ a b c d/\P3 a b c d/\eu a b c d)(f:∀a b c d,aE a b c d->aZ a b c d->P3 a b c d->eu a b c d->Q):Q:=by obtain⟨a,b,c,d,e,O,g,i⟩:=h;exact f a b c d e O g i
theorem Dq{aE aZ P3 eu g:hu->jy->mW->s3->Prop}(h:∃a b c d,aE a b c d/\aZ a b c d/\P3 a b c d/\eu a b c d/\g a b c d)(f:∀a b c d,aE a b c d->aZ a b c d->P3 a b c d->eu a b c d->g a b c d->Q):Q:=by obtain⟨a,b,c,d,e,O,i,j,k⟩:=h;exact f a b c d e O i j k
theorem Jq{aE aZ P3 eu:hu->jy->mW->s3->Jm->Prop}(h:∃a b c d e,aE a b c d e/\aZ a b c d e/\P3 a b c d e/\eu a b c d e)(f:∀a b c d e,aE a b c d e->aZ a b c d e->P3 a b c d e->eu a b c d e->Q):Q:=by obtain⟨a,b,c,d,e,g,O,i,j⟩:=h;exact f a b c d e g O i j
theorem T5{aE aZ P3 eu i:hu->jy->mW->s3->Jm->Prop}(h:∃a b c d e,aE a b c d e/\aZ a b c d e/\P3 a b c d e/\eu a b c d e/\i a b c d e)(f:∀a b c d e,aE a b c d e->aZ a b c d e->P3 a b c d e->eu a b c d e->i a b c d e->Q):Q:=by obtain⟨a,b,c,d,e,g,O,j,k,l⟩:=h;exact f a b c d e g O j k l
theorem nS(h:x.natAbs<=n)(k:n<=1000):-(2^64)<x/\x<2^64:=
 have u:=ax h k
 ⟨Ij (by decide) (ajS (eY Ii (lw.mpr (wY x▸u)))),uJ (eY Ii (lw.mpr u)) (by decide)⟩
theorem fr(h:l<=r)(v:a+r<=b+l):a<=b:=Nat.le_of_add_le_add_right (ax (fv h a) v)
theorem ff(h:l<=r)(v:r+1<=l):False:=kD _ (ax v h)
theorem l4{a b l r:Int}(h:l<=r)(v:a+r<=b+l):a<=b:=Int.le_of_add_le_add_right (eY (Sy h a) v)
theorem aoE{l r:Int}(h:l<=r)(v:r+1<=l):False:=Int.lt_irrefl _ (eY v h)
theorem gK(h:1+a<=c)(k:1+b<=c):1+max a b<=c:=(Ik a b).elim (fun e=>(Nat.max_eq_right e).symm▸k) fun e=>(Nat.max_eq_left e).symm▸h
theorem a3{p:Prop}(h:¬p->False):p:=j6 h
theorem Ag(c:a<b):a+1<=b:=Il c
theorem T6(c:a+b<=1000000):a+b<=16777216:=ax c (by decide)
theorem Jr{a:Int}(b:a<=1000):a.toNat<=1000:=rn.mpr b
theorem T7{a:Int}(c:a.toNat<b)(O:¬a<0)(d:(0<=a->(↑b:Int)<=a)):False:=dk ((Sz (hR.mp O)).mp c) (hR.mpr (d (hR.mp O)))
theorem Js{a b:Int}(c:b<a):(↑(a-b).toNat:Int)-(↑0:Int)=a-b:=(CR _).trans (zJ (ajU (gY c)))
theorem Jt{a b:Int}(c:¬b<a):(↑(a-b).toNat:Int)-(↑0:Int)=0:=(CR _).trans (dt Int.ofNat (ajV (Int.sub_nonpos_of_le (hR.mp c))))
theorem s7(b:a<=1000000):a<=16777216:=ax b (by decide)
theorem Ju(d:b=c)(O:a<c):a<b:=wZ O (id (gW d))
theorem Jv(c:b<=1000000)(O:a=b):a<=16777216:=ax (bx O) (ax c (by decide))
theorem Jw(b:a<20):a<30:=an9 b (by decide)
theorem Jx(d:b<1000)(O:c=b)(e:c=a):a<=16777216:=ax (bx (e.symm.trans O)) (ax (et d) (by decide))
theorem Dr(c:b<a):a-(b+1)<a-b:=Nat.sub_succ_lt_self a b c
theorem Jy(c:a+2*(b+1)<890):a<1000:=fR (bO a _) (jt c (by decide))
theorem i6(b:a<=1000):a<=1000000:=ax b (by decide)
theorem Jz(c:a<b):(↑a:Int)<(↑b:Int):=kE.mpr c
theorem T8{a b:Int}(c:0<=b/\b<8)(O:0<=a/\a<1+b):a.toNat+((1+b-1-a).toNat+1)<=100:=ax (aG (rn.mpr (eY (uK (ro 1 b▸O.2)) (gY c.2))) (w0 (rn.mpr (eY (by rw[ro 1 b,zK];exact SA b O.1) (gY c.2))))) (by decide:8+(8+1)<=100)
theorem JA{a:Int}(b:(0:Int)<=a/\a<(8:Int)):a.toNat+(1:Nat)<=(100:Nat):=lx (rn.mpr (eY (gY b.2) (by decide:(8:Int)<=(99:Nat)))) 1
theorem JB{a:Int}(b:0<=a/\a<8):0<1+a:=Int.add_pos_of_pos_of_nonneg (by decide) b.1
theorem Ds{a:Int}(b:0<=a/\a<8):(1+a).toNat=a.toNat+1:=by rw[ro,SD b.1 (by decide)];rfl
theorem Dt{n:Int}(h:x % n=y % n):∃k,x-y=n*k:=Int.dvd_of_emod_eq_zero (Int.emod_eq_emod_iff_emod_sub_eq_zero.mp h)
theorem Du{m:Nat}(c:a<m)(O:b<m)(h:(a:Int)-b=m*k):a=b:=SE.mp (by
 rw[<- ajW (rp a) (kE.mpr c),Im.mp h,Int.add_mul_emod_self_left];exact ajW (rp b) (kE.mpr O))
theorem T9(c:a<26)(O:b<26)(h:5*((a:Int)-b)=26*k):a=b:=Du (k:=21*k-4*((a:Int)-b)) c O (by
 show _=(26:Int)*_;rw[w1,uL,<- h,<- sR,<- sR,<- zL];exact(w2 _).symm)
theorem T'(c:a<26)(O:b<26)(h:(a:Int)-b=26*k):a=b:=Du c O h
theorem Ua(c:a<8)(O:b<8)(h:3*((a:Int)-b)=8*k):a=b:=Du (k:=3*k-1*((a:Int)-b)) c O (by
 show _=(8:Int)*_;rw[w1,uL,<- h,<- sR,<- sR,<- zL];exact(w2 _).symm)
theorem Ub(a:0<=x)(O:0<=y)(h:(1+x).toNat=(1+y).toNat):x=y:=by rw[SD (by decide) a,SD (by decide) O]at h;rw[<- zJ a,<- zJ O,uI h]
theorem JC{c:Int}(d:a<26)(O:b<26)(e:(c+5*(↑a:Int)) % 26=(c+5*(↑b:Int)) % 26):a=b:=(Dt e).elim fun V q=>T9 d O (by rw[<- q,w1,ajX])
theorem JD{c:Int}(d:a<26)(O:b<26)(e:(c+(↑a:Int)-7) % 26=(c+(↑b:Int)-7) % 26):a=b:=(Dt e).elim fun V q=>T' d O (by rw[<- q,w3 (a:=c+a),w3 (a:=c+b),ajY,ajX])
theorem JE{b:Int}(c:a<(26:Nat))(O:¬a<(8:Nat))(d:(b+(↑a:Int)-(7:Int)) % (26:Int)=b % (26:Int)):False:=O (JD (b:=7) c (by decide) (d.trans (by rw[show b+((7:Nat):Int)-7=b from zK b 7]))▸by decide)
theorem JF{a:Int}(b:0<=a/\a<8):a.toNat<=8:=rn.mpr (gY b.2)
theorem JG{a:Int}(b:0<=a/\a<8):(-1000:Int)<=a:=eY (by decide) b.1
theorem JH{a:Int}(b:0<=a/\a<8):a<=1000:=eY (gY b.2) (by decide)
theorem Uc{a b:Int}(c:0<=a/\a<8)(O:0<=b/\b<1+a):(1+a-1-b).toNat<=8:=rn.mpr (eY (by rw[ro 1 a,zK];exact SA a O.1) (gY c.2))
theorem JI{a b:Int}(c:0<=b/\b<8)(O:0<=a/\a<1+b):a.toNat<=8:=rn.mpr (eY (uK (ro 1 b▸O.2)) (gY c.2))
theorem Ud{a b:Int}(c:0<=b/\b<1+a):(-1000:Int)<=1+a-1-b:=eY (by decide) (ajU (Int.le_sub_one_of_lt c.2))
theorem Ue{a b:Int}(c:0<=a/\a<8)(O:0<=b/\b<1+a):1+a-1-b<=1000:=eY (by rw[ro 1 a,zK];exact SA a O.1) (eY (gY c.2) (by decide))
theorem jz(c:b<=1000)(O:a<b):a<=1000000:=ax (et O) (ax c (by decide))
theorem o4(b:a<=1000):(↑a:Int).natAbs<=1000000:=ax b (by decide)
theorem Uf{a:Int}(b:0<=a/\a<26):0<=a/\a<=1000000:=⟨b.1,eY (gY b.2) (by decide)⟩
theorem JJ{a:Int}(b:0<=a/\a<26):a.toNat<26:=(Sz b.1).mpr b.2
theorem Ah{a:Int}(b:0<=a)(O:a<0):False:=hR.mpr b O
theorem Ug{a b:Int}{d e:Int}(f:0<=b)(O:b<d)(g:a=e+b)(i:(↑c:Int) = -e)(j:e<=d*(-1:Int)):a.natAbs+b.natAbs=c/\a<0:=by
 have h:a<0:=by rw[g];exact uJ (Int.add_le_add_right j b) (by rw[SF,oU,ro,<- w3];exact Int.sub_neg_of_lt O)
 exact⟨SE.mp (by rw[ajZ,Io (gY h),zM f,i,g,Int.neg_add,aj0]),h⟩
theorem Uh{a b c:Int}(d:b+c=a):a-b=c:=Im.mpr (id (gW d))
theorem Ui{a:Int}:0<1+a.natAbs:=aj1 (1+a.natAbs)
theorem JK(d:c<=b)(O:a<c):¬a=b:=gV (an9 O d)
theorem uU(d:c<=b)(O:a<c):a≠b:=gV (an9 O d)
theorem JL{a:Int}:0-(0-a)=a:=Int.sub_sub_self 0 a
theorem JM{a:Int}:(-1:Int)*a=0-a:=(Int.neg_one_mul a).trans (CS a).symm
theorem JN{a:Int}:a=a+0+0:=aj2.mp rfl
theorem Uj{a b c d:Int}:a+b+(c+d)=a+c+(b+d):=by rw[w4,w4,aj3 b]
theorem Dv(c:a<b):a<b+1:=CT 1 c
theorem Dw(c:b<=1000)(O:a<=1000):a+b<=1000000:=ax (aG O c) (by decide)
theorem JO(c:b<a):¬a=b:=aj4 c
theorem JP{a:Int}(b:a<0):0<0-a:=Int.sub_pos_of_lt b
theorem Dx(c:a<b):a<=b:=et c
theorem rC(c:b<a):a≠b:=kF c
theorem JQ(c:¬a=b):(↑a:Int)≠(↑b:Int):=am1 rfl rfl c
theorem Ai(c:b<=1000)(O:a<=b):a<=1000000:=ax O (ax c (by decide))
theorem JR(a b c:Nat):¬a+(3:Nat)+b+c<a+(2:Nat)+b:=gq.mpr (ax (lx (nK _) b) (bO _ c))
theorem JS(a b c:Nat):¬a+(3:Nat)+b+c<a+(2:Nat):=gq.mpr (ax (ax (nK _) (bO _ b)) (bO _ c))
theorem JT{i:Nat}(h:i<5):b+i<b+(5:Nat)+c+d+d:=an9 (oV h b) (ax (bO _ c) (ax (bO _ d) (bO _ d)))
theorem JU(c:a<b):a<b+2:=CT 2 c
theorem JV:¬a+4+b+c+d<a+3+b+c:=gq.mpr (ax (lx (lx (nK _) b) c) (bO _ d))
theorem JW:¬a+4+b+c+d=a+2+b:=kF (an9 (oW (oV (by decide) a) b) (ax (bO _ c) (bO _ d)))
theorem JX:¬a+4+b+c+d<a+2+b:=gq.mpr (ax (lx (fv (by decide) a) b) (ax (bO _ c) (bO _ d)))
theorem JY:¬a+4+b+c+d<a+2:=gq.mpr (ax (ax (fv (by decide) a) (bO _ b)) (ax (bO _ c) (bO _ d)))
theorem JZ(d:b<c):a+2+b<a+2+c:=oV d (a+2)
theorem J0:a<a+1:=SG a
theorem Uk(e:c<d+1):a+3+b+c<a+4+b+d:=an9 (oV e _) (bx (by rw[kG d,<- eK,uM (a+3) b]))
theorem xf(c:b<a):a+1≠b:=kF (j7 c)
theorem J1:a+1≠0:=eD (Nat.zero_ne_add_one a)
theorem J2(c:a<=b+1)(O:¬a=b+1):a<=b:=Sx (CU c O)
theorem Aj(d:c+a<b):a<b:=aj5 d
theorem J3(d:a+b<c):a+(b+1)<=c:=Il d
theorem J4(c:a<b):(↑a:Int).natAbs<b:=SH c
theorem J5(d:b<=1000)(O:c+a<b):a<1001:=SI (ax (ax (pZ a c) (et O)) d)
theorem J6(e:b+3+c+d<a):a+1≠b:=kF (j7 (fR (ax (ax (bO b 3) (bO _ c)) (bO _ d)) e))
theorem Ul:(↑(a+b):Int)-(↑a:Int)=(↑b:Int):=Uh rfl
theorem J7(b:0<a):(↑a:Int)≠0:=SJ.mpr b
theorem Um{a:Int}(b:0<=a/\a<3):a=0\/a=1\/a=2:=by
 obtain⟨n,rfl⟩:=zN b.1;have h:n<3:=kE.mp b.2;cases n with
 |zero=>exact .inl rfl
 |succ n=>cases n with
  |zero=>exact .inr (.inl rfl)
  |succ n=>cases n with
   |zero=>exact .inr (.inr rfl)
   |succ n=>exact dk h (aj6 (pZ 3 n))
theorem Un(n:Int):(if n<0 then -n else n)=(n.natAbs:Int):=by
 split
 ·exact(Io (gY (by assumption))).symm
 ·exact(zM (hR.mp (by assumption))).symm
theorem Uo{b c d:Int}(e:b.natAbs=a+(b-d).natAbs):a<=b.natAbs+c.natAbs:=fr (bx e.symm) (by simp +arith)
theorem Up{b c d e f:Int}(g:(b-d).natAbs<c.natAbs/\0<=e/\(b.natAbs=a+(b-d).natAbs\/b.natAbs+(b-d).natAbs=a)/\(0<=f->b.natAbs=a+(b-d).natAbs)):a<=b.natAbs+c.natAbs:=g.2.2.1.elim (fun h=>fr (bx h.symm) (by simp +arith)) fun h=>fr (aG g.1 (bx h.symm)) (by simp +arith)
theorem J8{a:Int}(b:a<0):0 < -a:=Int.neg_pos_of_neg b
theorem Uq{a:Int}(b:a≠0)(O:¬0<a):a<0:=(aj7 b).elim (fun c=>l4 c (by simp +arith)) fun c=>l4 (sS (SK (hR.mp O) (by decide:(0:Int)<=2)) c) (by simp +arith)
theorem J9:0<1+a:=aj1 (1+a)
theorem xg{a:Int}(b:a≠0):0<a.natAbs:=CV.mpr b
theorem Ur{a:Int}{d e:Int}(f:d+a=e)(O:d.natAbs<=c)(g:e.natAbs<=b):a.natAbs<=b+c:=by rw[show a=e-d by rw[<- f,ro d,zK]];exact ax (zO e d) (aG g O)
theorem J'{a b c:Int}(d:b.natAbs=1)(O:a.natAbs<c.natAbs)(e:c.natAbs<=b.natAbs):a.natAbs=0:=sQ (fr (aG (aG (bx d) O) e) (by simp +arith)) (by simp +arith)
theorem Ka{c:Int}(d:1<=b)(O:c.natAbs=b)(e:c.natAbs<=a):0<a:=fr (aG (aG d (bx O.symm)) e) (by simp +arith)
theorem Kb{b:Int}(d:b≠0)(O:b.natAbs=c)(e:c<=a):0<a:=an9 (O▸CV.mpr d) e
theorem Dy{a:Int}(b:a≠0):1<=a.natAbs:=CV.mpr b
theorem Kc{b:Int}(c:1<=b.natAbs)(O:b.natAbs<=a):0<a:=an9 c O
theorem s8(c:b<a):¬a=b:=aj4 c
theorem Kd(c:a=b)(O:b<a):False:=ff (aG (bx c) O) (by simp +arith)
theorem Ke(c:a=b)(O:a<b):False:=ff (aG (bx c.symm) O) (by simp +arith)
theorem Us(f:a<d)(O:d<b)(g:d=c):(a<=a/\a<b)/\a≠c:=⟨⟨by simp +arith,fr (aG f O) (by simp +arith)⟩,fun e=>ff (aG (aG f (bx g)) (bx e.symm)) (by simp +arith)⟩
theorem Kf:a<=a+b+7:=by simp +arith
theorem Kg(b:1<=a):1+a<=a*2:=fr b (by simp +arith)
theorem Kh:a<=a+3*b+8:=by simp +arith
theorem Ki(c:a+1<=b):a<b:=SH c
theorem Kj(c:a+1<=b):a<=b:=rq c
theorem s9(c:a<b):a<b+1:=CT 1 c
theorem Kk(c:a<b+1)(O:¬a=b):a<b:=(sT O).elim (fun d=>fr d (by simp +arith)) fun d=>fr (aG (cE 2 c) d) (by simp +arith)
theorem Ut(c:¬b+1<=a)(O:¬a=b):a<b:=(sT O).elim (fun d=>fr d (by simp +arith)) fun d=>fr (aG (cE 2 (SM c)) d) (by simp +arith)
theorem Uu(d:a<=c):a+8*b<=c+8*(b+1):=fr d (by simp +arith)
theorem Kl:a<=2*a+6:=by simp +arith
theorem Km(d:c<=b+1)(O:a<c):a<=b:=fr (aG d O) (by simp +arith)
theorem Kn(c:b<=a)(O:1<=b):a=a-1+1:=(aj8 (ax O c)).symm
theorem Uv:a<1+max a b:=fr (CW _ _) (by simp +arith)
theorem Uw:a<1+max b a:=fr (CX _ _) (by simp +arith)
theorem uV(b:a<=1000):a<=1000000:=fr b (by simp +arith)
theorem Ux{g:Nat}(i:a<=2*e)(O:b<=2*f)(j:c<=2*g)(k:d<=2*h):a+b+c+d+(0+1)+(0+1)<=2*(e+(f+(g+h))+1):=fr (aG (aG (aG i O) j) k) (by simp +arith)
theorem Uy(e:a<=2*c)(O:b<=2*d):a+b+(0+1)<=2*(c+d+1):=fr (aG e O) (by simp +arith)
theorem Uz(e:a<=2*c)(O:b<=2*d):a+b<=2*(c+d+1):=fr (aG e O) (by simp +arith)
theorem Ko(b:a<64):a<=1000000:=fr b (by simp +arith)
theorem Kp(c:b<64)(O:a<b):a<64:=jt O c
theorem Kq{a b c d:Int}:a+b+(c+d)=a+c+(b+d):=by simp +arith
theorem Kr(d:b<c-a):a+b<c:=aj9 d
theorem Ks(d:a<b-c):a<b:=an9 d (kH b c)
theorem Kt(d:c<=b)(O:a<c):a<b:=an9 O d
theorem Ku(d:a<c):a-b<c:=Nat.sub_lt_of_lt d
theorem Ak(c:b+a<60):a<=1000000:=fr c (by simp +arith)
theorem Al(d:b<c):a+b<a+c:=oV d a
theorem xh(d:b+c<60)(O:a<c):a<64:=fr (aG d O) (by simp +arith)
theorem qd(d:a<b):a<b+c:=CT c d
theorem Kv(d:b+c<60)(O:a<b):a<=1000000:=fr (aG d O) (by simp +arith)
theorem Dz(b:a<60):a<=1000:=fr b (by simp +arith)
theorem Kw:¬a+b<a:=fun e=>ff e (by simp +arith)
theorem UA(g:a<b+c+d+e+f):a<b+(c+d+(e+f)):=fr g (by simp +arith)
theorem UB(g:a<b+c+d+e):a<b+(c+d+(e+f)):=fr g (by simp +arith)
theorem UC(e:a+c+d<=b):a<=b:=fr e (by simp +arith)
theorem UD(g:a<b+c+d):a<b+(c+d+(e+f)):=fr g (by simp +arith)
theorem Am(d:a+c<=b):a<=b:=aka d
theorem UE(g:a<b+c):a<b+(c+d+(e+f)):=fr g (by simp +arith)
theorem UF(e:a<b+c+d):a<b+(c+d):=fr e (by simp +arith)
theorem Kx(e:a<b+c):a<b+(c+d):=fr e (by simp +arith)
theorem Ky(b:0<a):(↑a:Int)≠0:=SJ.mpr b
theorem Kz(b:0<a):0-(↑a:Int)≠0:=fun e=>dk (am2 (Int.neg_eq_zero.mp ((CS _).symm.trans e))) (kF b)
theorem KA:0<=(↑a:Int):=rp a
theorem An{a b:Int}:a=a+b*1-b:=by simp +arith
theorem KC:a+20+20*b<=a+20*(b+1):=by simp +arith
theorem ta{a:Int}(c:a<=(↑(b+1):Int)):a-1<=(↑b:Int):=Int.sub_right_le_iff_le_add.mpr c
theorem KD(c:a<=16)(O:b<=16):a+b<=1000000:=fr (aG c O) (by simp +arith)
theorem KG(b:a<=2):a-1<=2:=ax (kH a 1) b
theorem KH:a+20*(b-1)<=a+20*(b+1):=fv (cE 20 (ax (kH b 1) (nK b))) a
theorem KI:20+20*a<=b+20*(a+1):=by simp +arith
theorem KJ{a:Int}(c:a<=(↑(b+1):Int)):a-2<=(↑(b-1):Int):=by
 cases b with
 |zero=>exact eY (SN c 2) (by decide)
 |succ n=>exact eY (SN c 2) (aoC (zK (n:Int) 2))
theorem UG:a+(b-(b-1))+(b-1)+5=a+b+5:=by rw[eK a,aj8 (kH b 1)]
theorem DA:a+20*b<=a+20*(b+1):=by simp +arith
theorem KL{a:Int}(b:a=7):¬a<3:=fun e=>aoE (sS (aoC b.symm) e) (by simp +arith)
theorem UH(g:a<=e)(O:b<=e)(h:c<=f)(i:d<=f)(j:f<=e):a+b+(c+d)<=e*4:=fr (aG (aG (aG (aG g O) h) i) (cE 2 j)) (by simp +arith)
theorem DB(d:a<=c)(O:b<=c):a+b<=c*4:=fr (aG d O) (by simp +arith)
theorem DC(c:a<=b):a<=b*4:=fr c (by simp +arith)
theorem UI{a:Int}(b:0<=a/\a<6):a=0\/a=1\/a=2\/a=3\/a=4\/a=5:=by obtain⟨n,rfl⟩:=zN b.1;exact(by decide:∀n:Nat,n<6->((n:Int)=0\/(n:Int)=1\/(n:Int)=2\/(n:Int)=3\/(n:Int)=4\/(n:Int)=5)) n (kE.mp b.2)
theorem DD:¬(↑a:Int)<0:=Int.not_ofNat_neg a
theorem UJ:min (↑a:Int) (↑b:Int)=(↑(min a b):Int):=by
 rcases Ik a b with h|h
 ·rw[Ip h,Int.min_eq_left (lw.mpr h)]
 ·rw[SO h,Int.min_eq_right (lw.mpr h)]
theorem KN(d:c=b)(O:a<c):a<b:=fr (aG (bx d) O) (by simp +arith)
theorem DE(b:a<=64000000):a+1+a<=130000000:=fr (cE 2 b) (by simp +arith)
theorem KO{a:Int}:(0-a).natAbs=a.natAbs:=by rw[CS,wY]
theorem KP(c:b<=1000)(O:a<=64000000):10+a+b+a<=130000000:=fr (aG c (cE 2 O)) (by simp +arith)
theorem DF(b:1<=a/\a<=100):a / 2<=1000000:=ax (akb a 2) (ax b.2 (by decide))
theorem KQ(b:1<=a/\a<=100):a<=1000000:=fr b.2 (by simp +arith)
theorem KR(b:a<=100):a<=1000000:=fr b (by simp +arith)
theorem xi(d:b=c)(O:a<c):a<b:=wZ O (id (gW d))
theorem KS(d:a<c)(O:c<b):a<b:=jt d O
theorem UK(g:c<=1000)(O:d<=e)(h:e=37748730)(i:b<=c)(j:a<=f)(k:f<=d):a+8*b+5<=37800000:=fr (aG (aG (aG (aG (aG (cE 8 g) O) (bx h)) (cE 8 i)) j) k) (by simp +arith)
theorem KU{a b:Int}:(a-b).natAbs<=a.natAbs+b.natAbs:=zO a b
theorem KV(d:c=b+1)(O:a<c)(e:¬a<b):a=b:=sQ (fr (aG (bx d) O) (by simp +arith)) (fr (kC e) (by simp +arith))
theorem KW(d:c<b)(O:a<=c):a<b:=fR O d
theorem UL(c:a<=b):a<=b/\2*a<=2*b:=⟨fr c (by simp +arith),fr (cE 2 c) (by simp +arith)⟩
theorem UM(c:a<=b):2*a+6<=2*b+6/\2*a<=2*b:=⟨fr (cE 2 c) (by simp +arith),fr (cE 2 c) (by simp +arith)⟩
theorem UN(c:a<=b):4*a+12<=4*b+12/\4*a<=4*b:=⟨fr (cE 4 c) (by simp +arith),fr (cE 4 c) (by simp +arith)⟩
theorem UO(c:a<=b):4*a+18<=4*b+18/\4*a<=4*b:=⟨fr (cE 4 c) (by simp +arith),fr (cE 4 c) (by simp +arith)⟩
theorem KX(c:a<=b*0):a<=1:=akc c
theorem UP(g:a+(b+c+(d+e))<=f):a+b+c+d+e<=f:=fr g (by simp +arith)
theorem KY(g:a+(b+c+(d+f))<=e):a+b+c+d<=e:=fr g (by simp +arith)
theorem UQ(g:a+(b+c+(e+f))<=d):a+b+c<=d:=fr g (by simp +arith)
theorem UR(g:a+(b+d+(e+f))<=c):a+b<=c:=fr g (by simp +arith)
theorem Ao:0<=66:=d4 66
theorem Ap(e:a+(b+c)<=d):a+b+c<=d:=fr e (by simp +arith)
theorem aoO(e:a+(b+d)<=c):a+b<=c:=fr e (by simp +arith)
theorem KZ(d:c<=b)(O:a+1<=c):a<b:=an9 O d
theorem DG(e:d<=c)(O:b+1<=d):a+b<a+c:=fr (aG e O) (by simp +arith)
theorem US{g i j k:Nat}(l:a<=e+1/\f<=j)(O:b<=e+1/\g<=j)(m:c<=e-1+1/\h<=k)(n:d<=e-1+1/\i<=k)(o:1<=j)(p:k<=j):1+max (max a b) (max c d)<=e+1+1/\f+(g+(h+i))+1<=j*5:=⟨gK (gK (fr l.1 (by simp +arith)) (fr O.1 (by simp +arith))) (gK (fr (ax m.1 (w0 (kH e 1))) (by simp +arith)) (fr (ax n.1 (w0 (kH e 1))) (by simp +arith))),fr (aG (aG l.2 O.2) (aG (aG m.2 n.2) (aG o (cE 2 p)))) (by simp +arith)⟩
theorem K0(c:b=37748730)(O:a<=18874362):2*a<=b:=fr (aG (bx c.symm) (cE 2 O)) (by simp +arith)
theorem K1:0+a<=a:=by simp +arith
theorem UT(b:a<=3):a=0\/a=1\/a=2\/a=3:=(by decide:∀a,a<4->(a=0\/a=1\/a=2\/a=3)) a (SI b)
theorem K2{g:Nat}(h:b+(c+e)<=d)(O:f<=e/\g+1=2*e/\1<=e):a+(b+c)<a+d:=fr (aG h O.2.2) (by simp +arith)
theorem K3{g:Nat}(h:b+(d+e)<=c)(O:f<=e/\g+1=2*e/\1<=e):a+b<a+c:=fr (aG h O.2.2) (by simp +arith)
theorem K4(f:d<=c)(O:a+(b+1+(e+b))<=d):a+b<c:=fr (aG f O) (by simp +arith)
theorem K5(g:c<=b)(O:d+(e+1+(f+e))<=c)(h:a<d+(e+1+(f+e))):a<b:=fr (aG (aG g O) h) (by simp +arith)
theorem K6(b:a+1<=3):a<=3:=rq b
theorem K7(e:a+(b+1+(c+b))<=d):a+b+1+c<=d:=fr e (by simp +arith)
theorem UU(b:a+1<=3):a=0\/a=1\/a=2:=(by decide:∀a,a<3->(a=0\/a=1\/a=2)) a b
theorem Aq{a:Int}(b:a<=13/\0<=a):(a-10).toNat<=3:=rn.mpr (SN b.1 10)
theorem K8{a:Int}(c:a=10\/a=13):a<=13/\0<=a:=⟨c.elim (fun b=>l4 (aoC b) (by simp +arith)) fun b=>l4 (aoC b) (by simp +arith),c.elim (fun b=>l4 (aoC b.symm) (by simp +arith)) fun b=>l4 (aoC b.symm) (by simp +arith)⟩
theorem K9(b:a<5):a<=1000000:=fr b (by simp +arith)
theorem xk(b:a<5):a<26:=fr b (by simp +arith)
theorem UV{a:Int}(b:0<=a/\a<2):a=0\/a=1:=by obtain⟨n,rfl⟩:=zN b.1;exact(by decide:∀n:Nat,n<2->((n:Int)=0\/(n:Int)=1)) n (kE.mp b.2)
theorem UW{a:Int}(b:0<=a/\a<4):a=0\/a=1\/a=2\/a=3:=by obtain⟨n,rfl⟩:=zN b.1;exact(by decide:∀n:Nat,n<4->((n:Int)=0\/(n:Int)=1\/(n:Int)=2\/(n:Int)=3)) n (kE.mp b.2)
theorem La(b:a<4):a<26:=fr b (by simp +arith)
theorem UX(b:a=61\/a=48)(O:97<=a):False:=b.elim (fun c=>ff (aG O (bx c)) (by simp +arith)) fun c=>ff (aG O (bx c)) (by simp +arith)
theorem Lb(d:c<=49)(O:a<b+c):a-b<64:=fR (Iq.mpr (et O)) (fR d (by decide))
theorem Ar(b:a<=49):a<=1000000:=fr b (by simp +arith)
theorem Lc(c:b<=49)(O:a<b):a<64:=fr (aG c O) (by simp +arith)
noncomputable def ch{α:Type}(P:α->Prop)[h:Nonempty α]:α:=akd fun a=>¬P a
theorem tb{P:α->Prop}{h:Nonempty α}(x:P (@ch α P h))(a:α):P a:=j6 fun q=>@ake α (fun a=>¬P a) ⟨a,q⟩ x
theorem dS{x:α}(h:none=some x):P:=nomatch h
theorem l5(h:false=true):P:=nomatch h
theorem As(h:true=false):P:=nomatch h
theorem eO{x:α}(h:x∈[]):P:=nomatch h
end
set_option maxRecDepth 100000
section
open PySem PyProof.Rows PySem.SeqAt PySem.Calls PySem.W
noncomputable def At(v:Value):Option {a:Addr // v=.ref a}:=if h:v.ctorIdx=10 then am3 (motive:=fun v=>Option {a:Addr // v=.ref a}) v h fun a=>some ⟨a,rfl⟩ else none
noncomputable def UY(v:SP):Option {f:FuncData // v=.func f}:=if h:v.ctorIdx=7 then am4 (motive:=fun v=>Option {f:FuncData // v=.func f}) v h fun f=>some ⟨f,rfl⟩ else none
noncomputable def Ld(v:SP):Option {aP:Array Value // v=.fields aP}:=if h:v.ctorIdx=9 then am5 (motive:=fun v=>Option {aP:Array Value // v=.fields aP}) v h fun aP=>some ⟨aP,rfl⟩ else none
noncomputable def DH(v:Value):Option {q:Str×Tok // v=.str q.1 q.2}:=if h:v.ctorIdx=6 then am6 (motive:=fun v=>Option {q:Str×Tok // v=.str q.1 q.2}) v h fun x t=>some ⟨(x,t),rfl⟩ else none
noncomputable def Au(v:Value):Option {q:Int×Tok // v=.int q.1 q.2}:=if h:v.ctorIdx=4 then am7 (motive:=fun v=>Option {q:Int×Tok // v=.int q.1 q.2}) v h fun x t=>some ⟨(x,t),rfl⟩ else none
noncomputable def UZ(v:Value):Option {b:Bool // v=.bool b}:=if h:v.ctorIdx=3 then am8 (motive:=fun v=>Option {b:Bool // v=.bool b}) v h fun b=>some ⟨b,rfl⟩ else none
noncomputable def U0(v:Value):Option {x:String // v=.type x}:=if h:v.ctorIdx=8 then am9 (motive:=fun v=>Option {x:String // v=.type x}) v h fun x=>some ⟨x,rfl⟩ else none
noncomputable def U1(v:Value):Option {u:Unit // v=.none}:=if h:v.ctorIdx=0 then ana (motive:=fun v=>Option {u:Unit // v=.none}) v h (some ⟨(),rfl⟩) else none
def U2(h:Heap)(k x:Str):Option FuncData:=(h.clsAt gr k).bind fun p=>(h.nsMap p.2.2.ns x).bind fun v=>(At v).bind fun f=>(h.get? f.1).bind fun o=>(UY o.data).map (·.1)
def xl(h:Heap)(k x:Str):Option (Addr×Obj×Array Value):=(U2 h k x).bind fun fd=>(At fd.code).bind fun c=>(h.get? c.1).bind fun fg=>(Ld fg.data).map fun vs=>(c.1,fg,vs.1)
def ao0(vs:Array Value):Bool:=(DH (vs.getD 18 .none)).isSome&&((Au (vs.getD 7 .none)).isSome&&((UZ (vs.getD 9 .none)).isSome&&(Au (vs.getD 10 .none)).isSome))
noncomputable def U3(c P:Addr):Bool:=decide (c≠P)&&(decide (P≠gr)&&(decide (P≠mL)&&(decide (P≠Ir)&&decide (P≠mM))))
def Lf(o:Obj):Bool:=(U1 o.cls).isSome&&(o.dict.isNone&&(decide (o.slots.size=0)&&(Ld o.data).any fun aP=>decide (aP.1.size=0)))
def DI(h:Heap)(k x:Str):Bool:=(xl h k x).any fun p=>(p.2.2[11]?).any fun v=>(At v).any fun P=>(h.get? P.1).any fun o=>((U0 p.2.1.cls).any fun x=>x.1 == "code")&&(ao0 p.2.2&&(U3 p.1 P.1&&Lf o))
def DJ(v:Value):Option Str:=(DH v).map fun q=>q.1.1
def DK(v:Value):Option Int:=(Au v).map fun q=>q.1.1
set_option genInjectivity true in
structure uW where
 cls:Value
 dict:Option Addr
 slots:Nat
 apart:Bool
 es:List (Int×Option Str×Option Int)
noncomputable def U4(v:SP):Option {p:Array DictEntry×Nat // v=.dict p.1 p.2}:=if h:v.ctorIdx=3 then anb (motive:=fun v=>Option {p:Array DictEntry×Nat // v=.dict p.1 p.2}) v h fun es ep=>some ⟨(es,ep),rfl⟩ else none
def DL(h:Heap)(x:Str):Option uW:=(h.nsMap gr x).bind fun v=>(At v).bind fun a=>(h.get? a.1).bind fun o=>(U4 o.data).map fun p=>⟨o.cls,o.dict,o.slots.size,decide (a.1≠mM),p.1.1.toList.map fun e=>(e.hash,DJ e.key,DK e.val)⟩
noncomputable def DM(w:World)(l:List (Str×Int)):uW:=⟨.type "dict",none,0,true,l.map fun kv=>(hashStr w kv.1,some kv.1,some kv.2)⟩
noncomputable def xm:List Str:=["rows","forth","back","names","own","met","noted"]
noncomputable def U5(x:Stmt):Bool:=mO x.ctorIdx 0
def view(p:Program):Program:={p with main:={p.main with body:=p.main.body.filter U5}}
noncomputable def l6:List Str:=["PARTS","Looker","Columns","MeasureError","NoFit"]
noncomputable def uX:List (Str×Int):=[("is",0),("nought",0),("input",0),("plus",2),("minus",2),("times",2),("over",2),("power",1),("less",4)]
def Av(p:Program):List ClsRec:=(plainsOf p []).map fun c=>{c with statics:=xm}
noncomputable abbrev d9:Program:=akf.row.prog
abbrev Aw(s:Shared):Bool:=xlAt (view d9) [] s&&recOk (RowW.records (OpenRow.toRowW akf.row)) s
def DN(s:Shared):List (Option PlainShape)×Bool×List (Option uW):=((Av d9).map fun c=>s.heap.plainShapeAt c,DI s.heap "Columns" "cleared",[(("PARTS":Str),uX)].map fun d=>DL s.heap d.1)
def DO(w:World):List (Option PlainShape)×Bool×List (Option uW):=((Av d9).map fun c=>some c.plainShape,true,[(("PARTS":Str),uX)].map fun d=>some (DM w d.2))
def rD{γ:Type}(b:Bool)(f:Shared->γ)(v:World->γ):Prop:=∀w:World,(fencedOpening treeTable d9 w 6000).map (fun s₀=>(topFrom treeTable d9 (w.withFollow "special-get-raises" b) 6000 s₀).map f)=some (some (v (w.withFollow "special-get-raises" b)))
variable {α β γ δ:Type}
theorem Lg{o:Option α}{t:α->Option β}{f:β->γ}{g:β->δ}{x:γ}{y:δ}(a:o.map (fun s=>(t s).map f)=some (some x))(O:o.map (fun s=>(t s).map g)=some (some y)):o.map (fun s=>(t s).map fun s=>(f s,g s))=some (some (x,y)):=by
 obtain⟨b,rfl,ay⟩:=dh.mp a
 obtain⟨s,c,az⟩:=dh.mp ay
 have O:(t b).map g=some y:=dp O
 show some ((t b).map _)=_
 rw[c]at O ⊢
 exact dt some (dt some (congr (dt Prod.mk az) (dp O)))
theorem U6{o:Option α}{t:α->Option β}{f:β->γ}{x:γ}(r:γ->δ)(h:o.map (fun s=>(t s).map f)=some (some x)):o.map (fun s=>(t s).map fun s=>r (f s))=some (some (r x)):=by
 obtain⟨a,rfl,ay⟩:=dh.mp h
 obtain⟨s,b,az⟩:=dh.mp ay
 show some ((t a).map _)=_
 rw[b]
 exact dt some (dt some (dt r az))
theorem Lh{A B C D E F:Type}{o:Option α}{t:α->Option β}{fa:β->A}{fb:β->B}{fc:β->C}{fd:β->D}{fe:β->E}{ff:β->F}{a:A}{b:B}{c:C}{d:D}{e:E}{f:F}
  (g:o.map (fun s=>(t s).map fa)=some (some a)) (O:o.map (fun s=>(t s).map fun s=>(fb s,fd s))=some (some (b,d))) (h:o.map (fun s=>(t s).map fun s=>((fc s,fe s),ff s))=some (some ((c,e),f))) :
  o.map (fun s=>(t s).map fun s=>((fa s,fb s,fc s,fd s,fe s),ff s))=some (some ((a,b,c,d,e),f)):=U6 (fun p=>((p.1,p.2.1.1,p.2.2.1.1,p.2.1.2,p.2.2.1.2),p.2.2.2)) (Lg g (Lg O h))
def uY(s:Shared):=(seen ((recsOf (view d9)).map (·.name)) (ownsOf (view d9)) [] {s with gens:=#[]})
def uZ(s:Shared):=(s.heap.bltView,tabsOk (view d9) s)
def rE(s:Shared):=((s.heap.keysOk (looseW (view d9) l6) ((recsOf (view d9)).map (·.name)) ((litsOf (view d9)).map (·.1)) ((clssOf (view d9) (looseW (view d9) l6)).map (·.name))&&s.heap.accountedOkI (SQ d9.main.body)&&s.heap.isNs gr&&s.heap.isNs mL&&tablesOk (view d9) s.heap&&Aw s&&(if true then s.gens.size==0 else !leftWithCleanup s.gens),pinSeenD (view d9) (drecsOf (view d9)) s,plainSeenE (view d9) (looseW (view d9) l6) s,plainSeenD (view d9) l6 s,wideSeen (view d9) s,clsSeenW (view d9) l6 s),DN s)
def Li(w:World):=((true,pinGoodD (drecsOf (view d9)),plainGoodE (view d9) (looseW (view d9) l6),plainGoodD (view d9) l6,wideGood (view d9),clsGoodW (view d9) l6),DO w)
set_option maxHeartbeats 8000000 in
theorem U7:rD false uY (fun V=>expectedOf (view d9)):=by intro w;kernel_rfl
set_option maxHeartbeats 8000000 in
theorem U8:rD false uZ (fun V=>(akg,true)):=by intro w;kernel_rfl
set_option maxHeartbeats 8000000 in
theorem U9:rD false rE Li:=by intro w;kernel_rfl
theorem U':rD false (fun s=>(openSeen (view d9) l6 (SQ d9.main.body) Aw true s,DN s)) fun w=>(openGood (view d9) l6,DO w):=fun w=>Lh (fa:=uY) (fb:=fun s=>(uZ s).1) (fd:=fun s=>(uZ s).2) (fc:=fun s=>(rE s).1.1) (fe:=fun s=>(rE s).1.2) (ff:=fun s=>(rE s).2) (U7 w) (U8 w) (U9 w)
set_option maxHeartbeats 8000000 in
theorem Va:rD true uY (fun V=>expectedOf (view d9)):=by intro w;kernel_rfl
set_option maxHeartbeats 8000000 in
theorem Vb:rD true uZ (fun V=>(akg,true)):=by intro w;kernel_rfl
set_option maxHeartbeats 8000000 in
theorem Vc:rD true rE Li:=by intro w;kernel_rfl
theorem Vd:rD true (fun s=>(openSeen (view d9) l6 (SQ d9.main.body) Aw true s,DN s)) fun w=>(openGood (view d9) l6,DO w):=fun w=>Lh (fa:=uY) (fb:=fun s=>(uZ s).1) (fd:=fun s=>(uZ s).2) (fc:=fun s=>(rE s).1.1) (fe:=fun s=>(rE s).1.2) (ff:=fun s=>(rE s).2) (Va w) (Vb w) (Vc w)
end
set_option backward.match.sparseCases false
section
open PySem
set_option genCtorIdx true in
inductive an2 where
 |undef
 |none
 |bool (b:Bool)
 |int (i:Int)
 |str (s:Str)
 |tup (l:List an2)
 |lst (l:List an2)
 |ba (l:List (Str×an2))
 |eP (lo hi:Int)
 |ref (n:Nat)
inductive bb where
 |list (lk:Bool) (l:List an2)
 |dict (lk:Bool) (l:List (Str×an2))
 |inst (c:Str) (d:Nat)
 |ns (l:List (Str×an2))
 |tab (q:Str)
noncomputable abbrev ah:=List bb
set_option genCtorIdx true in
inductive be (α:Type) where
 |ok (a:α) (σ:ah)
 |bad
@[simp] noncomputable def be.bind {α β:Type}:be α->(α->ah->be β)->be β
 |.ok a σ,f=>f a σ
 |.bad,_=>.bad
@[simp] noncomputable def be.gz {α β:Type}:be α->(α->ah->be β)->be β
 |.ok a σ,f=>f a σ
 |.bad,_=>.bad
inductive dq where
 |one (i:Nat)
 |many (is:List Nat)
inductive aov where
 |len|sorted|tuple|list|dict|str|int|range|rF|all|min2 (u:Unit)|abs
inductive kJ where
 |append|get|extend (u:Unit)
mutual
inductive bE where
 |const (c:Const)
 |loc (i:Nat)
 |kK (es:c4)
 |o5 (es:c4)
 |bin (op:Operator) (a b:bE)
 |qe (a:bE)
 |neg (a:bE)
 |cmp (op:CmpOp) (a b:bE)
 |ite (t a b:bE)
 |tup (es:c4)
 |lst (es:c4)
 |io
 |idx (a i:bE)
 |rG (a lo:bE)
 |rH (a lo hi:bE)
 |glob (x:Str)
 |comp (elt:bE) (t:dq) (it:bE) (cond:bE)
 |attr (a:bE) (x:Str)
 |kL (o:bE) (x:Str) (args:c4)
 |new (k:Str) (args:c4)
 |call (f:Str) (args:c4)
 |bi (b:aov) (args:c4)
 |f8 (o:bE) (m:kJ) (args:c4)
inductive c4 where
 |nil
 |cons (e:bE) (es:c4)
end
mutual
inductive o6 where
 |assign (i m:Nat) (e:bE)
 |fx (o i:bE) (m:Nat) (v:bE)
 |tc (is:List Nat) (e:bE)
 |setattr (o:bE) (x:Str) (m:Nat) (v:bE)
 |rI (t:bE) (body:dH) (Lj:List Nat)
 |expr (e:bE)
 |ret (m:Nat) (e:bE)
 |ite (t:bE) (b o:dH)
 |ev (t:dq) (it:bE) (body:dH) (Lj:List Nat)
 |bad
 |u0 (b:dH)
 |u1 (i:Nat) (a:bE) (r:Nat) (nl:List (Str×NameKind))
 |qf (z:Bool) (is:List Nat) (args:c4) (body:dH) (Lj:List Nat)
 |rJ (i j:Nat) (a b:bE)
inductive dH where
 |nil
 |cons (s:o6) (ss:dH)
end
structure cb where
 i7:Nat
 slots:Nat
 body:dH
 keep:Bool
structure rK where
 lnm:List (Str×NameKind)
 const:Str->Option an2
 fn:Str->Option cb
 aoq:Str->Str->Bool
 dc:Str->Bool
inductive fJ where
 |next
 |ret (v:an2)
noncomputable def b6{α:Type}(kvs:List (Str×α))(k:Str)(v:α):List (Str×α):=
 if kvs.any (fun kv=>kv.1=k) then kvs.map (fun kv=>if kv.1=k then (kv.1,v) else kv) else kvs++[(k,v)]
noncomputable def cp{α:Type}(kvs:List (Str×α))(k:Str):Option α:=(kvs.find? fun kv=>kv.1=k).map ju
noncomputable def Ax{α:Type}(kvs:List (Str×α))(k:Str):Bool:=kvs.any fun kv=>kv.1=k
inductive o7 where
 |list (l:List an2)
 |dict (l:List (Str×an2))
noncomputable def o7.val(x:o7):an2:=match x with
 |.list l=>.lst l
 |.dict l=>.ba l
noncomputable def o7.obj(x:o7):bb:=match x with
 |.list l=>.list false l
 |.dict l=>.dict false l
inductive cL where
 |v (v:an2)
 |f (f:o7)
noncomputable def iG(m:Nat)(f:o7)(σ:ah):be an2:=match m with
 |0=>.ok f.val σ
 |V+1=>.ok (.ref σ.length) (σ++[f.obj])
def fin(m:Nat)(o:Option cL)(σ:ah):be an2:=match o with
 |some (.v v)=>.ok v σ
 |some (.f f)=>iG m f σ
 |none=>.bad
noncomputable def iH(x:Option bb):an2:=match x with
 |some (.list V l)=>.lst l
 |some (.dict V l)=>.ba l
 |V=>.undef
def cR(σ:ah)(x:an2):an2:=match x with
 |.ref i=>iH σ[i]?
 |v=>v
noncomputable def dO(x:an2):Option Int:=match x with
 |.int i=>some i
 |V=>none
noncomputable def iI(y:an2):Option Str:=match y with
 |.str x=>some x
 |V=>none
noncomputable def rL(x:an2):Option (List an2):=match x with
 |.tup l=>some l
 |V=>none
noncomputable def ke(x:an2):Option (List an2):=match x with
 |.lst l=>some l
 |V=>none
noncomputable def qg(x:an2):Option (List (Str×an2)):=match x with
 |.ba l=>some l
 |V=>none
noncomputable def u2(x:an2):Option Nat:=match x with
 |.ref i=>some i
 |V=>none
noncomputable def Lk(x:an2):Option (List an2):=match x with
 |.tup l=>some l
 |.lst l=>some l
 |V=>none
noncomputable def both{α β γ:Type}(f:an2->Option α)(g:an2->Option β)(a b:an2)(h:α->β->Option γ)(k:Option γ):Option γ:=
 match f a,g b with
 |some x,some y=>h x y
 |V,f9=>k
def eZ(σ:ah)(v:an2):Option (List an2):=ke (cR σ v)
noncomputable def Ay(x:Str):List an2:=x.cps.toList.map fun c=>.str ⟨#[c]⟩
noncomputable def hw(lo hi:Int):List an2:=(bf (hi-lo).toNat).map fun(k:Nat)=>.int (lo+(k:Int))
def xn(y:an2):Option (List an2):=match y with
 |.tup l=>some l
 |.lst l=>some l
 |.eP lo hi=>some (hw lo hi)
 |.str x=>some (Ay x)
 |.ba l=>some (l.map fun kv=>.str kv.1)
 |V=>none
def de(σ:ah)(v:an2):Option (List an2):=xn (cR σ v)
noncomputable def d'(n:Nat):Bool:=decide (n<=1000000)
noncomputable def Ll(x:an2):Option Bool:=match x with
 |.none=>some false
 |.bool b=>some b
 |.int i=>some (i != 0)
 |V=>none
def dz(σ:ah)(v:an2):Option Bool:=Ll (cR σ v)
-- ame value with new amf things as values
mutual
noncomputable def iJ(d:Nat->Option an2)(x:an2):Option an2:=match x with
 |.ref i=>d i
 |.tup l=>(kf d l).map .tup
 |.lst l=>(kf d l).map .lst
 |.ba l=>(o8 d l).map .ba
 |v=>some v
noncomputable def kf(d:Nat->Option an2)(y:List an2):Option (List an2):=match y with
 | []=>some []
 |v::r=>(iJ d v).bind fun x=>(kf d r).map (x::·)
noncomputable def o8(d:Nat->Option an2)(y:List (Str×an2)):Option (List (Str×an2)):=match y with
 | []=>some []
 |(k,v)::r=>(iJ d v).bind fun x=>(o8 d r).map ((k,x)::·)
end
theorem td(d:Nat->Option an2)(v:an2)(r:List an2):kf d (v::r)=(iJ d v).bind fun x=>(kf d r).map (x::·):=rfl
theorem Lm(d:Nat->Option an2)(k:Str)(v:an2)(r:List (Str×an2)):o8 d ((k,v)::r)=(iJ d v).bind fun x=>(o8 d r).map ((k,x)::·):=rfl
def aoI(d:Nat->Option an2)(x:Option bb):Option an2:=match x with
 |some (.list V l)=>(kf d l).map .lst
 |some (.dict V l)=>(o8 d l).map .ba
 |V=>none
noncomputable def di(n:Nat)(σ:ah)(x:Nat):an2->Option an2:=match x with
 |0=>iJ fun i=>if i<n then some (.ref i) else none
 |k+1=>iJ fun i=>if i<n then some (.ref i) else aoI (fun j=>di n σ k (.ref j)) σ[i]?
noncomputable def kM(x:Str)(n:Int):Str:=⟨(eL n.toNat x.cps).foldl (·++·) #[]⟩
noncomputable def fh(x y:Str):Bool:=decide (x.cps.toList<y.cps.toList)
def hy(l:List Str):List Str:=l.mergeSort fun a b=>!fh b a
noncomputable def qh(y:List an2):Option (List Str):=match y with
 | []=>some []
 |v::r=>(iI v).bind fun x=>(qh r).map (x::·)
noncomputable def two{α:Type}(y:List α):Option (α×α):=match y with
 | [v,x]=>some (v,x)
 |V=>none
def DP(v:an2):Option (Str×an2):=(rL v).bind fun l=>(two l).bind fun p=>(iI p.1).map fun k=>(k,p.2)
noncomputable def aoK(x:List an2):Option (List (Str×an2)):=match x with
 | []=>some []
 |v::r=>(DP v).bind fun p=>(aoK r).map (p::·)
def DQ(l:List (Str×an2)):List (Str×an2):=l.foldl (fun d kv=>b6 d kv.1 kv.2) []
open Classical in
def kg(σ:ah)(op:Operator)(a b:an2):Option cL:=match op with
 |.Add=>both dO dO a b (fun x y=>some (.v (.int (x+y)))) (both iI iI a b (fun x y=>if x.length+y.length<=1000000 then some (.v (.str (x++y))) else none)
   (both ke ke (cR σ a) (cR σ b) (fun x y=>if x.length+y.length<=1000000 then some (.f (.list (x++y))) else none) none))
 |.Sub=>both dO dO a b (fun x y=>some (.v (.int (x-y)))) none
 |.Mult=>both dO dO a b (fun x y=>if IntMulOk x y then some (.v (.int (x*y))) else none) (both iI dO a b (fun x n=>if n<=1000/\-1000<=n/\x.length<=1000 then some (.v (.str (kM x n))) else none)
   (both ke dO (cR σ a) b (fun l n=>if 0<=n/\n<=1000/\l.length<=1000 then some (.f (.list ((eL n.toNat l).flatten))) else none) none))
 |.FloorDiv=>both dO dO a b (fun x y=>if y=0 then none else some (.v (.int (x.fdiv y)))) none
 |.Mod=>both dO dO a b (fun x y=>if y=0 then none else some (.v (.int (x.fmod y)))) none
 |.Pow=>both dO dO a b (fun x n=>if 0<=n/\n<=1000000/\x.natAbs<2^64 then some (.v (.int (x^n.toNat))) else none) none
 |V=>none
noncomputable def u5(l:List an2)(k:Int):Option cL:=if 0<=k/\k<=1000000 then (l[k.toNat]?).map .v else none
def Az(v:an2):Option Nat:=(dO v).bind fun i=>if 0<=i/\i<=1000000 then some i.toNat else none
def Ln(lo hi:Nat)(l:List an2):Option cL:=if d' l.length&&decide (1<=lo)&&decide (1<=l.length) then some (.v (.tup ((l.take hi).drop lo))) else none
def DR(lo:Nat)(l:List an2):Option cL:=if d' l.length then some (.f (.list (l.drop lo))) else none
def xo(σ:ah)(a lo hi:an2):Option cL:=(Az lo).bind fun i=>(Az hi).bind fun j=>(rL (cR σ a)).bind (Ln i j)
def xp(σ:ah)(a lo:an2):Option cL:=(Az lo).bind fun i=>(ke (cR σ a)).bind (DR i)
noncomputable def Lo(x:Str)(k:Int):Option cL:=if 0<=k/\k<=1000000 then (x.cps[k.toNat]?).map fun c=>.v (.str ⟨#[c]⟩) else none
def eQ(σ:ah)(a i:an2):Option cL:=
 both Lk dO (cR σ a) i u5 (both iI dO a i Lo (both qg iI (cR σ a) i (fun l k=>(cp l k).map .v) none))
mutual
noncomputable def eF(x:an2):Bool:=match x with
 |.none|.bool _|.int _|.str _=>true
 |.tup l=>kh l
 |.lst l=>kh l
 |V=>false
noncomputable def kh(x:List an2):Bool:=match x with
 | []=>true
 |v::r=>eF v&&kh r
end
noncomputable def AA(x:an2):Option Bool:=match x with
 |.bool b=>some b
 |V=>none
def Ve(v:an2):Option (Str×Int):=(DP v).bind fun p=>(dO p.2).map fun n=>(p.1,n)
noncomputable def te(l:List an2):Option (List (Str×Int)):=match l with
 | []=>some []
 |v::r=>(Ve v).bind fun p=>(te r).map (p::·)
def Vf(a b:an2):Option Bool:=both dO dO a b (fun x y=>some (x==y)) (both iI iI a b (fun x y=>some (x==y)) (both rL rL a b (fun l r=>(te l).bind fun x=>(te r).map fun y=>decide (x=y))
 (both ke ke a b (fun l r=>if r.isEmpty then some l.isEmpty else none) none)))
def xq(σ:ah)(a b:an2):Option Bool:=Vf (cR σ a) (cR σ b)
noncomputable def aoF(x:an2):Bool:=match x with
 |.none=>true
 |.undef=>false
 |.bool V=>false
 |.int V=>false
 |.str V=>false
 |.tup V=>false
 |.lst V=>false
 |.ba V=>false
 |.eP V f9=>false
 |.ref V=>false
def xr(a b:an2):Option Bool:=bif aoF b then some (aoF a) else none
def mX(σ:ah)(op:CmpOp)(a b:an2):Option Bool:=match op with
 |.Eq=>xq σ a b
 |.NotEq=>(xq σ a b).map (!·)
 |.Lt=>both dO dO a b (fun x y=>some (decide (x<y))) none
 |.Gt=>both dO dO a b (fun x y=>some (decide (x > y))) none
 |.Is=>xr a b
 |.IsNot=>(xr a b).map (!·)
 |.In=>both iI iI a b (fun x y=>some (Txt.contains y x)) none
 |.NotIn=>both iI ke a (cR σ b) (fun x l=>(qh l).map fun ss=>!(ss.any (·==x))) none
 |V=>none
noncomputable def AB(x:an2):Option Nat:=match x with
 |.tup l=>some l.length
 |.lst l=>some l.length
 |.ba l=>some l.length
 |V=>none
def Lp(σ:ah)(v:an2):Option Nat:=AB (cR σ v)
noncomputable def hz:Nat:=64
noncomputable def DS(x:an2):Option (List Str):=match x with
 |.ba l=>some (l.map bz)
 |V=>none
def Lq(σ:ah)(v:an2):Option (List Str):=DS (cR σ v)
noncomputable def one{α:Type}(x:List α):Option α:=match x with
 | [v]=>some v
 |V=>none
def Vg(σ:ah)(args:List an2):Option cL:=(one args).bind fun v=>(Lp σ v).bind fun n=>if d' n then some (.v (.int n)) else none
def Vh(σ:ah)(args:List an2):Option cL:=(one args).bind fun v=>(Lq σ v).bind fun l=>if l.length<hz then some (.f (.list ((hy l).map .str))) else none
def Vi(σ:ah)(args:List an2):Option cL:=(one args).bind fun v=>(eZ σ v).bind fun l=>if d' l.length then some (.v (.tup l)) else none
def Lr(x:an2):Option cL:=match x with
 |.tup l=>(aoK l).bind fun r=>if d' r.length then some (.f (.dict (DQ r))) else none
 |V=>none
def Vj(σ:ah)(args:List an2):Option cL:=(one args).bind fun v=>Lr (cR σ v)
def Vk(args:List an2):Option cL:=(one args).bind fun v=>(dO v).bind fun n=>if n.natAbs<=1000000 then some (.v (.eP 0 n)) else none
def Ls(v:an2):Option (List an2):=match v with
 |.tup l=>some l
 |.eP lo hi=>some (hw lo hi)
 |V=>none
def Vl(v:an2):Option cL:=(Ls v).bind fun l=>if d' l.length then some (.f (.list l)) else none
def Vm(σ:ah)(args:List an2):Option cL:=(one args).bind fun v=>Vl (cR σ v)
noncomputable def xt{α:Type}(y:List α):Option (α×α):=match y with
 | [v,x]=>some (v,x)
 |V=>none
def Vn(args:List an2):Option cL:=(one args).bind fun v=>(AA v).bind fun b=>some (.v (.int (if b then 1 else 0)))
def Vo(args:List an2):Option cL:=(one args).bind fun v=>(dO v).bind fun i=>if i.natAbs<10^40 then some (.v (.str (ly (toString i)))) else none
def Vp(args:List an2):Option cL:=(xt args).bind fun p=>both dO dO p.1 p.2 (fun a n=>if n.natAbs<=1000000/\a.natAbs<=1000000 then some (.v (.eP a n)) else none) none
noncomputable def l8(y:List an2):Option (List Int):=match y with
 | []=>some []
 |v::r=>(dO v).bind fun x=>(l8 r).map (x::·)
noncomputable def tg(y:List an2):Option (List Bool):=match y with
 | []=>some []
 |v::r=>(AA v).bind fun x=>(tg r).map (x::·)
def Vq(σ:ah)(args:List an2):Option cL:=(one args).bind fun v=>(eZ σ v).bind fun l=>(tg l).bind fun ns=>if d' ns.length then some (.v (.bool (ns.all id))) else none
def Vr(args:List an2):Option cL:=(one args).bind fun v=>(dO v).bind fun i=>some (.v (.int i.natAbs))
def Vs(args:List an2):Option cL:=(xt args).bind fun p=>both dO dO p.1 p.2 (fun a b=>some (.v (.int (if b<a then b else a)))) none
def i8(σ:ah)(b:aov)(args:List an2):Option cL:=match b with
 |.len=>Vg σ args
 |.sorted=>Vh σ args
 |.tuple=>Vi σ args
 |.dict=>Vj σ args
 |.list=>Vm σ args
 |.int=>Vn args
 |.str=>Vo args
 |.rF=>Vp args
 |.min2 V=>Vs args
 |.abs=>Vr args
 |.all=>Vq σ args
 |.range=>Vk args
def xu(σ:ah)(m:kJ)(v:an2):Bool:=match m with
 |.get=>(qg (cR σ v)).isSome
 |V=>(ke (cR σ v)).isSome
noncomputable def jA(σ:ah)(i:Nat):Option (List an2):=match σ[i]? with
 |some (.list false l)=>some l
 |V=>none
noncomputable def rM(σ:ah)(i:Nat):Option (List (Str×an2)):=match σ[i]? with
 |some (.dict false l)=>some l
 |V=>none
noncomputable def Lu{α:Type}(y:List α):Option (α×α):=match y with
 | [v,x]=>some (v,x)
 |V=>none
noncomputable def DT(x:Option bb):Option (List (Str×an2)):=match x with
 |some (.ns l)=>some l
 |V=>none
def aoN(σ:ah)(d:Nat):Option (List (Str×an2)):=DT σ[d]?
def l9(σ:ah)(i:Nat):Option (Str×Nat×List (Str×an2)):=match σ[i]? with
 |some (.inst k d)=>(aoN σ d).map fun l=>(k,d,l)
 |V=>none
def th(σ:ah)(v:an2):Option (Str×Nat×List (Str×an2)):=(u2 v).bind (l9 σ)
def ma(σ:ah)(m:kJ)(o:an2)(args:List an2):Option (an2×ah):=match m with
 |.extend V=>(one args).bind fun v=>(u2 o).bind fun i=>(eZ σ v).bind fun r=>(jA σ i).bind fun l=>if d' (l.length+r.length) then some (.none,σ.set i (.list false (l++r))) else none
 |.append=>(one args).bind fun v=>(u2 o).bind fun i=>(jA σ i).bind fun l=>if d' l.length then some (.none,σ.set i (.list false (l++[v]))) else none
 |.get=>(Lu args).bind fun p=>(iI p.1).bind fun k=>(qg (cR σ o)).bind fun l=>some ((cp l k).getD p.2,σ)
structure bP where
 lnm:List (Str×NameKind)
 gl:Str->Option an2
 hA:Str->List an2->ah->be an2
 aoq:Str->Str->Bool
 dc:Str->Bool
noncomputable def nT(ρ:List an2)(y:List Nat)(z:List an2):List an2:=match y,z with
 |i::is,v::vs=>nT (ρ.set i v) is vs
 |V,f9=>ρ
def hW(x:dq)(y:an2)(ρ:List an2):Option (List an2):=match x,y with
 |.one i,v=>some (ρ.set i v)
 |.many is,.tup l=>if l.length=is.length then some (nT ρ is l) else none
 |V,f9=>none
noncomputable def kill(ks:List Nat)(ρ:List an2):List an2:=ks.foldl (fun ρ i=>ρ.set i .undef) ρ
noncomputable def gb(σ:ah)(i:Nat)(b:Bool):ah:=match σ[i]? with
 |some (.list V l)=>σ.set i (.list b l)
 |some (.dict V l)=>σ.set i (.dict b l)
 |V=>σ
noncomputable def rN(σ:ah)(i:Nat):Bool:=match σ[i]? with
 |some (.list b V)=>b
 |some (.dict b V)=>b
 |V=>false
def bG(σ:ah)(v:an2)(b:Bool):ah:=match v with
 |.ref i=>gb σ i b
 |V=>σ
noncomputable def ip(x:dq):List Nat:=match x with
 |.one i=>[i]
 |.many is=>is
def c'(σ:ah)(v:an2):Bool:=match v with
 |.ref i=>rN σ i
 |V=>false
def hX{α:Type}(v:an2)(b:Bool)(x:be α):be α:=match x with
 |.ok a σ=>.ok a (bG σ v b)
 |.bad=>.bad
noncomputable def gc(cond elt:List an2->ah->be an2)(t:dq)(ρ:List an2)(y:List an2)(σ:ah):be (List an2):=match y with
 | []=>.ok [] σ
 |x::xs=>match hW t x ρ with
  |none=>.bad
  |some aN=>(cond aN σ).bind fun b aj=>match dz aj b with
   |some true=>(elt aN aj).bind fun v a7=>(gc cond elt t ρ xs a7).bind fun vs cN=>.ok (v::vs) cN
   |some false=>gc cond elt t ρ xs aj
   |none=>.bad
noncomputable def AC(y:Const):Option an2:=match y with
 |.none=>some .none
 |.bool b=>some (.bool b)
 |.int i=>some (.int i)
 |.str x=>some (.str x)
 |V=>none
noncomputable def ti(o:Option Bool)(σ:ah):be an2:=match o with
 |some b=>.ok (.bool b) σ
 |none=>.bad
noncomputable def AD(o:Option an2)(σ:ah):be an2:=match o with
 |some v=>.ok v σ
 |none=>.bad
noncomputable def o9{α:Type}(o:Option Bool)(a b:be α):be α:=match o with
 |some true=>a
 |some false=>b
 |none=>.bad
noncomputable def fy(k x:Str):Str:=k++⟨#[46]⟩++x
def md(c:bP)(σ:ah)(v:an2)(x:Str):Option an2:=(th σ v).bind fun p=>if c.dc x then cp p.2.2 x else none
def qi(σ:ah)(v:an2)(x:Str):Option Str:=(th σ v).bind fun p=>if (cp p.2.2 x).isNone then some (fy p.1 x) else none
noncomputable def Vt(n:Nat)(x:an2)(σ:ah):be an2:=match x with
 |.none=>.ok (.ref n) σ
 |V=>.bad
noncomputable def DU(o:Option Str)(f:Str->be an2):be an2:=match o with
 |some k=>f k
 |none=>.bad
mutual
noncomputable def bk(c:bP)(z:bE)(m:Nat)(ρ:List an2)(σ:ah):be an2:=match z with
 |.const k=>match AC k with|some v=>.ok v σ|none=>.bad
 |.loc i=>match ρ[i]? with
  |some .undef=>.bad
  |some v=>.ok v σ
  |none=>.bad
 |.kK es=>nU c es ρ σ
 |.o5 es=>nV c es ρ σ
 |.bin op a b=>(bk c a 0 ρ σ).bind fun x aj=>(bk c b 0 ρ aj).bind fun y a7=>fin m (kg a7 op x y) a7
 |.qe a=>(bk c a 0 ρ σ).bind fun x aj=>ti ((dz aj x).map (!·)) aj
 |.neg a=>(bk c a 0 ρ σ).bind fun x aj=>match x with
  |.int i=>.ok (.int (-i)) aj
  |V=>.bad
 |.cmp op a b=>(bk c a 0 ρ σ).bind fun x aj=>(bk c b 0 ρ aj).bind fun y a7=>ti (mX a7 op x y) a7
 |.tup es=>(ki c es 0 ρ σ).bind fun vs aj=>.ok (.tup vs) aj
 |.lst es=>(ki c es m.pred ρ σ).bind fun vs aj=>iG m (.list vs) aj
 |.io=>iG m (.dict []) σ
 |.idx a i=>(bk c a 0 ρ σ).bind fun x aj=>(bk c i 0 ρ aj).bind fun k a7=>fin 0 (eQ a7 x k) a7
 |.rG a lo=>(bk c a 0 ρ σ).bind fun x aj=>(bk c lo 0 ρ aj).bind fun k a7=>fin m (xp a7 x k) a7
 |.rH a lo hi=>(bk c a 0 ρ σ).bind fun x aj=>(bk c lo 0 ρ aj).bind fun k a7=>(bk c hi 0 ρ a7).bind fun j cN=>fin m (xo cN x k j) cN
 |.glob x=>AD (c.gl x) σ
 |.comp elt t it cond=>(bk c it 0 ρ σ).bind fun v aj=>match de aj v with
  |none=>.bad
  |some l=>(hX v (c' aj v) (gc (bk c cond 0) (bk c elt m.pred) t (kill (ip t) ρ) l (bG aj v true))).bind fun vs a7=>if d' vs.length then iG m (.list vs) a7 else .bad
 |.ite t a b=>(bk c t 0 ρ σ).bind fun x aj=>o9 (dz aj x) (bk c a m ρ aj) (bk c b m ρ aj)
 |.attr a x=>(bk c a 0 ρ σ).bind fun v aj=>AD (md c aj v x) aj
 |.kL o x args=>(bk c o 0 ρ σ).bind fun v aj=>DU (qi aj v x) fun f=>(ki c args 0 ρ aj).bind fun vs a7=>c.hA f (v::vs) a7
 |.new k args=>(ki c args 0 ρ σ).bind fun vs aj=>(c.hA (fy k "__init__") (.ref (aj.length+1)::vs) (aj++[.ns []]++[.inst k aj.length])).bind (Vt (aj.length+1))
 |.call f args=>(ki c args 0 ρ σ).bind fun vs aj=>c.hA f vs aj
 |.bi b args=>(ki c args 0 ρ σ).bind fun vs aj=>fin m (i8 aj b vs) aj
 |.f8 o mt args=>(bk c o 0 ρ σ).bind fun x aj=>if xu aj mt x then (ki c args 0 ρ aj).bind fun vs a7=>match ma a7 mt x vs with
   |some (v,cN)=>.ok v cN
   |none=>.bad
  else .bad
noncomputable def ki(c:bP)(x:c4)(m:Nat)(ρ:List an2)(σ:ah):be (List an2):=match x with
 |.nil=>.ok [] σ
 |.cons e es=>(bk c e m ρ σ).bind fun v aj=>(ki c es m ρ aj).bind fun vs a7=>.ok (v::vs) a7
noncomputable def nU(c:bP)(x:c4)(ρ:List an2)(σ:ah):be an2:=match x with
 |.nil=>.bad
 |.cons e .nil=>bk c e 0 ρ σ
 |.cons e es=>(bk c e 0 ρ σ).bind fun v aj=>o9 (dz aj v) (nU c es ρ aj) (.ok v aj)
noncomputable def nV(c:bP)(x:c4)(ρ:List an2)(σ:ah):be an2:=match x with
 |.nil=>.bad
 |.cons e .nil=>bk c e 0 ρ σ
 |.cons e es=>(bk c e 0 ρ σ).bind fun v aj=>o9 (dz aj v) (.ok v aj) (nV c es ρ aj)
end
def setAt(σ:ah)(a i v:an2):Option ah:=
 both u2 iI a i (fun r k=>(rM σ r).bind fun l=>if d' l.length then some (σ.set r (.dict false (b6 l k v))) else none) (both u2 dO a i (fun r k=>(jA σ r).bind fun l=>if 0<=k/\k<l.length/\d' l.length=true then some (σ.set r (.list false (l.set k.toNat v))) else none) none)
def me(c:bP)(σ:ah)(o:an2)(x:Str)(v:an2):Option ah:=(th σ o).bind fun p=>if c.dc x&&d' p.2.2.length then some (σ.set p.2.1 (.ns (b6 p.2.2 x v))) else none
noncomputable abbrev fi:=fJ×List an2
noncomputable def g1(body:List an2->ah->be fi)(t:dq)(ks:List Nat)(y:List an2)(ρ:List an2)(σ:ah):be fi:=match y with
 | []=>.ok (.next,kill ks ρ) σ
 |x::xs=>match hW t x (kill ks ρ) with
  |none=>.bad
  |some aN=>(body aN σ).gz fun r aj=>match r.1 with
   |.next=>g1 body t ks xs r.2 aj
   |.ret v=>.ok (.ret v,r.2) aj
noncomputable def hY(test:List an2->ah->be an2)(body:List an2->ah->be fi)(ks:List Nat)(x:Nat)(ρ:List an2)(σ:ah):be fi:=match x with
 |0=>.bad
 |n+1=>(test (kill ks ρ) σ).bind fun b aj=>match dz aj b with
  |some true=>(body (kill ks ρ) aj).bind fun r a7=>match r.1 with
   |.next=>hY test body ks n r.2 a7
   |.ret v=>.ok (.ret v,r.2) a7
  |some false=>.ok (.next,kill ks ρ) aj
  |none=>.bad
section
variable {body:List an2->ah->be fi}{test cond elt:List an2->ah->be an2}{t:dq}{ks:List Nat}{x:an2}{xs ρ:List an2}{σ:ah}{n:Nat}
theorem Vu:gc cond elt t ρ [] σ=.ok [] σ:=rfl
theorem AE:gc cond elt t ρ (x::xs) σ=match hW t x ρ with
  |none=>.bad
  |some aN=>(cond aN σ).bind fun b aj=>match dz aj b with
   |some true=>(elt aN aj).bind fun v a=>(gc cond elt t ρ xs a).bind fun vs c=>.ok (v::vs) c
   |some false=>gc cond elt t ρ xs aj
   |none=>.bad:=rfl
theorem Vv:g1 body t ks [] ρ σ=.ok (.next,kill ks ρ) σ:=rfl
theorem Lv:g1 body t ks (x::xs) ρ σ=match hW t x (kill ks ρ) with
  |none=>.bad
  |some aN=>(body aN σ).gz fun r aj=>match r.1 with
   |.next=>g1 body t ks xs r.2 aj
   |.ret v=>.ok (.ret v,r.2) aj:=rfl
theorem u6:hY test body ks (n+1) ρ σ=(test (kill ks ρ) σ).bind fun b aj=>match dz aj b with
  |some true=>(body (kill ks ρ) aj).bind fun r a=>match r.1 with
   |.next=>hY test body ks n r.2 a
   |.ret v=>.ok (.ret v,r.2) a
  |some false=>.ok (.next,kill ks ρ) aj
  |none=>.bad:=rfl
end
open Classical in
def qj(test:List an2->ah->be an2)(body:List an2->ah->be fi)(ks:List Nat)(ρ:List an2)(σ:ah):be fi:=
 if h:∃n,hY test body ks n ρ σ≠.bad then hY test body ks h.choose ρ σ else .bad
variable {test:List an2->ah->be an2}{body:List an2->ah->be fi}{ks:List Nat}
theorem Vw:∀(n:Nat) (ρ:List an2) (σ:ah),hY test body ks n ρ σ≠.bad->hY test body ks (n+1) ρ σ=hY test body ks n ρ σ:=by
 intro n
 induction n with
 |zero=>exact fun V V h=>dk rfl h
 |succ n ih=>
  intro ρ σ h;rw[u6]at h;rw[u6 (n:=n+1),u6 (n:=n)];cases ht:test (kill ks ρ) σ with
  |bad=>rfl
  |ok b aj=>
   rw[ht]at h;simp only[be.bind]at h ⊢;cases a:dz aj b with
   |none=>rfl
   |some q=>
    rw[a]at h;cases q with
    |false=>rfl
    |true=>
     simp only at h ⊢;cases c:body (kill ks ρ) aj with
     |bad=>rfl
     |ok r d=>
      rw[c]at h;simp only[be.bind]at h ⊢;obtain⟨f,aN⟩:=r;cases f with
      |next=>exact ih _ _ h
      |ret v=>rfl
variable {n:Nat}{ρ:List an2}{σ:ah}
theorem Lw{m:Nat}(a:n<=m)(h:hY test body ks n ρ σ≠.bad) :
  hY test body ks m ρ σ=hY test body ks n ρ σ:=by
 induction a with
 |refl=>rfl
 |step V ih=>rw[Vw _ _ _ (ih▸h),ih]
theorem Vx{r:be fi}(h:hY test body ks n ρ σ=r)(a:r≠.bad) :
  qj test body ks ρ σ=r:=by
 have hn:hY test body ks n ρ σ≠.bad:=h▸a;have hex:∃n,hY test body ks n ρ σ≠.bad:=⟨n,hn⟩;unfold qj;rw[dif_pos hex,<- h];rcases Ik hex.choose n with hle|hle
 ·exact(Lw hle hex.choose_spec).symm
 ·exact Lw hle hn
theorem Vy(a:qj test body ks ρ σ≠.bad):∃n,hY test body ks n ρ σ=qj test body ks ρ σ:=by
 unfold qj at a ⊢;split
 ·exact⟨_,rfl⟩
 ·rename_i h;rw[dif_neg h]at a;exact dk rfl a
noncomputable def pc(n:Nat)(z:List an2):List an2:=match z with
 | []=>[]
 |x::l=>.tup [.int n,x]::pc (n+1) l
def AF(σ:ah)(z:Bool)(vs:List an2):Option (List an2×an2×an2):=bif z
 then (xt vs).bind fun p=>(eZ σ p.1).bind fun l=>(eZ σ p.2).map fun r=>(CY (fun x y=>an2.tup [x,y]) l r,p.1,p.2)
 else (one vs).bind fun a=>(eZ σ a).map fun l=>(pc 0 l,a,.none)
noncomputable def jB(xs:List Int)(k:Int):Option Int:=if 0<=k/\k<=1000000 then (xs[k.toNat]?).map fun x=>(x.natAbs:Int) else none
noncomputable def nW(xs:List Int)(b:Int)(kb:Int)(z:List Int):Option Int:=match z with
 | []=>some b
 |k::ks=>(jB xs k).bind fun q=>bif decide (q<kb) then nW xs k q ks else nW xs b kb ks
def xw(xs:List Int)(x:List Int):Option Int:=match x with
 | []=>none
 |k::ks=>(jB xs k).bind fun q=>nW xs k q ks
noncomputable def AG(σ:ah):Option Str:=match σ with
 |.tab q::V=>some q
 |V=>none
def pd(σ:ah)(v:an2)(w:Option an2):Option Int:=(AG σ).bind fun V=>(eZ σ v).bind fun l=>(l8 l).bind fun ks=>w.bind fun w=>(eZ σ w).bind fun r=>(l8 r).bind fun xs=>xw xs ks
noncomputable def AH(o:Option Int)(f:Int->be fi):be fi:=match o with
 |some k=>f k
 |none=>.bad
noncomputable def rO(x:be fi):be fi:=match x with
 |.ok r σ=>.ok r σ
 |.bad=>.bad
noncomputable def Vz(o:Option (List an2×an2×an2))(f:List an2×an2×an2->be fi):be fi:=match o with
 |some q=>f q
 |none=>.bad
mutual
noncomputable def rP(c:bP)(u:o6)(ρ:List an2)(σ:ah):be fi:=match u with
 |.assign i m e=>(bk c e m ρ σ).bind fun v aj=>.ok (.next,ρ.set i v) aj
 |.fx o i m v=>(bk c v m ρ σ).bind fun x aj=>(bk c o 0 ρ aj).bind fun a a7=>(bk c i 0 ρ a7).bind fun k cN=>match setAt cN a k x with
  |some jC=>.ok (.next,ρ) jC
  |none=>.bad
 |.tc is e=>(bk c e 0 ρ σ).bind fun v aj=>match hW (.many is) v ρ with
  |some aN=>.ok (.next,aN) aj
  |none=>.bad
 |.setattr o x m v=>(bk c v m ρ σ).bind fun y aj=>(bk c o 0 ρ aj).bind fun a a7=>match me c a7 a x y with
  |some cN=>.ok (.next,ρ) cN
  |none=>.bad
 |.u1 i a r nl=>bif decide (c.lnm=nl) then (bk c a 0 ρ σ).bind fun v aj=>AH (pd aj v ρ[r]?) fun k=>.ok (.next,ρ.set i (.int k)) aj else .bad
 |.u0 b=>rO (cF c b ρ σ)
 |.rJ i j a b=>(bk c a 0 ρ σ).bind fun x aj=>(bk c b 0 ρ aj).bind fun y a7=>.ok (.next,(ρ.set j y).set i x) a7
 |.qf z is args body ks=>(ki c args 0 ρ σ).bind fun vs aj=>Vz (AF aj z vs) fun q=>rO (hX q.2.1 (c' aj q.2.1) (hX q.2.2 (c' (bG aj q.2.1 true) q.2.2) (g1 (cF c body) (.many is) ks q.1 ρ (bG (bG aj q.2.1 true) q.2.2 true))))
 |.bad=>.bad
 |.rI t body ks=>qj (bk c t 0) (cF c body) ks ρ σ
 |.expr e=>(bk c e 0 ρ σ).bind fun V aj=>.ok (.next,ρ) aj
 |.ret m e=>(bk c e m ρ σ).bind fun v aj=>.ok (.ret v,ρ) aj
 |.ite t b o=>(bk c t 0 ρ σ).bind fun x aj=>match dz aj x with
  |some true=>cF c b ρ aj
  |some false=>cF c o ρ aj
  |none=>.bad
 |.ev t it body ks=>(bk c it 0 ρ σ).bind fun v aj=>match de aj v with
  |some l=>hX v (c' aj v) (g1 (cF c body) t ks l ρ (bG aj v true))
  |none=>.bad
noncomputable def cF(c:bP)(x:dH)(ρ:List an2)(σ:ah):be fi:=match x with
 |.nil=>.ok (.next,ρ) σ
 |.cons s ss=>(rP c s ρ σ).gz fun r aj=>match r.1 with
  |.next=>cF c ss r.2 aj
  |f=>.ok (f,r.2) aj
end
noncomputable def fJ.out(x:fJ):an2:=match x with
 |.ret v=>v
 |V=>.none
open Classical in
def left(keep:Bool)(σ:ah)(x:be fi):be an2:=match x with
 |.ok r au=>
   if keep then .ok r.1.out au
   else if au.take σ.length=σ then match di σ.length au 3 r.1.out with
    |some v=>.ok v σ
    |none=>.bad
   else .bad
 |.bad=>.bad
def tj(c:bP)(f:cb)(args:List an2)(σ:ah):be an2:=
 if args.length=f.i7 then left f.keep σ (cF c f.body (args++eL (f.slots-f.i7) .undef) σ) else .bad
noncomputable def bF(G:rK)(x:Nat)(f:Str)(z:List an2)(σ:ah):be an2:=match x,z with
 |0,V=>.bad
 |d+1,args=>match G.fn f with
  |some F=>tj ⟨G.lnm,G.const,bF G d,G.aoq,G.dc⟩ F args σ
  |none=>.bad
theorem VA(c:bP)(e:bE)(es:c4)(m:Nat)(ρ:List an2)(σ:ah):ki c (.cons e es) m ρ σ=(bk c e m ρ σ).bind fun v aj=>(ki c es m ρ aj).bind fun vs a=>.ok (v::vs) a:=rfl
theorem VB(c:bP)(s:o6)(ss:dH)(ρ:List an2)(σ:ah):cF c (.cons s ss) ρ σ=(rP c s ρ σ).gz fun r aj=>match r.1 with
  |.next=>cF c ss r.2 aj
  |f=>.ok (f,r.2) aj:=rfl
theorem xx(G:rK)(d:Nat)(f:Str)(args:List an2)(σ:ah):bF G (d+1) f args σ=match G.fn f with
  |some F=>tj ⟨G.lnm,G.const,bF G d,G.aoq,G.dc⟩ F args σ
  |none=>.bad:=rfl
end
set_option backward.match.sparseCases true
section
open PySem
open Classical in
theorem xy(σ:ah)(v:an2)(ρ:List an2)(au:ah):left false σ (.ok (.ret v,ρ) au)=if au.take σ.length=σ then match di σ.length au 3 v with
    |some v=>.ok v σ
    |none=>.bad
   else .bad:=by unfold left;rfl
theorem VC(σ:ah)(x y:Int)(h:y≠0):kg σ .Mod (.int x) (.int y)=some (.v (.int (x.fmod y))):=b5 h
theorem VD(σ:ah)(x y:Int)(h:y≠0):kg σ .FloorDiv (.int x) (.int y)=some (.v (.int (x.fdiv y))):=b5 h
theorem VE(σ:ah)(x y:Int)(h:IntMulOk x y):kg σ .Mult (.int x) (.int y)=some (.v (.int (x*y))):=bl h
theorem kj(σ:ah)(x y:Str)(h:x.length+y.length<=1000000):kg σ .Add (.str x) (.str y)=some (.v (.str (x++y))):=bl h
theorem xz(σ:ah)(x:Str)(n:Int)(h:n<=1000/\-1000<=n/\x.length<=1000):kg σ .Mult (.str x) (.int n)=some (.v (.str (kM x n))):=bl h
theorem u7(σ:ah)(l:List an2)(h:l.length<=1000000):i8 σ .len [.lst l]=some (.v (.int l.length)):=bl (b9 h)
variable {l:List an2}
theorem kN{σ:ah}{n:Nat}(e:l.length=n)(h:n<=1000000):i8 σ .len [.lst l]=some (.v (.int n)):=e▸u7 σ l (e▸h)
theorem Lx{k:Nat}{v:an2}(a:k<=1000000)(h:l[k]?=some v):u5 l k=some (.v v):=
 (bl ⟨rp k,TX a⟩).trans (show (l[k]?).map cL.v=_ by rw[h];rfl)
theorem qk(σ:ah)(l:List an2)(k:Nat)(v:an2)(a:k<=1000000)(h:l[k]?=some v):eQ σ (.lst l) (.int k)=some (.v v):=Lx a h
variable {x y:Int}
theorem DV(a:-(2^64)<x)(O:x<2^64):IntMulOk x y:=.of_left (akh a O)
theorem DW(a:-(2^64)<y)(O:y<2^64):IntMulOk x y:=.of_right (akh a O)
end
set_option backward.match.sparseCases false
section
open PySem
section
variable (c:bP)(m:Nat)(ρ:List an2)(σ:ah)
def DX(m:Nat)(vs:List an2)(σ:ah):be an2:=if d' vs.length then iG m (.list vs) σ else .bad
def DY(c:bP)(elt:bE)(t:dq)(cond:bE)(m:Nat)(ρ:List an2)(v:an2)(aj:ah)(x:Option (List an2)):be an2:=match x with
 |none=>.bad
 |some l=>(hX v (c' aj v) (gc (bk c cond 0) (bk c elt m.pred) t (kill (ip t) ρ) l (bG aj v true))).bind (DX m)
def Ly(c:bP)(elt:bE)(t:dq)(cond:bE)(m:Nat)(ρ:List an2)(v:an2)(aj:ah):be an2:=DY c elt t cond m ρ v aj (de aj v)
theorem Lz(k:Const):bk c (.const k) m ρ σ=match AC k with|some v=>.ok v σ|none=>.bad:=rfl
theorem LA(i:Nat):bk c (.loc i) m ρ σ=match ρ[i]? with|some .undef=>.bad|some v=>.ok v σ|none=>.bad:=rfl
theorem VF(elt:bE)(t:dq)(it cond:bE):bk c (.comp elt t it cond) m ρ σ=(bk c it 0 ρ σ).bind (Ly c elt t cond m ρ):=by
 with_unfolding_all rfl
theorem VG(elt:bE)(t:dq)(cond:bE)(v:an2):Ly c elt t cond m ρ v σ=DY c elt t cond m ρ v σ (de σ v):=rfl
theorem VH(elt:bE)(t:dq)(cond:bE)(v:an2)(l:List an2):DY c elt t cond m ρ v σ (some l)=(hX v (c' σ v) (gc (bk c cond 0) (bk c elt m.pred) t (kill (ip t) ρ) l (bG σ v true))).bind (DX m):=rfl
theorem VI(vs:List an2):DX m vs σ=if d' vs.length then iG m (.list vs) σ else .bad:=rfl
end
theorem c4.ind{P:c4->Prop}(case1:P .nil)(case2:∀e es,P es->P (.cons e es))(es:c4):P es:=by
 induction es using c4.rec (motive_1:=fun V=>True) with
 |nil=>exact case1
 |cons e es V ih=>exact case2 e es ih
 |_=>trivial
end
set_option backward.match.sparseCases true
section
open PySem
theorem VJ(x:Str):fh x x=false:=by simp[fh]
variable {a b k x y:Str}
theorem VK(h:x.cps.toList=y.cps.toList):x=y:=by
 cases x;cases y;simp only[Str.mk.injEq];exact Array.ext' h
theorem LB(a:fh x y=false)(O:fh y x=false):x=y:=by
 simp only[fh,decide_eq_false_iff_not]at a O;exact VK (List.le_antisymm O a)
theorem kO(l:List Str):(hy l).Perm l:=List.mergeSort_perm ..
theorem LC{c:Str}(d:(!fh b a)=true)(O:(!fh c b)=true):(!fh c a)=true:=by
 simp only[fh,ru,decide_eq_false_iff_not]at *
 exact List.le_trans d O
theorem VL(a b:Str):((!fh b a)||(!fh a b))=true:=by
 simp only[fh,SR,ru,decide_eq_false_iff_not];exact List.le_total a.cps.toList b.cps.toList
theorem LD(l:List Str):(hy l).Pairwise fun a b=>fh b a=false:=by
 have:=List.pairwise_mergeSort (le:=fun a b=>!fh b a) (fun a b c=>LC) VL l;exact this.imp fun h=>by simpa using h
variable {l:List Str}
theorem VM{c:List Str}(e:c.Perm l)(f:c.Pairwise fun a b=>fh b a=false):c=hy l:=
 aki (le:=fun a b=>fh b a=false) (fun V V V V d O=>LB O d) f (LD l) (e.trans (kO l).symm)
theorem VN(h:fh b a=false)(hn:a≠b):fh a b=true:=by
 cases c:fh a b with
 |true=>rfl
 |false=>exact dk (LB c h) hn
theorem DZ(d:Nat->Option an2)(v:an2):eF v=true->iJ d v=some v:=
 an2.rec (motive_1:=fun v=>eF v=true->iJ d v=some v) (motive_2:=fun l=>kh l=true->kf d l=some l) (motive_3:=fun V=>True) (motive_4:=fun V=>True)
  (fun h=>l5 h) (fun V=>rfl) (fun V V=>rfl) (fun V V=>rfl) (fun V V=>rfl) (fun l ih h=>dt (mP an2.tup) (ih h)) (fun l ih h=>dt (mP an2.lst) (ih h)) (fun V V h=>l5 h) (fun V V h=>l5 h) (fun V h=>l5 h)
  (fun V=>rfl) (fun v r a b h=>(dt (fun o=>Option.bind o fun x=>(kf d r).map (x::·)) (a (gX.mp h).1)).trans (dt (mP (v::·)) (b (gX.mp h).2)))
  trivial (fun V V V V=>trivial) (fun V V V=>trivial) v
theorem LF(d:Nat->Option an2)(l:List an2)(h:kh l=true):kf d l=some l:=by
 induction l with
 |nil=>rfl
 |cons v r ih=>
  have h:=gX.mp h;show (iJ d v).bind _=_;rw[DZ d v h.1];exact dt (mP (v::·)) (ih h.2)
theorem xA{n k:Nat}{σ:ah}{v:an2}(h:eF v=true):di n σ k v=some v:=by
 cases k<;>exact DZ _ v h
theorem rQ{l:List an2}:kh l=true↔∀v∈l,eF v=true:=by
 induction l with
 |nil=>exact⟨fun V V h=>(rv h).elim,fun V=>rfl⟩
 |cons v r ih=>
  refine⟨fun h x a=>?_,fun h=>gX.mpr ⟨h v (cW ..),ih.mpr fun x a=>h x (dM _ a)⟩⟩;have h:=gX.mp h;exact(dG.mp a).elim (fun e=>e▸h.1) (ih.mp h.2 x)
noncomputable abbrev cg:=List (Str×Int)
noncomputable def an4(d:cg):List (Str×an2):=d.map fun kv=>(kv.1,.int kv.2)
noncomputable def aR(d:cg):an2:=.tup (d.map fun kv=>.tup [.str kv.1,.int kv.2])
theorem AI(d:cg):(an4 d).length=d.length:=by simp[an4]
theorem AJ(d:cg)(k:Str)(v:Int):b6 (an4 d) k (.int v)=an4 (b6 d k v):=by
 unfold b6 an4;simp only[List.any_map,akj,hk];split
 ·rw[hk];apply i0;intro kv V;simp only[SS];split<;>rfl
 ·simp
theorem LG(d:cg)(k:Str):cp (an4 d) k=(cp d k).map .int:=by
 unfold cp an4;rw[List.find?_map];simp only[akj,Option.map_map]
theorem LH(d:cg)(k:Str):((cp (an4 d) k).getD (.int 0))=.int ((cp d k).getD 0):=by
 rw[LG];cases cp d k<;>rfl
theorem AK(d:cg):(an4 d).map bz=d.map bz:=by simp[an4]
theorem hB(d:cg):eF (aR d)=true:=by
 refine rQ.mpr fun v a=>?_;refine aw (dQ.mp a) fun kv V b=>?_;subst b;rfl
theorem VQ(d:cg):aoK (d.map fun kv=>.tup [.str kv.1,.int kv.2])=some (an4 d):=by
 induction d with
 |nil=>rfl
 |cons kv d ih=>exact dt (mP ((kv.1,an2.int kv.2)::·)) ih
variable {α:Type}
theorem D0{d:List (Str×α)}{v:α}:x∈(b6 d k v).map bz↔x=k\/x∈d.map bz:=by
 unfold b6;split
 ·rename_i h;rw[w5]at h;refine aw h fun p b a=>?_;have a:p.1=k:=by simpa using a
  rw[hk];have e:((fun kv:Str×α=>kv.1)∘fun kv:Str×α=>if kv.1=k then (kv.1,v) else kv)=fun kv=>kv.1:=by
   funext kv;simp only[SS];split<;>rfl
  rw[e];constructor
  ·exact .inr
  ·rintro (rfl|h)
   ·exact dQ.mpr ⟨p,b,a⟩
   ·exact h
 ·simp[or_comm]
theorem VR{d:List (Str×α)}{v:α}(h:k∈d.map bz):(b6 d k v).map bz=d.map bz:=by
 unfold b6;rw[bl (by obtain⟨p,a,e⟩:=dQ.mp h;exact w5.mpr ⟨p,a,by simpa using e⟩),hk];apply i0;intro kv V;simp only[SS];split<;>rfl
theorem u8{d:List (Str×α)}{v:α}(h:k∉d.map bz):b6 d k v=d++[(k,v)]:=by
 unfold b6;rw[b5];intro q;refine aw (w5.mp q) fun p a e=>?_;exact h (dQ.mpr ⟨p,a,by simpa using e⟩)
theorem D2{d:List (Str×α)}{v:α}(h:(d.map bz).Nodup):((b6 d k v).map bz).Nodup:=by
 by_cases c:k∈d.map bz
 ·rw[VR c];exact h
 ·rw[u8 c,hS];exact mQ.mpr ⟨h,by simp,by rintro a f b e rfl;simp at e;exact c (e▸f)⟩
theorem D3(p:Str×α)(d:List (Str×α))(x:Str):cp (p::d) x=if p.1=x then some p.2 else cp d x:=by
 unfold cp;rw[It];by_cases h:p.1=x
 ·rw[bl h,b9 h];rfl
 ·rw[b5 h,d8 h]
theorem VS(d:List (Str×α))(p:Str×α)(x:Str):cp (d++[p]) x=(cp d x).or (cp [p] x):=by
 unfold cp;rw[List.find?_append];cases d.find? fun kv=>kv.1=x<;>rfl
theorem VT(d:List (Str×α))(k x:Str)(v:α):cp (d.map fun kv=>if kv.1=k then (kv.1,v) else kv) x=if x=k then (cp d x).map fun V=>v else cp d x:=by
 induction d with
 |nil=>split<;>rfl
 |cons p d ih=>
  rw[gu,D3,D3,ih];by_cases b:p.1=k
  ·rw[bl b];by_cases a:x=k
   ·rw[bl a,bl a,bl (b.trans a.symm),bl (b.trans a.symm)];rfl
   ·have:¬p.1=x:=fun q=>a (q.symm.trans b);rw[b5 a,b5 a,b5 this,b5 this]
  ·rw[b5 b];by_cases a:p.1=x
   ·rw[bl a,bl a,b5 fun q=>b (a.trans q)]
   ·rw[b5 a,b5 a]
theorem VU{d:List (Str×α)}(h:k∉d.map bz):cp d k=none:=by
 unfold cp;rw[CZ.mpr fun p a q=>h (dQ.mpr ⟨p,a,ct q⟩)];rfl
theorem LI{d:List (Str×α)}{v:α}:cp (b6 d k v) x=if x=k then some v else cp d x:=by
 by_cases b:k∈d.map bz
 ·unfold b6;rw[bl (by obtain⟨p,c,e⟩:=dQ.mp b;exact w5.mpr ⟨p,c,b9 e⟩),VT];by_cases a:x=k
  ·rw[bl a,bl a,a];refine aw (dQ.mp b) fun p c e=>?_;cases f:cp d k with
   |some w=>rfl
   |none=>
    have:=CZ.mp (akk.mp f) p c;exact dk (b9 e) this
  ·rw[b5 a,b5 a]
 ·rw[u8 b,VS,D3];by_cases a:x=k
  ·rw[bl a,bl a.symm,a,VU b];rfl
  ·rw[b5 a,b5 fun q=>a q.symm];cases cp d x<;>rfl
theorem D4{d:List (Str×α)}(hn:(d.map bz).Nodup){k:Str}{v:α}(h:(k,v)∈d):cp d k=some v:=by
 induction d with
 |nil=>simp at h
 |cons p d ih=>
  unfold cp at *
  rw[gu,mR]at hn;rw[It];rcases dG.mp h with rfl|h
  ·simp
  ·have:¬p.1=k:=fun q=>hn.1 (dQ.mpr ⟨(k,v),h,q.symm⟩);simp only[this,decide_false];exact ih hn.2 h
theorem D5{d:List (Str×α)}{v:α}(h:cp d k=some v):(k,v)∈d:=by
 unfold cp at h;refine aw (dh.mp h) fun p b c=>?_;subst c;have a:=akl b;have O:=SU b;have:p.1=k:=by simpa using a
 subst this;exact O
theorem VV{d:List (Str×α)}(h:k∈d.map bz):∃v,cp d k=some v:=by
 cases a:cp d k with
 |some v=>exact⟨v,rfl⟩
 |none=>
  refine aw (dQ.mp h) fun p b e=>?_;unfold cp at a;have:=CZ.mp (akk.mp a) p b;exact dk e (by simpa using this)
def cZ(d:cg)(ms:cg)(n:Int):cg:=ms.foldl (fun d kv=>b6 d kv.1 ((cp d kv.1).getD 0+kv.2*n)) d
variable {d ms:cg}{n:Int}
theorem xB(h:(d.map bz).Nodup):((cZ d ms n).map bz).Nodup:=by
 unfold cZ
 induction ms generalizing d with
 |nil=>exact h
 |cons kv ms ih=>exact ih (D2 h)
theorem VW:x∈(cZ d ms n).map bz↔x∈d.map bz\/x∈ms.map bz:=by
 unfold cZ
 induction ms generalizing d with
 |nil=>simp
 |cons kv ms ih=>
  rw[sU,ih,D0,gu,dG];constructor
  ·rintro ((h|h)|h)
   ·exact .inr (.inl h)
   ·exact .inl h
   ·exact .inr (.inr h)
  ·rintro (h|h|h)
   ·exact .inl (.inr h)
   ·exact .inl (.inl h)
   ·exact .inr h
def val(d:cg)(k:Str):Int:=(cp d k).getD 0
theorem VX(a:(ms.map bz).Nodup):DQ (an4 ms)=an4 ms:=by
 have b:∀(ms d:cg),(ms.map bz).Nodup->(∀x∈ms.map bz,x∉d.map bz)->(an4 ms).foldl (fun d kv=>b6 d kv.1 kv.2) (an4 d)=an4 (d++ms):=by
  intro ms
  induction ms with
  |nil=>intro d V V;simp[an4]
  |cons kv ms ih=>
   intro d a e;rw[gu,mR]at a;have c:=e kv.1 (by simp);show (an4 ms).foldl _ (b6 (an4 d) kv.1 (.int kv.2))=_;rw[AJ,u8 c,ih _ a.2]
   ·simp
   ·intro x f;rw[hS,eM];rintro (h|h)
    ·exact e x (by rw[gu];exact dM _ f) h
    ·simp at h;subst h;exact a.1 f
 have:=b ms [] a (by simp);exact this
def kP(d:cg):cg:=(hy (d.map bz)).filterMap fun k=>if val d k≠0 then some (k,val d k) else none
theorem D6[DecidableEq α]{l m:List α}(hn:l.Nodup)(b:∀x∈l,x∈m):l.length<=m.length:=by
 induction l generalizing m with
 |nil=>exact d4 _
 |cons x l ih=>
  rw[mR]at hn;have c:=b x (cW ..);have a:=ih (m:=m.erase x) hn.2 (fun y d=>by
   have e:y≠x:=fun q=>hn.1 (q▸d);exact(List.mem_erase_of_ne e).mpr (b y (dM _ d)))
  rw[List.length_erase_of_mem c]at a;have:=List.length_pos_of_mem c;rw[aoc];exact ao9 a this
theorem VY(h:l.Nodup):(hy l).Pairwise fun a b=>fh a b=true:=by
 have c:=LD l;have O:(hy l).Nodup:=(kO l).symm.nodup h;exact(c.and O).imp fun ⟨a,b⟩=>VN a b
end
set_option backward.match.sparseCases false
section
open PySem
noncomputable abbrev cA:=List (Str×NameKind)
noncomputable abbrev dI:=List (Str×Nat)
noncomputable def LJ(x:Option NameKind):Bool:=match x with
 |some .local|some .cell|some .free=>true
 |V=>false
noncomputable def kQ(x:Option NameKind):Bool:=match x with
 |some .local|some .cell=>true
 |V=>false
noncomputable def hZ(x:Option NameKind):Bool:=match x with
 |some .globalImplicit=>true
 |V=>false
noncomputable def gA(x:Str):Bool:=!(x==("__debug__":Str))&&!(x==("__classdict__":Str))
noncomputable def aU{α:Type}(o:Option α)(f:α->Bool):Bool:=match o with
 |some a=>f a
 |none=>false
variable {α:Type}
theorem gB{o:Option α}{f:α->Bool}(h:aU o f=true):∃a,o=some a/\f a=true:=by
 cases o with
 |none=>cases h
 |some a=>exact⟨a,rfl,h⟩
variable {a f:Expr}{p p2 p3 p4 jD jE:Pos}
theorem D7{f':Expr}{l d:List Expr}{k e:List Keyword}(a:f=f')(b:l=d)(c:k=e):Expr.Call f l k p=.Call f' d e p:=by rw[a,b,c]
noncomputable def tl{α:Type}(l:List α):Option {u:Unit // l=[]}:=match l with
 | []=>some ⟨(),rfl⟩
 |V::f9=>none
noncomputable def VZ{α:Type}(l:List α):Option {q:α×List α // l=q.1::q.2}:=match l with
 | []=>none
 |a::l=>some ⟨(a,l),rfl⟩
noncomputable def V0{α:Type}(o:Option α):Option {a:α // o=some a}:=match o with
 |none=>none
 |some a=>some ⟨a,rfl⟩
noncomputable def fK(e:Expr):Option {q:Str×_ // e=.Name q.1 q.2}:=
 if h:e.ctorIdx=23 then anc (motive_1:=fun e=>Option {q:Str×_ // e=.Name q.1 q.2}) e h fun x p=>some ⟨(x,p),rfl⟩ else none
noncomputable def pe(e:Expr):Option {q:List Expr×_×_ // e=.Tuple q.1 q.2.1 q.2.2}:=
 if h:e.ctorIdx=25 then ane (motive_1:=fun e=>Option {q:List Expr×_×_ // e=.Tuple q.1 q.2.1 q.2.2}) e h fun es a p=>some ⟨(es,a,p),rfl⟩ else none
noncomputable def jF(nm:cA)(ac:dI)(y:List Nat)(l:List Expr):Bool:=match y with
 | []=>l.isEmpty
 |i::is=>aU l.head? fun a=>aU (fK a) fun x=>ac.lookup x.1.1==some i&&kQ (nm.lookup x.1.1)&&jF nm ac is l.tail
def kR(nm:cA)(ac:dI)(t:dq)(e:Expr):Bool:=match t with
 |.one i=>aU (fK e) fun x=>ac.lookup x.1.1==some i&&kQ (nm.lookup x.1.1)
 |.many is=>aU (pe e) fun es=>jF nm ac is es.1.1
noncomputable def tm(y:List Expr):List Str:=match y with
 | []=>[]
 |e::es=>match fK e with
  |some x=>x.1.1::tm es
  |none=>tm es
def nX(e:Expr):List Str:=match fK e with
 |some x=>[x.1.1]
 |none=>match pe e with
  |some es=>tm es.1.1
  |none=>[]
noncomputable def jG(nm:cA)(own:cA):cA:=own.map fun(n,k)=>if k==.free&&nm.lookup n==some .cell then (n,.cell) else (n,k)
def jH(ac:dI)(t:dq)(e:Expr):dI:=(nX e).zip (ip t)++ac
def LK(nm:cA)(ac:dI)(e:Expr)(sc:Scope):Bool:=
 sc.kind==.function&&decide ((sc.names.map bz).Nodup)&&(sc.names.lookup (".0":Str)).isSome&&sc.names.all fun(n,k)=>match k with
  |.local=>(n==(".0":Str)&&(ac.lookup n).isNone)||(nX e).contains n
  |.free=>!(nX e).contains n&&(ac.lookup n).isSome&&(nm.lookup n==some .cell||nm.lookup n==some .free)
  |.globalImplicit=>true
  |.cell=>(nX e).contains n
  |V=>false
noncomputable def V1(e:Expr):Bool:=!Nat.beq e.ctorIdx 26
noncomputable def aov.word(x:aov):Str:=match x with
 |.len=>"len" | .sorted=>"sorted" | .tuple=>"tuple" | .dict=>"dict" | .range=>"range"
 |.list=>"list" | .str=>"str" | .int=>"int" | .rF=>"range" | .all=>"all" | .min2 V=>"min" | .abs=>"abs"
noncomputable def kJ.word(x:kJ):Str:=match x with
 |.append=>"append" | .get=>"get" | .extend V=>"extend"
noncomputable def iK(f:Str):Bool:=!f.cps.contains 46
noncomputable def LL(x:Const):Bool:=match x with
 |.none|.bool _|.int _|.str _=>true
 |V=>false
noncomputable def LM(p:bE):Option {u:Unit // p=.const (.bool true)}:=match p with
 |.const (.bool true)=>some ⟨(),rfl⟩
 |V=>none
def u9(p:bE):Bool:=(LM p).isSome
noncomputable def AL(tt:Bool)(f:Expr->Bool)(x:List Expr):Bool:=match x with
 | []=>tt
 | [e]=>f e
 |V=>false
noncomputable def V2(x:BoolOp):Bool:=match x with
 |.And=>true
 |V=>false
noncomputable def apc(x:BoolOp):Bool:=match x with
 |.Or=>true
 |V=>false
noncomputable def V4(x:UnaryOp):Bool:=match x with
 |.Not=>true
 |V=>false
noncomputable def V5(x:UnaryOp):Bool:=match x with
 |.USub=>true
 |V=>false
def LN(nm:cA)(ac:dI)(t:dq)(sc:Scope)(q:Comprehension)(bu br:Bool)(cK:Expr->Bool)(tt:Bool):Bool:=
 decide (q.is_async=0)&&bu&&LK nm ac q.target sc&&decide (((jH ac t q.target).map ju).Nodup)&&kR (jG nm sc.names) (jH ac t q.target) t q.target &&
  br&&AL tt cK q.ifs
noncomputable def LO(e:Expr):Option {q:Const×_×_ // e=.Constant q.1 q.2.1 q.2.2}:=
 if h:e.ctorIdx=19 then anf (motive_1:=fun e=>Option {q:Const×_×_ // e=.Constant q.1 q.2.1 q.2.2}) e h fun c a b=>some ⟨(c,a,b),rfl⟩ else none
noncomputable def D8(e:Expr):Option {q:BoolOp×List Expr×_ // e=.BoolOp q.1 q.2.1 q.2.2}:=
 if h:e.ctorIdx=0 then ang (motive_1:=fun e=>Option {q:BoolOp×List Expr×_ // e=.BoolOp q.1 q.2.1 q.2.2}) e h fun o vs p=>some ⟨(o,vs,p),rfl⟩ else none
noncomputable def LP(e:Expr):Option {q:Expr×Operator×Expr×_ // e=.BinOp q.1 q.2.1 q.2.2.1 q.2.2.2}:=
 if h:e.ctorIdx=2 then anh (motive_1:=fun e=>Option {q:Expr×Operator×Expr×_ // e=.BinOp q.1 q.2.1 q.2.2.1 q.2.2.2}) e h fun l o r p=>some ⟨(l,o,r,p),rfl⟩ else none
noncomputable def D9(e:Expr):Option {q:UnaryOp×Expr×_ // e=.UnaryOp q.1 q.2.1 q.2.2}:=
 if h:e.ctorIdx=3 then ani (motive_1:=fun e=>Option {q:UnaryOp×Expr×_ // e=.UnaryOp q.1 q.2.1 q.2.2}) e h fun o x p=>some ⟨(o,x,p),rfl⟩ else none
def LQ(e:Expr):Option {q:Expr×List CmpOp×List Expr×_ // e=.Compare q.1 q.2.1 q.2.2.1 q.2.2.2}:=
 if h:e.ctorIdx=15 then anj (motive_1:=fun e=>Option {q:Expr×List CmpOp×List Expr×_ // e=.Compare q.1 q.2.1 q.2.2.1 q.2.2.2}) e h fun l os rs p=>some ⟨(l,os,rs,p),rfl⟩ else none
noncomputable def LR(e:Expr):Option {q:List Expr×_ // e=.List q.1 q.2}:=
 if h:e.ctorIdx=24 then ank (motive_1:=fun e=>Option {q:List Expr×_ // e=.List q.1 q.2}) e h fun es p=>some ⟨(es,p),rfl⟩ else none
def LS(e:Expr):Option {q:Pos // e=.Dict [] [] q}:=
 if h:e.ctorIdx=6 then anl (motive_1:=fun e=>Option {q:Pos // e=.Dict [] [] q}) e h fun a b p=>(tl a).bind fun x=>(tl b).bind fun y=>some ⟨p,by rw[x.2,y.2]⟩ else none
noncomputable def tn(e:Expr):Option {q:Expr×Expr×_ // e=.Subscript q.1 q.2.1 q.2.2}:=
 if h:e.ctorIdx=21 then anm (motive_1:=fun e=>Option {q:Expr×Expr×_ // e=.Subscript q.1 q.2.1 q.2.2}) e h fun v i p=>some ⟨(v,i,p),rfl⟩ else none
noncomputable def D'(e:Expr):Option {q:Option Expr×Option Expr×Option Expr×_ // e=.Slice q.1 q.2.1 q.2.2.1 q.2.2.2}:=
 if h:e.ctorIdx=26 then ano (motive_1:=fun e=>Option {q:Option Expr×Option Expr×Option Expr×_ // e=.Slice q.1 q.2.1 q.2.2.1 q.2.2.2}) e h fun a b c p=>some ⟨(a,b,c,p),rfl⟩ else none
noncomputable def LU(e:Expr):Option {q:Expr×List Comprehension×Scope×_ // e=.ListComp q.1 q.2.1 q.2.2.1 q.2.2.2}:=
 if h:e.ctorIdx=8 then anp (motive_1:=fun e=>Option {q:Expr×List Comprehension×Scope×_ // e=.ListComp q.1 q.2.1 q.2.2.1 q.2.2.2}) e h fun e gs sc p=>some ⟨(e,gs,sc,p),rfl⟩ else none
noncomputable def LV(e:Expr):Option {q:Expr×Expr×Expr×_ // e=.IfExp q.1 q.2.1 q.2.2.1 q.2.2.2}:=
 if h:e.ctorIdx=5 then anq (motive_1:=fun e=>Option {q:Expr×Expr×Expr×_ // e=.IfExp q.1 q.2.1 q.2.2.1 q.2.2.2}) e h fun t a b p=>some ⟨(t,a,b,p),rfl⟩ else none
noncomputable def rR(e:Expr):Option {q:Expr×Str×_ // e=.Attribute q.1 q.2.1 q.2.2}:=
 if h:e.ctorIdx=20 then anr (motive_1:=fun e=>Option {q:Expr×Str×_ // e=.Attribute q.1 q.2.1 q.2.2}) e h fun v x p=>some ⟨(v,x,p),rfl⟩ else none
def LW(e:Expr):Option {q:Str×_×Expr×List Expr×_×_ // e=.Call (.Name q.1 q.2.1) (q.2.2.1::q.2.2.2.1) q.2.2.2.2.1 (en q).2}:=
 if h:e.ctorIdx=16 then SV (motive_1:=fun e=>Option {q:Str×_×Expr×List Expr×_×_ // e=.Call (.Name q.1 q.2.1) (q.2.2.1::q.2.2.2.1) q.2.2.2.2.1 q.2.2.2.2.2}) e h fun f l ks p=>(fK f).bind fun x=>(VZ l).bind fun y=>some ⟨(x.1.1,x.1.2,y.1.1,y.1.2,ks,p),D7 x.2 y.2 rfl⟩ else none
def tq(e:Expr):Bool:=(LW e).isSome
def nY(e:Expr):Bool:=(fK e).isSome||(rR e).isSome
def pf(e:Expr):Option {q:Expr×List Expr×_ // e=.Call q.1 q.2.1 [] q.2.2}:=
 if h:e.ctorIdx=16 then SV (motive_1:=fun e=>Option {q:Expr×List Expr×_ // e=.Call q.1 q.2.1 [] q.2.2}) e h fun f as ks p=>(tl ks).bind fun x=>some ⟨(f,as,p),D7 rfl rfl x.2⟩ else none
noncomputable def iL{α:Type}(l:List α):Option {a:α // l=[a]}:=match l with
 | [a]=>some ⟨a,rfl⟩
 |V=>none
noncomputable def V6(x:Option Expr×Option Expr×Option Expr×Pos):Option Expr:=match x with
 |(some l,none,none,V)=>some l
 |V=>none
noncomputable def Ea(x:Option Expr×Option Expr×Option Expr×Pos):Option (Expr×Expr):=match x with
 |(some l,some u,none,V)=>some (l,u)
 |V=>none
def bn(e:bE):cA->dI->Expr->Bool:=bE.rec (motive_1:=fun V=>cA->dI->Expr->Bool) (motive_2:=fun V=>cA->dI->List Expr->Bool)
 (fun c V V e=>aU (LO e) fun p=>LL c&&decide (c=p.1.1))
 (fun i nm ac e=>aU (fK e) fun p=>ac.lookup p.1.1==some i&&LJ (nm.lookup p.1.1)&&gA p.1.1)
 (fun es ql nm ac e=>aU (D8 e) fun p=>V2 p.1.1&&ql nm ac p.1.2.1)
 (fun es ql nm ac e=>aU (D8 e) fun p=>apc p.1.1&&ql nm ac p.1.2.1)
 (fun op a b iM eR nm ac e=>aU (LP e) fun p=>decide (op=p.1.2.1)&&iM nm ac p.1.1&&eR nm ac p.1.2.2.1)
 (fun a iM nm ac e=>aU (D9 e) fun p=>V4 p.1.1&&iM nm ac p.1.2.1)
 (fun a iM nm ac e=>aU (D9 e) fun p=>V5 p.1.1&&iM nm ac p.1.2.1)
 (fun op a b iM eR nm ac e=>aU (LQ e) fun p=>aU (iL p.1.2.1) fun q=>aU (iL p.1.2.2.1) fun r=>decide (op=q.1)&&iM nm ac p.1.1&&eR nm ac r.1)
 (fun t a b it iM eR nm ac e=>aU (LV e) fun p=>it nm ac p.1.1&&iM nm ac p.1.2.1&&eR nm ac p.1.2.2.1)
 (fun es ql nm ac e=>aU (pe e) fun p=>decide (p.1.1.length<1000)&&ql nm ac p.1.1)
 (fun es ql nm ac e=>aU (LR e) fun p=>decide (p.1.1.length<1000)&&ql nm ac p.1.1)
 (fun V V e=>aU (LS e) fun V=>true)
 (fun a i iM V7 nm ac e=>aU (tn e) fun p=>iM nm ac p.1.1&&V7 nm ac p.1.2.1)
 (fun a lo iM Eb nm ac e=>aU (tn e) fun p=>aU (D' p.1.2.1) fun q=>aU (V6 q.1) fun l=>iM nm ac p.1.1&&Eb nm ac l)
 (fun a lo hi iM Eb V8 nm ac e=>aU (tn e) fun p=>aU (D' p.1.2.1) fun q=>aU (Ea q.1) fun l=>iM nm ac p.1.1&&Eb nm ac l.1&&V8 nm ac l.2)
 (fun y nm ac e=>aU (fK e) fun p=>p.1.1==y&&hZ (nm.lookup p.1.1)&&gA p.1.1)
 (fun elt t it cond V9 V' Wa nm ac e=>aU (LU e) fun p=>aU (iL p.1.2.1) fun q=>LN nm ac t p.1.2.2.1 q.1 (V' nm ac q.1.iter) (V9 (jG nm p.1.2.2.1.names) (jH ac t q.1.target) p.1.1) (Wa (jG nm p.1.2.2.1.names) (jH ac t q.1.target)) (u9 cond))
 (fun a x iM nm ac e=>aU (rR e) fun p=>p.1.2.1==x&&nY p.1.1&&iM nm ac p.1.1)
 (fun o x args tr qm nm ac e=>aU (pf e) fun p=>aU (rR p.1.1) fun q=>q.1.2.1==x&&(nY q.1.1||tq q.1.1)&&q.1.2.2.endLine==p.1.2.2.line&&decide (p.1.2.1.length<20)&&tr nm ac q.1.1&&qm nm ac p.1.2.1)
 (fun k args qm nm ac e=>aU (pf e) fun p=>aU (fK p.1.1) fun x=>x.1.1==k&&hZ (nm.lookup x.1.1)&&gA x.1.1&&qm nm ac p.1.2.1)
 (fun f args qm nm ac e=>aU (pf e) fun p=>aU (fK p.1.1) fun x=>x.1.1==f&&hZ (nm.lookup x.1.1)&&gA x.1.1&&iK f&&qm nm ac p.1.2.1)
 (fun b args qm nm ac e=>aU (pf e) fun p=>aU (fK p.1.1) fun x=>hZ (nm.lookup x.1.1)&&x.1.1==b.word&&gA x.1.1&&qm nm ac p.1.2.1)
 (fun o m args tr qm nm ac e=>aU (pf e) fun p=>aU (rR p.1.1) fun q=>q.1.2.1==m.word&&(nY q.1.1||tq q.1.1)&&q.1.2.2.endLine==p.1.2.2.line&&decide (p.1.2.1.length<20)&&tr nm ac q.1.1&&qm nm ac p.1.2.1)
 (fun V V l=>l.isEmpty)
 (fun e es Wb ql nm ac l=>aU l.head? fun a=>Wb nm ac a&&ql nm ac l.tail) e
def fj(es:c4)(nm:cA)(ac:dI)(l:List Expr):Bool:=bn (.kK es) nm ac (.BoolOp .And l ⟨0,0,0,0⟩)
noncomputable def tu(e:Expr):Bool:=mO e.ctorIdx 8||mO e.ctorIdx 9||mO e.ctorIdx 10
noncomputable def mf(s:Stmt):Option {q:List Expr×Expr×_ // s=.Assign q.1 q.2.1 q.2.2}:=
 if h:s.ctorIdx=5 then ans (motive_2:=fun s=>Option {q:List Expr×Expr×_ // s=.Assign q.1 q.2.1 q.2.2}) s h fun ts v p=>some ⟨(ts,v,p),rfl⟩ else none
def Ec(s:Stmt):Option {q:Expr×List Stmt×_ // s=.While q.1 q.2.1 [] q.2.2}:=
 if h:s.ctorIdx=11 then ant (motive_2:=fun s=>Option {q:Expr×List Stmt×_ // s=.While q.1 q.2.1 [] q.2.2}) s h fun t b o p=>(tl o).bind fun x=>some ⟨(t,b,p),by rw[x.2]⟩ else none
noncomputable def Ed(s:Stmt):Option {q:Expr×_ // s=.Expr q.1 q.2}:=
 if h:s.ctorIdx=24 then anu (motive_2:=fun s=>Option {q:Expr×_ // s=.Expr q.1 q.2}) s h fun v p=>some ⟨(v,p),rfl⟩ else none
def Ee(s:Stmt):Option {q:Expr×_ // s=.Return (some q.1) q.2}:=
 if h:s.ctorIdx=3 then anv (motive_2:=fun s=>Option {q:Expr×_ // s=.Return (some q.1) q.2}) s h fun o p=>(V0 o).bind fun x=>some ⟨(x.1,p),dt (Stmt.Return · p) x.2⟩ else none
noncomputable def Ef(s:Stmt):Option {q:Expr×List Stmt×List Stmt×_ // s=.If q.1 q.2.1 q.2.2.1 q.2.2.2}:=
 if h:s.ctorIdx=12 then Stmt.If.elim (motive_2:=fun s=>Option {q:Expr×List Stmt×List Stmt×_ // s=.If q.1 q.2.1 q.2.2.1 q.2.2.2}) s h fun t b o p=>some ⟨(t,b,o,p),rfl⟩ else none
def xC(s:Stmt):Option {q:Expr×Expr×List Stmt×_ // s=.For q.1 q.2.1 q.2.2.1 [] q.2.2.2}:=
 if h:s.ctorIdx=9 then Stmt.For.elim (motive_2:=fun s=>Option {q:Expr×Expr×List Stmt×_ // s=.For q.1 q.2.1 q.2.2.1 [] q.2.2.2}) s h fun bQ it b o p=>(tl o).bind fun x=>some ⟨(bQ,it,b,p),by rw[x.2]⟩ else none
def Eg(s:Stmt):Option {q:List Stmt×List ExceptHandler×_ // s=.Try q.1 q.2.1 [] [] q.2.2}:=
 if h:s.ctorIdx=17 then Stmt.Try.elim (motive_2:=fun s=>Option {q:List Stmt×List ExceptHandler×_ // s=.Try q.1 q.2.1 [] [] q.2.2}) s h fun b h o f p=>(tl o).bind fun x=>(tl f).bind fun y=>some ⟨(b,h,p),by rw[x.2,y.2]⟩ else none
set_option genInjectivity false in
structure u' where
 a:Expr
 dJ:Str
 y:Str
 sc:Scope
 mY:Pos
 p1:Pos
 p2:Pos
 p3:Pos
 p4:Pos
 jD:Pos
 jE:Pos
 i9:Pos
 kp:Pos
 p:Pos
noncomputable def u'.lam(m:u'):Expr:=.Lambda ⟨[],[⟨m.y,none,m.i9⟩],none,[],[],none,[]⟩ (.Call (.Name "abs" m.p2) [.Subscript (.Name m.dJ m.p3) (.Name m.y m.p4) m.jD] [] m.jE) m.sc m.mY
noncomputable def u'.e(m:u'):Expr:=.Call (.Name "min" m.p1) [m.a] [⟨some "key",m.lam,m.kp⟩] m.p
variable {va dJ y:Str}
theorem Wc{e le lb:Expr}{c:Arguments}{f k d:Str}{sc:Scope}{g h i j:Pos}(b:e=.Call (.Name f h) [a] [⟨some k,le,j⟩] p)(O:le=.Lambda c lb sc g)(l:lb=.Call (.Name va p2) [.Subscript (.Name dJ p3) (.Name d p4) jD] [] jE)(m:c=⟨[],[⟨y,none,i⟩],none,[],[],none,[]⟩)(n:f = "min")(o:k = "key")(q:va = "abs")(r:d=y):e=(u'.mk a dJ y sc g h p2 p3 p4 jD jE i j p).e:=by
 subst n o q r m l O b;rfl
theorem Wd{e u v:Expr}{as:List Expr}(b:e=.Call f as [] jE)(O:f=.Name va p2)(c:as=[a])(d:a=.Subscript u v jD)(g:u=.Name dJ p3)(h:v=.Name y p4):e=.Call (.Name va p2) [.Subscript (.Name dJ p3) (.Name y p4) jD] [] jE:=by
 subst h g d c O b;rfl
def We(e:Expr):Option {q:Str×Str×Str×Pos×Pos×Pos×Pos×Pos // e=.Call (.Name q.1 q.2.2.2.1) [.Subscript (.Name q.2.1 q.2.2.2.2.1) (.Name q.2.2.1 (en q).2.1) (en q).2.2.1] [] (en q).2.2.2}:=(pf e).bind fun c=>(fK c.1.1).bind fun f=>(iL c.1.2.1).bind fun a=>(tn a.1).bind fun s=>(fK s.1.1).bind fun u=>(fK s.1.2.1).bind fun v=>
 some ⟨(f.1.1,u.1.1,v.1.1,f.1.2,u.1.2,v.1.2,s.1.2.2,c.1.2.2),Wd c.2 f.2 a.2 s.2 u.2 v.2⟩
noncomputable def Wf(e:Expr):Option {q:Arguments×Expr×Scope×Pos // e=.Lambda q.1 q.2.1 q.2.2.1 q.2.2.2}:=
 if h:e.ctorIdx=4 then anw (motive_1:=fun e=>Option {q:Arguments×Expr×Scope×Pos // e=.Lambda q.1 q.2.1 q.2.2.1 q.2.2.2}) e h fun la lb sc mY=>some ⟨(la,lb,sc,mY),rfl⟩ else none
noncomputable def Wg(k:Keyword):Option {q:Str×Expr×Pos // k=⟨some q.1,q.2.1,q.2.2⟩}:=match k with
 |⟨some k,l,kp⟩=>some ⟨(k,l,kp),rfl⟩
 |⟨none,V,f9⟩=>none
def apa(e:Expr):Option {q:Str×Pos×Expr×Str×Expr×Pos×Pos // e=.Call (.Name q.1 q.2.1) [q.2.2.1] [⟨some q.2.2.2.1,q.2.2.2.2.1,(en q).2.1⟩] (en q).2.2}:=
 if h:e.ctorIdx=16 then SV (motive_1:=fun e=>Option {q:Str×Pos×Expr×Str×Expr×Pos×Pos // e=.Call (.Name q.1 q.2.1) [q.2.2.1] [⟨some q.2.2.2.1,q.2.2.2.2.1,q.2.2.2.2.2.1⟩] q.2.2.2.2.2.2}) e h fun f l ks p=>(fK f).bind fun x=>(iL l).bind fun a=>(iL ks).bind fun k=>(Wg k.1).bind fun z=>some ⟨(x.1.1,x.1.2,a.1,z.1.1,z.1.2.1,z.1.2.2,p),D7 x.2 a.2 (k.2.trans (dt (fun z=>[z]) z.2))⟩ else none
noncomputable def Wi(la:Arguments):Option {q:Str×Pos // la=⟨[],[⟨q.1,none,q.2⟩],none,[],[],none,[]⟩}:=match la with
 |⟨[],[⟨y,none,i9⟩],none,[],[],none,[]⟩=>some ⟨(y,i9),rfl⟩
 |V=>none
def Ei(e:Expr):Option {m:u' // e=m.e}:=(apa e).bind fun c=>(Wf c.1.2.2.2.2.1).bind fun l=>(We l.1.2.1).bind fun b=>(Wi l.1.1).bind fun a=>
 if aO:c.1.1 = "min"/\c.1.2.2.2.1 = "key"/\b.1.1 = "abs"/\b.1.2.2.1=a.1.1 then
  some ⟨⟨c.1.2.2.1,b.1.2.1,a.1.1,l.1.2.2.1,l.1.2.2.2,c.1.2.1,b.1.2.2.2.1,b.1.2.2.2.2.1,b.1.2.2.2.2.2.1,b.1.2.2.2.2.2.2.1,b.1.2.2.2.2.2.2.2,a.1.2,c.1.2.2.2.2.2.1,c.1.2.2.2.2.2.2⟩,Wc c.2 l.2 b.2 a.2 aO.1 aO.2.1 aO.2.2.1 aO.2.2.2⟩ else none
def xD(sc:Scope)(dJ y:Str):Bool:=sc.kind==.function&&!sc.isCoroutine&&!sc.isGenerator&&(sc.names.all fun p=>p.2==.local||p.2==.globalImplicit||(p.2==.free&&p.1==dJ))&&sc.names.lookup y==some .local&&sc.names.lookup dJ==some .free&&sc.names.lookup ("abs":Str)==some .globalImplicit&&gA y&&gA dJ
noncomputable def vc(z:Bool):Str:=bif z then "zip" else "enumerate"
noncomputable def xE{α:Type}(l:List α):Option {q:α×α // l=[q.1,q.2]}:=match l with
 | [a,b]=>some ⟨(a,b),rfl⟩
 |V=>none
noncomputable def AM(x:Expr):Bool:=match x with
 |.Tuple ..=>true
 |V=>false
def mh(e:dH):cA->dI->List Stmt->Bool:=dH.rec (motive_1:=fun V=>cA->dI->Stmt->Bool) (motive_2:=fun V=>cA->dI->List Stmt->Bool)
 (fun i V e nm ac s=>aU (mf s) fun p=>aU (iL p.1.1) fun t=>aU (fK t.1) fun x=>ac.lookup x.1.1==some i&&kQ (nm.lookup x.1.1)&&bn e nm ac p.1.2.1)
 (fun o i V v nm ac s=>aU (mf s) fun p=>aU (iL p.1.1) fun t=>aU (tn t.1) fun q=>bn o nm ac q.1.1&&bn i nm ac q.1.2.1&&bn v nm ac p.1.2.1)
 (fun is e nm ac s=>aU (mf s) fun p=>aU (iL p.1.1) fun t=>aU (pe t.1) fun es=>!AM p.1.2.1&&jF nm ac is es.1.1&&bn e nm ac p.1.2.1)
 (fun o x V v nm ac s=>aU (mf s) fun p=>aU (iL p.1.1) fun t=>aU (rR t.1) fun q=>q.1.2.1==x&&bn o nm ac q.1.1&&bn v nm ac p.1.2.1)
 (fun t b V eR nm ac s=>aU (Ec s) fun p=>bn t nm ac p.1.1&&eR nm ac p.1.2.1)
 (fun e nm ac s=>aU (Ed s) fun p=>!tu p.1.1&&bn e nm ac p.1.1)
 (fun V e nm ac s=>aU (Ee s) fun p=>bn e nm ac p.1.1)
 (fun t b o eR tr nm ac s=>aU (Ef s) fun p=>bn t nm ac p.1.1&&eR nm ac p.1.2.1&&tr nm ac p.1.2.2.1)
 (fun t it b V eR nm ac s=>aU (xC s) fun p=>kR nm ac t p.1.1&&bn it nm ac p.1.2.1&&eR nm ac p.1.2.2.1)
 (fun V V V=>true)
 (fun b eR nm ac s=>aU (Eg s) fun p=>!p.1.2.1.isEmpty&&eR nm ac p.1.1)
 (fun i a r nl nm ac s=>aU (mf s) fun p=>aU (iL p.1.1) fun t=>aU (fK t.1) fun x=>aU (Ei p.1.2.1) fun m=>ac.lookup x.1.1==some i&&kQ (nm.lookup x.1.1)&&bn a nm ac m.1.a&&xD m.1.sc m.1.dJ m.1.y&&ac.lookup m.1.dJ==some r&&nm.lookup m.1.dJ==some .cell&&hZ (nm.lookup ("min":Str))&&decide (nm=nl)&&(nm.lookup (".0":Str)).isNone)
 (fun z is args b V eR nm ac s=>aU (xC s) fun p=>kR nm ac (.many is) p.1.1&&(aU (pf p.1.2.1) fun q=>aU (fK q.1.1) fun x=>hZ (nm.lookup x.1.1)&&x.1.1==vc z&&gA x.1.1&&fj args nm ac q.1.2.1)&&eR nm ac p.1.2.2.1)
 (fun i j a b nm ac s=>aU (mf s) fun p=>aU (iL p.1.1) fun t=>aU (pe t.1) fun es=>aU (xE es.1.1) fun ts=>aU (fK ts.1.1) fun x=>aU (fK ts.1.2) fun y=>aU (pe p.1.2.1) fun vs=>aU (xE vs.1.1) fun us=>
  ac.lookup x.1.1==some i&&ac.lookup y.1.1==some j&&nm.lookup x.1.1==some .local&&nm.lookup y.1.1==some .local&&!(x.1.1==y.1.1)&&(x.1.2.line==y.1.2.line)&&!(oX 8 us.1.1&&oX 8 us.1.2)&&!(oY 8 us.1.1&&oY 8 us.1.2)&&bn a nm ac us.1.1&&bn b nm ac us.1.2)
 (fun V V l=>l.isEmpty)
 (fun s ss is Ej nm ac l=>aU l.head? fun a=>is nm ac a&&Ej nm ac l.tail) e
def LX(s:o6):cA->dI->Stmt->Bool:=o6.rec (motive_1:=fun V=>cA->dI->Stmt->Bool) (motive_2:=fun V=>cA->dI->List Stmt->Bool)
 (fun i V e nm ac s=>aU (mf s) fun p=>aU (iL p.1.1) fun t=>aU (fK t.1) fun x=>ac.lookup x.1.1==some i&&kQ (nm.lookup x.1.1)&&bn e nm ac p.1.2.1)
 (fun o i V v nm ac s=>aU (mf s) fun p=>aU (iL p.1.1) fun t=>aU (tn t.1) fun q=>bn o nm ac q.1.1&&bn i nm ac q.1.2.1&&bn v nm ac p.1.2.1)
 (fun is e nm ac s=>aU (mf s) fun p=>aU (iL p.1.1) fun t=>aU (pe t.1) fun es=>!AM p.1.2.1&&jF nm ac is es.1.1&&bn e nm ac p.1.2.1)
 (fun o x V v nm ac s=>aU (mf s) fun p=>aU (iL p.1.1) fun t=>aU (rR t.1) fun q=>q.1.2.1==x&&bn o nm ac q.1.1&&bn v nm ac p.1.2.1)
 (fun t b V eR nm ac s=>aU (Ec s) fun p=>bn t nm ac p.1.1&&eR nm ac p.1.2.1)
 (fun e nm ac s=>aU (Ed s) fun p=>!tu p.1.1&&bn e nm ac p.1.1)
 (fun V e nm ac s=>aU (Ee s) fun p=>bn e nm ac p.1.1)
 (fun t b o eR tr nm ac s=>aU (Ef s) fun p=>bn t nm ac p.1.1&&eR nm ac p.1.2.1&&tr nm ac p.1.2.2.1)
 (fun t it b V eR nm ac s=>aU (xC s) fun p=>kR nm ac t p.1.1&&bn it nm ac p.1.2.1&&eR nm ac p.1.2.2.1)
 (fun V V V=>true)
 (fun b eR nm ac s=>aU (Eg s) fun p=>!p.1.2.1.isEmpty&&eR nm ac p.1.1)
 (fun i a r nl nm ac s=>aU (mf s) fun p=>aU (iL p.1.1) fun t=>aU (fK t.1) fun x=>aU (Ei p.1.2.1) fun m=>ac.lookup x.1.1==some i&&kQ (nm.lookup x.1.1)&&bn a nm ac m.1.a&&xD m.1.sc m.1.dJ m.1.y&&ac.lookup m.1.dJ==some r&&nm.lookup m.1.dJ==some .cell&&hZ (nm.lookup ("min":Str))&&decide (nm=nl)&&(nm.lookup (".0":Str)).isNone)
 (fun z is args b V eR nm ac s=>aU (xC s) fun p=>kR nm ac (.many is) p.1.1&&(aU (pf p.1.2.1) fun q=>aU (fK q.1.1) fun x=>hZ (nm.lookup x.1.1)&&x.1.1==vc z&&gA x.1.1&&fj args nm ac q.1.2.1)&&eR nm ac p.1.2.2.1)
 (fun i j a b nm ac s=>aU (mf s) fun p=>aU (iL p.1.1) fun t=>aU (pe t.1) fun es=>aU (xE es.1.1) fun ts=>aU (fK ts.1.1) fun x=>aU (fK ts.1.2) fun y=>aU (pe p.1.2.1) fun vs=>aU (xE vs.1.1) fun us=>
  ac.lookup x.1.1==some i&&ac.lookup y.1.1==some j&&nm.lookup x.1.1==some .local&&nm.lookup y.1.1==some .local&&!(x.1.1==y.1.1)&&(x.1.2.line==y.1.2.line)&&!(oX 8 us.1.1&&oX 8 us.1.2)&&!(oY 8 us.1.1&&oY 8 us.1.2)&&bn a nm ac us.1.1&&bn b nm ac us.1.2)
 (fun V V l=>l.isEmpty)
 (fun s ss is Ej nm ac l=>aU l.head? fun a=>is nm ac a&&Ej nm ac l.tail) s
theorem LY{e:Expr}{f:_->Bool}(h:aU (LO e) f=true):∃k a b,e=.Constant k a b:=(gB h).elim fun q V=>⟨_,_,_,q.2⟩
theorem jI{e:Expr}{f:_->Bool}(h:aU (fK e) f=true):∃x p,e=.Name x p:=(gB h).elim fun q V=>⟨_,_,q.2⟩
theorem vd{e:Expr}{f:_->Bool}(h:aU (D8 e) f=true):∃o vs p,e=.BoolOp o vs p:=(gB h).elim fun q V=>⟨_,_,_,q.2⟩
theorem LZ{e:Expr}{f:_->Bool}(h:aU (LP e) f=true):∃l o r p,e=.BinOp l o r p:=(gB h).elim fun q V=>⟨_,_,_,_,q.2⟩
theorem xF{e:Expr}{f:_->Bool}(h:aU (D9 e) f=true):∃o x p,e=.UnaryOp o x p:=(gB h).elim fun q V=>⟨_,_,_,q.2⟩
theorem L0{e:Expr}{f:_->Bool}(h:aU (LQ e) f=true):∃l o r p,e=.Compare l o r p:=(gB h).elim fun q V=>⟨_,_,_,_,q.2⟩
theorem rS{e:Expr}{f:_->Bool}(h:aU (pe e) f=true):∃es c p,e=.Tuple es c p:=(gB h).elim fun q V=>⟨_,_,_,q.2⟩
theorem L1{e:Expr}{f:_->Bool}(h:aU (LR e) f=true):∃es p,e=.List es p:=(gB h).elim fun q V=>⟨_,_,q.2⟩
theorem L2{e:Expr}{f:_->Bool}(h:aU (LS e) f=true):∃p,e=.Dict [] [] p:=(gB h).elim fun q V=>⟨_,q.2⟩
theorem tv{e:Expr}{f:_->Bool}(h:aU (tn e) f=true):∃v i p,e=.Subscript v i p:=(gB h).elim fun q V=>⟨_,_,_,q.2⟩
theorem L3{l:List α}{f:_->Bool}(h:aU (xE l) f=true):∃a b,l=[a,b]:=(gB h).elim fun q V=>⟨_,_,q.2⟩
theorem L4{e:Expr}{f:_->Bool}(h:aU (D' e) f=true):∃a b c p,e=.Slice a b c p:=(gB h).elim fun q V=>⟨_,_,_,_,q.2⟩
theorem Wj{e:Expr}{f:_->Bool}(h:aU (LU e) f=true):∃e' gs sc p,e=.ListComp e' gs sc p:=(gB h).elim fun q V=>⟨_,_,_,_,q.2⟩
theorem Ek{e:Expr}{f:_->Bool}(h:aU (LV e) f=true):∃t a b p,e=.IfExp t a b p:=(gB h).elim fun q V=>⟨_,_,_,_,q.2⟩
theorem xG{e:Expr}{f:_->Bool}(h:aU (rR e) f=true):∃v x p,e=.Attribute v x p:=(gB h).elim fun q V=>⟨_,_,_,q.2⟩
theorem nZ{e:Expr}{f:_->Bool}(h:aU (pf e) f=true):∃g as p,e=.Call g as [] p:=(gB h).elim fun q V=>⟨_,_,_,q.2⟩
variable {s:Stmt}
theorem ve{f:_->Bool}(h:aU (mf s) f=true):∃a v p,s=.Assign a v p:=(gB h).elim fun q V=>⟨_,_,_,q.2⟩
theorem Wk{f:_->Bool}(h:aU (Ec s) f=true):∃t b p,s=.While t b [] p:=(gB h).elim fun q V=>⟨_,_,_,q.2⟩
theorem Wl{f:_->Bool}(h:aU (Ed s) f=true):∃v p,s=.Expr v p:=(gB h).elim fun q V=>⟨_,_,q.2⟩
theorem Wm{f:_->Bool}(h:aU (Ee s) f=true):∃v p,s=.Return (some v) p:=(gB h).elim fun q V=>⟨_,_,q.2⟩
theorem Wn{f:_->Bool}(h:aU (Ef s) f=true):∃t b o p,s=.If t b o p:=(gB h).elim fun q V=>⟨_,_,_,_,q.2⟩
theorem Wo{f:_->Bool}(h:aU (Eg s) f=true):∃b a p,s=.Try b a [] [] p:=(gB h).elim fun q V=>⟨_,_,_,q.2⟩
theorem L5{f:_->Bool}(h:aU (xC s) f=true):∃bQ it b p,s=.For bQ it b [] p:=(gB h).elim fun q V=>⟨_,_,_,_,q.2⟩
theorem L6{l:List α}{f:_->Bool}(h:aU (iL l) f=true):∃a,l=[a]:=(gB h).elim fun q V=>⟨_,q.2⟩
end
set_option backward.match.sparseCases true
section
open PySem
structure bS where
 aL:List Addr
 bD:Addr->Prop
 lk:Addr->Prop
inductive lA (R:an2->Value->Prop):List an2->List Value->Prop where
 |nil:lA R [] []
 |cons {v:an2} {x:Value} {l:List an2} {r:List Value}:R v x->lA R l r->lA R (v::l) (x::r)
inductive aoz (R:an2->Value->Prop):List (Str×an2)->List (Str×Value)->Prop where
 |nil:aoz R [] []
 |cons {k:Str} {v:an2} {x:Value} {l:List (Str×an2)} {r:List (Str×Value)}:R v x->aoz R l r->aoz R ((k,v)::l) ((k,x)::r)
variable {R S:an2->Value->Prop}
theorem lA.imp(f:∀v x,R v x->S v x){l:List an2}{r:List Value}(a:lA R l r):lA S l r:=a.rec .nil fun p V q=>.cons (f _ _ p) q
theorem aoz.imp(f:∀v x,R v x->S v x){l:List (Str×an2)}{r:List (Str×Value)}(a:aoz R l r):aoz S l r:=a.rec .nil fun p V q=>.cons (f _ _ p) q
section
variable (prog:Program)(w:World)(g:bS)(h:Heap)
def AN(h:Heap)(a:Addr)(lo hi:Int):Prop:=lo.natAbs<=1000000/\hi.natAbs<=1000000/\∃t u v,IsRange h a lo hi 1 t u v
def qo(h:Heap)(a:Addr)(vs:Array Value):Prop:=∃n,h.get? a=some {cls:=.type "tuple",dict:=none,data:=.seq vs n,slots:=#[]}
def mZ(h:Heap)(a:Addr)(vs:Array Value):Prop:=∃n,h.get? a=some {cls:=.type "list",dict:=none,data:=.seq vs n,slots:=#[]}
def vf(P:an2->Value->Prop)(z:an2)(x:Value):Prop:=match z with
 |.none=>x=.none
 |.bool b=>x=.bool b
 |.int i=>∃t,x=.int i t
 |.str y=>∃t,x=.str y t
 |.tup l=>∃a vs,x=.ref a/\g.bD a/\qo h a vs/\lA P l vs.toList
 |.lst l=>∃a vs,x=.ref a/\g.bD a/\mZ h a vs/\lA P l vs.toList
 |.ba l=>∃a kvs,x=.ref a/\g.bD a/\a≠mM/\h.DictOf (strKind prog w) a kvs/\aoz P l kvs
 |.eP lo hi=>∃a,x=.ref a/\g.bD a/\AN h a lo hi
 |.ref i=>∃a,x=.ref a/\g.aL[i]?=some a
 |.undef=>False
structure bU (v:an2)(x:Value):Prop where
 go:∀P:an2->Value->Prop,(∀v x,vf prog w g h P v x->P v x)->P v x
noncomputable abbrev dA:=lA (bU prog w g h)
noncomputable abbrev e0:=aoz (bU prog w g h)
structure lB where
 C:Addr
 N:Addr
 mN:Str->Option Value
variable (cls:Str->Option lB)(lam:Addr×Addr×Str)
def L7(h:Heap)(a C dx:Addr):Prop:=∃o,h.get? a=some o/\o.cls=.ref C/\(∀c,o.data≠.cls c)/\o.dict=some dx/\dx≠a
def n1(l:List (Str×an2))(m:Str->Option Value):Prop:=∀k,(∀v,cp l k=some v->∃x,m k=some x/\bU prog w g h v x)/\(cp l k=none->m k=none)
def AO(q:Str)(a:Addr):Prop:=a=lam.2.1/\q=lam.2.2++"<lambda>"/\∃ps,h.get? a=some (uN ps)/\TriplesOk ps.toList/\∀pos lC,zP pos ps.toList=some lC->∃c,lC=.ref c/\g.bD c/\h.CodeRec lC q
def AP(x:bb)(a:Addr):Prop:=match x with
 |.list b l=>(b=true↔g.lk a)/\∃vs,mZ h a vs/\dA prog w g h l vs.toList
 |.dict b l=>(b=true↔g.lk a)/\∃kvs,h.DictOf (strKind prog w) a kvs/\e0 prog w g h l kvs
 |.inst k d=>¬g.lk a/\∃I dx,cls k=some I/\g.aL[d]?=some dx/\L7 h a I.C dx
 |.ns l=>¬g.lk a/\∃m,h.Ns1 a m/\n1 prog w g h l m
 |.tab q=>¬g.lk a/\AO g h lam q a
structure Rel (B:Heap)(σ:ah):Prop where
 len:g.aL.length=σ.length
 nodup:g.aL.Nodup
 fz:∀a∈g.aL,¬g.bD a
 iq:∀a,g.lk a->a∈g.aL
 live:∀a,g.bD a->(h.get? a).isSome=true
 base:∀b o,B.get? b=some o->h.get? b=some o
 kl:∀a∈g.aL,B.get? a=none
 objs:∀(i:Nat) o a,σ[i]?=some o->g.aL[i]?=some a->AP prog w g h cls lam o a
end
variable {h h':Heap}{a:Addr}
theorem AO.mono{g g':bS}{lam:Addr×Addr×Str}{q:Str}(x:AO g h lam q a)(b:∀a,g.bD a->g'.bD a)(d:∀c o,g.bD c->h.get? c=some o->h'.get? c=some o)(f:∀o,h.get? a=some o->h'.get? a=some o):AO g' h' lam q a:=
 let ⟨e,eq,ps,an1,O,ag⟩:=x
 ⟨e,eq,ps,f _ an1,O,fun pos i q=>by obtain⟨c,ay,az,j⟩:=ag pos i q;exact⟨c,ay,b c az,by subst ay;exact j.at fun o e=>d c o az e⟩⟩
noncomputable def qp(x:Data):Bool:=match x with
 |.dict V f9=>true
 |V=>false
def kS(o:Obj):Bool:=qp o.data
def pg(o o':Obj):Prop:=o'=o\/(kS o=true/\∃sl,o'={o with slots:=sl})
theorem pg.eq{o a:Obj}(x:pg o a)(h:Mine.Internal.kS o=false):a=o:=x.elim id fun q=>by rw[h]at q;cases q.1
theorem pg.trans{a b c:Obj}(x:pg a b)(y:pg b c):pg a c:=by
 rcases x with rfl |⟨d,sl,rfl⟩
 ·exact y
 ·rcases y with rfl |⟨V,e,rfl⟩
  ·exact .inr ⟨d,sl,rfl⟩
  ·exact .inr ⟨d,e,rfl⟩
theorem pg.ns{m:Str->Option Value}(e:∀o,h.get? a=some o->∃b,h'.get? a=some b/\pg o b)(x:h.Ns a m):h'.Ns a m:=by
 obtain⟨o,es,ep,c,O,r⟩:=x;refine aw (e o c) fun b d f=>?_;rcases f with rfl |⟨V,sl,rfl⟩
 ·exact⟨_,es,ep,d,O,r⟩
 ·exact⟨_,es,ep,d,O,r⟩
structure Ext (own:Addr->Prop)(g:bS)(s:Shared)(g':bS)(s':Shared):Prop where
 pre:g.aL <+: g'.aL
 sub:∀a,g.bD a->g'.bD a
 n2:∀a∈g'.aL,a∈g.aL\/s.heap.get? a=none
 n3:∀a,g'.bD a->g.bD a\/s.heap.get? a=none
 lock:g'.lk=g.lk
 keep:∀b o,s.heap.get? b=some o->b∉g.aL->¬own b->∃o',s'.heap.get? b=some o'/\pg o o'
 i':∀b o,s.heap.get? b=some o->(b∉g.aL/\g.bD b\/g.lk b)->¬own b->s'.heap.get? b=some o
 live:∀b,(s.heap.get? b).isSome=true->(s'.heap.get? b).isSome=true
 gens:s'.gens=s.gens
 os:s'.os=s.os
abbrev cG:Addr->Prop:=fun V=>False
theorem ec{α:Type}{x:Option α}{a:α}(h:x=some a):x.isSome=true:=by rw[h];rfl
theorem xH{s s':Shared}(a:∀b,(s.heap.get? b).isSome=true->(s'.heap.get? b).isSome=true){b:Addr}(e:s'.heap.get? b=none):s.heap.get? b=none:=by
 cases c:s.heap.get? b with
 |none=>rfl
 |some o=>have:=a b (ec c);rw[e]at this;cases this
namespace Ext
variable {own xI:Addr->Prop}{g g' L8:bS}{s s' L9:Shared}
theorem refl(g:bS)(s:Shared):Ext own g s g s:=
 ⟨hT _,fun V h=>h,fun V h=>.inl h,fun V h=>.inl h,rfl,fun V o e V V=>⟨o,e,.inl rfl⟩,fun V V e V V=>e,fun V h=>h,rfl,rfl⟩
theorem ph(e:Ext own g s g' s'){b:Addr}{o:Obj}(c:s.heap.get? b=some o)(hn:b∉g.aL):b∉g'.aL:=fun d=>
 (e.n2 b d).elim hn fun a=>by rw[c]at a;cases a
theorem tw(e:Ext own g s g' s'){b:Addr}{o:Obj}(c:s.heap.get? b=some o)(hn:¬g.bD b):¬g'.bD b:=fun d=>
 (e.n3 b d).elim hn fun a=>by rw[c]at a;cases a
theorem trans(x:Ext own g s g' s')(y:Ext own g' s' L8 L9):Ext own g s L8 L9 where
 pre:=x.pre.trans y.pre
 sub:=fun a h=>y.sub a (x.sub a h)
 n2:=fun a h=>(y.n2 a h).elim (x.n2 a) fun q=>.inr (xH x.live q)
 n3:=fun a h=>(y.n3 a h).elim (x.n3 a) fun q=>.inr (xH x.live q)
 lock:=y.lock.trans x.lock
 keep:=fun b o e hn c=>by
  refine aw (x.keep b o e hn c) fun f d O=>?_;refine aw (y.keep b f d (x.ph e hn) c) fun i j k=>?_;exact⟨i,j,O.trans k⟩
 i':=fun b o e hn c=>y.i' b o (x.i' b o e hn c) (hn.imp (fun q=>⟨x.ph e q.1,x.sub b q.2⟩) fun q=>x.lock▸q) c
 live:=fun b h=>y.live b (x.live b h)
 gens:=y.gens.trans x.gens
 os:=y.os.trans x.os
theorem mono(x:Ext own g s g' s')(h:∀a,own a->xI a):Ext xI g s g' s':=
 {x with keep:=fun b o e hn c=>x.keep b o e hn fun q=>c (h b q),i':=fun b o e hn c=>x.i' b o e hn fun q=>c (h b q)}
theorem weaken(x:Ext cG g s g' s'):Ext own g s g' s':=x.mono fun V h=>h.elim
theorem pi(x:Ext own g s g' s'){b:Addr}{o:Obj}(e:s.heap.get? b=some o)(hn:b∉g.aL)(c:¬own b)(d:kS o=false):s'.heap.get? b=some o:=by
 refine aw (x.keep b o e hn c) fun f a O=>?_;rw[a,O.eq d]
theorem El(x:Ext own g s g' s'){b:Addr}{m:Str->Option Value}(e:s.heap.Ns b m)(hn:b∉g.aL)(a:¬own b):s'.heap.Ns b m:=pg.ns (fun o q=>x.keep b o q hn a) e
def _root_.Mine.Internal.Fast(g:bS)(h:Heap)(b:Addr):Prop:=∃o,h.get? b=some o/\(b∉g.aL/\(g.bD b\/kS o=false)\/g.lk b)
theorem fast(x:Ext own g s g' s'){b:Addr}(d:¬own b)(f:Fast g s.heap b):Fast g' s'.heap b/\∀o,s.heap.get? b=some o->s'.heap.get? b=some o:=by
 obtain⟨o,c,O⟩:=f;have h:s'.heap.get? b=some o:=by
  rcases O with⟨a,q|q⟩|q
  ·exact x.i' b o c (.inl ⟨a,q⟩) d
  ·exact x.pi c a d q
  ·exact x.i' b o c (.inr q) d
 refine⟨⟨o,h,O.imp (fun q=>⟨x.ph c q.1,q.2.imp (x.sub b) id⟩) fun q=>by rw[x.lock];exact q⟩,fun i e=>?_⟩;rw[c]at e;cases e;exact h
theorem toks{t:Nat}(x:Ext own g s g' s'):Ext own g s g' {s' with toks:=t}:=
 {x with}
end Ext
section
variable {prog:Program}{w:World}{g g':bS}{h h':Heap}
theorem Fast.but{b:Addr}(f:Fast g h b)(c:∀o,h.get? b=some o->h'.get? b=some o):Fast g h' b:=by obtain⟨o,a,O⟩:=f;exact⟨o,c o a,O⟩
variable {P:an2->Value->Prop}
theorem vf.imp{Q:an2->Value->Prop}(f:∀v x,P v x->Q v x){v:an2}{x:Value}(s:vf prog w g h P v x):vf prog w g h Q v x:=by
 cases v with
 |tup l=>exact i5 s fun a vs e b O c=>⟨a,vs,e,b,O,c.imp f⟩
 |lst l=>exact i5 s fun a vs e b O c=>⟨a,vs,e,b,O,c.imp f⟩
 |ba l=>exact s5 s fun a vs e b O c d=>⟨a,vs,e,b,O,c,d.imp f⟩
 |_=>exact s
variable {v:an2}{x:Value}
theorem bU.of(s:vf prog w g h (bU prog w g h) v x):bU prog w g h v x:=⟨fun P c=>c _ _ (s.imp fun V V q=>q.go P c)⟩
theorem bU.un(q:bU prog w g h v x):vf prog w g h (bU prog w g h) v x:=q.go _ fun V V s=>s.imp fun V V q=>.of q
theorem bU.none:bU prog w g h .none .none:=.of rfl
theorem bU.bool(b:Bool):bU prog w g h (.bool b) (.bool b):=.of rfl
theorem bU.int(i:Int)(t:Tok):bU prog w g h (.int i) (.int i t):=.of ⟨t,rfl⟩
theorem bU.str(x:Str)(t:Tok):bU prog w g h (.str x) (.str x t):=.of ⟨t,rfl⟩
variable {a:Addr}{vs:Array Value}
theorem bU.tup{l:List an2}(b:g.bD a)(O:qo h a vs)(c:dA prog w g h l vs.toList):bU prog w g h (.tup l) (.ref a):=.of ⟨a,vs,rfl,b,O,c⟩
theorem bU.lst{l:List an2}(b:g.bD a)(O:mZ h a vs)(c:dA prog w g h l vs.toList):bU prog w g h (.lst l) (.ref a):=.of ⟨a,vs,rfl,b,O,c⟩
variable {l:List (Str×an2)}
theorem bU.ba{kvs:List (Str×Value)}(b:g.bD a)(O:a≠mM)(c:h.DictOf (strKind prog w) a kvs)(d:e0 prog w g h l kvs):bU prog w g h (.ba l) (.ref a):=.of ⟨a,kvs,rfl,b,O,c,d⟩
theorem bU.eP{lo hi:Int}(b:g.bD a)(O:AN h a lo hi):bU prog w g h (.eP lo hi) (.ref a):=.of ⟨a,rfl,b,O⟩
theorem bU.ref{i:Nat}(b:g.aL[i]?=some a):bU prog w g h (.ref i) (.ref a):=.of ⟨a,rfl,b⟩
theorem bU.ind{Q:List an2->List Value->Prop}{S:List (Str×an2)->List (Str×Value)->Prop}
  (j:P .none .none) (O:∀b,P (.bool b) (.bool b)) (o:∀i t,P (.int i) (.int i t)) (u:∀x t,P (.str x) (.str x t))
  (z:∀l a vs,g.bD a->qo h a vs->dA prog w g h l vs.toList->Q l vs.toList->P (.tup l) (.ref a))
  (A:∀l a vs,g.bD a->mZ h a vs->dA prog w g h l vs.toList->Q l vs.toList->P (.lst l) (.ref a))
  (B:∀l a kvs,g.bD a->a≠mM->h.DictOf (strKind prog w) a kvs->e0 prog w g h l kvs->S l kvs->P (.ba l) (.ref a))
  (C:∀lo hi a,g.bD a->AN h a lo hi->P (.eP lo hi) (.ref a)) (D:∀i a,g.aL[i]?=some a->P (.ref i) (.ref a))
  (E:Q [] []) (F:∀v x l r,bU prog w g h v x->dA prog w g h l r->P v x->Q l r->Q (v::l) (x::r))
  (G:S [] []) (H:∀k v x l r,bU prog w g h v x->e0 prog w g h l r->P v x->S l r->S ((k,v)::l) ((k,x)::r)) :
  (∀{v x},bU prog w g h v x->P v x)/\(∀{l r},dA prog w g h l r->Q l r)/\∀{l r},e0 prog w g h l r->S l r:=by
 have az:∀{l r},lA (fun v x=>bU prog w g h v x/\P v x) l r->dA prog w g h l r/\Q l r:=fun a=>a.rec ⟨.nil,E⟩ fun p V q=>⟨.cons p.1 q.1,F _ _ _ _ p.1 q.1 p.2 q.2⟩;have m:∀{l r},aoz (fun v x=>bU prog w g h v x/\P v x) l r->e0 prog w g h l r/\S l r:=fun a=>a.rec ⟨.nil,G⟩ fun p V q=>⟨.cons p.1 q.1,H _ _ _ _ _ p.1 q.1 p.2 q.2⟩;have ay:∀v x,bU prog w g h v x->bU prog w g h v x/\P v x:=fun v x a=>a.go (fun v x=>bU prog w g h v x/\P v x) fun v x s=>by
  refine⟨.of (s.imp fun V V q=>q.1),?_⟩;cases v with
  |none=>exact(show x=.none from s)▸j
  |bool b=>exact(show x=.bool b from s)▸O b
  |int i=>exact bK s fun t e=>e▸o i t
  |str y=>exact bK s fun t e=>e▸u y t
  |tup l=>exact i5 s fun a vs e c d f=>e▸z _ _ _ c d (az f).1 (az f).2
  |lst l=>exact i5 s fun a vs e c d f=>e▸A _ _ _ c d (az f).1 (az f).2
  |ba l=>exact s5 s fun a vs e c d f n=>e▸B _ _ _ c d f (m n).1 (m n).2
  |eP lo hi=>exact fS s fun a e c d=>e▸C _ _ _ c d
  |ref i=>exact aw s fun a e c=>e▸D _ _ c
  |undef=>exact s.elim
 exact⟨fun a=>(ay _ _ a).2,fun a=>(az (a.imp ay)).2,fun a=>(m (a.imp ay)).2⟩
theorem bU.Ep(k:g.aL <+: g'.aL)(f:∀a,g.bD a->g'.bD a)(i:∀a o,g.bD a->h.get? a=some o->h'.get? a=some o) :
  (∀{v x},bU prog w g h v x->bU prog w g' h' v x)/\(∀{l r},dA prog w g h l r->dA prog w g' h' l r)/\∀{l r},e0 prog w g h l r->e0 prog w g' h' l r:=
 bU.ind .none .bool .int .str (fun V V V c d V q=>.tup (f _ c) (d.elim fun n e=>⟨n,i _ _ c e⟩) q) (fun V V V c d V q=>.lst (f _ c) (d.elim fun n e=>⟨n,i _ _ c e⟩) q)
  (fun V V V c m d V q=>.ba (f _ c) m (by obtain⟨o,es,ep,e,r⟩:=d;exact⟨o,es,ep,i _ _ c e,r⟩) q) (fun V V V c d=>.eP (f _ c) (by obtain⟨p,s,t,u,v,e⟩:=d;exact⟨p,s,t,u,v,i _ _ c e⟩))
  (fun V V hi=>.ref (by
   obtain⟨t,ht⟩:=k;have j:=(dN.mp hi).1;rw[<- ht,mS j];exact hi)) .nil (fun V V V V V V a b=>.cons a b) .nil (fun V V V V V V V a b=>.cons a b)
theorem bU.mono(b:g.aL <+: g'.aL)(c:∀a,g.bD a->g'.bD a)(d:∀a o,g.bD a->h.get? a=some o->h'.get? a=some o){v:an2}{x:Value}:bU prog w g h v x->bU prog w g' h' v x:=(bU.Ep b c d).1
theorem dA.mono(b:g.aL <+: g'.aL)(c:∀a,g.bD a->g'.bD a)(d:∀a o,g.bD a->h.get? a=some o->h'.get? a=some o){l:List an2}{r:List Value}:dA prog w g h l r->dA prog w g' h' l r:=(bU.Ep b c d).2.1
theorem e0.mono(b:g.aL <+: g'.aL)(c:∀a,g.bD a->g'.bD a)(d:∀a o,g.bD a->h.get? a=some o->h'.get? a=some o){l:List (Str×an2)}{r:List (Str×Value)}:e0 prog w g h l r->e0 prog w g' h' l r:=(bU.Ep b c d).2.2
theorem mi{h:Heap}(x:mZ h a vs):h.IsList a vs:=by obtain⟨n,e⟩:=x;exact⟨_,e,rfl,n,rfl⟩
theorem pj{h:Heap}(x:qo h a vs):h.IsTuple a vs:=by obtain⟨n,e⟩:=x;exact⟨_,e,rfl,n,rfl⟩
theorem bU.Er:(∀{v x},bU prog w g h v x->True)/\(∀{l r},dA prog w g h l r->l.length=r.length)/\∀{l r},e0 prog w g h l r->l.length=r.length/\r.map bz=l.map bz:=
 bU.ind trivial (fun V=>trivial) (fun V V=>trivial) (fun V V=>trivial) (fun V V V V V V V=>trivial) (fun V V V V V V V=>trivial) (fun V V V V V V V V=>trivial) (fun V V V V V=>trivial) (fun V V V=>trivial)
  rfl (fun V V V V V V V q=>dt Iu q) ⟨rfl,rfl⟩ (fun V V V V V V V V q=>⟨dt Iu q.1,dt (Iv _) q.2⟩)
theorem dA.length{l:List an2}{r:List Value}(q:dA prog w g h l r):l.length=r.length:=bU.Er.2.1 q
variable {r:List (Str×Value)}
theorem e0.length(q:e0 prog w g h l r):l.length=r.length:=(bU.Er.2.2 q).1
theorem dA.get{l:List an2}{r:List Value}(b:dA prog w g h l r):∀{i:Nat} {v:an2},l[i]?=some v->∃x,r[i]?=some x/\bU prog w g h v x:=by
 induction l generalizing r with
 |nil=>intro i v e;simp at e
 |cons a l ih=>
  intro i v e;cases b with
  |cons c d=>
   cases i with
   |zero=>simp only[List.getElem?_cons_zero,SW]at e;subst e;exact⟨_,rfl,c⟩
   |succ i=>simp only[List.getElem?_cons_succ]at e ⊢;exact ih d e
theorem n1.mono(c:g.aL <+: g'.aL)(d:∀a,g.bD a->g'.bD a)(f:∀a o,g.bD a->h.get? a=some o->h'.get? a=some o){l:List (Str×an2)}{m:Str->Option Value}(q:n1 prog w g h l m):n1 prog w g' h' l m:=
 fun k=>⟨fun v e=>by obtain⟨x,b,O⟩:=(q k).1 v e;exact⟨x,b,O.mono c d f⟩,(q k).2⟩
theorem dA.setAt{l:List an2}{r:List Value}(c:dA prog w g h l r)(j:Nat)(d:bU prog w g h v x):dA prog w g h (l.set j v) (r.set j x):=by
 induction l generalizing r j with
 |nil=>cases c;exact .nil
 |cons a l ih=>
  cases c with
  |cons b O=>
   cases j with
   |zero=>exact .cons d O
   |succ j=>exact .cons b (ih O j)
theorem dA.take{l:List an2}{r:List Value}(c:dA prog w g h l r)(n:Nat):dA prog w g h (l.take n) (r.take n):=by
 induction n generalizing l r with
 |zero=>simpa using lA.nil
 |succ n ih=>cases c with
  |nil=>simpa using lA.nil
  |cons a b=>simpa using lA.cons a (ih b)
theorem dA.drop{l:List an2}{r:List Value}(c:dA prog w g h l r)(n:Nat):dA prog w g h (l.drop n) (r.drop n):=by
 induction n generalizing l r with
 |zero=>simpa using c
 |succ n ih=>cases c with
  |nil=>simpa using lA.nil
  |cons a b=>simpa using ih b
theorem dA.append{b l₂:List an2}{c r₂:List Value}(h₁:dA prog w g h b c)(d:dA prog w g h l₂ r₂):dA prog w g h (b++l₂) (c++r₂):=by
 induction b generalizing c with
 |nil=>cases h₁;exact d
 |cons a l ih=>cases h₁ with|cons e f=>exact .cons e (ih f)
theorem e0.keys(q:e0 prog w g h l r):r.map bz=l.map bz:=(bU.Er.2.2 q).2
theorem e0.get(a:e0 prog w g h l r)(k:Str):match cp l k with
  |some v=>∃x,zQ r k=some x/\bU prog w g h v x
  |none=>zQ r k=none:=by
 induction l generalizing r with
 |nil=>cases a;simp[cp,zQ]
 |cons p l ih=>
  cases a with
  |@cons k' v x _ r ai af=>
   have:=ih af;by_cases b:k'=k
   ·subst b;simpa [cp,zQ] using ai
   ·simpa [cp,zQ,It,b] using this
theorem e0.has(a:e0 prog w g h l r)(k:Str):(r.any fun kv=>kv.1=k)=Ax l k:=by
 induction l generalizing r with
 |nil=>cases a;rfl
 |cons p l ih=>cases a with|cons _ b=>simp only[Iw,Ax];rw[ih b];rfl
theorem e0.put(a:e0 prog w g h l r){k:Str}{v:an2}{x:Value}(f:bU prog w g h v x):e0 prog w g h (b6 l k v) (stored r k x):=by
 have d:=a.has k;unfold b6 stored;rw[d];show e0 prog w g h (if Ax l k=true then _ else _) (if Ax l k=true then _ else _);have b:e0 prog w g h (l.map fun kv=>if kv.1=k then (kv.1,v) else kv) (r.map fun kv=>if kv.1=k then (kv.1,x) else kv):=by
  clear d
  induction l generalizing r with
  |nil=>cases a;exact .nil
  |cons p l ih=>
   cases a with
   |@cons k' _ _ _ _ e c=>
    simp only[gu];by_cases i:k'=k
    ·simp only[i,if_true];exact .cons f (ih c)
    ·simp only[i,if_false];exact .cons e (ih c)
 have O:e0 prog w g h (l++[(k,v)]) (r++[(k,x)]):=by
  clear d b
  induction l generalizing r with
  |nil=>cases a;exact .cons f .nil
  |cons p l ih=>cases a with|cons e c=>exact .cons e (ih c)
 split
 ·exact b
 ·exact O
end
section
open PyProof.Rows PySem.SeqAt PySem.Calls PySem.W
structure Fix where
 prog:Program
 w:World
 B:Heap
 mg:Str->Option Value
 mb:Str->Option Value
 cls:Str->Option lB
 lam:Addr×Addr×Str
 lnm:cA
abbrev Fix.bU(C:Fix)(g:bS)(h:Heap):=Mine.Internal.bU C.prog C.w g h
abbrev Fix.dA(C:Fix)(g:bS)(h:Heap):=Mine.Internal.dA C.prog C.w g h
abbrev Fix.e0(C:Fix)(g:bS)(h:Heap):=Mine.Internal.e0 C.prog C.w g h
abbrev Fix.AP(C:Fix)(g:bS)(h:Heap):=Mine.Internal.AP C.prog C.w g h C.cls C.lam
noncomputable def jJ(h:Heap)(L:Addr):Heap:=h.update L fun o=>{o with data:=.freed}
structure Fix.OK (C:Fix):Prop where
 g:C.B.Ns gr C.mg
 b:C.B.Ns mL C.mb
 nolimit:C.B.NoLimit
 nodigits:∃mc,C.B.Ns Ir mc/\mc "sys.int_max_str_digits"=none
 builtins:∀x:Str,x ≠ "__name__"->C.mb x=bootBuiltins x
 seer:C.B.NoSeer
 tree:C.prog.given.tree=none
 bm:∃bm o,C.mg "__builtins__"=some (.ref bm)/\bm≠mL/\bm≠gr/\C.B.get? bm=some o/\o.cls=.type "module"/\o.dict=some mL/\o.data=.plain
 xl:akm C.B C.lam.1 C.lam.2.1/\C.B.get? C.lam.2.1=none
def Fix.dB(C:Fix):bS:=⟨[],fun a=>(C.B.get? a).isSome=true,fun V=>False⟩
noncomputable def vg:List Str:=["zip","enumerate","len","sorted","tuple","list","dict","str","int","abs","range","min","max","sum","all","isinstance","bool","set","ValueError"]
structure lB.OK (I:lB)(B:Heap)(dc:Str->Bool):Prop where
 cls:ClsAt B I.C I.N I.mN
 Wr:I.mN "__setattr__"=none
 L':I.mN "__getattribute__"=none
 Ws:I.mN "__getattr__"=none
 quiet:∀x,dc x=true->I.mN x=none
def aox(nm:cA):List Str:=(nm.filter fun p=>kQ (some p.2)).map bz
noncomputable def rT(ns:List Str):dI:=ns.zip (bf ns.length)
structure Es (F:cb)(params:Arguments)(body:List Stmt)(scope:Scope):Prop where
 p1:params.posonlyargs=[]
 p2:params.vararg=none
 p3:params.kwonlyargs=[]
 p4:params.kwarg=none
 len:params.args.length=F.i7
 take:(aox scope.names).take F.i7=params.args.map (·.arg)
 nodup:(scope.names.map bz).Nodup
 kind:scope.kind=.function
 gen:scope.isGenerator=false
 Ma:scope.isCoroutine=false
 kinds:∀p∈scope.names,p.2=.local\/p.2=.cell\/p.2=.globalImplicit
 Wt:mh F.body scope.names (rT (aox scope.names)) body=true
inductive AQ (C:Fix)(a:Addr)(F:cb):Prop
 |mk (o:Obj) (name qual:Str) (params:Arguments) (body:List Stmt) (scope:Scope) (pm code doc:Value) (an1:C.B.get? a=some o) (O:o.data=.func (methDef name qual params body scope pm code doc)) (ag:C.B.CodeRec code qual/\(scope.names=C.lnm->qual++".<locals>."=C.lam.2.2/\code=.ref C.lam.1)) (av:Es F params body scope):AQ C a F
def Mb(C:Fix)(f:Str)(F:cb):Prop:=∃a,C.mg f=some (.ref a)/\AQ C a F
inductive Et (C:Fix)(k x:Str)(F:cb):Prop
 |mk (I:lB) (f:Addr) (o:Obj) (y:Option Value) (an1:C.cls k=some I) (O:I.mN x=some (.ref f)) (ag:C.B.get? f=some o) (av:o.cls=.type "function") (aO:zR (.type "object") x=pure y) (cy:AQ C f F):Et C k x F
structure Eu (C:Fix)(G:rK):Prop where
 ok:C.OK
 gl:∀x v,G.const x=some v->∃y,C.mg x=some y/\C.bU C.dB C.B v y
 fn:∀f F,iK f=true->G.fn f=some F->Mb C f F
 bi:∀w∈vg,C.mg w=none
 mt:∀k x F,G.fn (fy k x)=some F->Et C k x F
 cl:∀k I,C.cls k=some I->I.OK C.B G.dc/\C.mg k=some (.ref I.C)
 dc:∀x,G.dc x=true->zR (.type "object") x=pure none
 lnm:G.lnm=C.lnm
def xJ(C:Fix):Prop:=∀(s:Shared) (Q E:Value->Shared->Prop) (H:Heap) (b2:C.B=jJ H C.lam.2.1) (cq:H.get? C.lam.2.1=some (uN #[])) (G:rK) (T:Eu C G) (F:cb) (f:Str) (D:Nat) (cC:D<=250) (hd:iK f=true) (a:Addr) (ai:C.mg f=some (.ref a)) (bL:G.fn f=some F) (p:Params) (x:Value) (ns:List Int) (hs:s.heap=H) (aF:Well p H x (ofPy (.list (ns.map .int)))) (dR:bF G (D+1) f [.lst (ns.map .int)] [.tab (C.lam.2.2++"<lambda>")]=.ok (.bool true) [.tab (C.lam.2.2++"<lambda>")]) (gC:∀s',(∀b o,b≠C.lam.2.1->H.get? b=some o->s'.heap.get? b=some o)->(∃ps,s'.heap.get? C.lam.2.1=some (uN ps))->s'.os=s.os->s'.gens=s.gens->Q (.bool true) s'),aS (model C.prog C.w) callerA (call (.ref a) [x]) Q E s
noncomputable def C:Fix:=@akd Fix ⟨⟨default,⟨fun V V=>0,{strHash:=fun V=>0,shareClass:=fun V=>0,mergeTok:=fun t=>t,idOf:=fun V=>0,idOfShared:=fun V V=>0,followText:=fun V=>false,idOfImm:=fun V=>0}⟩,default,fun V=>none,fun V=>none,fun V=>none,default,[]⟩⟩ fun C=>¬xJ C
theorem Wu(h:xJ C)(k:Fix):xJ k:=j6 fun q=>ake (p:=fun C=>¬xJ C) ⟨k,q⟩ h
abbrev bq:Model:=model C.prog C.w
abbrev a9(g:bS)(h:Heap):=Mine.Internal.bU C.prog C.w g h
abbrev an6(g:bS)(h:Heap):=Mine.Internal.dA C.prog C.w g h
abbrev gd(g:bS)(h:Heap):=Mine.Internal.e0 C.prog C.w g h
abbrev kT(g:bS)(h:Heap):=Mine.Internal.AP C.prog C.w g h C.cls C.lam
end
structure aM (σ:ah)(g:bS)(h:Heap):Prop where
 rel:Mine.Internal.Rel C.prog C.w g h C.cls C.lam C.B σ
 ja:∀b,(C.B.get? b).isSome=true->g.bD b
 sys:(C.B.get? mM).isSome=true
variable {σ:ah}{g g':bS}{h h':Heap}{s s':Shared}{own:Addr->Prop}
def dZ(own:Addr->Prop)(g:bS):Prop:=∀b,own b->b∉g.aL/\¬g.bD b
theorem dZ.none:dZ cG g:=fun V h=>h.elim
theorem aM.fresh(R:aM σ g h){a:Addr}(f:h.get? a=none):a∉g.aL/\¬g.bD a:=by
 refine⟨fun p=>?_,fun r=>?_⟩
 ·obtain⟨i,hi⟩:=Ix p;have m:i<σ.length:=R.rel.len▸(dN.mp hi).1;have c:=R.rel.objs i σ[i] a (by simp[m]) hi;cases j:σ[i] with
  |list b l=>rw[j]at c;obtain⟨V,vs,⟨n,e⟩,V⟩:=c;rw[f]at e;cases e
  |dict b l=>rw[j]at c;obtain⟨V,kvs,⟨o,es,ep,e,V⟩,V⟩:=c;rw[f]at e;cases e
  |inst k d=>rw[j]at c;obtain⟨V,V,V,V,V,⟨o,e,V⟩⟩:=c;rw[f]at e;cases e
  |ns l=>rw[j]at c;obtain⟨V,V,⟨o,V,V,e,V⟩,V⟩:=c;rw[f]at e;cases e
  |tab q=>rw[j]at c;obtain⟨V,V,V,V,e,V⟩:=c;rw[f]at e;cases e
 ·have:=R.rel.live a r;rw[f]at this;cases this
theorem aM.Wv(R:aM σ g h){a:Addr}(b:¬g.bD a):C.B.get? a=none:=by
 cases c:C.B.get? a with
 |none=>rfl
 |some o=>exact dk (R.ja a (ec c)) b
theorem aM.AR(R:aM σ g h){a:Addr}(b:¬g.bD a):a≠mM:=fun e=>b (e▸R.ja _ R.sys)
theorem aM.new(R:aM σ g s.heap):s.heap.objs.size∉g.aL/\¬g.bD s.heap.objs.size:=R.fresh (by
 cases a:s.heap.get? s.heap.objs.size with
 |none=>rfl
 |some o=>exact dk (j8 a) (kD _))
theorem get?_size(h:Heap):h.get? h.objs.size=none:=by
 cases a:h.get? h.objs.size with
 |none=>rfl
 |some o=>exact dk (j8 a) (kD _)
def gD(g:bS)(h h':Heap):Prop:=∀b o,h.get? b=some o->(b∈g.aL\/g.bD b)->h'.get? b=some o
theorem gD.ge(a:∀b o,h.get? b=some o->h'.get? b=some o):gD g h h':=fun b o e V=>a b o e
theorem gD.tA{a:Addr}(d:∀b o,b≠a->h.get? b=some o->h'.get? b=some o)(c:a∉g.aL/\¬g.bD a):gD g h h':=fun b o e f=>d b o (fun q=>by subst q;exact f.elim c.1 c.2) e
theorem iN(b:gD g h h'){v:an2}{x:Value}(c:a9 g h v x):a9 g h' v x:=c.mono (hT _) (fun V q=>q) fun a o d e=>b a o e (.inr d)
theorem lD(b:gD g h h'){v:List an2}{x:List Value}(c:an6 g h v x):an6 g h' v x:=c.mono (hT _) (fun V q=>q) fun a o d e=>b a o e (.inr d)
theorem Mc(b:gD g h h'){v:List (Str×an2)}{x:List (Str×Value)}(c:gd g h v x):gd g h' v x:=c.mono (hT _) (fun V q=>q) fun a o d e=>b a o e (.inr d)
theorem Ww(f:gD g h h'){o:bb}{a:Addr}(i:a∈g.aL)(j:kT g h o a):kT g h' o a:=by
 cases o with
 |list b l=>obtain⟨s,vs,⟨n,e⟩,p⟩:=j;exact⟨s,vs,⟨n,f _ _ e (.inl i)⟩,lD f p⟩
 |dict b l=>obtain⟨s,kvs,⟨ob,es,ep,e,r⟩,p⟩:=j;exact⟨s,kvs,⟨ob,es,ep,f _ _ e (.inl i),r⟩,Mc f p⟩
 |inst k d=>obtain⟨t,I,v,u,O,⟨ob,e,r⟩⟩:=j;exact⟨t,I,v,u,O,ob,f _ _ e (.inl i),r⟩
 |ns l=>obtain⟨t,m,⟨ob,es,ep,e,r⟩,p⟩:=j;exact⟨t,m,⟨ob,es,ep,f _ _ e (.inl i),r⟩,p.mono (hT _) (fun V q=>q) fun a o i e=>f a o e (.inr i)⟩
 |tab q=>exact⟨j.1,j.2.mono (fun V q=>q) (fun c o ae e=>f c o e (.inr ae)) fun o e=>f _ _ e (.inl i)⟩
theorem aM.kept(R:aM σ g h)(c:gD g h h'):aM σ g h' where
 rel:=
  {
   len:=R.rel.len,nodup:=R.rel.nodup,fz:=R.rel.fz,iq:=R.rel.iq
   live:=fun a f=>by
    obtain⟨o,j⟩:=gv.mp (R.rel.live a f);rw[c a o j (.inr f)];rfl
   base:=fun b o e=>c b o (R.rel.base b o e) (.inr (R.ja b (ec e)))
   kl:=R.rel.kl
   objs:=fun i o a d O=>Ww c (ik O) (R.rel.objs i o a d O)}
 ja:=R.ja
 sys:=R.sys
noncomputable def bS.di(g:bS)(a:Addr):bS:=⟨g.aL,fun b=>g.bD b\/b=a,g.lk⟩
noncomputable def bS.fA(g:bS)(a:Addr):bS:=⟨g.aL++[a],g.bD,g.lk⟩
theorem Ev{a:Addr}:∀b,g.bD b->(g.di a).bD b:=fun V q=>Or.inl q
theorem Ew{a:Addr}:g.aL <+: (g.di a).aL:=hT _
theorem Md{a:Addr}:g.aL <+: (g.fA a).aL:=akn ..
theorem Me{a:Addr}:∀b,g.bD b->(g.fA a).bD b:=fun V q=>q
theorem AS{a:Addr}{v:List an2}{x:List Value}(b:an6 g h v x):an6 (g.di a) h v x:=b.mono Ew Ev fun V V V e=>e
theorem Wx{a:Addr}{v:List (Str×an2)}{x:List (Str×Value)}(b:gd g h v x):gd (g.di a) h v x:=b.mono Ew Ev fun V V V e=>e
theorem Ex(j:g.aL <+: g'.aL)(n:∀a,g.bD a->g'.bD a)(f:g'.lk=g.lk){o:bb}{a:Addr}(c:kT g h o a):kT g' h o a:=by
 cases o with
 |list b l=>obtain⟨p,vs,e,i⟩:=c;exact⟨f▸p,vs,e,i.mono j n fun V V V e=>e⟩
 |dict b l=>obtain⟨p,kvs,e,i⟩:=c;exact⟨f▸p,kvs,e,i.mono j n fun V V V e=>e⟩
 |inst k d=>
  obtain⟨r,I,u,s,O,e⟩:=c;refine⟨f▸r,I,u,s,?_,e⟩;obtain⟨t,ht⟩:=j;rw[<- ht,mS (dN.mp O).1];exact O
 |ns l=>obtain⟨r,m,e,i⟩:=c;exact⟨f▸r,m,e,i.mono j n fun V V V e=>e⟩
 |tab q=>exact⟨f▸c.1,c.2.mono n (fun V V V e=>e) fun V e=>e⟩
theorem aM.di(R:aM σ g h){a:Addr}(hn:a∉g.aL)(f:(h.get? a).isSome=true):aM σ (g.di a) h where
 rel:=
  {
   len:=R.rel.len,nodup:=R.rel.nodup,iq:=R.rel.iq
   fz:=fun b c q=>q.elim (R.rel.fz b c) fun e=>hn (e▸c)
   live:=fun b c=>c.elim (R.rel.live b) fun e=>e▸f
   base:=R.rel.base
   kl:=R.rel.kl
   objs:=fun i o b d O=>Ex Ew Ev rfl (R.rel.objs i o b d O)}
 ja:=fun b c=>.inl (R.ja b c)
 sys:=R.sys
theorem aM.fA(R:aM σ g h){a:Addr}{o:bb}(hn:a∉g.aL)(l:¬g.bD a)(m:kT g h o a):aM (σ++[o]) (g.fA a) h where
 rel:=
  {
   len:=by simp[bS.fA,R.rel.len]
   iq:=fun b e=>sV _ (R.rel.iq b e)
   nodup:=by
    show (g.aL++[a]).Nodup;rw[mQ];exact⟨R.rel.nodup,by simp,fun b e c ae=>by rw[c3.mp ae];rintro rfl;exact hn e⟩
   fz:=fun b e=>(eM.mp e).elim (R.rel.fz b) fun q=>(c3.mp q)▸l
   live:=R.rel.live
   base:=R.rel.base
   kl:=fun b e=>(eM.mp e).elim (R.rel.kl b) fun q=>(c3.mp q)▸R.Wv l
   objs:=fun i k b f O=>by
    have d:=R.rel.len;by_cases hi:i<σ.length
    ·have n:σ[i]?=some k:=by rwa [mS hi]at f
     have p:g.aL[i]?=some b:=by
      have:(g.aL++[a])[i]?=some b:=O
      rwa [mS (by exact TZ d hi)]at this
     exact Ex Md Me rfl (R.rel.objs i k b n p)
    ·have j:=(dN.mp f).1;have r:i=σ.length:=by simp at j;exact TY hi j
     subst r;have s:k=o:=by simpa using f.symm
     have t:b=a:=by
      have:(g.aL++[a])[σ.length]?=some b:=O;rw[<- d]at this;simpa using this.symm
     rw[s,t];exact Ex Md Me rfl m}
 ja:=R.ja
 sys:=R.sys
theorem aM.set(R:aM σ g h){i:Nat}{a:Addr}{o:bb}(hi:g.aL[i]?=some a)(t:∀b ob,b≠a->h.get? b=some ob->h'.get? b=some ob)(C:kT g h' o a):aM (σ.set i o) g h':=by
 have D:a∈g.aL:=ik hi;have E:¬g.bD a:=R.rel.fz a D;have u:∀b ob,g.bD b->h.get? b=some ob->h'.get? b=some ob:=fun b ob s e=>t b ob (fun q=>E (q▸s)) e;refine⟨{len:=by rw[lY];exact R.rel.len,nodup:=R.rel.nodup,fz:=R.rel.fz,iq:=R.rel.iq,live:=fun b s=>?_,base:=fun b ob e=>u b ob (R.ja b (ec e)) (R.rel.base b ob e),kl:=R.rel.kl,objs:=fun j B b f O=>?_},R.ja,R.sys⟩
 ·obtain⟨ob,e⟩:=gv.mp (R.rel.live b s);rw[u b ob s e];rfl
 ·by_cases y:j=i
  ·subst y;rw[hi]at O;cases O;have z:j<σ.length:=R.rel.len▸(dN.mp hi).1;rw[zS z]at f;cases f;exact C
  ·rw[w6 (eD y)]at f;have v:b≠a:=fun q=>y (by
    subst q;have F:=(dN.mp O).1;have H:=(dN.mp hi).1;exact(SX F R.rel.nodup).mp (O.trans hi.symm))
   have p:=R.rel.objs j B b f O;cases B with
   |list b l=>obtain⟨s,vs,⟨n,e⟩,w⟩:=p;exact⟨s,vs,⟨n,t _ _ v e⟩,w.mono (hT _) (fun V q=>q) fun c x ae e=>u c x ae e⟩
   |dict b l=>obtain⟨s,kvs,⟨ob,es,ep,e,r⟩,w⟩:=p;exact⟨s,kvs,⟨ob,es,ep,t _ _ v e,r⟩,w.mono (hT _) (fun V q=>q) fun c x ae e=>u c x ae e⟩
   |inst k d=>obtain⟨A,I,G,f,O,⟨ob,e,r⟩⟩:=p;exact⟨A,I,G,f,O,ob,t _ _ v e,r⟩
   |ns l=>obtain⟨A,m,⟨ob,es,ep,e,r⟩,w⟩:=p;exact⟨A,m,⟨ob,es,ep,t _ _ v e,r⟩,w.mono (hT _) (fun V q=>q) fun c x ae e=>u c x ae e⟩
   |tab q=>exact⟨p.1,p.2.mono (fun V q=>q) u fun o e=>t _ _ v e⟩
theorem aM.apd(R:aM σ g h){i d:Nat}{a t:Addr}{o:bb}{k:Str}(H:σ[i]?=some (.inst k d))(hi:g.aL[i]?=some a)(A:g.aL[d]?=some t)(u:∀b ob,b≠a->b≠t->h.get? b=some ob->h'.get? b=some ob)
  (J:kT g h' (.inst k d) a) (K:kT g h' o t):aM (σ.set d o) g h':=by
 have L:¬g.bD a:=R.rel.fz a (ik hi);have M:¬g.bD t:=R.rel.fz t (ik A);have v:∀b ob,g.bD b->h.get? b=some ob->h'.get? b=some ob:=fun b ob s e=>u b ob (fun q=>L (q▸s)) (fun q=>M (q▸s)) e;have inj:∀{j B:Nat} {b:Addr},g.aL[j]?=some b->g.aL[B]?=some b->j=B:=fun {j B b} f O=>
  (SX (dN.mp f).1 R.rel.nodup).mp (f.trans O.symm)
 refine⟨{len:=by rw[lY];exact R.rel.len,nodup:=R.rel.nodup,fz:=R.rel.fz,iq:=R.rel.iq,live:=fun b s=>?_,base:=fun b ob e=>v b ob (R.ja b (ec e)) (R.rel.base b ob e),kl:=R.rel.kl,objs:=fun j F b f O=>?_},R.ja,R.sys⟩
 ·obtain⟨ob,e⟩:=gv.mp (R.rel.live b s);rw[v b ob s e];rfl
 ·by_cases C:j=d
  ·subst C;rw[A]at O;cases O;have D:j<σ.length:=R.rel.len▸(dN.mp A).1;rw[zS D]at f;cases f;exact K
  ·rw[w6 (eD C)]at f;by_cases G:j=i
   ·subst G;rw[hi]at O;cases O;rw[H]at f;cases f;exact J
   ·have w:b≠a:=fun q=>G (inj O (q▸hi));have x:b≠t:=fun q=>C (inj O (q▸A));have p:=R.rel.objs j F b f O;cases F with
    |list b l=>obtain⟨s,vs,⟨n,e⟩,y⟩:=p;exact⟨s,vs,⟨n,u _ _ w x e⟩,y.mono (hT _) (fun V q=>q) fun c z ae e=>v c z ae e⟩
    |dict b l=>obtain⟨s,kvs,⟨ob,es,ep,e,r⟩,y⟩:=p;exact⟨s,kvs,⟨ob,es,ep,u _ _ w x e,r⟩,y.mono (hT _) (fun V q=>q) fun c z ae e=>v c z ae e⟩
    |inst k d=>obtain⟨E,I,t,f,O,⟨ob,e,r⟩⟩:=p;exact⟨E,I,t,f,O,ob,u _ _ w x e,r⟩
    |ns l=>obtain⟨E,m,⟨ob,es,ep,e,r⟩,y⟩:=p;exact⟨E,m,⟨ob,es,ep,u _ _ w x e,r⟩,y.mono (hT _) (fun V q=>q) fun c z ae e=>v c z ae e⟩
    |tab q=>exact⟨p.1,p.2.mono (fun V q=>q) v fun o e=>u _ _ w x e⟩
theorem h2(R:aM σ g s.heap)(e:Ext own g s g' s')(c:dZ own g){v:an2}{x:Value}(d:a9 g s.heap v x):a9 g' s'.heap v x:=
 d.mono e.pre e.sub fun a o b f=>e.i' a o f (.inl ⟨fun q=>R.rel.fz a q b,b⟩) fun q=>(c a q).2 b
theorem xL(R:aM σ g s.heap)(e:Ext own g s g' s')(c:dZ own g){v:List an2}{x:List Value}(d:an6 g s.heap v x):an6 g' s'.heap v x:=
 d.mono e.pre e.sub fun a o b f=>e.i' a o f (.inl ⟨fun q=>R.rel.fz a q b,b⟩) fun q=>(c a q).2 b
def rU(g:bS)(h:Heap)(z:an2)(x:Value):Prop:=match z with
 |.none=>x=.none
 |.bool b=>x=.bool b
 |.int i=>∃t,x=.int i t
 |.str y=>∃t,x=.str y t
 |.tup l=>∃a vs,x=.ref a/\qo h a vs/\an6 g h l vs.toList
 |.lst l=>∃a vs,x=.ref a/\mZ h a vs/\an6 g h l vs.toList
 |.ba l=>∃a kvs,x=.ref a/\a≠mM/\h.DictOf (strKind C.prog C.w) a kvs/\gd g h l kvs
 |.eP lo hi=>∃a,x=.ref a/\AN h a lo hi
 |.ref i=>∃a,x=.ref a/\g.aL[i]?=some a
 |.undef=>True
theorem gL{v:an2}{x:Value}(c:a9 g h v x):rU g h v x:=by
 have s:=bU.un c;cases v with
 |tup l=>exact i5 s fun a vs e V O b=>⟨a,vs,e,O,b⟩
 |lst l=>exact i5 s fun a vs e V O b=>⟨a,vs,e,O,b⟩
 |ba l=>exact s5 s fun a vs e V O b d=>⟨a,vs,e,O,b,d⟩
 |eP lo hi=>exact fS s fun a e V O=>⟨a,e,O⟩
 |undef=>trivial
 |_=>exact s
theorem bU.WB{M:Value->Prop}{v:an2}{x:Value}(f:a9 g h v x)(d:M .none)(O:∀b,M (.bool b))(j:∀i t,M (.int i t))(k:∀i t,M (.str i t))(c:∀a,M (.ref a)):M x:=by
 have s:=bU.un f;cases v with
 |none=>exact(show x=.none from s)▸d
 |bool b=>exact(show x=.bool b from s)▸O b
 |int i=>exact bK s fun t e=>e▸j i t
 |str i=>exact bK s fun t e=>e▸k i t
 |tup l=>exact i5 s fun a vs e V V V=>e▸c a
 |lst l=>exact i5 s fun a vs e V V V=>e▸c a
 |ba l=>exact s5 s fun a vs e V V V V=>e▸c a
 |eP lo hi=>exact fS s fun a e V V=>e▸c a
 |ref i=>exact aw s fun a e V=>e▸c a
 |undef=>exact s.elim
theorem km(R:aM σ g h){v:an2}{x:Value}(e:a9 g h v x):rU g h (cR σ v) x:=by
 cases v with
 |ref i=>
  obtain⟨a,rfl,hi⟩:=gL e;show rU g h (iH σ[i]?) _;cases j:σ[i]? with
  |none=>trivial
  |some o=>
   have f:=R.rel.objs i o a j hi;cases o with
   |list b l=>obtain⟨V,vs,c,O⟩:=f;exact⟨a,vs,rfl,c,O⟩
   |dict b l=>obtain⟨V,kvs,c,O⟩:=f;exact⟨a,kvs,rfl,R.AR (R.rel.fz a (ik hi)),c,O⟩
   |inst k d=>trivial
   |ns l=>trivial
   |tab q=>trivial
 |_=>exact gL e
theorem AU{w:an2}{i:Int}(h:dO w=some i):w=.int i:=by cases w<;>first | exact dt an2.int (dp h) | exact dS h
theorem AV{w:an2}{i:Str}(h:iI w=some i):w=.str i:=by cases w<;>first | exact dt an2.str (dp h) | exact dS h
theorem vi{w:an2}{i:List an2}(h:ke w=some i):w=.lst i:=by cases w<;>first | exact dt an2.lst (dp h) | exact dS h
theorem Mf{w:an2}{i:Bool}(h:AA w=some i):w=.bool i:=by cases w<;>first | exact dt an2.bool (dp h) | exact dS h
theorem Mg{w:an2}{i:List (Str×an2)}(h:qg w=some i):w=.ba i:=by cases w<;>first | exact dt an2.ba (dp h) | exact dS h
theorem vj{w:an2}{i:Nat}(h:u2 w=some i):w=.ref i:=by cases w<;>first | exact dt an2.ref (dp h) | exact dS h
theorem WC{w:an2}{i:List an2}(h:Lk w=some i):w=.tup i\/w=.lst i:=by cases w<;>first | exact .inl (dt an2.tup (dp h)) | exact .inr (dt an2.lst (dp h)) | exact dS h
theorem m1{v:an2}{x:Value}{i:Int}(e:dO v=some i)(a:a9 g h v x):∃t,x=.int i t:=by rw[AU e]at a;exact gL a
theorem m2{v:an2}{x:Value}{i:Str}(e:iI v=some i)(a:a9 g h v x):∃t,x=.str i t:=by rw[AV e]at a;exact gL a
theorem aoL{α β γ:Type}{f:an2->Option α}{g:an2->Option β}{a b:an2}{h:α->β->Option γ}{k:Option γ}(P:Option γ->Prop)(c:P (both f g a b h k)):(∃x y,f a=some x/\g b=some y/\P (h x y))\/P k:=by
 unfold both at c;cases d:f a with
 |none=>rw[d]at c;exact .inr c
 |some x=>
  cases O:g b with
  |none=>rw[d,O]at c;exact .inr c
  |some y=>rw[d,O]at c;exact .inl ⟨x,y,rfl,rfl,c⟩
theorem n6{α γ:Type}{o:Option α}{f:α->Option γ}(P:Option γ->Prop)(hn:¬P none)(a:P (o.bind f)):∃x,o=some x/\P (f x):=by
 cases o with
 |none=>exact dk a hn
 |some x=>exact⟨x,rfl,a⟩
theorem Ext.heap{tk:Nat}{d:Drawn}(c:∀b o,s.heap.get? b=some o->(b∉g.aL\/g.lk b)->¬own b->h'.get? b=some o)(f:∀b,(s.heap.get? b).isSome=true->(h'.get? b).isSome=true) :
  Ext own g s g {s with heap:=h',drawn:=d,toks:=tk}:=
 ⟨hT _,fun V q=>q,fun V q=>.inl q,fun V q=>.inl q,rfl,fun b o e a O=>⟨o,c b o e (.inl a) O,.inl rfl⟩,fun b o e a O=>c b o e (a.imp And.left id) O,f,rfl,rfl⟩
theorem Ext.all{tk:Nat}{c:Drawn}(a:∀b o,s.heap.get? b=some o->h'.get? b=some o):Ext own g s g {s with heap:=h',drawn:=c,toks:=tk}:=
 .heap (fun b o e V V=>a b o e) fun b d=>by obtain⟨o,f⟩:=gv.mp d;rw[a b o f];rfl
theorem Ext.di{a:Addr}(e:Ext own g s g' s')(d:s.heap.get? a=none):Ext own g s (g'.di a) s':=
 {e with sub:=fun b c=>.inl (e.sub b c),n3:=fun b c=>c.elim (e.n3 b) fun q=>.inr (q▸d)}
theorem Ext.fA{a:Addr}(e:Ext own g s g' s')(c:s.heap.get? a=none):Ext own g s (g'.fA a) s':=
 {e with
  pre:=e.pre.trans (akn ..)
  n2:=fun b d=>(eM.mp d).elim (e.n2 b) fun q=>.inr ((c3.mp q)▸c)}
end
section
open PySem PyProof.Rows
structure eG (A:Around)(d:Nat):Prop where
 hand:A.handled=none
 depth:A.depth+2*d<890
 units:A.units+12*d+700<uO
 fr:∃env l,A.frames=some (env::l)/\env.scope.isGenerator=false/\env.scope.isCoroutine=false/\env.builtins=mL/\env.globals=gr
variable {σ:ah}{g g':bS}{h h':Heap}{s s':Shared}{own:Addr->Prop}{A:Around}{d:Nat}
 {Q:Value->Shared->Prop} {E:Value->Shared->Prop}
def mj(g:bS)(h:Heap)(x:o7)(a:Addr):Prop:=match x with
 |.list l=>∃vs,mZ h a vs/\an6 g h l vs.toList
 |.dict l=>∃kvs,h.DictOf (strKind C.prog C.w) a kvs/\gd g h l kvs
def WD(s:Shared)(g':bS)(s':Shared)(y:cL)(x:Value):Prop:=match y with
 |.v v=>a9 g' s'.heap v x
 |.f f=>∃a,x=.ref a/\s.heap.get? a=none/\a∉g'.aL/\¬g'.bD a/\mj g' s'.heap f a
def cD(σ:ah)(g:bS)(s:Shared)(o:Option cL)(Q:Value->Shared->Prop):Prop:=match o with
 |none=>False
 |some o=>∀g' s' x,Ext cG g s g' s'->aM σ g' s'.heap->WD s g' s' o x->Q x s'
def cw(own:Addr->Prop)(g:bS)(s:Shared)(r:be an2)(Q E:Value->Shared->Prop):Prop:=match r with
 |.ok v au=>∀g' s' x,Ext own g s g' s'->aM au g' s'.heap->a9 g' s'.heap v x->Q x s'
 |.bad=>False
theorem cw.shift{r:be an2}(e:Ext own g s g' s')(h:cw own g s r Q E):cw own g' s' r Q E:=by
 cases r with
 |ok v au=>exact fun cc a x b R c=>h cc a x (e.trans b) R c
 |bad=>exact h
variable {f:o7}{a:Addr}
theorem mj.ob(b:¬g.lk a)(h:mj g s.heap f a):kT g s.heap f.obj a:=by
 cases f<;>exact⟨⟨fun q=>(by cases q),fun q=>(b q).elim⟩,h⟩
theorem mj.live(h:mj g s.heap f a):(s.heap.get? a).isSome=true:=by
 cases f with
 |list l=>obtain⟨vs,⟨n,e⟩,V⟩:=h;exact ec e
 |dict l=>obtain⟨kvs,⟨o,es,ep,e,V⟩,V⟩:=h;exact ec e
theorem mj.m3(c:a≠mM)(h:mj g s.heap f a):a9 (g.di a) s.heap f.val (.ref a):=by
 cases f with
 |list l=>obtain⟨vs,e,b⟩:=h;exact .lst (.inr rfl) e (AS b)
 |dict l=>obtain⟨kvs,e,b⟩:=h;exact .ba (.inr rfl) c e (Wx b)
variable {m n:Nat}
theorem Mh(c:cw cG g s (iG m f σ) Q E){a:Addr}(e:Ext cG g s g' s')(R:aM σ g' s'.heap)(d:s.heap.get? a=none)(hn:a∉g'.aL)(h:¬g'.bD a)(b:mj g' s'.heap f a):Q (.ref a) s':=by
 cases m with
 |zero=>exact c _ s' _ (e.di d) (R.di hn b.live) (b.m3 (R.AR h))
 |succ m=>
  refine c _ s' _ (e.fA d) (R.fA hn h (b.ob fun q=>hn (R.rel.iq _ q))) (.ref ?_);show (g'.aL++[a])[σ.length]?=some a;rw[<- R.rel.len];simp
variable {o:Option cL}
theorem tB(b:cw cG g s (fin m o σ) Q E):cD σ g s o Q:=by
 cases o with
 |none=>exact b
 |some o=>cases o with
  |v v=>exact b
  |f f=>
   rintro g' s' x e R ⟨a,rfl,c,hn,d,h⟩;exact Mh b e R c hn d h
variable {b v:an2}
theorem cD.val(a:cD σ g s (some (.v v)) Q)(R:aM σ g s.heap){x:Value}{tk:Nat}(b:a9 g s.heap v x):Q x {s with toks:=tk}:=
 a g _ x (Ext.toks (Ext.refl g s)) R b
theorem cD.push(c:cD σ g s (some (.v v)) Q)(R:aM σ g s.heap){o:Obj}{tk:Nat}
  (d:a9 (g.di s.heap.objs.size) (s.heap.push o) v (.ref s.heap.objs.size)) (f:o.isFreed=false):Q (.ref s.heap.objs.size) {s with heap:=s.heap.push o,toks:=tk}:=by
 have a:∀b ob,s.heap.get? b=some ob->(s.heap.push o).get? b=some ob:=fun b ob e=>gw o e;refine c (g.di s.heap.objs.size) _ _ ((Ext.all a).di (get?_size _)) ((R.kept (.ge a)).di R.new.1 ?_) d;show ((s.heap.push o).get? s.heap.objs.size).isSome=true;rw[jv _ f];rfl
theorem cD.made(c:cD σ g s (some (.f f)) Q)(R:aM σ g s.heap){o:Obj}{tk:Nat}(d:mj g (s.heap.push o) f s.heap.objs.size):Q (.ref s.heap.objs.size) {s with heap:=s.heap.push o,toks:=tk}:=by
 have a:∀b ob,s.heap.get? b=some ob->(s.heap.push o).get? b=some ob:=fun b ob e=>gw o e;exact c g _ _ (Ext.all a) (R.kept (.ge a)) ⟨_,rfl,get?_size _,R.new.1,R.new.2,d⟩
theorem n7(R:aM σ g h){v:an2}{l:List an2}{x:Value}(d:eZ σ v=some l)(f:a9 g h v x):∃a vs,x=.ref a/\h.IsList a vs/\an6 g h l vs.toList:=by
 have c:=km R f;rw[vi d]at c;obtain⟨a,vs,e,b,O⟩:=c;exact⟨a,vs,e,mi b,O⟩
variable {u:Tok}
theorem WE{x:Str}{n:Int}{t:Tok}(b:n<=1000)(O:-1000<=n)(i:x.length<=1000)(g:∀j tk,Q (.str (kM x n) j) {s with toks:=tk}) :
  aS bq A (Iy .Mult (.str x t) (.int n u)) Q E s:=by
 refine P.mul_str ?_ (fun c V=>?_) (fun c V=>?_) ?_
 ·rw[d8 (by lia),d8 (by lia)];rfl
 ·intro f;have:(2^63-1:Int) / n >=(2^63-1) / 1000:=by
   apply Int.le_ediv_of_mul_le (hR.mp (fun q=>c q));have:(2^63-1:Int) / 1000*n<=(2^63-1) / 1000*1000:=SK b (by decide);exact eY this (Int.ediv_mul_le (_-1) (by decide))
  lia
 ·have h:x.length*n.toNat<=1000*1000:=p0 i (Jr b);simp only[anx,decide_eq_false_iff_not,i3];exact gq.mpr (ax h (by decide))
 ·by_cases c:n<1
  ·rw[bl c];have e:kM x n=ako:=by
    have:n.toNat=0:=(ajV (uK c));simp[kM,this,ako]
   exact⟨by decide,by rw[<- e];exact g _ _⟩
  ·rw[b5 c];by_cases f:(n==1||x.length==0)=true
   ·rw[bl f];have e:kM x n=x:=by
     rcases SY.mp f with cy|cy
     ·have:n=1:=by simpa using cy
      subst this;simp[kM]
     ·have d:x.cps=#[]:=Iz (by simpa [Str.length] using cy);have l:∀k:Nat,(eL k x.cps).foldl (·++·) #[]=(#[]:Array Nat):=by
       intro k
       induction k with
       |zero=>rfl
       |succ k ih=>rw[rx,sU,d]at *;simpa using ih
      cases x;simp only at d;subst d;simp only[kM,l]
    have:=g t s.toks;rw[e]at this;exact this
   ·rw[b5 f];refine⟨?_,g _ _⟩;have cy:∀k:Nat,((eL k x.cps).foldl (·++·) #[]).size=k*x.cps.size:=by
     intro k;have d:∀(k:Nat) (a:Array Nat),((eL k x.cps).foldl (·++·) a).size=a.size+k*x.cps.size:=by
      intro k
      induction k with
      |zero=>intro a;simp
      |succ k ih=>intro a;rw[rx,sU,ih,akp,akq];exact(by simp only[eK,kG,IA])
     simpa using d k #[]
    show ((eL n.toNat x.cps).foldl (·++·) #[]).size<=IB;rw[cy,i3];have h:n.toNat*x.cps.size<=1000*1000:=p0 (Jr b) i;exact ax h (by decide)
theorem WF(K:C.OK)(R:aM σ g s.heap)(b:eG A d):PylongRoom bq A s:=by
 refine s5 b.fr fun env l a O c e f=>?_;refine anz (K.nolimit.keeps R.rel.base) ?_ (SeerAt.of (K.seer.keeps R.rel.base) K.tree a O c e f);have:=b.depth;show A.depth+100<1000;exact fR (lx (et (fR (bO _ _) this)) 100) (by decide)
variable {l:List an2}{vs:Array Value}
theorem dA.size{g:bS}{h:Heap}(a:an6 g h l vs.toList):vs.size=l.length:=by
 rw[dA.length a];simp
theorem EA(R:aM σ g s.heap)(a:an6 g s.heap l vs.toList) :
  mj g (s.heap.push {cls:=.type "list",data:=.seq vs n}) (.list l) s.heap.objs.size:=
 ⟨vs,⟨n,jv _ rfl⟩,lD (.ge fun b o e=>gw _ e) a⟩
theorem Mi(a:an6 g s.heap l vs.toList) :
  a9 (g.di s.heap.objs.size) (s.heap.push {cls:=.type "tuple",data:=.seq vs n}) (.tup l) (.ref s.heap.objs.size):=
 .tup (.inr rfl) ⟨n,jv _ rfl⟩ (AS (lD (.ge fun b o e=>gw _ e) a))
theorem WG{b:Addr}{aP:Array Value}(h:s.heap.IsList a vs)(i:s.heap.IsList b aP)(j:vs.size+aP.size<=1000000)
  (k:∀tk,Q (.ref s.heap.objs.size) {s with heap:=s.heap.push {cls:=.type "list",data:=.seq (vs++aP)},toks:=tk}) :
  aS bq A (Iy .Add (.ref a) (.ref b)) Q E s:=by
 obtain⟨⟨cls,dd,data,sl⟩,c,ae,n,d⟩:=id h;obtain⟨⟨l,m,data2,Ea⟩,e,f,o,g⟩:=id i;simp only at ae d f g;subst ae d f g;exact concat_meets ⟨_,c,rfl⟩ ⟨_,e,rfl⟩ noFill_list_add seq_list_add PySem.F.slot_list_add PySem.F.entry_list_add (PySem.F.args_list_add_2 _ _)
  (list_addW a b vs aP n o dd m sl Ea (by rw[i3];exact T6 j)) ⟨c,e,k _⟩
theorem WI{r:List Value}(q:an6 g h l r)(k:Nat):an6 g h (eL k l).flatten (eL k r).flatten:=by
 induction k with
 |zero=>exact .nil
 |succ k ih=>exact q.append ih
theorem WJ{x:Int}(e:s.heap.IsList a vs)(h0:0<=x)(c:x<=1000)(f:vs.size<=1000)
  (g:∀tk,Q (.ref s.heap.objs.size) {s with heap:=s.heap.push {cls:=.type "list",data:=.seq (eL x.toNat vs.toList).flatten.toArray},toks:=tk}) :
  aS bq A (Iy .Mult (.ref a) (.int x u)) Q E s:=by
 obtain⟨⟨cls,dd,data,sl⟩,b,ae,n,d⟩:=id e;simp only at ae d;subst ae d;have h:vs.size*x.toNat<=1000000:=p0 f (show x.toNat<=1000 by exact rn.mpr c);refine wpAny_binaryOp_repeat_ref (T:="list") (U:="int") (by decide) ⟨_,b,rfl⟩ (fun s'=>typeIs_int s' x u) noFill_list_mul F.fills_int_mul akr repeat_list F.slot_int_index.lookup
  (IC akr (typeIs_int s x u) F.entry_int_rmul (F.args_int_rmul_2 _ _) (lm_int_rmul_list_any x u a vs n dd sl)
   ⟨b,rfl,⟨_,b,rfl⟩,IC F.slot_list_mul ⟨_,b,rfl⟩ F.entry_list_mul (F.args_list_mul_2 _ _)
    (lm_list_mul_any a vs n dd sl x u (by simp[anA];exact⟨eY (by decide) h0,uJ c (by decide)⟩) (by omega) (by simp[S0,IB];exact ax h (by decide)))
    ⟨b,?_⟩⟩)
 rw[listMul_foldl_if];exact g _
theorem AW(h:rL v=some l):v=.tup l:=by
 cases v<;>first |(cases h;rfl) | cases h
variable {α:Type}
theorem cD.both{β:Type}{f:an2->Option α}{f':an2->Option β}{a:an2}{k:α->β->Option cL}(c:cD σ g s (both f f' a b k o) Q):(∃x y,f a=some x/\f' b=some y/\cD σ g s (k x y) Q)\/cD σ g s o Q:=aoL (fun o=>cD σ g s o Q) c
theorem cD.bind{o:Option α}{f:α->Option cL}(a:cD σ g s (o.bind f) Q):∃x,o=some x/\cD σ g s (f x) Q:=n6 (fun o=>cD σ g s o Q) id a
variable {p:Prop}
theorem cD.ite{_:Decidable p}{o:cL}(a:cD σ g s (if p then some o else none) Q):p/\cD σ g s (some o) Q:=by
 split at a
 ·exact⟨‹_›,a⟩
 ·exact a.elim
theorem cD.Mk{_:Decidable p}{o:cL}(a:cD σ g s (if p then none else some o) Q):¬p/\cD σ g s (some o) Q:=by
 split at a
 ·exact a.elim
 ·exact⟨‹_›,a⟩
variable {x y:Value}
theorem qr{a:an2}{i j:Int}(c:a9 g h a x)(d:a9 g h b y)(e:dO a=some i)(f:dO b=some j):∃t u,x=.int i t/\y=.int j u:=
 by obtain⟨t,ay⟩:=m1 e c;exact by obtain⟨u,az⟩:=m1 f d;exact⟨t,u,ay,az⟩
theorem WK{a:an2}{i j:Str}(c:a9 g h a x)(d:a9 g h b y)(e:iI a=some i)(f:iI b=some j):∃t u,x=.str i t/\y=.str j u:=
 by obtain⟨t,ay⟩:=m2 e c;exact by obtain⟨u,az⟩:=m2 f d;exact⟨t,u,ay,az⟩
theorem WL(K:C.OK)(z:eG A d)(R:aM σ g s.heap){op:Operator}{a b:an2}{x y:Value}(k:a9 g s.heap a x)(m:a9 g s.heap b y)(hp:cD σ g s (kg σ op a b) Q) :
  aS bq A (Iy op x y) Q E s:=by
 cases op with
 |Add=>
  rcases hp.both with⟨i,j,c,e,hp⟩|hp
  ·refine bZ (qr k m c e) fun t u f h=>?_;subst f h;exact wpAny_add_int (hp.val R (.int ..))
  ·rcases hp.both with⟨i,j,c,e,hp⟩|hp
   ·refine bZ (WK k m c e) fun t u f h=>?_;subst f h;have hp:=hp.ite;exact add_str (fun B tk=>hp.2.val R (.str ..)) (ax hp.1 (by decide))
   ·rcases hp.both with⟨l,r,c,e,hp⟩|hp
    ·refine db (n7 R c k) fun p vs f o O=>?_;subst f;refine db (n7 R e m) fun q aP f k1 w=>?_;subst f;have hp:=hp.ite;refine WG o k1 (by rw[O.size,w.size];exact hp.1) fun tk=>hp.2.made R (EA R ?_);rw[zT];exact O.append w
    ·exact hp.elim
 |Sub=>
  rcases hp.both with⟨i,j,c,e,hp⟩|hp
  ·refine bZ (qr k m c e) fun t u f h=>?_;subst f h;exact sub_int (hp.val R (.int ..))
  ·exact hp.elim
 |Mult=>
  rcases hp.both with⟨i,j,c,e,hp⟩|hp
  ·refine bZ (qr k m c e) fun t u f h=>?_;subst f h;have hp:=hp.ite;exact anB (hp.2.val R (.int ..)) hp.1
  ·rcases hp.both with⟨i,j,c,e,hp⟩|hp
   ·refine bK (m2 c k) fun t v=>?_;subst v;refine bK (m1 e m) fun u v=>?_;subst v;have hp:=hp.ite;exact WE hp.1.1 hp.1.2.1 hp.1.2.2 fun B tk=>hp.2.val R (.str ..)
   ·rcases hp.both with⟨l,n,c,e,hp⟩|hp
    ·refine db (n7 R c k) fun p vs f o O=>?_;subst f;refine bK (m1 e m) fun u v=>?_;subst v;have hp:=hp.ite;exact WJ o hp.1.1 hp.1.2.1 (by rw[O.size];exact hp.1.2.2) fun tk=>hp.2.made R (EA R (WI O _))
    ·exact hp.elim
 |FloorDiv=>
  rcases hp.both with⟨i,j,c,e,hp⟩|hp
  ·refine bZ (qr k m c e) fun t u f h=>?_;subst f h;have hp:=hp.Mk;exact anC hp.1 (hp.2.val R (.int ..)) (.inr (WF K R z))
  ·exact hp.elim
 |Mod=>
  rcases hp.both with⟨i,j,c,e,hp⟩|hp
  ·refine bZ (qr k m c e) fun t u f h=>?_;subst f h;have hp:=hp.Mk;exact mod_int' hp.1 (hp.2.val R (.int ..))
  ·exact hp.elim
 |Pow=>
  rcases hp.both with⟨i,j,c,e,hp⟩|hp
  ·refine bZ (qr k m c e) fun t u f h=>?_;subst f h;have hp:=hp.ite;exact pow_int_small hp.1.1 hp.1.2.1 hp.1.2.2 (hp.2.val R (.int ..))
  ·exact hp.elim
 |_=>exact hp.elim
end
section
open PySem PyProof.Rows PySem.SeqAt
variable {σ:ah}{g g':bS}{h h':Heap}{s s':Shared}{own:Addr->Prop}{A:Around}{d:Nat}
 {Q:Value->Shared->Prop} {E:Value->Shared->Prop}
variable {I a:Addr}{vs:Array Value}
theorem WM{h:Heap}{aP:Array Value}(x:h.IsTuple a vs)(y:h.IsTuple a aP):vs=aP:=by
 obtain⟨o,d,V,n,e⟩:=x;obtain⟨f,b,V,g,c⟩:=y;rw[d]at b;cases b;rw[e]at c;cases c;rfl
variable {args l:List an2}{xs:List Value}
theorem dA.at(c:an6 g h l xs){j:Nat}{x:Value}(d:xs[j]?=some x):∃v,l[j]?=some v/\a9 g h v x:=by
 have b:j<l.length:=by rw[dA.length c];exact(dN.mp d).1
 have e:l[j]?=some l[j]:=uP b;refine aw (c.get e) fun y a O=>?_;rw[d]at a;cases a;exact⟨_,e,O⟩
variable {α:Type}
theorem WN{l:List α}{p:α×α}(h:two l=some p):l=[p.1,p.2]:=by
 match l,h with
 | [_,_],rfl=>rfl
variable {b v:an2}
theorem Mm{p:Str×an2}(h:DP v=some p):v=.tup [.str p.1,p.2]:=by
 refine aw (eN.mp h) fun l a h=>?_;refine aw (eN.mp h) fun q O h=>?_;refine aw (dh.mp h) fun k b c=>?_;subst c;rw[AW a,WN O,AV b]
theorem Mn{d:List (Str×Int)}(h:te l=some d):l=d.map fun kv=>.tup [.str kv.1,.int kv.2]:=by
 induction l generalizing d with
 |nil=>cases h;rfl
 |cons v l ih=>
  refine aw (eN.mp h) fun p a h=>?_;refine aw (dh.mp h) fun i O b=>?_;subst b;refine aw (eN.mp a) fun q c f=>?_;refine aw (dh.mp f) fun n g b=>?_;subst b;have e:=Mm c;rw[AU g]at e;rw[e,ih O];rfl
inductive xN (h:Heap)(x:Value)(p:Str×Int):Prop
 |mk (a:Addr) (t u:Tok) (an1:x=.ref a) (O:h.IsTuple a #[.str p.1 t,.int p.2 u]):xN h x p
variable {p:Str×Int}{x y:Value}
theorem WO(c:a9 g h (.tup [.str p.1,.int p.2]) x):xN h x p:=by
 refine db (gL c) fun a vs e b O=>?_;obtain⟨l⟩:=vs;have O:an6 g h [.str p.1,.int p.2] l:=O;cases O with
 |cons k1 d=>cases d with
  |cons f i=>
   cases i;refine bK (gL k1) fun t ay=>?_;refine bK (gL f) fun u az=>?_;subst ay az;exact⟨a,t,u,e,pj b⟩
theorem WP{q:Str×Int}(d:xN s.heap x p)(f:xN s.heap y q)(g:A.units<uO):EqAt A s x y (decide (p=q)):=by
 obtain⟨a,t,u,rfl,c⟩:=d;obtain⟨b,k,l,rfl,O⟩:=f;by_cases e:a=b
 ·subst e;have e:=dt Array.toList (WM c O);have h:=(nL e).1;have i:=(nL (nL e).2).1;rw[b9 (aks (anD h).1 (anE i).1)];exact EqAt.same _
 ·rw[show decide (p=q)=((bf (min 2 2)).all (fun j=>if j=0 then p.1==q.1 else p.2==q.2)&&(2==2)) by
   show _=((p.1==q.1&&(p.2==q.2&&true))&&true);rw[zU,zU,akt,decide_eq_true_iff,gX,ej,ej,Prod.ext_iff]]
  refine EqAt.of_refs e (RcAt.tuples (e:=fun j=>if j=0 then p.1==q.1 else p.2==q.2) c O g fun j k1 m=>?_);cases j with
  |zero=>exact EqAt.str_str _ _ _ _
  |succ j=>cases j with
   |zero=>exact EqAt.int_int _ _ _ _
   |succ j=>exact dk (aku (aku k1)) (nM j)
theorem WR(a b:List (Str×Int)):((bf (min a.length b.length)).all (fun j=>decide (a[j]?=b[j]?))&&(a.length==b.length))=decide (a=b):=by
 rw[akt,gX,oZ,decide_eq_true_iff,ej];refine⟨fun h=>uQ fun j=>?_,fun h=>h▸⟨fun j V=>b9 rfl,rfl⟩⟩;by_cases c:j<a.length
 ·exact ct (h.1 j (eE.mpr (by rw[<- h.2,akv];exact c)))
 ·rw[nN (gq.mp c),nN (h.2▸gq.mp c)]
theorem Mo{d:List (Str×Int)}(b:an6 g h (d.map fun kv=>.tup [.str kv.1,.int kv.2]) vs.toList):vs.size=d.length/\∀j (a:j<vs.size),∃p,d[j]?=some p/\xN h vs[j] p:=by
 refine⟨by rw[<- C0,<- dA.length b,a0],fun j a=>?_⟩;refine aw (dA.at b (j:=j) (x:=vs[j]) (by simp[a])) fun v e w=>?_;rw[aob]at e;refine aw (dh.mp e) fun p c f=>?_;subst f;exact⟨p,c,WO w⟩
theorem WS{d e:List (Str×Int)}(l:rU g s.heap (.tup (d.map fun kv=>.tup [.str kv.1,.int kv.2])) x)(m:rU g s.heap (.tup (e.map fun kv=>.tup [.str kv.1,.int kv.2])) y)(f:A.units+1<uO) :
  RcAt A s x y (decide (d=e))/\RcNeAt A s x y (!decide (d=e)):=by
 obtain⟨a,vs,rfl,c,O⟩:=l;obtain⟨b,aP,rfl,h,n⟩:=m;have k1:=Mo O;have i:=Mo n;have k:∀j (c:j<vs.size) (O:j<aP.size),EqAt A.in1 s vs[j] aP[j] (decide (d[j]?=e[j]?)):=fun j ay az=>by
  refine aw (k1.2 j ay) fun p o r=>?_;refine aw (i.2 j az) fun q t u=>?_;rw[o,t,show decide (some p=some q)=decide (p=q) from decide_eq_decide.mpr ⟨dp,dt some⟩];exact WP r u f
 rw[<- WR,<- k1.1,<- i.1];exact⟨RcAt.tuples (pj c) (pj h) (ID f) k,RcNeAt.tuples (pj c) (pj h) (ID f) k⟩
theorem xO{β:Type}{f:an2->Option α}{f':an2->Option β}{a:an2}{k:α->β->Option Bool}{o:Option Bool}{r:Bool}(c:both f f' a b k o=some r):(∃x y,f a=some x/\f' b=some y/\k x y=some r)\/o=some r:=aoL (fun o=>o=some r) c
theorem WT(k:A.units+1<uO)(R:aM σ g s.heap){a b:an2}{x y:Value}{r:Bool}(w:a9 g s.heap a x)(B:a9 g s.heap b y)(he:xq σ a b=some r) :
  RcAt A s x y r/\RcNeAt A s x y (!r):=by
 have f:=km R w;have h:=km R B;clear w B;rcases xO he with⟨i,j,m,n,he⟩|he
 ·rw[AU m]at f;rw[AU n]at h;obtain⟨t,rfl⟩:=f;obtain⟨u,rfl⟩:=h;cases he;exact⟨RcAt.int_int _ _ _ _,RcNeAt.int_int _ _ _ _⟩
 rcases xO he with⟨i,j,m,n,he⟩|he
 ·rw[AV m]at f;rw[AV n]at h;obtain⟨t,rfl⟩:=f;obtain⟨u,rfl⟩:=h;cases he;exact⟨RcAt.str_str _ _ _ _,RcNeAt.str_str _ _ _ _⟩
 rcases xO he with⟨l,C,m,n,he⟩|he
 ·refine aw (eN.mp he) fun d c he=>?_;refine aw (dh.mp he) fun H O F=>?_;subst F;rw[AW m,Mn c]at f;rw[AW n,Mn O]at h;exact WS f h k
 rcases xO he with⟨l,C,m,n,he⟩|he
 ·rw[vi m]at f;rw[vi n]at h;have k:=ID k;obtain⟨p,vs,rfl,c,O⟩:=f;obtain⟨q,aP,rfl,o,G⟩:=h;have k1:=dA.size O;have D:=dA.size G;cases C with
  |cons=>cases he
  |nil=>cases l with
   |nil=>
    cases he;have e:vs.size=aP.size:=k1.trans D.symm;have z:=RcAt.lists (mi c) (mi o) e k (e:=fun V=>true) fun j c=>dk (wZ c k1) (nM j);have E:=RcNeAt.lists (mi c) (mi o) e k (e:=fun V=>true) fun j c=>dk (wZ c k1) (nM j);rw[k1]at z E;exact⟨z,E⟩
   |cons v l=>
    cases he;have e:(vs.size != aP.size)=true:=bne_iff_ne.mpr (by rw[k1,D];exact Nat.succ_ne_zero _);exact⟨RcAt.lists_lengths (mi c) (mi o) e k,RcNeAt.lists_lengths (mi c) (mi o) e k⟩
 cases he
theorem Mq(e:eG A d)(R:aM σ g s.heap){a b:an2}{x y:Value}{r:Bool}(f:a9 g s.heap a x)(i:a9 g s.heap b y)(j:xq σ a b=some r) :
  (∀Q E,(∀tk,Q (.bool r) {s with toks:=tk})->aS bq A (C1 .Eq x y) Q E s) /\
  (∀Q E,(∀tk,Q (.bool (!r)) {s with toks:=tk})->aS bq A (C1 .NotEq x y) Q E s):=
 have k:=e.units;have h:=WT ((fR (ax (fv (by decide:1<=700) _) (lx (bO _ _) 700)) k)) R f i j
 ⟨fun Q E c=>h.1 C.prog C.w E Q (c s.toks),fun Q E c=>h.2 C.prog C.w E Q (c s.toks)⟩
theorem Mr{a:an2}{r:Bool}{op:CmpOp}{f:Int->Int->Bool}(c:a9 g s.heap a x)(d:a9 g s.heap b y)
  (he:both dO dO a b (fun x y=>some (f x y)) none=some r) (hi:∀i j t u,r=f i j->aS bq A (C1 op (.int i t) (.int j u)) Q E s):aS bq A (C1 op x y) Q E s:=by
 rcases xO he with⟨i,j,h,k,e⟩|he
 ·refine bZ (qr c d h k) fun t u l m=>?_;subst l m;exact hi i j t u (dp e).symm
 ·cases he
theorem Ms{a:an2}(c:a9 g h a x):(x==.none)=aoF a:=by
 have s:=bU.un c;cases a with
 |none=>rw[show x=.none from s];rfl
 |bool b=>rw[show x=.bool b from s];rfl
 |int i=>refine bK s fun t e=>?_;subst e;rfl
 |str i=>refine bK s fun t e=>?_;subst e;rfl
 |tup l=>refine i5 s fun a vs e V V V=>?_;subst e;rfl
 |lst l=>refine i5 s fun a vs e V V V=>?_;subst e;rfl
 |ba l=>refine s5 s fun a vs e V V V V=>?_;subst e;rfl
 |eP lo hi=>refine fS s fun a e V V=>?_;subst e;rfl
 |ref i=>refine aw s fun a e V=>?_;subst e;rfl
 |undef=>exact s.elim
theorem Mt{a:an2}{r:Bool}(f:a9 g h a x)(i:a9 g h b y)(c:xr a b=some r):y=.none/\r=(x==.none):=by
 unfold xr at c;cases d:aoF b with
 |false=>rw[d]at c;cases c
 |true=>
  rw[d]at c;have e:=Ms i;rw[d]at e;exact⟨by simpa using e,by rw[Ms f];exact(dp c).symm⟩
noncomputable def EB(k:Str)(y:Value):Bool:=match y with
 |.str a V=>a==k
 |V=>false
theorem WU{t:Tok}(k:Str){l:List an2}{vs:List Value}{ss:List Str}(b:an6 g s.heap l vs)(h:qh l=some ss):(∀y∈vs,EqAt A s y (.str k t) (EB k y))/\vs.any (EB k)=ss.any (·==k):=by
 induction l generalizing vs ss with
 |nil=>cases b;cases h;exact⟨fun V q=>(eO q),rfl⟩
 |cons v l ih=>
  cases b with
  |cons b O=>
   refine a3 fun c=>?_;refine aw (eN.mp (show ((iI v).bind fun x=>(qh l).map (x::·))=some ss from h)) fun a d h=>?_;refine aw (dh.mp h) fun n e f=>?_;subst f;refine bK (m2 d b) fun u i=>?_;subst i;refine bt (ih O e) fun j m=>?_;refine c ?_;clear c;refine⟨fun y aQ=>?_,by rw[Iw,Iw,m];rfl⟩;rcases dG.mp aQ with rfl|aQ
   ·exact EqAt.str_str a u k t
   ·exact j y aQ
theorem Mv(v:eG A d)(R:aM σ g s.heap){op:CmpOp}{a b:an2}{x y:Value}{r:Bool}(i:a9 g s.heap a x)(f:a9 g s.heap b y)(he:mX σ op a b=some r)
  (j:∀tk,Q (.bool r) {s with toks:=tk}):aS bq A (C1 op x y) Q E s:=by
 cases op with
 |Eq=>exact(Mq v R i f he).1 Q E j
 |NotEq=>
  refine aw (dh.mp (show (xq σ a b).map (!·)=some r from he)) fun z c m=>?_;subst m;exact(Mq v R i f c).2 Q E j
 |Lt=>exact Mr i f he (fun V V V V e=>by subst e;exact wpAny_lt_int (j _))
 |Gt=>exact Mr i f he (fun V V V V e=>by subst e;exact anF (j _))
 |Is=>
  refine bt (Mt i f he) fun n h=>?_;subst n h;exact anG (j s.toks)
 |IsNot=>
  refine aw (dh.mp (show (xr a b).map (!·)=some r from he)) fun z c m=>?_;subst m;refine bt (Mt i f c) fun n h=>?_;subst n h;exact anH (j s.toks)
 |In=>
  rcases aoL (fun o=>o=some r) he with⟨k,l,p,q,he⟩|he
  ·refine bK (m2 p i) fun t h=>?_;subst h;refine bK (m2 q f) fun u h=>?_;subst h;cases he;exact P.in_str (j s.toks)
  ·cases he
 |NotIn=>
  rcases aoL (fun o=>o=some r) he with⟨k,l,p,q,h0⟩|he
  ·refine a3 fun w=>?_;refine bK (m2 p i) fun t h=>?_;subst h;refine aw (dh.mp h0) fun ss c O=>?_;refine db (n7 R (show eZ σ b=some l from q) f) fun G vs m B C=>?_;subst m;refine bt (WU (s:=s) (A:=A.in1) (t:=t) k C c) fun D F=>?_;refine w ?_;clear w;refine notIn_listAt (EB k) B (fun y f=>D y (S1.mpr f)) ?_;rw[<- Array.any_toList,F,O];exact j s.toks
  ·cases he
 |_=>cases he
variable {n:Nat}
theorem n8(h:d' n=true):n<=1000000:=by simpa [d'] using h
theorem AY(R:aM σ g s.heap){v:an2}{x:Value}{r:Bool}{Q:Bool->Shared->Prop}(e:a9 g s.heap v x)(a:dz σ v=some r)(d:∀tk,Q r {s with toks:=tk}) :
  aS bq A (truthy x) Q E s:=by
 have c:=km R e;have a:Ll (cR σ v)=some r:=a;generalize cR σ v=w at c a;cases w with
 |none=>cases c;cases a;exact truthy_none (d _)
 |bool b=>cases c;cases a;exact S2 (d _)
 |int i=>obtain⟨t,rfl⟩:=c;cases a;exact anI (d _)
 |_=>cases a
variable {k:Int}
theorem WV{o:cL}(h:u5 l k=some o):0<=k/\k<=1000000/\∃v,l[k.toNat]?=some v/\o=.v v:=by
 unfold u5 at h;split at h
 ·rename_i b;refine aw (dh.mp h) fun v a O=>?_;exact⟨b.1,b.2,v,a,O.symm⟩
 ·cases h
theorem Mw(h0:0<=k)(a:k.toNat<n):seqIndex? k n=some k.toNat:=by
 unfold seqIndex?;have O:¬k<0:=(Int.not_lt_of_ge h0);simp only[O,if_false];split
 ·rfl
 ·rename_i b;simp at b;exact(T7 a O b).elim
theorem WW(R:aM σ g s.heap){value slice:Expr}{a i:an2}{x y:Value}(G:a9 g s.heap a x)(r:a9 g s.heap i y)(hn:V1 slice=true)
  (hp:cD σ g s (eQ σ a i) Q):aS bq A (subscriptTail value slice x y) Q E s:=by
 have q:∀o i,subscripted slice false o i=operate [o,i] (getItem o i):=fun o i=>by
  cases slice<;>first | rfl | cases hn
 have j:=km R G;rcases hp.both with⟨l,k,ak,n,hp⟩|hp
 ·refine bK (m1 n r) fun u e=>?_;subst e;obtain⟨o,f,hp⟩:∃o,u5 l k=some o/\cD σ g s (some o) Q:=by
   cases f:u5 l k with
   |none=>rw[f]at hp;exact hp.elim
   |some o=>rw[f]at hp;exact⟨o,rfl,hp⟩
  obtain⟨h0,d,v,O,rfl⟩:=WV f;have h:k.toNat<l.length:=(dN.mp O).1;rcases WC ak with ak|ak
  ·rw[ak]at j;obtain⟨p,vs,rfl,b,m⟩:=j;have b:=pj b;refine aw (m.get O) fun z B D=>?_;exact tail_any (o:=.ref _) (show s.TypeIs _ "tuple" from by obtain⟨ob,ay,az,V⟩:=b;exact⟨ob,ay,az⟩) IE.lookup (anJ b (TV h0) (Dn d) (Mw h0 (by rw[m.size];exact h)) (by simpa using B) (hp.val (tk:=s.toks) R D)) (q _ _)
  ·rw[ak]at j;obtain⟨p,vs,rfl,b,m⟩:=j;have b:=mi b;refine aw (m.get O) fun z B D=>?_;exact tail_any b.typeIs S3.lookup (akw b h0 (Dn d) (by simpa using B) (hp.val (tk:=s.toks) R D)) (q _ _)
 ·rcases hp.both with⟨z,k,ak,n,hp⟩|hp
  ·refine bK (m1 n r) fun u e=>?_;subst e;refine bK (m2 ak G) fun t e=>?_;subst e;unfold Lo at hp;split at hp
   ·rename_i h0;cases ae:z.cps[k.toNat]? with
    |none=>rw[ae]at hp;exact hp.elim
    |some c=>
     rw[ae]at hp;have h:k.toNat<z.length:=(Array.getElem?_eq_some_iff.mp ae).1;refine tail_any (typeIs_str s z t) PySem.F.slot_str_getitem.lookup (anK (c:=c) ?_ ?_ (hp.val R (.str ..))) (q _ _)
     ·rw[d8 (by lia),d8 (by lia)];rfl
     ·rw[Mw h0.1 h];exact ae
   ·exact hp.elim
  ·rcases hp.both with⟨l,k,ak,n,hp⟩|hp
   ·refine bK (m2 n r) fun u e=>?_;subst e;rw[Mg ak]at j;obtain⟨p,kvs,rfl,V,b,m⟩:=j;have:=m.get k;cases f:cp l k with
    |none=>rw[f]at hp;exact hp.elim
    |some v=>
     rw[f]at hp this;refine aw this fun z d O=>?_;exact tail_any b.typeIs slot_dict_getitem.lookup (wpAny_getItem_of (C2 C.prog C.w k u) b.mapOf d (hp.val R O)) (q _ _)
   ·exact hp.elim
theorem Mx{l:List (Str×an2)}{kvs:List (Str×Value)}(e:gd g h l kvs){i:Nat}{k:Str}{x z:Value}(c:kvs[i]?=some (k,x))(O:(strKind C.prog C.w).is k z=true){u:an2}
  (a:(l.map fun kv=>an2.str kv.1)[i]?=some u):a9 g h u z:=by
 refine bK (Value.isStrOf_shape O) fun t f=>?_;subst f;have j:=e.keys;have b:(kvs.map bz)[i]?=some k:=by rw[aob,c];rfl
 rw[j,aob]at b;rw[aob]at a;cases d:l[i]? with
 |none=>rw[d]at a;cases a
 |some p=>
  rw[d]at a b;simp only[S4,SW]at a b;subst a b;exact .str ..
theorem My{lo hi:Int}{i:Nat}{u:an2}(h:(hw lo hi)[i]?=some u):u=.int (lo+i):=by
 unfold hw at h;rw[aob]at h;cases a:(bf (hi-lo).toNat)[i]? with
 |none=>rw[a]at h;cases h
 |some p=>
  rw[a]at h;have b:=(dN.mp a).1;have:p=i:=by simpa using ((dN.mp a).2).symm
  subst this;simpa using h.symm
theorem EC(lo hi:Int):(hw lo hi).length=(hi-lo).toNat:=by simp[hw]
variable {prog:Program}{w:World}{fp wr:List Addr}{P:Nat->Value->Prop}{bh:Nat->Heap->Prop}
theorem vn{m:Nat}(e:n=m)(W:Walks prog w A I fp wr n P bh):Walks prog w A I fp wr m P bh:=by subst e;exact W
def AZ(h:Heap)(I:Addr):Prop:=∃ob n,h.get? I=some ob/\ob.cls=.type n/\["enumerate","zip","dict_itemiterator","dict_reverseitemiterator","odict_iterator","itertools.zip_longest","itertools.pairwise"].contains n=false/\kS ob=false
theorem A0(F:A.handled=none)(R:aM σ g s.heap){v:an2}{x:Value}{l:List an2}(U:a9 g s.heap v x)(hi:de σ v=some l)
  (G:∀(o:Obj) (fp:List Addr) (P:Nat->Value->Prop) (bh:Nat->Heap->Prop),Walks C.prog C.w A s.heap.objs.size fp [s.heap.objs.size] l.length P bh->bh 0 (s.heap.push o)->(∀b∈fp,b=s.heap.objs.size\/x=.ref b)->(∀i z u,P i z->l[i]?=some u->a9 g s.heap u z)->(∀i h,bh i h->AZ h s.heap.objs.size)->Q (.ref s.heap.objs.size) {s with heap:=s.heap.push o}) :
  aS bq A (C3 x) Q E s:=by
 have ne:∀{a:Addr} {o:Obj},s.heap.get? a=some o->a≠s.heap.objs.size:=fun e=>gV (j8 e);have list:∀{a:Addr} {vs:Array Value} {r:List an2},x=.ref a->r=l->s.heap.IsList a vs->an6 g s.heap r vs.toList->aS bq A (C3 x) Q E s:=by
  rintro a vs r rfl rfl f j;obtain⟨o,H,L⟩:=id f;refine wpAny_pyIter_list f (G _ [s.heap.objs.size,a] _ _ (vn j.size (Walks.list F s.heap.objs.size a (ne H) vs)) ⟨⟨_,jv _ rfl,rfl,rfl⟩,f.push _⟩ (fun b n=>?_) (fun i z u d O=>?_) (fun i h st=>by obtain⟨⟨ob,ay,az,q⟩,V⟩:=st;exact⟨ob,_,ay,az,by decide,by show qp ob.data=false;rw[q];rfl⟩))
  ·rcases dG.mp n with e|e
   ·exact .inl e
   ·exact .inr (by rw[c3.mp e])
  ·refine aw (j.get O) fun y B I=>?_;have J:vs.toList[i]?=some z:=by simpa using d
   rw[J]at B;cases B;exact I
 have dict:∀{a:Addr} {kvs:List (Str×Value)} {r:List (Str×an2)},x=.ref a->(r.map fun kv=>an2.str kv.1)=l->a≠mM->s.heap.DictOf (strKind C.prog C.w) a kvs->gd g s.heap r kvs->aS bq A (C3 x) Q E s:=by
  rintro a kvs r rfl rfl K f j;refine bK f.dictAt fun ep p=>?_;obtain⟨o,es,H,L⟩:=id p;have m:kvs.length=(r.map fun kv=>an2.str kv.1).length:=by rw[a0,j.length]
  refine wpAny_pyIter_dict (by simpa using K) p (G _ [s.heap.objs.size,a] _ _ (vn m (Walks.dictKeys F s.heap.objs.size a (ne H) kvs ep)) ⟨⟨_,jv _ rfl,rfl,rfl⟩,p.keep fun b o e=>gw _ e⟩ (fun b n=>?_) (fun i z u d O=>?_) (fun i h st=>by obtain⟨⟨ob,ay,az,q⟩,V⟩:=st;exact⟨ob,_,ay,az,by decide,by show qp ob.data=false;rw[q];rfl⟩))
  ·rcases dG.mp n with e|e
   ·exact .inl e
   ·exact .inr (by rw[c3.mp e])
  ·refine bZ d fun k y B I=>?_;exact Mx j B I O
 have p:=km R U;have hi:xn (cR σ v)=some l:=hi;generalize cR σ v=w at p hi;cases w with
 |str y=>
  obtain⟨t,rfl⟩:=p;have hi:Ay y=l:=dp hi;have m:y.cps.size=l.length:=by rw[<- hi];simp[Ay]
  have M:∀(i:Nat) z u,SignAt y i z->l[i]?=some u->a9 g s.heap u z:=fun i z u d O=>by
   obtain⟨c,W,B,rfl⟩:=d;rw[<- hi]at O;have:u=.str ⟨#[c]⟩:=by
    simp only[Ay,aob,Array.getElem?_toList,B,S4,SW]at O;exact O.symm
   subst this;exact .str ..
  cases N:y.cps.all (·<128)
  ·exact wpAny_pyIter_wide N (G _ [s.heap.objs.size] _ _ (vn m (Walks.strWide F _ y t)) ⟨_,jv _ rfl,rfl,rfl⟩ (fun b n=>.inl (c3.mp n)) M fun i h st=>by obtain⟨ob,ay,az,q⟩:=st;exact⟨ob,_,ay,az,by decide,by show qp ob.data=false;rw[q];rfl⟩)
  ·exact wpAny_pyIter_ascii N (G _ [s.heap.objs.size] _ _ (vn m (Walks.strAscii F _ y t)) ⟨_,jv _ rfl,rfl,rfl⟩ (fun b n=>.inl (c3.mp n)) M fun i h st=>by obtain⟨ob,ay,az,q⟩:=st;exact⟨ob,_,ay,az,by decide,by show qp ob.data=false;rw[q];rfl⟩)
 |tup r=>
  obtain⟨a,vs,rfl,f,j⟩:=p;have f:=pj f;have hi:r=l:=dp hi;subst hi;obtain⟨o,H,L⟩:=id f;refine wpAny_pyIter_tuple f (G _ [s.heap.objs.size,a] _ _ (vn j.size (Walks.tuple F s.heap.objs.size a (ne H) vs)) ⟨⟨_,jv _ rfl,rfl,rfl⟩,f.push _⟩ (fun b n=>?_) (fun i z u d O=>?_) (fun i h st=>by obtain⟨⟨ob,ay,az,q⟩,V⟩:=st;exact⟨ob,_,ay,az,by decide,by show qp ob.data=false;rw[q];rfl⟩))
  ·rcases dG.mp n with e|e
   ·exact .inl e
   ·exact .inr (by rw[c3.mp e])
  ·refine aw (j.get O) fun y B I=>?_;have J:vs.toList[i]?=some z:=by simpa using d
   rw[J]at B;cases B;exact I
 |lst r=>obtain⟨a,vs,rfl,f,j⟩:=p;exact list rfl (dp hi) (mi f) j
 |eP lo D=>
  obtain⟨a,rfl,S,T,t,u,w',j⟩:=p;have hi:hw lo D=l:=dp hi;subst hi;have X:=akx lo D;refine wpAny_pyIter_range j (small_one (Ad S) (Ae S) (Ad T) (Ae T)) (G _ [s.heap.objs.size] _ _ (vn (EC lo D).symm (Walks.range F s.heap.objs.size lo 1 (D-lo).toNat)) ?_ (fun b n=>.inl (c3.mp n)) (fun i z y d O=>?_) (fun i h st=>⟨_,_,st,rfl,by decide,rfl⟩))
  ·show IsRangeIter _ _ (lo+((0:Nat):Int)*1) (((D-lo).toNat:Int)-((0:Nat):Int)) 1;have Y:lo+((0:Nat):Int)*1=lo:=by simp
   have Z:(((D-lo).toNat:Int)-((0:Nat):Int))=anL lo D 1:=by rw[X];split<;>(first | exact Js (by assumption) | exact Jt (by assumption))
   rw[Y,Z];exact jv _ rfl
  ·refine bK d fun W a5=>?_;subst a5;rw[My O,oU];exact .int ..
 |ba r=>obtain⟨a,vs,rfl,K,f,j⟩:=p;exact dict rfl (dp hi) K f j
 |_=>cases hi
theorem WX(R:aM σ g s.heap){v:an2}{x:Value}{n:Nat}(i:a9 g s.heap v x)(c:Lp σ v=some n)(hn:n<=1000000)(h:∀t tk,Q (.int n t) {s with toks:=tk}) :
  aS bq A (call (.builtin "len") [x]) Q E s:=by
 have f:=km R i;have c:AB (cR σ v)=some n:=c;generalize cR σ v=w at f c;cases w with
 |tup l=>
  obtain⟨a,vs,rfl,d,e⟩:=f;cases c;have b:=e.size;exact anM (pj d) (by rw[b];exact Ac hn) (by rw[b];exact h _ _)
 |lst l=>
  obtain⟨a,vs,rfl,d,e⟩:=f;cases c;have b:=e.size;exact Calls.call_len_list (mi d) (by rw[b];exact Ac hn) (by rw[b];exact h _ _)
 |ba l=>
  obtain⟨a,kvs,rfl,j,d,e⟩:=f;cases c;have b:=e.length;exact call_len_dict (by simpa using j) d (by rw[<- b];exact Ac hn) (by rw[<- b];exact h _ _)
 |_=>cases c
theorem cD.Mz(hp:cD σ g s (some (.v v)) Q)(R:aM σ g s.heap){a:Addr}{h':Heap}{tk:Nat}(c:∀b o,s.heap.get? b=some o->h'.get? b=some o)(d:s.heap.get? a=none)(e:(h'.get? a).isSome=true)
  (f:a9 (g.di a) h' v x):Q x {s with heap:=h',toks:=tk}:=
 hp (g.di a) _ _ ((Ext.all c).di d) ((R.kept (.ge c)).di (R.fresh d).1 e) f
theorem cD.xP{f:o7}(e:cD σ g s (some (.f f)) Q)(R:aM σ g s.heap){a:Addr}{h':Heap}{tk:Nat}(d:∀b o,s.heap.get? b=some o->h'.get? b=some o)(c:s.heap.get? a=none)
  (h:mj g h' f a):Q (.ref a) {s with heap:=h',toks:=tk}:=
 e g _ _ (Ext.all d) (R.kept (.ge d)) ⟨_,rfl,c,(R.fresh c).1,(R.fresh c).2,h⟩
theorem WY(R:aM σ g s.heap){v:an2}{x:Value}{l:List an2}(h:a9 g s.heap v x)(i:eZ σ v=some l)(hn:l.length<=1000000)(j:cD σ g s (some (.v (.tup l))) Q) :
  aS bq A (call (.type "tuple") [x]) Q E s:=by
 refine db (n7 R i h) fun a vs k O c=>?_;subst k;have m:=c.size;refine call_tuple_list O (fun h' d=>?_) (by rw[m,i3];exact s7 hn);have f:∀b o,s.heap.get? b=some o->(h'.push {cls:=.type "tuple",data:=.seq vs}).get? b=some o:=fun b o e=>gw _ (d b o e);have n:s.heap.get? h'.objs.size=none:=by
  cases p:s.heap.get? h'.objs.size with
  |none=>rfl
  |some o=>exact dk (j8 (d _ _ p)) (kD _)
 refine j.Mz (tk:=s.toks) R f n (ec (jv _ rfl)) (.tup (.inr rfl) ⟨_,jv _ rfl⟩ (AS (lD (.ge f) c)))
theorem MA{acc:Array Value}(hi:ItemsOf P acc l.length)(k:∀i z u,P i z->l[i]?=some u->a9 g h u z):an6 g h l acc.toList:=by
 obtain⟨c,O⟩:=hi;have d:∀(l:List an2) (xs:List Value),l.length=xs.length->(∀(i:Nat) u z,l[i]?=some u->xs[i]?=some z->a9 g h u z)->an6 g h l xs:=by
  intro l
  induction l with
  |nil=>intro xs b V;cases xs with|nil=>exact .nil|cons=>cases b
  |cons a l ih=>intro xs b j;cases xs with
   |nil=>cases b
   |cons x xs=>exact .cons (j 0 a x rfl rfl) (ih xs (by simpa using b) fun i u z e f=>j (i+1) u z (by simpa using e) (by simpa using f))
 exact d l acc.toList (by simp[c]) fun i u z e f=>k i z u (O i z (by simpa using f)) e
theorem WZ(q:eG A d)(R:aM σ g s.heap){v:an2}{x:Value}{l:List an2}(k:rU g s.heap v x)(c:Ls v=some l)(hn:l.length<=1000000)(m:cD σ g s (some (.f (.list l))) Q) :
  aS bq A (call (.type "list") [x]) Q E s:=by
 cases v with
 |tup r=>
  cases (show r=l from dp c);obtain⟨a,vs,rfl,⟨n,w⟩,O⟩:=k;exact call_list_seq a (T:="tuple") (.inr rfl) w rfl rfl (fun h' e b h=>m.xP (tk:=s.toks) R b (get?_size _) ⟨vs,⟨e,h⟩,lD (.ge b) O⟩) (by rw[O.size,i3];exact s7 hn)
 |eP lo hi=>
  cases (show hw lo hi=l from dp c);obtain⟨a,rfl,o,p,t,u,D,y⟩:=k;have B:=akx lo hi;refine call_list_range (n:=(hi-lo).toNat) q.hand y (small_one (Ad o) (Ae o) (Ad p) (Ae p)) (by rw[B];split<;>(first | exact(Js (by assumption)).symm | exact(Jt (by assumption)).symm | omega)) (by rw[EC]at hn;exact ax hn (by decide)) fun h' tk acc e b h hi=>?_
  refine m.xP (tk:=tk) R b (get?_size _) ⟨acc,⟨e,h⟩,MA (by rw[EC];exact hi) fun i z u j O=>?_⟩;refine bK j fun F C=>?_;subst C;rw[My O,oU];exact .int ..
 |_=>cases c
theorem cD.valAt(c:cD σ g s (some (.v v)) Q)(R:aM σ g s.heap){h':Heap}{tk:Nat}(a:∀b o,s.heap.get? b=some o->h'.get? b=some o)(d:a9 g h' v x):Q x {s with heap:=h',toks:=tk}:=
 c g _ x (Ext.all a) (R.kept (.ge a)) d
theorem W0:∀(l:List Str),sortedS l=true->l.Pairwise fun a b=>fh b a=false:=by
 have e:∀(l:List Str) (p:Str),risingS p l=true->(p::l).Pairwise fun a b=>fh b a=false:=by
  intro l
  induction l with
  |nil=>intro p V;simp
  |cons x r ih=>
   intro p h;have i:(!Spec.ltCps x.cps.toList p.cps.toList&&risingS x r)=true:=h;refine bt (gX.mp i) fun d O=>?_;have f:fh x p=false:=by
    rw[ltCps_eq]at d;simpa [fh] using d
   have g:=ih x O;refine aky.mpr ⟨fun y aQ=>?_,g⟩;rcases dG.mp aQ with rfl|aQ
   ·exact f
   ·have j:=(aky.mp g).1 y aQ;have:=LC (a:=p) (b:=x) (c:=y) (by simp[f]) (by simp[j]);simpa using this
 intro l k;cases l with
 |nil=>exact .nil
 |cons x r=>exact e r x k
theorem W1:∀{l:List an2} {r:List Value} {ss:List Str},an6 g h l r->qh l=some ss->StrsAre r ss:=by
 intro l
 induction l with
 |nil=>intro r ss b a;cases b;cases a;exact .nil
 |cons v l ih=>
  intro r ss b a;cases b with
  |cons d e=>
   refine aw (n6 (fun o=>o=some ss) (fun q=>dS q) a) fun x h0 a=>?_;refine aw (dh.mp a) fun j c f=>?_;subst f;refine bK (m2 h0 d) fun t i=>?_;subst i;exact .cons x t (ih e c)
theorem W2:∀{r:List Value} {ss:List Str},StrsAre r ss->an6 g h (ss.map .str) r:=by
 intro r ss a
 induction a with
 |nil=>exact .nil
 |cons x t V ih=>exact .cons (.str x t) ih
theorem W3(r:List (Str×an2)):qh (r.map fun kv=>an2.str kv.1)=some (r.map bz):=by
 induction r with
 |nil=>rfl
 |cons p r ih=>exact dt (mP (p.1::·)) ih
theorem W4{vs:List Value}{ss:List Str}{P:PySem.Fin->Shared->Prop}(g:s.heap.get? a=some (seqObj "list" vs.toArray n))(d:StrsAre vs ss)(i:vs.length<hz)
  (h:∀out,StrsAre out.toList (hy ss)->P (.done (.ret .none)) {s with heap:=sortedHeap s.heap a vs out}) :
  aS bq A (Builtin.«list.sort» ⟨[.ref a],[]⟩) P E s:=by
 have fin:∀b:SortSt,(arrOf b).Perm (akz vs)->SortedToK strKind (arrOf b) (akz vs).size->P (.done (.ret .none)) {s with heap:=sortedHeap s.heap a vs ((arrOf b).map ju)}:=by
  intro b j k;refine fS (sorted_out_str d j k) fun l c O m=>?_;refine h _ ?_;rw[VM O (W0 l m)]at c;exact c
 exact list_sort_treeK strKind_oneLt g d.keysOf (fun o p f e=>keyKind_strs (by rw[<- e];exact d)) i fin
theorem W5(R:aM σ g s.heap){x:Value}{ss:List Str}(h:ss.length<hz)
  (ae:∀(R':List Value->Shared->Prop),(∀(h':Heap) (tk:Nat) (vs:List Value),(∀b o,s.heap.get? b=some o->h'.get? b=some o)->StrsAre vs ss->R' vs {s with heap:=h',toks:=tk})->aS bq A.in1 (collect x) R' E s)
  (k:cD σ g s (some (.f (.list ((hy ss).map .str)))) Q) :
  aS bq A (call (.builtin "sorted") [x]) Q E s:=by
 refine Calls.call_function_entry kind_sorted plain_sorted entry_sorted (args_sorted1 _) ?_;unfold Builtin.«sorted»;refine a6 (m:=checkCount "sorted" 1 1 _) (cn ?_);refine a6 (ae _ fun h' tk vs i j=>?_);have a:vs.length=ss.length:=by rw[<- j.strs,a0]
 have l:hz<=100:=by decide
 refine a6 (S5 ?_ (by rw[a,i3];exact ax (et h) (ax l (by decide))));have d:(h'.push (seqObj "list" vs.toArray 0)).get? h'.objs.size=some (seqObj "list" vs.toArray 0):=jv _ rfl;have n:s.heap.get? h'.objs.size=none:=by
  cases p:s.heap.get? h'.objs.size with
  |none=>rfl
  |some o=>exact dk (j8 (i _ _ p)) (kD _)
 refine a6 (j9 (S6 slot_list_sort ⟨_,d,rfl⟩ entry_list_sort (W4 (s:={s with heap:=h'.push (seqObj "list" vs.toArray 0),toks:=tk}) d j (lt_of_eq_of_lt a h) fun out q=>⟨_,rfl,?_⟩) (args_list_sort _)));have r:∀b o,s.heap.get? b=some o->(sortedHeap (h'.push (seqObj "list" vs.toArray 0)) h'.objs.size vs out).get? b=some o:=fun b o e=>by
  have c:=i b o e;have O:=j8 c;rw[sortedHeap_old (gV O) (by rw[sW];exact j7 O)];exact gw _ c
 refine bK (sortedHeap_at (out:=out) d) fun e t=>?_;exact cn ⟨_,rfl,k.xP (tk:=tk) R r n ⟨out,⟨e,t⟩,W2 q⟩⟩
theorem W7(q:eG A d)(R:aM σ g s.heap){v:an2}{x:Value}{ss:List Str}(t:a9 g s.heap v x)(c:Lq σ v=some ss)(o:ss.length<hz)
  (B:cD σ g s (some (.f (.list ((hy ss).map .str)))) Q) :
  aS bq A (call (.builtin "sorted") [x]) Q E s:=by
 have D:hz<=100:=by decide
 have dict:∀{a:Addr} {kvs:List (Str×Value)} {r:List (Str×an2)},(r.map bz)=ss->a≠mM->s.heap.DictOf (strKind C.prog C.w) a kvs->gd g s.heap r kvs->aS bq A (call (.builtin "sorted") [.ref a]) Q E s:=by
  rintro a kvs r rfl m b e;refine bK b.dictAt fun ep j=>?_;have p:kvs.length=(r.map fun kv=>an2.str kv.1).length:=by rw[a0,e.length]
  have n:(r.map fun kv=>an2.str kv.1).length=(r.map bz).length:=by simp
  refine W5 R o (fun R' F=>?_) B;refine PySem.W.kdu_collect (PySem.W.kdl_dict (ep:=ep) (kvs:=kvs) (by simpa using m)) q.hand j (by rw[p,n,i3];exact ax (et o) (ax D (by decide))) fun h' tk acc G hi=>F _ _ _ G ?_;rw[p]at hi;refine W1 (g:=g) (h:=s.heap) (MA hi fun i z u b O=>by obtain⟨k,y,H,n⟩:=b;exact Mx e H n O) ?_;exact W3 r
 have j:=km R t;have c:DS (cR σ v)=some ss:=c;generalize cR σ v=w at j c;cases w with
 |ba l=>obtain⟨a,kvs,rfl,m,I,e⟩:=j;exact dict (dp c) m I e
 |_=>cases c
theorem W9:zR (.type "tuple") "keys"=pure none:=am_miss_of_fast (by decide +kernel)
set_option maxRecDepth 8000 in
theorem W'{xs:Array Value}{i:Tok}{Q:Value->Shared->Prop}(b:qo s.heap a xs)(j:A.handled=none)
  (l:∀h' tk e,Heap.NewExcOf s.heap h' e "AttributeError"->E (.ref e) {s with heap:=h',toks:=tk}) :
  aS bq A (getAttrBy (.ref a) (.str "keys" i) false) Q E s:=by
 obtain⟨k,b⟩:=b;obtain⟨m,g,d,tk,os⟩:=s;have c:∀f,(⟨m,g,d,f,os⟩:Shared).TypeIs (.ref a) "tuple":=fun V=>⟨_,b,rfl⟩;have n:=akA;have o:=S7.lookup;have p:=S7.bind (.ref a);have q:=am_tuple_getattr_none;unfold getAttrBy
 repeat (any_goals (first | assumption | exact c _ |((with_reducible show aS _ _ (call (Value.builtin "tuple.__getattribute__") _ _) _ _ _);refine IC S7 (c _) am_entry_tuple_getattribute (PySem.F.args_tuple_getattribute_2 _ _) (meets_getattribute_miss_tuple a xs k #[] "keys" _ W9 (by decide +kernel) (by size_fits)) ⟨b,j,fun h' f e h=>?_⟩)|wp_step))
 refine hv h.there fun r t u=>?_;show aS _ _ (akB _ _ _ _ _ _ _) _ _ _;unfold akB
 repeat (any_goals (first | assumption | wp_step))
 exact l _ _ _ h.of
theorem getAttr?_miss_tuple{xs:Array Value}{Q:Option Value->Shared->Prop}(f:qo s.heap a xs)(g:A.handled=none)
  (h:∀h' tk,(∀b o,s.heap.get? b=some o->h'.get? b=some o)->Q none {s with heap:=h',toks:=tk}) :
  aS bq A (getAttr? (.ref a) "keys") Q E s:=by
 unfold getAttr?;refine a6 (wpAny_mkText ?_);unfold getAttrBy?;refine a6 (wpAny_attempt (W' (s:={s with toks:=s.toks+1}) f g fun h' tk e d=>?_));refine i5 d.there fun o fs c O i j=>?_;refine a6 (wpAny_isInstance (T:="AttributeError") (b:=true) ⟨o,c,O⟩ akA ?_);exact cn (h h' tk d.keeps)
theorem MC:entryFor table "dict.update.loop"=some Builtin.«dict.update.loop»:=entryFor_of_tree (by kernel_rfl)
theorem A1:plainId "dict.update.loop"=true:=by decide +kernel
variable {r:List (Str×an2)}
theorem MD(b:aoK l=some r):l=r.map fun kv=>.tup [.str kv.1,kv.2]:=by
 induction l generalizing r with
 |nil=>cases b;rfl
 |cons v l ih=>
  refine aw (n6 (fun o=>o=some r) (fun q=>dS q) b) fun x h0 c=>?_;refine aw (dh.mp c) fun e a d=>?_;subst d;rw[Mm h0,ih a];rfl
def EE(d:List (Str×an2))(l:List (Str×an2)):List (Str×an2):=l.foldl (fun d kv=>b6 d kv.1 kv.2) d
theorem Xb(d:List (Str×α))(k:Str)(v:α):(b6 d k v).length<=d.length+1:=by
 unfold b6;split
 ·simp
 ·simp
theorem Xc{k:Str}{z:Value}(d:a9 g h (.tup [.str k,v]) z):∃p n x t,z=.ref p/\h.get? p=some {cls:=.type "tuple",dict:=none,data:=.seq #[.str k t,x] n,slots:=#[]}/\a9 g h v x:=by
 obtain⟨p,⟨aP⟩,rfl,⟨n,f⟩,i⟩:=gL d;cases i with|cons a b=>
 cases b with|cons c e=>
 cases e;obtain⟨t,rfl⟩:=gL a;exact⟨p,n,_,t,rfl,f,c⟩
theorem Xd{D:Addr}{s₀:Shared}{R':Result->Shared->Prop}
  (W:Walks C.prog C.w A.in1 I fp [I] n P bh) (R:D∉fp) (H:s₀.heap.get? I=none) (S:s₀.heap.get? D=none) (J:I≠D) (hn:r.length=n) (v:n<=1000000)
  (U:∀i z u,P i z->r[i]?=some u->a9 g s₀.heap (.tup [.str u.1,u.2]) z)
  (X:∀h' tk kvs,(∀b o,s₀.heap.get? b=some o->h'.get? b=some o)->h'.DictOf (strKind C.prog C.w) D kvs->gd g s₀.heap (EE [] r) kvs->R' (.ok (.ret .none)) {s₀ with heap:=h',toks:=tk}) :
  ∀(k i:Nat) (h:Heap) (tk:Nat) (kvs:List (Str×Value)) (ck:List (Str×an2)),n-i=k->i<=n->bh i h->(∀b o,s₀.heap.get? b=some o->h.get? b=some o)->h.DictOf (strKind C.prog C.w) D kvs->gd g s₀.heap ck kvs ->
   ck.length<=i->EE ck (r.drop i)=EE [] r->∀t0,sX bq A (.builtin "dict.update.loop" ⟨[.ref D,.ref I,.int i t0,.none],[]⟩) R' {s₀ with heap:=h,toks:=tk}:=by
 intro k
 induction k with
 |zero=>
  intro i h tk kvs ck l hi y B E m a s t0;have Y:i=n:=(sQ hi (Nat.le_of_sub_eq_zero l));subst Y;refine akC MC ?_;rw[akD A1 _];show aS _ A.in1 (zV (.ref I) >>= _) _ _ _;refine a6 (W.done _ _ _ y fun h' K j=>?_);show aS _ A.in1 (anN D [] >>= fun V=>ret akE) _ _ _;refine a6 (cn ?_);have Z:r.drop i=[]:=S8 (bx hn);rw[Z]at s;refine cn (X h' K kvs (fun b o e=>j b o (fun d=>?_) (B b o e)) ?_ (by rw[<- s];exact m))
  ·rw[c3.mp d,H]at e;cases e
  ·obtain⟨o,es,ep,F,c⟩:=E;exact⟨o,es,ep,j D o (fun d=>J (c3.mp d).symm) F,c⟩
 |succ k ih=>
  intro i h tk kvs ck l hi y B E m a s t0;have f:i<n:=(Nat.lt_of_sub_eq_succ l);obtain⟨u,L⟩:∃u,r[i]?=some u:=⟨r[i]' (Ju hn f),by simp⟩;refine akC MC ?_;rw[akD A1 _];show aS _ A.in1 (zV (.ref I) >>= _) _ _ _;refine a6 (W.item i _ _ _ f y fun z h' K bB EH j=>?_);have M:∀b o,s₀.heap.get? b=some o->h'.get? b=some o:=fun b o e=>j b o (fun d=>by rw[c3.mp d,H]at e;cases e) (B b o e);have EI:h'.DictOf (strKind C.prog C.w) D kvs:=by
   obtain⟨o,es,ep,F,c⟩:=E;exact⟨o,es,ep,j D o (fun d=>J (c3.mp d).symm) F,c⟩
  have aq:=U i z u bB L;refine Jp (Xc aq) fun p n' x t fV ED hx=>?_;subst fV;have N:=M _ _ ED;refine a6 (j9 ?_);show aS _ A.in1 (Sem.tryCatch (akF (.ref p)) _ >>= _) _ _ _;refine a6 (wpAny_tryCatch ?_);unfold akF;refine a6 (S9 (T:="tuple") ⟨_,N,rfl⟩ ?_);rw[bl (by decide)];refine a6 ?_;unfold seqItems?;refine a6 (wpAny_load N (cn (cn ?_)));show aS _ A.in1 (zW _ (dictSet D (.str u.1 t) x)) _ _ _;refine j9 (wpAny_dictSet_pairs (C2 C.prog C.w u.1 t) EI (fun O A3 Q=>?_) (by rw[<- m.length,i3];exact ax a (ax hi (ax v (by decide)))));refine cn ⟨akG A1 _,?_⟩;have pl:r.drop i=u::r.drop (i+1):=by
   have:=dN.mp L;obtain⟨G,O⟩:=this;rw[<- O];exact aoQ G
  refine ih (i+1) O _ (stored kvs u.1 x) (b6 ck u.1 u.2) ((Nat.sub_add_eq _ _ 1).trans (dt (· - 1) l)) (Ag f) (W.frame _ _ _ EH fun b v o e=>?_) (fun b o e=>?_) A3 (m.put hx) (ax (Xb ..) (lx a 1)) ?_ _
  ·rw[Q.2 b (fun q=>R (q▸v))];exact e
  ·rw[Q.2 b (fun q=>by rw[q,S]at e;cases e)];exact M b o e
  ·rw[<- s,pl];rfl
theorem Xf(R:aM σ g h)(d:∀b o,h.get? b=some o->h'.get? b=some o){v:an2}{x:Value}(f:a9 g h' v x):a9 g h v x:=
 f.mono (hT _) (fun V q=>q) fun a o i e=>by
  refine bK (gv.mp (R.rel.live a i)) fun j c=>?_;have:=d a j c;rw[e]at this;cases this;exact c
theorem Xg(B:eG A d)(R:aM σ g s.heap){l:List an2}{r:List (Str×an2)}{x:Value}(G:a9 g s.heap (.tup l) x)(H:aoK l=some r)(v:r.length<=1000000)(X:cD σ g s (some (.f (.dict (DQ r)))) Q) :
  aS bq A (call (.type "dict") [x]) Q E s:=by
 have Y:=G;refine i5 (bU.un G) fun a vs Z h0 J ml=>?_;subst Z;refine callType_codes (Q₁:=fun obj k=>obj=.ref s.heap.objs.size/\k={s with heap:=s.heap.push {cls:=.type "dict",data:=.dict #[]}}) PySem.F.kt_called_dict (PySem.F.kt_typeCall_dict_1 _) PySem.F.entry_dict_init (kt_code_dict_new _ ⟨rfl,rfl⟩) ?_;rintro obj k ⟨rfl,rfl⟩;have h:(s.heap.push {cls:=.type "dict",data:=.dict #[]}).DictOf (strKind C.prog C.w) s.heap.objs.size []:=akH s.heap;refine⟨h.typeIs,PySem.F.args_dict_init_2 _ _,?_⟩;unfold Builtin.«dict.__init__»;refine a6 ?_;unfold anO;refine a6 (wpAny_notOrdered_dict h.typeIs ?_);show aS _ _ (pure (s.heap.objs.size,[IF a])) _ _ _;refine cn ?_;show aS _ _ (akI "dict.__init__" s.heap.objs.size (.ref a) [] .none) _ _ _;unfold akI;have K:qo (s.heap.push {cls:=.type "dict",data:=.dict #[]}) a vs:=by obtain⟨n,e⟩:=J;exact⟨n,gw _ e⟩
 refine a6 (S9 (T:="tuple") (by obtain⟨n,e⟩:=K;exact⟨_,e,rfl⟩) ?_);rw[bl (by decide)];have qs:∀b o,s.heap.get? b=some o->(s.heap.push {cls:=.type "dict",data:=.dict #[]}).get? b=some o:=fun b o e=>gw _ e;refine a6 (getAttr?_miss_tuple K B.hand fun O hI L=>?_);simp only[Option.isNone_none,if_true];refine a6 (wpAny_rule ?_);have M:O.DictOf (strKind C.prog C.w) s.heap.objs.size []:=by
  obtain⟨o,es,ep,p,c⟩:=h;exact⟨o,es,ep,L _ _ p,c⟩
 have q:∀b o,s.heap.get? b=some o->O.get? b=some o:=fun b o e=>L b o (qs b o e);have bX:aM σ g O:=R.kept (.ge q);refine a6 (A0 (A:=A.in1.in1) (s:={s with heap:=O,toks:=hI}) B.hand bX (iN (.ge q) Y) rfl fun o fp P bh W st oc cq V=>?_);have N:s.heap.objs.size<O.objs.size:=by obtain⟨o,es,ep,p,c⟩:=M;exact j8 p
 have S:∀b j,O.get? b=some j->(O.push o).get? b=some j:=fun b j e=>gw _ e;have Xi:a<s.heap.objs.size:=by obtain⟨n,e⟩:=J;exact j8 e
 refine cn ⟨akG A1 _,?_⟩;have m:r.length=l.length:=by rw[MD H];simp
 have y:=Xd (g:=g) (A:=A.in1) (s₀:=s) (r:=r) (R':=wants (fun r t=>r=akE/\Q (IF s.heap.objs.size) t) E) (I:=O.objs.size) (D:=s.heap.objs.size) W (fun hm=>?_) ?_ (get?_size _) (kF N) m (m▸v) (fun i z u bB aX=>?_) (fun h' tk kvs U EI Xj=>⟨rfl,?_⟩) l.length 0 (O.push o) hI [] [] (Nat.sub_zero _) (d4 _) st (fun b j e=>S b j (q b j e)) ?_ .nil (cu _) rfl 0
 ·exact y
 ·rcases oc _ hm with e|e
  ·exact dk e (gV N)
  ·cases e;exact dk Xi (kD _)
 ·exact xH (s:=s) (s':={s with heap:=O}) (fun b v=>by obtain⟨j,e⟩:=gv.mp v;exact ec (q b j e)) (get?_size _)
 ·have:=cq i z (.tup [.str u.1,u.2]) bB (by rw[MD H,aob,aX];rfl);exact Xf R q this
 ·exact X.xP (tk:=tk) R U (get?_size _) ⟨kvs,EI,Mc (.ge U) Xj⟩
 ·obtain⟨j,es,ep,p,c⟩:=M;exact⟨j,es,ep,S _ _ p,c⟩
theorem Xk(c:eG A d)(R:aM σ g s.heap){v:an2}{x:Value}(b:a9 g s.heap v x)(a:cD σ g s (Lr (cR σ v)) Q) :
  aS bq A (call (.type "dict") [x]) Q E s:=by
 have f:=km R b;have tup:∀l,cR σ v=.tup l->a9 g s.heap (.tup l) x:=fun l e=>by
  cases v with
  |ref i=>
   have e:iH σ[i]?=.tup l:=e;generalize σ[i]?=o at e;rcases o with V |(V|V)<;>exact dS (show none=some l from dt rL e)
  |_=>exact e▸b
 generalize cR σ v=w at f a tup;cases w with
 |tup l=>
  refine aw (cD.bind a) fun r e a=>?_;have a:=a.ite;exact Xg c R (tup l rfl) e (n8 a.1) a.2
 |_=>exact a.elim
theorem Xl(W:Walks prog w A I fp wr n P bh):Walks prog w A I fp wr n (fun i z=>P i z/\i<n) bh:=
 {W with item:=fun i s Q E hi st a=>W.item i s Q E hi st fun v h' tk b=>a v h' tk ⟨b,hi⟩}
theorem Xm(d:A.handled=none)(R:aM σ g s.heap){v:an2}{a:Addr}{vs:Array Value}{l:List an2}(f:a9 g s.heap v (.ref a))(hi:de σ v=some l)(h:s.heap.IsList a vs)
  (j:∀(o:Obj) (fp:List Addr) (P:Nat->Value->Prop) (bh:Nat->Heap->Prop),Walks C.prog C.w A s.heap.objs.size fp [s.heap.objs.size] l.length P bh->bh 0 (s.heap.push o)->(∀b∈fp,b<(s.heap.push o).objs.size)->(∀i z,P i z->∃u,l[i]?=some u/\a9 g s.heap u z) ->
   (∀h':Heap,(∀b c,b∉[s.heap.objs.size]->(s.heap.push o).get? b=some c->h'.get? b=some c)->∀b c,s.heap.get? b=some c->h'.get? b=some c)->Q (.ref s.heap.objs.size) {s with heap:=s.heap.push o}) :
  aS bq A (C3 (.ref a)) Q E s:=by
 refine A0 d R f hi fun o fp P bh W st k m V=>j o fp _ bh (Xl W) st (fun b n=>?_) (fun i z bB=>⟨l[i]' bB.2,by simp[bB.2],m i z _ bB.1 (by simp[bB.2])⟩) fun h' p b c e=>?_
 ·rw[sW];rcases k b n with e|e
  ·rw[e];exact aog _
  ·cases e;obtain⟨o,e,V⟩:=h;exact j7 (j8 e)
 ·refine p b c (fun q=>?_) (gw _ e);rw[c3.mp q]at e;exact dk (j8 e) (kD _)
theorem Xn{ns:List Bool}(h:tg l=some ns):l=ns.map .bool:=by
 induction l generalizing ns with
 |nil=>cases h;rfl
 |cons v l ih=>
  refine aw (eN.mp (show (AA v).bind _=some ns from h)) fun b a h=>?_;refine aw (dh.mp h) fun r O h=>?_;subst h;rw[Mf a,ih O];rfl
theorem Xo(l:List Bool):(bf l.length).all (fun i=>l.getD i true)=l.all id:=by
 induction l with
 |nil=>rfl
 |cons a l ih=>
  rw[aoc,IG,akJ,List.all_map,akJ,<- ih];rfl
theorem Xp(m:eG A d)(R:aM σ g s.heap){v:an2}{x:Value}{l:List an2}{ns:List Bool}(h:a9 g s.heap v x)(c:eZ σ v=some l)(O:tg l=some ns)(p:cD σ g s (some (.v (.bool (ns.all id)))) Q) :
  aS bq A (call (.builtin "all") [x]) Q E s:=by
 have j:=Xn O;refine db (n7 R c h) fun a vs q r V=>?_;subst q;have t:de σ v=some l:=by
  show xn (cR σ v)=some l;rw[vi c];rfl
 refine call_all_walkS (Xm (A:=A.in1) m.hand R h t r fun o fp P bh W st F w y=>⟨_,_,_,_,_,_,_,(fun i=>ns.getD i true),rfl,W.toS,st,?_,fun s' k=>?_⟩)
 ·intro i z s' Q E bB B;refine aw (w i z bB) fun u b C=>?_;rw[j,aob]at b;cases f:ns[i]? with
  |none=>rw[f]at b;cases b
  |some n=>
   rw[f]at b;cases b;cases (show z=.bool n from gL C);have e:ns.getD i true=n:=by simp[zX,f]
   have D:Q n s':=e▸B;exact S2 D
 ·rw[Moved.eq_with k];have b:=Xo ns;rw[show ns.length=l.length by rw[j];simp]at b;rw[b];exact p.valAt R (y _ k.heap) (.bool ..)
noncomputable def aov.callee(x:aov):Value:=match x with
 |.len=>.builtin "len" | .sorted=>.builtin "sorted" | .tuple=>.type "tuple" | .dict=>.type "dict" | .range=>.type "range"
 |.list=>.type "list" | .str=>.type "str" | .int=>.type "int" | .rF=>.type "range" | .all=>.builtin "all" | .min2 V=>.builtin "min" | .abs=>.builtin "abs"
theorem mn(e:one args=some v)(d:an6 g h args xs):∃x,xs=[x]/\a9 g h v x:=by
 rcases args with V |⟨a,V |⟨b,l⟩⟩
 ·cases e
 ·cases e;cases d with|cons c O=>cases O;exact⟨_,rfl,c⟩
 ·cases e
theorem EK{p:an2×an2}(e:xt args=some p)(f:an6 g h args xs):∃x y,xs=[x,y]/\a9 g h p.1 x/\a9 g h p.2 y:=by
 rcases args with V |⟨a,V |⟨b,V |⟨c,l⟩⟩⟩<;>cases e;cases f with|cons d O=>cases O with|cons O i=>cases i;exact⟨_,_,rfl,d,O⟩
theorem Xr(h:n<10^40):n.log2<1920:=by
 by_cases h0:n=0
 ·subst h0;decide
 ·rw[akK h0];exact jt h (by decide +kernel)
theorem Xs(K:C.OK)(m:eG A d)(R:aM σ g s.heap){b:aov}{args:List an2}{xs:List Value}(h:an6 g s.heap args xs)(hp:cD σ g s (i8 σ b args) Q) :
  aS bq A (call b.callee xs) Q E s:=by
 cases b with
 |len=>
  refine aw (cD.bind hp) fun v e hp=>?_;refine aw (mn e h) fun x c a=>?_;subst c;refine aw hp.bind fun n f hp=>?_;have hp:=hp.ite;exact WX R a f (n8 hp.1) fun t tk=>hp.2.val R (.int ..)
 |sorted=>
  refine aw (cD.bind hp) fun v e hp=>?_;refine aw (mn e h) fun x c a=>?_;subst c;refine aw hp.bind fun n f hp=>?_;have hp:=hp.ite;exact W7 m R a f hp.1 hp.2
 |tuple=>
  refine aw (cD.bind hp) fun v e hp=>?_;refine aw (mn e h) fun x c a=>?_;subst c;refine aw hp.bind fun n f hp=>?_;have hp:=hp.ite;exact WY R a f (n8 hp.1) hp.2
 |dict=>
  refine aw (cD.bind hp) fun v e hp=>?_;refine aw (mn e h) fun x c a=>?_;subst c;exact Xk m R a hp
 |range=>
  refine aw (cD.bind hp) fun v e hp=>?_;refine aw (mn e h) fun x c a=>?_;subst c;refine aw hp.bind fun n f hp=>?_;refine bK (m1 f a) fun t c=>?_;subst c;have hp:=hp.ite;exact call_range_1 (hp.2.push R (.eP (.inr rfl) ⟨by decide,hp.1,_,_,_,akL ..⟩) rfl)
 |abs=>
  refine aw (cD.bind hp) fun v e hp=>?_;refine aw (mn e h) fun x c a=>?_;subst c;refine aw hp.bind fun n f hp=>?_;refine bK (m1 f a) fun t c=>?_;subst c;refine call_abs_int fun u tk=>?_;rw[Un];exact hp.val R (.int ..)
 |min2 V=>
  refine aw (cD.bind hp) fun p e hp=>?_;refine db (EK e h) fun x y k a O=>?_;subst k;rcases hp.both with⟨i,j,o,q,hp⟩|hp
  ·refine bZ (qr a O o q) fun t u k r=>?_;subst k r;refine min_two_ints m.hand fun h' tk w=>?_;split
   ·rename_i ae;rw[bl ae]at hp;exact hp.valAt R w (.int ..)
   ·rename_i ae;rw[b5 ae]at hp;exact hp.valAt R w (.int ..)
  ·exact hp.elim
 |list=>
  refine aw (cD.bind hp) fun v e hp=>?_;refine aw (mn e h) fun x c a=>?_;subst c;refine aw hp.bind fun l f hp=>?_;have hp:=hp.ite;exact WZ m R (km R a) f (n8 hp.1) hp.2
 |int=>
  refine aw (cD.bind hp) fun v e hp=>?_;refine aw (mn e h) fun x c a=>?_;subst c;refine aw hp.bind fun b f hp=>?_;rw[Mf f]at a;cases (show x=.bool b from gL a);exact call_int_bool (hp.val R (.int ..))
 |str=>
  refine aw (cD.bind hp) fun v e hp=>?_;refine aw (mn e h) fun x c a=>?_;subst c;refine aw hp.bind fun n f hp=>?_;refine bK (m1 f a) fun t c=>?_;subst c;have hp:=hp.ite;exact PySem.P.str_of_int (Xr hp.1) (hp.2.val R (.str ..))
 |rF=>
  refine aw (cD.bind hp) fun p e hp=>?_;refine db (EK e h) fun x y k a O=>?_;subst k;rcases hp.both with⟨i,j,o,q,hp⟩|hp
  ·refine bZ (qr a O o q) fun t u k r=>?_;subst k r;have hp:=hp.ite;exact call_range_2 (hp.2.push R (.eP (.inr rfl) ⟨hp.1.2,hp.1.1,_,_,_,akL ..⟩) rfl)
  ·exact hp.elim
 |all=>
  refine aw (cD.bind hp) fun v e hp=>?_;refine aw (mn e h) fun x c a=>?_;subst c;refine aw hp.bind fun l f hp=>?_;refine aw hp.bind fun ns z hp=>?_;have hp:=hp.ite;exact Xp m R a f z hp.2
end
section
open PySem PyProof.Rows PySem.SeqAt
variable {σ au:ah}{g g':bS}{h h':Heap}{s s':Shared}{own:Addr->Prop}{A:Around}{d:Nat}
 {Q:Value->Shared->Prop} {E:Value->Shared->Prop}
variable {a sl:Addr}
theorem MI(c:¬g.bD a)(d:∀b o,b≠a->h.get? b=some o->h'.get? b=some o){v:List an2}{x:List Value}(f:an6 g h v x):an6 g h' v x:=
 f.mono (hT _) (fun V q=>q) fun b o i e=>d b o (fun q=>c (q▸i)) e
theorem EL(c:¬g.bD a)(d:∀b o,b≠a->h.get? b=some o->h'.get? b=some o){v:an2}{x:Value}(f:a9 g h v x):a9 g h' v x:=
 f.mono (hT _) (fun V q=>q) fun b o i e=>d b o (fun q=>c (q▸i)) e
theorem Xu(c:¬g.bD a)(d:∀b o,b≠a->h.get? b=some o->h'.get? b=some o){v:List (Str×an2)}{x:List (Str×Value)}(f:gd g h v x):gd g h' v x:=
 f.mono (hT _) (fun V q=>q) fun b o i e=>d b o (fun q=>c (q▸i)) e
variable {b i n tk:Nat}
theorem EM(h:a∈g.aL)(i:¬g.lk a)(d:∀b o,b≠a->s.heap.get? b=some o->h'.get? b=some o)(j:(h'.get? a).isSome=true):Ext own g s g {s with heap:=h',toks:=tk}:=
 Ext.heap (fun b o e c V=>d b o (fun q=>by subst q;exact c.elim (fun q=>q h) i) e) fun b c=>by
  by_cases f:b=a
  ·subst f;exact j
  ·obtain⟨o,k⟩:=gv.mp c;rw[d b o f k];rfl
def m5(g:bS)(s:Shared)(r:Option (an2×ah))(Q:Value->Shared->Prop):Prop:=match r with
 |none=>False
 |some (v,au)=>∀g' s' y,Ext cG g s g' s'->aM au g' s'.heap->a9 g' s'.heap v y->Q y s'
variable {l:List an2}{v:an2}{y:Value}{vs:Array Value}
theorem m5.list(R:aM σ g s.heap)(hi:g.aL[i]?=some a)(d:¬g.lk a)(j:m5 g s (some (v,σ.set i (.list false l))) Q)
  (c:∀b o,b≠a->s.heap.get? b=some o->h'.get? b=some o) (f:mZ h' a vs) (k:an6 g s.heap l vs.toList) (m:a9 g s.heap v y):Q y {s with heap:=h',toks:=tk}:=by
 have h:=R.rel.fz a (ik hi);refine j g _ y (EM (ik hi) d c (by obtain⟨n,e⟩:=f;exact ec e)) (R.set hi c ⟨⟨fun q=>(l5 q),fun q=>(d q).elim⟩,vs,f,MI h c k⟩) (EL h c m)
theorem m5.same(R:aM σ g s.heap)(a:m5 g s (some (v,σ)) Q)(b:a9 g s.heap v y):Q y {s with toks:=tk}:=
 a g _ y (Ext.toks (Ext.refl g s)) R b
theorem EN{f:Array Value->Array Value}(b:h.get? a=some {cls:=.type "list",dict:=none,data:=.seq vs n,slots:=#[]}):mZ (h.update a (IH f)) a (f vs):=by
 have e:=akM (IH f) b rfl;exact⟨_,e⟩
theorem MJ{f:Obj->Obj}:∀b o,b≠a->h.get? b=some o->(h.update a f).get? b=some o:=fun b o c e=>(aoR _ _ (eD c)).trans e
noncomputable def kJ.id(x:kJ):String:=match x with
 |.append=>"list.append" | .get=>"dict.get" | .extend V=>"list.extend"
theorem EO(R:aM σ g s.heap){i:Nat}{a:Addr}{l:List an2}(c:σ[i]?=some (.list false l))(hi:g.aL[i]?=some a):¬g.lk a/\∃vs n,s.heap.get? a=some {cls:=.type "list",dict:=none,data:=.seq vs n,slots:=#[]}/\an6 g s.heap l vs.toList:=by
 obtain⟨b,vs,⟨n,O⟩,d⟩:=R.rel.objs i _ a c hi;exact⟨fun q=>(l5 (b.mpr q)),vs,n,O,d⟩
theorem Xv(R:aM σ g s.heap){i:Nat}{a:Addr}{l:List (Str×an2)}(c:σ[i]?=some (.dict false l))(hi:g.aL[i]?=some a):¬g.lk a/\∃kvs,s.heap.DictOf (strKind C.prog C.w) a kvs/\gd g s.heap l kvs:=by
 obtain⟨b,vs,O,d⟩:=R.rel.objs i _ a c hi;exact⟨fun q=>(l5 (b.mpr q)),vs,O,d⟩
variable {α:Type}
theorem m5.bind{o:Option α}{f:α->Option (an2×ah)}(a:m5 g s (o.bind f) Q):∃x,o=some x/\m5 g s (f x) Q:=n6 (fun o=>m5 g s o Q) id a
theorem EP(h:jA σ i=some l):σ[i]?=some (.list false l):=by
 unfold jA at h;generalize σ[i]?=o at h ⊢;rcases o with V |(⟨V|V,V⟩|V)<;>cases h;rfl
theorem Xw{l:List (Str×an2)}(h:rM σ i=some l):σ[i]?=some (.dict false l):=by
 unfold rM at h;generalize σ[i]?=o at h ⊢;rcases o with V |(V |⟨V|V,V⟩)<;>cases h;rfl
theorem Xx{args:List an2}{xs:List Value}{p:an2×an2}(e:Lu args=some p)(f:an6 g h args xs):∃x y,xs=[x,y]/\a9 g h p.1 x/\a9 g h p.2 y:=by
 rcases args with V |⟨a,V |⟨b,V |⟨c,l⟩⟩⟩<;>cases e;cases f with|cons d O=>cases O with|cons O i=>cases i;exact⟨_,_,rfl,d,O⟩
theorem Xy(aD:eG A d)(R:aM σ g s.heap){m:kJ}{o:an2}{args:List an2}{x:Value}{xs:List Value}(D:a9 g s.heap o x)(L:an6 g s.heap args xs)(c:m5 g s (ma σ m o args) Q) :
  aS bq A (call (.builtin m.id) (x::xs)) Q E s:=by
 cases m with
 |append=>
  refine a3 fun f=>?_;refine aw (m5.bind c) fun v e c=>?_;refine aw (mn e L) fun y G h=>?_;subst G;refine aw c.bind fun i e c=>?_;refine f ?_;clear f;rw[vj e]at D;refine a3 fun f=>?_;obtain⟨a,rfl,hi⟩:=gL D;refine aw c.bind fun l e c=>?_;obtain⟨M,vs,n,H,I⟩:=EO R (EP e) hi;refine f ?_;clear f;have B:=I.size;split at c
  ·rename_i j;have j:=n8 j;refine akN ⟨n,H⟩ (fun h' S T=>?_) (by rw[B,i3];exact s7 j);refine c.list (tk:=s.toks) R hi M (fun b ob U e=>by rw[T.2 b U];exact e) (by obtain⟨W,e⟩:=S;exact⟨W,e⟩) ?_ .none;rw[akO];exact I.append (.cons h .nil)
  ·exact c.elim
 |extend V=>
  show aS bq A (call (.builtin "list.extend") (x::xs)) Q E s;refine a3 fun f=>?_;refine aw (m5.bind c) fun v e c=>?_;refine aw (mn e L) fun y G h=>?_;subst G;refine aw c.bind fun i e c=>?_;refine f ?_;clear f;rw[vj e]at D;refine a3 fun f=>?_;obtain⟨a,rfl,hi⟩:=gL D;refine aw c.bind fun r X c=>?_;refine aw c.bind fun l e c=>?_;obtain⟨M,vs,n,H,I⟩:=EO R (EP e) hi;refine f ?_;clear f;have B:=I.size;split at c
  ·rename_i j;have j:=n8 j;have J:∀k:Nat,k=r.length->¬(!vs.isEmpty&&S0 (vs.size+k))=true:=by
    intro k Y ae;have:=(gX.mp ae).2;simp only[S0,decide_eq_true_eq,i3]at this;exact((ff (aG (aG (aG (bx B) j) (bx Y)) this) (by simp +arith))).elim
   have K:=km R h;rw[vi X]at K;refine a3 fun f=>?_;obtain⟨b,aP,rfl,⟨Z,lE⟩,N⟩:=K;refine f ?_;clear f;have q:=N.size;refine IC akP ⟨_,H,rfl⟩ PySem.F.entry_list_extend (PySem.F.args_list_extend_2 _ _) (AutoSeq1.list_extend_list_list_0 a vs n _ _ Z (J _ q) (by rw[i3];exact fr (aG (bx B) j) (by simp +arith)) (by rw[i3];exact fr (aG (aG (bx B) j) (bx q)) (by simp +arith))) ⟨H,lE,?_⟩;refine c.list (tk:=s.toks) R hi M MJ (EN H) ?_ .none;rw[zT];exact I.append N
  ·exact c.elim
 |get=>
  refine a3 fun f=>?_;refine aw (m5.bind c) fun p e c=>?_;refine db (Xx e L) fun y z aJ h O=>?_;subst aJ;refine aw c.bind fun k e c=>?_;refine bK (m2 e h) fun t G=>?_;subst G;refine aw c.bind fun l e c=>?_;refine f ?_;clear f;have K:=km R D;rw[Mg e]at K;refine a3 fun f=>?_;obtain⟨a,kvs,rfl,hm,B,cy⟩:=K;refine f ?_;clear f;refine call_meetsIn akQ B.typeIs PySem.F.entry_dict_get (PySem.F.args_dict_get_3 _ _ _) (meets_dict_get_default (strKind C.prog C.w) a (C2 C.prog C.w k t) (by simpa using hm) _) ⟨_,B.mapOf,?_⟩;have q:=cy.get k;cases P:cp l k with
  |none=>rw[P]at q c;have q:zQ kvs k=none:=q;rw[q];exact c.same R O
  |some u=>rw[P]at q c;obtain⟨w,ir,tz⟩:=q;rw[ir];exact c.same R tz
theorem Xz{a:Nat}:S' (some (a:Int)) (some (b:Int)) 1 (n:Int)=(((min a n:Nat):Int),((min b n:Nat):Int)):=by
 unfold S';have c:¬((1:Int)<0):=by decide
 have O:¬((a:Int)<0):=(DD);have d:¬((b:Int)<0):=(DD);simp only[c,O,d,if_false]
 congr 1<;>exact UJ
theorem XA(a b:Nat):II (a:Int) (b:Int) 1=b-a:=by
 unfold II;have c:(1:Int) > 0:=by decide
 simp only[c,if_true,Int.ediv_one];split<;>(first | exact(by rw[Int.sub_add_cancel];exact akR _ _) | exact(akS (lw.mp (hR.mp (by assumption)))).symm)
variable {u:Tok}
theorem XB{a:Nat}{t:Tok}{Q:Int×Int×Nat->Shared->Prop}(f:s.heap.IsSliceOf sl (.int a u) (.int b t) .none)(h:Q (((min a n:Nat):Int),1,min b n-min a n) s) :
  aS bq A (akT (.ref sl) (pure (n:Int))) Q E s:=by
 refine a3 fun e=>?_;obtain⟨os,c,g,d⟩:=id f;refine e ?_;clear e;unfold akT anP;refine a6 (a6 (Ta c d (x:=.int a u) rfl (a6 (Ta c d (x:=.int b t) rfl (a6 (Ta c d (x:=.none) rfl (cn ?_)))))));refine a6 (slicePart_none ?_);show aS _ _ (if ((1:Int)==0)=true then _ else _) _ _ s;rw[b5 (by decide)];refine a6 (slicePart_int (a6 (slicePart_int (a6 (cn ?_)))));show aS bq A (match S' (some (a:Int)) (some (b:Int)) 1 (n:Int) with |(lo,hi)=>pure (lo,(1:Int),II lo hi 1)) Q E s
 rw[Xz];show aS _ _ (pure (((min a n:Nat):Int),(1:Int),II ((min a n:Nat):Int) ((min b n:Nat):Int) 1)) _ _ s;rw[XA];exact cn h
theorem XC(xs:Array Value)(a k:Nat):((bf k).filterMap fun(i:Nat)=>xs[((a:Int)+(i:Int)*1).toNat]?).toArray=((xs.toList.drop a).take k).toArray:=by
 have e:(fun(i:Nat)=>xs[((a:Int)+(i:Int)*1).toNat]?)=fun i=>xs[a+i]?:=by
  funext i;have:((a:Int)+(i:Int)*1).toNat=a+i:=(by rw[oU];rfl);rw[this]
 rw[e];have:=pick_run xs a k;rw[List.filterMap_map]at this;exact dt List.toArray this
theorem ML(l:List α)(a b:Nat):(l.drop (min a l.length)).take (min b l.length-min a l.length)=(l.take b).drop a:=by
 apply uQ;intro i;rw[Tb,Tc,Tc,Tb];by_cases h:a<=l.length
 ·rw[Ip h];by_cases c:i<min b l.length-a
  ·rw[bl c,bl (kG _ _▸an9 (IJ c) (Nat.min_le_left _ _))]
  ·rw[b5 c];by_cases O:a+i<b
   ·rw[bl O,nN ((Ik b l.length).elim (fun w=>dk (Ip w▸Iq.mp (gq.mp c)) (zY O)) fun w=>SO w▸Iq.mp (gq.mp c))]
   ·rw[b5 O]
 ·rw[SO (show l.length<=a by exact Nat.le_of_not_ge h),b5 (by exact fun e=>nM _ (akS (akU _ _)▸e))];by_cases O:a+i<b
  ·rw[bl O,nN (fr (SM h) (by simp +arith))]
  ·rw[b5 O]
theorem XD{t:Addr}{de:Array Value}{a:Nat}{v:Tok}(ht:IsTup s.heap t de)(f:s.heap.IsSliceOf sl (.int a u) (.int b v) .none)(d:1<=a)(O:1<=de.size)
  (h:Q (.ref s.heap.objs.size) {s with heap:=s.heap.push {cls:=.type "tuple",data:=.seq ((de.toList.take b).drop a).toArray}})
  (i:de.size<=IB):aS bq A (getItem (.ref t) (.ref sl)) Q E s:=by
 have c:sizeOk (.seq ((de.toList.take b).drop a).toArray):=by
  show ((de.toList.take b).drop a).toArray.size<=IB;rw[List.size_toArray,akV,List.length_take,C0];exact ax (kH _ _) (ax (akU _ _) i)
 refine a3 fun g=>?_;obtain⟨os,j,k,o⟩:=id f;refine g ?_;clear g;have l:s.TypeIs (.ref sl) "slice":=⟨os,j,k⟩;unfold getItem
 try with_reducible refine j9 ?_
 first | refine a6 (cn ?_) | skip
 refine a6 (akW ht.typeIs (by decide) ?_);refine a6 (akX (name:=ly "__getitem__") ht.typeIs IE
  (S6 IE ht.typeIs anQ ?_ (anR _ _)))
 show aS _ _ (anS (.ref t) >>= _) _ _ s;refine a6 (tupleItemsOf_ ht ?_);refine a6 (S9 l ?_);rw[bl (by decide)];refine a6 (XB f ?_);have n:¬((((min a de.size:Nat):Int)==0&&(1:Int)==1&&(min b de.size-min a de.size)==de.size)=true):=by
  have:(((min a de.size:Nat):Int)==0)=false:=by rw[beq_eq_false_iff_ne];exact fun e=>kF (Nat.lt_min.mpr ⟨d,O⟩) (akY.mp e)
  rw[this];simp
 show aS _ _ (if (((min a de.size:Nat):Int)==0&&(1:Int)==1&&(min b de.size-min a de.size)==de.size)=true then _ else _) _ _ s;rw[b5 n,XC];have e:(de.toList.drop (min a de.size)).take (min b de.size-min a de.size)=(de.toList.take b).drop a:=by
  have:=ML de.toList a b
  rwa [C0]at this
 rw[e]
 first
  |exact a6 (m:=IK _) (C6 (cn ⟨_,rfl,cn h⟩) c)
  |exact a6 (m:=IK _) (C6 (a6 (cn (cn ⟨_,rfl,cn h⟩))) c)
  |exact a6 (a6 (m:=IK _) (C6 (cn (cn ⟨_,rfl,cn h⟩)) c))
  |exact a6 (a6 (m:=IK _) (C6 (cn ⟨_,rfl,cn h⟩) c))
theorem XF(x:qo h a vs):IsTup h a vs:=let ⟨n,e⟩:=x;⟨_,e,rfl,n,rfl⟩
theorem XG(R:aM σ g s.heap){value lo hi:Expr}{pp:Pos}{l:List an2}{x:Value}{a b:Nat}{u v:Tok}(q:rU g s.heap (.tup l) x)(c:cD σ g s (Ln a b l) Q) :
  aS bq A (subscriptTail value (.Slice (some lo) (some hi) none pp) x (.ref s.heap.objs.size)) Q E {s with heap:=s.heap.push {cls:=.type "slice",data:=.fields #[.int a u,.int b v,.none]}}:=by
 have i:∀b' ob,s.heap.get? b'=some ob->(s.heap.push {cls:=.type "slice",data:=.fields #[.int a u,.int b v,.none]}).get? b'=some ob:=fun b' ob e=>gw _ e;refine a3 fun j=>?_;obtain⟨p,vs,rfl,r,k⟩:=q;have c:=cD.ite (σ:=σ) (g:=g) (s:=s) (p:=(d' l.length&&decide (1<=a)&&decide (1<=l.length))=true) (o:=.v (.tup ((l.take b).drop a))) c;refine im c.1 fun d f h=>?_;have d:=n8 d;have f:=ct f;have h:=ct h;have m:=k.size;refine j ?_;clear j;have ht:IsTup (s.heap.push {cls:=.type "slice",data:=.fields #[.int a u,.int b v,.none]}) p vs:=(XF r).keeps i;refine tail_any (s:={s with heap:=s.heap.push {cls:=.type "slice",data:=.fields #[.int a u,.int b v,.none]}}) ht.typeIs IE.lookup (XD (b:=b) ht (akZ ..) f (le_of_le_of_eq h (id (gW m))) ?_ (by rw[i3];exact Jv d m)) rfl;have n:∀b' ob,s.heap.get? b'=some ob->((s.heap.push {cls:=.type "slice",data:=.fields #[.int a u,.int b v,.none]}).push {cls:=.type "tuple",data:=.seq ((vs.toList.take b).drop a).toArray}).get? b'=some ob:=fun b' ob e=>gw _ (i b' ob e);refine c.2.Mz (tk:=s.toks) R n (ak0 (by rw[sW];exact nK _)) (ec (jv _ rfl)) (.tup (.inr rfl) ⟨_,jv _ rfl⟩ (AS (lD (.ge n) ?_)));exact(k.take b).drop a
theorem XH(R:aM σ g s.heap){value:Expr}{lo:Expr}{pp:Pos}{l:List an2}{x:Value}{a:Nat}{u:Tok}(h:rU g s.heap (.lst l) x)(c:cD σ g s (DR a l) Q) :
  aS bq A (subscriptTail value (.Slice (some lo) none none pp) x (.ref s.heap.objs.size)) Q E {s with heap:=s.heap.push {cls:=.type "slice",data:=.fields #[.int a u,.none,.none]}}:=by
 have i:∀b ob,s.heap.get? b=some ob->(s.heap.push {cls:=.type "slice",data:=.fields #[.int a u,.none,.none]}).get? b=some ob:=fun b ob e=>gw _ e;obtain⟨p,vs,rfl,j,d⟩:=h;have c:=cD.ite c;have k:=n8 c.1;have m:=d.size;have ht:(s.heap.push {cls:=.type "slice",data:=.fields #[.int a u,.none,.none]}).IsList p vs:=(mi j).push _;refine tail_any (s:={s with heap:=s.heap.push {cls:=.type "slice",data:=.fields #[.int a u,.none,.none]}}) ht.typeIs S3.lookup (wpAny_getItem_list_slice ht (akZ ..) (.int a u) .none .none (by simp) ?_ (by rw[i3];exact Jv k m)) rfl;rw[PySem.W.kms_pick_eq];have e:ak1 vs.toList (some (a:Int)) none=vs.toList.drop a:=by
  have:=ML vs.toList a vs.toList.length;rw[akv,IL]at this;rw[<- this];unfold ak1;rw[show PySem.W.kms_lo (some (a:Int)) vs.toList.length=min a vs.toList.length by
   show (if (a:Int)<0 then vs.toList.length-(-(a:Int)).toNat else min (a:Int).toNat vs.toList.length)=_;rw[b5 (DD)];rfl]
  rfl
 rw[e];have f:∀b' ob,s.heap.get? b'=some ob->((s.heap.push {cls:=.type "slice",data:=.fields #[.int a u,.none,.none]}).push {cls:=.type "list",data:=.seq (vs.toList.drop a).toArray}).get? b'=some ob:=fun b' ob e=>gw _ (i b' ob e);refine c.2.xP (tk:=s.toks) R f (ak0 (by rw[sW];exact nK _)) ⟨_,⟨_,jv _ rfl⟩,lD (.ge f) ?_⟩;exact d.drop a
end
section
open PySem PyProof.Rows PySem.SeqAt
noncomputable def MM(x:Option NameKind):Bool:=match x with
 |some .cell|some .free=>true
 |V=>false
structure b8 (nm:cA)(ac:dI)(env:Env)(ρ:List an2)(g:bS)(h:Heap):Prop where
 kind:env.scope.kind=.function
 names:env.scope.names=nm
 glob:env.globals=gr/\(nm.lookup (".0":Str)=none->nm=C.lnm->env.qual=C.lam.2.2/\env.code=.ref C.lam.1)
 blt:env.builtins=mL
 inj:∀x y i,ac.lookup x=some i->ac.lookup y=some i->x=y
 ns:∃m,h.Ns env.locals m/\∀x i v,ac.lookup x=some i->nm.lookup x=some .local->ρ[i]?=some v->v≠.undef->∃y,m x=some y/\a9 g h v y
 cl:∀x i,ac.lookup x=some i->MM (nm.lookup x)=true->∃c o,env.cells.lookup x=some c/\h.IsCell c o/\∀v,ρ[i]?=some v->v≠.undef->∃y,o=some y/\a9 g h v y
 d7:env.locals∉g.aL/\¬g.bD env.locals
 gE:∀x c,env.cells.lookup x=some c->c∉g.aL/\¬g.bD c
 g4:∀x c,env.cells.lookup x=some c->∃o,h.IsCell c o
 apart:∀x y c,env.cells.lookup x=some c->env.cells.lookup y=some c->x=y
def e2(env:Env):Addr->Prop:=fun b=>b=env.locals\/∃x,env.cells.lookup x=some b
variable {c:bP}{σ au:ah}{g g':bS}{h h':Heap}{s s':Shared}{own:Addr->Prop}{A:Around}{d:Nat}{nm:cA}{ac:dI}{env:Env}{ρ:List an2}
 {Q:Value->Shared->Prop} {E:Value->Shared->Prop}
theorem ry.live{h:Heap}{a:Addr}{m:Str->Option Value}(x:h.Ns a m):∃o,h.get? a=some o:=by
 obtain⟨o,es,ep,b,V⟩:=x;exact⟨o,b⟩
theorem A5{h:Heap}{c:Addr}{o:Option Value}{ob:Obj}(x:h.get? c=some ob)(y:h.IsCell c o):kS ob=false:=by
 obtain⟨d,a,b⟩:=y;rw[x]at a;cases a;show qp ob.data=false;rw[b];rfl
theorem b8.ext(F:b8 nm ac env ρ g s.heap)(R:aM σ g s.heap)(e:Ext cG g s g' s'):b8 nm ac env ρ g' s'.heap where
 kind:=F.kind
 names:=F.names
 glob:=F.glob
 blt:=F.blt
 inj:=F.inj
 ns:=by
  refine aw F.ns fun m f O=>?_;refine⟨m,?_,fun x i v j k l n=>?_⟩
  ·exact e.El f F.d7.1 (fun q=>q)
  ·refine aw (O x i v j k l n) fun y a h=>?_;exact⟨y,a,h2 R e dZ.none h⟩
 cl:=fun x i j k=>by
  refine db (F.cl x i j k) fun d o a h p=>?_;refine⟨d,o,a,?_,fun v l n=>?_⟩
  ·obtain⟨ob,b,c⟩:=id h;exact⟨ob,e.pi b (F.gE x d a).1 (fun q=>q) (A5 b h),c⟩
  ·refine aw (p v l n) fun y r t=>?_;exact⟨y,r,h2 R e dZ.none t⟩
 d7:=by
  refine aw F.ns fun m f V=>?_;refine bK (ry.live f) fun o b=>?_;exact⟨e.ph b F.d7.1,e.tw b F.d7.2⟩
 gE:=fun x d a=>by
  obtain⟨o,ob,b,V⟩:=F.g4 x d a;exact⟨e.ph b (F.gE x d a).1,e.tw b (F.gE x d a).2⟩
 g4:=fun x d a=>by
  refine bK (F.g4 x d a) fun o q=>?_;obtain⟨ob,b,c⟩:=id q;exact⟨o,ob,e.pi b (F.gE x d a).1 (fun q=>q) (A5 b q),c⟩
 apart:=F.apart
def aoA(g:bS)(s:Shared)(r:be an2)(Q E:Value->Shared->Prop):Prop:=match r with
 |.ok v au=>∀g' s' x,Ext cG g s g' s'->aM au g' s'.heap->a9 g' s'.heap v x->Q x s'
 |.bad=>False
variable {r:be an2}
theorem cw.EQ(h:cw cG g s r Q E):aoA g s r Q E:=by
 cases r with
 |ok=>exact h
 |bad=>exact h
structure jN (c:bP)(d:Nat):Prop where
 gl:∀x v,c.gl x=some v->∃y,C.mg x=some y/\a9 C.dB C.B v y
 XI:∀f args σ,iK f=true->c.hA f args σ≠.bad->∃a o fd,C.mg f=some (.ref a)/\C.B.get? a=some o/\o.data=.func fd
 hA:∀f a args xs σ g s A Q E,iK f=true->C.mg f=some (.ref a)->eG A d->aM σ g s.heap->an6 g s.heap args xs->aoA g s (c.hA f args σ) Q E->aS bq A (call (.ref a) xs) Q E s
 bi:∀w∈vg,C.mg w=none
 cls:∀k I,C.cls k=some I->I.OK C.B c.dc
 dc:∀x,c.dc x=true->zR (.type "object") x=pure none
 MN:∀k I x args σ,C.cls k=some I->c.hA (fy k x) args σ≠.bad->∃f o fd y,I.mN x=some (.ref f)/\C.B.get? f=some o/\o.cls=.type "function"/\o.data=.func fd/\zR (.type "object") x=pure y
 XJ:∀k I x f args xs σ g s A Q E,C.cls k=some I->I.mN x=some (.ref f)->eG A d->aM σ g s.heap->an6 g s.heap args xs->aoA g s (c.hA (fy k x) args σ) Q E->aS bq A (call (.ref f) xs) Q E s
 XK:∀k I f args xs σ g s A ys Q E,C.cls k=some I->I.mN "__init__"=some (.ref f)->eG A d->aM σ g s.heap->an6 g s.heap args xs->aoA g s (c.hA (fy k "__init__") args σ) Q E->aS bq (A.under (.builtin "type.__call__" ⟨.ref I.C::ys,[]⟩)) (call (.ref f) xs) Q E s
 new:∀k args σ,c.hA (fy k "__init__") args σ≠.bad->∃I,C.cls k=some I/\C.mg k=some (.ref I.C)
 lnm:c.lnm=C.lnm
variable {α:Type}
theorem tF{a b:α}{σ au:ah}(h:be.ok a σ=.ok b au):a=b/\σ=au:=by cases h;exact⟨rfl,rfl⟩
theorem A6{β:Type}{r:be α}{f:α->ah->be β}{v:β}{au:ah}(h:r.bind f=.ok v au):∃a aj,r=.ok a aj/\f a aj=.ok v au:=by
 cases r with
 |ok a aj=>exact⟨a,aj,rfl,h⟩
 |bad=>cases h
theorem cw.dD{r:be α}{f:α->ah->be an2}(a:cw own g s (r.bind f) Q E):∃v aj,r=.ok v aj/\cw own g s (f v aj) Q E:=by
 cases r with
 |ok v aj=>exact⟨v,aj,rfl,a⟩
 |bad=>exact a.elim
variable {v:an2}
theorem cw.mk(a:r=.ok v au)(h:∀g' s' x,Ext own g s g' s'->aM au g' s'.heap->a9 g' s'.heap v x->Q x s'):cw own g s r Q E:=by rw[a];exact h
def fk(own:Addr->Prop)(g:bS)(s:Shared)(r:be an2)(Q:Bool->Shared->Prop):Prop:=match r with
 |.ok v au=>match dz au v with
  |some b=>∀g' s',Ext own g s g' s'->aM au g' s'.heap->Q b s'
  |none=>False
 |V=>False
def m6(own:Addr->Prop)(g:bS)(s:Shared)(r:be (List an2))(Q:List Value->Shared->Prop):Prop:=match r with
 |.ok vs au=>∀g' s' xs,Ext own g s g' s'->aM au g' s'.heap->an6 g' s'.heap vs xs->Q xs s'
 |V=>False
theorem m6.mk{r:be (List an2)}{v:List an2}{Q:List Value->Shared->Prop}(a:r=.ok v au)(h:∀g' s' x,Ext own g s g' s'->aM au g' s'.heap->an6 g' s'.heap v x->Q x s'):m6 own g s r Q:=by rw[a];exact h
theorem fk.mk{b:Bool}{Q:Bool->Shared->Prop}(a:r=.ok v au)(c:dz au v=some b)(h:∀g' s',Ext own g s g' s'->aM au g' s'.heap->Q b s'):fk own g s r Q:=by
 rw[a];unfold fk;simp only[c];exact h
def ci(c:bP)(d:Nat)(gM:bE):Prop:=∀nm ac e env m ρ σ g s A (Q E:Value->Shared->Prop),bn gM nm ac e=true->b8 nm ac env ρ g s.heap->aM σ g s.heap->eG A d ->
 cw cG g s (bk c gM m ρ σ) Q E->aS bq A (eval e env) Q E s
def h4(c:bP)(d:Nat)(gM:bE):Prop:=∀nm ac e env ρ σ g s A (Q:Bool->Shared->Prop) (E:Value->Shared->Prop),bn gM nm ac e=true->b8 nm ac env ρ g s.heap->aM σ g s.heap->eG A d ->
 fk cG g s (bk c gM 0 ρ σ) Q->aS bq A (C7 e env (eval e env)) Q E s
def m7(c:bP)(d:Nat)(gN:c4):Prop:=∀nm ac es env m ρ σ g s A pos (Q:List Value->Shared->Prop) (E:Value->Shared->Prop),fj gN nm ac es=true->b8 nm ac env ρ g s.heap->aM σ g s.heap->eG A d ->
 m6 cG g s (ki c gN m ρ σ) Q->aS bq A (C8 (hl pos (gy es env))) Q E s
set_option backward.match.sparseCases false in
noncomputable def vr(x:Expr):Bool:=match x with
 |.Starred .. | .Slice .. | .Set ..=>false
 |V=>true
variable {e:Expr}
theorem lF{gM:bE}(ae:bn gM nm ac e=true):vr e=true:=by
 cases e<;>first | rfl |(cases gM<;>(exact dk (show false=true from ae) f6))
theorem vt{a:List Expr}(h:vr e=true):gy (e::a) env=(false,eval e env)::gy a env:=by
 cases e<;>first | rfl | cases h
variable {es:c4}{l:List Expr}
theorem pn{e:bE}(h:fj (.cons e es) nm ac l=true):∃a as,l=a::as/\bn e nm ac a=true/\fj es nm ac as=true:=by
 cases l with
 |nil=>cases h
 |cons a as=>
  have h':(bn e nm ac a&&fj es nm ac as)=true:=h;refine bt (gX.mp h') fun b O=>?_;exact⟨a,as,rfl,b,O⟩
theorem rW(h:fj .nil nm ac l=true):l=[]:=by
 cases l with
 |nil=>rfl
 |cons=>cases h
theorem XM:m7 c d .nil:=by
 intro nm ac es env m ρ σ g s A pos Q E ae F R b a;rw[rW ae];exact IM (a g s [] (Ext.refl g s) R .nil)
theorem XN{e:bE}(h:ci c d e)(O:m7 c d es):m7 c d (.cons e es):=by
 intro nm ac l env m ρ σ g s A pos Q E ae F R k b;refine db (pn ae) fun a as p n q=>?_;subst p;have r:hl pos (gy (a::as) env)=(false,eval a env)::hl pos (gy as env):=by rw[vt (lF n)];rfl
 rw[r];rw[VA]at b;cases i:bk c e m ρ σ with
 |bad=>rw[i]at b;exact b.elim
 |ok v aj=>
  rw[i]at b;simp only[be.bind]at b;cases j:ki c es m ρ aj with
  |bad=>rw[j]at b;exact b.elim
  |ok vs z=>
   rw[j]at b;refine C9 (h nm ac a env m ρ σ g s A _ _ n F R k (cw.mk i fun aB s1 x f aK t=>?_));refine O nm ac as env m ρ aj aB s1 A pos _ _ q (F.ext R f) aK k (m6.mk j fun cc u xs o w y=>?_);exact b cc u (x::xs) (f.trans o) w (.cons (h2 aK o dZ.none t) y)
theorem XO(k:Const):ci c d (.const k):=by
 intro nm ac e env m ρ σ g s A Q E ae F R o f;refine d5 (LY ae) fun j a b l=>?_;subst l;have n:(LL k&&decide (k=j))=true:=ae;refine bt (gX.mp n) fun h O=>?_;have O:=ct O;subst O;rw[Lz]at f;cases k with
 |none=>exact fun V V V=>f g s _ (Ext.refl g s) R .none
 |bool b=>exact fun V V V=>f g s _ (Ext.refl g s) R (.bool b)
 |int i=>exact wpAny_Constant_int (f g _ _ (Ext.refl g s).toks R (.int i _))
 |str x=>exact Calls.Constant_str (f g _ _ (Ext.refl g s).toks R (.str x _))
 |_=>cases h
variable {x:Str}
theorem tG(h:gA x=true):(x==("__debug__":Str))=false:=by
 have:=(gX.mp (show (_&&_)=true from h)).1;simpa using this
theorem MO(h:gA x=true):(x==("__classdict__":Str))=false:=by
 have:=(gX.mp (show (_&&_)=true from h)).2;simpa using this
theorem XQ(i:Nat):ci c d (.loc i):=by
 intro nm ac e env m ρ σ g s A Q E ae F R H h;refine hv (jI ae) fun x pos z=>?_;subst z;have B:(ac.lookup x==some i&&LJ (nm.lookup x)&&gA x)=true:=ae;refine im B fun a O w=>?_;have a:ac.lookup x=some i:=by simpa using a
 rw[LA]at h;cases j:ρ[i]? with
 |none=>rw[j]at h;exact h.elim
 |some v=>
  rw[j]at h;have q:v≠.undef:=by rintro rfl;exact h.elim
  have r:cw cG g s (.ok v σ) Q E:=by cases v<;>first | exact h | exact dk rfl q
  have b:env.kindOf x=nm.lookup x:=by rw[<- F.names];rfl
  refine Td ?_ (tG w);cases l:nm.lookup x with
  |none=>rw[l]at O;cases O
  |some k=>
   rw[l]at O b;cases k with
   | «local»=>
    refine aw F.ns fun I C D=>?_;refine aw (D x i v a l j q) fun y n p=>?_;exact ak2 F.kind b C n (r g s y (Ext.refl g s) R p)
   |cell=>
    refine db (F.cl x i a (by rw[l];rfl)) fun G o n p f=>?_;refine aw (f v j q) fun y t u=>?_;subst t;exact wpAny_loadName_cell F.kind b n p (r g s y (Ext.refl g s) R u)
   |free=>
    refine db (F.cl x i a (by rw[l];rfl)) fun G o n p f=>?_;refine aw (f v j q) fun y t u=>?_;subst t;exact ak3 F.kind b n p (r g s y (Ext.refl g s) R u) (MO w)
   |_=>cases O
theorem A7(F:b8 nm ac env ρ g h)(a:hZ (nm.lookup x)=true):env.kindOf x=some .globalImplicit:=by
 have b:env.kindOf x=nm.lookup x:=by rw[<- F.names];rfl
 rw[b];cases c:nm.lookup x with
 |none=>rw[c]at a;cases a
 |some k=>rw[c]at a;cases k<;>first | rfl | cases a
theorem A8(K:C.OK)(R:aM σ g s.heap)(F:b8 nm ac env ρ g s.heap):s.heap.Ns env.globals C.mg:=F.glob.1▸K.g.keeps R.rel.base
theorem XR(K:C.OK)(R:aM σ g s.heap)(F:b8 nm ac env ρ g s.heap):s.heap.Ns env.builtins C.mb:=F.blt▸K.b.keeps R.rel.base
theorem XS(K:C.OK){op:Operator}{a b:bE}(n:ci c d a)(o:ci c d b):ci c d (.bin op a b):=by
 intro nm ac e env m ρ σ g s A Q E ae F R i h;refine o3 (LZ ae) fun l p r pos q=>?_;subst q;have t:(decide (op=p)&&bn a nm ac l&&bn b nm ac r)=true:=ae;refine im t fun f O u=>?_;have f:=ct f;subst f;refine bZ h.dD fun x aj bv h=>?_;refine bZ h.dD fun y D v h=>?_;refine wpAny_BinOp (n nm ac l env 0 ρ σ g s A _ _ O F R i (cw.mk bv fun aB s1 G j aK w=>?_));refine o nm ac r env 0 ρ aj aB s1 A _ _ u (F.ext R j) aK i (cw.mk v fun cc H I k z B=>?_);exact WL K i z (h2 aK k dZ.none w) B (tB (h.shift (j.trans k)))
theorem MP{o:Option an2}(a:cw own g s (AD o σ) Q E):∃v,o=some v/\cw own g s (.ok v σ) Q E:=by
 cases o with
 |none=>exact a.elim
 |some v=>exact⟨v,rfl,a⟩
theorem XU(R:aM σ g h){v:an2}{y:Value}(c:a9 C.dB C.B v y):a9 g h v y:=
 c.mono (List.nil_prefix) (fun a b=>R.ja a b) fun a o b e=>R.rel.base a o e
theorem XV{y:Str}(ae:bn (.glob y) nm ac e=true):∃p,e=.Name y p/\hZ (nm.lookup y)=true/\gA y=true:=by
 refine hv (jI ae) fun x p b=>?_;subst b;have c:(x==y&&hZ (nm.lookup x)&&gA x)=true:=ae;refine im c fun a O d=>?_;have a:x=y:=by simpa using a
 subst a;exact⟨p,rfl,O,d⟩
theorem XW(K:C.OK)(X:jN c d)(y:Str):ci c d (.glob y):=by
 intro nm ac e env m ρ σ g s A Q E ae F R k a;refine fS (XV ae) fun p b O f=>?_;subst b;refine aw (MP a) fun v h a=>?_;refine aw (X.gl y v h) fun z i j=>?_;exact C' F.kind (A7 F O) (Te (A8 K R F) i (a g s z (Ext.refl g s) R (XU R j))) (tG f)
end
section
open PySem PyProof.Rows PySem.SeqAt
variable {c:bP}{σ au:ah}{g g':bS}{h h':Heap}{s s':Shared}{own:Addr->Prop}{A:Around}{d:Nat}{nm:cA}{ac:dI}{env:Env}{ρ:List an2}
 {Q:Value->Shared->Prop} {E:Value->Shared->Prop}
theorem h5{a b:Bool}(h:(a&&b)=true):a=true/\b=true:=gX.mp h
variable {r:be an2}
theorem fk.vu{Q:Bool->Shared->Prop}(a:fk own g s r Q):∃v aj b,r=.ok v aj/\dz aj v=some b/\∀g' s',Ext own g s g' s'->aM aj g' s'.heap->Q b s':=by
 cases r with
 |ok v aj=>
  unfold fk at a;simp only at a;cases ht:dz aj v with
  |none=>rw[ht]at a;exact a.elim
  |some b=>rw[ht]at a;exact⟨v,aj,b,rfl,ht,a⟩
 |bad=>exact a.elim
theorem fk.hW{α:Type}{r:be α}{f:α->ah->be an2}{Q:Bool->Shared->Prop}(a:fk own g s (r.bind f) Q):∃v aj,r=.ok v aj/\fk own g s (f v aj) Q:=by
 cases r with
 |ok v aj=>exact⟨v,aj,rfl,a⟩
 |bad=>exact a.elim
theorem fk.shift{Q:Bool->Shared->Prop}(e:Ext own g s g' s')(c:fk own g s r Q):fk own g' s' r Q:=by
 refine qc c.vu fun v aj b a O d=>?_;exact fk.mk a O fun cc f h R=>d cc f (e.trans h) R
set_option backward.match.sparseCases false in
noncomputable def ER(x:Expr):Bool:=match x with
 |.UnaryOp .Not _ _|.BoolOp .. | .IfExp .. | .Compare ..=>false
 |V=>true
variable {e:Expr}
theorem XX{whole:Sem Value}(h:ER e=true):C7 e env whole=(do let v <- whole;p5 e.pos;zW [v] (truthy v)):=by
 cases e<;>first | rfl | cases h |(cases op<;>first | rfl | cases h)
theorem XY{gM:bE}(f:ci c d gM)(h:∀nm ac e,bn gM nm ac e=true->ER e=true):h4 c d gM:=by
 intro nm ac e env ρ σ g s A Q E ae F R i j;refine qc j.vu fun v aj b a O k=>?_;rw[XX (h nm ac e ae)];refine a6 (f nm ac e env 0 ρ σ g s A _ _ ae F R i (cw.mk a fun aB s1 x l aK m=>a6 (lZ (j9 ?_))));exact AY aK m O fun tk=>k aB _ l.toks aK
variable {a b t:bE}
theorem XZ(h:ci c d a):ci c d (.qe a):=by
 intro nm ac e env m ρ σ g s A Q E ae F R i f;refine d5 (xF ae) fun op x pos j=>?_;subst j;cases op<;>try (exact dk (show false=true from ae) f6)
 have k:bn a nm ac x=true:=ae;refine bZ f.dD fun v aj bv f=>?_;refine ak4 (h nm ac x env 0 ρ σ g s A _ _ k F R i (cw.mk bv fun aB s1 l n aK o=>?_));cases ht:dz aj v with
 |none=>rw[ht]at f;exact f.elim
 |some b=>
  rw[ht]at f;unfold unaryOp;refine j9 ?_;show aS _ _ (truthy l >>= fun b=>pure (Value.bool (!b))) _ _ _;exact a6 (AY aK o ht fun tk=>cn (f aB _ _ n.toks aK (.bool _)))
theorem X0(h:h4 c d a):h4 c d (.qe a):=by
 intro nm ac e env ρ σ g s A Q E ae F R i f;refine d5 (xF ae) fun op x pos j=>?_;subst j;cases op<;>try (exact dk (show false=true from ae) f6)
 have k:bn a nm ac x=true:=ae;refine bZ f.hW fun v aj bv f=>?_;cases ht:dz aj v with
 |none=>rw[ht]at f;exact f.elim
 |some b=>
  rw[ht]at f;exact wpAny_isTrue_Not (h nm ac x env ρ σ g s A _ _ k F R i (fk.mk bv ht fun aB s1 l aK=>f aB s1 l aK))
theorem X1(f:ci c d a):ci c d (.neg a):=by
 intro nm ac e env m ρ σ g s A Q E ae F R h b;refine d5 (xF ae) fun op x pos i=>?_;subst i;cases op<;>try (exact dk (show false=true from ae) f6)
 have j:bn a nm ac x=true:=ae;refine bZ b.dD fun v aj bv b=>?_;refine ak4 (f nm ac x env 0 ρ σ g s A _ _ j F R h (cw.mk bv fun aB s1 o k aK l=>?_));cases v<;>first | exact b.elim | skip
 refine bK (gL l) fun t n=>?_;subst n;exact anT (b aB _ _ k.toks aK (.int ..))
variable {op:CmpOp}
theorem MQ(h:vr e=true):behindInMarks op e=false:=by
 cases e<;>first | rfl | cases h
theorem MR(ae:bn (.cmp op a b) nm ac e=true):∃l r pos,e=.Compare l [op] [r] pos/\bn a nm ac l=true/\bn b nm ac r=true:=by
 refine o3 (L0 ae) fun l d rs pos f=>?_;subst f;rcases d with V |⟨g,V |⟨i,os⟩⟩<;>rcases rs with V |⟨bv,V |⟨j,rs⟩⟩<;>try (exact dk (show false=true from ae) f6)
 refine im (show (decide (op=g)&&bn a nm ac l&&bn b nm ac bv)=true from ae) fun c O h=>?_;have c:=ct c;subst c;exact⟨l,bv,pos,rfl,O,h⟩
theorem X2(p:ci c d a)(t:ci c d b):ci c d (.cmp op a b):=by
 intro nm ac e env m ρ σ g s A Q E ae F R h f;refine qc (MR ae) fun l r pos u O j=>?_;subst u;refine bZ f.dD fun x aj bv f=>?_;refine bZ f.dD fun y v w f=>?_;refine wpAny_Compare1 (p nm ac l env 0 ρ σ g s A _ _ O F R h (cw.mk bv fun aB s1 C k aK z=>?_)) (MQ (lF j));refine t nm ac r env 0 ρ aj aB s1 A _ _ j (F.ext R k) aK h (cw.mk w fun cc D G n o B=>?_);cases i:mX v op x y with
 |none=>rw[i]at f;exact f.elim
 |some q=>
  rw[i]at f;exact Mv h o (h2 aK n dZ.none z) B i fun tk=>f cc _ _ (k.trans n).toks o (.bool _)
theorem X3(o:ci c d a)(p:ci c d b):h4 c d (.cmp op a b):=by
 intro nm ac e env ρ σ g s A Q E ae F R h f;refine qc (MR ae) fun l r pos t O j=>?_;subst t;refine bZ f.hW fun x aj bv f=>?_;refine bZ f.hW fun y u v f=>?_;refine wpAny_isTrue_Compare1 (o nm ac l env 0 ρ σ g s A _ _ O F R h (cw.mk bv fun aB s1 B k aK w=>?_)) (MQ (lF j));refine p nm ac r env 0 ρ aj aB s1 A _ _ j (F.ext R k) aK h (cw.mk v fun cc C D m n z=>?_);cases i:mX u op x y with
 |none=>rw[i]at f;exact f.elim
 |some q=>
  rw[i]at f;exact Mv h n (h2 aK m dZ.none w) z i fun tk=>S2 (f cc _ (k.trans m).toks n)
def m8(c:bP)(d:Nat)(op:BoolOp)(f:c4->List an2->ah->be an2)(gN:c4):Prop:=
 (∀nm ac es env ρ σ g s A pos (Q E:Value->Shared->Prop),fj gN nm ac es=true->b8 nm ac env ρ g s.heap->aM σ g s.heap->eG A d ->
  cw cG g s (f gN ρ σ) Q E->aS bq A (boolOp pos op (Tf es env)) Q E s) /\
 (∀nm ac es env ρ σ g s A (Q:Bool->Shared->Prop) (E:Value->Shared->Prop),fj gN nm ac es=true->b8 nm ac env ρ g s.heap->aM σ g s.heap->eG A d ->
  fk cG g s (f gN ρ σ) Q->aS bq A (allTrue op es env) Q E s)
theorem X4:m8 c d .And (nU c) .nil:=by
 constructor
 ·intro nm ac es env ρ σ g s A pos Q E ae F R b a;exact(show False from a).elim
 ·intro nm ac es env ρ σ g s A Q E ae F R b a;exact(show False from a).elim
theorem X5:m8 c d .Or (nV c) .nil:=by
 constructor
 ·intro nm ac es env ρ σ g s A pos Q E ae F R b a;exact(show False from a).elim
 ·intro nm ac es env ρ σ g s A Q E ae F R b a;exact(show False from a).elim
variable {es:c4}
theorem X6{e:bE}(r:ci c d e)(t:h4 c d e)(u:m8 c d .And (nU c) es):m8 c d .And (nU c) (.cons e es):=by
 constructor
 ·intro nm ac l env ρ σ g s A pos Q E ae F R i f;refine db (pn ae) fun a as k m j=>?_;subst k;cases es with
  |nil=>
   rw[rW j];have f:cw cG g s (bk c e 0 ρ σ) Q E:=f;exact r nm ac a env 0 ρ σ g s A _ _ m F R i f
  |cons n o=>
   refine db (pn j) fun w y k D G=>?_;subst k;have f:cw cG g s ((bk c e 0 ρ σ).bind fun v aj=>o9 (dz aj v) (nU c (.cons n o) ρ aj) (.ok v aj)) Q E:=f;refine bZ f.dD fun v aj bv f=>?_;show aS _ _ (boolOp pos .And (eval a env::eval w env::Tf y env)) _ _ _;refine a6 (r nm ac a env 0 ρ σ g s A _ _ m F R i (cw.mk bv fun aB s1 x h aK z=>a6 (lZ (a6 (j9 ?_)))));cases ht:dz aj v with
   |none=>rw[ht]at f;exact f.elim
   |some b=>
    rw[ht]at f;refine AY aK z ht fun tk=>?_;have p:Ext cG g s aB {s1 with toks:=tk}:=h.toks;cases b with
    |false=>exact cn (f aB _ _ p aK z)
    |true=>exact u.1 nm ac (w::y) env ρ aj aB {s1 with toks:=tk} A pos _ _ j (F.ext R p) aK i (f.shift p)
 ·intro nm ac l env ρ σ g s A Q E ae F R i f;refine db (pn ae) fun a as k m j=>?_;subst k;cases es with
  |nil=>
   rw[rW j];have f:fk cG g s (bk c e 0 ρ σ) Q:=f;refine qc f.vu fun v aj b q O B=>?_;refine a6 (t nm ac a env ρ σ g s A _ _ m F R i (fk.mk q O fun aB s1 h aK=>?_));cases b with
   |false=>exact cn (B aB s1 h aK)
   |true=>exact cn (B aB s1 h aK)
  |cons n o=>
   have f:fk cG g s ((bk c e 0 ρ σ).bind fun v aj=>o9 (dz aj v) (nU c (.cons n o) ρ aj) (.ok v aj)) Q:=f;refine bZ f.hW fun v aj bv f=>?_;cases ht:dz aj v with
   |none=>rw[ht]at f;exact f.elim
   |some b=>
    rw[ht]at f;refine a6 (t nm ac a env ρ σ g s A _ _ m F R i (fk.mk bv ht fun aB s1 h aK=>?_));cases b with
    |false=>
     refine qc f.vu fun v' au b' ay az C=>?_;have ay:be.ok v aj=.ok v' au:=ay;cases ay;rw[ht]at az;cases az;exact cn (C aB s1 h aK)
    |true=>exact u.2 nm ac as env ρ aj aB s1 A _ _ j (F.ext R h) aK i (f.shift h)
theorem X7{e:bE}(r:ci c d e)(t:h4 c d e)(u:m8 c d .Or (nV c) es):m8 c d .Or (nV c) (.cons e es):=by
 constructor
 ·intro nm ac l env ρ σ g s A pos Q E ae F R i f;refine db (pn ae) fun a as k m j=>?_;subst k;cases es with
  |nil=>
   rw[rW j];have f:cw cG g s (bk c e 0 ρ σ) Q E:=f;exact r nm ac a env 0 ρ σ g s A _ _ m F R i f
  |cons n o=>
   refine db (pn j) fun w y k D G=>?_;subst k;have f:cw cG g s ((bk c e 0 ρ σ).bind fun v aj=>o9 (dz aj v) (.ok v aj) (nV c (.cons n o) ρ aj)) Q E:=f;refine bZ f.dD fun v aj bv f=>?_;show aS _ _ (boolOp pos .Or (eval a env::eval w env::Tf y env)) _ _ _;refine a6 (r nm ac a env 0 ρ σ g s A _ _ m F R i (cw.mk bv fun aB s1 x h aK z=>a6 (lZ (a6 (j9 ?_)))));cases ht:dz aj v with
   |none=>rw[ht]at f;exact f.elim
   |some b=>
    rw[ht]at f;refine AY aK z ht fun tk=>?_;have p:Ext cG g s aB {s1 with toks:=tk}:=h.toks;cases b with
    |true=>exact cn (f aB _ _ p aK z)
    |false=>exact u.1 nm ac (w::y) env ρ aj aB {s1 with toks:=tk} A pos _ _ j (F.ext R p) aK i (f.shift p)
 ·intro nm ac l env ρ σ g s A Q E ae F R i f;refine db (pn ae) fun a as k m j=>?_;subst k;cases es with
  |nil=>
   rw[rW j];have f:fk cG g s (bk c e 0 ρ σ) Q:=f;refine qc f.vu fun v aj b q O B=>?_;refine a6 (t nm ac a env ρ σ g s A _ _ m F R i (fk.mk q O fun aB s1 h aK=>?_));cases b with
   |false=>exact cn (B aB s1 h aK)
   |true=>exact cn (B aB s1 h aK)
  |cons n o=>
   have f:fk cG g s ((bk c e 0 ρ σ).bind fun v aj=>o9 (dz aj v) (.ok v aj) (nV c (.cons n o) ρ aj)) Q:=f;refine bZ f.hW fun v aj bv f=>?_;cases ht:dz aj v with
   |none=>rw[ht]at f;exact f.elim
   |some b=>
    rw[ht]at f;refine a6 (t nm ac a env ρ σ g s A _ _ m F R i (fk.mk bv ht fun aB s1 h aK=>?_));cases b with
    |true=>
     refine qc f.vu fun v' au b' ay az C=>?_;have ay:be.ok v aj=.ok v' au:=ay;cases ay;rw[ht]at az;cases az;exact cn (C aB s1 h aK)
    |false=>exact u.2 nm ac as env ρ aj aB s1 A _ _ j (F.ext R h) aK i (f.shift h)
theorem X8(h:m8 c d .And (nU c) es):ci c d (.kK es):=by
 intro nm ac e env m ρ σ g s A Q E ae F R a b;refine d5 (vd ae) fun op vs pos f=>?_;subst f;cases op<;>try (exact dk (show false=true from ae) f6)
 rw[ak5];exact h.1 nm ac vs env ρ σ g s A pos _ _ (show fj es nm ac vs=true from ae) F R a b
theorem X9(h:m8 c d .And (nU c) es):h4 c d (.kK es):=by
 intro nm ac e env ρ σ g s A Q E ae F R a b;refine d5 (vd ae) fun op vs pos f=>?_;subst f;cases op<;>try (exact dk (show false=true from ae) f6)
 rw[ak6];exact h.2 nm ac vs env ρ σ g s A _ _ (show fj es nm ac vs=true from ae) F R a b
theorem X'(h:m8 c d .Or (nV c) es):ci c d (.o5 es):=by
 intro nm ac e env m ρ σ g s A Q E ae F R a b;refine d5 (vd ae) fun op vs pos f=>?_;subst f;cases op<;>try (exact dk (show false=true from ae) f6)
 rw[ak5];exact h.1 nm ac vs env ρ σ g s A pos _ _ (show fj es nm ac vs=true from ae) F R a b
theorem Yb(h:m8 c d .Or (nV c) es):h4 c d (.o5 es):=by
 intro nm ac e env ρ σ g s A Q E ae F R a b;refine d5 (vd ae) fun op vs pos f=>?_;subst f;cases op<;>try (exact dk (show false=true from ae) f6)
 rw[ak6];exact h.2 nm ac vs env ρ σ g s A _ _ (show fj es nm ac vs=true from ae) F R a b
theorem Yc(ht:h4 c d t)(o:ci c d a)(p:ci c d b):ci c d (.ite t a b):=by
 intro nm ac e env m ρ σ g s A Q E ae F R i f;refine o3 (Ek ae) fun l n b' pos r=>?_;subst r;refine im (show (bn t nm ac l&&bn a nm ac n&&bn b nm ac b')=true from ae) fun j O u=>?_;have f:cw cG g s ((bk c t 0 ρ σ).bind fun x aj=>o9 (dz aj x) (bk c a m ρ aj) (bk c b m ρ aj)) Q E:=f;refine bZ f.dD fun v aj bv f=>?_;cases k:dz aj v with
 |none=>rw[k]at f;exact f.elim
 |some q=>
  rw[k]at f;refine wpAny_IfExp (ht nm ac l env ρ σ g s A _ _ j F R i (fk.mk bv k fun aB s1 h aK=>?_));cases q with
  |true=>exact o nm ac n env m ρ aj aB s1 A _ _ O (F.ext R h) aK i (f.shift h)
  |false=>exact p nm ac b' env m ρ aj aB s1 A _ _ u (F.ext R h) aK i (f.shift h)
theorem Yd(ht:h4 c d t)(n:h4 c d a)(o:h4 c d b):h4 c d (.ite t a b):=by
 intro nm ac e env ρ σ g s A Q E ae F R i f;refine o3 (Ek ae) fun l m b' pos p=>?_;subst p;refine im (show (bn t nm ac l&&bn a nm ac m&&bn b nm ac b')=true from ae) fun j O r=>?_;have f:fk cG g s ((bk c t 0 ρ σ).bind fun x aj=>o9 (dz aj x) (bk c a 0 ρ aj) (bk c b 0 ρ aj)) Q:=f;refine bZ f.hW fun v aj bv f=>?_;cases k:dz aj v with
 |none=>rw[k]at f;exact f.elim
 |some q=>
  rw[k]at f;rw[arm_isTrue_IfExp];refine a6 (ht nm ac l env ρ σ g s A _ _ j F R i (fk.mk bv k fun aB s1 h aK=>?_));cases q with
  |true=>exact n nm ac m env ρ aj aB s1 A _ _ O (F.ext R h) aK i (f.shift h)
  |false=>exact o nm ac b' env ρ aj aB s1 A _ _ r (F.ext R h) aK i (f.shift h)
end
section
open PySem
theorem ES(h:Heap)(L:Addr):(jJ h L).get? L=none:=by
 cases c:(jJ h L).get? L with
 |none=>rfl
 |some o=>
  exfalso;refine bt (Heap.get?_some_iff.mp c) fun a O=>?_;obtain⟨b,l⟩:=h;simp only[jJ,Heap.update]at a;rw[Array.getElem?_modify]at a;simp only[if_true]at a;refine aw (dh.mp a) fun e V d=>?_;subst d;cases O
theorem A9(h:Heap){L b:Addr}(a:b≠L):(jJ h L).get? b=h.get? b:=aoR _ _ (eD a)
theorem Ye{h:Heap}{L b:Addr}{o:Obj}(e:(jJ h L).get? b=some o):b≠L/\h.get? b=some o:=by
 by_cases q:b=L
 ·subst q;rw[ES]at e;cases e
 ·exact⟨q,by rw[<- A9 h q];exact e⟩
end
section
open PySem PyProof.Rows PySem.SeqAt
variable {c:bP}{σ au:ah}{g g':bS}{h h':Heap}{s s':Shared}{own:Addr->Prop}{A:Around}{d:Nat}{nm:cA}{ac:dI}{env:Env}{ρ:List an2}
 {Q:Value->Shared->Prop} {E:Value->Shared->Prop}
theorem MS(d:c4):∀(l:List Expr) (m:Nat) (ρ:List an2) (σ au:ah) (vs:List an2),fj d nm ac l=true->ki c d m ρ σ=.ok vs au->vs.length=l.length:=by
 induction d using c4.ind with
 |case1=>intro l m ρ σ au vs ae b;rw[rW ae,<- (tF b).1];rfl
 |case2 e es ih=>
  intro l m ρ σ au vs ae b;refine db (pn ae) fun a as f j g=>?_;subst f;refine bZ (A6 b) fun v aj k b=>?_;refine bZ (A6 b) fun aP h i b=>?_;rw[<- (tF b).1];exact dt Iu (ih as m ρ aj h aP g i)
variable {args es:c4}
theorem Yg(h:m7 c d es):ci c d (.tup es):=by
 intro nm ac e env m ρ σ g s A Q E ae F R j f;refine d5 (rS ae) fun a ctx pos k=>?_;subst k;refine bt (h5 (show (decide (a.length<1000)&&fj es nm ac a)=true from ae)) fun b O=>?_;have b:=ct b;refine bZ f.dD fun vs aj bv f=>?_;show aS _ _ (p5 pos >>= fun V=>C8 (hl pos (gy a env)) >>= newTuple) _ _ _;refine a6 (lZ (a6 (h nm ac a env 0 ρ σ g s A pos _ _ O F R j (m6.mk bv fun aB s1 xs l aK i=>?_))));have o:=MS es a 0 ρ σ aj vs O bv;have p:=i.length;have q:cD aj aB s1 (some (.v (.tup vs))) Q:=fun cc r x t u w=>f cc r x (l.trans t) u w;exact ak7 (q.push (tk:=s1.toks) aK (Mi (n:=0) (by simpa using i)) rfl) (by rw[i3];exact Jx b o p)
theorem Yh(h:m7 c d es):ci c d (.lst es):=by
 intro nm ac e env m ρ σ g s A Q E ae F R k i;refine hv (L1 ae) fun a pos l=>?_;subst l;refine bt (h5 (show (decide (a.length<1000)&&fj es nm ac a)=true from ae)) fun b O=>?_;have b:=ct b;refine bZ i.dD fun vs aj bv i=>?_;show aS _ _ (p5 pos >>= fun V=>C8 (hl pos (gy a env)) >>= newList) _ _ _;refine a6 (lZ (a6 (h nm ac a env _ ρ σ g s A pos _ _ O F R k (m6.mk bv fun aB s1 xs o aK j=>?_))));have p:=MS es a _ ρ σ aj vs O bv;have q:=j.length;have r:cD aj aB s1 (some (.f (.list vs))) Q:=tB (m:=m) (E:=E) (i.shift o);exact S5 (r.made (tk:=s1.toks) aK (EA aK (n:=0) (by simpa using j))) (by rw[i3];exact Jx b p q)
theorem Yi:ci c d .io:=by
 intro nm ac e env m ρ σ g s A Q E ae F R i a;refine bK (L2 ae) fun pos b=>?_;subst b;show aS _ _ (p5 pos >>= fun V=>dictDisplay []) _ _ _;refine a6 (lZ ?_);have h:cD σ g s (some (.f (.dict []))) Q:=tB (m:=m) (E:=E) a;show aS _ _ (newDict) _ _ _;refine C6 (h.made (tk:=s.toks) R ⟨[],akH s.heap,.nil⟩)
theorem Yj{a i:bE}(n:ci c d a)(hi:ci c d i):ci c d (.idx a i):=by
 intro nm ac e env m ρ σ g s A Q E ae F R j b;refine d5 (tv ae) fun v f pos o=>?_;subst o;refine bt (h5 (show (bn a nm ac v&&bn i nm ac f)=true from ae)) fun h O=>?_;refine bZ b.dD fun x aj bv b=>?_;refine bZ b.dD fun y u p b=>?_;refine Subscript_ (n nm ac v env 0 ρ σ g s A _ _ h F R j (cw.mk bv fun aB s1 w k aK q=>?_));refine hi nm ac f env 0 ρ aj aB s1 A _ _ O (F.ext R k) aK j (cw.mk p fun cc z B l r t=>?_);refine WW r (h2 aK l dZ.none q) t ?_ (tB (m:=0) (E:=E) (b.shift (k.trans l)));have:=lF O;cases f<;>first | rfl | cases this
theorem tI{M:Model}{f:Value}{es:List Expr}{b:c4}{Q:Args->Shared->Prop}{pos:Pos}(ae:fj b nm ac es=true)
  (h:aS M A (C8 (hl pos (gy es env))) (fun vs s'=>Q ⟨vs,[]⟩ s') E s):aS M A (Tg f true (hl pos (gy es env)) []) Q E s:=by
 cases b with
 |nil=>
  rw[rW ae]at h ⊢;unfold Tg;refine a6 (nO h (fun vs s' h'=>a6 (cn ?_)) fun V V x=>x);refine j9 ?_;exact a6 (cn (a6 (cn (cn h'))))
 |cons e i=>
  refine db (pn ae) fun a as c d j=>?_;subst c;have g:hl pos (gy (a::as) env)=(false,eval a env)::hl pos (gy as env):=by rw[vt (lF d)];rfl
  rw[g]at h ⊢;exact ak8 h
theorem xW(b:c4):∀(es:List Expr) {pos:Pos},fj b nm ac es=true->(hl pos (gy es env)).any (·.1)=false:=by
 induction b using c4.ind with
 |case1=>intro es pos ae;rw[rW ae];rfl
 |case2 e h ih=>
  intro es pos ae;refine db (pn ae) fun a as c d f=>?_;subst c;have g:hl pos (gy (a::as) env)=(false,eval a env)::hl pos (gy as env):=by rw[vt (lF d)];rfl
  rw[g,Iw,ih as f];rfl
variable {e o:Expr}
theorem Yk{f:Str}(ae:bn (.call f args) nm ac e=true):∃p as pos,e=.Call (.Name f p) as [] pos/\hZ (nm.lookup f)=true/\gA f=true/\iK f=true/\fj args nm ac as=true:=by
 refine d5 (nZ ae) fun fe as pos b=>?_;subst b;refine hv (jI ae) fun x p c=>?_;subst c;refine Ji (show (x==f&&hZ (nm.lookup x)&&gA x&&iK f&&fj args nm ac as)=true from ae) fun a O d h0 g=>?_;have a:x=f:=by simpa using a
 subst a;exact⟨p,as,pos,rfl,O,d,h0,g⟩
theorem xX(x:Str)(p:Pos)(as:List Expr)(pos:Pos):eval (.Call (.Name x p) as [] pos) env=(do zZ pos (<- eval (.Name x p) env) [] (hl pos (gy as env)) []):=rfl
theorem Yl(K:C.OK)(X:jN c d){f:Str}{args:c4}(h:m7 c d args):ci c d (.call f args):=by
 intro nm ac e env m ρ σ g s A Q E ae F R i b;refine Jo (Yk ae) fun p as pos l O n h0 j=>?_;subst l;refine bZ b.dD fun vs aj bv b=>?_;have r:c.hA f vs aj≠.bad:=fun q=>by rw[q]at b;exact b
 refine qc (X.XI f vs aj h0 r) fun a o fd k t u=>?_;rw[xX];refine a6 (C' F.kind (A7 F O) (Te (A8 K R F) k ?_) (tG n));refine ak9 (o:=o) (fd:=fd) (tI j (h nm ac as env 0 ρ σ g s A pos _ _ j F R i (m6.mk bv fun aB s1 xs v aK w=>⟨⟨aK.rel.base a o t,u⟩,?_⟩)));exact X.hA f a vs xs aj aB s1 A Q E h0 k i aK w (b.shift v).EQ
theorem Ym(K:C.OK)(b:aov):C.mb b.word=some b.callee:=by
 cases b<;>(try cases u)<;>(rw[K.builtins _ (by decide)];decide +kernel)
theorem Yn(b:aov):b.word∈vg:=by
 cases b<;>(try cases u)<;>decide
theorem ET(K:C.OK)(X:jN c d)(F:b8 nm ac env ρ g s.heap)(R:aM σ g s.heap){x:Str}{p:Pos}{v:Value}(O:hZ (nm.lookup x)=true)(a:gA x=true)(aF:x∈vg)(b:C.mb x=some v)(h:Q v s) :
  aS bq A (eval (.Name x p) env) Q E s:=
 C' F.kind (A7 F O) (ala (A8 K R F) (X.bi x aF) (XR K R F) b h) (tG a)
variable {b:aov}
theorem Yo(ae:bn (.bi b args) nm ac e=true):∃fe as pos,e=.Call fe as [] pos/\∃x p,fe=.Name x p:=by
 refine d5 (nZ ae) fun fe as pos a=>?_;subst a;refine hv (jI ae) fun x p c=>?_;subst c;exact⟨_,as,pos,rfl,x,p,rfl⟩
theorem Yp(ae:bn (.bi b args) nm ac e=true):∃x p as pos,e=.Call (.Name x p) as [] pos/\hZ (nm.lookup x)=true/\x=b.word/\gA x=true/\fj args nm ac as=true:=by
 obtain⟨V,as,pos,rfl,x,p,rfl⟩:=Yo ae;have ae:(hZ (nm.lookup x)&&x==b.word&&gA x&&fj args nm ac as)=true:=ae;refine uT ae fun a O c d=>?_;exact⟨x,p,as,pos,rfl,a,dC O,c,d⟩
theorem Yq(K:C.OK)(X:jN c d){b:aov}{args:c4}(h:m7 c d args):ci c d (.bi b args):=by
 intro nm ac e env m ρ σ g s A Q E ae F R n k;refine Dq (Yp ae) fun x p as pos r l O t j=>?_;subst r;obtain⟨vs,aj,bv,k⟩:=k.dD;rw[xX];refine a6 (ET K X F R l t (O▸Yn b) (O▸Ym K b) ?_);have a:∀{aB s1 xs},Ext cG g s aB s1->aM aj aB s1.heap->an6 aB s1.heap vs xs->aS bq A (call b.callee xs) Q E s1:=fun f aK i=>Xs (E:=E) K n aK i (tB (m:=m) (E:=E) (k.shift f));have o:=fun(P:List Value->Shared->Prop) (u:∀g' s' x,Ext cG g s g' s'->aM aj g' s'.heap->an6 g' s'.heap vs x->P x s')=>h nm ac as env 0 ρ σ g s A pos P E j F R n (m6.mk bv u);have q:=xW (env:=env) args as (pos:=pos) j;cases b
 all_goals first
  |exact Th q (tI j (o _ fun aB s1 xs f aK i=>a f aK i))
  |exact alb q (tI j (o _ fun aB s1 xs f aK i=>a f aK i))
theorem ao5(R:aM σ g s.heap){v:an2}{x:Value}(c:a9 g s.heap v x)(ht:(ke (cR σ v)).isSome=true):∃a ob,x=.ref a/\s.heap.get? a=some ob/\ob.cls=.type "list"/\ob.dict=none:=by
 have b:=km R c;generalize cR σ v=w at b ht;cases w with
 |lst l=>obtain⟨a,vs,rfl,⟨n,e⟩,V⟩:=b;exact⟨_,_,rfl,e,rfl,rfl⟩
 |_=>cases ht
theorem Yr(R:aM σ g s.heap){v:an2}{x:Value}(d:a9 g s.heap v x)(ht:(qg (cR σ v)).isSome=true):∃a kvs,x=.ref a/\s.heap.DictOf (strKind C.prog C.w) a kvs:=by
 have c:=km R d;generalize cR σ v=w at c ht;cases w with
 |ba l=>obtain⟨a,kvs,rfl,V,b,V⟩:=c;exact⟨_,_,rfl,b⟩
 |_=>cases ht
theorem Ys(R:aM σ g s.heap){m:kJ}{v:an2}{x:Value}{pos:Pos}{trees:List (Bool×Sem Value)}(f:a9 g s.heap v x)(ht:xu σ m v=true)
  (h:aS bq A (zZ pos (.builtin m.id) [x] trees []) Q E s):MethodOnS C.prog C.w A E m.word x pos trees Q s:=by
 cases m with
 |append=>
  refine i5 (ao5 R f ht) fun a ob d c O i=>?_;subst d;exact⟨"list",_,alc,PySem.slot_list_append,PySem.type_list_append,⟨ob,c,O⟩,fun b e=>by cases e;exact⟨ob,c,i⟩,h⟩
 |extend V=>
  refine i5 (ao5 R f ht) fun a ob d c O i=>?_;subst d;exact⟨"list",_,alc,akP,PySem.F.type_list_extend,⟨ob,c,O⟩,fun b e=>by cases e;exact⟨ob,c,i⟩,h⟩
 |get=>
  refine bZ (Yr R f ht) fun a kvs d c=>?_;subst d;exact⟨"dict",_,PySem.F.plainAttrs_dict,akQ,PySem.F.type_dict_get,c.typeIs,c.mapOf.noDict,h⟩
variable {name:Str}{whole:Sem Value}
theorem MU(h:nY o=true):Ti o name env whole=whole:=by
 rcases SY.mp (show ((fK o).isSome||(rR o).isSome)=true from h) with h|h
 ·obtain⟨⟨q,e⟩,V⟩:=gv.mp h;subst e;rfl
 ·obtain⟨⟨q,e⟩,V⟩:=gv.mp h;subst e;rfl
theorem MV(h:(nY o||tq o)=true):Ti o name env whole=whole:=by
 rcases SY.mp h with h|h
 ·exact MU h
 ·obtain⟨⟨q,e⟩,V⟩:=gv.mp (show (LW o).isSome=true from h);subst e;rfl
inductive MW (nm:cA)(ac:dI)(o:bE)(m:kJ)(args:c4)(e:Expr):Prop
 |mk (o':Expr) (apos:Pos) (as:List Expr) (pos:Pos) (an1:e=.Call (.Attribute o' m.word apos) as [] pos) (O:(nY o'||tq o')=true) (ag:(apos.endLine==pos.line)=true) (av:as.length<20) (aO:bn o nm ac o'=true) (cy:fj args nm ac as=true):MW nm ac o m args e
variable {m:kJ}
theorem Yt{o:bE}(ae:bn (.f8 o m args) nm ac e=true):MW nm ac o m args e:=by
 refine d5 (nZ ae) fun fe as pos d=>?_;subst d;refine d5 (xG ae) fun c name a d=>?_;subst d;have ae:(name==m.word&&(nY c||tq c)&&a.endLine==pos.line&&decide (as.length<20)&&bn o nm ac c&&fj args nm ac as)=true:=ae;refine Dp ae fun b O f g h i=>?_;have b:name=m.word:=by simpa using b
 subst b;exact⟨c,a,as,pos,rfl,O,f,ct g,h,i⟩
theorem Yu{o:bE}(t:ci c d o)(h:m7 c d args):ci c d (.f8 o m args):=by
 intro nm ac e env M ρ σ g s A Q E ae F R b a;obtain⟨u,k,as,pos,rfl,f,O,v,w,i⟩:=Yt ae;refine bZ a.dD fun x aj bv a=>?_;split at a
 ·rename_i ht;refine bZ a.dD fun vs z B a=>?_;have j:=xW (env:=env) args as (pos:=pos) i;refine wpAny_Call_method_lateS (MV f) ?_ O (t nm ac u env 0 ρ σ g s A _ _ w F R b (cw.mk bv fun aB s1 N l aK n=>Ys aK n ht ?_))
  ·have:(hl pos (gy as env)).all (fun x=>!x.1)=true:=by
    rw[oZ];intro y C;rw[Tj]at j;simpa using j y C
   rw[this];simp only[ald];show (true&&decide (as.length+0+0<30))=true;simp;exact Jw v
  ·refine Th j (tI i (h nm ac as env 0 ρ aj aB s1 A pos _ _ i (F.ext R l) aK b (m6.mk B fun cc P xs p D G=>?_)));refine Xy b D (h2 aK p dZ.none n) G ?_;cases r:ma z m x vs with
   |none=>rw[r]at a;exact a.elim
   |some q=>rw[r]at a;exact fun H I y J K L=>a H I y ((l.trans p).trans J) K L
 ·exact a.elim
end
section
open PySem PyProof.Rows PySem.SeqAt
variable {c:bP}{σ au:ah}{g g':bS}{h h':Heap}{s s':Shared}{own:Addr->Prop}{A:Around}{d:Nat}{nm:cA}{ac:dI}{env:Env}{ρ:List an2}
 {E:Value->Shared->Prop}
variable {i j:Nat}{v:an2}
theorem vv{ρ:List an2}{w:an2}(h:(ρ.set i v)[j]?=some w):(j=i/\w=v)\/(j≠i/\ρ[j]?=some w):=by
 by_cases b:j=i
 ·subst b;have a:j<(ρ.set j v).length:=(dN.mp h).1;rw[lY]at a;rw[zS a]at h;cases h;exact .inl ⟨rfl,rfl⟩
 ·rw[w6 (eD b)]at h;exact .inr ⟨b,h⟩
variable {a:Addr}
theorem xY{h:Heap}{b:Addr}{m:Str->Option Value}{o:Option Value}(x:h.Ns a m)(y:h.IsCell b o):b≠a:=by
 rintro rfl;obtain⟨ob,es,ep,c,O,V⟩:=x;obtain⟨f,d,e⟩:=y;rw[c]at d;cases d;rw[O]at e;cases e
variable {M:Model}{Q:Unit->Shared->Prop}
theorem EU(F:b8 nm ac env ρ g s.heap)(R:aM σ g s.heap){x:Str}{i:Nat}{v:an2}{y:Value}(D:ac.lookup x=some i)(d:kQ (nm.lookup x)=true)(aq:a9 g s.heap v y)
  (m4:own env.locals) (pr:nm.lookup x=some .cell->∀c,env.cells.lookup x=some c->own c)
  (aC:∀s',b8 nm ac env (ρ.set i v) g s'.heap->aM σ g s'.heap->Ext own g s g s'->Q () s'):aS M A (Tk env x y) Q E s:=by
 have G:env.kindOf x=nm.lookup x:=by rw[<- F.names];rfl
 cases K:nm.lookup x with
 |none=>rw[K]at d;cases d
 |some k=>
  rw[K]at d G;cases k<;>first | cases d | skip
  ·
   refine aw F.ns fun m L X=>?_;refine wpAny_storeName_local G L (fun h' rX r=>?_) (by rw[F.kind];rfl);have H:∀b o,b≠env.locals->s.heap.get? b=some o->h'.get? b=some o:=fun b o h e=>by rw[r.2 b h];exact e
   have kept:gD g s.heap h':=.tA H F.d7;refine aC _ ⟨F.kind,F.names,F.glob,F.blt,F.inj,⟨_,rX,fun z j w a l p t=>?_⟩,fun z j a l=>?_,F.d7,F.gE,fun z f n=>?_,F.apart⟩ (R.kept kept) (Ext.heap (fun b o e V h=>H b o (fun q=>h (q▸m4)) e) fun b h=>?_)
   ·rcases vv p with⟨rfl,rfl⟩ |⟨N,B⟩
    ·have:=F.inj z x _ a D;subst this;exact⟨y,by simp,iN kept aq⟩
    ·have P:z≠x:=fun q=>N (by subst q;rw[D]at a;exact(dp a).symm);refine aw (X z j w a l B t) fun u I J=>?_;exact⟨u,by simp[P,I],iN kept J⟩
   ·refine db (F.cl z j a l) fun f o n C S=>?_;refine⟨f,o,n,C.sameBut r (xY L C),fun w p t=>?_⟩;rcases vv p with⟨rfl,rfl⟩ |⟨N,B⟩
    ·have:=F.inj z x _ a D;subst this;rw[K]at l;cases l
    ·refine aw (S w B t) fun u I J=>?_;exact⟨u,I,iN kept J⟩
   ·refine bK (F.g4 z f n) fun o C=>?_;exact⟨o,C.sameBut r (xY L C)⟩
   ·by_cases T:b=env.locals
    ·subst T;obtain⟨o,d⟩:=ry.live rX;exact ec d
    ·obtain⟨o,d⟩:=gv.mp h;exact ec (H b o T d)
  ·
   refine db (F.cl x i D (by rw[K];rfl)) fun f o n C S=>?_;refine aw F.ns fun m L X=>?_;refine wpAny_storeName_cell F.kind G n C fun h' Y r=>?_;have H:∀b o,b≠f->s.heap.get? b=some o->h'.get? b=some o:=fun b o h e=>by rw[r.2 b h];exact e
   have kept:gD g s.heap h':=.tA H (F.gE x f n);have cv:=xY L C;refine aC _ ⟨F.kind,F.names,F.glob,F.blt,F.inj,⟨m,L.sameBut r (eD cv),fun z j w a l p t=>?_⟩,fun z j a l=>?_,F.d7,F.gE,fun z U O=>?_,F.apart⟩ (R.kept kept) (Ext.heap (tk:=s.toks) (fun b o e V h=>H b o (fun q=>h (q▸pr K f n)) e) fun b h=>?_)
   ·rcases vv p with⟨rfl,rfl⟩ |⟨N,B⟩
    ·have:=F.inj z x _ a D;subst this;rw[K]at l;cases l
    ·refine aw (X z j w a l B t) fun u I J=>?_;exact⟨u,I,iN kept J⟩
   ·refine db (F.cl z j a l) fun U Z O kn x1=>?_;by_cases P:z=x
    ·subst P;rw[n]at O;cases O;refine⟨f,some y,n,Y,fun w p t=>?_⟩;rcases vv p with⟨V,rfl⟩ |⟨N,B⟩
     ·exact⟨y,rfl,iN kept aq⟩
     ·rw[D]at a;exact dk (dp a).symm N
    ·have W:U≠f:=fun q=>P (F.apart z x f (q▸O) n);refine⟨U,Z,O,kn.sameBut r W,fun w p t=>?_⟩;rcases vv p with⟨rfl,V⟩ |⟨N,B⟩
     ·exact dk (F.inj z x _ a D) P
     ·refine aw (x1 w B t) fun u I J=>?_;exact⟨u,I,iN kept J⟩
   ·by_cases W:U=f
    ·subst W;exact⟨_,Y⟩
    ·refine bK (F.g4 z U O) fun Z kn=>?_;exact⟨Z,kn.sameBut r W⟩
   ·by_cases T:b=f
    ·subst T;obtain⟨o,d,V⟩:=Y;exact ec d
    ·obtain⟨o,d⟩:=gv.mp h;exact ec (H b o T d)
variable {x:Str}{y:Value}
theorem EV{p:Pos}(h:aS M A (Tk env x y) Q E s):aS M A (assign (.Name x p) env y) Q E s:=by
 show aS M A (p5 p >>= fun V=>Db env x y) Q E s;exact a6 (lZ (Tl h))
variable {es:List Expr}
theorem EW{is:List Nat}(h:jF nm ac (i::is) es=true):∃x p b,es=.Name x p::b/\ac.lookup x=some i/\kQ (nm.lookup x)=true/\jF nm ac is b=true:=by
 cases es with
 |nil=>cases h
 |cons e es=>
  refine hv (jI h) fun x p c=>?_;subst c;refine im (show (ac.lookup x==some i&&kQ (nm.lookup x)&&jF nm ac is es)=true from h) fun a O d=>?_;exact⟨x,p,es,rfl,by simpa using a,O,d⟩
theorem EX(h:jF nm ac [] es=true):es=[]:=by
 cases es with
 |nil=>rfl
 |cons e es=>cases h
theorem Yw(k:dZ own g)(m:own env.locals):∀(is:List Nat) (es:List Expr) (l:List an2) (xs:List Value) (ρ:List an2) (s:Shared),jF nm ac is es=true->l.length=is.length->b8 nm ac env ρ g s.heap->aM σ g s.heap->an6 g s.heap l xs ->
  (∀x∈tm es,nm.lookup x=some .cell->∀c,env.cells.lookup x=some c->own c) ->
  (∀s',b8 nm ac env (nT ρ is l) g s'.heap->aM σ g s'.heap->Ext own g s g s'->Q () s')->aS bq A (Tm ((p6 es env).map ju) xs) Q E s:=by
 intro is
 induction is with
 |nil=>
  intro es l xs ρ s ae b F R a d e;rw[EX ae];have:l=[]:=List.length_eq_zero_iff.mp b;subst this;cases a;exact cn (e s F R (Ext.refl g s))
 |cons i is ih=>
  intro es l xs ρ s ae b F R a d e;refine Af (EW ae) fun x p h n f O o=>?_;subst n;cases a with
  |nil=>cases b
  |@cons v y l xs a q=>
   show aS _ _ (zW xs (assign (.Name x p) env y) >>= fun V=>Tm ((p6 h env).map ju) xs) _ _ _;refine a6 (j9 (EV (EU F R f O a m (d x (cW ..)) fun s1 aY aK j=>?_)));refine ih h l xs (ρ.set i v) s1 o (by simpa using b) aY aK (xL R j k q) (fun z bB=>d z (dM _ bB)) fun r bp t u=>e r bp t (j.trans u)
theorem Yx:∀(is:List Nat) (es:List Expr),jF nm ac is es=true->(p6 es env).length=is.length/\(p6 es env).findIdx? (·.1)=none:=by
 intro is
 induction is with
 |nil=>exact fun es h=>by rw[EX h];exact⟨rfl,rfl⟩
 |cons i is ih=>
  intro es h;refine Af (EW h) fun x p a b V V c=>?_;subst b;refine bt (ih a c) fun ay az=>?_;have e:p6 (.Name x p::a) env=(false,assign (.Name x p) env)::p6 a env:=rfl;rw[e];exact⟨by simp[ay],by rw[List.findIdx?_cons];simp[az]⟩
theorem MX(k:A.handled=none)(m:dZ own g)(n:own env.locals){is:List Nat}{es:List Expr}{ctx:Nat}{p:Pos}{l:List an2}{a:Addr}{vs:Array Value}(h:jF nm ac is es=true)(F:b8 nm ac env ρ g s.heap)(R:aM σ g s.heap)(q:s.heap.IsTuple a vs)(i:an6 g s.heap l vs.toList)
  (r:∀x∈tm es,nm.lookup x=some .cell->∀c,env.cells.lookup x=some c->own c) (d:l.length=is.length)
  (t:∀s',b8 nm ac env (nT ρ is l) g s'.heap->aM σ g s'.heap->Ext own g s g s'->Q () s'):aS bq A (assign (.Tuple es ctx p) env (.ref a)) Q E s:=by
 refine bt (Yx (env:=env) is es h) fun ay az=>?_;have u:=i.size;refine wpAny_assign_Tuple k q (ay.trans (d.symm.trans u.symm)) az fun h' v=>?_;have f:∀b o,s.heap.get? b=some o->h'.get? b=some o:=fun b o e=>v b o (gV (j8 e)) e;have j:Ext cG g s g {s with heap:=h'}:=Ext.all (tk:=s.toks) f;exact Yw m n is es l vs.toList ρ {s with heap:=h'} h d (F.ext R j) (R.kept (.ge f)) (lD (.ge f) i) r fun w bp y z=>t w bp y (j.weaken.trans z)
theorem EY(n:A.handled=none)(o:dZ own g)(h:own env.locals){t:dq}{bQ:Expr}{v:an2}{y:Value}{aN:List an2}(ae:kR nm ac t bQ=true)(F:b8 nm ac env ρ g s.heap)(R:aM σ g s.heap)(j:a9 g s.heap v y)
  (k:∀x∈nX bQ,nm.lookup x=some .cell->∀c,env.cells.lookup x=some c->own c) (d:hW t v ρ=some aN)
  (m:∀s',b8 nm ac env aN g s'.heap->aM σ g s'.heap->Ext own g s g s'->Q () s'):aS bq A (assign bQ env y) Q E s:=by
 cases t with
 |one i=>
  refine hv (jI ae) fun x p q=>?_;subst q;refine bt (h5 (show (ac.lookup x==some i&&kQ (nm.lookup x))=true from ae)) fun e O=>?_;cases d;exact EV (EU F R (by simpa using e) O j h (k x (c3.mpr rfl)) m)
 |many is=>
  refine d5 (rS ae) fun es ctx p r=>?_;subst r;have u:jF nm ac is es=true:=ae;cases v with
  |tup l=>
   refine db (gL j) fun a vs w z B=>?_;subst w;have f:(if l.length=is.length then some (nT ρ is l) else none)=some aN:=d;split at f
   ·rename_i b;cases f;exact MX n o h u F R (pj z) B k b m
   ·cases f
  |_=>cases d
variable {bQ:Expr}
theorem MY{I:Addr}(hp:AZ s.heap I\/(∀es ctx p,bQ≠.Tuple es ctx p))(b:∀es p,bQ≠.List es p)(h:Q () s):aS bq A (Dc bQ (.ref I) y) Q E s:=by
 cases bQ<;>first | exact cn h | skip
 ·exact dk rfl (b _ _)
 ·rcases hp with⟨ob,n,a,O,c⟩|hp
  ·unfold Dc;cases y<;>first | exact cn h | skip
   refine a6 (wpAny_load a ?_);rw[O];cases ob.data<;>first | exact cn h | skip
   simp only[c,Bool.false_and,Tn,if_false];exact cn h
  ·exact dk rfl (hp _ _ _)
noncomputable def bS.cP(g:bS)(L:Addr->Prop):bS:=⟨g.aL,g.bD,L⟩
variable {L:Addr->Prop}
theorem tJ{x:Value}(a:a9 g h v x):a9 (g.cP L) h v x:=bU.mono (g:=g) (g':=g.cP L) (hT g.aL) (fun V q=>q) (fun V V V e=>e) a
theorem x2{v:List an2}{x:List Value}(a:an6 g h v x):an6 (g.cP L) h v x:=dA.mono (g:=g) (g':=g.cP L) (hT g.aL) (fun V q=>q) (fun V V V e=>e) a
theorem MZ{v:List (Str×an2)}{x:List (Str×Value)}(a:gd g h v x):gd (g.cP L) h v x:=e0.mono (g:=g) (g':=g.cP L) (hT g.aL) (fun V q=>q) (fun V V V e=>e) a
theorem tK(R:aM σ g h){L:Addr->Prop}{au:ah}(b:au.length=σ.length)(c:∀a,L a->a∈g.aL)(d:∀(i:Nat) o a,au[i]?=some o->g.aL[i]?=some a->kT (g.cP L) h o a):aM au (g.cP L) h where
 rel:={len:=R.rel.len.trans b.symm,nodup:=R.rel.nodup,fz:=R.rel.fz,iq:=c,live:=R.rel.live,base:=R.rel.base,kl:=R.rel.kl,objs:=d}
 ja:=R.ja
 sys:=R.sys
def an8(g:bS)(v:an2):Addr->Prop:=fun b=>g.lk b\/∃i,v=.ref i/\g.aL[i]?=some b
variable {b:Bool}
theorem Yy:(gb σ i b).length=σ.length:=by
 unfold gb;generalize σ[i]?=o;cases o with
 |none=>rfl
 |some o=>cases o<;>first | rfl | exact lY
theorem M0:(bG σ v b).length=σ.length:=by cases v<;>first | rfl | exact Yy
theorem EZ(h:j≠i):(gb σ i b)[j]?=σ[j]?:=by
 unfold gb;generalize σ[i]?=o;cases o with
 |none=>rfl
 |some o=>cases o<;>first | rfl | exact w6 (eD h)
noncomputable def bb.flag(b:Bool)(x:bb):bb:=match x with
 |.list V l=>.list b l
 |.dict V l=>.dict b l
 |o=>o
theorem Yz(b c:Bool)(l:List an2):bb.flag b (.list c l)=.list b l:=rfl
theorem YA(b c:Bool)(l:List (Str×an2)):bb.flag b (.dict c l)=.dict b l:=rfl
theorem YB(b:Bool)(k:Str)(d:Nat):bb.flag b (.inst k d)=.inst k d:=rfl
theorem YC(b:Bool)(q:Str):bb.flag b (.tab q)=.tab q:=rfl
theorem YD(b:Bool)(l:List (Str×an2)):bb.flag b (.ns l)=.ns l:=rfl
theorem E0:(gb σ i b)[i]?=(σ[i]?).map (bb.flag b):=by
 unfold gb;cases a:σ[i]? with
 |none=>simp[a]
 |some o=>
  have c:=(dN.mp a).1;cases o<;>simp[zS c,a,Yz,YA,YB,YC,YD]
variable {o:bb}
theorem M1{f:bb}(i:kT g h o a)(e:iH (some o)≠.undef)(b:Bool)(m:f=bb.flag b o)(j:b=true↔L a):kT (g.cP L) h f a:=by
 subst m;cases o with
 |list b l=>obtain⟨V,vs,c,O⟩:=i;exact⟨j,vs,c,x2 O⟩
 |dict b l=>obtain⟨V,kvs,c,O⟩:=i;exact⟨j,kvs,c,MZ O⟩
 |inst k d=>exact dk rfl e
 |ns l=>exact dk rfl e
 |tab q=>exact dk rfl e
theorem M2(c:kT g h o a)(i:L a↔g.lk a):kT (g.cP L) h o a:=by
 cases o with
 |list b l=>obtain⟨h0,vs,f,O⟩:=c;exact⟨h0.trans i.symm,vs,f,x2 O⟩
 |dict b l=>obtain⟨h0,kvs,f,O⟩:=c;exact⟨h0.trans i.symm,kvs,f,MZ O⟩
 |inst k d=>exact⟨fun q=>c.1 (i.mp q),c.2⟩
 |ns l=>obtain⟨j,m,e,q⟩:=c;exact⟨fun q=>j (i.mp q),m,e,n1.mono (g':=g.cP L) (hT g.aL) (fun V q=>q) (fun V V V e=>e) q⟩
 |tab q=>exact⟨fun q=>c.1 (i.mp q),c.2.mono (g':=g.cP L) (fun V q=>q) (fun V V V e=>e) fun V e=>e⟩
theorem M3(R:aM σ g h){i j:Nat}{a:Addr}(b:g.aL[i]?=some a)(O:g.aL[j]?=some a):i=j:=by
 have c:=(dN.mp b).1;exact(SX c R.rel.nodup).mp (b.trans O.symm)
theorem Ba{l:List an2}(hi:de σ v=some l):∀i,v=.ref i->iH σ[i]?≠.undef:=by
 rintro i rfl e;have hi:xn (iH σ[i]?)=some l:=hi;rw[e]at hi;cases hi
theorem Bb(R:aM σ g h){v:an2}(l:∀i,v=.ref i->iH σ[i]?≠.undef):aM (bG σ v true) (g.cP (an8 g v)) h:=by
 refine tK R M0 (fun a d=>?_) fun j o b c O=>?_
 ·rcases d with d |⟨i,V,d⟩
  ·exact R.rel.iq a d
  ·exact ik d
 ·have other:(∀i,v=.ref i->j≠i)->kT (g.cP (an8 g v)) h o b:=fun f=>by
   have e:σ[j]?=some o:=by
    cases v<;>first | exact c | exact(EZ (f _ rfl)).symm.trans c
   refine M2 (R.rel.objs j o b e O) ⟨fun q=>q.elim id fun ⟨i,ay,az⟩=>?_,fun q=>.inl q⟩;exact dk (M3 R O az) (f i ay)
  by_cases k:v=.ref j
  ·subst k;have e:(gb σ j true)[j]?=some o:=c;rw[E0]at e;refine aw (dh.mp e) fun m ay az=>?_;exact M1 (R.rel.objs j m b ay O) (ay▸l j rfl) true az.symm ⟨fun V=>.inr ⟨j,rfl,O⟩,fun V=>rfl⟩
  ·exact other fun i hi n=>k (by rw[hi,n])
theorem Bc(u:aM σ g h)(R:aM au g' h'){v:an2}(A:g.aL <+: g'.aL)(w:g'.lk=an8 g v)(B:∀i,v=.ref i->∃a,g.aL[i]?=some a)(x:∀i,v=.ref i->iH σ[i]?≠.undef):aM (bG au v (c' σ v)) (g'.cP g.lk) h':=by
 have up:∀{i:Nat} {a:Addr},g.aL[i]?=some a->g'.aL[i]?=some a:=fun {i a} e=>by
  obtain⟨t,ht⟩:=A;rw[<- ht,mS (dN.mp e).1];exact e
 refine tK R M0 (fun a m=>?_) fun j o b f O=>?_
 ·refine bK (Ix (u.rel.iq a m)) fun i hi=>?_;exact ik (up hi)
 ·by_cases y:v=.ref j
  ·subst y;have r:(gb au j (c' σ (.ref j)))[j]?=some o:=f;rw[E0]at r;refine aw (dh.mp r) fun s ay az=>?_;refine bK (B j rfl) fun a m=>?_;have C:a=b:=by have:=up m;rw[O]at this;exact(dp this).symm
   subst C;have z:g'.lk a:=by rw[w];exact .inr ⟨j,rfl,m⟩
   have D:iH (some s)≠.undef:=by
    have c:=R.rel.objs j s a ay O;cases s with
    |list b l=>exact fun q=>nomatch q
    |dict b l=>exact fun q=>nomatch q
    |inst k d=>exact dk z c.1
    |ns l=>exact dk z c.1
    |tab q=>exact dk z c.1
   refine M1 (R.rel.objs j s a ay O) D _ az.symm ?_;have n:j<σ.length:=u.rel.len▸(dN.mp m).1;have c:=u.rel.objs j σ[j] a (by simp[n]) m;show rN σ j=true↔g.lk a;unfold rN;have e:σ[j]?=some σ[j]:=by simp[n]
   rw[e];cases p:σ[j] with
   |list b l=>rw[p]at c;exact c.1
   |dict b l=>rw[p]at c;exact c.1
   |inst k d=>exact dk (by rw[e,p];rfl) (x j rfl)
   |ns l=>exact dk (by rw[e,p];rfl) (x j rfl)
   |tab q=>exact dk (by rw[e,p];rfl) (x j rfl)
  ·have r:au[j]?=some o:=by
    cases v<;>first | exact f | exact(EZ (fun q=>y (by rw[q]))).symm.trans f
   refine M2 (R.rel.objs j o b r O) ⟨fun q=>by rw[w];exact .inl q,fun q=>?_⟩;rw[w]at q;rcases q with q |⟨i,rfl,q⟩
   ·exact q
   ·exact dk (M3 R O (up q)) fun e=>y (by rw[e])
theorem Ext.tK(e:Ext own (g.cP L) s g' s')(h:∀b,g.lk b->L b):Ext own g s (g'.cP g.lk) s':=
 ⟨e.pre,e.sub,e.n2,e.n3,rfl,e.keep,fun b o ay az a=>e.i' b o ay (az.imp id (h b)) a,e.live,e.gens,e.os⟩
noncomputable def ez(env:Env)(x:cA)(y:List (Str×Addr)):List (Str×Addr):=match x,y with
 | [],acc=>acc
 |(n,k)::r,acc=>ez env r (if k==.free then (n,(env.cells.lookup n).getD 0)::acc else acc)
theorem YE(env:Env)(acc:List (Str×Addr)):ez env [] acc=acc:=rfl
theorem E3(env:Env)(n:Str)(k:NameKind)(r:cA)(acc:List (Str×Addr)):ez env ((n,k)::r) acc=ez env r (if k==.free then (n,(env.cells.lookup n).getD 0)::acc else acc):=rfl
theorem Bd{scope:Scope}(h:∀n,(n,lz)∈scope.names->∃c,env.cells.lookup n=some c):closureFor scope env=pure (ez env scope.names []):=by
 unfold closureFor;have e:∀(l:cA) (acc:List (Str×Addr)) (f:Str×NameKind->List (Str×Addr)->Sem (ForInStep (List (Str×Addr)))),(∀n k cs,f (n,k) cs=if (k==.free)=true then (do let c <- cellOf env n;pure (.yield ((n,c)::cs))) else pure (.yield cs)) ->
   (∀n,(n,lz)∈l->∃c,env.cells.lookup n=some c)->forIn l acc f=pure (ez env l acc):=by
  intro l
  induction l with
  |nil=>intro acc f b d;simp[YE]
  |cons p r ih=>
   intro acc f b d;obtain⟨n,k⟩:=p;rw[List.forIn_cons,b];by_cases a:(k==lz)=true
   ·have i:k=.free:=by simpa using a
    subst i;refine bK (d n (cW ..)) fun j ae=>?_;rw[bl a];have:cellOf env n=pure j:=by unfold cellOf;rw[ae]
    rw[this];simp only[pure_bind];rw[ih _ f b fun m g=>d m (dM _ g)];simp[E3,ae]
   ·rw[b5 a];simp only[pure_bind];rw[ih _ f b fun m g=>d m (dM _ g)];simp[E3,a]
 dsimp only;rw[e scope.names [] _ (fun n k cs=>by cases a:(k==lz)<;>simp[a]) h];simp
theorem tL:∀(l:cA) (acc:List (Str×Addr)),(∀n,(n,lz)∈l->∃c,env.cells.lookup n=some c)->(∀n c,acc.lookup n=some c->env.cells.lookup n=some c)->∀n c,(ez env l acc).lookup n=some c->env.cells.lookup n=some c:=by
 intro l
 induction l with
 |nil=>exact fun acc V a n c h=>a n c h
 |cons p r ih=>
  obtain⟨m,k⟩:=p;intro acc d a n c h;refine ih _ (fun m g=>d m (dM _ g)) (fun b e h'=>?_) n c h;by_cases f:(k==lz)=true
  ·have i:k=.free:=by simpa using f
   subst i;obtain⟨j,ae⟩:=d m (cW ..);simp only[ef,if_true,i4,ae,ale]at h';cases hn:b==m with
   |true=>
    rw[hn]at h';have:b=m:=by simpa using hn
    subst this;rw[ae];exact h'
   |false=>rw[hn]at h';exact a b e h'
  ·simp only[f,if_false]at h';exact a b e h'
theorem YF:∀(l:cA) (acc:List (Str×Addr)) (n:Str),(n,lz)∈l\/(acc.lookup n).isSome=true->((ez env l acc).lookup n).isSome=true:=by
 intro l
 induction l with
 |nil=>exact fun acc n h=>h.elim (fun q=>(eO q)) id
 |cons p r ih=>
  obtain⟨m,k⟩:=p;intro acc n h;refine ih _ n ?_;rcases h with h|h
  ·rcases dG.mp h with e|h
   ·cases e;right;simp
   ·exact .inl h
  ·right
   split
   ·rw[i4];split
    ·rfl
    ·exact h
   ·exact h
variable {l:cA}
theorem M4(b:∀n,(n,lz)∈l->∃c,env.cells.lookup n=some c){n:Str}{a:Addr}(hn:(n,lz)∈l)(ae:env.cells.lookup n=some a):(ez env l []).lookup n=some a:=by
 obtain⟨d,h'⟩:=gv.mp (YF l [] n (.inl hn));have:=tL l [] b (fun V V q=>(dS q)) n d h';rw[ae]at this;cases this;exact h'
theorem x3{ks:List Nat}:∀{ρ:List an2} {i:Nat} {v:an2},(kill ks ρ)[i]?=some v->v≠.undef->i∉ks/\ρ[i]?=some v:=by
 induction ks with
 |nil=>intro ρ i v h a;exact⟨by simp,h⟩
 |cons k ks ih=>
  intro ρ i v h a;have h':(kill ks (ρ.set k .undef))[i]?=some v:=h;refine bt (ih h' a) fun b O=>?_;rcases vv O with⟨rfl,rfl⟩ |⟨c,d⟩
  ·exact dk rfl a
  ·exact⟨fun q=>(dG.mp q).elim c b,d⟩
theorem YG(is:List Nat)(l ρ:List an2){i:Nat}(h:i∉is):(nT ρ is l)[i]?=ρ[i]?:=by
 induction is generalizing l ρ with
 |nil=>cases l<;>rfl
 |cons k is ih=>cases l with
  |nil=>rfl
  |cons v l=>
   show (nT (ρ.set k v) is l)[i]?=_;rw[ih l _ (fun q=>h (dM _ q)),w6 (by rintro rfl;exact h (cW ..))]
variable {t:dq}{aN:List an2}
theorem YH{ρ:List an2}(a:hW t v ρ=some aN){i:Nat}(hi:i∉ip t):aN[i]?=ρ[i]?:=by
 cases t with
 |one k=>cases a;exact w6 (fun q=>hi (by rw[<- q];exact c3.mpr rfl))
 |many is=>
  cases v<;>first | cases a | skip
  have b:(if l.length=is.length then some (nT ρ is l) else none)=some aN:=a;split at b
  ·cases b;exact YG is l ρ hi
  ·cases b
theorem b8.sub{f:List an2}(F:b8 nm ac env aN g h)(j:∀(i:Nat) v,f[i]?=some v->v≠.undef->aN[i]?=some v):b8 nm ac env f g h:=
 ⟨F.kind,F.names,F.glob,F.blt,F.inj,by obtain⟨m,k,l⟩:=F.ns;exact⟨m,k,fun x i v b c d a=>l x i v b c (j i v d a) a⟩,
  fun x i b c=>by obtain⟨n,o,p,q,e⟩:=F.cl x i b c;exact⟨n,o,p,q,fun v d a=>e v (j i v d a) a⟩,F.d7,F.gE,F.g4,F.apart⟩
theorem YI{f:Str->NameKind->NameKind}(l:cA)(x:Str):(l.map fun p=>(p.1,f p.1 p.2)).lookup x=(l.lookup x).map (f x):=by
 induction l with
 |nil=>rfl
 |cons p r ih=>
  obtain⟨n,k⟩:=p;simp only[gu,i4];cases a:x==n with
  |true=>
   have:x=n:=by simpa using a
   subst this;rfl
  |false=>exact ih
theorem Be(nm own:cA)(x:Str):(jG nm own).lookup x=(own.lookup x).map fun k=>if k==.free&&nm.lookup x==some .cell then .cell else k:=by
 rw[<- YI (f:=fun x k=>if k==.free&&nm.lookup x==some .cell then .cell else k)];unfold jG
 congr 1
 refine i0 fun p V=>?_;obtain⟨n,k⟩:=p;dsimp only;split<;>rfl
theorem YJ(a:env.scope.kind=.function)(hn:env.scope.names=nm)(scope:Scope):(relabel scope env).names=jG nm scope.names:=by
 unfold relabel jG;refine i0 fun p V=>?_;obtain⟨n,k⟩:=p;have e:env.kindOf n=nm.lookup n:=by rw[<- hn];rfl
 simp only[a,e,ef,zU]
theorem pt{α:Type}:∀{l:List (Str×α)} {x:Str} {a:α},l.lookup x=some a->(x,a)∈l:=by
 intro l
 induction l with
 |nil=>exact fun h=>dS h
 |cons p r ih=>
  obtain⟨n,b⟩:=p;intro x a h;rw[i4]at h;cases c:x==n with
  |true=>
   rw[c]at h;cases h;have:x=n:=by simpa using c
   subst this;exact cW ..
  |false=>rw[c]at h;exact dM _ (ih h)
theorem M5{l:dI}(hn:(l.map ju).Nodup){x y:Str}{i:Nat}(a:l.lookup x=some i)(O:l.lookup y=some i):x=y:=by
 have b:=pt a;have c:=pt O;clear a O
 induction l with
 |nil=>cases b
 |cons p r ih=>
  rw[gu,mR]at hn;rcases dG.mp b with ak|ak<;>rcases dG.mp c with ar|ar
  ·rw[<- ak]at ar;cases ar;rfl
  ·subst ak;exact dk (dQ.mpr ⟨_,ar,rfl⟩) hn.1
  ·subst ar;exact dk (dQ.mpr ⟨_,ak,rfl⟩) hn.1
  ·exact ih hn.2 ak ar
theorem E4:∀(ns:List Str) (is:List Nat) (ac:dI) (x:Str) (i:Nat),ns.length=is.length->(ns.zip is++ac).lookup x=some i->(x∈ns/\i∈is)\/(x∉ns/\ac.lookup x=some i):=by
 intro ns
 induction ns with
 |nil=>exact fun is ac x i d h=>.inr ⟨fun q=>(eO q),h⟩
 |cons n ns ih=>
  intro is ac x i d h;cases is with
  |nil=>cases d
  |cons k is=>
  rw[ao7,Tp,i4]at h;cases c:x==n with
  |true=>
   rw[c]at h;cases h;have:x=n:=by simpa using c
   subst this;exact .inl ⟨cW ..,cW ..⟩
  |false=>
   rw[c]at h;have e:x≠n:=by simpa using c
   rcases ih is ac x i (IN d) h with⟨a,b⟩ |⟨a,b⟩
   ·exact .inl ⟨dM _ a,dM _ b⟩
   ·exact .inr ⟨fun q=>(dG.mp q).elim e a,b⟩
theorem YL(ae:kR nm ac t bQ=true):(nX bQ).length=(ip t).length:=by
 cases t with
 |one i=>obtain⟨x,p,rfl⟩:=jI ae;rfl
 |many is=>
  refine d5 (rS ae) fun es ctx p a=>?_;subst a;have b:∀(is:List Nat) (es:List Expr),jF nm ac is es=true->(tm es).length=is.length:=by
   intro is
   induction is with
   |nil=>intro es h;rw[EX h];rfl
   |cons i is ih=>
    intro es h;refine Af (EW h) fun x p c a V V d=>?_;subst a;show (tm c).length+1=is.length+1;rw[ih c d]
  exact b is es ae
structure tM (nm:cA)(ac:dI)(bQ:Expr)(sc:Scope):Prop where
 kind:sc.kind=.function
 nodup:(sc.names.map bz).Nodup
 loc:∀n,(n,NameKind.local)∈sc.names->(n=(".0":Str)/\ac.lookup n=none)\/n∈nX bQ
 free:∀n,(n,lz)∈sc.names->n∉nX bQ/\(∃i,ac.lookup n=some i)/\MM (nm.lookup n)=true
 cell:∀n,(n,Dd)∈sc.names->n∈nX bQ
 dot:(sc.names.lookup (".0":Str)).isSome=true
variable {sc:Scope}
theorem YM(h:LK nm ac bQ sc=true):tM nm ac bQ sc:=by
 refine uT h fun b O h0 a=>?_;have a:=oZ.mp a;refine⟨by simpa using b,ct O,fun n hn=>?_,fun n hn=>?_,fun n hn=>w7.mp (a _ hn),h0⟩
 ·have:=a _ hn;simp only[SR,z0,ej,IP,w7]at this;exact this
 ·have:=a _ hn;simp only[SR,z0,ej,ru,gv]at this;obtain⟨⟨c,d⟩,f⟩:=this;refine⟨fun q=>?_,d,?_⟩
  ·have:=w7.mpr q;rw[c]at this;cases this
  ·rcases f with e|e<;>rw[e]<;>rfl
theorem tM.names(h:tM nm ac bQ sc):∀x∈sc.names,x.2=.local->sc.names.lookup x.1=some .local:=by
 intro x a b;obtain⟨n,k⟩:=x;dsimp only at b;subst b;have hn:=h.nodup;generalize sc.names=l at a hn
 induction l with
 |nil=>cases a
 |cons p r ih=>
  rw[gu,mR]at hn;rw[i4];rcases dG.mp a with e|e
  ·subst e;simp
  ·have:(n==p.1)=false:=by
    rw[beq_eq_false_iff_ne];rintro rfl;exact hn.1 (dQ.mpr ⟨_,e,rfl⟩)
   rw[this];exact ih e hn.2
theorem b8.qv(F:b8 nm ac env ρ g h){bQ:Expr}{sc:Scope}(ok:tM nm ac bQ sc):∀n,(n,lz)∈sc.names->∃c,env.cells.lookup n=some c:=fun n hn=>by
 obtain⟨V,⟨i,hi⟩,a⟩:=ok.free n hn;refine bZ (F.cl n i hi a) fun b o d V=>?_;exact⟨b,d⟩
theorem YN{c:Addr}(h:(ez env l []).lookup x=some c):(x,lz)∈l:=by
 have a:∀(l:cA) (acc:List (Str×Addr)),(ez env l acc).lookup x=some c->(x,lz)∈l\/acc.lookup x=some c:=fun l=>by
  induction l with
  |nil=>exact fun acc h=>.inr h
  |cons p r ih=>
   intro acc h;obtain⟨n,k⟩:=p;rw[E3]at h;rcases ih _ h with e|e
   ·exact .inl (dM _ e)
   ·split at e
    ·rename_i d;rw[i4]at e;cases b:x==n with
     |true=>rw[ej.mp b,<- ej.mp d];exact .inl cW
     |false=>rw[b]at e;exact .inr e
    ·exact .inr e
 exact(a l [] h).elim id fun q=>dS q
theorem x4:∀{names:cA} {n:Nat} {acc:List (Str×Addr)} {x:Str} {c:Addr},(gZ n names acc).lookup x=some c->acc.lookup x=some c\/((x,Dd)∈names/\n<=c):=by
 intro names
 induction names with
 |nil=>exact fun {n acc x c} h=>.inl h
 |cons p r ih=>
  obtain⟨name,b⟩:=p;intro n acc x c h;unfold gZ at h;split at h
  ·rename_i d;rcases ih h with e |⟨f,g⟩
   ·rw[i4]at e;cases a:x==name with
    |true=>
     rw[a]at e;cases e;rw[ej.mp a,<- ej.mp d];exact .inr ⟨cW,cu _⟩
    |false=>rw[a]at e;exact .inl e
   ·exact .inr ⟨dM _ f,rq g⟩
  ·exact(ih h).imp id fun e=>⟨dM _ e.1,e.2⟩
theorem YO:∀{names:cA} {n:Nat} {acc:List (Str×Addr)} {x:Str},((x,Dd)∈names\/∃c,acc.lookup x=some c)->∃c,(gZ n names acc).lookup x=some c:=by
 intro names
 induction names with
 |nil=>exact fun {n acc x} h=>h.elim (fun q=>eO q) id
 |cons p r ih=>
  obtain⟨name,b⟩:=p;intro n acc x h;unfold gZ;split
  ·rename_i d;refine ih ?_;by_cases a:x=name
   ·exact .inr ⟨n,by rw[a,i4,ef]⟩
   ·rcases h with h |⟨c,h⟩
    ·rcases dG.mp h with e|e
     ·cases e;exact dk rfl a
     ·exact .inl e
    ·exact .inr ⟨c,by rw[i4,beq_eq_false_iff_ne.mpr a];exact h⟩
  ·rename_i d;refine ih (h.imp (fun h=>?_) id);rcases dG.mp h with e|e
   ·cases e;exact dk rfl d
   ·exact e
theorem YQ{names:cA}{n:Nat}{acc:List (Str×Addr)}(h:(x,Dd)∉names):(gZ n names acc).lookup x=acc.lookup x:=by
 induction names generalizing n acc with
 |nil=>rfl
 |cons p r ih=>
  obtain⟨name,a⟩:=p;unfold gZ;split
  ·rename_i b;rw[ih fun q=>h (dM _ q),i4,beq_eq_false_iff_ne.mpr fun q=>h (by rw[q,<- ej.mp b];exact cW)]
  ·exact ih fun q=>h (dM _ q)
theorem YR:∀{names:cA} {n:Nat} {acc:List (Str×Addr)},(∀x c,acc.lookup x=some c->c<n)->(∀x y c,acc.lookup x=some c->acc.lookup y=some c->x=y)->∀x y c,(gZ n names acc).lookup x=some c->(gZ n names acc).lookup y=some c->x=y:=by
 intro names
 induction names with
 |nil=>exact fun V O=>O
 |cons p r ih=>
  obtain⟨name,i⟩:=p;intro n acc d O;unfold gZ;split
  ·have f:∀x c,((name,n)::acc).lookup x=some c->(x=name/\c=n)\/(x≠name/\acc.lookup x=some c):=fun x c h=>by
    rw[i4]at h;cases g:x==name with
    |true=>rw[g]at h;cases h;exact .inl ⟨ej.mp g,rfl⟩
    |false=>rw[g]at h;exact .inr ⟨beq_eq_false_iff_ne.mp g,h⟩
   refine ih (fun x c h=>?_) fun x y c g j=>?_
   ·rcases f x c h with⟨V,e⟩ |⟨V,e⟩
    ·rw[e];exact aog _
    ·exact j7 (d x c e)
   ·rcases f x c g with⟨a,e⟩ |⟨V,e⟩<;>rcases f y c j with⟨b,e'⟩ |⟨V,e'⟩
    ·rw[a,b]
    ·exact dk (d y c e') (by rw[e];exact kD _)
    ·exact dk (d x c e) (by rw[e'];exact kD _)
    ·exact O x y c e e'
  ·exact ih d O
theorem YS:∀{names:cA} {h:Heap} {acc:List (Str×Addr)} {x:Str} {c:Addr},(gZ h.objs.size names acc).lookup x=some c->acc.lookup x=some c\/(De h names).IsCell c none:=by
 intro names
 induction names with
 |nil=>exact fun {h acc x c} e=>.inl e
 |cons p r ih=>
  obtain⟨name,b⟩:=p;intro h acc x c e;unfold gZ at e;unfold De;split at e
  ·rename_i a;rw[bl a];rw[<- sW h {cls:=.type "cell",data:=.cell none}]at e;rcases ih e with e|e
   ·rw[i4]at e;cases d:x==name with
    |true=>
     rw[d]at e;cases e;exact .inr (anU ⟨_,jv _ rfl,rfl⟩ (alf r _))
    |false=>rw[d]at e;exact .inl e
   ·exact .inr e
  ·rename_i a;rw[b5 a];exact ih e
theorem YT(hn:(l.map bz).Nodup){x:Str}{a b:NameKind}(c:(x,a)∈l)(O:(x,b)∈l):a=b:=by
 induction l with
 |nil=>cases c
 |cons p r ih=>
  rw[gu,mR]at hn;rcases dG.mp c with ak|ak<;>rcases dG.mp O with ar|ar
  ·rw[<- ak]at ar;cases ar;rfl
  ·subst ak;exact dk (dQ.mpr ⟨_,ar,rfl⟩) hn.1
  ·subst ar;exact dk (dQ.mpr ⟨_,ak,rfl⟩) hn.1
  ·exact ih hn.2 ak ar
theorem YU{s:Shared}{E:Value->Shared->Prop}{c:Addr}{d:List (Str×Addr)}{a:Str}{Q:Env->Shared->Prop}
  (h:Q (newEnv sc s.heap.objs.size c (gZ (s.heap.objs.size+1) sc.names d) a none .none (some env) mL) {s with heap:=De (s.heap.push {cls:=.type "dict",data:=.dict #[]}) sc.names}) :
  aS M A (Tq sc c d [] a none .none (some env)) Q E s:=by
 simp only[Tq,Option.isSome_some,if_true];refine a6 (wpAny_alloc ?_);refine a6 (wpAny_layCells _ (fun name b cells=>by cases e:b==Dd<;>simp[e]) _ _ _ _ ?_);rw[show ({s with heap:=s.heap.push {cls:=.type "dict",data:=.dict #[]}}:Shared).heap.objs.size=s.heap.objs.size+1 from sW ..];refine a6 ?_;rw[List.forIn_nil];exact cn (cn h)
theorem b8.comp(F:b8 nm ac env ρ g h){bQ:Expr}{sc:Scope}{t:dq}(ok:tM nm ac bQ sc)(E:((jH ac t bQ).map ju).Nodup)(d:(nX bQ).length=(ip t).length){L:Addr}{m:Str->Option Value}(G:h.Ns L m)(H:L∉g.aL/\¬g.bD L)
  {n0:Nat} (I:∀x c,(ez env sc.names []).lookup x=some c->c<n0) (p:∀c,n0<=c->c∉g.aL/\¬g.bD c) (C:∀x c,(gZ n0 sc.names (ez env sc.names [])).lookup x=some c->n0<=c->h.IsCell c none) :
  b8 (jG nm sc.names) (jH ac t bQ) (Tr sc (gZ n0 sc.names (ez env sc.names [])) L env) (kill (ip t) ρ) g h where
 kind:=ok.kind
 names:=YJ F.kind F.names sc
 glob:=⟨F.glob.1,fun q=>by
  rw[Be]at q;have:=ok.dot;cases e:sc.names.lookup (".0":Str) with
  |none=>rw[e]at this;cases this
  |some k=>rw[e]at q;cases q⟩
 blt:=F.blt
 inj:=fun x y i=>M5 E
 ns:=⟨m,G,fun x i v u l j f=>by
  rw[Be]at l;refine aw (dh.mp l) fun k k1 z=>?_;have J:k=.local:=by
   split at z
   ·cases z
   ·exact z
  subst J;refine bt (x3 j f) fun ay az=>?_;rcases E4 _ _ ac x i d u with⟨V,b⟩ |⟨w,r⟩
  ·exact dk b ay
  ·rcases ok.loc x (pt k1) with⟨V,e⟩|e
   ·rw[e]at r;cases r
   ·exact dk e w⟩
 cl:=fun x i u l=>by
  rw[Be]at l;cases A:sc.names.lookup x with
  |none=>rw[A]at l;cases l
  |some k=>
   have s:=pt A;rw[A]at l;cases k with
   |free=>
    refine mV (ok.free x s) fun K R M=>?_;rcases E4 _ _ ac x i d u with⟨b,V⟩ |⟨w,r⟩
    ·exact dk b K
    ·refine db (F.cl x i r M) fun a o N P Q=>?_;refine⟨a,o,?_,P,fun v j f=>Q v (x3 j f).2 f⟩;show (gZ n0 sc.names (ez env sc.names [])).lookup x=some a;rw[YQ fun q=>by cases YT ok.nodup s q];exact M4 (F.qv ok) s N
   |cell=>
    refine bK (YO (n:=n0) (acc:=ez env sc.names []) (.inl s)) fun a ae=>?_;have D:∀v,(kill (ip t) ρ)[i]?=some v->v≠.undef->False:=fun v j f=>by
     rcases E4 _ _ ac x i d u with⟨V,b⟩ |⟨w,r⟩
     ·exact(x3 j f).1 b
     ·exact w (ok.cell x s)
    rcases x4 ae with e |⟨V,e⟩
    ·refine bK (F.g4 x a (tL _ [] (F.qv ok) (fun V V q=>(dS q)) x a e)) fun o q=>?_;exact⟨a,o,ae,q,fun v j f=>(D v j f).elim⟩
    ·exact⟨a,none,ae,C x a ae e,fun v j f=>(D v j f).elim⟩
   |_=>exact dk (show false=true from l) f6
 d7:=H
 gE:=fun x a ae=>by
  rcases x4 (show (gZ n0 sc.names (ez env sc.names [])).lookup x=some a from ae) with e |⟨V,e⟩
  ·exact F.gE x a (tL _ [] (F.qv ok) (fun V V q=>(dS q)) x a e)
  ·exact p a e
 g4:=fun x a ae=>by
  rcases x4 (show (gZ n0 sc.names (ez env sc.names [])).lookup x=some a from ae) with e |⟨V,e⟩
  ·exact F.g4 x a (tL _ [] (F.qv ok) (fun V V q=>(dS q)) x a e)
  ·exact⟨none,C x a ae e⟩
 apart:=YR I fun x y a B O=>F.apart x y a (tL _ [] (F.qv ok) (fun V V q=>(dS q)) x a B) (tL _ [] (F.qv ok) (fun V V q=>(dS q)) y a O)
end
section
open PySem PyProof.Rows PySem.SeqAt
variable {c:bP}{σ au:ah}{g g':bS}{h h':Heap}{s s':Shared}{own:Addr->Prop}{A:Around}{d:Nat}{nm:cA}{ac:dI}{env:Env}{ρ:List an2}
 {Q:Value->Shared->Prop} {E:Value->Shared->Prop}
theorem b8.ext'(F:b8 nm ac env ρ g s.heap)(R:aM σ g s.heap)(e:Ext own g s g' s')(t:dZ own g)(w:¬own env.locals)(u:∀x a,env.cells.lookup x=some a->¬own a):b8 nm ac env ρ g' s'.heap where
 kind:=F.kind
 names:=F.names
 glob:=F.glob
 blt:=F.blt
 inj:=F.inj
 ns:=by
  refine a3 fun h=>?_;refine aw F.ns fun m f O=>?_;refine h ?_;clear h;refine⟨m,?_,fun x i v k l n p=>?_⟩
  ·exact e.El f F.d7.1 w
  ·refine aw (O x i v k l n p) fun y b j=>?_;exact⟨y,b,h2 R e t j⟩
 cl:=fun x i k l=>by
  refine a3 fun h=>?_;refine db (F.cl x i k l) fun a o b j r=>?_;refine h ?_;clear h;refine⟨a,o,b,?_,fun v n p=>?_⟩
  ·obtain⟨ob,c,d⟩:=id j;exact⟨ob,e.pi c (F.gE x a b).1 (u x a b) (A5 c j),d⟩
  ·refine aw (r v n p) fun y z A=>?_;exact⟨y,z,h2 R e t A⟩
 d7:=by
  refine aw F.ns fun m f V=>?_;refine bK (ry.live f) fun o c=>?_;exact⟨e.ph c F.d7.1,e.tw c F.d7.2⟩
 gE:=fun x a b=>by
  obtain⟨o,ob,c,V⟩:=F.g4 x a b;exact⟨e.ph c (F.gE x a b).1,e.tw c (F.gE x a b).2⟩
 g4:=fun x a b=>by
  obtain⟨o,q⟩:=F.g4 x a b;obtain⟨ob,c,d⟩:=id q;exact⟨o,ob,e.pi c (F.gE x a b).1 (u x a b) (A5 c q),d⟩
 apart:=F.apart
theorem Ext.drop(x:Ext cG g s g' s'){cc:bS}{d:Shared}(y:Ext own g' s' cc d)(hn:∀a,own a->s.heap.get? a=none):Ext cG g s cc d:=
 let z:=x.weaken.trans y;have f:∀b o,s.heap.get? b=some o->¬own b:=fun b o e q=>by rw[hn b q]at e;cases e
 {z with keep:=fun b o e c V=>z.keep b o e c (f b o e),i':=fun b o e c V=>z.i' b o e c (f b o e)}
def YW(A:Around)(env:Env)(elt:Expr)(acc:Value)(J:Shared->Prop)(E:Value->Shared->Prop)(ok:Bool)(mq:Shared):Prop:=
 if ok=true then aS bq A (eval elt env) (fun x Bg=>aS bq A (call (.builtin "list.append") [acc,x]) (fun V M7=>J M7) E Bg) E mq else J mq
def YX(A:Around)(env:Env)(elt target:Expr)(ifs:List Expr)(it acc:Value)(gF J:Shared->Prop)(E:Value->Shared->Prop)(r:Option Value)(s₁:Shared):Prop:=match r with
 |none=>gF s₁
 |some v=>aS bq A (Dc target it v) (fun V Bh=>aS bq A (assign target env v) (fun V s₂=>
   aS bq A (forIn ifs true fun c r=>if r=true then do let ok <- C7 c env (eval c env);pure (IQ ok) else pure (IQ r)) (YW A env elt acc J E) E s₂) E Bh) E s₁
def Bi(I:Nat->Shared->Prop)(n:Nat)(s:Shared):Prop:=∃m,m<n/\I m s
variable {R:Result->Shared->Prop}{e e' iter bQ:Expr}{ifs:List Expr}{pos:Pos}
theorem YY{elt target:Expr}{scope:Scope}{it acc:Value}{env:Env}(I:Nat->Shared->Prop)
  (turn:∀(E:Value->Shared->Prop) n s,I n s->aS bq A (zV it) (YX A env elt target ifs it acc (R (.ok .next)) (Bi I n) E) E s)
  (n:Nat) (h:I n s) :
  sX bq A (.compLoop (.ListComp elt [⟨target,iter,ifs,0⟩] scope pos) 0 it acc env) R s:=by
 refine codeAny_loop rfl I (fun n s e=>?_) n h;show aS _ A ((compTurn (.ListComp elt [⟨target,iter,ifs,0⟩] scope pos) 0 it acc env).onRaise (fun x=>do noteFrame x env;theTreesLotGoes x)) _ _ s;refine wpAny_noted ?_;rw[compTurn_list];refine a6 (lZ (a6 (nO (turn _ n s e) (fun r b h₁=>?_) fun V V h'=>h')));cases r with
 |none=>exact cn h₁
 |some v=>
  refine a6 (nO h₁ (fun V j f=>?_) fun V V h'=>h');refine a6 (nO f (fun V c a=>a6 (nO a (fun ok k d=>?_) fun V V h'=>h')) fun V V h'=>h');cases ok with
  |false=>exact cn ⟨rfl,d⟩
  |true=>
   exact a6 (a6 (nO d (fun x l g=>a6 (nO g (fun V m i=>cn (cn ⟨rfl,i⟩)) fun V V h'=>h')) fun V V h'=>h'))
structure jc (L D I:Addr)(fp:List Addr)(bh:Nat->Heap->Prop)(nm:cA)(ac:dI)(env:Env)(ρ:List an2)(i:Nat)(done:List an2)(σ:ah)(g:bS)(s:Shared):Prop where
 rel:aM σ g s.heap
 fr:b8 nm ac env ρ g s.heap
 st:bh i s.heap
 acc:∃aP,mZ s.heap D aP/\an6 g s.heap done aP.toList
 h7:I∉g.aL/\¬g.bD I
 iv:D∉g.aL/\¬g.bD D
 aoJ:∃o,s.heap.get? I=some o/\kS o=false
 keep:∀b∈fp,Fast g s.heap b
structure tO (K:Addr->Prop)(L D I:Addr)(fp:List Addr)(env:Env):Prop where
 eg:env.locals=L
 E5:L≠I
 vA:L≠D
 cg:D≠I
 Y2:L∉fp
 M9:D∉fp
 Bj:∀x aH,env.cells.lookup x=some aH->aH≠I/\aH≠D/\aH≠L
 x5:∀b,K b->b≠I/\b≠D/\b∉fp/\∃x,env.cells.lookup x=some b
variable {K:Addr->Prop}{L D I:Addr}{fp:List Addr}{bh:Nat->Heap->Prop}{i n:Nat}{done:List an2}{P:Nat->Value->Prop}
theorem jc.eval(x:jc L D I fp bh nm ac env ρ i done σ g s)(W:Walks C.prog C.w A I fp [I] n P bh)(e:Ext cG g s g' s')(R':aM au g' s'.heap):jc L D I fp bh nm ac env ρ i done au g' s' where
 rel:=R'
 fr:=x.fr.ext x.rel e
 st:=W.frame _ _ _ x.st fun b c o a=>(e.fast (fun q=>q) (x.keep b c)).2 o a
 acc:=by
  obtain⟨aP,⟨n,f⟩,h⟩:=x.acc;exact⟨aP,⟨n,e.pi f x.iv.1 (fun q=>q) rfl⟩,xL x.rel e dZ.none h⟩
 h7:=by obtain⟨o,a,V⟩:=x.aoJ;exact⟨e.ph a x.h7.1,e.tw a x.h7.2⟩
 iv:=by obtain⟨aP,⟨n,a⟩,V⟩:=x.acc;exact⟨e.ph a x.iv.1,e.tw a x.iv.2⟩
 aoJ:=by obtain⟨o,a,d⟩:=x.aoJ;exact⟨o,e.pi a x.h7.1 (fun q=>q) d,d⟩
 keep:=fun b c=>(e.fast (fun q=>q) (x.keep b c)).1
theorem jc.next(h:tO K L D I fp env)(x:jc L D I fp bh nm ac env ρ i done σ g s){h':Heap}{tk j:Nat}(l:∀b o,b∉[I]->s.heap.get? b=some o->h'.get? b=some o)(m:bh j h')(k:∃o,h'.get? I=some o/\kS o=false) :
  jc L D I fp bh nm ac env ρ j done σ g {s with heap:=h',toks:=tk}/\Ext (·=I) g s g {s with heap:=h',toks:=tk}:=by
 have d:∀b o,b≠I->s.heap.get? b=some o->h'.get? b=some o:=fun b o a e=>l b o (by simpa using a) e;have e:Ext (·=I) g s g {s with heap:=h',toks:=tk}:=Ext.heap (fun b o e V a=>d b o a e) fun b a=>by
  by_cases f:b=I
  ·subst f;obtain⟨o,c,V⟩:=k;exact ec c
  ·obtain⟨o,c⟩:=gv.mp a;exact ec (d b o f c)
 have p:dZ (·=I) g:=fun b a=>by subst a;exact x.h7
 have kept:gD g s.heap h':=.tA d x.h7;refine⟨⟨x.rel.kept kept,x.fr.ext' x.rel e p (fun q=>h.E5 (h.eg▸q)) (fun y r ae q=>(h.Bj y r ae).1 q),m,?_,x.h7,x.iv,k,fun b a=>?_⟩,e⟩
 ·obtain⟨aP,⟨n,t⟩,u⟩:=x.acc;exact⟨aP,⟨n,d _ _ h.cg t⟩,lD kept u⟩
 ·by_cases f:b=I
  ·subst f;obtain⟨o,c,v⟩:=k;exact⟨o,c,.inl ⟨x.h7.1,.inr v⟩⟩
  ·exact(x.keep b a).but fun o c=>d b o f c
theorem jc.store(a:tO K L D I fp env)(x:jc L D I fp bh nm ac env ρ i done σ g s)(W:Walks C.prog C.w A I fp [I] n P bh){d:List an2}(e:Ext (fun b=>b=L\/K b) g s g s')(j:b8 nm ac env d g s'.heap)(R':aM σ g s'.heap) :
  jc L D I fp bh nm ac env d i done σ g s':=by
 have k:dZ (fun b=>b=L\/K b) g:=fun b ab=>by
  rcases ab with ab|ab
  ·subst ab;exact a.eg▸x.fr.d7
  ·obtain⟨V,V,V,y,l⟩:=a.x5 b ab;exact x.fr.gE y b l
 have f:∀b∈fp,¬(b=L\/K b):=fun b ab q=>q.elim (fun q=>a.Y2 (q▸ab)) fun q=>(a.x5 b q).2.2.1 ab;refine⟨R',j,W.frame _ _ _ x.st fun b ab o c=>(e.fast (f b ab) (x.keep b ab)).2 o c,?_,x.h7,x.iv,?_,fun b ab=>(e.fast (f b ab) (x.keep b ab)).1⟩
 ·obtain⟨aP,⟨n,m⟩,p⟩:=x.acc;exact⟨aP,⟨n,e.pi m x.iv.1 (fun q=>q.elim (eD a.vA) fun q=>(a.x5 D q).2.1 rfl) rfl⟩,xL x.rel e k p⟩
 ·obtain⟨o,c,h⟩:=x.aoJ;exact⟨o,e.pi c x.h7.1 (fun q=>q.elim (eD a.E5) fun q=>(a.x5 I q).1 rfl) h,h⟩
theorem jc.push(d:tO K L D I fp env)(x:jc L D I fp bh nm ac env ρ i done σ g s)(W:Walks C.prog C.w A I fp [I] n P bh){u:an2}{y:Value}(p:a9 g s.heap u y)(j:done.length<=1000000)
  (r:∀h',jc L D I fp bh nm ac env ρ i (done++[u]) σ g {s with heap:=h'}->Ext (·=D) g s g {s with heap:=h'}->Q .none {s with heap:=h'}) :
  aS bq A (call (.builtin "list.append") [.ref D,y]) Q E s:=by
 refine a3 fun k=>?_;obtain⟨aP,⟨n,t⟩,l⟩:=x.acc;refine k ?_;clear k;have v:=l.size;refine akN ⟨n,t⟩ (fun h' h z=>?_) (by rw[v,i3];exact s7 j);obtain⟨B,h⟩:=h;have f:∀b o,b≠D->s.heap.get? b=some o->h'.get? b=some o:=fun b o a e=>by rw[z.2 b a];exact e
 have e:Ext (·=D) g s g {s with heap:=h'}:=Ext.heap (tk:=s.toks) (fun b o e V a=>f b o a e) fun b a=>by
  by_cases m:b=D
  ·subst m;exact ec h
  ·obtain⟨o,c⟩:=gv.mp a;exact ec (f b o m c)
 have F:dZ (·=D) g:=fun b a=>by subst a;exact x.iv
 have kept:gD g s.heap h':=.tA f x.iv;refine r h' ⟨x.rel.kept kept,x.fr.ext' x.rel e F (fun q=>d.vA (d.eg▸q)) (fun y G ae q=>(d.Bj y G ae).2.1 q),W.frame _ _ _ x.st fun b a o c=>f b o (fun q=>d.M9 (q▸a)) c,⟨_,⟨B,h⟩,?_⟩,x.h7,x.iv,?_,fun b a=>(x.keep b a).but fun o c=>f b o (fun q=>d.M9 (q▸a)) c⟩ e
 ·rw[akO];exact(lD kept l).append (.cons (iN kept p) .nil)
 ·obtain⟨o,c,j⟩:=x.aoJ;exact⟨o,f _ _ (eD d.cg) c,j⟩
theorem jc.sub{a:List an2}(x:jc L D I fp bh nm ac env ρ i done σ g s)(b:∀(i:Nat) v,a[i]?=some v->v≠.undef->ρ[i]?=some v):jc L D I fp bh nm ac env a i done σ g s:=
 ⟨x.rel,x.fr.sub b,x.st,x.acc,x.h7,x.iv,x.aoJ,x.keep⟩
theorem Ext.after(x:Ext cG g s g' s'){tk:Nat}(a:∀b o,b≠I->s'.heap.get? b=some o->h'.get? b=some o)(c:s.heap.get? I=none):Ext cG g s g' {s' with heap:=h',toks:=tk}:=
 ⟨x.pre,x.sub,x.n2,x.n3,x.lock,fun b o e ay az=>by obtain⟨h,d,O⟩:=x.keep b o e ay az;exact⟨h,a b h (fun q=>by rw[q,c]at e;cases e) d,O⟩,fun b o e ay az=>a b o (fun q=>by rw[q,c]at e;cases e) (x.i' b o e ay az),fun b f=>by
  refine bK (gv.mp (x.live b f)) fun o i=>?_;exact ec (a b o (fun q=>by rw[q,c]at f;cases f) i),x.gens,x.os⟩
def rZ(K:Addr->Prop)(L D I:Addr):Addr->Prop:=fun b=>b=I\/b=D\/b=L\/K b
variable {t:dq}
theorem Y3{cond elt:List an2->ah->be an2}{x:an2}{xs:List an2}{r:List an2}(h:gc cond elt t ρ (x::xs) σ=.ok r au):∃aN b aj q,hW t x ρ=some aN/\cond aN σ=.ok b aj/\dz aj b=some q /\
  ((q=true/\∃v c a,elt aN aj=.ok v c/\gc cond elt t ρ xs c=.ok a au/\r=v::a)\/(q=false/\gc cond elt t ρ xs aj=.ok r au)):=by
 rw[AE]at h;cases f:hW t x ρ with
 |none=>rw[f]at h;cases h
 |some aN=>
  rw[f]at h;simp only at h;cases ae:cond aN σ with
  |bad=>rw[ae]at h;cases h
  |ok b aj=>
   rw[ae]at h;simp only[be.bind]at h;cases ht:dz aj b with
   |none=>rw[ht]at h;cases h
   |some q=>
    rw[ht]at h;cases q with
    |false=>exact⟨aN,b,aj,false,rfl,ae,ht,.inr ⟨rfl,h⟩⟩
    |true=>
     simp only at h;cases d:elt aN aj with
     |bad=>rw[d]at h;cases h
     |ok v c=>
      rw[d]at h;simp only[be.bind]at h;cases e:gc cond elt t ρ xs c with
      |bad=>rw[e]at h;cases h
      |ok a g=>
       rw[e]at h
       replace h:=tF h
       obtain⟨rfl,rfl⟩:=h;exact⟨aN,b,aj,true,rfl,ae,ht,.inl ⟨rfl,v,c,a,d,e,rfl⟩⟩
theorem M'(ae:kR nm ac t bQ=true):∀es p,bQ≠.List es p:=by
 rintro es p rfl;cases t<;>exact dk (show false=true from ae) f6
variable {a cond elt hi it lo gM:bE}
theorem Y4(h:u9 cond=true):cond=.const (.bool true):=by obtain⟨u,V⟩:=gv.mp (show (LM cond).isSome=true from h);exact u.2
inductive Na (c:bP)(cond elt:bE)(m:Nat)(t:dq)(own:Addr->Prop)(L D I:Addr)(fp:List Addr)(bh:Nat->Heap->Prop)(nm:cA)(ac:dI)(env:Env)(ρ l vs:List an2)(gs:bS)(ss:Shared)(σE:ah)(k:Nat)(s':Shared):Prop
 |mk (i:Nat) (dj:bS) (eI:ah) (done rest:List an2) (hi:i<=l.length) (aa:k=l.length-i) (X:jc L D I fp bh nm ac env ρ i done eI dj s') (gP:Ext own gs ss dj s') (hr:gc (bk c cond 0) (bk c elt m) t ρ (l.drop i) eI=.ok rest σE) (aq:done++rest=vs):Na c cond elt m t own L D I fp bh nm ac env ρ l vs gs ss σE k s'
variable {b m:Nat}{sc:Scope}{l vs:List an2}
theorem Y5{gs:bS}{ss:Shared}{ax σE:ah}
  (d6:ci c d elt) (d1:h4 c d cond) (aD:eG A d) (F:tO K L D I fp env) (W:Walks C.prog C.w A I fp [I] l.length P bh) (je:∀i h,bh i h->AZ h I)
  (E6:bn elt nm ac e'=true) (Q:AL (u9 cond) (bn cond nm ac) ifs=true) (an:kR nm ac t bQ=true)
  (tN:∀x∈nX bQ,nm.lookup x=some .cell->∀c,env.cells.lookup x=some c->K c)
  (Bk:∀(i:Nat) v,ρ[i]?=some v->v≠.undef->i∉ip t)
  (x7:aM ax gs ss.heap) (cq:∀i z u,P i z->l[i]?=some u->a9 gs ss.heap u z) (fT:dZ (rZ K L D I) gs) (G:vs.length<=1000000)
  (fU:∀U sn h' tk,aM σE U h'->b8 nm ac env ρ U h'->(∃aP,mZ h' D aP/\an6 U h' vs aP.toList)->(D∉U.aL/\¬U.bD D)->Ext (rZ K L D I) gs ss U sn->(∀b o,b≠I->sn.heap.get? b=some o->h'.get? b=some o)->R (.ok .next) {sn with heap:=h',toks:=tk}) :
  ∀(k i:Nat) (B:bS) (kY:Shared) (Y:ah) (done rest:List an2),i<=l.length->k=l.length-i->jc L D I fp bh nm ac env ρ i done Y B kY->Ext (rZ K L D I) gs ss B kY->gc (bk c cond 0) (bk c elt m) t ρ (l.drop i) Y=.ok rest σE->done++rest=vs ->
   sX bq A (.compLoop (.ListComp e' [⟨bQ,iter,ifs,0⟩] sc pos) 0 (.ref I) (.ref D) env) R kY:=by
 intro k i B kY Y done rest hi Z oi gP J N;refine YY (Na c cond elt m t (rZ K L D I) L D I fp bh nm ac env ρ l vs gs ss σE) ?_ k ⟨i,B,Y,done,rest,hi,Z,oi,gP,J,N⟩;clear J N gP oi Z hi;intro E k s' H;refine a3 fun p=>?_;obtain⟨i,B,Y,done,rest,hi,rfl,X,gP,J,N⟩:=H;refine p ?_;clear p;by_cases ed:i=l.length
 ·subst ed;rw[alg,Vu]at J
  replace J:=tF J
  obtain⟨rfl,rfl⟩:=J;rw[il]at N;subst N;refine W.done s' _ _ X.st fun h' tk Z=>?_;have bH:∀b o,b≠I->s'.heap.get? b=some o->h'.get? b=some o:=fun b o ab e=>Z b o (by simpa using ab) e;have kept:gD B s'.heap h':=.tA bH X.h7;have nc:b8 nm ac env ρ B h':=by
   refine a3 fun p=>?_;refine aw X.fr.ns fun m' dE d0=>?_;refine p ?_;clear p;refine⟨X.fr.kind,X.fr.names,X.fr.glob,X.fr.blt,X.fr.inj,⟨m',?_,fun x i v a1 a2 aI aT=>?_⟩,fun x i a1 a2=>?_,X.fr.d7,X.fr.gE,fun x S T=>?_,X.fr.apart⟩
   ·obtain⟨o,es,ep,al,r⟩:=dE;exact⟨o,es,ep,bH _ _ (F.eg▸F.E5) al,r⟩
   ·obtain⟨y,T,bR⟩:=d0 x i v a1 a2 aI aT;exact⟨y,T,iN kept bR⟩
   ·refine a3 fun p=>?_;obtain⟨S,o,T,⟨ob,bR,kZ⟩,aG⟩:=X.fr.cl x i a1 a2;refine p ?_;clear p;exact⟨S,o,T,⟨ob,bH _ _ (F.Bj x S T).1 bR,kZ⟩,fun v aI aT=>by obtain⟨y,bu,br⟩:=aG v aI aT;exact⟨y,bu,iN kept br⟩⟩
   ·obtain⟨o,ob,bR,kZ⟩:=X.fr.g4 x S T;exact⟨o,ob,bH _ _ (F.Bj x S T).1 bR,kZ⟩
  obtain⟨aP,⟨n,ak⟩,ar⟩:=X.acc;exact fU B s' h' tk (X.rel.kept kept) nc ⟨aP,⟨n,bH _ _ F.cg ak⟩,lD kept ar⟩ X.iv gP bH
 ·have f:i<l.length:=CU hi ed;have pl:l.drop i=l[i]::l.drop (i+1):=aoQ f;rw[pl]at J;refine a3 fun p=>?_;refine T4 (Y3 J) fun aN b aj q ab M xM Y6=>?_;refine p ?_;clear p;refine W.item i s' _ _ f X.st fun z h' tk bB fB Z=>?_;refine a3 fun p=>?_;obtain⟨ob,Y7,ay,az,bA,ap⟩:=je (i+1) h' fB;refine bt (X.next F (tk:=tk) Z fB ⟨ob,ay,ap⟩) fun k0 ak=>?_
  refine p ?_;clear p;refine MY (.inl ⟨ob,Y7,ay,az,bA,ap⟩) (M' an) ?_;have a6:∀{xI:Addr->Prop} {g s g' s'},(∀a,xI a->rZ K L D I a)->Ext xI g s g' s'->Ext (rZ K L D I) g s g' s':=fun h e=>e.mono h;have qw:=gP.trans (ak.mono fun a ai=>.inl ai);have aq:a9 B h' l[i] z:=h2 x7 qw fT (cq i z _ bB (by simp[f]));have Y8:dZ (fun b=>b=L\/K b) B:=fun b ab=>by
   rcases ab with ab|ab
   ·subst ab;exact F.eg▸k0.fr.d7
   ·obtain⟨V,V,V,y,aQ⟩:=F.x5 b ab;exact k0.fr.gE y b aQ
  refine EY (own:=fun b=>b=L\/K b) aD.hand Y8 (.inl F.eg) an k0.fr k0.rel aq (fun x hx ae S fW=>.inr (tN x hx ae S fW)) ab fun s2 bp bX ar=>?_;have x8:=k0.store F W ar bp bX;have vB:=qw.trans (ar.mono fun a ai=>.inr (.inr ai));have back:∀(j:Nat) v,ρ[j]?=some v->v≠.undef->aN[j]?=some v:=fun j v as O=>by rw[YH ab (Bk j v as O)];exact as
  have tests:∀(oj:Bool->Shared->Prop) (r0:Value->Shared->Prop),(∀gg e4,Ext cG B s2 gg e4->aM aj gg e4.heap->oj q e4)->aS bq A (forIn ifs true fun c r=>if r=true then do let ok <- C7 c env (eval c env);pure (IQ ok) else pure (IQ r)) oj r0 s2:=by
   intro oj r0 vC;rcases ifs with V |⟨Y9,V |⟨bd,jO⟩⟩
   ·have E7:cond=.const (.bool true):=Y4 Q;subst E7
    replace M:=tF M
    refine bt M fun el a5=>?_;subst el a5;cases xM;exact wpAny_tests_nil (vC B s2 (Ext.refl _ _) bX)
   ·exact wpAny_tests_one (d1 nm ac Y9 env aN Y B s2 A _ _ Q bp bX aD (fk.mk M xM vC))
   ·cases Q
  refine tests _ _ fun gg e4 bo iO=>?_;have x9:=x8.eval W bo iO;have x':=vB.trans bo.weaken;rcases Y6 with⟨rfl,v,a7,E8,a0,E9,rfl⟩ |⟨rfl,E9⟩
  ·refine d6 nm ac e' env m aN aj gg e4 A _ _ E6 x9.fr iO aD (cw.mk a0 fun pu mr y dX nd Za=>?_);have Zb:=x9.eval W dX nd;have Zc:=x'.trans dX.weaken;have Zd:done.length<=1000000:=by rw[<- N]at G;simp at G;exact aka G
   refine Zb.push F W Za Zd fun aO Ze jP=>?_;refine⟨l.length-(i+1),(Dr f),i+1,pu,a7,done++[v],E8,(Ag f),rfl,Ze.sub back,Zc.trans (jP.mono fun a ai=>.inr (.inl ai)),E9,by simpa using N⟩
  ·exact⟨l.length-(i+1),(Dr f),i+1,gg,aj,done,rest,(Ag f),rfl,x9.sub back,x',E9,N⟩
inductive Nb (nm:cA)(ac:dI)(elt it cond:bE)(t:dq)(e:Expr):Prop
 |mk (e' bQ it':Expr) (ifs:List Expr) (sc:Scope) (pos:Pos) (an1:e=.ListComp e' [⟨bQ,it',ifs,0⟩] sc pos) (O:bn it nm ac it'=true) (ag:tM nm ac bQ sc) (av:((jH ac t bQ).map ju).Nodup) (aO:kR (jG nm sc.names) (jH ac t bQ) t bQ=true) (cy:bn elt (jG nm sc.names) (jH ac t bQ) e'=true) (dY:AL (u9 cond) (bn cond (jG nm sc.names) (jH ac t bQ)) ifs=true):Nb nm ac elt it cond t e
theorem Nc(ae:bn (.comp elt t it cond) nm ac e=true):Nb nm ac elt it cond t e:=by
 obtain⟨e',c,sc,pos,rfl⟩:=Wj ae;rcases c with V |⟨⟨bQ,a,ifs,d⟩,V |⟨cc,gs⟩⟩
 ·exact dk (show false=true from ae) f6
 ·have ae:LN nm ac t sc ⟨bQ,a,ifs,d⟩ (bn it nm ac a) (bn elt (jG nm sc.names) (jH ac t bQ) e') (bn cond (jG nm sc.names) (jH ac t bQ)) (u9 cond)=true:=ae;refine Jj ae fun b O f g h i j=>?_;have b:=ct b;subst b;exact⟨e',bQ,a,ifs,sc,pos,rfl,O,YM f,ct g,h,i,j⟩
 ·exact dk (show false=true from ae) f6
structure E' (g:bS)(s:Shared)(au:ah)(vs:List an2)(D L:Addr)(g':bS)(s':Shared):Prop where
 ext:Ext cG g s g' s'
 rel:aM au g' s'.heap
 newD:s.heap.get? D=none
 iv:D∉g'.aL/\¬g'.bD D
 acc:∃aP,mZ s'.heap D aP/\an6 g' s'.heap vs aP.toList
 ns:∃m,s'.heap.Ns L m
 tP:s.heap.get? L=none
 d7:L∉g'.aL/\¬g'.bD L
 vA:L≠D
theorem E'.letGo{au:ah}{D L:Addr}(x:E' g s au vs D L g' s'){h':Heap}(c:Heap.SameBut L s'.heap h') :
  Ext cG g s g' {s' with heap:=h'}/\aM au g' h'/\mj g' h' (.list vs) D:=by
 have a:∀b o,b≠L->s'.heap.get? b=some o->h'.get? b=some o:=fun b o d e=>by rw[c.2 b d];exact e
 have kept:gD g' s'.heap h':=.tA a x.d7;obtain⟨aP,⟨n,f⟩,h⟩:=x.acc;exact⟨x.ext.after (tk:=s'.toks) a x.tP,x.rel.kept kept,aP,⟨n,a _ _ (eD x.vA) f⟩,lD kept h⟩
theorem get?_le{h:Heap}{a:Addr}(b:h.objs.size<=a):h.get? a=none:=by
 cases c:h.get? a with
 |none=>rfl
 |some o=>exact dk (j8 c) (gq.mpr b)
theorem Nd{I:Nat}(h:b<I)(k:Nat):b≠I+k:=(gV (an9 h (bO _ _)))
theorem Nf(I:Nat){j k:Nat}(h:j≠k):I+j≠I+k:=(fun q=>h (uI q))
theorem Ng(I:Nat){k:Nat}(h:k≠0):I≠I+k:=(fun q=>h (uI q.symm))
theorem Nh{I:Nat}(h:b=I\/b<I)(k:Nat)(a:k≠0):b≠I+k:=(fun q=>h.elim (fun r=>a (uI (q.symm.trans r))) fun r=>gq.mpr (bO _ _) (q▸r))
theorem vD{I:Nat}(h:I+3<=b)(k:Nat)(a:k<3):b≠I+k:=(fun e=>ff (aG (aG h a) (bx e)) (by simp +arith))
theorem b8.off(F:b8 nm ac env ρ g h):dZ (e2 env) g:=fun b a=>by
 rcases a with rfl |⟨x,c⟩
 ·exact F.d7
 ·exact F.gE x b c
theorem Bl(aK:aM σ g h)(aY:b8 nm ac env ρ g h){v:an2}{b:Addr}(m:a9 g h v (.ref b)){L:Addr->Prop}(o:∀i,v=.ref i->g.aL[i]?=some b->L b):¬e2 env b/\Fast (g.cP L) h b:=by
 have s:=bU.un m;have fin:∀{ob},g.bD b->h.get? b=some ob->¬e2 env b/\Fast (g.cP L) h b:=fun h0 e=>⟨fun q=>(aY.off b q).2 h0,_,e,.inl ⟨fun d=>aK.rel.fz _ d h0,.inl h0⟩⟩;cases v with
 |none=>exact nomatch (show IF b=.none from s)
 |bool b'=>exact nomatch (show IF b=.bool b' from s)
 |int i=>exact bK s fun t e=>nomatch e
 |str i=>exact bK s fun t e=>nomatch e
 |tup l=>exact i5 s fun a vs e h0 c V=>by cases e;obtain⟨n,e⟩:=c;exact fin h0 e
 |lst l=>exact i5 s fun a vs e h0 c V=>by cases e;obtain⟨n,e⟩:=c;exact fin h0 e
 |ba l=>exact s5 s fun a vs e h0 V c V=>by cases e;obtain⟨ob,V,V,e,V⟩:=c;exact fin h0 e
 |eP lo hi=>exact fS s fun a e h0 c=>by cases e;obtain⟨V,V,V,V,V,e⟩:=c;exact fin h0 e
 |ref j=>
  refine aw s fun a p f=>?_;cases p;have d:=ik f;refine⟨fun q=>(aY.off b q).1 d,?_⟩;cases k:h.get? b with
  |none=>exact dk d (aK.fresh k).1
  |some ob=>exact⟨ob,k,.inr (o j rfl f)⟩
 |undef=>exact s.elim
variable {v:an2}
theorem Ni{h:Expr}{aj a7:ah}{RR:Value->Addr->Result->Shared->Prop}
  (cr:ci c d it) (d6:ci c d elt) (d1:h4 c d cond) (aD:eG A d) (F:b8 nm ac env ρ g s.heap) (R:aM σ g s.heap)
  (Fa:bn it nm ac h=true) (ok:tM nm ac bQ sc) (kW:((jH ac t bQ).map ju).Nodup) (H:kR (jG nm sc.names) (jH ac t bQ) t bQ=true) (E6:bn elt (jG nm sc.names) (jH ac t bQ) e'=true)
  (an:AL (u9 cond) (bn cond (jG nm sc.names) (jH ac t bQ)) ifs=true)
  (bv:bk c it 0 ρ σ=.ok v aj) (hi:de aj v=some l) (dv:gc (bk c cond 0) (bk c elt m) t (kill (ip t) ρ) l (bG aj v true)=.ok vs a7) (J:vs.length<=1000000)
  (Zf:∀D L g' s',E' g s (bG a7 v (c' aj v)) vs D L g' s'->RR (.ref D) L (.ok .next) s') :
  aS bq A (eval h env) (fun x K=>aS bq A (C3 x) (fun it M=>aS bq A (newList []) (fun acc mq=>
   aS bq A (Tq sc env.globals (ez env sc.names []) [] env.qual none .none (some env)) (fun n Bg=>
    sX bq A (.compStart (.ListComp e' [⟨bQ,h,ifs,0⟩] sc pos) 0 it acc {n with scope:=relabel sc env}) (RR acc n.locals) Bg) E mq) E M) E K) E s:=by
 have Zg:=YL H;refine cr nm ac h env 0 ρ σ g s A _ _ Fa F R aD (cw.mk bv fun aB s1 x S aK v1=>?_);have aY:=F.ext R S;refine A0 aD.hand aK v1 hi fun o fp P bh W st oc cq je=>?_;refine S5 ?_ (by simp);generalize p:s1.heap.objs.size=I at *
 have tQ:(s1.heap.push o).objs.size=I+1:=by rw[sW,p]
 show aS _ _ _ _ _ {s1 with heap:=(s1.heap.push o).push {cls:=.type "list",data:=.seq ([]:List Value).toArray}};refine YU ?_;have mu:((s1.heap.push o).push {cls:=.type "list",data:=.seq ([]:List Value).toArray}).objs.size=I+2:=by rw[sW,tQ]
 have Zh:(((s1.heap.push o).push {cls:=.type "list",data:=.seq ([]:List Value).toArray}).push {cls:=.type "dict",data:=.dict #[]}).objs.size=I+3:=by rw[sW,mu]
 have N:=alf sc.names (((s1.heap.push o).push {cls:=.type "list",data:=.seq ([]:List Value).toArray}).push {cls:=.type "dict",data:=.dict #[]});have Fb:=(Heap.Ns.new ((s1.heap.push o).push {cls:=.type "list",data:=.seq ([]:List Value).toArray}) (.type "dict")).keeps N;have Nj:∀y f,(gZ (I+2+1) sc.names (ez env sc.names [])).lookup y=some f->(ez env sc.names []).lookup y=some f\/(De (((s1.heap.push o).push {cls:=.type "list",data:=.seq ([]:List Value).toArray}).push {cls:=.type "dict",data:=.dict #[]}) sc.names).IsCell f none:=fun y f ae=>by
  rw[<- Zh]at ae;exact YS ae
 simp only[tQ,mu]at Fb ⊢;generalize a0:De (((s1.heap.push o).push {cls:=.type "list",data:=.seq ([]:List Value).toArray}).push {cls:=.type "dict",data:=.dict #[]}) sc.names=av at N Fb Nj ⊢;have fM:av.Ns (I+2) (fun V=>none):=Fb;have k1:∀b ob,s1.heap.get? b=some ob->av.get? b=some ob:=fun b ob e=>N b ob (gw _ (gw _ (gw _ e)));have Zi:av.get? (I+1)=some {cls:=.type "list",data:=.seq #[]}:=by
  refine N _ _ (gw _ ?_);rw[<- tQ];exact jv _ rfl
 have T:∀b ob,(s1.heap.push o).get? b=some ob->av.get? b=some ob:=fun b ob e=>N _ _ (gw _ (gw _ e));have h7:I∉aB.aL/\¬aB.bD I:=aK.fresh (p▸get?_size _);have iv:I+1∉aB.aL/\¬aB.bD (I+1):=aK.fresh (get?_le (IS (congrFun (dt alh p) 1)));have d7:I+2∉aB.aL/\¬aB.bD (I+2):=aK.fresh (get?_le (IS (congrFun (dt alh p) 2)));have kept:gD aB s1.heap av:=.ge k1;have nd:aM aj aB av:=aK.kept kept;have jf:aM (bG aj v true) (aB.cP (an8 aB v)) av:=Bb nd (Ba hi);have vE:b8 nm ac env ρ (aB.cP (an8 aB v)) av:=by
  have e:Ext cG aB s1 aB {s1 with heap:=av}:=Ext.all (tk:=s1.toks) k1;have j:=aY.ext aK e;exact⟨j.kind,j.names,j.glob,j.blt,j.inj,by obtain⟨m,dE,d0⟩:=j.ns;exact⟨m,dE,fun x i v w B aI aT=>by obtain⟨y,a8,bR⟩:=d0 x i v w B aI aT;exact⟨y,a8,tJ bR⟩⟩,
   fun x i w B=>by obtain⟨f,ob,a8,bR,ap⟩:=j.cl x i w B;exact⟨f,ob,a8,bR,fun v aI aT=>by obtain⟨y,bu,br⟩:=ap v aI aT;exact⟨y,bu,tJ br⟩⟩,j.d7,j.gE,j.g4,j.apart⟩
 have Nk:∀b∈fp,b=I\/x=.ref b:=oc;have yb:∀b,x=.ref b->Fast (aB.cP (an8 aB v)) s1.heap b:=by
  rintro b rfl;exact(Bl aK aY v1 fun i aq hi=>.inr ⟨i,aq,hi⟩).2
 have Zj:∀b,x=.ref b->b<I:=fun b ab=>by obtain⟨ob,e,V⟩:=yb b ab;rw[<- p];exact j8 e
 have U:∀b∈fp,b=I\/b<I:=fun b ab=>(Nk b ab).imp id (Zj b);have Bo:∀y f,(ez env sc.names []).lookup y=some f->f<I:=fun y f ae=>by
  have C:=tL _ [] (aY.qv ok) (fun V V q=>(dS q)) y f ae;obtain⟨V,ob,e,V⟩:=aY.g4 y f C;rw[<- p];exact j8 e
 have r:∀b,I+3<=b->b∉aB.aL/\¬aB.bD b:=fun b ab=>aK.fresh (get?_le (by rw[p];exact ax (bO I 3) ab));have vy:∀y f,(ez env sc.names []).lookup y=some f->f<I+3:=fun y f ae=>an9 (Bo y f ae) (bO I 3);have Zk:=vE.comp (t:=t) ok kW Zg fM d7 (n0:=I+3) vy r (fun y f ae as=>(Nj y f ae).elim (fun q=>dk (vy y f q) (gq.mpr as)) id);have Fa:∀y f,(gZ (I+3) sc.names (ez env sc.names [])).lookup y=some f->f<I\/I+3<=f:=fun y f ae=>(x4 ae).imp (Bo y f) (·.2);have cQ:tO (fun b=>I+3<=b/\∃x,(gZ (I+3) sc.names (ez env sc.names [])).lookup x=some b) (I+2) (I+1) I fp (Tr sc (gZ (I+3) sc.names (ez env sc.names [])) (I+2) env):=
  ⟨rfl,eD (Ng I (by decide)),Nf I (by decide),eD (Ng I (by decide)),fun X=>Nh (U _ X) 2 (by decide) rfl,fun X=>Nh (U _ X) 1 (by decide) rfl,fun y f ae=>(Fa y f ae).elim (fun q=>⟨gV q,Nd q 1,Nd q 2⟩) fun q=>⟨vD q 0 (by decide),vD q 1 (by decide),vD q 2 (by decide)⟩,fun b ab=>⟨vD ab.1 0 (by decide),vD ab.1 1 (by decide),fun q=>(U b q).elim (vD ab.1 0 (by decide)) fun e=>dk (ax (bO I 3) ab.1) (Nat.not_le.mpr e),ab.2⟩⟩
 have Nl:∃ob,(s1.heap.push o).get? I=some ob/\kS ob=false:=by obtain⟨ob,V,q,V,V,Q⟩:=je 0 _ st;exact⟨ob,q,Q⟩
 have Nm:bh 0 av:=W.frame 0 _ _ st fun b ab ob e=>by
  rcases U b ab with rfl|hlt
  ·exact T _ ob e
  ·exact T b ob e
 have oi:jc (I+2) (I+1) I fp bh (jG nm sc.names) (jH ac t bQ) (Tr sc (gZ (I+3) sc.names (ez env sc.names [])) (I+2) env) (kill (ip t) ρ) 0 [] (bG aj v true) (aB.cP (an8 aB v)) {s1 with heap:=av,toks:=s1.toks}:=
  ⟨jf,Zk,Nm,⟨#[],⟨0,Zi⟩,.nil⟩,h7,iv,by obtain⟨ob,q,Q⟩:=Nl;exact⟨ob,T _ ob q,Q⟩,fun b ab=>by
   rcases Nk b ab with rfl|hx
   ·obtain⟨ob,q,Q⟩:=Nl;exact⟨ob,T _ ob q,.inl ⟨h7.1,.inr Q⟩⟩
   ·exact(yb b hx).but fun ob az=>k1 b ob az⟩
 have yc:dZ (rZ (fun b=>I+3<=b/\∃x,(gZ (I+3) sc.names (ez env sc.names [])).lookup x=some b) (I+2) (I+1) I) (aB.cP (an8 aB v)):=fun b ab=>by
  rcases ab with rfl|rfl|rfl|ab
  ·exact h7
  ·exact iv
  ·exact d7
  ·exact r b ab.1
 have loop:=Y5 (m:=m) (sc:=sc) (pos:=pos) (iter:=h) (vs:=vs) (σE:=a7) (R:=RR (.ref (I+1)) (I+2)) d6 d1 aD cQ W je E6 an H (fun y aQ ae f fW=>?_) (fun i v w B=>(x3 w B).1) jf (fun i z u C O=>tJ (iN kept (cq i z u C O))) yc J ?_ l.length 0 _ _ _ [] vs (d4 _) rfl oi (Ext.refl _ _) dv rfl
 ·exact codeAny_compStart_list loop (W.self 0 _ _ _ Nm loop)
 ·refine⟨?_,y,fW⟩;rw[Be]at ae;obtain⟨k,k1,df⟩:=dh.mp ae;have X:=pt k1;rcases x4 (show (gZ (I+3) sc.names (ez env sc.names [])).lookup y=some f from fW) with e |⟨V,e⟩
  ·have hf:=YN e;exact dk aQ (ok.free y hf).1
  ·exact e
 ·intro Y sn h' tk yd cb Zl Zm ye aa;have Z:∀a,rZ (fun b=>I+3<=b/\∃x,(gZ (I+3) sc.names (ez env sc.names [])).lookup x=some b) (I+2) (I+1) I a->s1.heap.get? a=none:=fun a G=>get?_le (p▸G.elim (fun e=>e▸cu _) fun G=>G.elim (fun e=>e▸bO I 1) fun G=>G.elim (fun e=>e▸bO I 2) fun G=>ax (bO I 3) G.1);have aG:Ext cG (aB.cP (an8 aB v)) s1 Y sn:=Ext.drop (Ext.all (tk:=s1.toks) k1) ye Z;have eH:Ext cG (aB.cP (an8 aB v)) s1 Y {sn with heap:=h',toks:=tk}:=aG.after aa (Z _ (.inl rfl));have pv:Ext cG aB s1 (Y.cP aB.lk) {sn with heap:=h',toks:=tk}:=eH.tK fun b ab=>.inl ab;have Fc:∀i,v=.ref i->∃a,aB.aL[i]?=some a:=by
   rintro i rfl;exact(gL v1).imp fun a q=>q.2
  refine Zf (I+1) (I+2) (Y.cP aB.lk) _ ⟨S.trans pv,Bc aK yd eH.pre eH.lock Fc (Ba hi),xH S.live (Z _ (.inr (.inl rfl))),Zm,?_,?_,xH S.live (Z _ (.inr (.inr (.inl rfl)))),cb.d7,Nf I (by decide)⟩
  ·obtain⟨aP,w,B⟩:=Zl;exact⟨aP,w,x2 B⟩
  ·obtain⟨m',dE,V⟩:=cb.ns;exact⟨m',dE⟩
theorem Zn(ae:bn (.rG a lo) nm ac e=true):∃v l b pos,e=.Subscript v (.Slice (some l) none none b) pos/\bn a nm ac v=true/\bn lo nm ac l=true:=by
 refine d5 (tv ae) fun v g pos d=>?_;subst d;refine o3 (L4 ae) fun l u st b f=>?_;subst f;rcases l with V|l<;>rcases u with V|u<;>rcases st with V|st<;>try (exact dk (show false=true from ae) f6)
 refine bt (h5 (show (bn a nm ac v&&bn lo nm ac l)=true from ae)) fun c O=>?_;exact⟨v,l,b,pos,rfl,c,O⟩
variable {x:Value}
theorem Fd{i:Nat}(e:Az v=some i)(b:a9 g h v x):∃t,x=.int (i:Int) t:=by
 refine aw (n6 (fun o=>o=some i) (fun q=>dS q) e) fun k a O=>?_;refine bK (m1 a b) fun t c=>?_;subst c;split at O
 ·rename_i d;cases O;exact⟨t,by rw[zJ d.1]⟩
 ·cases O
theorem Zo(p:ci c d a)(f:ci c d lo):ci c d (.rG a lo):=by
 intro nm ac e env m ρ σ g s A Q E ae F R j b;refine Jp (Zn ae) fun v l B pos q h O=>?_;subst q;refine bZ b.dD fun x aj bv b=>?_;refine bZ b.dD fun y C r b=>?_;refine Subscript_ (p nm ac v env 0 ρ σ g s A _ _ h F R j (cw.mk bv fun aB s1 D k aK u=>?_));refine wpAny_Slice (show aS _ _ (eval l env) _ _ _ from f nm ac l env 0 ρ aj aB s1 A _ _ O (F.ext R k) aK j (cw.mk r fun cc G H n o w=>?_));refine aw ((tB (m:=m) (E:=E) (b.shift (k.trans n))).bind) fun i hi b=>?_;refine bK (Fd hi w) fun t z=>?_;subst z;refine cn (cn ?_);refine aw b.bind fun l f b=>?_;exact XH o (vi f▸km o (h2 aK n dZ.none u)) b
theorem Zp(ae:bn (.rH a lo hi) nm ac e=true):∃v l u b pos,e=.Subscript v (.Slice (some l) (some u) none b) pos/\bn a nm ac v=true/\bn lo nm ac l=true/\bn hi nm ac u=true:=by
 refine d5 (tv ae) fun v h pos d=>?_;subst d;refine o3 (L4 ae) fun l u st b f=>?_;subst f;rcases l with V|l<;>rcases u with V|u<;>rcases st with V|st<;>try (exact dk (show false=true from ae) f6)
 refine im (show (bn a nm ac v&&bn lo nm ac l&&bn hi nm ac u)=true from ae) fun c O g=>?_;exact⟨v,l,u,b,pos,rfl,c,O,g⟩
theorem Zq(w:ci c d a)(f:ci c d lo)(B:ci c d hi):ci c d (.rH a lo hi):=by
 intro nm ac e env m ρ σ g s A Q E ae F R h b;refine Jq (Zp ae) fun v l u S pos C k O D=>?_;subst C;refine bZ b.dD fun x aj bv b=>?_;refine bZ b.dD fun y G H b=>?_;refine bZ b.dD fun z T I b=>?_;refine Subscript_ (w nm ac v env 0 ρ σ g s A _ _ k F R h (cw.mk bv fun aB s1 U n aK J=>?_));refine wpAny_Slice (show aS _ _ (eval l env) _ _ _ from f nm ac l env 0 ρ aj aB s1 A _ _ O (F.ext R n) aK h (cw.mk H fun cc K V o L M=>?_));refine(show aS _ _ (eval u env) _ _ _ from B nm ac u env 0 ρ G cc K A _ _ D ((F.ext R n).ext aK o) L h (cw.mk I fun W X Y q r N=>?_));refine aw ((tB (m:=m) (E:=E) (b.shift ((n.trans o).trans q))).bind) fun i hi b=>?_;refine aw b.bind fun j P b=>?_;refine bK (Fd hi M) fun t p=>?_;subst p;refine bK (Fd P N) fun Z p=>?_;subst p;refine cn ?_;refine aw b.bind fun l f b=>?_;exact XG r (AW f▸km r (h2 aK (o.trans q) dZ.none J)) b
variable {k:Str}
theorem Zs{i d:Nat}{l:List (Str×an2)}(h:l9 σ i=some (k,d,l)):σ[i]?=some (.inst k d)/\σ[d]?=some (.ns l):=by
 unfold l9 at h;cases b:σ[i]? with
 |none=>rw[b]at h;cases h
 |some o=>
  rw[b]at h;cases o with
  |inst e c=>
   refine aw (dh.mp (show (aoN σ c).map (fun l=>(e,c,l))=some (k,d,l) from h)) fun f a O=>?_;cases O;refine⟨rfl,?_⟩;unfold aoN at a;cases hn:σ[d]? with
   |none=>rw[hn]at a;cases a
   |some o=>rw[hn]at a;cases o<;>cases a;rfl
  |_=>cases h
inductive Nn (σ:ah)(g:bS)(h:Heap)(v:an2)(x:Value)(k:Str)(d:Nat)(l:List (Str×an2)):Prop
 |mk (i:Nat) (a dx:Addr) (I:lB) (m:Str->Option Value) (ak:v=.ref i) (ar:x=.ref a) (ay:σ[i]?=some (.inst k d)) (az:σ[d]?=some (.ns l)) (bA:g.aL[i]?=some a) (an7:g.aL[d]?=some dx) (hL:C.cls k=some I) (r1:L7 h a I.C dx) (vF:h.Ns1 dx m) (r2:n1 C.prog C.w g h l m) (tR:h.Inst a I.C m) (vG:¬g.lk a) (vH:¬g.lk dx):Nn σ g h v x k d l
theorem Fe(R:aM σ g h){v:an2}{x:Value}{k:Str}{d:Nat}{l:List (Str×an2)}(r:a9 g h v x)(f:th σ v=some (k,d,l)) :
  Nn σ g h v x k d l:=by
 refine aw (n6 (fun o=>o=some (k,d,l)) (fun q=>dS q) f) fun i e f=>?_;refine bt (Zs f) fun b O=>?_;have n:=r;rw[vj e]at n;obtain⟨a,rfl,hi⟩:=gL n;obtain⟨s,I,j,ay,az,p⟩:=R.rel.objs i _ a b hi;obtain⟨t,m,c,u⟩:=R.rel.objs d _ j O az;refine⟨i,a,j,I,m,vj e,rfl,b,O,hi,az,ay,p,c,u,?_,s,t⟩;obtain⟨o,w,y,z,A,B⟩:=p;exact⟨o,w,y,z,.inr ⟨j,A,B,c⟩⟩
theorem Zu(a:a9 g h v x):handedOut x=pure x:=bU.WB (M:=fun x=>handedOut x=pure x) a rfl (fun V=>rfl) (fun V V=>rfl) (fun V V=>rfl) fun V=>rfl
theorem Zv{x:Str}(ae:bn (.attr a x) nm ac e=true):∃v pos,e=.Attribute v x pos/\nY v=true/\bn a nm ac v=true:=by
 refine d5 (xG ae) fun v y pos c=>?_;subst c;refine im (show (y==x&&nY v&&bn a nm ac v)=true from ae) fun b O d=>?_;have b:y=x:=by simpa using b
 subst b;exact⟨v,pos,rfl,O,d⟩
theorem Zw(X:jN c d){a:bE}{x:Str}(r:ci c d a):ci c d (.attr a x):=by
 intro nm ac e env m ρ σ g s A Q E ae F R t b;refine db (Zv ae) fun v pos w f O=>?_;subst w;refine bZ b.dD fun u aj bv b=>?_;refine aw (MP b) fun y j B=>?_;clear b;refine Attribute_any_ (r nm ac v env 0 ρ σ g s A _ _ O F R t (cw.mk bv fun aB s1 N C aK D=>?_)) ?_
 ·obtain⟨⟨k,dd,l⟩,hi,h⟩:=n6 (fun o=>o=some y) (fun q=>dS q) j;clear j;split at h
  ·rename_i n;obtain⟨i,P,S,I,T,rfl,rfl,ay,az,U,G,H,V,W,J,K,Y,Z⟩:=Fe aK D hi;have ok:=X.cls k I H;refine aw ((J x).1 y h) fun z L p=>?_;obtain⟨tD,k2,dr,tk,os⟩:=s1;obtain⟨Fg,q,bs,sn,sub,col,Fh,eT,k1,df,iu,px,M⟩:=(ok.cls.keeps aK.rel.base).obj;exact load_attr M (ok.cls.keeps aK.rel.base).ns ok.L' (ok.quiet x n) (X.dc x n) K L (Zu p) (B aB _ z C.toks aK p)
  ·cases h
 ·rw[arm_eval_Attribute,MU f]
theorem Zy{o:Expr}{name:Str}{b:Pos}{args:List Expr}
  (l:Ti o name env (eval o env)=eval o env)
  (c:((hl pos (gy args env)).all (fun x=>!x.1)&&(IT pos (IU [] env)).all (fun x=>x.1.isSome)
   && decide (args.length+([]:List Keyword).length+(if ([]:List Keyword).isEmpty then 0 else 1)<30))=true)
  (d:(b.endLine==pos.line)=true)
  (h:aS bq A (eval o env) (fun i a=>∃f first,(∀(pz:Sem Bool) (j:Value×List Value->Shared->Prop),j (f,first) a->aS bq A (getMethod i name pz) j E a)/\aS bq A (zZ pos f first (hl pos (gy args env)) []) Q E a) E s) :
  aS bq A (eval (.Call (.Attribute o name b) args [] pos) env) Q E s:=by
 rw[arm_eval_Call,l];refine a6 (nO h (fun i a h₁=>?_) fun V V e=>e);refine a3 fun k=>?_;refine bZ h₁ fun f first g ae=>?_
 refine k ?_;clear k;refine a6 (lZ ?_)
 first
  |(
    have m:ali (args.length+([]:List Keyword).length) (hl pos (gy args env)) (IT pos (IU [] env))=true:=c;have n:Ts true o env b pos=pure pos:=by unfold Ts;simp[d]
    unfold methodCall;rw[m];refine a6 (j9 (g _ _ ?_));exact a6 (wpAny_of_eq n ae))
  |(
    unfold methodCall calleeOf Ts ali;simp only[c,d,if_true,IV,alj];refine a6 (j9 (g _ _ ?_));exact a6 (cn ae))
  |(
    simp only[c,d,if_true,IV,alj];refine a6 (j9 (g _ _ ?_));exact a6 (cn ae))
inductive Np (nm:cA)(ac:dI)(o:bE)(x:Str)(args:c4)(e:Expr):Prop
 |mk (o':Expr) (apos:Pos) (as:List Expr) (pos:Pos) (an1:e=.Call (.Attribute o' x apos) as [] pos) (O:(nY o'||tq o')=true) (ag:(apos.endLine==pos.line)=true) (av:as.length<20) (aO:bn o nm ac o'=true) (cy:fj args nm ac as=true):Np nm ac o x args e
variable {args:c4}
theorem ZA{o:bE}{x:Str}(ae:bn (.kL o x args) nm ac e=true):Np nm ac o x args e:=by
 refine a3 fun f=>?_;refine d5 (nZ ae) fun fe as pos d=>?_;subst d;refine d5 (xG ae) fun c name a d=>?_;subst d;have ae:(name==x&&(nY c||tq c)&&a.endLine==pos.line&&decide (as.length<20)&&bn o nm ac c&&fj args nm ac as)=true:=ae;refine Dp ae fun b O g h i j=>?_;refine f ?_;clear f;have b:name=x:=by simpa using b
 subst b;exact⟨c,a,as,pos,rfl,O,g,ct h,i,j⟩
theorem ZB{as:List Expr}(a:(hl pos (gy as env)).any (·.1)=false)(b:as.length<20) :
  ((hl pos (gy as env)).all (fun x=>!x.1)&&(IT pos (IU [] env)).all (fun x=>x.1.isSome)&&decide (as.length+([]:List Keyword).length+(if ([]:List Keyword).isEmpty then 0 else 1)<30))=true:=by
 have:(hl pos (gy as env)).all (fun x=>!x.1)=true:=by
  rw[oZ];intro y c;rw[Tj]at a;simpa using a y c
 rw[this];simp only[ald];show (true&&decide (as.length+0+0<30))=true;simp;exact Jw b
theorem ZC{o:Option Str}{f:Str->be an2}(a:cw own g s (DU o f) Q E):∃k,o=some k/\cw own g s (f k) Q E:=by
 cases o with
 |none=>exact a.elim
 |some v=>exact⟨v,rfl,a⟩
theorem ZD(X:jN c d){o:bE}{x:Str}{args:c4}(M:ci c d o)(h:m7 c d args):ci c d (.kL o x args):=by
 intro nm ac e env Yv ρ σ g s A Q E ae F R n j;refine a3 fun b=>?_;obtain⟨N,w,as,pos,rfl,p,O,P,S,r⟩:=ZA ae;refine bZ j.dD fun v aj bv j=>?_;refine aw (ZC j) fun z B j=>?_;refine bZ j.dD fun vs m T j=>?_;refine b ?_;clear b;have U:=xW (env:=env) args as (pos:=pos) r;refine Zy (MV p) (ZB U P) O (M nm ac N env 0 ρ σ g s A _ _ S F R n (cw.mk bv fun aB s1 vx C aK D=>?_));refine a3 fun b=>?_;obtain⟨⟨k,dd,l⟩,hi,G⟩:=n6 (fun o=>o=some z) (fun q=>dS q) B;refine b ?_;clear b;clear B;have t:(if (cp l x).isNone=true then some (fy k x) else none)=some z:=G;clear G;split at t
 ·rename_i V;cases t;refine a3 fun b=>?_;obtain⟨i,a,dx,I,mm,rfl,rfl,ay,az,bA,W,u,r1,vF,Y,Z,vG,vH⟩:=Fe aK D hi;refine b ?_;clear b;have ok:=X.cls k I u;have m9:c.hA (fy k x) (.ref i::vs) m≠.bad:=fun q=>by
   have j:cw cG g s (c.hA (fy k x) (.ref i::vs) m) Q E:=j;rw[q]at j;exact j
  refine a3 fun b=>?_;refine Dq (X.MN k I x (.ref i::vs) m u m9) fun f om fd y H J qu vJ Br=>?_;refine b ?_;clear b;refine⟨.ref f,[.ref a],fun pz oj vC=>?_,?_⟩
  ·refine a3 fun b=>?_;obtain⟨tD,k2,dr,tk,os⟩:=s1;obtain⟨Fg,q,bs,sn,sub,col,Fh,eT,k1,df,iu,px,lG⟩:=(ok.cls.keeps aK.rel.base).obj;refine b ?_;clear b;exact method_of lG (ok.cls.keeps aK.rel.base).ns ok.L' ok.Ws H (aK.rel.base _ _ J) qu Br Z ((Y x).2 (by simpa using V)) vC
  ·refine ak9 (o:=om) (fd:=fd) (tI r (h nm ac as env 0 ρ aj aB s1 A pos _ _ r (F.ext R C) aK n (m6.mk T fun cc s2 xs K L v2=>⟨⟨L.rel.base f om J,vJ⟩,?_⟩)));exact X.XJ k I x f (.ref i::vs) (.ref a::xs) m cc s2 A Q E u H n L (.cons (h2 aK K dZ.none D) v2) (j.shift (C.trans K)).EQ
 ·cases t
theorem ZE{h₀:Heap}{k3 N:Addr}{i:Str->Option Value}{args:List (Bool×Sem Value)}(X:ClsAt h₀ k3 N i)(j:args.any (fun x=>x.fst)=false)
  (h:aS bq A (Tg (.ref k3) true args []) (fun as a=>as.kw=[]/\(∀b o,h₀.get? b=some o->a.heap.get? b=some o)/\aS bq A (call (.ref k3) as.pos) Q E a) E s) :
  aS bq A (zZ pos (.ref k3) [] args []) Q E s:=by
 have k:(args.any (fun x=>x.fst)||([]:List (Option Str×Sem Value)).any fun x=>x.fst.isNone)=false:=by rw[j];rfl
 unfold zZ;refine a6 (j9 (nO h (fun as a h₁=>?_) fun V V x=>x));refine a3 fun c=>?_;refine mV h₁ fun e l ae=>?_;obtain⟨vs,m⟩:=as;refine c ?_;clear c;cases (show m=[] from e);refine a3 fun c=>?_;obtain⟨n,g,d,t,os⟩:=a;obtain⟨nm,q,u,v,sub,col,dd,eT,k1,w,y,z,f⟩:=(X.keeps l).obj;refine c ?_;clear c;have B:=tc_lookup;have C:(⟨n,g,d,t,os⟩:Shared).TypeIs (.ref k3) "type":=⟨_,f,rfl⟩;refine a6 (lZ ?_);show aS _ _ (keeperOf (.ref k3) >>= _) _ _ _;unfold keeperOf specialOf
 repeat (any_goals (first | assumption | with_reducible refine wpAny_loadPart_at f ?_ | with_reducible refine wpAny_load' f ?_ | wp_step))
 rw[bl (by rfl),k];show aS _ _ (call (.ref k3) vs [] >>= fun r=>do zW [r] point;pure r) _ _ _;exact a6 (nO ae (fun r s' p=>a6 (j9 (wpAny_point (cn p)))) fun V V x=>x)
theorem ZF(ae:bn (.new k args) nm ac e=true):∃p as pos,e=.Call (.Name k p) as [] pos/\hZ (nm.lookup k)=true/\gA k=true/\fj args nm ac as=true:=by
 refine a3 fun b=>?_;refine d5 (nZ ae) fun fe as pos c=>?_;subst c;refine hv (jI ae) fun x p d=>?_;subst d;refine uT (show (x==k&&hZ (nm.lookup x)&&gA x&&fj args nm ac as)=true from ae) fun a O f g=>?_;refine b ?_;clear b;have a:x=k:=by simpa using a
 subst a;exact⟨p,as,pos,rfl,O,f,g⟩
theorem ZG(R:aM σ g h){x a:Addr}{k:Str}{I:lB}(m:C.cls k=some I)(c:Heap.MadeObj h h' x a I.C) :
  aM (σ++[.ns []]++[.inst k σ.length]) ((g.fA a).fA x) h'/\((g.fA a).fA x).aL[σ.length+1]?=some x:=by
 refine a3 fun i=>?_;obtain⟨o,j,n,p,r⟩:=c.inst;refine i ?_;clear i;have d:=c.dict o j;obtain⟨l,fM⟩:a≠x/\h'.Ns1 a fun V=>none:=by
  rcases r with⟨s,V⟩ |⟨A,t,u,w⟩
  ·rw[s]at d;cases d
  ·cases t.symm.trans d;exact⟨u,w⟩
 have aK:aM σ g h':=R.kept (.ge c.keeps);have fd:=R.fresh c.newD;have f:=R.fresh c.newX;have y:aM (σ++[.ns []]) (g.fA a) h':=aK.fA fd.1 fd.2 ⟨fun q=>fd.1 (R.rel.iq _ q),_,fM,fun k=>⟨fun v e=>(dS e),fun V=>rfl⟩⟩;have z:x∉(g.fA a).aL:=fun q=>(eM.mp q).elim f.1 fun q=>l (c3.mp q).symm;have b:=R.rel.len;refine⟨y.fA z f.2 ⟨fun q=>f.1 (R.rel.iq _ q),I,a,m,?_,o,j,n,p,d,l⟩,?_⟩
 ·show (g.aL++[a])[σ.length]?=some a;rw[<- b];simp
 ·show ((g.aL++[a])++[x])[σ.length+1]?=some x;rw[<- b];simp
theorem ZJ(K:C.OK)(X:jN c d){k:Str}{args:c4}(h:m7 c d args):ci c d (.new k args):=by
 intro nm ac e env m ρ σ g s A Q E ae F R w a;refine a3 fun b=>?_;refine Af (ZF ae) fun p as pos L O M o=>?_;subst L;refine bZ a.dD fun vs aj bv a=>?_;refine bZ a.dD fun r N u a=>?_;have z:c.hA (fy k "__init__") (.ref (aj.length+1)::vs) (aj++[.ns []]++[.inst k aj.length])≠.bad:=fun q=>by rw[q]at u;cases u
 refine aw (X.new k _ _ z) fun I i P=>?_;have ok:=X.cls k I i;refine Dq (X.MN k I "__init__" _ _ i z) fun f om fd y B S T vJ Br=>?_;refine b ?_;clear b;obtain⟨rfl,a⟩:r=.none/\cw cG g s (.ok (.ref (aj.length+1)) N) Q E:=by
  cases r with
  |none=>exact⟨rfl,a⟩
  |_=>exact a.elim
 rw[xX];refine a6 (C' F.kind (A7 F O) (Te (A8 K R F) P ?_) (tG M));refine ZE ok.cls (xW (env:=env) args as (pos:=pos) o) (tI o (h nm ac as env 0 ρ σ g s A pos _ _ o F R w (m6.mk bv fun aB s1 xs U aK V=>⟨rfl,aK.rel.base,?_⟩)));refine a3 fun b=>?_;obtain⟨D,j,l,tk,os⟩:=s1;obtain⟨Fg,q,bs,sn,sub,col,Fh,eT,k1,df,iu,px,W⟩:=(ok.cls.keeps aK.rel.base).obj;refine b ?_;clear b;refine wpAny_call_obj_init PySem.F.objNew W (ok.cls.keeps aK.rel.base).ns B (aK.rel.base _ _ S) T fun h' x G n=>?_;refine bt (ZG aK i n) fun Y v=>?_;have H:Ext cG aB ⟨D,j,l,tk,os⟩ ((aB.fA G).fA x) ⟨h',j,l,tk,os⟩:=((Ext.all (s:=⟨D,j,l,tk,os⟩) (tk:=tk) n.keeps).fA n.newD).fA n.newX;refine X.XK k I f _ _ _ ((aB.fA G).fA x) ⟨h',j,l,tk,os⟩ A _ _ E i B w Y (.cons (.ref v) (xL aK H dZ.none V)) (cw.EQ (cw.mk u fun Z e4 y J iO oh=>⟨gL oh,?_⟩));refine a Z e4 (.ref x) ((U.trans H).trans J) iO (.ref ?_);obtain⟨t,ht⟩:=J.pre;rw[<- ht,mS (dN.mp v).1];exact v
theorem Bt(h:vr e=true):foldedSetIterable e env x=pure x:=by
 cases e<;>first | rfl | cases h
inductive Fj (c:bP)(elt it cond:bE)(t:dq)(m:Nat)(ρ:List an2)(σ:ah)(r:be an2):Prop
 |mk (v:an2) (aj:ah) (l vs:List an2) (a7:ah) (bv:bk c it 0 ρ σ=.ok v aj) (hi:de aj v=some l) (dv:gc (bk c cond 0) (bk c elt m.pred) t (kill (ip t) ρ) l (bG aj v true)=.ok vs a7) (af:vs.length<=1000000) (hr:iG m (.list vs) (bG a7 v (c' aj v))=r):Fj c elt it cond t m ρ σ r
theorem Nr{u:an2}{f:ah}(a:bk c (.comp elt t it cond) m ρ σ=.ok u f):Fj c elt it cond t m ρ σ (.ok u f):=by
 rw[VF]at a;refine bZ (A6 a) fun v aj bv a=>?_;rw[VG]at a;cases hi:de aj v with
 |none=>rw[hi]at a;cases a
 |some l=>
  rw[hi,VH]at a;refine bZ (A6 a) fun vs h b a=>?_;cases d:gc (bk c cond 0) (bk c elt m.pred) t (kill (ip t) ρ) l (bG aj v true) with
  |bad=>rw[d]at b;cases b
  |ok i g=>
   rw[d]at b;cases b;rw[VI]at a;by_cases e:d' vs.length=true
   ·rw[bl e]at a;exact⟨v,aj,l,vs,g,bv,hi,d,ct e,a⟩
   ·rw[b5 e]at a;cases a
theorem ZK(a:cw own g s (bk c (.comp elt t it cond) m ρ σ) Q E):Fj c elt it cond t m ρ σ (bk c (.comp elt t it cond) m ρ σ):=by
 cases r:bk c (.comp elt t it cond) m ρ σ with
 |bad=>rw[r]at a;exact a.elim
 |ok u b=>exact Nr r
theorem ZL(h:ci c d it)(i:ci c d elt)(j:h4 c d cond):ci c d (.comp elt t it cond):=by
 intro nm ac e env m ρ σ g s A Q E ae F R k a;obtain⟨e',bQ,n,ifs,sc,pos,rfl,f,ok,o,p,q,r⟩:=Nc ae;obtain⟨v,aj,l,vs,H,bv,hi,u,w,y⟩:=ZK a;rw[<- y]at a;rw[eval_ListComp];refine alk (use:=none) rfl (fun x=>Bt (lF f)) (Bd (F.qv ok)) ok.kind ok.names ?_;refine Ni (RR:=fun acc L=>compPost bq A E none Q acc L) h i j k F R f ok o p q r bv hi u w fun D L g' s' X=>?_;refine bK X.ns fun z hn=>?_;refine⟨z,hn,fun h' B=>?_⟩;refine mV (X.letGo B) fun b C G=>?_;exact Mh a b C X.newD X.iv.1 X.iv.2 G
def Nt(x:bE):Prop:=match x with
 |.qe _|.kK _|.o5 _|.cmp .. | .ite ..=>False
 |V=>True
theorem ZM(h:Nt gM):∀nm ac e,bn gM nm ac e=true->ER e=true:=by
 intro nm ac e ae;cases e<;>first | rfl | skip
 all_goals (cases gM<;>first | exact h.elim |(exact dk (show false=true from ae) f6) | skip)
 all_goals (cases op<;>first | rfl |(exact dk (show false=true from ae) f6))
structure Nu (c:bP)(d:Nat)(gM:bE):Prop where
 e:ci c d gM
 t:h4 c d gM
structure ZN (c:bP)(d:Nat)(gN:c4):Prop where
 es:m7 c d gN
 an:m8 c d .And (nU c) gN
 or:m8 c d .Or (nV c) gN
 hd:∀e es,gN=.cons e es->ci c d e
theorem jg(h:ci c d gM)(a:Nt gM):Nu c d gM:=⟨h,XY h (ZM a)⟩
noncomputable def c4.aoF(x:c4):Bool:=match x with
 |.nil=>true
 |.cons V f9=>false
mutual
theorem cX(K:C.OK)(X:jN c d):∀gM:bE,Nu c d gM
 |.const k=>jg (XO k) trivial
 |.loc i=>jg (XQ i) trivial
 |.kK es=>⟨X8 (k4 K X es).an,X9 (k4 K X es).an⟩
 |.o5 es=>⟨X' (k4 K X es).or,Yb (k4 K X es).or⟩
 |.bin op a b=>jg (XS K (cX K X a).e (cX K X b).e) trivial
 |.qe a=>⟨XZ (cX K X a).e,X0 (cX K X a).t⟩
 |.neg a=>jg (X1 (cX K X a).e) trivial
 |.cmp op a b=>⟨X2 (cX K X a).e (cX K X b).e,X3 (cX K X a).e (cX K X b).e⟩
 |.tup es=>jg (Yg (k4 K X es).es) trivial
 |.lst es=>jg (Yh (k4 K X es).es) trivial
 |.io=>jg Yi trivial
 |.idx a i=>jg (Yj (cX K X a).e (cX K X i).e) trivial
 |.rG a lo=>jg (Zo (cX K X a).e (cX K X lo).e) trivial
 |.rH a lo hi=>jg (Zq (cX K X a).e (cX K X lo).e (cX K X hi).e) trivial
 |.glob x=>jg (XW K X x) trivial
 |.comp elt t it cond=>jg (ZL (cX K X it).e (cX K X elt).e (cX K X cond).t) trivial
 |.ite t a b=>⟨Yc (cX K X t).t (cX K X a).e (cX K X b).e,Yd (cX K X t).t (cX K X a).t (cX K X b).t⟩
 |.attr a x=>jg (Zw X (cX K X a).e) trivial
 |.kL o x args=>jg (ZD X (cX K X o).e (k4 K X args).es) trivial
 |.new k args=>jg (ZJ K X (k4 K X args).es) trivial
 |.call f args=>jg (Yl K X (k4 K X args).es) trivial
 |.bi b args=>jg (Yq K X (k4 K X args).es) trivial
 |.f8 o m args=>jg (Yu (cX K X o).e (k4 K X args).es) trivial
theorem k4(K:C.OK)(X:jN c d):∀a:c4,ZN c d a
 |.nil=>⟨XM,X4,X5,fun V V q=>Bool.noConfusion (show true=false from dt c4.aoF q)⟩
 |.cons e es=>⟨XN (cX K X e).e (k4 K X es).es,X6 (cX K X e).e (cX K X e).t (k4 K X es).an,X7 (cX K X e).e (cX K X e).t (k4 K X es).or,
   fun e' b q=>by cases q;exact(cX K X e).e⟩
end
end
section
open PySem PyProof.Rows PySem.SeqAt
variable {c:bP}{σ au:ah}{g g':bS}{h h':Heap}{s s':Shared}{own:Addr->Prop}{A:Around}{d:Nat}{nm:cA}{ac:dI}{env:Env}{ρ:List an2}
 {Q:Flow->Shared->Prop} {E:Value->Shared->Prop}
def r3(g:bS)(h:Heap)(y:fJ)(f:Flow):Prop:=match y with
 |.next=>f=.next
 |.ret v=>∃x,f=.ret x/\a9 g h v x
def hM(nm:cA)(ac:dI)(env:Env)(g:bS)(s:Shared)(r:be fi)(Q:Flow->Shared->Prop)(E:Value->Shared->Prop):Prop:=match r with
 |.ok r au=>∀g' s' fl,Ext (e2 env) g s g' s'->aM au g' s'.heap->b8 nm ac env r.2 g' s'.heap->r3 g' s'.heap r.1 fl->Q fl s'
 |.bad=>False
theorem hM.gz{α:Type}{r:be α}{f:α->ah->be fi}(a:hM nm ac env g s (r.bind f) Q E):∃v aj,r=.ok v aj/\hM nm ac env g s (f v aj) Q E:=by
 cases r with
 |ok v aj=>exact⟨v,aj,rfl,a⟩
 |bad=>exact a.elim
variable {r rr:be fi}
theorem hM.shift(e:Ext (e2 env) g s g' s')(a:hM nm ac env g s r Q E):hM nm ac env g' s' r Q E:=by
 cases r with
 |ok v aj=>exact fun cc b c d f bp h=>a cc b c (e.trans d) f bp h
 |bad=>exact a
variable {f:fJ}
theorem hM.mk{a:List an2}(c:r=.ok (f,a) au)(h:∀g' s' b,Ext (e2 env) g s g' s'->aM au g' s'.heap->b8 nm ac env a g' s'.heap->r3 g' s'.heap f b->Q b s'):hM nm ac env g s r Q E:=by rw[c];exact h
def k5(c:bP)(d:Nat)(ps:o6):Prop:=∀nm ac st env ρ σ g s A (Q:Flow->Shared->Prop) (E:Value->Shared->Prop),LX ps nm ac st=true->b8 nm ac env ρ g s.heap->aM σ g s.heap->eG A d ->
 hM nm ac env g s (rP c ps ρ σ) Q E->aS bq A (z1 st env) Q E s
def mv(c:bP)(d:Nat)(ps:dH):Prop:=∀nm ac st env ρ σ g s A (Q:Flow->Shared->Prop) (E:Value->Shared->Prop),mh ps nm ac st=true->b8 nm ac env ρ g s.heap->aM σ g s.heap->eG A d ->
 hM nm ac env g s (cF c ps ρ σ) Q E->aS bq A (z2 st env) Q E s
theorem ZO:mv c d .nil:=by
 intro nm ac st env ρ σ g s A Q E ae F R b a;cases st with
 |nil=>exact IW (a g s .next (Ext.refl g s) R F rfl)
 |cons=>cases ae
theorem ZP{p:o6}{b:dH}(e:k5 c d p)(O:mv c d b):mv c d (.cons p b):=by
 intro nm ac st env ρ σ g s A Q E ae F R h a;cases st with
 |nil=>cases ae
 |cons st fY=>
  refine bt (h5 (show (LX p nm ac st&&mh b nm ac fY)=true from ae)) fun k l=>?_;rw[VB]at a;cases bv:rP c p ρ σ with
  |bad=>rw[bv]at a;exact a.elim
  |ok r aj=>
  obtain⟨f,aN⟩:=r;rw[bv]at a;refine wpAny_execs_cons (e nm ac st env ρ σ g s A _ _ k F R h (hM.mk bv fun aB s1 n i aK aY j=>?_));cases f with
  |next=>cases j;exact O nm ac fY env aN aj aB s1 A _ _ l aY aK h (a.shift i)
  |ret v=>obtain⟨x,rfl,m⟩:=j;exact a aB s1 _ i aK aY ⟨x,rfl,m⟩
theorem ZQ{m:Nat}{e:bE}(h:ci c d e):k5 c d (.ret m e):=by
 intro nm ac st env ρ σ g s A Q E ae F R i a;refine a3 fun b=>?_;refine hv (Wm ae) fun v pos j=>?_;subst j;refine bZ a.gz fun x aj bv a=>?_;refine b ?_;clear b;refine wpAny_Return_some (h nm ac v env m ρ σ g s A _ _ ae F R i (cw.mk bv fun aB s1 y f aK k=>?_));exact a aB s1 _ f.weaken aK (F.ext R f) ⟨y,rfl,k⟩
variable {a b e o bQ tt v:Expr}
theorem Fn{a:Option Expr}{n:Nat}(h:tu e=false):rz e a n env=pure false:=by
 cases e<;>first | rfl | cases h
theorem ZS(F:b8 nm ac env ρ g h):interactive env=false:=by
 unfold interactive;rw[F.kind];rfl
theorem ZT{e:bE}(h:ci c d e):k5 c d (.expr e):=by
 intro nm ac st env ρ σ g s A Q E ae F R i a;refine a3 fun b=>?_;refine hv (Wl ae) fun v pos j=>?_;subst j;refine bt (h5 (show (!tu v&&bn e nm ac v)=true from ae)) fun k l=>?_;refine bZ a.gz fun x aj bv a=>?_;refine b ?_;clear b;rw[exec_Expr env v pos (ZS F) (Fn (by simpa using k))];refine a6 (lZ (a6 (h nm ac v env 0 ρ σ g s A _ _ l F R i (cw.mk bv fun aB s1 y f aK m=>?_))));exact wpAny_dropValue (a aB s1 .next f.weaken aK (F.ext R f) rfl)
theorem ZU{t:bE}{a b:dH}(ht:h4 c d t)(n:mv c d a)(o:mv c d b):k5 c d (.ite t a b):=by
 intro nm ac st env ρ σ g s A Q E ae F R h e;refine a3 fun k=>?_;refine o3 (Wn ae) fun l m b' pos p=>?_;subst p;refine im (show (bn t nm ac l&&mh a nm ac m&&mh b nm ac b')=true from ae) fun i O r=>?_;obtain⟨x,aj,bv,e⟩:=e.gz;refine k ?_;clear k;cases j:dz aj x with
 |none=>rw[j]at e;exact e.elim
 |some q=>
  rw[j]at e;refine wpAny_If (ht nm ac l env ρ σ g s A _ _ i F R h (fk.mk bv j fun aB s1 f aK=>?_));cases q with
  |true=>exact n nm ac m env ρ aj aB s1 A _ _ O (F.ext R f) aK h (e.shift f.weaken)
  |false=>exact o nm ac b' env ρ aj aB s1 A _ _ r (F.ext R f) aK h (e.shift f.weaken)
theorem yk(F:b8 nm ac env ρ g s.heap)(R:aM σ g s.heap){x:Str}{i:Nat}{v:an2}{y:Value}{Q:Unit->Shared->Prop}(a:ac.lookup x=some i)(b:kQ (nm.lookup x)=true)(c:a9 g s.heap v y)
  (d:∀s',b8 nm ac env (ρ.set i v) g s'.heap->aM σ g s'.heap->Ext (e2 env) g s g s'->Q () s'):aS bq A (Tk env x y) Q E s:=
 EU F R a b c (.inl rfl) (fun V e ae=>.inr ⟨x,ae⟩) d
theorem ZV(x a value pos)(b:rz value (some (.Name x a)) pos.line env=pure true):z1 (.Assign [.Name x a] value pos) env=(do
  p5 pos
  IX value env (assign (.Name x a) env)
  pure .next):=by
 have e:z1 (.Assign [.Name x a] value pos) env=(do
   p5 pos
   if <- rz value (some (.Name x a)) pos.line env then
    IX value env (assign (.Name x a) env)
    return .next
   let v <- eval value env
   p5 a
   Db env x v
   pure .next):=rfl
 rw[e,b];rfl
theorem ZW{m:Nat}{f:o7}{u:an2}{aj:ah}{D:Addr}(b:iG m f σ=.ok u aj)(R:aM σ g h)(hn:D∉g.aL)(c:¬g.bD D)(d:s.heap=h)(a:mj g s.heap f D):∃aB,(aB=g.di D\/aB=g.fA D)/\aM aj aB s.heap/\a9 aB s.heap u (.ref D):=by
 subst d;cases m with
 |zero=>cases b;exact⟨_,.inl rfl,R.di hn a.live,a.m3 (R.AR c)⟩
 |succ m=>
  cases b;refine⟨_,.inr rfl,R.fA hn c (a.ob fun q=>hn (R.rel.iq _ q)),.ref ?_⟩;show (g.aL++[D])[σ.length]?=some D;rw[<- R.rel.len];simp
theorem ZX{e:bE}(c:tu v=true)(b:bn e nm ac v=true):∃elt t it cond,e=.comp elt t it cond:=by
 have a:∀{w},(∃x p,v=.Name x p)\/v=w->tu w=false->False:=fun h aF=>by
  rcases h with⟨V,V,rfl⟩|rfl
  ·cases c
  ·rw[aF]at c;cases c
 cases e with
 |comp elt t it cond=>exact⟨_,_,_,_,rfl⟩
 |const=>obtain⟨V,V,V,h⟩:=LY b;exact(a (.inr h) rfl).elim
 |loc=>exact(a (w:=v) (.inl (jI b)) (by obtain⟨V,V,rfl⟩:=jI b;rfl)).elim
 |kK=>obtain⟨V,V,V,h⟩:=vd b;exact(a (.inr h) rfl).elim
 |o5=>obtain⟨V,V,V,h⟩:=vd b;exact(a (.inr h) rfl).elim
 |bin=>obtain⟨V,V,V,V,h⟩:=LZ b;exact(a (.inr h) rfl).elim
 |qe=>obtain⟨V,V,V,h⟩:=xF b;exact(a (.inr h) rfl).elim
 |neg=>obtain⟨V,V,V,h⟩:=xF b;exact(a (.inr h) rfl).elim
 |cmp=>obtain⟨V,V,V,V,h⟩:=L0 b;exact(a (.inr h) rfl).elim
 |ite=>obtain⟨V,V,V,V,h⟩:=Ek b;exact(a (.inr h) rfl).elim
 |tup=>obtain⟨V,V,V,h⟩:=rS b;exact(a (.inr h) rfl).elim
 |lst=>obtain⟨V,V,h⟩:=L1 b;exact(a (.inr h) rfl).elim
 |io=>obtain⟨V,h⟩:=L2 b;exact(a (.inr h) rfl).elim
 |idx=>obtain⟨V,V,V,h⟩:=tv b;exact(a (.inr h) rfl).elim
 |rG=>obtain⟨V,V,V,h⟩:=tv b;exact(a (.inr h) rfl).elim
 |rH=>obtain⟨V,V,V,h⟩:=tv b;exact(a (.inr h) rfl).elim
 |glob=>exact(a (w:=v) (.inl (jI b)) (by obtain⟨V,V,rfl⟩:=jI b;rfl)).elim
 |call=>obtain⟨V,V,V,h⟩:=nZ b;exact(a (.inr h) rfl).elim
 |bi=>obtain⟨V,V,V,h⟩:=nZ b;exact(a (.inr h) rfl).elim
 |f8=>obtain⟨V,V,V,h⟩:=nZ b;exact(a (.inr h) rfl).elim
 |attr=>obtain⟨V,V,V,h⟩:=xG b;exact(a (.inr h) rfl).elim
 |kL=>obtain⟨V,V,V,h⟩:=nZ b;exact(a (.inr h) rfl).elim
 |new=>obtain⟨V,V,V,h⟩:=nZ b;exact(a (.inr h) rfl).elim
theorem ZY{i m:Nat}{e:bE}(h:ci c d e)(ZZ:∀elt t it cond,e=.comp elt t it cond->ci c d it/\ci c d elt/\h4 c d cond):k5 c d (.assign i m e):=by
 intro nm ac st env ρ σ g s A Q E ae F R aD hp;refine a3 fun a=>?_;refine d5 (ve ae) fun qy v pos bj=>?_;subst bj;refine a ?_;clear a;rcases qy with V |⟨bQ,V |⟨e6,ts⟩⟩
 ·exact dk (show false=true from ae) f6
 ·refine a3 fun a=>?_;refine hv (jI ae) fun x p aJ=>?_;subst aJ;refine im (show (ac.lookup x==some i&&kQ (nm.lookup x)&&bn e nm ac v)=true from ae) fun G K P=>?_;have G:ac.lookup x=some i:=by simpa using G
  refine bZ hp.gz fun u aj bv pq=>?_;refine a ?_;clear a;have plain:rz v (some (.Name x p)) pos.line env=pure false->aS bq A (z1 (.Assign [.Name x p] v pos) env) Q E s:=fun S=>by
   refine alm (h nm ac v env m ρ σ g s A _ _ P F R aD (cw.mk bv fun aB s1 y I aK T=>?_)) S;exact yk (F.ext R I) aK G K T fun H bp U M=>pq aB H .next (I.weaken.trans M) U bp rfl
  cases r4:tu v with
  |false=>exact plain (Fn r4)
  |true=>
   refine a3 fun a=>?_;refine o3 (ZX r4 P) fun elt t it cond fV=>?_;subst fV;refine mV (ZZ _ _ _ _ rfl) fun cr d6 d1=>?_;obtain⟨e',bQ,n,ifs,sc,W,rfl,iP,ok,x1,yl,Z0,Z1⟩:=Nc P;obtain⟨Z2,Nv⟩:∃b:Bool,rz (.ListComp e' [⟨bQ,n,ifs,0⟩] sc W) (some (.Name x p)) pos.line env=pure b:=⟨_,rfl⟩;refine a ?_;clear a;cases Z2 with
   |false=>exact plain Nv
   |true=>
    rw[ZV x p _ pos Nv];refine a6 (lZ (a6 ?_));refine a3 fun a=>?_;obtain⟨w,a7,l,vs,cN,ay,hi,az,af,vM⟩:=Nr bv;refine a ?_;clear a;show aS _ _ (comprehension (.ListComp e' [⟨bQ,n,ifs,0⟩] sc W) sc env (firstIterPos [⟨bQ,n,ifs,0⟩] W) (newList []) false (eval n env) (some (assign (.Name x p) env)) >>= fun V=>pure ()) _ _ _;refine a6 (alk (use:=some (assign (.Name x p) env)) rfl (fun x=>Bt (lF iP)) (Bd (F.qv ok)) ok.kind ok.names ?_);refine Ni (RR:=fun acc L=>compPost bq A E (some (assign (.Name x p) env)) _ acc L) cr d6 d1 aD F R iP ok x1 yl Z0 Z1 ay hi az af fun D L g' s' X=>?_;refine a3 fun a=>?_;refine aw X.acc fun aP da hE=>?_;refine fS (ZW (s:=s') vM X.rel X.iv.1 X.iv.2 rfl ⟨aP,da,hE⟩) fun aB Nw aK T=>?_;refine a ?_;clear a;have I:Ext cG g s aB s':=by
     rcases Nw with rfl|rfl
     ·exact X.ext.di X.newD
     ·exact X.ext.fA X.newD
    have Y:L∉aB.aL/\¬aB.bD L:=by
     rcases Nw with rfl|rfl
     ·exact⟨X.d7.1,fun q=>q.elim X.d7.2 X.vA⟩
     ·exact⟨fun q=>(eM.mp q).elim X.d7.1 fun q=>X.vA (c3.mp q),X.d7.2⟩
    have aY:=F.ext R I;refine bK X.ns fun Fm hn=>?_;show aS _ _ (assign (.Name x p) env (.ref D)) _ _ _;refine EV (yk aY aK G K T fun H bp U M=>?_);have N:∀b,e2 env b->b≠L:=fun b f q=>by
     subst q;rcases f with f |⟨z,bB⟩
     ·refine a3 fun a=>?_;refine aw F.ns fun m' Z V=>?_;obtain⟨o,j⟩:=ry.live Z;refine a ?_;clear a;rw[<- f,X.tP]at j;cases j
     ·refine a3 fun a=>?_;obtain⟨o,ob,j,V⟩:=F.g4 z b bB;refine a ?_;clear a;rw[X.tP]at j;cases j
    refine⟨Fm,?_,fun h' S=>cn (cn ?_)⟩
    ·obtain⟨o,es,ep,j,r⟩:=hn;exact M.El ⟨o,es,ep,j,r⟩ Y.1 (fun q=>N L q rfl)
    ·have B:∀b o,b≠L->H.heap.get? b=some o->h'.get? b=some o:=fun b o f e=>by rw[S.2 b f];exact e
     have kept:gD aB H.heap h':=.tA B Y;have fT:dZ (·=L) aB:=fun b f=>by subst f;exact Y
     have k:Ext (e2 env) g s aB H:=I.weaken.trans M;have dX:Ext (e2 env) g s aB {H with heap:=h'}:=⟨k.pre,k.sub,k.n2,k.n3,k.lock,fun b o e ay az=>by obtain⟨o',an,O⟩:=k.keep b o e ay az;exact⟨o',B b o' (fun q=>by rw[q,X.tP]at e;cases e) an,O⟩,fun b o e ay az=>B b o (fun q=>by rw[q,X.tP]at e;cases e) (k.i' b o e ay az),fun b f=>by
      refine bK (gv.mp (k.live b f)) fun o j=>?_;exact ec (B b o (fun q=>by rw[q,X.tP]at f;cases f) j),k.gens,k.os⟩
     refine pq aB _ .next dX (U.kept kept) ?_ rfl
     have as:∀b,(s.heap.get? b).isSome=true->b≠L:=fun b f q=>by rw[q,X.tP]at f;cases f
     refine a3 fun a=>?_;refine aw bp.ns fun m' Z d0=>?_;refine a ?_;clear a;refine⟨bp.kind,bp.names,bp.glob,bp.blt,bp.inj,⟨m',?_,fun x i v a1 a2 aI aT=>?_⟩,fun x i a1 a2=>?_,bp.d7,bp.gE,fun x aH C=>?_,bp.apart⟩
     ·obtain⟨o,es,ep,j,r⟩:=Z;exact⟨o,es,ep,B _ _ (N _ (.inl rfl)) j,r⟩
     ·obtain⟨y,C,J⟩:=d0 x i v a1 a2 aI aT;exact⟨y,C,iN kept J⟩
     ·refine a3 fun a=>?_;obtain⟨aH,o,C,⟨ob,J,kZ⟩,ap⟩:=bp.cl x i a1 a2;refine a ?_;clear a;exact⟨aH,o,C,⟨ob,B _ _ (N _ (.inr ⟨x,C⟩)) J,kZ⟩,fun v aI aT=>by obtain⟨y,G,K⟩:=ap v aI aT;exact⟨y,G,iN kept K⟩⟩
     ·obtain⟨o,ob,J,kZ⟩:=bp.g4 x aH C;exact⟨o,ob,B _ _ (N _ (.inr ⟨x,C⟩)) J,kZ⟩
 ·exact dk (show false=true from ae) f6
variable {es:List Expr}{p:Pos}
theorem Z3{a}(h:AM v=false):IY [.Tuple es a p] v env=pure none:=by
 cases v<;>first | rfl | cases h
theorem Nx{a}{n:Nat}(F:b8 nm ac env ρ g h):rz e (some (.Tuple es a p)) n env=pure false:=by
 cases e<;>rfl
theorem Z4{is:List Nat}{e:bE}(h:ci c d e):k5 c d (.tc is e):=by
 intro nm ac st env ρ σ g s A Q E ae F R k b;refine a3 fun f=>?_;refine d5 (ve ae) fun m v pos i=>?_;subst i;refine f ?_;clear f;rcases m with V |⟨bQ,V |⟨G,H⟩⟩
 ·exact dk (show false=true from ae) f6
 ·refine a3 fun f=>?_;refine d5 (rS ae) fun es a p i=>?_;subst i;refine im (show (!AM v&&jF nm ac is es&&bn e nm ac v)=true from ae) fun n o q=>?_;refine bZ b.gz fun u aj bv b=>?_;refine f ?_;clear f;have r:z1 (.Assign [.Tuple es a p] v pos) env=(do
    p5 pos
    if <- rz v (some (.Tuple es a p)) pos.line env then do
     IX v env fun v=>assignAll v ((p6 [.Tuple es a p] env).map ju)
     pure .next
    else do
     let x <- eval v env
     Tt env x (<- IY [.Tuple es a p] v env) ((p6 [.Tuple es a p] env).map ju)):=rfl
  rw[r,Nx F,Z3 (ru _ |>.mp n)];refine a6 (lZ (a6 (cn ?_)));simp only[Tn,if_false];refine a6 (h nm ac v env 0 ρ σ g s A _ _ q F R k (cw.mk bv fun aB s1 y l aK w=>a6 (cn ?_)));show aS _ _ (assign (.Tuple es a p) env y >>= fun V=>pure Tu) _ _ _
  cases j:hW (.many is) u ρ with
  |none=>rw[j]at b;exact b.elim
  |some aN=>
   rw[j]at b;have aY:=F.ext R l;refine a6 (EY (own:=e2 env) (t:=.many is) k.hand aY.off (.inl rfl) (show kR nm ac (.many is) (.Tuple es a p)=true from o) aY aK w (fun x V V I z=>.inr ⟨x,z⟩) j fun B bp C D=>cn ?_);exact b aB B .next (l.weaken.trans D) C bp rfl
 ·exact dk (show false=true from ae) f6
theorem Z5{f:Expr->Bool}(c:f a=false)(d:f b=false):¬ [a,b].any f=true:=by
 show ¬(f a||(f b||false))=true;rw[c,d];exact f6
variable {x y:Str}
theorem Z6{f:Expr->Option Str}(c:f a=some x)(O:f b=some y):[a,b].filterMap f=[x,y]:=by
 rw[j',c,j',O];rfl
theorem Z7(h:x≠y):[x,y].eraseDups=[x,y]:=by
 have:(y==x)=false:=by simpa using eD h
 simp[List.eraseDups,List.eraseDupsBy,anV,this]
theorem Z8{N:List Str}(d:N=[x,y])(e:x≠y){a b:Prop}[Decidable a][Decidable b]{u:Sem (Option (List Str))}(c:¬a)(O:¬b) :
  (if (N.length != 2||N.eraseDups.length != N.length)=true then pure none else if a then pure none else if b then u else pure (some N))=pure (some [x,y]):=by
 subst d;rw[Z7 e,b5 (by exact f6),b5 c,b5 O]
theorem Z9{c d p2:Pos}{i j}(F:b8 nm ac env ρ g h)(k:nm.lookup x=some .local)(l:nm.lookup y=some .local)(f:x≠y)(m:(c.line==d.line)=true)(n:vr a=true)(o:vr b=true)
  (e:(oX 8 a&&oX 8 b)=false) (O:(oY 8 a&&oY 8 b)=false):IY [.Tuple [.Name x c,.Name y d] i p] (.Tuple [a,b] j p2) env=pure (some [x,y]):=by
 have r:env.kindOf x=some .local:=by rw[<- k,<- F.names];rfl
 have s:env.kindOf y=some .local:=by rw[<- l,<- F.names];rfl
 have t:env.blockKind=.function:=by unfold Env.blockKind;rw[F.kind];rfl
 have u:c.line=d.line:=by simpa using m
 have v:(y==x)=false:=by simpa using eD f
 refine(b5 (by rw[t];exact f6)).trans ((b5 (Z5 (by cases a<;>first | rfl | cases n) (by cases b<;>first | rfl | cases o))).trans ?_)
 refine Z8 ?_ f (fun q=>?_) fun q=>?_
 ·refine Z6 (bl ?_) (bl ?_)
  ·rw[r];show (true&&(c.line==c.line))=true;rw[ef];rfl
  ·rw[s];show (true&&(d.line==c.line))=true;rw[u,ef];rfl
 ·have q:(oX 8 a&&(oX 8 b&&true))=true:=q;rw[zU,e]at q;cases q
 ·have q:(oY 8 a&&(oY 8 b&&true))=true:=q;rw[zU,O]at q;cases q
theorem aaa{i j:Nat}{a b:bE}(ai:ci c d a)(ab:ci c d b):k5 c d (.rJ i j a b):=by
 intro nm ac st env ρ σ g s A Q E ae F R H w;refine a3 fun Z=>?_;refine d5 (ve ae) fun qy v pos z=>?_;subst z;refine bK (L6 ae) fun bQ a5=>?_;subst a5;refine d5 (rS ae) fun es t p z=>?_;subst z;refine hv (L3 ae) fun t1 e6 l=>?_;subst l;refine hv (jI ae) fun x m l=>?_;subst l;refine hv (jI ae) fun y r l=>?_;subst l;refine d5 (rS ae) fun vs B p2 z=>?_;subst z;refine hv (L3 ae) fun f h l=>?_;subst l;refine T1 (show (ac.lookup x==some i&&ac.lookup y==some j&&nm.lookup x==some .local&&nm.lookup y==some .local&&!(x==y)&&(m.line==r.line)&&!(oX 8 f&&oX 8 h)&&!(oY 8 f&&oY 8 h)&&bn a nm ac f&&bn b nm ac h)=true from ae) fun k1 I C D J k6 K L M N=>?_;refine bZ w.gz fun da aj bv w=>?_;refine bZ w.gz fun hE a7 dv w=>?_;refine Z ?_;clear Z;have k1:ac.lookup x=some i:=by simpa using k1
 have I:ac.lookup y=some j:=by simpa using I
 have C:nm.lookup x=some .local:=by simpa using C
 have D:nm.lookup y=some .local:=by simpa using D
 have J:x≠y:=by simpa using J
 have K:(oX 8 f&&oX 8 h)=false:=ru _ |>.mp K;have L:(oY 8 f&&oY 8 h)=false:=ru _ |>.mp L;have bN:z1 (.Assign [.Tuple [.Name x m,.Name y r] t p] (.Tuple [f,h] B p2) pos) env=(do
   p5 pos
   if <- rz (.Tuple [f,h] B p2) (some (.Tuple [.Name x m,.Name y r] t p)) pos.line env then do
    IX (.Tuple [f,h] B p2) env fun v=>assignAll v ((p6 [.Tuple [.Name x m,.Name y r] t p] env).map ju)
    pure .next
   else do
    let k <- eval (.Tuple [f,h] B p2) env
    Tt env k (<- IY [.Tuple [.Name x m,.Name y r] t p] (.Tuple [f,h] B p2) env) ((p6 [.Tuple [.Name x m,.Name y r] t p] env).map ju)):=rfl
 rw[bN,Nx F,Z9 F C D J k6 (lF M) (lF N) K L];refine a6 (lZ (a6 (cn ?_)));simp only[Tn,if_false];have qz:gy [f,h] env=[(false,eval f env),(false,eval h env)]:=by rw[vt (lF M),vt (lF N)];rfl
 refine a6 ?_;show aS _ _ (p5 p2 >>= fun V=>C8 (hl p2 (gy [f,h] env)) >>= newTuple) _ _ _;rw[qz];refine a6 (lZ (a6 (C9 (ai nm ac f env 0 ρ σ g s A _ _ M F R H (cw.mk bv fun aB s1 e3 k aK v1=>?_)))));refine C9 (ab nm ac h env 0 ρ aj aB s1 A _ _ N (F.ext R k) aK H (cw.mk dv fun cc P fm S bX v2=>IM ?_));have ng:an6 cc P.heap [da,hE] [e3,fm]:=.cons (h2 aK S dZ.none v1) (.cons v2 .nil);have pq:cD a7 cc P (some (.v (.tup [da,hE]))) (fun lH u=>aS bq A (pure (some [x,y]) >>= fun q=>Tt env lH q ((p6 [.Tuple [.Name x m,.Name y r] t p] env).map ju)) Q E u):=by
  intro G u lH pv iO oh;obtain⟨ad,aP,rfl,af,hr⟩:=gL oh;refine a6 (cn ?_);have T:=F.ext R ((k.trans S).trans pv);have ew:=hr.size;show aS _ _ (rule "assign.swapped-stores" >>= fun V=>unpackItems (.ref ad) 2 none >>= fun de=>Tm ([y,x].map fun n=>Db env n) de.reverse >>= fun V=>pure Tu) _ _ _
  refine a6 (wpAny_rule (a6 ?_));have O:aP.size=2:=ew;rw[<- O];refine wpAny_unpackItems_tuple H.hand (pj af) fun h' aa=>?_;have U:∀b o,u.heap.get? b=some o->h'.get? b=some o:=fun b o e=>aa b o (gV (j8 e)) e;have Bv:Ext cG G u G {u with heap:=h'}:=Ext.all (tk:=u.toks) U;have vE:=T.ext iO Bv;have nd:aM a7 G h':=iO.kept (.ge U);have Ny:=lD (.ge U) hr;generalize aP.toList=wl at Ny;cases Ny with
  |@cons _ Nz _ _ a1 W=>
  cases W with
  |@cons _ X _ _ a2 Y=>
  cases Y;show aS _ _ ((zW [Nz] (Db env y X) >>= fun V=>zW [] (Db env x Nz) >>= fun V=>pure ()) >>= fun V=>pure Tu) _ _ _
  refine a6 (a6 (j9 (Tl (yk vE nd I (by rw[D];rfl) a2 fun NA F5 R5 NB=>?_))));refine a6 (j9 (Tl (yk F5 R5 k1 (by rw[C];rfl) (h2 nd NB vE.off a1) fun s6 F6 R6 x6=>cn (cn ?_))));exact w G s6 .next ((((((k.trans S).trans pv).trans Bv).weaken).trans NB).trans x6) R6 F6 rfl
 exact ak7 (pq.push (tk:=P.toks) bX (Mi (n:=0) (by simpa using ng)) rfl) (by rw[i3];exact s7 (a:=2) (by decide))
theorem aal{l:Addr}{de:Array Value}{n:Nat}{k:Int}{t:Tok}{v:Value}{Q:Unit->Shared->Prop}(a:s.heap.get? l=some {cls:=.type "list",dict:=none,data:=.seq de n,slots:=#[]})(h0:0<=k)(c:k<2^63)(hn:k<de.size)
  (d:Q () {s with heap:=s.heap.update l (IH (·.setIfInBounds k.toNat v))}):aS bq A (setItem (.ref l) (.int k t) v) Q E s:=by
 have b:s.TypeIs (.ref l) "list":=⟨_,a,rfl⟩;unfold setItem
 try with_reducible refine j9 ?_
 first | refine a6 (cn ?_) | skip
 refine a6 (akW b (by decide) ?_);refine a6 (akX (name:=ly "__setitem__") b aln (S6 aln b entry_list_setitem ?_ (args_list_setitem _ _ _)));show aS _ _ (anW (.int k t) >>= _) _ _ s;refine a6 (wpAny_listSubscript_int (fitsIndex_of h0 c) ?_);clear c;refine bK (zN h0) fun j e=>?_;subst e;have f:j<de.size:=(kE.mp hn);have g:de[j]?=some de[j]:=Array.getElem?_eq_getElem f;show aS _ _ ((seqItemAt l j >>= fun r=>pure (r.map (j,·))) >>= _) _ _ s;refine a6 (a6 (wpAny_seqItemAt a rfl (cn ?_)));rw[g];show aS _ _ (setSeqItemAt l j v >>= _) _ _ s;refine a6 (wpAny_setSeqItemAt a rfl ?_)
 first
  |exact a6 (cn (cn ⟨.none,rfl,cn d⟩))
  |exact cn ⟨.none,rfl,cn d⟩
theorem aam{Q:Unit->Shared->Prop}(R:aM σ g s.heap){a k v:an2}{x y z:Value}(G:a9 g s.heap a x)(L:a9 g s.heap k y)(M:a9 g s.heap v z){h:ah}(he:setAt σ a k v=some h)
  (N:∀g' s',Ext cG g s g' s'->aM h g' s'.heap->Q () s'):aS bq A (setItem x y z) Q E s:=by
 rcases aoL (fun o=>o=some h) he with⟨r,i,H,I,he⟩|he
 ·rw[vj H]at G;refine a3 fun c=>?_;obtain⟨p,rfl,hi⟩:=gL G;refine bK (m2 I L) fun t m=>?_;subst m;refine aw (n6 (fun o=>o=some h) (fun q=>dS q) he) fun l e he=>?_;refine c ?_;clear c;split at he
  ·rename_i ae;cases he;refine a3 fun c=>?_;obtain⟨u,kvs,B,D⟩:=Xv R (Xw e) hi;refine c ?_;clear c;have J:=D.length;have K:=n8 ae;refine wpAny_setItem_pairs (C2 C.prog C.w i t) B (fun h' O S=>?_) (by rw[<- J,i3];exact s7 K);have d:∀b o,b≠p->s.heap.get? b=some o->h'.get? b=some o:=fun b o T e=>by rw[S.2 b T];exact e
   have F:=R.rel.fz p (ik hi);refine N g _ (EM (ik hi) u d (by obtain⟨o,es,ep,e,V⟩:=O;exact ec e)) (R.set hi d ⟨⟨fun q=>(l5 q),fun q=>(u q).elim⟩,_,O,?_⟩);exact(Xu F d D).put (EL F d M)
  ·cases he
 ·rcases aoL (fun o=>o=some h) he with⟨r,i,H,I,he⟩|he
  ·rw[vj H]at G;refine a3 fun c=>?_;obtain⟨p,rfl,hi⟩:=gL G;refine bK (m1 I L) fun t m=>?_;subst m;refine aw (n6 (fun o=>o=some h) (fun q=>dS q) he) fun l e he=>?_;refine c ?_;clear c;split at he
   ·rename_i ae;cases he;refine a3 fun c=>?_;obtain⟨u,vs,n,B,D⟩:=EO R (EP e) hi;refine mV ae fun U P W=>?_;refine bK (zN U) fun j m=>?_;subst m;refine c ?_;clear c;have J:=D.size;have K:=n8 W;have X:j<l.length:=kE.mp P;refine aal B (rp j) (Ac (ax (et X) K)) (by rw[J];exact P) ?_;have F:=R.rel.fz p (ik hi);have d:∀b o,b≠p->s.heap.get? b=some o->(s.heap.update p (IH (·.setIfInBounds j z))).get? b=some o:=MJ;refine N g _ (EM (tk:=s.toks) (ik hi) u d (by obtain⟨n,e⟩:=EN (f:=(·.setIfInBounds j z)) B;exact ec e)) (R.set hi d ⟨⟨fun q=>(l5 q),fun q=>(u q).elim⟩,_,EN B,?_⟩);have Y:(vs.setIfInBounds j z).toList=vs.toList.set j z:=Array.toList_setIfInBounds ..;show an6 g _ (l.set j v) (vs.setIfInBounds j z).toList;rw[Y];exact(MI F d D).setAt j (EL F d M)
   ·cases he
  ·cases he
theorem aan{i:Expr}{n:Nat}:rz e (some (.Subscript o i p)) n env=pure false:=by
 cases e<;>rfl
theorem aao{o i v:bE}{m:Nat}(z:ci c d o)(hi:ci c d i)(B:ci c d v):k5 c d (.fx o i m v):=by
 intro nm ac st env ρ σ g s A Q E ae F R h b;refine a3 fun f=>?_;refine d5 (ve ae) fun C w pos j=>?_;subst j;refine f ?_;clear f;rcases C with V |⟨bQ,V |⟨Y,Z⟩⟩
 ·exact dk (show false=true from ae) f6
 ·refine a3 fun f=>?_;refine d5 (tv ae) fun t u p j=>?_;subst j;refine im (show (bn o nm ac t&&bn i nm ac u&&bn v nm ac w)=true from ae) fun D G H=>?_;refine bZ b.gz fun x aj bv b=>?_;refine bZ b.gz fun a I J b=>?_;refine bZ b.gz fun k K L b=>?_;refine f ?_;clear f;refine wpAny_Assign_Subscript (B nm ac w env m ρ σ g s A _ _ H F R h (cw.mk bv fun aB s1 vx l aK M=>?_)) aan;refine z nm ac t env 0 ρ aj aB s1 A _ _ D (F.ext R l) aK h (cw.mk J fun cc N c6 n y O=>?_);refine hi nm ac u env 0 ρ I cc N A _ _ G ((F.ext R l).ext aK n) y h (cw.mk L fun gg e4 vk q P S=>?_);cases r:setAt K a k x with
  |none=>rw[r]at b;exact b.elim
  |some jC=>
   rw[r]at b;refine aam P (h2 y q dZ.none O) S (h2 aK (n.trans q) dZ.none M) r fun T U W X=>?_;have e:=((l.trans n).trans q).trans W;exact b T U .next e.weaken X (F.ext R e) rfl
 ·exact dk (show false=true from ae) f6
variable {m:Str->Option Value}{l:List (Str×an2)}
theorem aap{k:Str}{v:an2}{x:Value}(q:n1 C.prog C.w g h l m)(b:a9 g h v x):n1 C.prog C.w g h (b6 l k v) (fun y=>if y=k then some x else m y):=by
 intro y;rw[LI];by_cases e:y=k
 ·subst e;simp only[if_true];exact⟨fun u a=>⟨x,rfl,by cases a;exact b⟩,fun a=>nomatch a⟩
 ·rw[b5 e];simp only[e,if_false];exact q y
theorem aaq(q:n1 C.prog C.w g h l m):Within m (l.map bz):=fun y b=>by
 cases a:cp l y with
 |none=>exact dk ((q y).2 a) b
 |some v=>exact dQ.mpr ⟨_,D5 a,rfl⟩
theorem aar{Q:Unit->Shared->Prop}(X:jN c d)(R:aM σ g s.heap){a v:an2}{x z:Value}{n:Str}(hx:a9 g s.heap a x)(aq:a9 g s.heap v z){u:ah}(S:me c σ a n v=some u)
  (aC:∀g' s',Ext cG g s g' s'->aM u g' s'.heap->Q () s'):aS bq A (setAttr x n z) Q E s:=by
 refine a3 fun f=>?_;obtain⟨⟨k,dd,l⟩,hi,T⟩:=n6 (fun o=>o=some u) (fun q=>dS q) S;refine f ?_;clear f;clear S;have D:(if c.dc n&&d' l.length then some (σ.set dd (.ns (b6 l n v))) else none)=some u:=T;clear T;split at D
 ·rename_i B;cases D;refine a3 fun f=>?_;refine bt (gX.mp B) fun B qA=>?_;obtain⟨i,p,j,I,U,rfl,rfl,ay,az,W,m,Y,r1,vF,Z,tR,vG,vH⟩:=Fe R hx hi;have ok:=X.cls k I Y;obtain⟨G,k2,dr,tk,os⟩:=s;obtain⟨ox,da,hE,nf,pw,yg⟩:=id r1;obtain⟨Fg,q,bs,sn,sub,col,Fh,eT,k1,df,iu,px,lG⟩:=(ok.cls.keeps R.rel.base).obj;refine f ?_;clear f;have H:=ik W;have ND:=ik m;have J:p≠I.C:=fun e=>by
   refine a3 fun f=>?_;obtain⟨V,V,V,V,V,V,V,V,V,V,V,V,K⟩:=ok.cls.obj;refine f ?_;clear f;have:=R.rel.kl p H;rw[e,K]at this;cases this
  refine store_attr PySem.F.store_object lG (ok.cls.keeps R.rel.base).ns ok.Wr (ok.quiet n B) (X.dc n B) J tR (fun h' jK Bw aa L=>?_) (aaq Z) (by rw[a0,i3];have:=n8 qA;exact s7 this);have r:∀b ob,b≠p->b≠j->G.get? b=some ob->h'.get? b=some ob:=fun b ob h O e=>aa b ob h (fun an ap ak M=>by
   cases da.symm.trans ak;cases pw.symm.trans M;exact O) e
  refine a3 fun f=>?_;refine nR (L ox da) fun h1 N e5 u3 u4 t=>?_;have t:=t j pw;obtain⟨tx,t1,e6,t3,gj⟩:=Bw;refine f ?_;clear f;cases N.symm.trans t1;have fM:h'.Ns1 j fun y=>if y=n then some z else U y:=by
   rcases gj with⟨e,V⟩ |⟨kn,e,V,M⟩
   ·rw[t]at e;cases e
   ·cases t.symm.trans e;exact M
  have vh:¬g.bD j:=R.rel.fz j ND;have qq:¬g.bD p:=R.rel.fz p H;have kU:∀b ob,g.bD b->G.get? b=some ob->h'.get? b=some ob:=fun b ob ab e=>r b ob (fun q=>qq (q▸ab)) (fun q=>vh (q▸ab)) e;have P:n1 C.prog C.w g h' (b6 l n v) (fun y=>if y=n then some z else U y):=n1.mono (hT g.aL) (fun V q=>q) kU (aap Z aq);have R':aM (σ.set dd (.ns (b6 l n v))) g h':=R.apd ay W m r ⟨vG,I,j,Y,m,h1,N,e5.trans hE,fun c=>u3▸nf c,t,yg⟩ ⟨vH,_,fM,P⟩;refine aC g ⟨h',k2,dr,jK,os⟩ (Ext.heap (s:=⟨G,k2,dr,tk,os⟩) (fun b o e ab V=>?_) fun b ab=>?_) R'
  ·rcases ab with ab|ab
   ·exact r b o (fun q=>ab (q▸H)) (fun q=>ab (q▸ND)) e
   ·exact r b o (fun q=>vG (q▸ab)) (fun q=>vH (q▸ab)) e
  ·refine bK (gv.mp ab) fun o al=>?_;by_cases h:b=p
   ·subst h;exact ec N
   ·by_cases O:b=j
    ·subst O;obtain⟨o',V,V,e,V⟩:=fM;exact ec e
    ·exact ec (r b o h O al)
 ·cases D
theorem aax{n:Nat}:rz e (some (.Attribute o x p)) n env=pure false:=by
 cases e<;>rfl
theorem aay(X:jN c d){o v:bE}{x:Str}{m:Nat}(r:ci c d o)(t:ci c d v):k5 c d (.setattr o x m v):=by
 intro nm ac st env ρ σ g s A Q E ae F R k b;refine a3 fun f=>?_;refine d5 (ve ae) fun z w pos h=>?_;subst h;refine f ?_;clear f;rcases z with V |⟨bQ,V |⟨O,P⟩⟩
 ·exact dk (show false=true from ae) f6
 ·refine a3 fun f=>?_;refine d5 (xG ae) fun l y p h=>?_;subst h;refine im (show (y==x&&bn o nm ac l&&bn v nm ac w)=true from ae) fun i B C=>?_;refine f ?_;clear f;have i:y=x:=by simpa using i
  subst i;refine a3 fun f=>?_;refine bZ b.gz fun u aj bv b=>?_;refine bZ b.gz fun a D G b=>?_;refine f ?_;clear f;refine plainObj_wpAny_Assign_Attribute (t nm ac w env m ρ σ g s A _ _ C F R k (cw.mk bv fun aB s1 S n aK H=>?_)) aax;refine r nm ac l env 0 ρ aj aB s1 A _ _ B (F.ext R n) aK k (cw.mk G fun cc T U q I J=>?_);cases j:me c D a y u with
  |none=>rw[j]at b;exact b.elim
  |some W=>
   rw[j]at b;refine aar X I J (h2 aK q dZ.none H) j fun K L M N=>?_;have e:=(n.trans q).trans M;exact b K L .next e.weaken N (F.ext R e) rfl
 ·exact dk (show false=true from ae) f6
theorem b8.kill(F:b8 nm ac env ρ g h)(ks:List Nat):b8 nm ac env (Mine.Internal.kill ks ρ) g h:=F.sub fun i v a O=>(x3 a O).2
structure aos (wr fp:List Addr)(bh:Nat->Heap->Prop)(nm:cA)(ac:dI)(env:Env)(ρ:List an2)(i:Nat)(σ:ah)(g:bS)(s:Shared):Prop where
 rel:aM σ g s.heap
 fr:b8 nm ac env ρ g s.heap
 st:bh i s.heap
 off:∀b∈wr,b∉g.aL/\¬g.bD b
 live:∀b∈wr,∃o,s.heap.get? b=some o/\kS o=false
 keep:∀b∈fp,¬e2 env b/\Fast g s.heap b
structure tT (wr fp:List Addr)(bh:Nat->Heap->Prop):Prop where
 sub:∀b∈wr,b∈fp
 frame:∀i h h',bh i h->(∀b∈fp,∀o,h.get? b=some o->h'.get? b=some o)->bh i h'
 live:∀i h,bh i h->∀b∈wr,∃o,h.get? b=some o/\kS o=false
variable {I:Addr}{wr fp:List Addr}{bh:Nat->Heap->Prop}{i n:Nat}{P:Nat->Value->Prop}
theorem aos.kill(x:aos wr fp bh nm ac env ρ i σ g s)(ks:List Nat):aos wr fp bh nm ac env (Mine.Internal.kill ks ρ) i σ g s:={x with fr:=x.fr.kill ks}
theorem aos.body(x:aos wr fp bh nm ac env ρ i σ g s)(W:tT wr fp bh){d:List an2}(e:Ext (e2 env) g s g' s')(R':aM au g' s'.heap)(h:b8 nm ac env d g' s'.heap):aos wr fp bh nm ac env d i au g' s' where
 rel:=R'
 fr:=h
 st:=W.frame _ _ _ x.st fun b a o c=>(e.fast (x.keep b a).1 (x.keep b a).2).2 o c
 off:=fun b a=>by obtain⟨o,c,V⟩:=x.live b a;exact⟨e.ph c (x.off b a).1,e.tw c (x.off b a).2⟩
 live:=fun b a=>by obtain⟨o,c,f⟩:=x.live b a;exact⟨o,e.pi c (x.off b a).1 (x.keep b (W.sub b a)).1 f,f⟩
 keep:=fun b a=>⟨(x.keep b a).1,(e.fast (x.keep b a).1 (x.keep b a).2).1⟩
theorem aos.next(W:tT wr fp bh)(x:aos wr fp bh nm ac env ρ i σ g s){h':Heap}{tk j:Nat}(f:∀b o,b∉wr->s.heap.get? b=some o->h'.get? b=some o)(k:bh j h') :
  aos wr fp bh nm ac env ρ j σ g {s with heap:=h',toks:=tk}/\Ext (·∈wr) g s g {s with heap:=h',toks:=tk}:=by
 have h:=W.live j h' k;have e:Ext (·∈wr) g s g {s with heap:=h',toks:=tk}:=Ext.heap (fun b o e V a=>f b o a e) fun b a=>by
  by_cases d:b∈wr
  ·obtain⟨o,c,V⟩:=h b d;exact ec c
  ·obtain⟨o,c⟩:=gv.mp a;exact ec (f b o d c)
 have kept:gD g s.heap h':=fun b o e a=>f b o (fun q=>a.elim (x.off b q).1 (x.off b q).2) e;have l:∀b∈wr,¬e2 env b:=fun b a=>(x.keep b (W.sub b a)).1;refine⟨⟨x.rel.kept kept,x.fr.ext' x.rel e (fun b a=>x.off b a) (fun q=>l _ q (.inl rfl)) (fun y n ae q=>l _ q (.inr ⟨y,ae⟩)),k,x.off,h,fun b a=>⟨(x.keep b a).1,?_⟩⟩,e⟩;by_cases d:b∈wr
 ·obtain⟨o,c,m⟩:=h b d;exact⟨o,c,.inl ⟨(x.off b d).1,.inr m⟩⟩
 ·exact(x.keep b a).2.but fun o c=>f b o d c
def qB(env:Env)(wr:List Addr):Addr->Prop:=fun b=>e2 env b\/b∈wr
def Fw(A:Around)(t:dq)(bQ:Expr)(l:List an2)(nm:cA)(ac:dI)(env:Env)(wr fp:List Addr)(bh:Nat->Heap->Prop)(I:Addr)(gs:bS)(ss:Shared):Prop:=
 ∀(i:Nat) (s':Shared) (g':bS) (au:ah) (hK aN:List an2) (u:an2) (Q:Shared->Prop) (r0:Value->Shared->Prop),i<l.length->l[i]?=some u->aos wr fp bh nm ac env hK i au g' s'->Ext (qB env wr) gs ss g' s'->hW t u hK=some aN ->
  (∀s2,aos wr fp bh nm ac env aN (i+1) au g' s2->Ext (qB env wr) g' s' g' s2->Q s2) ->
  aS bq A (zV (.ref I)) (fun r s1=>match r with
   |none=>False
   |some v=>aS bq A (Dc bQ (.ref I) v) (fun V aaz=>aS bq A (assign bQ env v) (fun V s2=>Q s2) r0 aaz) r0 s1) r0 s'
def aaA(A:Around)(n:Nat)(wr:List Addr)(bh:Nat->Heap->Prop)(I:Addr):Prop:=
 ∀(s:Shared) (Q:Option Value->Shared->Prop) (E:Value->Shared->Prop),bh n s.heap->(∀h' tk,(∀b o,b∉wr->s.heap.get? b=some o->h'.get? b=some o)->Q none {s with heap:=h',toks:=tk})->aS bq A (zV (.ref I)) Q E s
variable {t:dq}{gs:bS}{ss:Shared}
theorem aaB{l:List an2}{e:ah}(o:A.handled=none)(W:Walks C.prog C.w A I fp [I] l.length P bh)(p:∀i h,bh i h->AZ h I)(b:kR nm ac t bQ=true)
  (q:aM e gs ss.heap) (r:∀i z u,P i z->l[i]?=some u->a9 gs ss.heap u z) (s:dZ (qB env [I]) gs) (g:tT [I] fp bh):Fw A t bQ l nm ac env [I] fp bh I gs ss:=by
 intro i s' v M N aN u Q O f y X B D E;refine W.item i s' _ _ f X.st fun z h' tk bB j F=>?_;refine a3 fun k=>?_;obtain⟨d,m⟩:=X.next g (tk:=tk) F j
 refine k ?_;clear k;refine MY (.inl (p (i+1) h' j)) (M' b) ?_;have G:=B.trans (m.mono fun a c=>.inr c);have H:a9 v h' u z:=h2 q G s (r i z _ bB y);refine EY (own:=e2 env) o d.fr.off (.inl rfl) b d.fr d.rel H (fun x V V R J=>.inr ⟨x,J⟩) D fun K bp L n=>?_;exact E K (d.body g n L bp) ((m.mono fun a c=>.inr c).trans (n.mono fun a c=>.inl c))
variable {ks:List Nat}
theorem aaC{body:List an2->ah->be fi}{x:an2}{xs:List an2}(h:g1 body t ks (x::xs) ρ σ=rr)(b:rr≠.bad):∃aN bv aj,hW t x (kill ks ρ)=some aN/\body aN σ=.ok bv aj /\
  (match bv.1 with
   |.next=>g1 body t ks xs bv.2 aj=rr
   |.ret v=>.ok (.ret v,bv.2) aj=rr):=by
 rw[Lv]at h;cases c:hW t x (kill ks ρ) with
 |none=>rw[c]at h;exact dk h.symm b
 |some aN=>
  rw[c]at h;simp only at h;cases a:body aN σ with
  |bad=>rw[a]at h;exact dk h.symm b
  |ok bv aj=>
   rw[a]at h;refine⟨aN,bv,aj,rfl,a,?_⟩;simp only[be.gz]at h;obtain⟨f,d⟩:=bv;cases f with
   |next=>exact h
   |ret v=>exact h
def Fx(J:Shared->Prop)(R:Result->Shared->Prop)(f:Flow)(mq:Shared):Prop:=match f with
 |.next|.cont=>J mq
 |.brk=>R (.ok .next) mq
 |.ret v=>R (.ok (.ret v)) mq
def aaD(A:Around)(env:Env)(bQ:Expr)(it:Value)(fY:List Stmt)(R:Result->Shared->Prop)(J:Shared->Prop)(E:Value->Shared->Prop)(r:Option Value)(s₁:Shared):Prop:=match r with
 |none=>aS bq A (z2 [] env) (fun f mq=>R (.ok f) mq) E s₁
 |some v=>aS bq A (Dc bQ it v) (fun V Bh=>aS bq A (assign bQ env v) (fun V s₂=>aS bq A (z2 fY env) (Fx J R) E s₂) E Bh) E s₁
variable {R:Result->Shared->Prop}{fY:List Stmt}
theorem aaE{it:Value}(I:Nat->Shared->Prop)(turn:∀(E:Value->Shared->Prop) n s,I n s->aS bq A (zV it) (aaD A env bQ it fY R (Bi I n) E) E s)(n:Nat)(h:I n s):sX bq A (.forLoop bQ it fY [] env) R s:=
 codeAny_forLoop_any I (fun n s h=>nO (turn _ n s h) (fun r a h₁=>by cases r with|none=>exact h₁|some v=>exact h₁) fun V V h=>h) n h
inductive Fy (c:bP)(body:dH)(t:dq)(ks:List Nat)(wr fp:List Addr)(bh:Nat->Heap->Prop)(nm:cA)(ac:dI)(env:Env)(l:List an2)(gs:bS)(ss:Shared)(rr:be fi)(k:Nat)(s':Shared):Prop
 |mk (i:Nat) (dj:bS) (eI:ah) (aol:List an2) (hi:i<=l.length) (aa:k=l.length-i) (X:aos wr fp bh nm ac env aol i eI dj s') (gP:Ext (qB env wr) gs ss dj s') (hr:g1 (cF c body) t ks (l.drop i) aol eI=rr):Fy c body t ks wr fp bh nm ac env l gs ss rr k s'
theorem NE{body:dH}{l:List an2}
  (b2:mv c d body) (aD:eG A d) (dF:tT wr fp bh) (hG:Fw A t bQ l nm ac env wr fp bh I gs ss) (cC:aaA A l.length wr bh I)
  (Fz:rr≠.bad) (FA:mh body nm ac fY=true)
  (fU:∀K σE,rr=.ok K σE->∀H L h' tk M,aM σE H h'->b8 nm ac env K.2 H h'->r3 H h' K.1 M->Ext (qB env wr) gs ss H L->(∀b o,b∉wr->L.heap.get? b=some o->h'.get? b=some o)->R (.ok M) {L with heap:=h',toks:=tk}) :
  ∀(k i:Nat) (m:bS) (J:Shared) (s:ah) (f:List an2),i<=l.length->k=l.length-i->aos wr fp bh nm ac env f i s m J->Ext (qB env wr) gs ss m J->g1 (cF c body) t ks (l.drop i) f s=rr ->
   sX bq A (.forLoop bQ (.ref I) fY [] env) R J:=by
 intro k i m J s f hi n oi z u;refine aaE (Fy c body t ks wr fp bh nm ac env l gs ss rr) ?_ k ⟨i,m,s,f,hi,n,oi,z,u⟩;clear u z oi n hi;rintro E k s' ⟨i,m,s,f,hi,rfl,X,z,u⟩;have N:∀b∈wr,¬e2 env b:=fun b B=>(X.keep b (dF.sub b B)).1;by_cases ed:i=l.length
 ·subst ed;rw[alg,Vv]at u;refine cC s' _ _ X.st fun h' tk n=>?_;have kept:gD m s'.heap h':=fun b o e B=>n b o (fun q=>B.elim (X.off b q).1 (X.off b q).2) e;have g:=X.fr.kill ks;have nc:b8 nm ac env (kill ks f) m h':=by
   refine a3 fun p=>?_;refine aw g.ns fun m' dE d0=>?_;refine p ?_;clear p;refine⟨g.kind,g.names,g.glob,g.blt,g.inj,⟨m',?_,fun x i v O P Q S=>?_⟩,fun x i O P=>?_,g.d7,g.gE,fun x T w=>?_,g.apart⟩
   ·obtain⟨o,es,ep,al,r⟩:=dE;exact⟨o,es,ep,n _ _ (fun q=>N _ q (.inl rfl)) al,r⟩
   ·obtain⟨y,w,C⟩:=d0 x i v O P Q S;exact⟨y,w,iN kept C⟩
   ·refine a3 fun p=>?_;obtain⟨T,o,w,⟨ob,C,U⟩,W⟩:=g.cl x i O P;refine p ?_;clear p;exact⟨T,o,w,⟨ob,n _ _ (fun q=>N _ q (.inr ⟨x,w⟩)) C,U⟩,fun v Q S=>by obtain⟨y,bu,br⟩:=W v Q S;exact⟨y,bu,iN kept br⟩⟩
   ·obtain⟨o,ob,C,U⟩:=g.g4 x T w;exact⟨o,ob,n _ _ (fun q=>N _ q (.inr ⟨x,w⟩)) C,U⟩
  exact IW (fU _ _ u.symm m s' h' tk .next (X.rel.kept kept) nc rfl z n)
 ·have j:i<l.length:=CU hi ed;have pl:l.drop i=l[i]::l.drop (i+1):=aoQ j;rw[pl]at u;refine a3 fun p=>?_;obtain⟨aN,⟨hH,fZ⟩,aj,B,Y,od⟩:=aaC u Fz;refine p ?_;clear p;refine nO (hG i s' m s (kill ks f) aN l[i] (fun Z=>aS bq A (z2 fY env) (Fx (Bi (Fy c body t ks wr fp bh nm ac env l gs ss rr) (l.length-i)) R) E Z) _ j (by simp[j]) (X.kill ks) z B fun Z x8 ar=>?_) (fun r s1 D=>?_) (fun V V h=>h);rotate_left
  ·cases r with
   |none=>exact D.elim
   |some v=>exact D
  have bp:=x8.fr;have bX:=x8.rel;have vB:=z.trans ar;refine b2 nm ac fY env aN s m Z A _ _ FA bp bX aD (hM.mk Y fun gg F M bo iO G hf=>?_);have x9:=x8.body dF bo iO G;have x':=vB.trans (bo.mono fun a ai=>.inl ai);have same:∀b o,b∉wr->F.heap.get? b=some o->F.heap.get? b=some o:=fun b o V e=>e;cases hH with
  |next=>cases hf;exact⟨l.length-(i+1),(Dr j),i+1,gg,aj,fZ,(Ag j),rfl,x9,x',od⟩
  |ret v=>
   obtain⟨x,rfl,aq⟩:=hf;exact fU _ _ od.symm gg F F.heap F.toks (.ret x) iO G ⟨x,rfl,aq⟩ x' same
variable {L:Addr->Prop}
theorem b8.lk(F:b8 nm ac env ρ g h):b8 nm ac env ρ (g.cP L) h:=
 ⟨F.kind,F.names,F.glob,F.blt,F.inj,by obtain⟨m,k,l⟩:=F.ns;exact⟨m,k,fun x i v a b c d=>by obtain⟨y,e,f⟩:=l x i v a b c d;exact⟨y,e,tJ f⟩⟩,
  fun x i a b=>by obtain⟨n,ob,e,f,j⟩:=F.cl x i a b;exact⟨n,ob,e,f,fun v c d=>by obtain⟨y,o,p⟩:=j v c d;exact⟨y,o,tJ p⟩⟩,F.d7,F.gE,F.g4,F.apart⟩
theorem r3.lk{b:Flow}(x:r3 g h f b):r3 (g.cP L) h f b:=by
 cases f with
 |ret v=>obtain⟨y,a,O⟩:=x;exact⟨y,a,tJ O⟩
 |_=>exact x
theorem Ext.NF{d:Addr->Prop}(x:Ext own g s g' s'){cc:bS}{f:Shared}(y:Ext d g' s' cc f)(hn:∀a,d a->own a\/s.heap.get? a=none):Ext own g s cc f:=
 let z:Ext (fun a=>own a\/d a) g s cc f:=(x.mono fun a h=>.inl h).trans (y.mono fun a h=>.inr h);have j:∀b o,s.heap.get? b=some o->¬own b->¬(own b\/d b):=fun b o e c q=>q.elim c fun q=>(hn b q).elim c fun q=>by rw[q]at e;cases e
 {z with keep:=fun b o e i c=>z.keep b o e i (j b o e c),i':=fun b o e i c=>z.i' b o e i (j b o e c)}
theorem Ext.NG(x:Ext own g s g' s'){tk:Nat}(a:∀b o,b∉wr->s'.heap.get? b=some o->h'.get? b=some o)(h:∀b∈wr,s.heap.get? b=none):Ext own g s g' {s' with heap:=h',toks:=tk}:=
 have hn:∀b o,s.heap.get? b=some o->b∉wr:=fun b o e q=>by rw[h b q]at e;cases e
 ⟨x.pre,x.sub,x.n2,x.n3,x.lock,fun b o e ay az=>by obtain⟨d,c,O⟩:=x.keep b o e ay az;exact⟨d,a b d (hn b o e) c,O⟩,fun b o e ay az=>a b o (hn b o e) (x.i' b o e ay az),fun b f=>by
  refine bK (gv.mp (x.live b f)) fun o i=>?_;refine bK (gv.mp f) fun j k=>?_;exact ec (a b o (hn b j k) i),x.gens,x.os⟩
theorem aaG{it:bE}{body:dH}(w:ci c d it)(b2:mv c d body):k5 c d (.ev t it body ks):=by
 intro nm ac st env ρ σ g s A Q E ae F R p j;refine a3 fun f=>?_;refine o3 (L5 ae) fun bQ k fY pos X=>?_;subst X;refine im (show (kR nm ac t bQ&&bn it nm ac k&&mh body nm ac fY)=true from ae) fun Y S Z=>?_;refine bZ j.gz fun v aj bv j=>?_;refine f ?_;clear f;cases hi:de aj v with
 |none=>rw[hi]at j;exact j.elim
 |some l=>
  rw[hi]at j;simp only at j;generalize hr:g1 (cF c body) t ks l ρ (bG aj v true)=rr at j;have Fz:rr≠.bad:=by rintro rfl;exact j
  ·refine wpAny_For (w nm ac k env 0 ρ σ g s A _ _ S F R p (cw.mk bv fun aB s1 x T aK y=>?_)) (fun x=>Bt (lF S));have aY:=F.ext R T;refine A0 p.hand aK y hi fun o fp P bh W st oc cq B=>?_;generalize fL:s1.heap.objs.size=I at *
   have k1:∀b ob,s1.heap.get? b=some ob->(s1.heap.push o).get? b=some ob:=fun b ob e=>gw _ e;have m:s1.heap.get? I=none:=fL▸get?_size _;have C:I∉aB.aL/\¬aB.bD I:=aK.fresh m;have kept:gD aB s1.heap (s1.heap.push o):=.ge k1;have bX:aM aj aB (s1.heap.push o):=aK.kept kept;have jf:aM (bG aj v true) (aB.cP (an8 aB v)) (s1.heap.push o):=Bb bX (Ba hi);have FD:Ext cG aB s1 aB {s1 with heap:=s1.heap.push o}:=Ext.all (tk:=s1.toks) k1;have bp:b8 nm ac env ρ (aB.cP (an8 aB v)) (s1.heap.push o):=(aY.ext aK FD).lk;have FE:∀b,e2 env b->b≠I:=fun b ab q=>by
    subst q;rcases ab with ab |⟨z,bB⟩
    ·refine a3 fun f=>?_;refine aw aY.ns fun m' dE V=>?_;refine bK (ry.live dE) fun o n=>?_;refine f ?_;clear f;rw[<- ab,m]at n;cases n
    ·refine a3 fun f=>?_;obtain⟨o,ob,n,V⟩:=aY.g4 z b bB;refine f ?_;clear f;rw[m]at n;cases n
   have U:∀b,x=.ref b->¬e2 env b/\Fast (aB.cP (an8 aB v)) s1.heap b:=by
    rintro b rfl;exact Bl aK aY y fun i aq hi=>.inr ⟨i,aq,hi⟩
   have D:tT [I] fp bh:=⟨W.sub,W.frame,fun i h fB b ab=>by
    refine a3 fun f=>?_;obtain⟨ob,V,ay,V,V,az⟩:=B i h fB;refine f ?_;clear f;rw[c3.mp ab];exact⟨ob,ay,az⟩⟩
   refine a3 fun f=>?_;obtain⟨G,V,H,V,V,J⟩:=B 0 _ st;refine f ?_;clear f;have oi:aos [I] fp bh nm ac env ρ 0 (bG aj v true) (aB.cP (an8 aB v)) {s1 with heap:=s1.heap.push o}:=
    ⟨jf,bp,st,(fun b ab=>by rw[c3.mp ab];exact C),D.live 0 _ st,fun b ab=>by
     rcases oc b ab with rfl|hx
     ·exact⟨fun q=>FE b q rfl,G,H,.inl ⟨C.1,.inr J⟩⟩
     ·exact⟨(U b hx).1,(U b hx).2.but fun ob az=>k1 b ob az⟩⟩
   have yc:dZ (qB env [I]) (aB.cP (an8 aB v)):=fun b ab=>by
    rcases ab with ab|ab
    ·exact aY.off b ab
    ·rw[c3.mp ab];exact C
   have Fc:∀i,v=.ref i->∃a,aB.aL[i]?=some a:=by
    rintro i rfl;exact(gL y).imp fun a q=>q.2
   refine NE b2 p D (aaB p.hand W B Y jf (fun i z u K O=>tJ (iN kept (cq i z u K O))) yc D) W.done Fz Z ?_ l.length 0 _ _ _ ρ (d4 _) rfl oi (Ext.refl _ _) hr;intro h9 σE FF r L h' tk fl yd cb hf ye aa;subst FF;have M:Ext (e2 env) (aB.cP (an8 aB v)) s1 r L:=Ext.NF (Ext.all (tk:=s1.toks) k1) ye fun a ai=>ai.imp id fun q=>by rw[c3.mp q];exact m
   have N:Ext (e2 env) (aB.cP (an8 aB v)) s1 r {L with heap:=h',toks:=tk}:=M.NG aa fun b ab=>by rw[c3.mp ab];exact m
   have pv:Ext (e2 env) aB s1 (r.cP aB.lk) {L with heap:=h',toks:=tk}:=N.tK fun b ab=>.inl ab;exact j (r.cP aB.lk) _ fl (T.weaken.trans pv) (Bc aK yd N.pre N.lock Fc (Ba hi)) cb.lk hf.lk
def aaL(A:Around)(env:Env)(fY:List Stmt)(R:Result->Shared->Prop)(J:Shared->Prop)(E:Value->Shared->Prop)(b:Bool)(s₂:Shared):Prop:=
 if b=true then aS bq A (z2 fY env) (Fx J R) E s₂ else aS bq A (z2 [] env) (fun f mq=>R (.ok f) mq) E s₂
theorem aaM(I:Nat->Shared->Prop)(turn:∀(E:Value->Shared->Prop) n s,I n s->aS bq A (C7 tt env (eval tt env)) (aaL A env fY R (Bi I n) E) E s)(n:Nat)(h:I n s):sX bq A (.whileLoop tt fY [] env) R s:=
 codeAny_whileLoop I (fun n s h=>nO (turn _ n s h) (fun b a h₁=>by cases b<;>exact h₁) fun V V h=>h) n h
inductive NH (c:bP)(t:bE)(body:dH)(ks:List Nat)(nm:cA)(ac:dI)(env:Env)(gs:bS)(ss:Shared)(h9:fi)(σE:ah)(n:Nat)(s':Shared):Prop
 |mk (dj:bS) (eI:ah) (aol:List an2) (gF:aM eI dj s'.heap) (cQ:b8 nm ac env aol dj s'.heap) (gP:Ext (e2 env) gs ss dj s') (hr:hY (bk c t 0) (cF c body) ks n aol eI=.ok h9 σE):NH c t body ks nm ac env gs ss h9 σE n s'
theorem aaN{t:bE}{body:dH}{l:fi}{σE:ah}(L:h4 c d t)(b2:mv c d body)(C:eG A d)
  (s:bn t nm ac tt=true) (M:mh body nm ac fY=true)
  (D:∀m i u,aM σE m i.heap->b8 nm ac env l.2 m i.heap->r3 m i.heap l.1 u->Ext (e2 env) gs ss m i->R (.ok u) i) :
  ∀(n:Nat) (g:bS) (j:Shared) (h:ah) (a:List an2),aM h g j.heap->b8 nm ac env a g j.heap->Ext (e2 env) gs ss g j->hY (bk c t 0) (cF c body) ks n a h=.ok l σE ->
   sX bq A (.whileLoop tt fY [] env) R j:=by
 intro n g j h a k o p e;refine aaM (NH c t body ks nm ac env gs ss l σE) ?_ n ⟨g,h,a,k,o,p,e⟩;clear e p o k;rintro E n s' ⟨g,h,a,k,o,p,e⟩;cases n with
 |zero=>cases e
 |succ n=>
  rw[u6]at e;have F:=o.kill ks;cases ht:bk c t 0 (kill ks a) h with
  |bad=>rw[ht]at e;cases e
  |ok b aj=>
   rw[ht]at e;simp only[be.bind]at e;cases w:dz aj b with
   |none=>rw[w]at e;cases e
   |some q=>
    rw[w]at e;refine L nm ac tt env (kill ks a) h g s' A _ _ s F k C (fk.mk ht w fun aB s1 G aK=>?_);have aY:=F.ext k G;have H:=p.trans G.weaken;cases q with
    |false=>
     refine bt (tF e) fun y z=>?_;subst y z;exact IW (D aB s1 .next aK aY rfl H)
    |true=>
     cases B:cF c body (kill ks a) aj with
     |bad=>rw[B]at e;cases e
     |ok r N=>
      rw[B]at e;obtain⟨f,O⟩:=r;refine b2 nm ac fY env (kill ks a) aj aB s1 A _ _ M aY aK C (hM.mk B fun cc P u Q I bp J=>?_);have K:=H.trans Q;cases f with
      |next=>cases J;exact⟨n,aog _,cc,N,O,I,bp,K,e⟩
      |ret v=>
       obtain⟨x,rfl,S⟩:=J;refine bt (tF e) fun y z=>?_;subst y z;exact D cc P (.ret x) I bp ⟨x,rfl,S⟩ K
theorem aaO{t:bE}{body:dH}(f:h4 c d t)(b2:mv c d body):k5 c d (.rI t body ks):=by
 intro nm ac st env ρ σ g s A Q E ae F R h a;refine a3 fun e=>?_;refine d5 (Wk ae) fun tt fY pos i=>?_;subst i;refine bt (h5 (show (bn t nm ac tt&&mh body nm ac fY)=true from ae)) fun j k=>?_;refine e ?_;clear e;have a:hM nm ac env g s (qj (bk c t 0) (cF c body) ks ρ σ) Q E:=a;cases b:qj (bk c t 0) (cF c body) ks ρ σ with
 |bad=>rw[b]at a;exact a.elim
 |ok u σE=>
  rw[b]at a;refine bK (Vy (test:=bk c t 0) (body:=cF c body) (ks:=ks) (ρ:=ρ) (σ:=σ) (by rw[b];intro q;cases q)) fun n hn=>?_;rw[b]at hn;refine wpAny_While (aaN f b2 h j k ?_ n g s σ ρ R F (Ext.refl g s) hn);intro l m o aK aY p r;exact a l m o r aK aY p
end
section
open PySem PyProof.Rows PySem.SeqAt
variable {c:bP}{σ au aj σE:ah}{g g' aB:bS}{h h':Heap}{s s' s1:Shared}{own:Addr->Prop}{A:Around}{d:Nat}{nm:cA}{ac:dI}{env:Env}{ρ:List an2}
 {Q:Flow->Shared->Prop} {E:Value->Shared->Prop} {I:Addr} {wr fp:List Addr} {bh:Nat->Heap->Prop} {Pt:Nat->Array Value->Prop} {Mid:Nat->Addr->Heap->Prop}
variable {is:List Nat}{es:List Expr}{ctx n:Nat}{p:Pos}{l:List an2}
theorem aaP{gs:bS}{ss:Shared}{k:ah}(D:A.handled=none)(W:WalksT C.prog C.w A I fp wr l.length Pt bh Mid)(m:jF nm ac is es=true)
  (E:aM k gs ss.heap) (F:∀i vals u,Pt i vals->l[i]?=some u->∃c,u=.tup c/\an6 gs ss.heap c vals.toList) (G:dZ (qB env wr) gs) (t:tT wr fp bh):Fw A (.many is) (.Tuple es ctx p) l nm ac env wr fp bh I gs ss:=by
 intro i s' H eI J aN u Q r0 n K X L h M;refine W.item i s' _ _ n X.st fun T vals d ji N P R v S=>?_;refine W.go es ctx p i T {s' with heap:=d,toks:=ji} _ _ v fun O U y=>?_;have q:=W.apart i T d v;refine bt (X.next t (tk:=ji) (fun b o h e=>y b o h (S b o h e)) U) fun j z=>?_
 refine aw (F i vals u N K) fun c Y Z=>?_;subst Y;have qw:=L.trans (z.mono fun a f=>.inr f);have aq:an6 H O c vals.toList:=xL E qw G Z;have r:O.IsTuple T vals:=by obtain⟨o,ay,az⟩:=R;exact⟨o,y T o q ay,az⟩
 have s:(if c.length=is.length then some (nT J is c) else none)=some aN:=h;split at s
 ·rename_i g;cases s;refine MX (own:=e2 env) D j.fr.off (.inl rfl) m j.fr j.rel r aq (fun x V V aH fW=>.inr ⟨x,fW⟩) g fun s2 bp bX B=>?_;exact M s2 (j.body t B bX bp) ((z.mono fun a f=>.inr f).trans (B.mono fun a f=>.inl f))
 ·cases s
variable {v:an2}
theorem aaS{b:Bool}{j:Nat}:iH (bG σ v b)[j]?=iH σ[j]?:=by
 cases v<;>try rfl
 show iH (gb σ n b)[j]?=_;by_cases e:j=n
 ·subst e;rw[E0];cases σ[j]? with
  |none=>rfl
  |some o=>cases o<;>rfl
 ·rw[EZ e]
structure FI (A:Around)(h0 h':Heap)(I:Addr)(wr fp:List Addr)(n:Nat)(Pt:Nat->Array Value->Prop)(bh:Nat->Heap->Prop)(Mid:Nat->Addr->Heap->Prop)(ls:List Addr):Prop where
 W:WalksT C.prog C.w A I fp wr n Pt bh Mid
 st:bh 0 h'
 live:∀i h,bh i h->∀b∈wr,∃o,h.get? b=some o/\kS o=false
 new:∀b∈wr,h0.get? b=none
 aaT:∀b∈fp,(h0.get? b=none/\∃o,h'.get? b=some o/\kS o=false)\/b∈ls
theorem NJ{body:dH}{ks:List Nat}{fY:List Stmt}{h vb:an2}{ls:List Addr}{m:fi}(b2:mv c d body)(F:eG A d)(aY:b8 nm ac env ρ aB s1.heap)(aK:aM aj aB s1.heap)
  (w:∀b∈ls,a9 aB s1.heap h (.ref b)\/a9 aB s1.heap vb (.ref b)) (G:∀i,h=.ref i->iH aj[i]?≠.undef) (P:∀i,vb=.ref i->iH aj[i]?≠.undef) (x:∀i,h=.ref i->∃a,aB.aL[i]?=some a) (R:∀i,vb=.ref i->∃a,aB.aL[i]?=some a)
  (k1:∀b o,s1.heap.get? b=some o->h'.get? b=some o) (Z:FI A s1.heap h' I wr fp l.length Pt bh Mid ls)
  (S:∀i vals u,Pt i vals->l[i]?=some u->∃n,u=.tup n/\an6 aB s1.heap n vals.toList) (T:jF nm ac is es=true) (U:mh body nm ac fY=true)
  (X:g1 (cF c body) (.many is) ks l ρ (bG (bG aj h true) vb true)=.ok m σE)
  (Y:∀g' s' s,Ext (e2 env) aB s1 g' s'->aM (bG (bG σE vb (c' (bG aj h true) vb)) h (c' aj h)) g' s'.heap->b8 nm ac env m.2 g' s'.heap->r3 g' s'.heap m.1 s->Q s s') :
  sX bq A (.forLoop (.Tuple es ctx p) (.ref I) fY [] env) (fun r s'=>match r with|.ok f=>Q f s'|.error e=>cameBackBy bq A env E e s') {s1 with heap:=h'}:=by
 have kept:gD aB s1.heap h':=.ge k1;have bX:aM aj aB h':=aK.kept kept;have H:aM (bG aj h true) (aB.cP (an8 aB h)) h':=Bb bX G;have J:∀i,vb=.ref i->iH (bG aj h true)[i]?≠.undef:=fun i e=>by rw[aaS];exact P i e
 have K:=Bb H (v:=vb) J;have FD:Ext cG aB s1 aB {s1 with heap:=h'}:=Ext.all (tk:=s1.toks) k1;have bp:b8 nm ac env ρ ((aB.cP (an8 aB h)).cP (an8 (aB.cP (an8 aB h)) vb)) h':=((aY.ext aK FD).lk).lk;have M:∀b∈wr,b∉aB.aL/\¬aB.bD b:=fun b j=>aK.fresh (Z.new b j);have N:tT wr fp bh:=⟨Z.W.sub,Z.W.frame,Z.live⟩;have FE:∀b,e2 env b->s1.heap.get? b≠none:=fun b j q=>by
  rcases j with j |⟨z,bB⟩
  ·refine aw aY.ns fun m' dE V=>?_;refine bK (ry.live dE) fun o k=>?_;rw[<- j,q]at k;cases k
  ·obtain⟨o,ob,k,V⟩:=aY.g4 z b bB;rw[q]at k;cases k
 have oi:aos wr fp bh nm ac env ρ 0 (bG (bG aj h true) vb true) ((aB.cP (an8 aB h)).cP (an8 (aB.cP (an8 aB h)) vb)) {s1 with heap:=h'}:=
  ⟨K,bp,Z.st,M,Z.live 0 _ Z.st,fun b j=>by
   rcases Z.aaT b j with⟨ay,o,az,bA⟩|q
   ·exact⟨fun q=>FE b q ay,o,az,.inl ⟨(aK.fresh ay).1,.inr bA⟩⟩
   ·rcases w b q with v1|v1
    ·have:=Bl (L:=an8 (aB.cP (an8 aB h)) vb) aK aY v1 fun i y B=>.inl (.inr ⟨i,y,B⟩);exact⟨this.1,this.2.but fun o k=>k1 b o k⟩
    ·have:=Bl (L:=an8 (aB.cP (an8 aB h)) vb) aK aY v1 fun i y B=>.inr ⟨i,y,B⟩;exact⟨this.1,this.2.but fun o k=>k1 b o k⟩⟩
 have yc:dZ (qB env wr) ((aB.cP (an8 aB h)).cP (an8 (aB.cP (an8 aB h)) vb)):=fun b j=>j.elim (aY.off b) (M b);refine NE (rr:=.ok m σE) b2 F N (aaP F.hand Z.W T K (fun i vals u C O=>?_) yc N) Z.W.done (fun q=>nomatch q) U ?_ l.length 0 _ _ _ ρ (d4 _) rfl oi (Ext.refl _ _) X
 ·refine aw (S i vals u C O) fun n e FH=>?_;exact⟨n,e,x2 (x2 (lD kept FH))⟩
 intro an ap FF fo sn O tk s yd cb hf ye aa;cases FF;have D:Ext (e2 env) ((aB.cP (an8 aB h)).cP (an8 (aB.cP (an8 aB h)) vb)) s1 fo sn:=Ext.NF (Ext.all (tk:=s1.toks) k1) ye fun a ai=>ai.imp id fun q=>Z.new a q;have t:=D.NG (tk:=tk) aa Z.new;have pv:=Ext.tK (g:=aB.cP (an8 aB h)) t fun b j=>.inl j;have Bv:=Ext.tK (g:=aB) (L:=an8 aB h) pv fun b j=>.inl j;have Ru:=Bc (v:=vb) H yd t.pre t.lock R J;have Rv:=Bc (v:=h) aK Ru t.pre rfl x G;exact Y _ _ s Bv Rv cb.lk.lk hf.lk.lk
variable {a:Addr}{h0:Heap}{xs:Array Value}
theorem aaY{b:Addr}{h':Heap}{g:Array Value}(hn:n=h0.objs.size)(m:a<n)(p:b<n)(v:A.handled=none)(f:IsZip h' (n+4) (n+2) (n+3) .none)(O:IsPair h' (n+2) (.ref n) (.ref (n+1)))(s:IsPair h' (n+3) .none .none)(t:h'.IsListIter n a 0)(u:h'.IsListIter (n+1) b 0)(w:h'.IsList a xs)(z:h'.IsList b g) :
  ∃Pt bh Mid,FI A h0 h' (n+4) [n+4,n+3,n,n+1] [n+4,n+2,n+3,n,n+1,a,b] (min xs.size g.size) Pt bh Mid [a,b]/\∀i vals,Pt i vals->∃x y,xs[i]?=some x/\g[i]?=some y/\vals=#[x,y]:=by
 have D:ZipApart (n+4) (n+2) (n+3) n (n+1) a b:=
  ⟨o2 (n:=n) (i:=2) (j:=4) (by decide),o2 (n:=n) (i:=3) (j:=4) (by decide),o2 (n:=n) (i:=0) (j:=4) (by decide),o2 (n:=n) (i:=1) (j:=4) (by decide),o2 (n:=n) (i:=2) (j:=3) (by decide),o2 (n:=n) (i:=2) (j:=0) (by decide),o2 (n:=n) (i:=2) (j:=1) (by decide),o2 (n:=n) (i:=3) (j:=0) (by decide),o2 (n:=n) (i:=3) (j:=1) (by decide),o2 (n:=n) (i:=0) (j:=1) (by decide),rB m 4,rB m 3,rB m 0,rB m 1,rB p 4,rB p 3,rB p 0,rB p 1⟩
 have c:∀k,n<=k->h0.get? k=none:=fun k B=>get?_le (hn▸B);have r:∀{h:Heap} {i l:Addr} {k:Nat},h.IsListIter i l k->∃o,h.get? i=some o/\kS o=false:=fun ⟨ob,ay,az,C⟩=>⟨ob,ay,by show qp ob.data=false;rw[C];rfl⟩;refine⟨_,_,_,⟨WalksT.zip2 v _ _ _ _ _ _ _ D xs g,⟨f,O,⟨_,_,s⟩,t,u,w,z⟩,fun i h st q d=>?_,fun q d=>?_,fun q d=>?_⟩,fun i vals E=>E⟩
 ·obtain⟨s1,I,⟨x,y,F⟩,G,H,V⟩:=st;simp only[dG,rv,or_false]at d;rcases d with rfl|rfl|rfl|rfl
  ·exact⟨_,s1,rfl⟩
  ·exact⟨_,F,rfl⟩
  ·exact r G
  ·exact r H
 ·simp only[dG,rv,or_false]at d;rcases d with e|e|e|e
  ·exact e▸c _ (bO n 4)
  ·exact e▸c _ (bO n 3)
  ·exact e▸c _ (cu n)
  ·exact e▸c _ (bO n 1)
 ·simp only[dG,rv,or_false]at d;rcases d with e|e|e|e|e|e|e
  ·exact .inl (e▸⟨c _ (bO n 4),_,f,rfl⟩)
  ·exact .inl (e▸⟨c _ (bO n 2),_,O,rfl⟩)
  ·exact .inl (e▸⟨c _ (bO n 3),_,s,rfl⟩)
  ·exact .inl (e▸⟨c _ (cu n),r t⟩)
  ·exact .inl (e▸⟨c _ (bO n 1),r u⟩)
  ·exact .inr (e▸cW)
  ·exact .inr (e▸dM _ cW)
theorem aaZ{h':Heap}(hn:n=h0.objs.size)(f:a<n)(m:A.handled=none)(c:IsEnum h' (n+1) n 0 .none)(g:h'.IsListIter n a 0)(p:h'.IsList a xs) :
  ∃Pt bh Mid,FI A h0 h' (n+1) [n+1,n] [n+1,n,a] xs.size Pt bh Mid [a]/\∀i vals,Pt i vals->∃t x,xs[i]?=some x/\vals=#[.int i t,x]:=by
 have d:∀k,n<=k->h0.get? k=none:=fun k r=>get?_le (hn▸r);have j:∀{h:Heap} {i l:Addr} {k:Nat},h.IsListIter i l k->∃o,h.get? i=some o/\kS o=false:=fun ⟨ob,ay,az,s⟩=>⟨ob,ay,by show qp ob.data=false;rw[s];rfl⟩;refine⟨_,_,_,⟨WalksT.enumerate m (n+1) n a (Nat.succ_ne_self n) (gV (j7 f)) (gV f) xs,⟨⟨_,c⟩,g,p⟩,fun i h st q b=>?_,fun q b=>?_,fun q b=>?_⟩,fun i vals u=>u⟩
 ·obtain⟨⟨V,s1⟩,v,V⟩:=st;simp only[dG,rv,or_false]at b;rcases b with rfl|rfl
  ·exact⟨_,s1,rfl⟩
  ·exact j v
 ·simp only[dG,rv,or_false]at b;rcases b with e|e
  ·exact e▸d _ (bO n 1)
  ·exact e▸d _ (cu n)
 ·simp only[dG,rv,or_false]at b;rcases b with e|e|e
  ·exact .inl (e▸⟨d _ (bO n 1),_,c,rfl⟩)
  ·exact .inl (e▸⟨d _ (cu n),j g⟩)
  ·exact .inr (e▸cW)
theorem FJ(hi:eZ σ v=some l):∀i,v=.ref i->iH σ[i]?≠.undef:=by
 rintro i rfl e;have hi:ke (iH σ[i]?)=some l:=hi;rw[e]at hi;cases hi
theorem FK{x:Value}(b:a9 g h v x):∀i,v=.ref i->∃a,g.aL[i]?=some a:=by
 rintro i rfl;exact(gL b).imp fun a q=>q.2
theorem aa0(n:Nat)(l:List an2):(pc n l).length=l.length:=by
 induction l generalizing n with
 |nil=>rfl
 |cons x l ih=>exact dt (·+1) (ih (n+1))
theorem aa1(n:Nat)(l:List an2)(i:Nat):(pc n l)[i]?=(l[i]?).map fun x=>.tup [.int ((n+i:Nat):Int),x]:=by
 induction l generalizing n i with
 |nil=>rfl
 |cons x l ih=>cases i with
  |zero=>rfl
  |succ i=>
   show (pc (n+1) l)[i]?=(l[i]?).map _;rw[ih (n+1) i,uM n 1 i];rfl
theorem aa2(K:C.OK)(z:Bool):C.mb (vc z)=some (.type (bif z then "zip" else "enumerate")):=by
 cases z<;>(rw[K.builtins _ (by decide)];decide +kernel)
theorem aa3(K:C.OK)(X:jN c d){z:Bool}{is:List Nat}{args:c4}{body:dH}{ks:List Nat}(A':m7 c d args)(b2:mv c d body):k5 c d (.qf z is args body ks):=by
 intro nm ac st env ρ σ g s A Q E ae F R D h;refine a3 fun m=>?_;refine o3 (L5 ae) fun bQ T fY pos U=>?_;subst U;refine im (show (kR nm ac (.many is) bQ&&(aU (pf T) fun q=>aU (fK q.1.1) fun x=>hZ (nm.lookup x.1.1)&&x.1.1==vc z&&gA x.1.1&&fj args nm ac q.1.2.1)&&mh body nm ac fY)=true from ae) fun G V cK=>?_;refine d5 (rS G) fun es ctx p H=>?_;subst H;refine d5 (nZ V) fun fe as W H=>?_;subst H;refine hv (jI V) fun x np k=>?_;subst k;refine uT (show (hZ (nm.lookup x)&&x==vc z&&gA x&&fj args nm ac as)=true from V) fun iP P x1 Y=>?_;refine bZ h.gz fun vs aj bv h=>?_;refine m ?_;clear m;have P:x=vc z:=by simpa using P
 have G:jF nm ac is es=true:=G;cases bB:AF aj z vs with
 |none=>rw[bB]at h;exact h.elim
 |some q=>
 obtain⟨l,j,vb⟩:=q;rw[bB]at h;have h:hM nm ac env g s (rO (hX j (c' aj j) (hX vb (c' (bG aj j true) vb) (g1 (cF c body) (.many is) ks l ρ (bG (bG aj j true) vb true))))) Q E:=h;cases S:g1 (cF c body) (.many is) ks l ρ (bG (bG aj j true) vb true) with
 |bad=>rw[S]at h;exact h.elim
 |ok h9 σE=>
 rw[S]at h;have Bz:hM nm ac env g s (.ok h9 (bG (bG σE vb (c' (bG aj j true) vb)) j (c' aj j))) Q E:=h;refine wpAny_For ?_ (fun x=>Bt rfl);rw[xX];refine a6 (ET K X F R iP x1 (P▸(by cases z<;>decide)) (P▸aa2 K z) ?_);refine alb (xW args as Y) (tI Y (A' nm ac as env 0 ρ σ g s A W _ _ Y F R D (m6.mk bv fun aB s1 xs ak aK v1=>?_)));have aY:=F.ext R ak;have lt:∀{a:Addr} {aP:Array Value},s1.heap.IsList a aP->a<s1.heap.objs.size:=fun ⟨o,al,_⟩=>j8 al;cases z with
 |true=>
  refine a3 fun m=>?_;obtain⟨⟨a,b⟩,ar,bB⟩:=eN.mp (show ((xt vs).bind fun p=>(eZ aj p.1).bind fun l=>(eZ aj p.2).map fun r=>(CY (fun x y=>an2.tup [x,y]) l r,p.1,p.2))=some (l,j,vb) from bB);refine aw (eN.mp bB) fun I J bB=>?_;refine aw (dh.mp bB) fun lb w bB=>?_;cases bB;refine db (EK ar v1) fun lH BA k n hE=>?_;subst k;refine db (n7 aK J n) fun a1 L k v M=>?_;subst k;refine db (n7 aK w hE) fun a2 NO k l2 e5=>?_;subst k;refine m ?_;clear m;refine call_zip_2 v l2 fun h' N fm qu vJ Br ew B=>?_;refine Jn (aaY (A:=A) (h0:=s1.heap) rfl (lt v) (lt l2) D.hand N fm qu vJ Br (v.at fun o e=>B _ o e) (l2.at fun o e=>B _ o e)) fun Pt bh Mid Z yn=>?_;have hn:min L.size NO.size=(CY (fun x y=>an2.tup [x,y]) I lb).length:=by rw[List.length_zipWith,M.size,e5.size]
  rw[hn]at Z;refine wpAny_pyIter_zip N ?_;refine NJ b2 D aY aK (fun b w=>?_) (FJ J) (FJ w) (FK n) (FK hE) B Z (fun i vals u hi f=>?_) G cK S fun g' s' fl eH ay az bA=>Bz g' s' fl (ak.weaken.trans eH) ay az bA
  ·rcases dG.mp w with e|e
   ·rw[e];exact .inl n
   ·rw[c3.mp e];exact .inr hE
  ·refine db (yn i vals hi) fun x y k1 df U=>?_;subst U;rw[alo]at f;cases ay:I[i]? with
   |none=>rw[ay]at f;cases f
   |some pa=>
    cases az:lb[i]? with
    |none=>rw[ay,az]at f;cases f
    |some pb=>
     rw[ay,az]at f;cases f;refine aw (M.get ay) fun lH O av=>?_;refine aw (e5.get az) fun BA aO cy=>?_;have FL:L.toList[i]?=some x:=by simpa using k1
     have an:NO.toList[i]?=some y:=by simpa using df
     rw[FL]at O;cases O;rw[an]at aO;cases aO;exact⟨_,rfl,.cons av (.cons cy .nil)⟩
 |false=>
  refine a3 fun m=>?_;refine aw (eN.mp (show ((one vs).bind fun a=>(eZ aj a).map fun l=>(pc 0 l,a,an2.none))=some (l,j,vb) from bB)) fun a ar bB=>?_;refine aw (dh.mp bB) fun I J bB=>?_;cases bB;refine aw (mn ar v1) fun lH a5 n=>?_;subst a5;refine db (n7 aK J n) fun a1 L k v M=>?_;subst k;refine m ?_;clear m;refine call_enumerate_list v fun h' N vJ ew B=>?_;refine Jn (aaZ (A:=A) (h0:=s1.heap) rfl (lt v) D.hand N vJ (v.at fun o e=>B _ o e)) fun Pt bh Mid Z yn=>?_;have hn:L.size=(pc 0 I).length:=by rw[aa0,M.size]
  rw[hn]at Z;refine wpAny_pyIter_enum N ?_;refine NJ (vb:=.none) b2 D aY aK (fun b w=>?_) (FJ J) (fun i q=>nomatch q) (FK n) (fun i q=>nomatch q) B Z (fun i vals u hi f=>?_) G cK S fun g' s' fl eH ay az bA=>Bz g' s' fl (ak.weaken.trans eH) ay az bA
  ·rw[c3.mp w];exact .inl n
  ·refine bZ (yn i vals hi) fun t x k1 H=>?_;subst H;rw[aa1]at f;cases ay:I[i]? with
   |none=>rw[ay]at f;cases f
   |some pa=>
    rw[ay]at f;cases f;refine aw (M.get ay) fun lH O av=>?_;have FL:L.toList[i]?=some x:=by simpa using k1
    rw[FL]at O;cases O;refine⟨_,rfl,.cons ?_ (.cons av .nil)⟩;rw[mT];exact .int ..
theorem aa6{b:dH}(b2:mv c d b):k5 c d (.u0 b):=by
 intro nm ac st env ρ σ g s A Q E ae F R k a;refine d5 (Wo ae) fun body h pos l=>?_;subst l;refine bt (h5 (show (!List.isEmpty h&&mh b nm ac body)=true from ae)) fun m n=>?_;cases h with
 |nil=>cases m
 |cons h0 u=>
 have a:hM nm ac env g s (rO (cF c b ρ σ)) Q E:=a;cases e:cF c b ρ σ with
 |bad=>rw[e]at a;exact a.elim
 |ok v σE=>
 rw[e]at a;refine wpAny_Try_except (b2 nm ac body env ρ σ g s A _ _ n F R k (hM.mk e fun o p i q r f t=>?_));have j:=a o p i q r f t;cases i with
 |next=>exact IW j
 |_=>exact j
end
section
open PySem PyProof.Rows PySem.SeqAt
variable {c:bP}{σ au aj:ah}{g g':bS}{h h':Heap}{s s':Shared}{A:Around}{d:Nat}{nm:cA}{ac:dI}{env:Env}{ρ:List an2}{E:Value->Shared->Prop}
noncomputable abbrev tW(dJ y:Str)(p2 p3 p4 jD jE:Pos):Expr:=.Call (.Name "abs" p2) [.Subscript (.Name dJ p3) (.Name y p4) jD] [] jE
noncomputable abbrev tX(y:Str)(i9:Pos):Arguments:=⟨[],[⟨y,none,i9⟩],none,[],[],none,[]⟩
variable {α β:Type}
theorem NP:∀(ns:List Str) (vs:List α) (i:Nat) (n:Str) (v:α),ns.Nodup->ns[i]?=some n->vs[i]?=some v->(ns.zip vs).lookup n=some v:=by
 intro ns
 induction ns with
 |nil=>exact fun V V V V V h=>dS h
 |cons m ns ih=>
  intro vs i n v hn a O;cases vs with
  |nil=>cases O
  |cons w vs=>
  rw[mR]at hn;rw[ao7,i4];cases i with
  |zero=>cases a;cases O;rw[ef]
  |succ i=>
   rw[beq_eq_false_iff_ne.mpr fun(q:n=m)=>hn.1 (q▸ik a)];exact ih vs i n v hn.2 a O
variable {ns:List Str}
theorem aa7{vs:List α}(hn:ns.Nodup)(b:vs.length=ns.length){n:Str}(h:n∈ns):((ns.zip vs).lookup n).isSome=true:=by
 refine bK (Ix h) fun i hi=>?_;have a:=(dN.mp hi).1;rw[NP ns vs i n (vs[i]' (Ju b a)) hn hi (by simp)];rfl
theorem aa8{f g:α->Option β}{l:List α}(h:∀x∈l,f x=g x):l.filterMap f=l.filterMap g:=by
 induction l with
 |nil=>rfl
 |cons x l ih=>rw[j',j',h x (cW ..),ih fun y a=>h y (dM _ a)]
theorem aa9:∀(ns:List Str) (vs:List α),ns.Nodup->vs.length=ns.length->ns.filterMap (fun n=>((ns.zip vs).lookup n).map (n,·))=ns.zip vs:=by
 intro ns
 induction ns with
 |nil=>exact fun vs V V=>rfl
 |cons n ns ih=>
  intro vs hn a;cases vs with
  |nil=>cases a
  |cons v vs=>
  rw[mR]at hn;rw[j',ao7,i4];simp only[ef,S4]
  congr 1
  refine Eq.trans ?_ (ih vs hn.2 (IN a));refine aa8 fun m b=>?_;have:(m==n)=false:=by rw[beq_eq_false_iff_ne];rintro rfl;exact hn.1 b
  rw[i4,this]
variable {j:Nat}
theorem aba{k:Nat}{f:Str×Value->β->Sem (ForInStep β)}{b:β}:forIn ((ns.drop j).zip (List.drop k ([]:List Value))) b f=(pure b:Sem β):=by rw[List.drop_nil,List.zip_nil_right];rfl
theorem NQ{fd:FuncData}{as:List Arg}{kd e}{vals:List Value}(a:fd.params=⟨[],as,none,[],kd,none,e⟩)(b:fd.defaults=.none)(hn:(as.map (·.arg)).Nodup)(c:vals.length=(as.map (·.arg)).length):Tv fd ⟨vals,[]⟩=pure ((as.map (·.arg)).zip vals):=by
 obtain⟨name,i,params,body,scope,j,k,d,f,doc,pm,g,code,l,o⟩:=fd;have a:params=_:=a;have b:d=_:=b;subst a b;refine(b5 ?_).trans ((b5 ?_).trans ?_)
 ·show ¬((decide (vals.length > (as.map (·.arg)).length)&&true)=true);rw[c,zU];intro q;exact kD _ (ct q)
 ·show ¬((!(((as.map (·.arg)).take _).filter fun n=>(((as.map (·.arg)).zip vals).lookup n).isNone).isEmpty)=true);rw[List.filter_eq_nil_iff.mpr fun n h q=>by
   have:=aa7 hn c (IZ h);rw[IP]at q;rw[q]at this;cases this]
  intro q;cases q
 ·refine(dt (fun m=>m >>= _) aba).trans ?_;show (pure (((as.map Arg.arg)++[]).filterMap fun n=>(((as.map Arg.arg).zip vals).lookup n).map (n,·)):Sem (List (Str×Value)))=_;rw[il,aa9 _ _ hn c]
structure NS (sc:Scope)(dJ y:Str):Prop where
 kind:sc.kind=.function
 co:sc.isCoroutine=false
 gen:sc.isGenerator=false
 cell:∀x∈sc.names,x.2≠.cell
 NT:sc.names.lookup y=some .local
 NU:sc.names.lookup dJ=some .free
 va:sc.names.lookup ("abs":Str)=some .globalImplicit
 py:gA y=true
 jQ:gA dJ=true
variable {dJ y:Str}{sc:Scope}
theorem abd{f d r ra:Addr}{q:Str}{p2 p3 p4 jD jE g:Pos}{i:List (Str×Addr)}{pm w:Value}{vs:Array Value}{k:Int}{x:Int}{t t0:Tok}{Q:Value->Shared->Prop}{mg mb:Str->Option Value}(L:NS sc dJ y)
  (D:s.heap.get? f=some (I0 "<lambda>" q (tX y g) (tW dJ y p2 p3 p4 jD jE) sc i pm d w)) (F:s.heap.CodeRec (.ref d) q) (j:A.depth<recursionLimit) (G:s.heap.NoLimit)
  (H:i.lookup dJ=some r) (I:s.heap.IsCell r (some (.ref ra))) (J:s.heap.IsList ra vs) (K:0<=k) (l:k<=1000000) (M:vs[k.toNat]?=some (.int x t))
  (N:s.heap.Ns gr mg) (O:s.heap.Ns mL mb) (m:mg "abs"=none) (P:mb "abs"=some (.builtin "abs"))
  (R:∀h' tk S,(∀b o,s.heap.get? b=some o->h'.get? b=some o)->Q (.int (x.natAbs:Int) S) {s with heap:=h',toks:=tk}) :
  aS bq A (call (.ref f) [.int k t0]) Q E s:=by
 refine wpAny_call (PySem.W.kla_callFunE j D rfl L.co L.gen rfl F ?_);have n:Tv (alp "<lambda>" q (tX y g) (tW dJ y p2 p3 p4 jD jE) sc i pm (.ref d) w) ⟨[.int k t0],[]⟩=pure [(y,.int k t0)]:=NQ (as:=[⟨y,none,g⟩]) rfl rfl (mR.mpr ⟨(fun q=>eO q),sY⟩) rfl;refine wpAny_of_eq n ?_;refine wpAny_newFunctionEnv L.cell (fun z bB=>by rw[c3.mp bB];exact L.NT) (fun a fM B=>⟨G.fresh _ B,?_⟩) L.kind;have c:∀b o,s.heap.get? b=some o->a.get? b=some o:=fun b o e=>B.extBut b o (gV (j8 e)) (gw _ e);refine PySem.W.kla_codeExpr ?_;rw[xX];refine a6 (C' L.kind L.va (ala (N.keeps c) m (O.keeps c) P ?_) (by decide));refine Th rfl (ak8 (C9 ?_));refine Subscript_ (Td (ak3 L.kind L.NU H (I.keeps c) ?_ (MO L.jQ)) (tG L.jQ));have p:(fun z=>alq z [(y,alr k t0)].reverse) y=some (.int k t0):=by
  show alq y [(y,alr k t0)]=some _;rw[i4,ef]
 refine Td (ak2 (v:=.int k t0) L.kind L.NT fM p ?_) (tG L.py);have C:a.IsList ra vs:=J.at fun o e=>c _ o e;refine tail_any (s:={s with heap:=a,toks:=s.toks+1}) C.typeIs S3.lookup (akw C K (Dn l) M ?_) rfl;refine IM ?_;refine call_abs_int fun u tk=>?_;have e:(if x<0 then -x else x)=(x.natAbs:Int):=by
  split
  ·rename_i h;exact(Io (gY h)).symm
  ·rename_i h;exact(zM (hR.mp h)).symm
 rw[e];exact R a tk u c
theorem NW{done:List α}{k a:α}(e:(done++[k])[j]?=some a):(j<done.length/\done[j]?=some a)\/(j=done.length/\a=k):=by
 rcases z3 j done.length with am|am|am
 ·rw[mS am]at e;exact .inl ⟨am,e⟩
 ·subst am;rw[nP (cu _),p7]at e;cases e;exact .inr ⟨rfl,rfl⟩
 ·rw[nN (by rw[bW];exact am)]at e;cases e
abbrev NX(xs ks:List Int)(hN:Nat)(pC:Int):Prop:=∀(j:Nat) fN,ks[j]?=some fN->∃q,jB xs fN=some q/\pC<=q/\(j<hN->pC<q)
theorem abj(xs:List Int){r:Int}(ks:List Int):∀(done:List Int) (b kb:Int) (f:Nat),nW xs b kb ks=some r->done[f]?=some b->jB xs b=some kb->NX xs done f kb ->
  ∃(hN:Nat) (s:Int),(done++ks)[hN]?=some r/\jB xs r=some s/\NX xs (done++ks) hN s:=by
 induction ks with
 |nil=>
  intro done b kb f h a O l;cases h;rw[il];exact⟨f,kb,a,O,l⟩
 |cons k ks ih=>
  intro done b kb f h a O l;refine a3 fun m=>?_;refine aw (eN.mp (show ((jB xs k).bind fun q=>bif decide (q<kb) then nW xs k q ks else nW xs b kb ks)=some r from h)) fun q n h=>?_;rw[show done++k::ks=(done++[k])++ks by rw[ek];rfl]at m;have g:=(dN.mp a).1;cases c:decide (q<kb) with
  |true=>
   rw[c]at h;have c:=ct c;refine m (ih (done++[k]) k q done.length h (by rw[nP (cu _),p7];rfl) n fun j o e=>?_);rcases NW e with⟨i,d⟩ |⟨i,d⟩
   ·refine fS (l j o d) fun p t p2 p3=>?_;exact⟨p,t,eY (gY c) p2,fun V=>Ij c p2⟩
   ·rw[d];exact⟨q,n,Tw _,fun e=>dk (i▸e) (kD _)⟩
  |false=>
   rw[c]at h;have c:=hR.mp (of_decide_eq_false c);refine m (ih (done++[k]) b kb f h (by rw[mS g];exact a) O fun j o e=>?_);rcases NW e with⟨i,d⟩ |⟨i,d⟩
   ·exact l j o d
   ·rw[d];exact⟨q,n,c,fun e=>dk (jt (i▸e) g) (kD _)⟩
variable {ks:List Int}
theorem abk{xs:List Int}{r:Int}(h:xw xs ks=some r):∃(hN:Nat) (a:Int),ks[hN]?=some r/\jB xs r=some a/\∀(j:Nat) b,ks[j]?=some b->∃q,jB xs b=some q/\a<=q/\(j<hN->a<q):=by
 cases ks with
 |nil=>cases h
 |cons k ks=>
  refine aw (eN.mp (show ((jB xs k).bind fun q=>nW xs k q ks)=some r from h)) fun q c h=>?_;refine abj xs ks [k] k q 0 h rfl c fun j b e=>?_;cases j with
  |zero=>cases e;exact⟨q,c,Tw _,fun e=>dk e (kD 0)⟩
  |succ j=>cases e
variable {vs:List Value}
theorem abl{q l:Addr}(gk:Nat->Int){a:Addr}{m:Str->Option Value}{Q:Value->Shared->Prop}(z:A.handled=none)(fM:s.heap.Ns a m)(B:s.heap.IsList l vs.toArray)(k:l≠a)(C:0<vs.length)
  (turn:∀(i:Nat) (v:Value),vs[i]?=some v->∀(h:Heap) (tk:Nat),(∀b o,b≠a->s.heap.get? b=some o->h.get? b=some o)->h.Ns a m->∀(w:Value->Shared->Prop),
   (∀h' d t,(∀b o,h.get? b=some o->h'.get? b=some o)->w (.int (gk i) t) {s with heap:=h',toks:=d})->aS bq A.in1 (call (.ref q) [v]) w (fun V V=>False) {s with heap:=h,toks:=tk})
  (D:∀i v h' d,vs[i]?=some v->(∀j,j<vs.length->gk i<=gk j/\(j<i->gk i<gk j))->(∀b o,b≠a->s.heap.get? b=some o->h'.get? b=some o)->h'.Ns a m->Q v {s with heap:=h',toks:=d}) :
  aS bq A (call (.builtin "min") [.ref l] [(ly "key",.ref q)]) Q E s:=by
 let c:List (Addr×Obj):=(bf s.heap.objs.size).filterMap fun b=>if b=a then none else (s.heap.get? b).map fun o=>(b,o);have x:∀b o,b≠a->s.heap.get? b=some o->(b,o)∈c:=fun b o f e=>aoX.mpr ⟨b,eE.mpr (j8 e),by rw[b5 f,e];rfl⟩;have n:∀b,(I2 #[] s.heap.life).get? b=none:=fun b=>rfl;have F:Fr (I2 #[] s.heap.life) a s.heap m:=⟨fM,fun b o e=>(by rw[n]at e;cases e),d4 _⟩;have N:News (I2 #[] s.heap.life) a s.heap c:=fun p g=>by
  refine aw (aoX.mp g) fun b V e=>?_;split at e
  ·cases e
  ·rename_i f;obtain⟨o,G,rfl⟩:=dh.mp e;exact⟨G,f,n _⟩
 have back:∀{h:Heap} {own:List (Addr×Obj)},News (I2 #[] s.heap.life) a h (c++own)->∀b o,b≠a->s.heap.get? b=some o->h.get? b=some o:=fun N b o f e=>(N _ (sV _ (x b o f e))).1;refine kmk_min gk z F N (fun h F N=>?_) C (fun i v u h tk own F N=>?_) fun i v h' d u H F N=>?_
 ·obtain⟨o,I,r⟩:=B;exact⟨o,(N _ (x l o k I)).1,r⟩
 ·refine turn i v u h tk (back N) F.ns _ fun h' d t y=>?_;exact⟨h',d,t,rfl,rfl,⟨F.ns.keeps y,fun b o e=>(by rw[n]at e;cases e),d4 _⟩,fun p g=>⟨y _ _ (N p g).1,(N p g).2⟩⟩
 ·exact D i v h' d u H (back (own:=[]) (by rw[il];exact N)) F.ns
theorem b8.abn(F:b8 nm ac env ρ g h)(j:∀b o,b≠env.locals->h.get? b=some o->h'.get? b=some o){f:Str->Option Value}(s:h.Ns env.locals f)(t:∀x i v,ac.lookup x=some i->nm.lookup x=some .local->ρ[i]?=some v->v≠.undef->∃y,f x=some y/\a9 g h v y)(hn:h'.Ns env.locals f):b8 nm ac env ρ g h':=by
 have kept:gD g h h':=fun b o e u=>j b o (fun q=>u.elim (q▸F.d7.1) (q▸F.d7.2)) e;have ae:∀x a,env.cells.lookup x=some a->a≠env.locals:=fun x a c=>by obtain⟨o,q⟩:=F.g4 x a c;exact xY s q
 refine⟨F.kind,F.names,F.glob,F.blt,F.inj,⟨f,hn,fun x i v k l m n=>?_⟩,fun x i k l=>?_,F.d7,F.gE,fun x a c=>?_,F.apart⟩
 ·obtain⟨y,c,d⟩:=t x i v k l m n;exact⟨y,c,iN kept d⟩
 ·obtain⟨a,o,c,⟨ob,d,p⟩,r⟩:=F.cl x i k l;exact⟨a,o,c,⟨ob,j _ _ (ae x a c) d,p⟩,fun v m n=>by obtain⟨y,w,z⟩:=r v m n;exact⟨y,w,iN kept z⟩⟩
 ·obtain⟨o,ob,d,p⟩:=F.g4 x a c;exact⟨o,ob,j _ _ (ae x a c) d,p⟩
theorem abo{pos d:Pos}{c x:Value}:∀(l:List Value),TriplesOk l->zP pos (l++[Df d.line,Df d.col,x])=some c->zP pos l=some c\/c=x:=by
 intro l
 fun_induction TriplesOk l with
 |case1=>
  intro V h;simp only[I3,zP,Df]at h;split at h
  ·cases h;exact .inr rfl
  ·cases h
 |case2 a t b u y e ih=>
  intro ht h;simp only[Tp,zP]at h ⊢;split at h
  ·rename_i ae;cases h;rw[bl ae];exact .inl rfl
  ·rename_i ae;rw[b5 ae];exact ih ht h
 |case3 l f O=>exact fun h=>h.elim
theorem abp(K:C.OK)(F:b8 nm ac env ρ g s.heap)(R:aM σ g s.heap)(hn:nm.lookup (".0":Str)=none)(tY:nm=C.lnm){q:Str}(ht:AG σ=some q){dJ y:Str}{p2 p3 p4 jD jE r t:Pos}{sc:Scope}
  (NY:∀n,(n,lz)∈sc.names->∃c,env.cells.lookup n=some c) {Q:Value->Shared->Prop}
  (gC:∀f G j pm cc h' tk,Ext cG g s cc {s with heap:=h',toks:=tk}->aM σ cc h'->s.heap.get? f=none->h'.get? f=some (I0 "<lambda>" (C.lam.2.2++"<lambda>") (tX y r) (tW dJ y p2 p3 p4 jD jE) sc (ez env sc.names []) pm G j)->(cc.bD G/\h'.CodeRec (.ref G) (C.lam.2.2++"<lambda>"))->Q (.ref f) {s with heap:=h',toks:=tk}) :
  aS bq A (eval (.Lambda (tX y r) (tW dJ y p2 p3 p4 jD jE) sc t) env) Q E s:=by
 refine PySem.W.kla_eval rfl ?_;refine a3 fun ao=>?_;obtain⟨I,A4⟩:=F.glob.2 hn tY;obtain⟨au,rfl⟩:∃au,σ=.tab q::au:=by
  rcases σ with V |⟨o,au⟩
  ·cases ht
  ·cases o<;>first |(cases ht;exact⟨au,rfl⟩) | cases ht
 obtain⟨P,J⟩:∃P,g.aL[0]?=some P:=⟨g.aL[0]' (by rw[R.rel.len];exact Nat.zero_lt_succ _),uP _⟩;obtain⟨g2,rfl,rfl,z,h,O,ag⟩:=R.rel.objs 0 (.tab q) P rfl J;obtain⟨bm,ob,a8,bR,L,oe,yp,yq,b7⟩:=K.bm;refine ao ?_;clear ao;rw[I];have BB:=ik J;have NZ:=K.g.keeps R.rel.base;have cv:∀b o,C.B.get? b=some o->b≠C.lam.2.1:=fun b o e q=>by rw[q,K.xl.2]at e;cases e
 have M:gr≠C.lam.2.1:=by obtain⟨o,V,V,e,V⟩:=K.g;exact cv _ o e
 have b2:s.heap.BuiltinsAt C.mg C.lam.2.1:=⟨bm,ob,a8,bR,L,cv _ _ oe,R.rel.base _ _ oe,yp,yq,b7⟩;have N:∀b,s.heap.objs.size<=b->s.heap.get? b=none:=fun b a=>get?_le a;cases S:zP t z.toList with
 |none=>
  refine PySem.W.kla_makeFunction (mg:=C.mg) (Bd NY) F.glob.1 NZ A4 (K.xl.1.keeps R.rel.base) h O S M b2 fun d j l tk hx yr T u U=>?_;have D:=N d yr;have X:d≠C.lam.2.1:=fun q=>by rw[q,h]at D;cases D
  have Y:s.heap.objs.size<=l.objs.size:=ax yr (et T);obtain⟨m,Z⟩:∃m,l.get? d=some m:=by obtain⟨v,m,V,V,bN,ak,V⟩:=u;cases bN;exact⟨m,ak⟩
  have w:∀b o,b≠C.lam.2.1->s.heap.get? b=some o->(l.push (I0 "<lambda>" (C.lam.2.2++"<lambda>") (tX y r) (tW dJ y p2 p3 p4 jD jE) sc (ez env sc.names []) ((C.mg "__name__").getD .none) d j)).get? b=some o:=fun b o a e=>gw _ (hx b o a e);generalize x:l.push (I0 "<lambda>" (C.lam.2.2++"<lambda>") (tX y r) (tW dJ y p2 p3 p4 jD jE) sc (ez env sc.names []) ((C.mg "__name__").getD .none) d j)=H at w ⊢;have k:H.get? C.lam.2.1=some (uN (z++#[Df t.line,Df t.col,.ref d])):=by rw[<- x];exact gw _ U
  have an:H.get? d=some m:=by rw[<- x];exact gw _ Z
  have bN:Ext cG g s g {s with heap:=H,toks:=tk}:=Ext.heap (fun b o e a V=>w b o (fun q=>a.elim (fun a=>a (q▸BB)) fun a=>g2 (q▸a)) e) fun b a=>by
   by_cases p:b=C.lam.2.1
   ·rw[p,k];rfl
   ·obtain⟨o,al⟩:=gv.mp a;exact ec (w b o p al)
  have ap:gD g s.heap (H.update C.lam.2.1 fun V=>uN z):=fun b o e V=>by
   by_cases p:b=C.lam.2.1
   ·rw[p]at e ⊢;rw[h]at e;cases e;exact akM _ k rfl
   ·rw[aoR _ _ (eD p)];exact w b o p e
  have as:(H.update C.lam.2.1 fun V=>uN z).get? d=some m:=by rw[aoR _ _ (eD X)];exact an
  have aK:=(R.kept ap).di (R.fresh D).1 (ec as);have bX:aM ((bb.tab (C.lam.2.2++"<lambda>")::au).set 0 (.tab (C.lam.2.2++"<lambda>"))) (g.di d) H:=aK.set (i:=0) (o:=.tab (C.lam.2.2++"<lambda>")) J (fun b ob a e=>by rw[aoR _ _ (eD a)]at e;exact e)
   ⟨g2,rfl,rfl,_,k,by rw[zT];exact TriplesOk_snoc _ _ _ _ O,fun pos lC q=>by
    rw[zT]at q;rcases abo _ O q with q|q
    ·refine fS (ag pos lC q) fun v ak ar bo=>?_;subst ak;refine⟨v,rfl,.inl ar,bo.at fun o e=>w _ o (fun q=>R.rel.fz _ BB (q▸ar)) e⟩
    ·subst q;exact⟨d,rfl,.inr rfl,by rw[<- x];exact u.push _⟩⟩
  refine gC _ d j ((C.mg "__name__").getD .none) (g.di d) H tk (bN.di D) bX (N _ Y) ?_ ⟨.inr rfl,by rw[<- x];exact u.push _⟩;rw[<- x];exact jv _ rfl
 |some lC=>
  refine fS (ag t lC S) fun v a5 aG u=>?_;subst a5;refine PySem.W.kla_makeFunctionHit (mg:=C.mg) (Bd NY) F.glob.1 NZ A4 (K.xl.1.keeps R.rel.base) h O S b2 fun j l tk aa ew=>?_;have hJ:∀b o,s.heap.get? b=some o->(l.push {cls:=.type "function",data:=.func (alp "<lambda>" (C.lam.2.2++"<lambda>") (tX y r) (tW dJ y p2 p3 p4 jD jE) sc (ez env sc.names []) ((C.mg "__name__").getD .none) (.ref v) j)}).get? b=some o:=fun b o e=>gw _ (aa b o e);exact gC _ v j ((C.mg "__name__").getD .none) g _ tk (Ext.all hJ) (R.kept (.ge hJ)) (N _ ew) (jv _ rfl) ⟨aG,u.keeps hJ⟩
theorem N0{l:List an2}(a:an6 g h l vs)(e:l8 l=some ks):ks.length=vs.length/\∀(i:Nat) v,vs[i]?=some v->∃k t,ks[i]?=some k/\v=.int k t:=by
 induction l generalizing vs ks with
 |nil=>cases a;cases e;exact⟨rfl,fun i v q=>dS q⟩
 |cons v l ih=>
  cases a with
  |cons a O=>
   refine aw (eN.mp (show ((dO v).bind fun x=>(l8 l).map (x::·))=some ks from e)) fun k b e=>?_;refine aw (dh.mp e) fun c d f=>?_;subst f;refine bK (m1 b a) fun t j=>?_;subst j;refine bt (ih O d) fun m n=>?_;refine⟨by rw[aoc,aoc,m],fun i w aF=>?_⟩;cases i with
   |zero=>cases aF;exact⟨k,t,rfl,rfl⟩
   |succ i=>exact n i w aF
theorem abB(h:xD sc dJ y=true):NS sc dJ y/\∀n,(n,lz)∈sc.names->n=dJ:=by
 unfold xD at h;simp only[z0,ru,ej]at h;obtain⟨⟨⟨⟨⟨⟨⟨⟨b,O⟩,c⟩,a⟩,d⟩,e⟩,f⟩,g⟩,i⟩:=h;have a:=oZ.mp a;refine⟨⟨b,O,c,fun x j q=>?_,d,e,f,g,i⟩,fun n hn=>?_⟩
 ·have:=a x j;rw[q]at this;cases this
 ·have:=a _ hn;simpa using this
theorem abC(K:C.OK):C.mb "min"=some (.builtin "min"):=by rw[K.builtins _ (by decide)];decide +kernel
theorem abD(K:C.OK):C.mb "abs"=some (.builtin "abs"):=by rw[K.builtins _ (by decide)];decide +kernel
theorem abE(K:C.OK)(X:jN c d){i:Nat}{a:bE}{r:Nat}{nl:List (Str×NameKind)}(ai:ci c d a):k5 c d (.u1 i a r nl):=by
 intro nm ac st env ρ σ g s A Q E ae F R aD u;refine d5 (ve ae) fun qy v pos P=>?_;subst P;refine bK (L6 ae) fun bQ a5=>?_;subst a5;refine hv (jI ae) fun x N1 S=>?_;subst S;obtain⟨⟨m,rfl⟩,V,hf⟩:=gB (show aU (Ei v) (fun m=>ac.lookup x==some i&&kQ (nm.lookup x)&&bn a nm ac m.1.a&&xD m.1.sc m.1.dJ m.1.y&&ac.lookup m.1.dJ==some r&&nm.lookup m.1.dJ==some .cell&&hZ (nm.lookup ("min":Str))&&decide (nm=nl)&&(nm.lookup (".0":Str)).isNone)=true from ae);refine Jk hf fun bu br cK xV W Y yv oq yw=>?_;refine bt (abB xV) fun L nc=>?_;have bu:ac.lookup x=some i:=by simpa using bu
 have W:ac.lookup m.dJ=some r:=by simpa using W
 have Y:nm.lookup m.dJ=some .cell:=by simpa using Y
 have oq:nm=nl:=ct oq;have yw:nm.lookup (".0":Str)=none:=by simpa using yw
 have u:hM nm ac env g s (bif decide (c.lnm=nl) then (bk c a 0 ρ σ).bind fun v aj=>AH (pd aj v ρ[r]?) fun k=>.ok (.next,ρ.set i (.int k)) aj else .bad) Q E:=u
 cases hd:decide (c.lnm=nl) with
 |false=>rw[hd]at u;exact u.elim
 |true=>
 rw[hd]at u;have tY:nm=C.lnm:=by rw[oq,<- ct hd,X.lnm]
 have u:hM nm ac env g s ((bk c a 0 ρ σ).bind fun v aj=>AH (pd aj v ρ[r]?) fun k=>.ok (.next,ρ.set i (.int k)) aj) Q E:=u
 refine bZ u.gz fun v aj bv u=>?_;cases D:pd aj v ρ[r]? with
 |none=>rw[D]at u;exact u.elim
 |some k=>
 rw[D]at u;have Bz:hM nm ac env g s (.ok (.next,ρ.set i (.int k)) aj) Q E:=u
 refine a3 fun T=>?_;refine aw (eN.mp (show ((AG aj).bind fun V=>(eZ aj v).bind fun l=>(l8 l).bind fun ks=>ρ[r]?.bind fun w=>(eZ aj w).bind fun r=>(l8 r).bind fun xs=>xw xs ks)=some k from D)) fun q t1 D=>?_;refine aw (eN.mp D) fun l e6 D=>?_;refine aw (eN.mp D) fun ks t3 D=>?_;refine aw (eN.mp D) fun w gj D=>?_;refine aw (eN.mp D) fun rr ib D=>?_;refine aw (eN.mp D) fun xs t6 t7=>?_;refine db (abk t7) fun hN pC Z hE nf=>?_;refine T ?_;clear T;have tN:∀n,(n,lz)∈m.sc.names->∃N,env.cells.lookup n=some N:=fun n hn=>by
  refine bZ (F.cl m.dJ r W (by rw[Y];rfl)) fun N V a8 V=>?_;rw[nc n hn];exact⟨N,a8⟩
 refine alm ?_ (Fn rfl);show aS _ _ (do zZ m.p (<- eval (.Name "min" m.p1) env) [] (hl m.p (gy [m.a] env)) (IT m.p (IU [⟨some "key",m.lam,m.kp⟩] env))) _ _ _;refine a6 (ET K X F R yv (by decide) (by decide) (abC K) ?_);have fB:hl m.p (gy [m.a] env)=(false,eval m.a env)::hl m.p (gy [] env):=by rw[vt (lF cK)];rfl
 refine callWith_kw ?_ fB (by rw[fB];rfl);rw[fB];refine C9 (ai nm ac m.a env 0 ρ σ g s A _ _ cK F R aD (cw.mk bv fun aB s1 xv ak aK v1=>?_));refine IM ?_;have aY:=F.ext R ak;refine kws_cons ?_;refine abp K aY aK yw tY t1 tN fun f bz nh pm cc O tk ar J an hf N2=>?_;refine kws_nil ?_;have bp:=aY.ext aK ar;refine a3 fun T=>?_;refine db (n7 J e6 (h2 aK ar dZ.none v1)) fun a1 vs S l1 ee=>?_;subst S;refine db (bp.cl m.dJ r W (by rw[Y];rfl)) fun N o a8 bR ap=>?_;have as:w≠.undef:=by rintro rfl;cases ib
 refine aw (ap w gj as) fun y a5 oe=>?_;subst a5;refine db (n7 J ib oe) fun ra aP S l2 e5=>?_;subst S;refine aw bp.ns fun mm dE d0=>?_;refine bt (N0 ee t3) fun i1 i2=>?_;refine bt (N0 e5 t6) fun lJ mw=>?_;refine T ?_;clear T;have N3:∀{b:Addr} {vs:Array Value},O.IsList b vs->b≠env.locals:=fun ⟨ob,ay,_,_,bA⟩ q=>by
  obtain⟨o',V,V,I,hL,V⟩:=dE;rw[q,I]at ay;cases ay;rw[hL]at bA;cases bA
 have ax:f≠env.locals:=fun q=>by
  refine bK (ry.live (show s1.heap.Ns env.locals _ from (aY.ns.choose_spec).1)) fun o' I=>?_;rw[<- q,an]at I;cases I
 have a0:N≠env.locals:=xY dE bR;have N4:∀b,cc.bD b->b≠env.locals:=fun b M q=>bp.d7.2 (q▸M);have yh:∀b o,C.B.get? b=some o->b≠env.locals:=fun b o e=>N4 b (J.ja b (ec e));have FO:∀(j:Nat) G,ks[j]?=some G->jB xs G=some ((jB xs (ks.getD j 0)).getD 0):=fun j G e=>by
  refine aw (nf j G e) fun eU ay V=>?_;rw[List.getD_eq_getElem?_getD,e,ale,ay];rfl
 show aS _ _ (call (.builtin "min") [.ref a1] [(ly "key",.ref f)]) _ _ _;refine abl (vs:=vs.toList) (fun j=>(jB xs (ks.getD j 0)).getD 0) aD.hand dE (by simpa using l1) (N3 l1) ?_ (fun j z bB h hI H fM oj vC=>?_) fun j z ag hI bB a2 H fM=>?_
 ·have:=(dN.mp Z).1;exact fr (aG (bx i1) this) (by simp +arith)
 ·refine bZ (i2 j z bB) fun G N5 ay P=>?_;subst P;have bd:=FO j G ay;have FP:(if 0<=G/\G<=1000000 then (xs[G.toNat]?).map fun x=>(x.natAbs:Int) else none)=some ((jB xs (ks.getD j 0)).getD 0):=bd;split at FP
  ·rename_i hr;obtain⟨xj,U,eH⟩:=dh.mp FP;have bf:=(dN.mp U).1;obtain⟨fm,yx⟩:∃z,aP.toList[G.toNat]?=some z:=⟨_,uP (by rw[<- lJ];exact bf)⟩;obtain⟨kx,FQ,lH,rfl⟩:=mw _ fm yx;rw[U]at lH;cases lH;refine abd (t:=FQ) (s:={s1 with heap:=h,toks:=hI}) (mg:=C.mg) (mb:=C.mb) L (H f _ ax hf) (N2.2.at fun o e=>H _ o (N4 _ N2.1) e) ?_ ?_ (M4 tN (pt L.NU) a8) (by obtain⟨ob,ay,az⟩:=bR;exact⟨ob,H N ob a0 ay,az⟩) (l2.at fun o e=>H _ o (N3 l2) e) hr.1 hr.2 ?_ ?_ ?_ (X.bi "abs" (by decide)) (abD K) fun h' jK t' vR=>eH▸vC h' jK t' vR
   ·have:=aD.depth;exact jt (fR (bO _ _) this) (show 890<1000 by decide)
   ·obtain⟨mc,ay,az⟩:=K.nolimit;exact⟨mc,ay.at' fun o e=>H _ o (yh _ o e) (J.rel.base _ o e),az⟩
   ·simpa using yx
   ·exact K.g.at' fun o e=>H _ o (yh _ o e) (J.rel.base _ o e)
   ·exact K.b.at' fun o e=>H _ o (yh _ o e) (J.rel.base _ o e)
  ·cases FP
 ·refine bZ (i2 j z bB) fun G N5 ay P=>?_;subst P;have bm:=(dN.mp Z).1;have bW:=(dN.mp ay).1;have am:j=hN:=by
   have vw:=a2 hN (KN i1 bm);have eT:=FO hN k Z;rw[hE]at eT;have eT:=dp eT;obtain⟨eU,p1,p2,p3⟩:=nf j G ay;have BC:=FO j G ay;rw[p1]at BC;have BC:=dp BC;simp only[<- eT,<- BC]at vw;rcases z3 j hN with e|e|e
   ·have:=p3 e;exact((aoE (sS vw.1 this) (by simp +arith))).elim
   ·exact e
   ·have:=vw.2 e;exact((aoE (sS p2 this) (by simp +arith))).elim
  rw[am,Z]at ay;cases ay;have bs:=bp.abn H dE d0 fM;have kept:gD cc O ag:=fun b o e M=>H b o (fun q=>M.elim (q▸bp.d7.1) (q▸bp.d7.2)) e;have bo:Ext (e2 env) cc {s1 with heap:=O,toks:=tk} cc {s1 with heap:=ag,toks:=hI}:=Ext.heap (s:={s1 with heap:=O,toks:=tk}) (fun b o e V M=>H b o (fun q=>M (.inl q)) e) fun b M=>by
   by_cases N6:b=env.locals
   ·obtain⟨o,al⟩:=ry.live fM;rw[N6,al];rfl
   ·obtain⟨o,al⟩:=gv.mp M;exact ec (H b o N6 al)
  refine yk bs (J.kept kept) bu br (.int k N5) fun mr vE nd dX=>?_;exact Bz cc mr .next ((ak.weaken.trans ar.weaken).trans (bo.trans dX)) nd vE rfl
end
section
open PySem PyProof.Rows
variable {c:bP}{d:Nat}
mutual
theorem abO(K:C.OK)(X:jN c d):∀f:o6,k5 c d f
 |.u1 i a r nl=>abE K X (cX K X a).e
 |.u0 b=>aa6 (r6 K X b)
 |.qf z is args body ks=>aa3 K X (k4 K X args).1 (r6 K X body)
 |.bad=>fun nm ac st env ρ σ g s A Q E ae F R k h=>h.elim
 |.assign i m e=>ZY (cX K X e).e fun elt t it cond V=>⟨(cX K X it).e,(cX K X elt).e,(cX K X cond).t⟩
 |.fx o i m v=>aao (cX K X o).e (cX K X i).e (cX K X v).e
 |.tc is e=>Z4 (cX K X e).e
 |.rJ i j a b=>aaa (cX K X a).e (cX K X b).e
 |.setattr o x m v=>aay X (cX K X o).e (cX K X v).e
 |.rI t b ks=>aaO (cX K X t).t (r6 K X b)
 |.expr e=>ZT (cX K X e).e
 |.ret m e=>ZQ (cX K X e).e
 |.ite t a b=>ZU (cX K X t).t (r6 K X a) (r6 K X b)
 |.ev t it body ks=>aaG (cX K X it).e (r6 K X body)
theorem r6(K:C.OK)(X:jN c d):∀a:dH,mv c d a
 |.nil=>ZO
 |.cons p a=>ZP (abO K X p) (r6 K X a)
end
end
section
open PySem PyProof.Rows PySem.SeqAt
variable {c:bP}{σ au:ah}{g g':bS}{h h':Heap}{s s':Shared}{own:Addr->Prop}{A:Around}{d:Nat}{nm:cA}{ac:dI}{env:Env}{ρ:List an2}
 {Q:Value->Shared->Prop} {E:Value->Shared->Prop}
noncomputable def bS.g6(g:bS)(n:Nat):bS:=⟨g.aL.take n,fun a=>g.bD a\/a∈g.aL.drop n,g.lk⟩
section
variable {n:Nat}{dd:Nat->Option an2}
theorem FR(p:∀(i:Nat) v' a,dd i=some v'->g.aL[i]?=some a->a9 (g.g6 n) h v' (.ref a)) :
  (∀{v x},a9 g h v x->∀v',iJ dd v=some v'->a9 (g.g6 n) h v' x)/\(∀{v x},an6 g h v x->∀v',kf dd v=some v'->an6 (g.g6 n) h v' x)/\(∀{v x},gd g h v x->∀v',o8 dd v=some v'->gd (g.g6 n) h v' x):=by
 refine bU.ind (fun V e=>dp e▸.none) (fun b V e=>dp e▸.bool b) (fun i t V e=>dp e▸.int i t) (fun y t V e=>dp e▸.str y t)
  (fun l a vs d f V q v' e=>?_) (fun l a vs d f V q v' e=>?_) (fun l a vs d s f V q v' e=>?_) (fun V V V d f V e=>dp e▸.eP (.inl d) f) (fun i a hi v' e=>p _ _ _ e hi)
  (fun V e=>dp e▸.nil) (fun v x l r V V a b v' e=>?_) (fun V e=>dp e▸.nil) (fun k v x l r V V a b v' e=>?_)
 ·refine aw (dh.mp (show (kf dd l).map an2.tup=some v' from e)) fun o j m=>?_;subst m;exact .tup (.inl d) f (q _ j)
 ·refine aw (dh.mp (show (kf dd l).map an2.lst=some v' from e)) fun o j m=>?_;subst m;exact .lst (.inl d) f (q _ j)
 ·refine aw (dh.mp (show (o8 dd l).map an2.ba=some v' from e)) fun o j m=>?_;subst m;exact .ba (.inl d) s f (q _ j)
 ·have e:=(td dd v l).symm.trans e;cases c:iJ dd v with
  |none=>rw[c]at e;cases e
  |some v'=>
   cases O:kf dd l with
   |none=>rw[c,O]at e;cases e
   |some o=>rw[c,O]at e;cases e;exact .cons (a _ c) (b _ O)
 ·have e:=(Lm dd k v l).symm.trans e;cases c:iJ dd v with
  |none=>rw[c]at e;cases e
  |some v'=>
   cases O:o8 dd l with
   |none=>rw[c,O]at e;cases e
   |some o=>rw[c,O]at e;cases e;exact .cons (a _ c) (b _ O)
theorem N7(b:∀(i:Nat) v' a,dd i=some v'->g.aL[i]?=some a->a9 (g.g6 n) h v' (.ref a)){v v':an2}{x:Value}(q:a9 g h v x)(e:iJ dd v=some v'):a9 (g.g6 n) h v' x:=(FR b).1 q _ e
theorem abP(b:∀(i:Nat) v' a,dd i=some v'->g.aL[i]?=some a->a9 (g.g6 n) h v' (.ref a)){v v':List an2}{x:List Value}(q:an6 g h v x)(e:kf dd v=some v'):an6 (g.g6 n) h v' x:=(FR b).2.1 q _ e
theorem abQ(b:∀(i:Nat) v' a,dd i=some v'->g.aL[i]?=some a->a9 (g.g6 n) h v' (.ref a)){v v':List (Str×an2)}{x:List (Str×Value)}(q:gd g h v x)(e:o8 dd v=some v'):gd (g.g6 n) h v' x:=(FR b).2.2 q _ e
variable {i:Nat}{a:Addr}
theorem BD(hi:i<n)(h:g.aL[i]?=some a):(g.g6 n).aL[i]?=some a:=by
 show (g.aL.take n)[i]?=some a;rw[I4 hi];exact h
theorem abR(hi:¬i<n)(h:g.aL[i]?=some a):a∈g.aL.drop n:=by
 have:(g.aL.drop n)[i-n]?=some a:=by rw[Tc];rw[show n+(i-n)=i by exact Dg (kC hi)];exact h
 exact ik this
theorem abS(R:aM σ g h):∀(k:Nat) {v v':an2} {x:Value},di n σ k v=some v'->a9 g h v x->a9 (g.g6 n) h v' x:=by
 intro k
 induction k with
 |zero=>
  intro v v' x e r;refine N7 (fun i v' a c m=>?_) r e;split at c
  ·rename_i hi;cases c;exact .ref (BD hi m)
  ·cases c
 |succ k ih=>
  intro v v' x e r;refine N7 (fun i v' a c m=>?_) r e;split at c
  ·rename_i hi;cases c;exact .ref (BD hi m)
  ·rename_i hi;have A:=abR hi m;cases s:σ[i]? with
   |none=>rw[s]at c;cases c
   |some o=>
    rw[s]at c;have B:=R.rel.objs i o a s m;cases o with
    |list b l=>
     refine a3 fun p=>?_;obtain⟨V,vs,f,O⟩:=B;refine aw (dh.mp c) fun C t u=>?_;subst u;refine p ?_;clear p;exact .lst (.inr A) f (abP (fun j w D y z=>ih y (.ref z)) O t)
    |dict b l=>
     refine a3 fun p=>?_;obtain⟨V,kvs,f,O⟩:=B;refine aw (dh.mp c) fun C t u=>?_;subst u;refine p ?_;clear p;exact .ba (.inr A) (R.AR (R.rel.fz a (ik m))) f (abQ (fun j w D y z=>ih y (.ref z)) O t)
    |inst k d=>cases c
    |ns l=>cases c
    |tab q=>cases c
variable {dB:bS}{h0:Heap}
theorem FS(e:dB.aL.length=n) :
  (∀{v y},a9 dB h0 v y->∀x,a9 g h v x->a9 (g.g6 n) h v x)/\(∀{v y},an6 dB h0 v y->∀x,an6 g h v x->an6 (g.g6 n) h v x)/\(∀{v y},gd dB h0 v y->∀x,gd g h v x->gd (g.g6 n) h v x):=by
 refine bU.ind (fun z q=>.of (show z=.none from bU.un q)) (fun b z q=>.of (show z=.bool b from bU.un q)) (fun i t z q=>.of (show ∃t,z=.int i t from bU.un q)) (fun y t z q=>.of (show ∃t,z=.str y t from bU.un q))
  (fun l a vs V V V r v' q=>?_) (fun l a vs V V V r v' q=>?_) (fun l a vs V V V V r v' q=>?_) (fun V V V V V V q=>?_) (fun i a hi v' q=>?_)
  (fun V q=>by cases q;exact .nil) (fun v x l r V V a b v' q=>?_) (fun V q=>by cases q;exact .nil) (fun k v x l r V V a b v' q=>?_)
 ·obtain⟨d,o,c,f,j,m⟩:=bU.un q;cases c;exact .tup (.inl f) j (r _ m)
 ·obtain⟨d,o,c,f,j,m⟩:=bU.un q;cases c;exact .lst (.inl f) j (r _ m)
 ·obtain⟨d,o,c,f,p,j,m⟩:=bU.un q;cases c;exact .ba (.inl f) p j (r _ m)
 ·obtain⟨d,c,f,j⟩:=bU.un q;cases c;exact .eP (.inl f) j
 ·obtain⟨d,c,s⟩:=bU.un q;cases c;exact .ref (BD (e▸(dN.mp hi).1) s)
 ·cases q with|cons d b'=>exact .cons (a _ d) (b _ b')
 ·cases q with|cons d b'=>exact .cons (a _ d) (b _ b')
theorem abU{v:List an2}{x0 x:List Value}(a:an6 dB h0 v x0)(b:an6 g h v x)(e:dB.aL.length=n):an6 (g.g6 n) h v x:=(FS e).2.1 a _ b
theorem abV{v:List (Str×an2)}{x0 x:List (Str×Value)}(a:gd dB h0 v x0)(b:gd g h v x)(e:dB.aL.length=n):gd (g.g6 n) h v x:=(FS e).2.2 a _ b
end
theorem N8{α:Type}{l a:List α}(h:l <+: a):a.take l.length=l:=by
 obtain⟨t,rfl⟩:=h;simp
theorem abW(h:aM σ g s.heap)(R:aM au g' s'.heap)(e:Ext cG g s g' s')(ht:au.take σ.length=σ):aM σ (g'.g6 σ.length) s'.heap:=by
 have u:(g'.g6 σ.length).aL=g.aL:=by rw[<- h.rel.len];exact N8 e.pre
 have D:(g'.aL.take σ.length++g'.aL.drop σ.length).Nodup:=by rw[I5];exact R.rel.nodup
 have F:=(mQ.mp D).2.2;have G:∀{i:Nat},i<σ.length->σ[i]?=au[i]?:=fun {i} hi=>by
  have:(au.take σ.length)[i]?=au[i]?:=I4 hi;rw[ht]at this;exact this
 refine⟨{len:=by rw[u];exact h.rel.len,nodup:=(mQ.mp D).1,fz:=fun a j q=>q.elim (R.rel.fz a (IZ j)) fun q=>F a j a q rfl,iq:=fun a j=>?_,live:=fun a j=>j.elim (R.rel.live a) fun q=>?_,base:=R.rel.base,kl:=fun a j=>R.rel.kl a (IZ j),objs:=fun i o a p O=>?_},fun b H=>.inl (R.ja b H),R.sys⟩
 ·rw[u];exact h.rel.iq a (by rw[<- e.lock];exact j)
 ·have I:=als q;cases J:s'.heap.get? a with
  |none=>exact dk I (R.fresh J).1
  |some o=>rfl
 ·have hi:i<σ.length:=(dN.mp p).1;have K:g'.aL[i]?=some a:=by
   have:(g'.aL.take σ.length)[i]?=some a:=O
   rwa [I4 hi]at this
  have w:g.aL[i]?=some a:=by rw[u]at O;exact O
  have r:=R.rel.objs i o a (by rw[<- G hi];exact p) K;have t:=h.rel.objs i o a p w;cases o with
  |list b l=>
   refine a3 fun c=>?_;obtain⟨ay,vs,az,n⟩:=r;obtain⟨V,z,V,f⟩:=t;refine c ?_;clear c;exact⟨ay,vs,az,abU f n h.rel.len⟩
  |dict b l=>
   refine a3 fun c=>?_;obtain⟨ay,vs,az,n⟩:=r;obtain⟨V,z,V,f⟩:=t;refine c ?_;clear c;exact⟨ay,vs,az,abV f n h.rel.len⟩
  |inst k d=>
   refine a3 fun c=>?_;obtain⟨A,L,M,ay,az,n⟩:=r;obtain⟨V,P,Q,f,B,E⟩:=t;refine c ?_;clear c;have C:d<σ.length:=h.rel.len▸(dN.mp B).1;exact⟨A,L,M,ay,BD C az,n⟩
  |tab q=>exact⟨r.1,r.2.mono (fun V q=>.inl q) (fun V V V e=>e) fun V e=>e⟩
  |ns l=>
   refine a3 fun c=>?_;obtain⟨A,m,az,n⟩:=r;obtain⟨V,S,V,f⟩:=t;refine c ?_;clear c;refine⟨A,m,az,fun k=>⟨fun v e=>?_,(n k).2⟩⟩;refine a3 fun c=>?_;refine aw ((n k).1 v e) fun x B E=>?_;refine aw ((f k).1 v e) fun y V N=>?_;refine c ?_;clear c;exact⟨x,B,(FS h.rel.len).1 N _ E⟩
theorem ab0(c:aM σ g s.heap)(R:aM au g' s'.heap)(e:Ext cG g s g' s'):Ext cG g s (g'.g6 σ.length) s':=by
 have b:(g'.g6 σ.length).aL=g.aL:=by rw[<- c.rel.len];exact N8 e.pre
 have d:(g'.aL.take σ.length++g'.aL.drop σ.length).Nodup:=by rw[I5];exact R.rel.nodup
 have f:=(mQ.mp d).2.2;refine⟨by rw[b];exact hT _,fun a ai=>.inl (e.sub a ai),fun a ai=>.inl (by rw[b]at ai;exact ai),fun a ai=>?_,e.lock,e.keep,e.i',e.live,e.gens,e.os⟩;rcases ai with ai|ai
 ·exact e.n3 a ai
 ·rcases e.n2 a (als ai) with q|q
  ·have:a∈(g'.g6 σ.length).aL:=by rw[b];exact q
   exact dk rfl (f a this a ai)
  ·exact .inr q
end
section
open PySem PyProof.Rows PySem.SeqAt PySem.Calls
variable {params:Arguments}{body:List Stmt}{scope:Scope}{code doc pm:Value}{vals:List Value}
theorem ab1{name b:Str}(a:params.posonlyargs=[])(O:params.vararg=none)(c:params.kwonlyargs=[])(d:params.kwarg=none)
  (hn:(params.args.map (·.arg)).Nodup) (e:vals.length=params.args.length):Tv (methDef name b params body scope pm code doc) ⟨vals,[]⟩=pure ((params.args.map (·.arg)).zip vals):=by
 obtain⟨f,as,g,h,kd,ka,i⟩:=params;have a:f=[]:=a;have O:g=none:=O;have c:h=[]:=c;have d:ka=none:=d;subst a O c d;exact NQ (as:=as) rfl rfl hn (by rw[a0];exact e)
noncomputable def ab4(k:NameKind):Bool:=match k with
 |.local|.cell|.globalImplicit=>true
 |V=>false
def BF(F:cb)(params:Arguments)(body:List Stmt)(scope:Scope):Bool:=
 params.posonlyargs.isEmpty&&params.vararg.isNone&&params.kwonlyargs.isEmpty&&params.kwarg.isNone&&decide (params.args.length=F.i7) &&
 decide ((aox scope.names).take F.i7=params.args.map (·.arg))&&decide ((scope.names.map (·.1)).Nodup)&&scope.kind==.function&&!scope.isGenerator&&!scope.isCoroutine &&
 scope.names.all (fun p=>ab4 p.2)&&mh F.body scope.names (rT (aox scope.names)) body
variable {F:cb}
theorem N'(h:BF F params body scope=true):Es F params body scope:=by
 unfold BF at h;simp only[z0,decide_eq_true_eq,List.isEmpty_iff,IP,ej,ru]at h;obtain⟨⟨⟨⟨⟨⟨⟨⟨⟨⟨⟨a,O⟩,b⟩,c⟩,d⟩,e⟩,f⟩,g⟩,i⟩,j⟩,l⟩,m⟩:=h;refine⟨a,O,b,c,d,e,f,g,i,j,fun p o=>?_,m⟩;have:=oZ.mp l p o;obtain⟨n,k⟩:=p;cases k<;>first | exact .inl rfl | exact .inr (.inl rfl) | exact .inr (.inr rfl) | exact l5 this
variable {c:bP}{σ au:ah}{g g':bS}{h h':Heap}{s s':Shared}{own:Addr->Prop}{A:Around}{d:Nat}{nm:cA}{ac:dI}{env:Env}{ρ:List an2}
 {Q:Value->Shared->Prop} {E:Value->Shared->Prop}
variable {x:Str}
theorem ab5{ns:List Str}{i:Nat}(h:(rT ns).lookup x=some i):ns[i]?=some x:=by
 have b:=pt h;unfold rT at b;refine bK (Ix b) fun k c=>?_;rw[List.getElem?_zip_eq_some]at c;refine bt c fun a O=>?_;have d:k=i:=by
  have e:=(dN.mp O).1;have:=(dN.mp O).2;simpa using this
 rw[<- d];exact a
theorem ab6(ns:List Str):((rT ns).map (·.2)).Nodup:=by
 unfold rT;rw[show (fun(p:Str×Nat)=>p.2)=ju from rfl,List.map_snd_zip (by simp)];exact Tx
theorem Oa{nm:cA}(h:(nm.map (·.1)).Nodup):(aox nm).Nodup:=by
 unfold aox;exact h.sublist (anX _ List.filter_sublist)
theorem ab7{α:Type}:∀{l:List (Str×α)} {x:Str} {a:α},(l.map (·.1)).Nodup->(x,a)∈l->l.lookup x=some a:=by
 intro l
 induction l with
 |nil=>exact fun V h=>eO h
 |cons p r ih=>
  obtain⟨n,b⟩:=p;intro x a hn c;rw[gu,mR]at hn;rw[i4];rcases dG.mp c with e|e
  ·cases e;simp
  ·have:(x==n)=false:=by rw[beq_eq_false_iff_ne];rintro rfl;exact hn.1 (dQ.mpr ⟨_,e,rfl⟩)
   rw[this];exact ih hn.2 e
theorem ab8{nm:cA}(hn:(nm.map (·.1)).Nodup){x:Str}(h:x∈aox nm):kQ (nm.lookup x)=true:=by
 unfold aox at h;obtain⟨⟨n,k⟩,a,rfl⟩:=dQ.mp h;refine bt (Tz.mp a) fun O b=>?_;rw[ab7 hn O];exact b
variable {kindOf:Str->Option NameKind}
theorem ab9(r:List (Str×Value)):∀(m:Str->Option Value),x∉r.map (·.1)->bindL kindOf r m x=m x:=by
 induction r with
 |nil=>exact fun V V=>rfl
 |cons p r ih=>
  intro m a;rw[gu,dG,not_or]at a;obtain⟨n,w⟩:=p;unfold bindL;rw[ih _ a.2];split
  ·exact b5 a.1
  ·rfl
theorem aca:∀(binds:List (Str×Value)) (m:Str->Option Value) (x:Str) (v:Value),(binds.map (·.1)).Nodup->binds.lookup x=some v->kindOf x=some .local->bindL kindOf binds m x=some v:=by
 intro binds
 induction binds with
 |nil=>exact fun V V V V h=>dS h
 |cons p r ih=>
  obtain⟨n,w⟩:=p;intro m x v hn a c;rw[gu,mR]at hn;rw[i4]at a;unfold bindL;cases b:x==n with
  |true=>
   rw[b]at a;cases a;have:x=n:=by simpa using b
   subst this;rw[bl c];rw[ab9 r _ hn.1];simp
  |false=>rw[b]at a;exact ih _ x v hn.2 a c
theorem acb(r:List (Str×Value)):∀(m:Str->Option Value),x∉r.map (·.1)->bindC kindOf r m x=m x:=by
 induction r with
 |nil=>exact fun V V=>rfl
 |cons p r ih=>
  intro m a;rw[gu,dG,not_or]at a;obtain⟨n,w⟩:=p;unfold bindC;rw[ih _ a.2];split
  ·rfl
  ·exact b5 a.1
theorem acd:∀(binds:List (Str×Value)) (m:Str->Option Value) (x:Str) (v:Value),(binds.map (·.1)).Nodup->binds.lookup x=some v->kindOf x≠some .local->bindC kindOf binds m x=some v:=by
 intro binds
 induction binds with
 |nil=>exact fun V V V V h=>dS h
 |cons p r ih=>
  obtain⟨n,w⟩:=p;intro m x v hn a c;rw[gu,mR]at hn;rw[i4]at a;unfold bindC;cases b:x==n with
  |true=>
   rw[b]at a;cases a;have:x=n:=by simpa using b
   subst this;rw[b5 c];rw[acb r _ hn.1];simp
  |false=>rw[b]at a;exact ih _ x v hn.2 a c
theorem b8.start{f q:Str}{a:Addr}{args:List an2}(j:Es F params body scope)(B:scope.names=C.lnm->q++".<locals>."=C.lam.2.2/\code=.ref C.lam.1)(d:args.length=F.i7)(R:aM σ g s.heap)(t:an6 g s.heap args vals){s1:Shared}
  (X:InCallC s (w8 (methDef f q params body scope pm code doc) s.heap.objs.size a).locals (bindL (w8 (methDef f q params body scope pm code doc) s.heap.objs.size a).kindOf ((params.args.map (·.arg)).zip vals) fun V=>none) (w8 (methDef f q params body scope pm code doc) s.heap.objs.size a).cells
    (bindC (w8 (methDef f q params body scope pm code doc) s.heap.objs.size a).kindOf ((params.args.map (·.arg)).zip vals) fun V=>none) s1) :
  b8 scope.names (rT (aox scope.names)) (w8 (methDef f q params body scope pm code doc) s.heap.objs.size a) (args++eL (F.slots-F.i7) .undef) g s1.heap:=by
 have kept:gD g s.heap s1.heap:=.ge X.toInCall.keep;have D:=Oa j.nodup;have u:(params.args.map (·.arg)).Nodup:=by rw[<- j.take];exact D.sublist (alt ..)
 have E:vals.length=params.args.length:=by rw[<- t.length,d,j.len]
 have w:(((params.args.map (·.arg)).zip vals).map (·.1)).Nodup:=by
  rw[show (fun(p:Str×Value)=>p.1)=bz from rfl,List.map_fst_zip (by simp[E])];exact u
 have z:∀x i v,(rT (aox scope.names)).lookup x=some i->(args++eL (F.slots-F.i7) .undef)[i]?=some v->v≠.undef->∃y,((params.args.map (·.arg)).zip vals).lookup x=some y/\a9 g s1.heap v y:=by
  intro x i v c O l;have m:=ab5 c;by_cases hi:i<args.length
  ·rw[mS hi]at O;refine aw (t.get O) fun y n o=>?_;have G:(params.args.map (·.arg))[i]?=some x:=by rw[<- j.take,I4 (wZ hi d)];exact m
   exact⟨y,NP _ _ i x y u G n,iN kept o⟩
  ·rw[nP (kC hi)]at O;have:=ik O;exact dk (alu this) l
 have fresh:∀b,s.heap.objs.size<=b->b∉g.aL/\¬g.bD b:=fun b H=>R.fresh (get?_le H);refine⟨j.kind,rfl,⟨rfl,fun V=>B⟩,rfl,fun x y i=>M5 (ab6 _),⟨_,X.toInCall.ns,fun x i v c O l m=>?_⟩,fun x i c O=>?_,fresh _ X.toInCall.fresh,fun x h ae=>fresh h ?_,fun x h ae=>⟨_,X.cell x h ae⟩,fun x y h c O=>?_⟩
 ·refine aw (z x i v c l m) fun y n o=>?_;exact⟨y,aca _ _ x y w n O,o⟩
 ·have A:scope.names.lookup x=some .cell:=by
   cases r:scope.names.lookup x with
   |none=>rw[r]at O;cases O
   |some k=>
    rw[r]at O;rcases j.kinds _ (pt r) with e | e | e<;>(simp only at e;subst e;first | rfl | cases O)
  refine bK (gv.mp (alv (x:=x) scope.names (s.heap.objs.size+1) [] (.inl A))) fun h ae=>?_;refine⟨h,_,ae,X.cell x h ae,fun v l m=>?_⟩;refine aw (z x i v c l m) fun y n o=>?_;refine⟨y,acd _ _ x y w n ?_,o⟩;show scope.names.lookup x≠some .local;rw[A];intro q;cases q
 ·have:=X.above x h (mem_of_lookup ae);have O:=X.toInCall.fresh;exact et (fR O this)
 ·exact name_of_addr X.apart (mem_of_lookup c) (mem_of_lookup O)
end
section
open PySem PyProof.Rows PySem.SeqAt PySem.Calls PySem.W
variable {c:bP}{σ au:ah}{g g':bS}{h h':Heap}{s s':Shared}{own:Addr->Prop}{A:Around}{d:Nat}{nm:cA}{ac:dI}{env:Env}{ρ:List an2}
 {Q:Value->Shared->Prop} {E:Value->Shared->Prop}
variable {L:Addr}
theorem eG.call(a:eG A (d+1))(c:env.scope.isGenerator=false)(ae:env.scope.isCoroutine=false)(e:env.builtins=mL)(f:env.globals=gr)(h:env.scope.kind=.function)(i:env.frame=some L):eG (A.deeper env) d:=by
 refine⟨a.hand,?_,?_,?_⟩
 ·have:=a.depth;show A.depth+1+2*d<890;exact fR (show _+1+2*_<=_+(2*_+2) by rw[eK,kG 1];exact fv (nK _) _) this
 ·have:=a.units;show A.units+3+12*d+700<uO;exact fR (lx (show _+3+12*_<=_+(12*_+12) by rw[eK,kG 3];exact fv (fv (by decide) _) _) 700) this
 ·refine bZ a.fr fun g l b V=>?_;exact⟨env,g::l,by show A.frames.map (env::·)=_;rw[b];rfl,c,ae,e,f⟩
theorem eG.call2{a:Addr}{e:List Value}(b:eG A (d+1))(f:env.scope.isGenerator=false)(ae:env.scope.isCoroutine=false)(g:env.builtins=mL)(h:env.globals=gr)(j:env.scope.kind=.function)(k:env.frame=some L):eG ((A.under (.builtin "type.__call__" ⟨.ref a::e,[]⟩)).deeper env) d:=by
 refine⟨b.hand,?_,?_,?_⟩
 ·have:=b.depth;show A.depth+1+1+2*d<890;exact by rw[eK,eK,<- eK 1,kG (1+1)];exact this
 ·have:=b.units;show A.units+1+3+12*d+700<uO;exact fR (lx (show _+4+12*_<=_+(12*_+12) by rw[eK,kG 4];exact fv (fv (by decide) _) _) 700) this
 ·refine bZ b.fr fun i l c V=>?_;exact⟨env,i::l,by show A.frames.map (env::·)=_;rw[c];rfl,f,ae,g,h⟩
theorem BH(K:C.OK)(X:jN c d){F:cb}{a:Addr}(bL:AQ C a F){args:List an2}{xs:List Value}(u:A.depth<1000)
  (P:∀env L,env.scope.isGenerator=false->env.scope.isCoroutine=false->env.builtins=mL->env.globals=gr->env.scope.kind=.function->env.frame=some L->eG (A.deeper env) d) (R:aM σ g s.heap) (G:an6 g s.heap args xs)
  (e:aoA g s (tj c F args σ) Q E):aS bq A (call (.ref a) xs) Q E s:=by
 refine a3 fun l=>?_;obtain⟨o,f,q,params,body,scope,pm,code,doc,O,S,H,h⟩:=bL;refine l ?_;clear l;unfold tj at e;split at e
 ·rename_i i;have T:xs.length=params.args.length:=by rw[<- G.length,i,h.len]
  have U:=Oa h.nodup;have V:(params.args.map (·.arg)).Nodup:=by rw[<- h.take];exact U.sublist (alt ..)
  refine wpAny_call (codeAny_call_cells (fd:=methDef f q params body scope pm code doc) (binds:=(params.args.map (·.arg)).zip xs) ?_ (R.rel.base _ _ O) S (K.nolimit.keeps R.rel.base) (H.1.keeps R.rel.base) rfl (ab1 h.p1 h.p2 h.p3 h.p4 V T) rfl ?_ ?_ h.Ma h.gen h.kind)
  ·exact u
  ·intro y W;have Y:y.1∈aox scope.names:=by
    have I:y.1∈params.args.map (·.arg):=(List.of_mem_zip (show (y.1,y.2)∈_ from W)).1;rw[<- h.take]at I;exact IZ I
   have p:=ab8 h.nodup Y;cases m:scope.names.lookup y.1 with
   |none=>rw[m]at p;cases p
   |some k=>
    rw[m]at p;cases k<;>first | cases p | skip
    ·exact .inl m
    ·exact .inr ⟨m,alv scope.names _ [] (.inl m)⟩
  ·intro s1 j;have aY:=b8.start h H.2 i R G j;have k1:=j.toInCall.keep;refine a3 fun l=>?_;refine hv j.toInCall.same fun cS tk J=>?_;refine l ?_;clear l;have Z:Ext cG g s g s1:=by rw[J];rw[J]at k1;exact Ext.all k1
   have aK:aM σ g s1.heap:=R.kept (.ge k1);have w:=P (w8 (methDef f q params body scope pm code doc) s.heap.objs.size a) s.heap.objs.size h.gen h.Ma rfl rfl h.kind rfl;have hF:∀b,e2 (w8 (methDef f q params body scope pm code doc) s.heap.objs.size a) b->s.heap.get? b=none:=fun b ab=>by
    rcases ab with rfl |⟨x,hx⟩
    ·exact get?_le j.toInCall.fresh
    ·exact get?_le (et (fR j.toInCall.fresh (j.above x b (mem_of_lookup hx))))
   have e:aoA g s (left F.keep σ (cF c F.body (args++eL (F.slots-F.i7) .undef) σ)) Q E:=e;cases z:cF c F.body (args++eL (F.slots-F.i7) .undef) σ with
   |bad=>rw[z]at e;exact e.elim
   |ok r au=>
    rw[z]at e;obtain⟨B,cB⟩:=r;refine r6 K X F.body scope.names _ body _ _ σ g s1 _ _ _ h.Wt aY aK w (hM.mk z fun cc n fw ar t bp M=>?_);have D:Ext cG g s cc n:=Ext.drop Z ar hF;unfold left at e;simp only at e;have fin:∀x,a9 cc n.heap B.out x->Q x n:=by
     intro x N;split at e
     ·exact e cc n x D t N
     ·split at e
      ·rename_i ht;cases bB:di σ.length au 3 B.out with
       |none=>rw[bB]at e;exact e.elim
       |some v'=>
        rw[bB]at e;exact e (cc.g6 σ.length) n x (ab0 R t D) (abW R t D ht) (abS t 3 bB N)
      ·exact e.elim
    cases B with
    |ret v=>obtain⟨x,rfl,q⟩:=M;exact fin x q
    |next=>cases M;exact fin .none .none
 ·exact e.elim
theorem acg{G:rK}:∀d:Nat,Eu C G->jN ⟨G.lnm,G.const,bF G d,G.aoq,G.dc⟩ d:=by
 intro d T
 induction d with
 |zero=>exact⟨T.gl,fun f args σ V h=>dk rfl h,fun f a args xs σ g s A Q E V V V V V e=>e.elim,T.bi,fun k I h=>(T.cl k I h).1,T.dc,fun k I x args σ V h=>dk rfl h,fun k I x f args xs σ g s A Q E V V V V V e=>e.elim,fun k I f args xs σ g s A b Q E V V V V V e=>e.elim,fun k args σ h=>dk rfl h,T.lnm⟩
 |succ d ih=>
  have t:∀{f:Str} {args:List an2} {σ:ah},bF G (d+1) f args σ≠.bad->∃F,G.fn f=some F:=fun {f args σ} p=>by
   cases bL:G.fn f with
   |none=>exact dk (show bF G (d+1) f args σ=.bad by rw[xx,bL]) p
   |some F=>exact⟨F,rfl⟩
  refine⟨T.gl,fun f args σ B p=>?_,fun f a args xs σ g s A Q E B J n R u e=>?_,T.bi,fun k I h=>(T.cl k I h).1,T.dc,fun k I x args σ v p=>?_,fun k I x f args xs σ g s A Q E v D n R u e=>?_,fun k I f args xs σ g s A b Q E v D n R u e=>?_,fun k args σ p=>?_,T.lnm⟩
  ·refine a3 fun i=>?_;refine bK (t p) fun F bL=>?_;obtain⟨a,c,o,V,V,V,V,V,V,V,V,O,j,V⟩:=T.fn f F B bL;refine i ?_;clear i;exact⟨a,o,_,c,O,j⟩
  ·have e:aoA g s (bF G (d+1) f args σ) Q E:=e;have w:bF G (d+1) f args σ≠.bad:=fun q=>by rw[q]at e;exact e
   refine a3 fun i=>?_;refine bK (t w) fun F bL=>?_;obtain⟨M,c,z⟩:=T.fn f F B bL;refine i ?_;clear i;cases J.symm.trans c;rw[xx,bL]at e;exact BH T.ok ih z (by have:=n.depth;exact Jy this) (fun env L c O j l m r=>n.call c O j l m r) R u e
  ·refine a3 fun i=>?_;refine bK (t p) fun F bL=>?_;obtain⟨H,f,o,y,c,O,j,l,m,N,V,V,V,V,V,V,V,V,r,K,V⟩:=T.mt k x F bL;refine i ?_;clear i;cases v.symm.trans c;cases j.symm.trans r;exact⟨f,o,_,y,O,j,l,K,m⟩
  ·have e:aoA g s (bF G (d+1) (fy k x) args σ) Q E:=e;have w:bF G (d+1) (fy k x) args σ≠.bad:=fun q=>by rw[q]at e;exact e
   refine a3 fun i=>?_;refine bK (t w) fun F bL=>?_;obtain⟨H,f',o,y,c,O,j,l,m,z⟩:=T.mt k x F bL;refine i ?_;clear i;cases v.symm.trans c;cases D.symm.trans O;rw[xx,bL]at e;exact BH T.ok ih z (by have:=n.depth;exact Jy this) (fun env L c O j l m r=>n.call c O j l m r) R u e
  ·have e:aoA g s (bF G (d+1) (fy k "__init__") args σ) Q E:=e;have w:bF G (d+1) (fy k "__init__") args σ≠.bad:=fun q=>by rw[q]at e;exact e
   refine a3 fun i=>?_;obtain⟨F,bL⟩:=t w;obtain⟨H,f',o,y,c,O,j,l,m,z⟩:=T.mt k "__init__" F bL;refine i ?_;clear i;cases v.symm.trans c;cases D.symm.trans O;rw[xx,bL]at e;exact BH T.ok ih z (by have:=n.depth;show A.depth+1<1000;exact fR (fv (show 1<=2*(_+1) from pZ 1 _) _) (jt this (by decide))) (fun env L c O j l m r=>n.call2 c O j l m r) R u e
  ·refine a3 fun i=>?_;obtain⟨F,bL⟩:=t p;obtain⟨I,f,o,y,c,V⟩:=T.mt k "__init__" F bL;refine i ?_;clear i;exact⟨I,c,(T.cl k I c).2⟩
theorem ach{B:Heap}(b2:C.B=B)(K:C.OK):aM [] C.dB B:=by
 subst b2;refine⟨{len:=rfl,nodup:=sY,fz:=fun a c=>(eO c),iq:=fun a c=>c.elim,live:=fun a c=>c,base:=fun b o e=>e,kl:=fun a c=>(eO c),objs:=fun i o a d V=>by simp at d},fun b f=>f,?_⟩;obtain⟨h,d,V⟩:=K.seer.mods;obtain⟨o,g⟩:=ry.live d;exact ec g
theorem aci{p:Params}{H:Heap}{P:Addr}{x:Value}{ns:List Int}(h:Well p H x (ofPy (.list (ns.map .int))))(i:∀b o,b≠P->H.get? b=some o->g.bD b/\H.get? b=some o)(d:∃f,H.get? P=some (uN f)):a9 g H (.lst (ns.map .int)) x:=by
 have e:ofPy (.list (ns.map .int))=.list (ns.map .int):=by
  have c:∀ns:List Int,ofPys (ns.map PyData.int)=ns.map WData.int:=by
   intro ns
   induction ns with
   |nil=>rfl
   |cons n ns ih=>exact dt (Iv (WData.int n)) ih
  exact dt WData.list (c ns)
 rw[e]at h;cases h with
 |@list a vs xs an1 O=>
  have j:a≠P:=fun q=>by obtain⟨f,d⟩:=d;rw[q,d]at an1;cases an1
  refine .lst (i a _ j an1).1 ⟨0,an1⟩ ?_;have c:∀(ns:List Int) (vs:List Value),WellAll p H vs (ns.map WData.int)->an6 g H (ns.map an2.int) vs:=by
   intro ns
   induction ns with
   |nil=>intro vs h;cases h;exact .nil
   |cons n ns ih=>
    intro vs h;cases h with
    |cons a b=>cases a;exact .cons (.int ..) (ih _ b)
  simpa using c ns vs O
theorem acj:xJ C:=by
 intro s Q E H b2 j G T F f D k r a u bL p x ns v aF l w;have cut:∀b o,C.B.get? b=some o->H.get? b=some o:=fun b o e=>by rw[b2]at e;exact(Ye e).2
 have m:∀b o,b≠C.lam.2.1->H.get? b=some o->C.B.get? b=some o:=fun b o c e=>by rw[b2,A9 _ c];exact e
 have d:C.B.get? C.lam.2.1=none:=by rw[b2];exact ES ..
 have z:aM [] C.dB H:=(ach rfl T.ok).kept (.ge cut);have A:¬C.dB.bD C.lam.2.1:=fun q=>by have q:(C.B.get? C.lam.2.1).isSome=true:=q;rw[d]at q;cases q
 have R:aM [.tab (C.lam.2.2++"<lambda>")] (C.dB.fA C.lam.2.1) H:=z.fA (o:=.tab (C.lam.2.2++"<lambda>")) (fun q=>nomatch q) A ⟨fun q=>q,rfl,rfl,#[],j,trivial,fun pos W q=>nomatch q⟩;have I:an6 (C.dB.fA C.lam.2.1) H [.lst (ns.map .int)] [x]:=.cons (aci aF (fun b o c e=>⟨ec (m b o c e),e⟩) ⟨_,j⟩) .nil;have J:tj ⟨G.lnm,G.const,bF G D,G.aoq,G.dc⟩ F [.lst (ns.map .int)] [.tab (C.lam.2.2++"<lambda>")]=.ok (.bool true) [.tab (C.lam.2.2++"<lambda>")]:=by
  rw[xx,bL]at l;exact l
 subst v;refine a3 fun n=>?_;obtain⟨X,g,K⟩:=T.fn f F r bL;refine n ?_;clear n;cases u.symm.trans g;refine BH T.ok (acg D T) K (by decide) (fun env L h O M N Y Z=>⟨rfl,?_,?_,⟨env,[],rfl,h,O,M,N⟩⟩) R I (by
  rw[J];intro g' s' y i aK P;cases (show y=.bool true from gL P);obtain⟨af,aC,V,S,U,V⟩:=aK.rel.objs 0 _ C.lam.2.1 rfl (by
   obtain⟨t,ht⟩:=i.pre;rw[<- ht];rfl)
  exact w s' (fun b o c e=>aK.rel.base b o (m b o c e)) ⟨S,U⟩ i.os i.gens)
 ·show 1+claimMargin+1+2*D<890;have:claimMargin=300:=rfl;exact this▸fR (fv (cE 2 k) _) (by decide)
 ·show 4+3+12*D+700<uO;have:uO=9900:=rfl;exact this▸fR (lx (fv (cE 12 k) _) 700) (by decide)
def acm(view:Program)(loose:List Str):Bool:=vg.all fun w=>!startupNames.contains w&&!loose.contains w&&!((recsOf view).map (·.name)).contains w&&!((litsOf view).map bz).contains w&&!((clssOf view loose).map (·.name)).contains w
section
variable {prog:Program}{w:World}{view:Program}{loose:List Str}{mean:ExcName->Option Value}{mg mb:Str->Option Value}{B:Heap}
theorem acn{cls:Str->Option lB}{lam:Addr×Addr×Str}{lnm:cA}(T:Top view loose mean mg mb B)(ht:prog.given.tree=none)(hi:importsNone view=true)(z:akm B lam.1 lam.2.1)(u:B.get? lam.2.1=some (uN #[]))(f:lam.2.1≠gr/\lam.2.1≠mL/\lam.2.1≠Ir/\lam.2.1≠mM):(Fix.mk prog w (jJ B lam.2.1) mg mb cls lam lnm).OK:=by
 have k:∀b o,b≠lam.2.1->B.get? b=some o->(jJ B lam.2.1).get? b=some o:=fun b o l e=>by rw[A9 _ l];exact e
 refine a3 fun a=>?_;obtain⟨v,ob,A,C,c,x,D,m⟩:=T.bmain;refine a ?_;clear a;have l:v≠lam.2.1:=fun q=>by rw[q,u]at c;cases c;cases x
 refine⟨T.g.at' fun o e=>k _ o (eD f.1) e,T.b.at' fun o e=>k _ o (eD f.2.1) e,?_,?_,T.builtins,?_,ht,⟨v,ob,A,C,?_,k _ _ l c,x,D,m⟩,?_,ES ..⟩
 ·obtain⟨d,ay,az⟩:=T.nolimit;exact⟨d,ay.at' fun o e=>k _ o (eD f.2.2.1) e,az⟩
 ·obtain⟨d,ay,az⟩:=T.nodigits;exact⟨d,ay.at' fun o e=>k _ o (eD f.2.2.1) e,az⟩
 ·have S:=T.seer hi;refine⟨?_,?_,?_,?_⟩
  ·obtain⟨d,ay,az⟩:=S.statics;exact⟨d,ay.at' fun o e=>k _ o (eD f.2.2.1) e,az⟩
  ·obtain⟨d,ay,az⟩:=S.mods;exact⟨d,ay.at' fun o e=>k _ o (eD f.2.2.2) e,az⟩
  ·obtain⟨d,ay,az⟩:=S.imp;exact⟨d,ay.at' fun o e=>k _ o (eD f.2.1) e,az⟩
  ·refine a3 fun a=>?_;refine Jo S.main fun n y p ay az s h E=>?_;refine a ?_;clear a;have F:y≠lam.2.1:=fun q=>by rw[q,u]at s;cases s;cases h
   exact⟨n,y,p,ay.at' fun o e=>k _ o (eD f.1) e,az,k _ _ F s,h,E⟩
 ·intro q;refine a3 fun a=>?_;obtain⟨o,es,ep,e,G,V⟩:=T.g;refine a ?_;clear a;rw[q,e]at c;cases c;rw[G]at m;cases m
 ·refine a3 fun a=>?_;obtain⟨o,vs,i,H,flags,bQ,t,j,tt,e,r⟩:=z;refine a ?_;clear a;exact⟨o,vs,i,H,flags,bQ,t,j,tt,k _ _ r.2.2.2.2.2.2.2.2 e,r⟩
theorem acs(T:Top view loose mean mg mb B)(ae:acm view loose=true):∀x∈vg,mg x=none:=fun x d=>by
 have a:=oZ.mp ae x d;simp only[z0,ru]at a;refine a3 fun c=>?_;obtain⟨⟨⟨⟨a,O⟩,e⟩,f⟩,g⟩:=a;refine c ?_;clear c;have b:∀{l:List Str},l.contains x=false->x∉l:=fun h q=>by rw[w7.mpr q]at h;cases h
 exact T.free x (b a) (b O) (b e) (b f) (b g)
end
theorem acu(l:OpenLaw)(args ds:List WData):l.row.claim.post args (.bool true) ds=true:=by kernel_rfl
end
section
open PySem PyProof.Rows PySem.SeqAt PySem.Calls PySem.W
def k7(h:Heap)(a:Addr)(x:Str)(v:Value):Prop:=∃o es ep,h.get? a=some o/\o.data=.dict es ep/\nsFind es x=some v
variable {h h':Heap}{P a c:Addr}{k x:Str}{v:Value}
theorem k7.BJ(e:h.nsMap a x=some v):k7 h a x v:=by
 unfold Heap.nsMap at e;cases b:h.get? a with
 |none=>rw[b]at e;cases e
 |some o=>
  rw[b]at e;cases c:o.data with
  |dict es ep=>simp only[c]at e;exact⟨o,es,ep,b,c,e⟩
  |_=>simp only[c]at e;cases e
theorem k7.keeps(q:k7 h a x v)(d:∀b o,h.get? b=some o->h'.get? b=some o):k7 h' a x v:=
 by obtain⟨o,es,ep,c,O⟩:=q;exact⟨o,es,ep,d _ _ c,O⟩
theorem k7.mg{m:Str->Option Value}(q:k7 h a x v)(e:h.Ns a m):m x=some v:=by
 refine a3 fun c=>?_;obtain⟨o,es,ep,b,O,f⟩:=q;obtain⟨i,j,k,k1,d,V,g⟩:=e;refine c ?_;clear c;cases b.symm.trans k1;rw[O]at d;cases d;rw[<- g];exact f
def r8(cs:List ClsRec)(h:Heap)(cls:Str->Option lB):Prop:=(∀k I,cls k=some I->∃c∈cs,c.name=k/\k7 h gr k (.ref I.C)/\PlainAt h c I.C I.N I.mN)/\∀c∈cs,∃I,cls c.name=some I
variable {cs:List ClsRec}
theorem r8.keeps{cls:Str->Option lB}(q:r8 cs h cls)(d:∀b o,h.get? b=some o->h'.get? b=some o):r8 cs h' cls:=
 ⟨fun k I e=>by obtain⟨c,a,O,f,g⟩:=q.1 k I e;exact⟨c,a,O,f.keeps d,g.keeps d⟩,q.2⟩
theorem acv{c:ClsRec}(e:c.name=k)(q:k7 h gr c.name v):k7 h gr k v:=e▸q
open Classical in
theorem acw(e:∀c∈cs,h.plainShapeAt c=some c.plainShape):∃cls,r8 cs h cls:=by
 have hex:∀c∈cs,∃I:lB,k7 h gr c.name (.ref I.C)/\PlainAt h c I.C I.N I.mN:=fun c ae=>by
  refine bZ (plainAt_of_shape (e c ae)) fun k3 N d O=>?_;exact⟨⟨k3,N,_⟩,.BJ d,O⟩
 refine⟨fun k=>if a:∃c∈cs,c.name=k then some (hex a.choose a.choose_spec.1).choose else none,fun k I b=>?_,fun c ae=>?_⟩
 ·simp only at b;split at b
  ·rename_i a;cases b;have f:=(hex a.choose a.choose_spec.1).choose_spec;refine⟨a.choose,a.choose_spec.1,a.choose_spec.2,?_,f.2⟩;exact acv a.choose_spec.2 f.1
  ·cases b
 ·have a:∃g∈cs,g.name=c.name:=⟨c,ae,rfl⟩;exact⟨_,dif_pos a⟩
variable {α:Type}
theorem vV{o:Option α}{p:α->Bool}(h:o.any p=true):∃a,o=some a/\p a=true:=by
 cases o with
 |none=>cases h
 |some a=>exact⟨a,rfl,h⟩
theorem yA{o:Option α}(h:o.isSome=true):∃a,o=some a:=gv.mp h
theorem acx{o:Obj}(h:Lf o=true):o=tabObj #[]:=by
 obtain⟨c,d,f,sl⟩:=o;refine bt (h5 h) fun a h=>?_;refine bt (h5 h) fun O h=>?_;refine bt (h5 h) fun b h=>?_;obtain⟨⟨aP,e⟩,V,g⟩:=vV h;obtain⟨⟨V,a⟩,V⟩:=yA a;have a:c=.none:=a;have O:d=none:=IP.mp O;have b:sl=#[]:=Iz (ct b);have e:f=.fields aP:=e;rw[a,O,b,e,show aP=#[] from Iz (ct g)]
structure r9 (h:Heap)(k x:Str)(c P:Addr):Prop where
 fn:∃C yB cd f o fd,k7 h gr k (.ref C)/\h.get? C=some yB/\yB.data=.cls cd/\k7 h cd.ns x (.ref f)/\h.get? f=some o/\o.data=.func fd/\fd.code=.ref c
 hd:CodeHd h c P
 tab:h.get? P=some (tabObj #[])
 ne:P≠gr/\P≠mL/\P≠Ir/\P≠mM
theorem r9.keeps(q:r9 h k x c P)(a:∀b o,h.get? b=some o->h'.get? b=some o):r9 h' k x c P:=by
 refine a3 fun e=>?_;obtain⟨⟨C,g,cd,f,o,fd,d,O,i,j,l,m⟩,ay,az,n⟩:=q;exact e ⟨⟨C,g,cd,f,o,fd,d.keeps a,a _ _ O,i,j.keeps a,a _ _ l,m⟩,ay.keeps a,a _ _ az,n⟩
theorem acz{a:Obj}{vs:Array Value}(e:h.get? c=some a)(aB:a.cls=.type "code")(f:a.data=.fields vs)(d:vs[11]?=some (.ref P))(g:ao0 vs=true)(i:c≠P):CodeHd h c P:=by
 refine a3 fun j=>?_;refine bt (h5 g) fun cc g=>?_;refine bt (h5 g) fun k g=>?_;refine bt (h5 g) fun l m=>?_;obtain⟨⟨w,n⟩,V⟩:=yA cc;obtain⟨⟨u,o⟩,V⟩:=yA k;obtain⟨⟨b,p⟩,V⟩:=yA l;obtain⟨⟨z,q⟩,V⟩:=yA m;exact j ⟨a,vs,w.1,w.2,u.1,u.2,b,z.1,z.2,e,aB,f,d,by rw[Array.getD_eq_getD_getElem?,d];rfl,n,o,p,q,i⟩
theorem acB(e:DI h k x=true):∃c P,r9 h k x c P:=by
 refine a3 fun n=>?_;refine aw (vV e) fun p b e=>?_;refine aw (vV e) fun v j e=>?_;refine aw (vV e) fun P V e=>?_;refine aw (vV e) fun o r e=>?_;refine bt (h5 e) fun aB e=>?_;refine bt (h5 e) fun g e=>?_;refine im e fun s i t=>?_;refine bt (h5 i) fun u i=>?_;refine bt (h5 i) fun w i=>?_;refine bt (h5 i) fun z l=>?_;refine aw (vV aB) fun y V A=>?_;refine aw (eN.mp b) fun fd d b=>?_;refine aw (eN.mp b) fun c V b=>?_;refine aw (eN.mp b) fun B C b=>?_;refine aw (dh.mp b) fun vs V b=>?_;refine aw (eN.mp d) fun q k1 d=>?_;refine aw (eN.mp d) fun v' D d=>?_;refine aw (eN.mp d) fun f V d=>?_;refine aw (eN.mp d) fun of E d=>?_;refine aw (dh.mp d) fun m V F=>?_;refine mV (Heap.clsAt_spec (a:=q.1) (o:=q.2.1) (cd:=q.2.2) k1) fun G H I=>?_;subst b;have aB:B.cls=.type "code":=(dC A:y.1 = "code")▸y.2;have j:vs.1[11]?=some (.ref P.1):=P.2▸j;exact n ⟨c.1,P.1,⟨⟨q.1,q.2.1,q.2.2,f.1,of,fd,.BJ G,H,I,.BJ (f.2▸D),E,F▸m.2,c.2⟩,acz C aB vs.2 j g (ct s),by rw[r,acx t],ct u,ct w,ct z,ct l⟩⟩
theorem Oi{β:Type}{f g:α->β}{l:List α}(h:l.map f=l.map g):∀x∈l,f x=g x:=by
 induction l with
 |nil=>intro x hx;cases hx
 |cons a l ih=>
  rw[gu,gu,alw]at h;intro x hx;rcases dG.mp hx with rfl|hx
  ·exact h.1
  ·exact ih h.2 x hx
theorem acI{a b c b':List Nat}(h:a++46::b=c++46::b')(d:46∉c)(O:46∉b'):a=c/\b=b':=by
 induction a generalizing c with
 |nil=>cases c with
  |nil=>exact⟨rfl,(nL h).2⟩
  |cons y c=>exact dk (dG.mpr (.inl (nL h).1)) d
 |cons y a ih=>cases c with
  |nil=>exact dk (show 46∈b' from (nL h).2▸ho _ cW) O
  |cons g c=>
   refine bt (nL h) fun e f=>?_;refine bt (ih f fun q=>d (dM _ q)) fun ay az=>?_;exact⟨by rw[e,ay],az⟩
theorem Oj(k x:Str):(fy k x).cps.toList=k.cps.toList++46::x.cps.toList:=by
 show ((k.cps++#[46])++x.cps).toList=_;simp
theorem FW{f:Str}(h:iK f=true):46∉f.cps.toList:=fun q=>by
 unfold iK at h;rw[Array.contains_iff_mem.mpr (S1.mp q)]at h;cases h
theorem acJ(k x:Str):iK (fy k x)=false:=by
 cases h:iK (fy k x) with
 |false=>rfl
 |true=>exact dk (by rw[Oj];exact ho _ cW) (FW h)
theorem Str.Ok{a b:Str}(h:a.cps.toList=b.cps.toList):a=b:=by
 obtain⟨a⟩:=a;obtain⟨b⟩:=b;exact dt Str.mk (alx.mp h)
theorem acK{a b:Str}(h:fy k x=fy a b)(c:iK a=true)(O:iK b=true):k=a/\x=b:=by
 have e:=dt (fun s:Str=>s.cps.toList) h;simp only[Oj]at e;refine bt (acI e (FW c) (FW O)) fun ay az=>?_;exact⟨Str.Ok ay,Str.Ok az⟩
def acL(cs:List ClsRec)(tbl:List (Str×cb))(nl:cA)(k x:Str):Bool:=tbl.all fun p=>iK p.1||cs.any fun c=>iK c.name&&c.meths.any fun m=>iK m.name&&p.1==fy c.name m.name&&BF p.2 m.params m.body m.scope&&(!decide (m.scope.names=nl)||(c.name==k&&m.name==x))
noncomputable def acM(cs:List ClsRec)(l:List Str):Bool:=cs.all fun c=>l.all fun x=>c.quiet.contains x
def acN(rs:List DefRec)(tbl:List (Str×cb))(nl:cA):Bool:=tbl.all fun p=>!iK p.1||rs.any fun d=>d.name==p.1&&BF p.2 d.params d.body d.scope&&!decide (d.scope.names=nl)
section
variable {prog:Program}{w:World}{mg mb:Str->Option Value}{B:Heap}{cs:List ClsRec}{cls:Str->Option lB}{nl:cA}{c P:Addr}{q:Str}
theorem sb(a:B.get? P=some (tabObj #[])){b:Addr}{o:Obj}(e:B.get? b=some o)(c:o.data≠.fields #[]):(jJ B P).get? b=some o:=by
 rw[A9]
 ·exact e
 ·intro w;rw[w,a]at e;cases e;exact c rfl
theorem Ol(c:B.get? P=some (tabObj #[])){a:Addr}{m:Str->Option Value}(hn:B.Ns a m):(jJ B P).Ns a m:=by
 have d:=hn;obtain⟨o,es,ep,b,O,V⟩:=hn;exact d.at' fun f e=>sb c e (by rw[b]at e;cases e;rw[O];intro w;cases w)
theorem Om(e:B.get? P=some (tabObj #[])){cd:Value}{q:Str}(h:B.CodeRec cd q):(jJ B P).CodeRec cd q:=by
 obtain⟨c,o,vs,t,a,O,b,d⟩:=h;exact⟨c,o,vs,t,a,sb e O (by rw[b];intro w;cases w;cases d),b,d⟩
theorem acO(b:B.get? P=some (tabObj #[]))(q:r8 cs B cls)(d:B.Ns gr mg){l:List Str}(f:acM cs l=true):∀k I,cls k=some I->I.OK (jJ B P) (fun x=>l.contains x)/\mg k=some (.ref I.C):=fun k I h=>by
 refine s4 (q.1 k I h) fun c ae V hn Z=>?_;have a:=oZ.mp f c ae;refine⟨⟨?_,Z.quiet _ (by simp[TA]),Z.quiet _ (by simp[TA]),Z.quiet _ (by simp[TA]),fun x g=>Z.quiet x ?_⟩,hn.mg d⟩
 ·obtain⟨nm,q,i,j,sub,col,dd,eT,k1,m,n,o,e⟩:=Z.cls.obj;exact⟨⟨nm,q,i,j,sub,col,dd,eT,k1,m,n,o,sb b e (by intro w;cases w)⟩,Ol b Z.cls.ns⟩
 ·exact w7.mp (oZ.mp a x (w7.mp g))
variable {eT x0:Str}
theorem acP(g:r9 B eT x0 c P)(b:B.Ns gr mg){I:lB}(h:k7 B gr eT (.ref I.C))(Z:ClsAt B I.C I.N I.mN){f:Addr}{o:Obj}{n q:Str}{i:Arguments}{body:List Stmt}{sc:Scope}{pm cd doc:Value}(ay:I.mN x0=some (.ref f))(az:B.get? f=some o)(a:o.data=.func (methDef n q i body sc pm cd doc)):cd=.ref c:=by
 refine a3 fun j=>?_;obtain⟨C,w,k,f',x,fd,l,m,p,r,s,d,t⟩:=g.fn;obtain⟨nm,y,z,A,sub,col,dd,D,E,F,G,H,e⟩:=Z.obj;have u:=(l.mg b).symm.trans (h.mg b);cases u;rw[m]at e;cases e;cases p;have v:=ay.symm.trans (r.mg Z.ns);cases v;cases az.symm.trans s;rw[a]at d;cases d;exact j t
theorem acQ(e:r9 B eT x0 c P)(u:B.Ns gr mg)(q:r8 cs B cls)(g:(cs.map (·.name)).Nodup){tbl:List (Str×cb)}(ae:acL cs tbl nl eT x0=true):∀k x F,tbl.lookup (fy k x)=some F->Et (Fix.mk prog w (jJ B P) mg mb cls (c,P,eT++"."++x0++".<locals>.") nl) k x F:=fun k x F bL=>by
 have b:=oZ.mp ae _ (pt bL);simp only[acJ,TB]at b;refine a3 fun n=>?_;refine aw (w5.mp b) fun p r O=>?_;refine bt (h5 O) fun v y=>?_;refine aw (w5.mp y) fun m z A=>?_;refine uT A fun C D h d=>?_;refine bt (acK (by simpa using D) v C) fun E G=>?_;subst E G;refine bK (q.2 p r) fun I s=>?_;refine s4 (q.1 _ _ s) fun H J K L Z=>?_;refine n ?_;clear n;have M:H=p:=by
  obtain⟨i,hi,rfl⟩:=I6 J;obtain⟨j,N,rfl⟩:=I6 r;have:i=j:=(List.getElem_inj (h₀:=by simpa using hi) (h₁:=by simpa using N) g).mp (by simpa using K);subst this;rfl
 subst M;refine T5 (Z.meths m z) fun f o pm cd doc ay az Q a R=>?_;have t:o.data≠.fields #[]:=by rw[a];intro w;cases w
 refine⟨I,f,o,_,s,ay,sb e.tab az t,Q,aly _ _,o,_,_,_,_,_,_,_,_,sb e.tab az t,a,⟨Om e.tab R,fun l=>?_⟩,N' h⟩;have l:m.scope.names=nl:=l;rw[show decide (m.scope.names=nl)=true from b9 l,IV,TB,z0,ej,ej]at d;exact⟨by rw[d.1,d.2],acP e u (d.1▸L) Z.cls (d.2▸ay) az a⟩
variable {view:Program}{loose:List Str}{mean:ExcName->Option Value}
theorem acT(j:B.get? P=some (tabObj #[]))(T:Top view loose mean mg mb B){tbl:List (Str×cb)}{lam:Addr×Addr×Str}(ae:acN (recsOf view) tbl nl=true):∀f F,iK f=true->tbl.lookup f=some F->Mb (Fix.mk prog w (jJ B P) mg mb cls lam nl) f F:=fun f F e l=>by
 have b:=oZ.mp ae _ (pt l);simp only[e,IV,TB]at b;refine aw (w5.mp b) fun d m O=>?_;refine im O fun g n k=>?_;have g:d.name=f:=by simpa using g
 refine Jq (T.fn d m) fun a o pm code doc ay az h c=>?_;rw[g]at ay h c;refine⟨a,ay,o,f,f,d.params,d.body,d.scope,pm,code,doc,sb j az (by rw[h];intro w;cases w),h,⟨Om j c,fun i=>?_⟩,N' n⟩;have i:d.scope.names=nl:=i;rw[show decide (d.scope.names=nl)=true from b9 i]at k;cases k
end
theorem acV(h:DJ v=some x):∃t,v=.str x t:=aw (dh.mp (show (DH v).map (fun q=>q.1.1)=some x from h)) fun q V e=>⟨q.1.2,e▸q.2⟩
theorem acW{x:Int}(h:DK v=some x):∃t,v=.int x t:=aw (dh.mp (show (Au v).map (fun q=>q.1.1)=some x from h)) fun q V e=>⟨q.1.2,e▸q.2⟩
def mx(prog:Program)(w:World)(h:Heap)(x:Str)(l:List (Str×Int)):Prop:=∃a kvs,k7 h gr x (.ref a)/\a≠mM/\h.DictOf (strKind prog w) a kvs/\kvs.map bz=l.map bz/\∀(i:Nat) k v,kvs[i]?=some (k,v)->∃n t,l[i]?=some (k,n)/\v=.int n t
variable {prog:Program}{w:World}
theorem acX(es:List DictEntry):∀(l:List (Str×Int)),es.map (fun e=>(e.hash,DJ e.key,DK e.val))=l.map (fun kv=>(hashStr w kv.1,some kv.1,some kv.2)) ->
  ∃kvs:List (Str×Value),(∀e∈es,∃k,(strKind prog w).is k e.key=true/\e.hash=(strKind prog w).hash k)/\Pairs (strKind prog w) es kvs/\kvs.map bz=l.map bz/\∀(i:Nat) k v,kvs[i]?=some (k,v)->∃n t,l[i]?=some (k,n)/\v=.int n t:=by
 induction es with
 |nil=>
  intro l a;cases l with
  |nil=>exact⟨[],fun e h=>eO h,.nil,rfl,fun i k v h=>dS h⟩
  |cons=>cases a
 |cons c es ih=>
  intro l a;cases l with
  |nil=>cases a
  |cons p l=>
   have a:=nL a;refine s4 (ih l a.2) fun kvs f g j m=>?_;have b:=alz a.1;have O:=alz b.2;refine bK (acV O.1) fun t az=>?_;refine bK (acW O.2) fun u o=>?_;have q:(strKind prog w).is p.1 c.key=true:=az▸C2 prog w p.1 t;refine⟨(p.1,c.val)::kvs,fun e he=>?_,.cons q rfl g,dt (Iv p.1) j,fun i k v hi=>?_⟩
   ·rcases dG.mp he with d|he
    ·exact⟨p.1,d▸q,d▸b.1⟩
    ·exact f e he
   ·cases i with
    |zero=>cases hi;exact⟨p.2,u,rfl,o⟩
    |succ i=>exact m i k v hi
variable {l:List (Str×Int)}
theorem acY(hn:(l.map bz).Nodup)(e:DL h x=some (DM w l)):mx prog w h x l:=by
 refine aw (eN.mp e) fun v c e=>?_;refine aw (eN.mp e) fun a V e=>?_;refine aw (eN.mp e) fun o d e=>?_;refine aw (dh.mp e) fun p V e=>?_;obtain⟨a,rfl⟩:=a;obtain⟨⟨es,ep⟩,f⟩:=p;refine T2 (uW.mk.inj e) fun g i j k m=>?_;refine s4 (acX (prog:=prog) es.toList l m) fun kvs k1 n b q=>?_;exact⟨a,kvs,.BJ c,ct k,⟨o,es,ep,d,⟨g,i,Iz j⟩,f,fun e r=>k1 e (S1.mpr r),n,by rw[b];exact hn⟩,b,q⟩
theorem mx.keeps(q:mx prog w h x l)(d:∀b o,h.get? b=some o->h'.get? b=some o):mx prog w h' x l:=by
 refine a3 fun e=>?_;obtain⟨a,kvs,c,O,⟨o,es,ep,f,r⟩,g⟩:=q;refine e ?_;clear e;exact⟨a,kvs,c.keeps d,O,⟨o,es,ep,d _ _ f,r⟩,g⟩
noncomputable def acZ(l:List (Str×Int)):an2:=.ba (l.map fun kv=>(kv.1,.int kv.2))
theorem mx.m3{C:Fix}(q:mx C.prog C.w C.B x l)(h:C.B.Ns gr C.mg):∃y,C.mg x=some y/\C.bU C.dB C.B (acZ l) y:=by
 refine a3 fun b=>?_;obtain⟨a,kvs,c,O,d,j,m⟩:=q;refine b ?_;clear b;refine⟨.ref a,c.mg h,.ba ?_ O d ?_⟩
 ·obtain⟨o,es,ep,e,V⟩:=d;exact ec e
 ·clear c d;have f:∀(l:List (Str×Int)) (kvs:List (Str×Value)),kvs.map bz=l.map bz->(∀(i:Nat) k v,kvs[i]?=some (k,v)->∃n t,l[i]?=some (k,n)/\v=.int n t)->C.e0 C.dB C.B (l.map fun kv=>(kv.1,.int kv.2)) kvs:=by
   intro l
   induction l with
   |nil=>intro kvs e V;cases kvs with|nil=>exact .nil|cons=>cases e
   |cons p l ih=>
    intro kvs e g;cases kvs with
    |nil=>cases e
    |cons q kvs=>
     rw[gu,gu,alw]at e;refine a3 fun b=>?_;refine bZ (g 0 q.1 q.2 rfl) fun n t r s=>?_;refine b ?_;clear b;cases r;obtain⟨k,v⟩:=q;cases s;exact .cons (.int ..) (ih kvs e.2 fun i k v hi=>g (i+1) k v hi)
  exact f l kvs j m
theorem mx.cut{B:Heap}(b:B.get? P=some (tabObj #[]))(q:mx prog w B x l):mx prog w (jJ B P) x l:=by
 obtain⟨a,kvs,⟨f,g,h,i,c,j⟩,O,⟨o,es,ep,k,e,d,r⟩,m⟩:=q;exact⟨a,kvs,⟨f,g,h,sb b i (by rw[c];intro w;cases w),c,j⟩,O,⟨o,es,ep,sb b k (by rw[d];intro w;cases w),e,d,r⟩,m⟩
def ac0(prog:Program)(cs:List ClsRec)(k x:Str)(ds:List (Str×List (Str×Int)))(hn:∀d∈ds,(d.2.map bz).Nodup):Hook where
 α:=List (Option PlainShape)×Bool×List (Option uW)
 obs s:=(cs.map fun c=>s.heap.plainShapeAt c,DI s.heap k x,ds.map fun d=>DL s.heap d.1)
 val w:=(cs.map fun c=>some c.plainShape,true,ds.map fun d=>some (DM w d.2))
 says w h:=(∃cls,r8 cs h cls)/\(∃c P,r9 h k x c P)/\∀d∈ds,mx prog w h d.1 d.2
 of w s e:=⟨acw (Oi (dt bz e)),acB (dt (fun p=>p.2.1) e),fun d hd=>acY (hn d hd) (Oi (dt (fun p=>p.2.2) e) d hd)⟩
 keeps w h h' q aa:=⟨by obtain⟨cls,ay⟩:=q.1;exact⟨cls,ay.keeps aa⟩,by obtain⟨c,P,ay⟩:=q.2.1;exact⟨c,P,ay.keeps aa⟩,fun d hd=>(q.2.2 d hd).keeps aa⟩
end
set_option backward.match.sparseCases false
section
open PySem
noncomputable def e8(x:an2):Bool:=match x with
 |.undef=>true
 |.none=>false
 |.bool V=>false
 |.int V=>false
 |.str V=>false
 |.tup V=>false
 |.lst V=>false
 |.ba V=>false
 |.eP V f9=>false
 |.ref V=>false
inductive a' where
 |eV (n:Nat) (l:List (Option an2))
 |upd (ρ:a') (i:Nat) (v:an2)
 |del (ρ:a') (i:Nat)
noncomputable def a'.len(x:a'):Nat:=match x with
 |.eV n V=>n
 |.upd ρ V f9=>ρ.len
 |.del ρ V=>ρ.len
noncomputable def yC(x:List (Option an2))(n:Nat):Option an2:=match x with
 | []=>none
 |o::l=>match n with
  |0=>o
  |n+1=>yC l n
noncomputable def lk(x:a')(j:Nat):Option an2:=match x with
 |.eV V l=>yC l j
 |.upd ρ i v=>bif mO i j then some v else lk ρ j
 |.del ρ i=>bif mO i j then none else lk ρ j
noncomputable def vX(x:Option an2):an2:=match x with
 |some v=>v
 |none=>.undef
def bV(ρ:a'):List an2:=(bf ρ.len).map fun i=>vX (lk ρ i)
def cY(ρ:a'):Prop:=∀i v,lk ρ i=some v->e8 v=false
abbrev an3{α:Type}(o:Option α)(K:α->Prop):Prop:=@hq α (fun V=>Prop) False K o
abbrev bI(b:Bool)(P Q:Prop):Prop:=@Dh (fun V=>Prop) Q P b
abbrev t4{α:Type}(r:be α)(K:α->ah->Prop)(X:Str->ah->Prop):Prop:=@be.rec α (fun V=>Prop) K False r
abbrev cf{α:Type}(r:be α)(K:α->ah->Prop):Prop:=t4 r K fun V V=>False
variable {α:Type}
theorem an3.mk{o:Option α}{K:α->Prop}{a:α}(h:o=some a)(k:K a):@hq α (fun V=>Prop) False K o:=h▸k
variable {b:Bool}{P Q:Prop}
theorem bI.t(h:b=true)(k:P):@Dh (fun V=>Prop) Q P b:=h▸k
theorem bI.f(h:b=false)(k:Q):@Dh (fun V=>Prop) Q P b:=h▸k
theorem bI.mk(a:b=true->P)(O:b=false->Q):@Dh (fun V=>Prop) Q P b:=by cases b;exact O rfl;exact a rfl
variable {σ au:ah}
theorem t4.mk{r:be α}{K:α->ah->Prop}{a:α}(h:r=.ok a σ)(k:K a σ):@be.rec α (fun V=>Prop) K False r:=h▸k
theorem iw{o:Option α}{K:α->Prop}(h:an3 o K):∃a,o=some a/\K a:=by
 cases o with
 |none=>exact h.elim
 |some a=>exact⟨a,rfl,h⟩
theorem yD{r:be α}{K:α->ah->Prop}(h:cf r K):∃a σ,r=.ok a σ/\K a σ:=by
 cases r with
 |ok a σ=>exact⟨a,σ,rfl,h⟩
 |bad=>exact h.elim
variable {d i m n:Nat}
theorem yE{o:Option cL}{K:an2->ah->Prop}(h:an3 o fun w=>@cL.rec (fun V=>Prop) (fun v=>K v σ) (fun f=>cf (iG m f σ) K) w):cf (fin m o σ) K:=by
 rcases o with V |⟨v⟩ |⟨f⟩
 ·exact h
 ·exact h
 ·exact h
def jl(ρ:a')(i:Nat)(v:an2):Option a':=bif p8 i ρ.len then (bif e8 v then none else some (.upd ρ i v)) else none
noncomputable def yF(ρ:a')(y:List Nat)(l:List an2):Option a':=match y with
 | []=>match l with
  | []=>some ρ
  |V::f9=>none
 |i::is=>match l with
  | []=>none
  |v::vs=>(jl ρ i v).bind fun aN=>yF aN is vs
def iR(x:dq)(v:an2)(ρ:a'):Option a':=match x with
 |.one i=>jl ρ i v
 |.many is=>(rL v).bind fun l=>yF ρ is l
noncomputable def gm(x:List Nat)(ρ:a'):a':=match x with
 | []=>ρ
 |i::ks=>gm ks (.del ρ i)
abbrev c1:=an2->ah->Prop
def yG(m:Nat)(σ:ah)(K:c1)(w:cL):Prop:=@cL.rec (fun V=>Prop) (fun v=>K v σ) (fun f=>cf (iG m f σ) K) w
def BK(σ:ah)(K:c1)(v:an2):Prop:=K v σ
def ac1(σ:ah)(K:c1)(b:Bool):Prop:=K (.bool b) σ
def ac2(op:Operator)(x:an2)(m:Nat)(K:c1)(y:an2)(σ:ah):Prop:=an3 (kg σ op x y) (yG m σ K)
def ac3(vb:ah->c1->Prop)(op:Operator)(m:Nat)(K:c1)(x:an2)(σ:ah):Prop:=vb σ (ac2 op x m K)
def ac4(K:c1)(x:an2)(σ:ah):Prop:=an3 (dz σ x) fun b=>K (.bool (!b)) σ
def ac5(K:c1)(x:an2)(σ:ah):Prop:=an3 (dO x) fun i=>K (.int (-i)) σ
def ac6(op:CmpOp)(x:an2)(K:c1)(y:an2)(σ:ah):Prop:=an3 (mX σ op x y) (ac1 σ K)
def ac7(vb:ah->c1->Prop)(op:CmpOp)(K:c1)(x:an2)(σ:ah):Prop:=vb σ (ac6 op x K)
def ac8(K:c1)(vs:List an2)(σ:ah):Prop:=K (.tup vs) σ
def ac9(m:Nat)(K:c1)(vs:List an2)(σ:ah):Prop:=cf (iG m (.list vs) σ) K
def ada(x:an2)(K:c1)(i:an2)(σ:ah):Prop:=an3 (eQ σ x i) (yG 0 σ K)
def adb(vb:ah->c1->Prop)(K:c1)(x:an2)(σ:ah):Prop:=vb σ (ada x K)
def adc(x:an2)(m:Nat)(K:c1)(i:an2)(σ:ah):Prop:=an3 (xp σ x i) (yG m σ K)
def ade(vb:ah->c1->Prop)(m:Nat)(K:c1)(x:an2)(σ:ah):Prop:=vb σ (adc x m K)
def adf(x i:an2)(m:Nat)(K:c1)(j:an2)(σ:ah):Prop:=an3 (xo σ x i j) (yG m σ K)
def adg(x:an2)(FY:ah->c1->Prop)(m:Nat)(K:c1)(i:an2)(σ:ah):Prop:=FY σ (adf x i m K)
def adh(vb FY:ah->c1->Prop)(m:Nat)(K:c1)(x:an2)(σ:ah):Prop:=vb σ (adg x FY m K)
def adi(m:Nat)(K:c1)(vs:List an2)(a7:ah):Prop:=bI (d' vs.length) (cf (iG m (.list vs) a7) K) False
def eB(c:bP)(cond elt:bE)(m:Nat)(t:dq)(l:List an2)(v:an2)(ρ:a')(σ:ah)(K:c1):Prop:=
 cY ρ->cf (hX v (c' σ v) (gc (bk c cond 0) (bk c elt m.pred) t (kill (ip t) (bV ρ)) l (bG σ v true))) (adi m K)
def adj(c:bP)(cond elt:bE)(m:Nat)(t:dq)(ρ:a')(K:c1)(v:an2)(σ:ah):Prop:=an3 (de σ v) fun l=>eB c cond elt m t l v ρ σ K
def adk(c:bP)(x:Str)(K:c1)(v:an2)(σ:ah):Prop:=an3 (md c σ v x) (BK σ K)
def adl(c:bP)(f:Str)(v:an2)(K:c1)(vs:List an2)(σ:ah):Prop:=cf (c.hA f (v::vs) σ) K
def Ov(c:bP)(c6:ah->(List an2->ah->Prop)->Prop)(v:an2)(σ:ah)(K:c1)(f:Str):Prop:=c6 σ (adl c f v K)
def adm(c:bP)(c6:ah->(List an2->ah->Prop)->Prop)(x:Str)(K:c1)(v:an2)(σ:ah):Prop:=an3 (qi σ v x) (Ov c c6 v σ K)
def adn(n:Nat)(K:c1)(v:an2)(σ:ah):Prop:=bI (aoF v) (K (.ref n) σ) False
def ado(c:bP)(k:Str)(K:c1)(vs:List an2)(σ:ah):Prop:=cf (c.hA (fy k "__init__") (.ref (σ.length+1)::vs) (σ++[.ns []]++[.inst k σ.length])) (adn (σ.length+1) K)
def adp(c:bP)(f:Str)(K:c1)(vs:List an2)(σ:ah):Prop:=cf (c.hA f vs σ) K
def adq(b:aov)(m:Nat)(K:c1)(vs:List an2)(σ:ah):Prop:=an3 (i8 σ b vs) (yG m σ K)
def adr(K:c1)(r:an2×ah):Prop:=K r.1 r.2
def ads(mt:kJ)(x:an2)(K:c1)(vs:List an2)(σ:ah):Prop:=an3 (ma σ mt x vs) (adr K)
def adt(c6:ah->(List an2->ah->Prop)->Prop)(mt:kJ)(K:c1)(x:an2)(σ:ah):Prop:=bI (xu σ mt x) (c6 σ (ads mt x K)) False
def adu(v:an2)(K:List an2->ah->Prop)(vs:List an2)(σ:ah):Prop:=K (v::vs) σ
def adv(m3:ah->(List an2->ah->Prop)->Prop)(K:List an2->ah->Prop)(v:an2)(σ:ah):Prop:=m3 σ (adu v K)
def adw(m3:ah->c1->Prop)(K:c1)(x:an2)(σ:ah):Prop:=an3 (dz σ x) fun q=>bI q (m3 σ K) (K x σ)
def adx(m3:ah->c1->Prop)(K:c1)(x:an2)(σ:ah):Prop:=an3 (dz σ x) fun q=>bI q (K x σ) (m3 σ K)
def ady(c6 vb:ah->c1->Prop)(K:c1)(x:an2)(σ:ah):Prop:=an3 (dz σ x) fun q=>bI q (c6 σ K) (vb σ K)
mutual
noncomputable def cU(c:bP)(y:bE)(m:Nat)(ρ:a')(σ:ah)(K:c1):Prop:=match y with
 |.const k=>an3 (AC k) (BK σ K)
 |.loc i=>bI (p8 i ρ.len) (an3 (lk ρ i) (BK σ K)) False
 |.kK es=>FZ c es ρ σ K
 |.o5 es=>F0 c es ρ σ K
 |.bin op a b=>cU c a 0 ρ σ (ac3 (cU c b 0 ρ) op m K)
 |.qe a=>cU c a 0 ρ σ (ac4 K)
 |.neg a=>cU c a 0 ρ σ (ac5 K)
 |.cmp op a b=>cU c a 0 ρ σ (ac7 (cU c b 0 ρ) op K)
 |.tup es=>ni c es 0 ρ σ (ac8 K)
 |.lst es=>ni c es m.pred ρ σ (ac9 m K)
 |.io=>cf (iG m (.dict []) σ) K
 |.idx a i=>cU c a 0 ρ σ (adb (cU c i 0 ρ) K)
 |.rG a lo=>cU c a 0 ρ σ (ade (cU c lo 0 ρ) m K)
 |.rH a lo hi=>cU c a 0 ρ σ (adh (cU c lo 0 ρ) (cU c hi 0 ρ) m K)
 |.glob x=>an3 (c.gl x) (BK σ K)
 |.comp elt t it cond=>cU c it 0 ρ σ (adj c cond elt m t ρ K)
 |.ite t a b=>cU c t 0 ρ σ (ady (cU c a m ρ) (cU c b m ρ) K)
 |.attr a x=>cU c a 0 ρ σ (adk c x K)
 |.kL o x args=>cU c o 0 ρ σ (adm c (ni c args 0 ρ) x K)
 |.new k args=>ni c args 0 ρ σ (ado c k K)
 |.call f args=>ni c args 0 ρ σ (adp c f K)
 |.bi b args=>ni c args 0 ρ σ (adq b m K)
 |.f8 o mt args=>cU c o 0 ρ σ (adt (ni c args 0 ρ) mt K)
noncomputable def ni(c:bP)(x:c4)(m:Nat)(ρ:a')(σ:ah)(K:(List an2->ah->Prop)):Prop:=match x with
 |.nil=>K [] σ
 |.cons e es=>cU c e m ρ σ (adv (ni c es m ρ) K)
noncomputable def FZ(c:bP)(x:c4)(ρ:a')(σ:ah)(K:c1):Prop:=match x with
 |.nil=>False
 |.cons e es=>match es with
  |.nil=>cU c e 0 ρ σ K
  |.cons V f9=>cU c e 0 ρ σ (adw (FZ c es ρ) K)
noncomputable def F0(c:bP)(x:c4)(ρ:a')(σ:ah)(K:c1):Prop:=match x with
 |.nil=>False
 |.cons e es=>match es with
  |.nil=>cU c e 0 ρ σ K
  |.cons V f9=>cU c e 0 ρ σ (adx (F0 c es ρ) K)
end
theorem cf.bind{β:Type}{r:be α}{f:α->ah->be β}{K:α->ah->Prop}{K':β->ah->Prop}(h:cf r K)(k:∀a σ,K a σ->cf (f a σ) K'):cf (r.bind f) K':=by
 cases r with
 |ok a σ=>exact k a σ h
 |bad=>exact h.elim
variable {ρ aN:a'}
theorem yH(h:i<ρ.len):(bV ρ)[i]?=some (vX (lk ρ i)):=by
 unfold bV;rw[aob,p9 h];rfl
theorem F1(h:bI b P False):b=true/\P:=by
 cases b with
 |false=>exact h.elim
 |true=>exact⟨rfl,h⟩
variable {c:bP}{a v:an2}
theorem adz{ρ:List an2}(h:ρ[i]?=some v)(a:e8 v=false):bk c (.loc i) m ρ σ=.ok v σ:=by
 rw[LA,h];cases v<;>first | rfl | cases a
variable {o:Option Bool}
theorem Ow{K:an2->ah->Prop}(h:an3 o fun b=>K (.bool b) σ):cf (ti o σ) K:=by
 cases o with
 |none=>exact h
 |some b=>exact h
theorem F2{bv b:be α}{K:α->ah->Prop}{aE aZ:Prop}(h:an3 o fun q=>bI q aE aZ)(a:aE->cf bv K)(O:aZ->cf b K):cf (o9 o bv b) K:=by
 rcases o with V|V|V
 ·exact h.elim
 ·exact O h
 ·exact a h
theorem Ox{o:Option an2}{K:an2->ah->Prop}(h:an3 o fun v=>K v σ):cf (AD o σ) K:=by
 cases o with
 |none=>exact h
 |some v=>exact h
def adA(c:bP)(e:bE):Prop:=∀(m:Nat) (ρ:a') (σ:ah) (K:an2->ah->Prop),cY ρ->cU c e m ρ σ K->cf (bk c e m (bV ρ) σ) K
structure adB (c:bP)(es:c4):Prop where
 s:∀(m:Nat) (ρ:a') (σ:ah) (K:List an2->ah->Prop),cY ρ->ni c es m ρ σ K->cf (ki c es m (bV ρ) σ) K
 a:∀(ρ:a') (σ:ah) (K:an2->ah->Prop),cY ρ->FZ c es ρ σ K->cf (nU c es (bV ρ) σ) K
 o:∀(ρ:a') (σ:ah) (K:an2->ah->Prop),cY ρ->F0 c es ρ σ K->cf (nV c es (bV ρ) σ) K
section
variable {c:bP}
theorem iy(e:bE):adA c e:=by
 induction e using bE.rec (motive_2:=adB c) with
 |const k=>
  intro m ρ σ K V h;refine aw (iw (show an3 (AC k) fun v=>K v σ from h)) fun v u O=>?_;rw[Lz,u];exact O
 |loc i=>
  intro m ρ σ K d h;have h:bI (p8 i ρ.len) (an3 (lk ρ i) fun v=>K v σ) False:=h;cases D:p8 i ρ.len with
  |false=>rw[D]at h;exact h.elim
  |true=>
   rw[D]at h;refine aw (iw (show an3 (lk ρ i) fun v=>K v σ from h)) fun v u O=>?_;have I:=yH (z4 D);rw[u]at I;rw[adz I (d i v u)];exact O
 |kK es n=>
  intro m ρ σ K d h;exact n.a ρ σ K d h
 |o5 es n=>
  intro m ρ σ K d h;exact n.o ρ σ K d h
 |bin op a b g A=>
  intro m ρ σ K d h;exact cf.bind (g 0 ρ σ _ d h) fun x aj h=>cf.bind (A 0 ρ aj _ d h) fun y p h=>yE h
 |qe a g=>
  intro m ρ σ K d h;exact cf.bind (g 0 ρ σ _ d h) fun x aj h=>Ow (by
   have h:an3 (dz aj x) fun b=>K (.bool (!b)) aj:=h;cases e:dz aj x with
   |none=>rw[e]at h;exact h
   |some b=>rw[e]at h;exact h)
 |neg a g=>
  intro m ρ σ K d h;exact cf.bind (g 0 ρ σ _ d h) fun x aj h=>by
   cases x<;>first | exact h | exact h.elim
 |cmp op a b g A=>
  intro m ρ σ K d h;exact cf.bind (g 0 ρ σ _ d h) fun x aj h=>cf.bind (A 0 ρ aj _ d h) fun y p h=>Ow h
 |tup es n=>
  intro m ρ σ K d h;exact cf.bind (n.s 0 ρ σ _ d h) fun vs aj h=>h
 |lst es n=>
  intro m ρ σ K d h;exact cf.bind (n.s m.pred ρ σ _ d h) fun vs aj h=>h
 |io=>
  intro m ρ σ K d h;exact h
 |idx a i g B=>
  intro m ρ σ K d h;exact cf.bind (g 0 ρ σ _ d h) fun x aj h=>cf.bind (B 0 ρ aj _ d h) fun y p h=>yE h
 |rG a i g B=>
  intro m ρ σ K d h;exact cf.bind (g 0 ρ σ _ d h) fun x aj h=>cf.bind (B 0 ρ aj _ d h) fun y p h=>yE h
 |rH a i j g B E=>
  intro m ρ σ K d h;exact cf.bind (g 0 ρ σ _ d h) fun x aj h=>cf.bind (B 0 ρ aj _ d h) fun y p h=>cf.bind (E 0 ρ p _ d h) fun z J h=>yE h
 |glob x=>
  intro m ρ σ K d h;exact Ox h
 |comp elt t it cond V F V=>
  intro m ρ σ K d h;exact cf.bind (F 0 ρ σ _ d h) fun v aj h=>by
   have h:an3 (de aj v) fun l=>eB c cond elt m t l v ρ aj K:=h;cases e:de aj v with
   |none=>rw[e]at h;exact h
   |some l=>
    rw[e]at h;refine cf.bind (show cf _ _ from h d) fun vs p h=>?_;have h:bI (d' vs.length) (cf (iG m (.list vs) p) K) False:=h;cases q:d' vs.length with
    |true=>rw[q]at h;exact h
    |false=>rw[q]at h;exact h
 |ite t a b G g A=>
  intro m ρ σ K d h;exact cf.bind (G 0 ρ σ _ d h) fun x aj h=>F2 h (g m ρ aj K d) (A m ρ aj K d)
 |attr a x g=>
  intro m ρ σ K d h;exact cf.bind (g 0 ρ σ _ d h) fun v aj h=>Ox h
 |kL o x args H w=>
  intro m ρ σ K d h;exact cf.bind (H 0 ρ σ _ d h) fun v aj h=>by
   refine aw (iw (show an3 (qi aj v x) (Ov c (ni c args 0 ρ) v aj K) from h)) fun f e h=>?_;show cf (DU (qi aj v x) _) K;rw[e];exact cf.bind (w.s 0 ρ aj _ d h) fun vs p h=>h
 |new k args w=>
  intro m ρ σ K d h;exact cf.bind (w.s 0 ρ σ _ d h) fun vs aj h=>cf.bind (show cf _ _ from h) fun v p h=>by
   cases v<;>first | exact h | exact h.elim
 |call f args w=>
  intro m ρ σ K d h;exact cf.bind (w.s 0 ρ σ _ d h) fun vs aj h=>h
 |bi b args w=>
  intro m ρ σ K d h;exact cf.bind (w.s 0 ρ σ _ d h) fun vs aj h=>yE h
 |f8 o mt args H w=>
  intro m ρ σ K d h;exact cf.bind (H 0 ρ σ _ d h) fun x aj h=>by
   refine bt (F1 h) fun e h=>?_;rw[bl e];refine cf.bind (w.s 0 ρ aj _ d h) fun vs p h=>?_;refine aw (iw h) fun r e h=>?_;rw[e];exact h
 |nil=>exact⟨fun V V V V V h=>h,fun V V V V h=>h.elim,fun V V V V h=>h.elim⟩
 |cons e es C n=>
  refine⟨fun m ρ σ K d h=>cf.bind (C m ρ σ _ d h) fun v aj h=>cf.bind (n.s m ρ aj _ d h) fun vs p h=>h,fun ρ σ K d h=>?_,fun ρ σ K d h=>?_⟩
  ·cases es with
   |nil=>exact C 0 ρ σ K d h
   |cons e' es=>exact cf.bind (C 0 ρ σ _ d h) fun v aj h=>F2 h (n.a ρ aj K d) id
  ·cases es with
   |nil=>exact C 0 ρ σ K d h
   |cons e' es=>exact cf.bind (C 0 ρ σ _ d h) fun v aj h=>F2 h id (n.o ρ aj K d)
theorem adF(es:c4):∀(m:Nat) (ρ:a') (σ:ah) (K:List an2->ah->Prop),cY ρ->ni c es m ρ σ K->cf (ki c es m (bV ρ) σ) K:=by
 induction es using c4.ind with
 |case1=>exact fun V V V V V h=>h
 |case2 e es b=>exact fun m ρ σ K a h=>cf.bind (iy e m ρ σ _ a h) fun v aj h=>cf.bind (b m ρ aj _ a h) fun vs d h=>h
end
def cO(r:be fi)(K:fJ->a'->ah->Prop)(X:Str->ah->Prop):Prop:=t4 r (fun p σ=>∃ρ:a',cY ρ/\p.2=bV ρ/\K p.1 ρ σ) X
def dg(c:bP)(body:dH)(t:dq)(ks:List Nat)(l:List an2)(v:an2)(ρ:a')(σ:ah)(K:fJ->a'->ah->Prop)(X:Str->ah->Prop):Prop:=
 cY ρ->cO (hX v (c' σ v) (g1 (cF c body) t ks l (bV ρ) (bG σ v true))) K X
def vY(c:bP)(t:bE)(body:dH)(ks:List Nat)(ρ:a')(σ:ah)(K:fJ->a'->ah->Prop)(X:Str->ah->Prop):Prop:=
 cY ρ->cO (qj (bk c t 0) (cF c body) ks (bV ρ) σ) K X
noncomputable def Oy(x:fJ):Bool:=match x with
 |.next=>true
 |.ret V=>false
abbrev ic:=fJ->a'->ah->Prop
abbrev se:=Str->ah->Prop
def adG(i j:Nat)(x:an2)(ρ:a')(K:ic)(y:an2)(σ:ah):Prop:=an3 (jl ρ j y) fun aN=>an3 (jl aN i x) fun fZ=>K .next fZ σ
def adH(vb:ah->c1->Prop)(i j:Nat)(ρ:a')(K:ic)(x:an2)(σ:ah):Prop:=vb σ (adG i j x ρ K)
def Oz(σ:ah)(K:ic)(ρ:a'):Prop:=K .next ρ σ
def adI(i:Nat)(ρ:a')(K:ic)(v:an2)(σ:ah):Prop:=an3 (jl ρ i v) (Oz σ K)
def F3(ρ:a')(K:ic)(σ:ah):Prop:=K .next ρ σ
def adJ(x a:an2)(ρ:a')(K:ic)(k:an2)(σ:ah):Prop:=an3 (setAt σ a k x) (F3 ρ K)
def adK(F4:ah->c1->Prop)(x:an2)(ρ:a')(K:ic)(a:an2)(σ:ah):Prop:=F4 σ (adJ x a ρ K)
def adL(aoW F4:ah->c1->Prop)(ρ:a')(K:ic)(x:an2)(σ:ah):Prop:=aoW σ (adK F4 x ρ K)
def adM(is:List Nat)(ρ:a')(K:ic)(v:an2)(σ:ah):Prop:=an3 (iR (.many is) v ρ) (Oz σ K)
def adN(c:bP)(x:Str)(y:an2)(ρ:a')(K:ic)(a:an2)(σ:ah):Prop:=an3 (me c σ a x y) (F3 ρ K)
def adO(c:bP)(aoW:ah->c1->Prop)(x:Str)(ρ:a')(K:ic)(y:an2)(σ:ah):Prop:=aoW σ (adN c x y ρ K)
def adP(ρ:a')(K:ic)(_:an2)(σ:ah):Prop:=K .next ρ σ
def adQ(ρ:a')(K:ic)(v:an2)(σ:ah):Prop:=K (.ret v) ρ σ
def adR(c6 vb:ah->ic->se->Prop)(K:ic)(X:se)(x:an2)(σ:ah):Prop:=an3 (dz σ x) fun q=>bI q (c6 σ K X) (vb σ K X)
def adS(i r:Nat)(ρ:a')(K:fJ->a'->ah->Prop)(v:an2)(σ:ah):Prop:=bI (p8 r ρ.len) (an3 (pd σ v (lk ρ r)) fun k=>an3 (jl ρ i (.int k)) fun aN=>K .next aN σ) False
def qF(c:bP)(body:dH)(is ks:List Nat)(q:List an2×an2×an2)(ρ:a')(σ:ah)(K:fJ->a'->ah->Prop)(X:Str->ah->Prop):Prop:=
 cY ρ->cO (rO (hX q.2.1 (c' σ q.2.1) (hX q.2.2 (c' (bG σ q.2.1 true) q.2.2) (g1 (cF c body) (.many is) ks q.1 (bV ρ) (bG (bG σ q.2.1 true) q.2.2 true))))) K X
def adT(c:bP)(z:Bool)(is:List Nat)(body:dH)(ks:List Nat)(ρ:a')(K:fJ->a'->ah->Prop)(X:Str->ah->Prop)(vs:List an2)(σ:ah):Prop:=an3 (AF σ z vs) fun q=>qF c body is ks q ρ σ K X
def adU(c:bP)(t:dq)(body:dH)(ks:List Nat)(ρ:a')(K:ic)(X:se)(v:an2)(σ:ah)(l:List an2):Prop:=dg c body t ks l v ρ σ K X
def adV(c:bP)(t:dq)(body:dH)(ks:List Nat)(ρ:a')(K:ic)(X:se)(v:an2)(σ:ah):Prop:=an3 (de σ v) (adU c t body ks ρ K X v σ)
def adW(m3:a'->ah->ic->se->Prop)(K:ic)(X:se)(f:fJ)(ρ:a')(σ:ah):Prop:=bI (Oy f) (m3 ρ σ K X) (K f ρ σ)
mutual
noncomputable def OA(c:bP)(y:o6)(ρ:a')(σ:ah)(K:ic)(X:se):Prop:=match y with
 |.assign i m e=>cU c e m ρ σ (adI i ρ K)
 |.fx o i m v=>cU c v m ρ σ (adL (cU c o 0 ρ) (cU c i 0 ρ) ρ K)
 |.tc is e=>cU c e 0 ρ σ (adM is ρ K)
 |.setattr o x m v=>cU c v m ρ σ (adO c (cU c o 0 ρ) x ρ K)
 |.u1 i a r nl=>bI (decide (c.lnm=nl)) (cU c a 0 ρ σ (adS i r ρ K)) False
 |.u0 b=>iz c b ρ σ K fun V V=>False
 |.rJ i j a b=>cU c a 0 ρ σ (adH (cU c b 0 ρ) i j ρ K)
 |.qf z is args body ks=>ni c args 0 ρ σ (adT c z is body ks ρ K X)
 |.bad=>False
 |.rI t body ks=>vY c t body ks ρ σ K X
 |.expr e=>cU c e 0 ρ σ (adP ρ K)
 |.ret m e=>cU c e m ρ σ (adQ ρ K)
 |.ite t b o=>cU c t 0 ρ σ (adR (iz c b ρ) (iz c o ρ) K X)
 |.ev t it body ks=>cU c it 0 ρ σ (adV c t body ks ρ K X)
noncomputable def iz(c:bP)(x:dH)(ρ:a')(σ:ah)(K:ic)(X:se):Prop:=match x with
 |.nil=>K .next ρ σ
 |.cons s ss=>OA c s ρ σ (adW (iz c ss) K X) X
end
theorem yL:(bV ρ).length=ρ.len:=by unfold bV;rw[a0,an5]
variable {args l:List an2}
theorem aoT(b:l.length=ρ.len)(h:∀j,j<ρ.len->l[j]?=some (vX (lk ρ j))):bV ρ=l:=by
 refine uQ fun j=>?_;by_cases a:j<ρ.len
 ·rw[yH a,h j a]
 ·rw[nN (by rw[yL];exact kC a),nN (by rw[b];exact kC a)]
theorem adX:bV (.upd ρ i v)=(bV ρ).set i v:=by
 refine aoT (by rw[lY,yL];rfl) fun j a=>?_;have a:j<ρ.len:=a;show _=some (vX (bif mO i j then some v else lk ρ j));rw[I7];by_cases e:i=j
 ·subst e;rw[bl rfl,bl (by rw[yL];exact a),alA];rfl
 ·rw[b5 e,yH a,show mO i j=false from (alB).mpr fun q=>e (alC q)];rfl
theorem adY:bV (.del ρ i)=(bV ρ).set i .undef:=by
 refine aoT (by rw[lY,yL];rfl) fun j a=>?_;have a:j<ρ.len:=a;show _=some (vX (bif mO i j then none else lk ρ j));rw[I7];by_cases e:i=j
 ·subst e;rw[bl rfl,bl (by rw[yL];exact a),alA];rfl
 ·rw[b5 e,yH a,show mO i j=false from (alB).mpr fun q=>e (alC q)];rfl
theorem cY.upd(h:cY ρ)(a:e8 v=false):cY (.upd ρ i v):=fun j w aF=>by
 have aF:(bif mO i j then some v else lk ρ j)=some w:=aF;cases e:mO i j with
 |true=>rw[e]at aF;cases aF;exact a
 |false=>rw[e]at aF;exact h j w aF
theorem cY.del(h:cY ρ):cY (.del ρ i):=fun j w aF=>by
 have aF:(bif mO i j then none else lk ρ j)=some w:=aF;cases e:mO i j with
 |true=>rw[e]at aF;cases aF
 |false=>rw[e]at aF;exact h j w aF
theorem vZ(b:cY ρ)(h:jl ρ i v=some aN):cY aN/\bV aN=(bV ρ).set i v:=by
 have h:(bif p8 i ρ.len then (bif e8 v then none else some (a'.upd ρ i v)) else none)=some aN:=h;cases a:p8 i ρ.len with
 |false=>rw[a]at h;cases h
 |true=>
  rw[a]at h;have h:(bif e8 v then none else some (a'.upd ρ i v))=some aN:=h;cases e:e8 v with
  |true=>rw[e]at h;cases h
  |false=>rw[e]at h;cases h;exact⟨b.upd e,adX⟩
theorem adZ:∀{is:List Nat} {l:List an2} {ρ aN:a'},cY ρ->yF ρ is l=some aN->cY aN/\l.length=is.length/\bV aN=nT (bV ρ) is l:=by
 intro is
 induction is with
 |nil=>
  intro l ρ aN a h;cases l with
  |nil=>cases h;exact⟨a,rfl,rfl⟩
  |cons v l=>cases h
 |cons i is ih=>
  intro l ρ aN a h;cases l with
  |nil=>cases h
  |cons v l=>
  refine aw (eN.mp (show (jl ρ i v).bind (fun aN=>yF aN is l)=some aN from h)) fun j b O=>?_;refine bt (vZ a b) fun c d=>?_;refine mV (ih c O) fun e f g=>?_;exact⟨e,dt (·+1) f,by rw[g,d];rfl⟩
variable {ks:List Nat}
theorem cY.kill(h:cY ρ):cY (gm ks ρ):=by
 induction ks generalizing ρ with
 |nil=>exact h
 |cons i ks ih=>exact ih h.del
theorem qG:bV (gm ks ρ)=Mine.Internal.kill ks (bV ρ):=by
 induction ks generalizing ρ with
 |nil=>rfl
 |cons i ks ih=>
  show bV (gm ks (.del ρ i))=Mine.Internal.kill ks ((bV ρ).set i .undef);rw[ih,adY]
theorem yM{t:dq}(b:cY ρ)(h:iR t v ρ=some aN):cY aN/\hW t v (bV ρ)=some (bV aN):=by
 cases t with
 |one i=>
  refine bt (vZ b (show jl ρ i v=some aN from h)) fun a O=>?_;exact⟨a,dt some O.symm⟩
 |many is=>
  refine aw (eN.mp (show ((rL v).bind fun l=>yF ρ is l)=some aN from h)) fun l e h=>?_;refine mV (adZ b h) fun a O c=>?_;refine⟨a,?_⟩;cases v with
  |tup d=>cases e;show (if l.length=is.length then some (nT (bV ρ) is l) else none)=_;rw[bl O,c]
  |_=>cases e
variable {K K':fJ->a'->ah->Prop}{X:Str->ah->Prop}
theorem cO.mk{f:fJ}(a:cY ρ)(h:K f ρ σ):cO (.ok (f,bV ρ) σ) K X:=⟨ρ,a,rfl,h⟩
theorem cO.dD{r:be α}{f:α->ah->be fi}{K:α->ah->Prop}(h:cf r K)(k:∀a σ,K a σ->cO (f a σ) K' X):cO (r.bind f) K' X:=by
 cases r with
 |ok a σ=>exact k a σ h
 |bad=>exact h.elim
theorem t4.ad0{r:be α}{f:α->ah->be fi}{K:α->ah->Prop}(h:t4 r K X)(k:∀a σ,K a σ->cO (f a σ) K' X):cO (r.gz f) K' X:=by
 cases r with
 |ok a σ=>exact k a σ h
 |bad=>exact h
section
variable {c:bP}
def ad1(c:bP)(s:o6):Prop:=∀(ρ:a') (σ:ah) (K:fJ->a'->ah->Prop) (X:Str->ah->Prop),cY ρ->OA c s ρ σ K X->cO (rP c s (bV ρ) σ) K X
def ad2(c:bP)(ss:dH):Prop:=∀(ρ:a') (σ:ah) (K:fJ->a'->ah->Prop) (X:Str->ah->Prop),cY ρ->iz c ss ρ σ K X->cO (cF c ss (bV ρ) σ) K X
theorem v0(ss:dH):ad2 c ss:=by
 induction ss using dH.rec (motive_1:=ad1 c) with
 |assign i m e=>
  intro ρ σ K X d h;exact cO.dD (iy e m ρ σ _ d h) fun v aj h=>by
   refine aw (iw h) fun aN g O=>?_;refine bt (vZ d g) fun u A=>?_;rw[<- A];exact cO.mk u O
 |fx o i m v=>
  intro ρ σ K X d h;exact cO.dD (iy v m ρ σ _ d h) fun x aj h=>cO.dD (iy o 0 ρ aj _ d h) fun a B h=>cO.dD (iy i 0 ρ B _ d h) fun k R h=>by
   refine aw (iw h) fun H g O=>?_;rw[g];exact cO.mk d O
 |tc is e=>
  intro ρ σ K X d h;exact cO.dD (iy e 0 ρ σ _ d h) fun v aj h=>by
   refine aw (iw h) fun aN g O=>?_;refine bt (yM d g) fun u A=>?_;rw[A];exact cO.mk u O
 |setattr o x m v=>
  intro ρ σ K X d h;exact cO.dD (iy v m ρ σ _ d h) fun y aj h=>cO.dD (iy o 0 ρ aj _ d h) fun a B h=>by
   refine aw (iw (show an3 (me c B a x y) (F3 ρ K) from h)) fun H g O=>?_;rw[g];exact cO.mk d O
 |u1 i a r nl=>
  intro ρ σ K X d h;refine bt (F1 h) fun g h=>?_;show cO (bif decide (c.lnm=nl) then (bk c a 0 (bV ρ) σ).bind fun v aj=>AH (pd aj v (bV ρ)[r]?) fun k=>.ok (.next,(bV ρ).set i (.int k)) aj else .bad) K X
  rw[g];refine cO.dD (iy a 0 ρ σ _ d h) fun v aj h=>?_;refine bt (F1 h) fun I h=>?_;refine aw (iw h) fun k n h=>?_;refine aw (iw h) fun aN J h=>?_;refine bt (vZ d J) fun u A=>?_;have L:pd aj v (bV ρ)[r]?=some k:=by
   rw[yH (z4 I)];cases F:lk ρ r with
   |none=>
    rw[F]at n;unfold pd at n;refine aw (eN.mp n) fun V V n=>?_;refine aw (eN.mp n) fun V V n=>?_;refine aw (eN.mp n) fun V V n=>?_;cases n
   |some w=>rw[F]at n;exact n
  rw[L];show cO (.ok (.next,(bV ρ).set i (.int k)) aj) K X
  rw[<- A];exact cO.mk u h
 |u0 b C=>
  intro ρ σ K X d h;have h:=C ρ σ K (fun V V=>False) d h;show cO (rO (cF c b (bV ρ) σ)) K X;cases e:cF c b (bV ρ) σ with
  |ok r au=>rw[e]at h;exact h
  |bad=>rw[e]at h;exact h
 |rJ i j a b=>
  intro ρ σ K X d h;exact cO.dD (iy a 0 ρ σ _ d h) fun x aj h=>cO.dD (iy b 0 ρ aj _ d h) fun y B h=>by
   refine aw (iw h) fun aN g h=>?_;refine bt (vZ d g) fun u A=>?_;refine aw (iw h) fun S g h=>?_;refine bt (vZ u g) fun M N=>?_;rw[<- A,<- N];exact cO.mk M h
 |qf z is args body ks G=>
  intro ρ σ K X d h;exact cO.dD (adF args 0 ρ σ _ d h) fun vs aj h=>by
   refine aw (iw h) fun q g O=>?_;rw[g];exact O d
 |bad=>
  intro ρ σ K X d h;exact h.elim
 |rI t body ks G=>
  intro ρ σ K X d h;exact h d
 |expr e=>
  intro ρ σ K X d h;exact cO.dD (iy e 0 ρ σ _ d h) fun v aj h=>cO.mk d h
 |ret m e=>
  intro ρ σ K X d h;exact cO.dD (iy e m ρ σ _ d h) fun v aj h=>cO.mk d h
 |ite t b o C P=>
  intro ρ σ K X d h;exact cO.dD (iy t 0 ρ σ _ d h) fun x aj h=>by
   refine aw (iw h) fun q g O=>?_;rw[g];cases q with
   |true=>exact C ρ aj K X d O
   |false=>exact P ρ aj K X d O
 |ev t it body ks G=>
  intro ρ σ K X d h;exact cO.dD (iy it 0 ρ σ _ d h) fun v aj h=>by
   refine aw (iw h) fun l g O=>?_;rw[g];exact O d
 |nil=>exact fun ρ σ K X d h=>cO.mk d h
 |cons s ss D E=>
  intro ρ σ K X d h;refine t4.ad0 (D ρ σ _ X d h) fun p aj Q=>?_;refine fS Q fun aN g O u=>?_;obtain⟨f,T⟩:=p;cases O;cases f with
  |next=>exact E aN aj K X g u
  |ret v=>exact cO.mk g u
end
noncomputable def ot(x:List an2):Bool:=match x with
 | []=>true
 |v::r=>bif e8 v then false else ot r
theorem ad5(h:ot l=true):∀v∈l,e8 v=false:=by
 induction l with
 |nil=>exact fun v a=>eO a
 |cons w r ih=>
  intro v a;have h:(bif e8 w then false else ot r)=true:=h;cases e:e8 w with
  |true=>rw[e]at h;cases h
  |false=>
   rw[e]at h;rcases dG.mp a with q|q
   ·rw[q];exact e
   ·exact ih h v q
theorem mz{r:List an2}(a:e8 v=false)(O:ot r=true):ot (v::r)=true:=by
 show (bif e8 v then false else ot r)=true;rw[a];exact O
structure jT (G:rK)(d:Nat)(c:bP):Prop where
 hA:∀f vs σ,c.hA f vs σ=bF G d f vs σ
 gl:∀x,c.gl x=G.const x
 aoq:c.aoq=G.aoq
 lnm:c.lnm=G.lnm
 dc:∀x,c.dc x=G.dc x
theorem OC(l:List an2)(j:Nat):yC (l.map some) j=l[j]?:=by
 induction l generalizing j with
 |nil=>rfl
 |cons v l ih=>cases j with
  |zero=>rfl
  |succ j=>exact ih j
theorem ad6(h:args.length<=n):bV (.eV n (args.map some))=args++eL (n-args.length) .undef:=by
 refine aoT (by rw[bW,qa];exact Dg h) fun j a=>?_;have a:j<n:=a;show _=some (vX (yC (args.map some) j));rw[OC];by_cases q:j<args.length
 ·rw[mS q,uP q];rfl
 ·have q:=kC q;rw[nP q,List.getElem?_replicate,nN q,bl (TC q a)];rfl
theorem OD(a:ot args=true):cY (.eV n (args.map some)):=fun i v h=>by
 have h:yC (args.map some) i=some v:=h;rw[OC]at h;exact ad5 a v (ik h)
variable {G:rK}{F:cb}
theorem ou{f:Str}{P:be an2->Prop}(bL:G.fn f=some F)(hn:args.length=F.i7)(a:Nat.ble F.i7 F.slots=true)(b:ot args=true)
  (h:∀c:bP,jT G d c->iz c F.body (.eV F.slots (args.map some)) σ (fun f V au=>P (left F.keep σ (.ok (f,[]) au))) fun V V=>False):P (bF G (d+1) f args σ):=by
 have g:bV (.eV F.slots (args.map some))=args++eL (F.slots-F.i7) .undef:=hn▸ad6 (hn▸z4 a);have i:cY (.eV F.slots (args.map some)):=OD b;have H:=v0 F.body _ σ _ _ i (h ⟨G.lnm,G.const,bF G d,G.aoq,G.dc⟩ ⟨fun V V V=>rfl,fun V=>rfl,rfl,rfl,fun V=>rfl⟩);rw[g]at H;have e:bF G (d+1) f args σ=left F.keep σ (cF ⟨G.lnm,G.const,bF G d,G.aoq,G.dc⟩ F.body (args++eL (F.slots-F.i7) .undef) σ):=by
  show (match G.fn f with
   |some F=>tj ⟨G.lnm,G.const,bF G d,G.aoq,G.dc⟩ F args σ
   |none=>.bad)=_
  rw[bL];exact bl hn
 rw[e];generalize cF ⟨G.lnm,G.const,bF G d,G.aoq,G.dc⟩ F.body (args++eL (F.slots-F.i7) .undef) σ=r at H ⊢;cases r with
 |bad=>exact H.elim
 |ok p au=>
  obtain⟨ρ,k,l,h⟩:=H;obtain⟨f,j⟩:=p;rw[show left F.keep σ (.ok (f,j) au)=left F.keep σ (.ok (f,[]) au) by cases F.keep<;>rfl];exact h
theorem dw{f:Str}{R:be an2}(bL:G.fn f=some F)(hn:args.length=F.i7)(a:Nat.ble F.i7 F.slots=true)(b:ot args=true)
  (h:∀c:bP,jT G d c->iz c F.body (.eV F.slots (args.map some)) σ (fun f V au=>left F.keep σ (.ok (f,[]) au)=R) fun V V=>False):bF G (d+1) f args σ=R:=ou (P:=(·=R)) bL hn a b h
theorem dP{ρ:List an2}(h:eF v=true):left false σ (.ok (.ret v,ρ) σ)=.ok v σ:=by
 rw[xy,IL,bl rfl,xA h]
theorem qH{ρ:List an2}(h:eF v=true):left false σ (.ok (.ret v,ρ) (σ++au))=.ok v σ:=by
 rw[xy,I8,bl rfl,xA h]
theorem aW{f:Str}{vs:List an2}{K:an2->ah->Prop}(a:jT G d c)(h:bF G d f vs σ=.ok v au)(k:K v au):@be.rec an2 (fun V=>Prop) K False (c.hA f vs σ):=t4.mk ((a.hA f vs σ).trans h) k
noncomputable def F7(y:Int):Bool:=decide (-18446744073709551616<y)&&decide (y<18446744073709551616)
variable {x y:Int}
theorem BL(h:F7 y=true):-(2^64)<y/\y<2^64:=by
 have h:=gX.mp h;exact⟨ct h.1,ct h.2⟩
theorem v3(h:F7 y=true):IntMulOk x y:=DW (BL h).1 (BL h).2
theorem sf(h:F7 x=true):IntMulOk x y:=DV (BL h).1 (BL h).2
theorem jU{K:cL->Prop}(h:IntMulOk x y)(k:K (.v (.int (x*y)))):@hq _ (fun V=>Prop) False K (kg σ .Mult (.int x) (.int y)):=an3.mk (VE σ x y h) k
theorem v4{K:cL->Prop}(h:y≠0)(k:K (.v (.int (x.fmod y)))):@hq _ (fun V=>Prop) False K (kg σ .Mod (.int x) (.int y)):=an3.mk (VC σ x y h) k
theorem sg{K:cL->Prop}(h:y≠0)(k:K (.v (.int (x.fdiv y)))):@hq _ (fun V=>Prop) False K (kg σ .FloorDiv (.int x) (.int y)):=an3.mk (VD σ x y h) k
variable {w:cL}
theorem cj{i:an2}{K:cL->Prop}(h:eQ σ a i=some w)(k:K w):@hq _ (fun V=>Prop) False K (eQ σ a i):=an3.mk h k
theorem cm{b:aov}{K:cL->Prop}(h:i8 σ b l=some w)(k:K w):@hq _ (fun V=>Prop) False K (i8 σ b l):=an3.mk h k
theorem yN{op:CmpOp}{b:an2}{w:Bool}{K:Bool->Prop}(h:mX σ op a b=some w)(k:K w):@hq _ (fun V=>Prop) False K (mX σ op a b):=an3.mk h k
theorem ad7{i j:an2}{K:cL->Prop}(h:xo σ a i j=some w)(k:K w):@hq _ (fun V=>Prop) False K (xo σ a i j):=an3.mk h k
theorem ad8{x:Str}{K:an2->Prop}(a:jT G d c)(h:G.const x=some v)(k:K v):@hq _ (fun V=>Prop) False K (c.gl x):=an3.mk ((a.gl x).trans h) k
theorem ad9{i:an2}{K:cL->Prop}(h:xp σ a i=some w)(k:K w):@hq _ (fun V=>Prop) False K (xp σ a i):=an3.mk h k
theorem eh{op:Operator}{b:an2}{K:cL->Prop}(h:kg σ op a b=some w)(k:K w):@hq _ (fun V=>Prop) False K (kg σ op a b):=an3.mk h k
def sh(v:an2)(b:Bool)(ks:List Nat)(K:fJ->a'->ah->Prop)(I:a'->ah->Prop)(x:fJ)(ρ:a')(σ:ah):Prop:=match x with
 |.next=>I (gm ks ρ) σ
 |.ret w=>K (.ret w) ρ (bG σ v b)
inductive jm (I:a'->ah->Prop)(ρ:a')(σ:ah):Prop
 |mk (hK:a') (h:bV ρ=bV hK) (k:I hK σ):jm I ρ σ
variable {body:dH}
theorem OE{t:dq}(I:Nat->a'->ah->Prop)(a:∀k ρ σ,I k ρ σ->cY ρ)(l:List an2):∀(k:Nat) (d:List an2) (ρ:a') (σ:ah),kill ks d=bV ρ ->
  (∀j x ρ σ,l[j]?=some x->I (k+j) ρ σ->an3 (iR t x ρ) fun aN=>iz c body aN σ (sh v b ks K (jm (I (k+j+1)))) fun e au=>X e (bG au v b)) ->
  I k ρ σ->(∀ρ au,I (k+l.length) ρ au->K .next ρ (bG au v b))->cO (hX v b (g1 (cF c body) t ks l d σ)) K X:=by
 induction l with
 |nil=>exact fun k d ρ σ g V h i=>⟨ρ,a _ _ _ h,g,i _ _ h⟩
 |cons x l ih=>
  intro k d ρ σ g o h i;refine aw (iw (o 0 x ρ σ rfl h)) fun aN m O=>?_;refine bt (yM (a _ _ _ h) m) fun s u=>?_;have H:=v0 body aN σ _ _ s O;rw[Lv,g,u];show cO (hX v b ((cF c body (bV aN) σ).gz _)) K X;generalize cF c body (bV aN) σ=r at H;cases r with
  |bad=>exact H.elim
  |ok p au=>
   obtain⟨n,z,A,q⟩:=H;obtain⟨f,E⟩:=p;cases A;have go:jm (I (k+1)) (gm ks n) au->cO (hX v b (g1 (cF c body) t ks l (bV n) au)) K X:=fun ⟨B,C,a⟩=>
    ih (k+1) (bV n) B au (qG.symm.trans C) (fun j y ρ σ D a=>by
     have:=o (j+1) y ρ σ D (show I (k+j+1) _ _ from uM k 1 j▸a);rw[<- eK,uM k j 1]at this;exact this) a (fun ρ σ a=>i ρ σ (show I (k+l.length+1) _ _ from uM k 1 l.length▸a))
   cases f with
   |next=>exact go q
   |ret w=>exact⟨_,z,rfl,q⟩
theorem dg.inv{t:dq}(I:Nat->a'->ah->Prop)(a:∀k ρ σ,I k ρ σ->cY ρ)(h0:jm (I 0) (gm ks ρ) (bG σ v true))
  (b:∀k x ρ au,l[k]?=some x->I k ρ au->an3 (iR t x ρ) fun aN=>iz c body aN au (sh v (c' σ v) ks K (jm (I (k+1)))) fun e au=>X e (bG au v (c' σ v)))
  (d:∀ρ au,I l.length ρ au->K .next ρ (bG au v (c' σ v))):dg c body t ks l v ρ σ K X:=fun V=>
 let ⟨hK,f,h0⟩:=h0
 OE I a l 0 (bV ρ) hK _ (qG.symm.trans f) (fun j x ρ au g a=>by rw[mT]at a ⊢;exact b j x ρ au g a) h0 (fun ρ au a=>d ρ au (mT l.length▸a))
theorem dg.const{t:dq}(P:Nat->ah->Prop)(h0:P 0 (bG σ v true))
  (f:∀k x au,l[k]?=some x->P k au->an3 (iR t x (gm ks ρ)) fun aN=>iz c body aN au (sh v (c' σ v) ks K (jm fun a g=>a=gm ks ρ/\P (k+1) g)) fun e au=>X e (bG au v (c' σ v)))
  (i:∀au,P l.length au->K .next (gm ks ρ) (bG au v (c' σ v))):dg c body t ks l v ρ σ K X:=fun d=>
 dg.inv (fun k a au=>a=gm ks ρ/\P k au) (fun V V V h=>h.1▸d.kill) ⟨_,rfl,rfl,h0⟩ (fun k x a au j h=>by obtain⟨e,b⟩:=h;subst e;exact f k x au j b) (fun a au h=>by obtain⟨e,b⟩:=h;subst e;exact i au b) d
theorem dg.nj{t:dq}(bJ:α->an2)(xs:List α)(S:List α->ah)(i:l=xs.map bJ)(h0:bG σ v true=S [])
  (m:∀done x b,done++x::b=xs->an3 (iR t (bJ x) (gm ks ρ)) fun aN=>iz c body aN (S done) (sh v (c' σ v) ks K (jm fun n o=>n=gm ks ρ/\∃d r,d.length=done.length+1/\d++r=xs/\o=S d)) fun e au=>X e (bG au v (c' σ v)))
  (p:K .next (gm ks ρ) (bG (S xs) v (c' σ v))):dg c body t ks l v ρ σ K X:=by
 refine dg.const (fun k au=>∃d r,d.length=k/\d++r=xs/\au=S d) ⟨[],xs,rfl,rfl,h0⟩ (fun k x au j f=>?_) fun au f=>?_
 ·refine db f fun d r a O g=>?_;subst a g;rw[i,aob]at j;refine aw (dh.mp j) fun y h e=>?_;subst e;refine m d y (xs.drop (d.length+1)) ?_;rw[<- O,nP (cu _),p7]at h;cases r with
  |nil=>cases h
  |cons z r=>
   cases h;rw[<- O,alD,S8 (nK _),l0];rfl
 ·refine db f fun d r a O g=>?_;have:r=[]:=by
   have e:=dt w9 O;rw[bW,a,i,a0]at e;exact alE (uI (e.trans (alF _).symm))
  subst this g;rw[il]at O;subst O;exact p
theorem dg.list{t:dq}(bJ:α->an2)(xs:List α)(R:List α->a')(o:∀d,cY (R d))(S:List α->ah)(m:l=xs.map bJ)(p:bV (gm ks ρ)=bV (R []))(h0:bG σ v true=S [])
  (q:∀done x f,done++x::f=xs->an3 (iR t (bJ x) (R done)) fun aN=>iz c body aN (S done) (sh v (c' σ v) ks K (jm fun b s=>∃d r,d.length=done.length+1/\d++r=xs/\b=R d/\s=S d)) fun e au=>X e (bG au v (c' σ v)))
  (u:K .next (R xs) (bG (S xs) v (c' σ v))):dg c body t ks l v ρ σ K X:=by
 refine dg.inv (fun k b au=>∃d r,d.length=k/\d++r=xs/\b=R d/\au=S d) (fun k b au ⟨d,_,_,_,e,_⟩=>e▸o d) ⟨_,p,[],xs,rfl,rfl,rfl,h0⟩ (fun k x b au n g=>?_) fun b au g=>?_
 ·refine i5 g fun d r a O h i=>?_;subst a h i;rw[m,aob]at n;refine aw (dh.mp n) fun y j e=>?_;subst e;refine q d y (xs.drop (d.length+1)) ?_;rw[<- O,nP (cu _),p7]at j;cases r with
  |nil=>cases j
  |cons z r=>
   cases j;rw[<- O,alD,S8 (nK _),l0];rfl
 ·refine i5 g fun d r a O h i=>?_;have:r=[]:=by
   have e:=dt w9 O;rw[bW,a,m,a0]at e;exact alE (uI (e.trans (alF _).symm))
  subst this h i;rw[il]at O;subst O;exact u
theorem mA{xs done:List α}{x:α}{a:List α}{b:a'}{S:List α->ah}(c:done++x::a=xs)(h:bV ρ=bV b):jm (fun e f=>e=b/\∃d r,d.length=done.length+1/\d++r=xs/\f=S d) ρ (S (done++[x])):=
 ⟨b,h,rfl,done++[x],a,by rw[bW];rfl,by rw[ek];exact c,rfl⟩
def aea(ks:List Nat)(K:fJ->a'->ah->Prop)(I:a'->ah->Prop)(x:fJ)(ρ:a')(σ:ah):Prop:=match x with
 |.next=>I (gm ks ρ) σ
 |.ret w=>K (.ret w) ρ σ
theorem vY.inv{t:bE}(I:Nat->a'->ah->Prop)(i:∀k ρ σ,I k ρ σ->cY ρ)
  (A:∀n ρ σ,I n ρ σ->cU c t 0 ρ σ fun b aj=>an3 (dz aj b) fun q=>bI q (iz c body ρ aj (aea ks K (jm fun g au=>∃m,m<n/\I m g au)) fun V V=>False) (K .next ρ aj))
  (n:Nat) {ρ:a'} {σ:ah} (h0:jm (I n) (gm ks ρ) σ):vY c t body ks ρ σ K X:=by
 have H:∀(n:Nat) (a:List an2) (ρ:a') (σ:ah),kill ks a=bV ρ->I n ρ σ->∃k,cO (hY (bk c t 0) (cF c body) ks k a σ) K X:=by
  intro n
  induction n using Nat.strongRecOn with|_ n ih=>?_
  intro a ρ σ j h;have l:=i _ _ _ h;refine bZ (yD (iy t 0 ρ σ _ l (A n _ σ h))) fun b aj o s=>?_;refine aw (iw s) fun q x O=>?_;rw[<- j]at o;cases q with
  |false=>
   refine⟨1,?_⟩;rw[u6,o];show cO (match dz aj b with|some true=>_|some false=>_|none=>_) K X
   rw[x];exact⟨_,l,j,O⟩
  |true=>
   have H:=v0 body _ aj _ _ l O;rw[<- j]at H;have step:∀k,hY (bk c t 0) (cF c body) ks (k+1) a σ=(cF c body (kill ks a) aj).bind fun r y=>match r.1 with
    |.next=>hY (bk c t 0) (cF c body) ks k r.2 y
    |.ret v=>.ok (.ret v,r.2) y:=fun k=>by
    rw[u6,o];show (match dz aj b with|some true=>_|some false=>_|none=>_)=_
    rw[x]
    all_goals rfl
   generalize cF c body (kill ks a) aj=r at H step;cases r with
   |bad=>exact H.elim
   |ok p au=>
    obtain⟨u,B,C,z⟩:=H;obtain⟨f,g⟩:=p;cases C;have go:jm (fun g au=>∃m,m<n/\I m g au) (gm ks u) au->∃k,cO (hY (bk c t 0) (cF c body) ks k (bV u) au) K X:=fun ⟨D,E,m,F,i⟩=>ih m F (bV u) D au (qG.symm.trans E) i;cases f with
    |next=>obtain⟨k,d⟩:=go z;exact⟨k+1,by rw[step];exact d⟩
    |ret w=>exact⟨1,by rw[step];exact⟨_,B,rfl,z⟩⟩
 intro V;obtain⟨G,J,h0⟩:=h0;refine bK (H n (bV ρ) G σ (qG.symm.trans J) h0) fun k d=>?_;rw[Vx rfl (fun e=>by rw[e]at d;exact d)];exact d
variable {cond elt:bE}
theorem OF{t:dq}(j:cY ρ){σ:ah}(bJ:α->an2)(p:α->Bool)(o:α->an2):∀(xs:List α)
  (_:∀x∈xs,an3 (iR t (bJ x) ρ) fun aN=>(cU c cond 0 aN σ fun b aj=>aj=σ/\b=.bool (p x))/\(p x=true->cU c elt m aN σ fun v aj=>aj=σ/\v=o x)),gc (bk c cond 0) (bk c elt m) t (bV ρ) (xs.map bJ) σ=.ok ((xs.filter p).map o) σ:=by
 intro xs
 induction xs with
 |nil=>exact fun V=>rfl
 |cons x xs ih=>
  intro h;refine fS (iw (h x cW)) fun aN a O k=>?_;refine bt (yM j a) fun i l=>?_;have ih:=ih fun y n=>h y (dM _ n);refine db (yD (iy cond 0 aN σ _ i O)) fun b aj d e f=>?_;subst e f;rw[gu,AE,l];show (bk c cond 0 (bV aN) _).bind _=_;rw[d];show (match some (p x) with|some true=>_|some false=>_|none=>_)=_
  cases g:p x with
  |true=>
   refine db (yD (iy elt m aN _ _ i (k g))) fun v aj d e f=>?_;subst e f;show (bk c elt m (bV aN) _).bind _=_;rw[d];show (gc _ _ _ _ _ _).bind _=_;rw[ih,z5,g];rfl
  |false=>
   show gc _ _ _ _ _ _=_;rw[ih,z5,g];rfl
theorem eB.pure{t:dq}{K:an2->ah->Prop}(bJ:α->an2)(p:α->Bool)(o:α->an2)(xs:List α)(a:l=xs.map bJ)(d:bG σ v true=σ)(e:bG σ v (c' σ v)=σ)
  (f:∀x∈xs,an3 (iR t (bJ x) (gm (ip t) ρ)) fun aN=>(cU c cond 0 aN σ fun b aj=>aj=σ/\b=.bool (p x))/\(p x=true->cU c elt m.pred aN σ fun v aj=>aj=σ/\v=o x))
  (g:d' ((xs.filter p).map o).length=true) (k:cf (iG m (.list ((xs.filter p).map o)) σ) K):eB c cond elt m t l v ρ σ K:=by
 intro h;rw[a,d,<- qG,OF h.kill bJ p o xs f];show cf (.ok _ (bG σ v (c' σ v))) _;rw[e];exact bI.t g k
noncomputable def yO(x:List (Option an2)):Bool:=match x with
 | []=>true
 |o::l=>match o with
  |none=>yO l
  |some v=>bif e8 v then false else yO l
theorem pD{l:List (Option an2)}(a:yO l=true):cY (.eV n l):=by
 induction l with
 |nil=>exact fun i v h=>dS (show (none:Option an2)=some v from h)
 |cons w l ih=>
  intro i v h;cases w with
  |none=>cases i with
   |zero=>exact dS (show (none:Option an2)=some v from h)
   |succ i=>exact ih a i v h
  |some w=>
   have a:(bif e8 w then false else yO l)=true:=a;cases e:e8 w with
   |true=>rw[e]at a;cases a
   |false=>
    rw[e]at a;cases i with
    |zero=>cases (show some w=some v from h);exact e
    |succ i=>exact ih a i v h
end
set_option exponentiation.threshold 2000
section
open PySem
noncomputable def lnm:List (Str×NameKind):=[("self",.local),("at",.local),("first",.local),("column",.local),("there",.local),("least",.local),("row",.cell),("range",.globalImplicit),("len",.globalImplicit),("min",.globalImplicit)]
noncomputable def OG:cb:=⟨1,2,
 (.cons (.ret 0 (.bi .tuple (.cons (.comp (.tup (.cons (.loc 1) (.cons (.idx (.loc 0) (.loc 1)) .nil))) (.one 1) (.bi .sorted (.cons (.loc 0) .nil)) (.cmp .NotEq (.idx (.loc 0) (.loc 1)) (.const (.int 0)))) .nil)))
 .nil),false⟩
noncomputable def OH:cb:=⟨3,5,
 (.cons (.ev (.many [3,4]) (.loc 1)
  (.cons (.fx (.loc 0) (.loc 3) 0 (.bin .Add (.f8 (.loc 0) .get (.cons (.loc 3) (.cons (.const (.int 0)) .nil))) (.bin .Mult (.loc 4) (.loc 2))))
  .nil) [3,4])
 .nil),true⟩
noncomputable def OI:cb:=⟨2,3,
 (.cons (.assign 2 1 (.bi .dict (.cons (.loc 0) .nil)))
 (.cons (.expr (.call "put_to" (.cons (.loc 2) (.cons (.loc 1) (.cons (.const (.int 1)) .nil)))))
 (.cons (.ret 0 (.call "measure_of_dict" (.cons (.loc 2) .nil)))
 .nil))),false⟩
noncomputable def OJ:cb:=⟨2,3,
 (.cons (.assign 2 1 (.bi .dict (.cons (.loc 0) .nil)))
 (.cons (.expr (.call "put_to" (.cons (.loc 2) (.cons (.loc 1) (.cons (.neg (.const (.int 1))) .nil)))))
 (.cons (.ret 0 (.call "measure_of_dict" (.cons (.loc 2) .nil)))
 .nil))),false⟩
noncomputable def OL:cb:=⟨2,3,
 (.cons (.assign 2 1 .io)
 (.cons (.expr (.call "put_to" (.cons (.loc 2) (.cons (.loc 0) (.cons (.loc 1) .nil)))))
 (.cons (.ret 0 (.call "measure_of_dict" (.cons (.loc 2) .nil)))
 .nil))),false⟩
noncomputable def OM:cb:=⟨2,5,
 (.cons (.assign 2 1 .io)
 (.cons (.ev (.many [3,4]) (.loc 0)
  (.cons (.expr (.call "put_to" (.cons (.loc 2) (.cons (.f8 (.loc 1) .get (.cons (.loc 3) (.cons (.tup (.cons (.tup (.cons (.loc 3) (.cons (.const (.int 1)) .nil))) .nil)) .nil))) (.cons (.loc 4) .nil)))))
  .nil) [3,4])
 (.cons (.ret 0 (.call "measure_of_dict" (.cons (.loc 2) .nil)))
 .nil))),false⟩
noncomputable def ON:cb:=⟨1,1,
 (.cons (.ret 0 (.bi .list (.cons (.rH (.loc 0) (.const (.int 1)) (.bin .Add (.const (.int 1)) (.idx (.glob "PARTS") (.idx (.loc 0) (.const (.int 0)))))) .nil)))
 .nil),false⟩
noncomputable def OO:cb:=⟨1,3,
 (.cons (.assign 1 1 (.lst (.cons (.loc 0) .nil)))
 (.cons (.ev (.one 2) (.call "parts_of" (.cons (.loc 0) .nil))
  (.cons (.expr (.f8 (.loc 1) (.extend ()) (.cons (.call "all_within" (.cons (.loc 2) .nil)) .nil)))
  .nil) [2])
 (.cons (.ret 0 (.loc 1))
 .nil))),false⟩
noncomputable def OP:cb:=⟨1,3,
 (.cons (.assign 1 1 .io)
 (.cons (.ev (.one 2) (.call "all_within" (.cons (.loc 0) .nil))
  (.cons (.ite (.cmp .Eq (.idx (.loc 2) (.const (.int 0))) (.const (.str "input")))
   (.cons (.fx (.loc 1) (.idx (.loc 2) (.const (.int 1))) 0 (.const (.bool true)))
   .nil)
   .nil)
  .nil) [2])
 (.cons (.ret 0 (.bi .sorted (.cons (.loc 1) .nil)))
 .nil))),false⟩
noncomputable def OQ:cb:=⟨1,2,
 (.cons (.ret 0 (.bi .len (.cons (.comp (.loc 1) (.one 1) (.call "all_within" (.cons (.loc 0) .nil)) (.cmp .Eq (.idx (.loc 1) (.const (.int 0))) (.const (.str "nought")))) .nil)))
 .nil),false⟩
noncomputable def OR:cb:=⟨1,4,
 (.cons (.assign 1 1 .io)
 (.cons (.ev (.one 2) (.call "inputs" (.cons (.loc 0) .nil))
  (.cons (.fx (.loc 1) (.loc 2) 0 (.tup (.cons (.tup (.cons (.bin .Add (.const (.str "=")) (.loc 2)) (.cons (.const (.int 1)) .nil))) .nil)))
  .nil) [2])
 (.cons (.ret 0 (.new "Looker" (.cons (.loc 1) (.cons (.comp (.tup (.cons (.tup (.cons (.bin .Add (.const (.str "0")) (.bi .str (.cons (.loc 3) .nil))) (.cons (.const (.int 1)) .nil))) .nil)) (.one 3) (.bi .range (.cons (.call "noughts" (.cons (.loc 0) .nil)) .nil)) (.const (.bool true))) .nil))))
 .nil))),true⟩
noncomputable def OS:cb:=⟨1,1,
 (.cons (.ret 0 (.kL (.call "own_looker" (.cons (.loc 0) .nil)) "measure" (.cons (.loc 0) .nil)))
 .nil),false⟩
noncomputable def OT:cb:=⟨1,2,
 (.cons (.assign 1 0 (.call "own_looker" (.cons (.loc 0) .nil)))
 (.cons (.expr (.kL (.loc 1) "measure" (.cons (.loc 0) .nil)))
 (.cons (.ret 0 (.attr (.loc 1) "noted"))
 .nil))),false⟩
noncomputable def OU:cb:=⟨2,2,
 (.cons (.ret 0 (.f8 (.bi .dict (.cons (.loc 0) .nil)) .get (.cons (.loc 1) (.cons (.const (.int 0)) .nil))))
 .nil),false⟩
noncomputable def OV:cb:=⟨1,3,
 (.cons (.ret 2 (.comp (.comp (.bi .int (.cons (.cmp .Eq (.loc 1) (.loc 2)) .nil)) (.one 2) (.bi .range (.cons (.loc 0) .nil)) (.const (.bool true))) (.one 1) (.bi .range (.cons (.loc 0) .nil)) (.const (.bool true))))
 .nil),true⟩
noncomputable def OW:cb:=⟨2,3,
 (.cons (.ret 0 (.bi .tuple (.cons (.comp (.loc 2) (.one 2) (.loc 0) (.cmp .NotIn (.idx (.loc 2) (.const (.int 0))) (.loc 1))) .nil)))
 .nil),false⟩
noncomputable def OX:cb:=⟨3,6,
 (.cons (.assign 3 0 (.call "over" (.cons (.tup .nil) (.cons (.loc 1) .nil))))
 (.cons (.qf true [4,5] (.cons (.loc 0) (.cons (.loc 2) .nil))
  (.cons (.assign 3 0 (.call "over" (.cons (.loc 3) (.cons (.call "power" (.cons (.loc 5) (.cons (.loc 4) .nil))) .nil))))
  .nil) [4,5])
 (.cons (.ret 0 (.loc 3))
 .nil))),false⟩
noncomputable def OY:cb:=⟨2,4,
 (.cons (.ite (.cmp .Eq (.loc 1) (.const (.int 0)))
  (.cons (.ret 0 (.ite (.cmp .Eq (.loc 0) (.tup .nil)) (.tup .nil) (.const .none)))
  .nil)
  .nil)
 (.cons (.ite (.qe (.bi .all (.cons (.comp (.cmp .Eq (.bin .Mod (.idx (.loc 2) (.const (.int 1))) (.loc 1)) (.const (.int 0))) (.one 2) (.loc 0) (.const (.bool true))) .nil)))
  (.cons (.ret 0 (.const .none))
  .nil)
  .nil)
 (.cons (.ret 0 (.bi .tuple (.cons (.comp (.tup (.cons (.idx (.loc 3) (.const (.int 0))) (.cons (.bin .FloorDiv (.idx (.loc 3) (.const (.int 1))) (.loc 1)) .nil))) (.one 3) (.loc 0) (.const (.bool true))) .nil)))
 .nil))),false⟩
noncomputable def OZ:cb:=⟨2,8,
 (.cons (.assign 2 1 (.lst .nil))
 (.cons (.assign 3 1 (.lst .nil))
 (.cons (.ev (.one 4) (.bi .range (.cons (.bi .len (.cons (.loc 1) .nil)) .nil))
  (.cons (.assign 5 0 (.const (.int 0)))
  (.cons (.ite (.kL (.loc 0) "cleared" (.cons (.loc 4) (.cons (.bi .len (.cons (.loc 2) .nil)) .nil)))
   (.cons (.assign 5 0 (.idx (.idx (.attr (.loc 0) "rows") (.loc 4)) (.bi .len (.cons (.loc 2) .nil))))
   .nil)
   .nil)
  (.cons (.assign 6 0 (.call "split" (.cons (.call "needed_for" (.cons (.idx (.attr (.loc 0) "rows") (.loc 4)) (.cons (.idx (.loc 1) (.loc 4)) (.cons (.loc 3) .nil)))) (.cons (.loc 5) .nil))))
  (.cons (.ite (.cmp .Is (.loc 6) (.const .none))
   (.cons .bad (.cons .bad .nil))
   .nil)
  (.cons (.ite (.cmp .Gt (.loc 5) (.const (.int 0)))
   (.cons (.expr (.f8 (.loc 2) .append (.cons (.loc 4) .nil)))
   (.cons (.expr (.f8 (.loc 3) .append (.cons (.loc 6) .nil)))
   .nil))
   .nil)
  .nil))))) [4,5,6,7])
 (.cons (.ret 0 (.loc 3))
 .nil)))),true⟩
noncomputable def O0:cb:=⟨2,5,
 (.cons (.assign 2 0 (.tup .nil))
 (.cons (.qf true [3,4] (.cons (.loc 0) (.cons (.loc 1) .nil))
  (.cons (.assign 2 0 (.call "times" (.cons (.loc 2) (.cons (.call "power" (.cons (.loc 4) (.cons (.loc 3) .nil))) .nil))))
  .nil) [3,4])
 (.cons (.ret 0 (.loc 2))
 .nil))),false⟩
noncomputable def O1:cb:=⟨2,12,
 (.cons (.assign 2 0 (.new "Columns" (.cons (.loc 0) (.cons (.loc 1) .nil))))
 (.cons (.assign 3 1 (.call "walked" (.cons (.loc 2) (.cons (.comp (.call "rest_of" (.cons (.loc 11) (.cons (.loc 1) .nil))) (.one 11) (.loc 0) (.const (.bool true))) .nil))))
 (.cons (.assign 4 0 (.bi .len (.cons (.loc 3) .nil)))
 (.cons (.ev (.one 5) (.bi .rF (.cons (.loc 4) (.cons (.bi .len (.cons (.loc 1) .nil)) .nil)))
  (.cons (.expr (.f8 (.loc 3) .append (.cons (.tup (.cons (.tup (.cons (.bin .Add (.const (.str "?")) (.bi .str (.cons (.bin .Sub (.loc 5) (.loc 4)) .nil))) (.cons (.const (.int 1)) .nil))) .nil)) .nil)))
  .nil) [5])
 (.cons (.assign 6 1 .io)
 (.cons (.qf false [7,8] (.cons (.loc 1) .nil)
  (.cons (.fx (.loc 6) (.loc 8) 0 (.call "told_by" (.cons (.idx (.attr (.loc 2) "forth") (.loc 7)) (.cons (.loc 3) .nil))))
  .nil) [7,8])
 (.cons (.assign 9 1 .io)
 (.cons (.ev (.one 5) (.bi .rF (.cons (.loc 4) (.cons (.bi .len (.cons (.loc 1) .nil)) .nil)))
  (.cons (.assign 10 1 .io)
  (.cons (.qf false [7,8] (.cons (.loc 1) .nil)
   (.cons (.fx (.loc 10) (.loc 8) 0 (.idx (.idx (.attr (.loc 2) "back") (.loc 5)) (.loc 7)))
   .nil) [7,8])
  (.cons (.fx (.loc 9) (.bin .Add (.const (.str "?")) (.bi .str (.cons (.bin .Sub (.loc 5) (.loc 4)) .nil))) 0 (.call "measure_of_dict" (.cons (.loc 10) .nil)))
  .nil))) [5,7,8,10])
 (.cons (.ret 0 (.tup (.cons (.loc 6) (.cons (.loc 9) .nil))))
 .nil))))))))),false⟩
noncomputable def O2:cb:=⟨1,10,
 (.cons (.assign 1 0 (.call "inputs" (.cons (.loc 0) .nil)))
 (.cons (.assign 2 0 (.call "range_of" (.cons (.call "noughts" (.cons (.loc 0) .nil)) .nil)))
 (.cons (.tc [4,5] (.call "solved" (.cons (.call "alike" (.cons (.loc 0) .nil)) (.cons (.bin .Add (.comp (.bin .Add (.const (.str "=")) (.loc 7)) (.one 7) (.loc 1) (.const (.bool true))) (.comp (.bin .Add (.const (.str "0")) (.bi .str (.cons (.loc 8) .nil))) (.one 8) (.loc 2) (.const (.bool true)))) .nil))))
 (.cons (.assign 6 1 .io)
 (.cons (.ev (.one 3) (.loc 1)
  (.cons (.fx (.loc 6) (.loc 3) 0 (.idx (.loc 4) (.bin .Add (.const (.str "=")) (.loc 3))))
  .nil) [3])
 (.cons (.ret 0 (.tup (.cons (.loc 6) (.cons (.comp (.idx (.loc 4) (.bin .Add (.const (.str "0")) (.bi .str (.cons (.loc 9) .nil)))) (.one 9) (.loc 2) (.const (.bool true))) (.cons (.call "filled" (.cons (.call "measure_of" (.cons (.loc 0) .nil)) (.cons (.loc 4) .nil))) (.cons (.loc 5) .nil))))))
 .nil)))))),false⟩
noncomputable def O3:cb:=⟨1,1,
 (.cons (.ret 0 (.bi .list (.cons (.bi .range (.cons (.loc 0) .nil)) .nil)))
 .nil),false⟩
noncomputable def O4:cb:=⟨2,2,
 (.cons (.ite (.cmp .Lt (.loc 1) (.bi .len (.cons (.loc 0) .nil)))
  (.cons (.ret 0 (.bin .Mod (.idx (.loc 0) (.loc 1)) (.const (.int 1000000000000000003))))
  .nil)
  .nil)
 (.cons (.ret 0 (.const (.int 0)))
 .nil)),false⟩
noncomputable def O5:cb:=⟨2,3,
 (.cons (.assign 2 0 (.bin .Mod (.bin .Add (.bin .Add (.bin .Mult (.loc 0) (.const (.int 48271))) (.bin .Mult (.loc 1) (.const (.int 69621)))) (.const (.int 11))) (.const (.int 2147483647))))
 (.cons (.ret 0 (.bin .Mod (.bin .Add (.bin .Add (.bin .Mult (.loc 2) (.loc 2)) (.bin .Mult (.const (.int 7)) (.loc 2))) (.loc 1)) (.const (.int 2147483629))))
 .nil)),false⟩
noncomputable def O6:cb:=⟨2,11,
 (.cons (.assign 2 0 (.const (.str "abcdefghijklmnopqrstuvwxyz")))
 (.cons (.assign 3 0 (.bin .Add (.const (.int 1)) (.bin .Mod (.loc 0) (.const (.int 8)))))
 (.cons (.assign 4 0 (.bin .Mod (.bin .FloorDiv (.loc 0) (.const (.int 8))) (.loc 3)))
 (.cons (.assign 5 0 (.idx (.loc 2) (.bin .Mod (.bin .FloorDiv (.loc 0) (.const (.int 64))) (.const (.int 26)))))
 (.cons (.assign 6 0 (.bin .Mod (.bin .FloorDiv (.loc 0) (.const (.int 3))) (.const (.int 4))))
 (.cons (.assign 7 1 (.lst .nil))
 (.cons (.ev (.one 8) (.bi .range (.cons (.loc 1) .nil))
  (.cons (.assign 9 0 (.idx (.loc 2) (.bin .Mod (.bin .Add (.bin .FloorDiv (.loc 0) (.const (.int 1664))) (.bin .Mult (.const (.int 5)) (.loc 8))) (.const (.int 26)))))
  (.cons (.assign 10 0 (.bin .Add (.bin .Add (.bin .Mult (.loc 5) (.loc 4)) (.loc 9)) (.bin .Mult (.loc 5) (.bin .Sub (.bin .Sub (.loc 3) (.const (.int 1))) (.loc 4)))))
  (.cons (.ite (.cmp .Eq (.loc 6) (.const (.int 0)))
   (.cons (.assign 10 0 (.bin .Add (.loc 9) (.bin .Mult (.loc 5) (.bin .Mod (.bin .Add (.bin .Mult (.const (.int 3)) (.loc 8)) (.bin .FloorDiv (.loc 0) (.const (.int 9)))) (.const (.int 8))))))
   .nil)
   .nil)
  (.cons (.ite (.kK (.cons (.cmp .Eq (.loc 6) (.const (.int 1))) (.cons (.cmp .Lt (.loc 8) (.const (.int 8))) .nil)))
   (.cons (.assign 10 0 (.bin .Mult (.loc 5) (.bin .Add (.const (.int 1)) (.bin .Mod (.bin .Add (.bin .Mult (.const (.int 3)) (.loc 8)) (.bin .FloorDiv (.loc 0) (.const (.int 9)))) (.const (.int 8))))))
   .nil)
   .nil)
  (.cons (.ite (.kK (.cons (.cmp .Eq (.loc 6) (.const (.int 1))) (.cons (.cmp .Gt (.loc 8) (.const (.int 7))) .nil)))
   (.cons (.assign 10 0 (.bin .Add (.idx (.loc 2) (.bin .Mod (.bin .Sub (.bin .Add (.bin .FloorDiv (.loc 0) (.const (.int 64))) (.loc 8)) (.const (.int 7))) (.const (.int 26)))) (.bin .Mult (.loc 5) (.bin .Mod (.loc 8) (.const (.int 8))))))
   .nil)
   .nil)
  (.cons (.expr (.f8 (.loc 7) .append (.cons (.loc 10) .nil)))
  .nil)))))) [8,9,10])
 (.cons (.ret 0 (.loc 7))
 .nil)))))))),false⟩
noncomputable def F9:cb:=⟨1,2,
 (.cons (.ret 0 (.bi .tuple (.cons (.comp (.tup (.cons (.loc 1) (.cons (.idx (.loc 0) (.loc 1)) .nil))) (.one 1) (.bi .sorted (.cons (.loc 0) .nil)) (.cmp .NotEq (.idx (.loc 0) (.loc 1)) (.const (.int 0)))) .nil)))
 .nil),false⟩
noncomputable def O7:cb:=⟨2,6,
 (.cons (.assign 2 1 .io)
 (.cons (.ev (.one 3) (.bi .range (.cons (.bin .Mod (.loc 0) (.const (.int 4))) .nil))
  (.cons (.assign 4 0 (.call "_law_mix" (.cons (.loc 0) (.cons (.loc 3) .nil))))
  (.cons (.assign 5 0 (.idx (.lst (.cons (.bin .Sub (.bin .Mod (.bin .FloorDiv (.loc 4) (.bi .len (.cons (.loc 1) .nil))) (.const (.int 5))) (.const (.int 2))) (.cons (.bin .Sub (.bin .Mod (.bin .FloorDiv (.loc 4) (.const (.int 256))) (.const (.int 41))) (.const (.int 20))) .nil))) (.bin .FloorDiv (.bin .Mod (.bin .FloorDiv (.loc 4) (.const (.int 16))) (.const (.int 9))) (.const (.int 8)))))
  (.cons (.fx (.loc 2) (.idx (.loc 1) (.bin .Mod (.loc 4) (.bi .len (.cons (.loc 1) .nil)))) 0 (.loc 5))
  .nil))) [3,4,5])
 (.cons (.ret 0 (.call "_law_made" (.cons (.loc 2) .nil)))
 .nil))),false⟩
noncomputable def O8:cb:=⟨2,3,
 (.cons (.rI (.cmp .NotEq (.loc 1) (.const (.int 0)))
  (.cons (.assign 2 0 (.bin .Mod (.loc 0) (.loc 1)))
  (.cons (.assign 0 0 (.loc 1))
  (.cons (.assign 1 0 (.loc 2))
  .nil))) [2])
 (.cons (.ret 0 (.loc 0))
 .nil)),false⟩
noncomputable def O9:cb:=⟨2,3,
 (.cons (.assign 2 0 (.call "_law_shared" (.cons (.bi .abs (.cons (.loc 0) .nil)) (.cons (.bi .abs (.cons (.loc 1) .nil)) .nil))))
 (.cons (.ite (.cmp .Lt (.loc 1) (.const (.int 0)))
  (.cons (.assign 2 0 (.bin .Sub (.const (.int 0)) (.loc 2)))
  .nil)
  .nil)
 (.cons (.ret 0 (.tup (.cons (.bin .FloorDiv (.loc 0) (.loc 2)) (.cons (.bin .FloorDiv (.loc 1) (.loc 2)) .nil))))
 .nil))),false⟩
noncomputable def O':cb:=⟨1,1,
 (.cons (.ite (.cmp .Lt (.bin .Mod (.loc 0) (.const (.int 6))) (.const (.int 4)))
  (.cons (.ret 0 (.call "_law_lowest" (.cons (.bin .Sub (.bin .Mod (.bin .FloorDiv (.loc 0) (.const (.int 6))) (.const (.int 41))) (.const (.int 20))) (.cons (.bin .Add (.const (.int 1)) (.bin .Mod (.bin .FloorDiv (.loc 0) (.const (.int 246))) (.const (.int 5)))) .nil))))
  .nil)
  .nil)
 (.cons (.ite (.cmp .Eq (.bin .Mod (.loc 0) (.const (.int 6))) (.const (.int 4)))
  (.cons (.ret 0 (.tup (.cons (.const (.int 0)) (.cons (.const (.int 1)) .nil))))
  .nil)
  .nil)
 (.cons (.ret 0 (.call "_law_lowest" (.cons (.bin .Sub (.bin .Mod (.bin .Mult (.bin .FloorDiv (.loc 0) (.bin .Pow (.const (.int 6)) (.const (.int 3)))) (.const (.int 7))) (.bin .Add (.bin .Mult (.const (.int 2)) (.bin .Pow (.const (.int 10)) (.const (.int 9)))) (.const (.int 1)))) (.bin .Pow (.const (.int 10)) (.const (.int 9)))) (.cons (.bin .Add (.const (.int 1)) (.bin .Mod (.bin .FloorDiv (.loc 0) (.const (.int 6))) (.bin .Pow (.const (.int 10)) (.const (.int 9))))) .nil))))
 .nil))),false⟩
noncomputable def Pa:cb:=⟨2,7,
 (.cons (.assign 2 1 .io)
 (.cons (.ev (.many [3,4]) (.loc 0)
  (.cons (.ev (.many [5,6]) (.f8 (.loc 1) .get (.cons (.loc 3) (.cons (.tup (.cons (.tup (.cons (.loc 3) (.cons (.const (.int 1)) .nil))) .nil)) .nil)))
   (.cons (.fx (.loc 2) (.loc 5) 0 (.bin .Add (.f8 (.loc 2) .get (.cons (.loc 5) (.cons (.const (.int 0)) .nil))) (.bin .Mult (.loc 6) (.loc 4))))
   .nil) [5,6])
  .nil) [3,4,5,6])
 (.cons (.ret 0 (.call "_law_made" (.cons (.loc 2) .nil)))
 .nil))),false⟩
noncomputable def Pb:cb:=⟨3,6,
 (.cons (.assign 3 1 (.bi .dict (.cons (.loc 0) .nil)))
 (.cons (.ev (.many [4,5]) (.loc 1)
  (.cons (.fx (.loc 3) (.loc 4) 0 (.bin .Add (.f8 (.loc 3) .get (.cons (.loc 4) (.cons (.const (.int 0)) .nil))) (.bin .Mult (.loc 5) (.loc 2))))
  .nil) [4,5])
 (.cons (.ret 0 (.call "_law_made" (.cons (.loc 3) .nil)))
 .nil))),false⟩
noncomputable def Pc:cb:=⟨1,2,
 (.cons (.ite (.cmp .Gt (.bi .len (.cons (.loc 0) .nil)) (.const (.int 6)))
  (.cons (.ret 0 (.const (.bool false)))
  .nil)
  .nil)
 (.cons (.ev (.one 1) (.loc 0)
  (.cons (.ite (.o5 (.cons (.cmp .Gt (.bi .abs (.cons (.idx (.loc 1) (.const (.int 1))) .nil)) (.const (.int 20))) (.cons (.cmp .In (.idx (.idx (.loc 1) (.const (.int 0))) (.const (.int 0))) (.const (.str "=0?"))) .nil)))
   (.cons (.ret 0 (.const (.bool false)))
   .nil)
   .nil)
  .nil) [1])
 (.cons (.ret 0 (.const (.bool true)))
 .nil))),false⟩
noncomputable def Pd:cb:=⟨3,5,
 (.cons (.assign 3 0 (.comp (.loc 4) (.one 4) (.bi .sorted (.cons (.loc 2) .nil)) (.cmp .Eq (.idx (.loc 2) (.loc 4)) (.loc 1))))
 (.cons (.ite (.kK (.cons (.cmp .Gt (.bi .len (.cons (.loc 3) .nil)) (.const (.int 0))) (.cons (.cmp .Lt (.bin .Mod (.loc 0) (.const (.int 4))) (.const (.int 3))) .nil)))
  (.cons (.ret 0 (.tup (.cons (.tup (.cons (.const (.str "input")) (.cons (.idx (.loc 3) (.bin .Mod (.bin .FloorDiv (.loc 0) (.const (.int 4))) (.bi .len (.cons (.loc 3) .nil)))) .nil))) (.cons (.lst .nil) .nil))))
  .nil)
  .nil)
 (.cons (.ite (.kK (.cons (.cmp .Lt (.bin .Mod (.loc 0) (.const (.int 4))) (.const (.int 2))) (.cons (.call "_law_writable" (.cons (.loc 1) .nil)) .nil)))
  (.cons (.ret 0 (.tup (.cons (.tup (.cons (.const (.str "is")) (.cons (.call "_law_number" (.cons (.call "_law_mix" (.cons (.loc 0) (.cons (.const (.int 9)) .nil))) .nil)) (.cons (.loc 1) .nil)))) (.cons (.lst .nil) .nil))))
  .nil)
  .nil)
 (.cons (.ret 0 (.tup (.cons (.tup (.cons (.const (.str "nought")) .nil)) (.cons (.lst (.cons (.loc 1) .nil)) .nil))))
 .nil)))),false⟩
noncomputable def Pe:cb:=⟨2,4,
 (.cons (.ev (.one 2) (.loc 0)
  (.cons (.ite (.cmp .NotEq (.bin .Mod (.idx (.loc 2) (.const (.int 1))) (.loc 1)) (.const (.int 0)))
   (.cons (.ret 0 (.const .none))
   .nil)
   .nil)
  .nil) [2])
 (.cons (.ret 0 (.bi .tuple (.cons (.comp (.tup (.cons (.idx (.loc 3) (.const (.int 0))) (.cons (.bin .FloorDiv (.idx (.loc 3) (.const (.int 1))) (.loc 1)) .nil))) (.one 3) (.loc 0) (.const (.bool true))) .nil)))
 .nil)),false⟩
noncomputable def Pf:cb:=⟨3,3,
 (.cons (.ret 0 (.tup (.cons (.tup (.cons (.loc 0) (.cons (.idx (.loc 1) (.const (.int 0))) (.cons (.idx (.loc 2) (.const (.int 0))) .nil)))) (.cons (.bin .Add (.idx (.loc 1) (.const (.int 1))) (.idx (.loc 2) (.const (.int 1)))) .nil))))
 .nil),false⟩
noncomputable def Pg:cb:=⟨5,14,
 (.cons (.assign 5 0 (.bin .Mod (.loc 0) (.const (.int 8))))
 (.cons (.assign 6 0 (.bin .FloorDiv (.loc 0) (.const (.int 8))))
 (.cons (.ite (.o5 (.cons (.cmp .Lt (.loc 1) (.const (.int 1))) (.cons (.cmp .Eq (.loc 5) (.const (.int 0))) .nil)))
  (.cons (.ret 0 (.call "_law_fit_leaf" (.cons (.loc 6) (.cons (.loc 2) (.cons (.loc 3) .nil)))))
  .nil)
  .nil)
 (.cons (.ite (.kK (.cons (.cmp .Eq (.loc 5) (.const (.int 7))) (.cons (.cmp .Gt (.loc 4) (.const (.int 0))) .nil)))
  (.cons (.assign 7 0 (.idx (.lst (.cons (.const (.int 2)) (.cons (.const (.int 3)) (.cons (.neg (.const (.int 1))) (.cons (.neg (.const (.int 2))) (.cons (.const (.int 4)) (.cons (.neg (.const (.int 3))) .nil))))))) (.bin .Mod (.loc 6) (.const (.int 6)))))
  (.cons (.assign 8 0 (.call "_law_root" (.cons (.loc 2) (.cons (.loc 7) .nil))))
  (.cons (.ite (.cmp .IsNot (.loc 8) (.const .none))
   (.cons (.assign 9 0 (.call "_law_fit" (.cons (.call "_law_mix" (.cons (.loc 0) (.cons (.const (.int 1)) .nil))) (.cons (.bin .Sub (.loc 1) (.const (.int 1))) (.cons (.loc 8) (.cons (.loc 3) (.cons (.bin .Sub (.loc 4) (.const (.int 1))) .nil)))))))
   (.cons (.ret 0 (.tup (.cons (.tup (.cons (.const (.str "power")) (.cons (.idx (.loc 9) (.const (.int 0))) (.cons (.loc 7) .nil)))) (.cons (.idx (.loc 9) (.const (.int 1))) .nil))))
   .nil))
   .nil)
  .nil)))
  .nil)
 (.cons (.assign 10 0 (.idx (.loc 3) (.idx (.bi .sorted (.cons (.loc 3) .nil)) (.bin .Mod (.loc 6) (.bi .len (.cons (.loc 3) .nil))))))
 (.cons (.ite (.cmp .Lt (.loc 5) (.const (.int 3)))
  (.cons (.assign 9 0 (.call "_law_fit" (.cons (.call "_law_mix" (.cons (.loc 0) (.cons (.const (.int 1)) .nil))) (.cons (.bin .Sub (.loc 1) (.const (.int 1))) (.cons (.loc 2) (.cons (.loc 3) (.cons (.loc 4) .nil)))))))
  (.cons (.assign 11 0 (.call "_law_fit" (.cons (.call "_law_mix" (.cons (.loc 0) (.cons (.const (.int 2)) .nil))) (.cons (.bin .Sub (.loc 1) (.const (.int 1))) (.cons (.loc 2) (.cons (.loc 3) (.cons (.loc 4) .nil)))))))
  (.cons (.ret 0 (.call "_law_two" (.cons (.idx (.lst (.cons (.const (.str "plus")) (.cons (.const (.str "minus")) .nil))) (.bin .Sub (.loc 5) (.const (.int 1)))) (.cons (.loc 9) (.cons (.loc 11) .nil)))))
  .nil)))
  .nil)
 (.cons (.assign 9 0 (.call "_law_fit" (.cons (.call "_law_mix" (.cons (.loc 0) (.cons (.const (.int 1)) .nil))) (.cons (.bin .Sub (.loc 1) (.const (.int 1))) (.cons (.loc 10) (.cons (.loc 3) (.cons (.loc 4) .nil)))))))
 (.cons (.ite (.cmp .Eq (.loc 5) (.const (.int 3)))
  (.cons (.assign 11 0 (.call "_law_fit" (.cons (.call "_law_mix" (.cons (.loc 0) (.cons (.const (.int 2)) .nil))) (.cons (.bin .Sub (.loc 1) (.const (.int 1))) (.cons (.loc 10) (.cons (.loc 3) (.cons (.loc 4) .nil)))))))
  (.cons (.assign 12 0 (.call "_law_fit" (.cons (.call "_law_mix" (.cons (.loc 0) (.cons (.const (.int 3)) .nil))) (.cons (.bin .Sub (.loc 1) (.const (.int 2))) (.cons (.loc 2) (.cons (.loc 3) (.cons (.loc 4) .nil)))))))
  (.cons (.assign 13 0 (.call "_law_fit" (.cons (.call "_law_mix" (.cons (.loc 0) (.cons (.const (.int 4)) .nil))) (.cons (.bin .Sub (.loc 1) (.const (.int 2))) (.cons (.loc 2) (.cons (.loc 3) (.cons (.loc 4) .nil)))))))
  (.cons (.ret 0 (.tup (.cons (.tup (.cons (.const (.str "less")) (.cons (.idx (.loc 9) (.const (.int 0))) (.cons (.idx (.loc 11) (.const (.int 0))) (.cons (.idx (.loc 12) (.const (.int 0))) (.cons (.idx (.loc 13) (.const (.int 0))) .nil)))))) (.cons (.bin .Add (.bin .Add (.bin .Add (.idx (.loc 9) (.const (.int 1))) (.idx (.loc 11) (.const (.int 1)))) (.idx (.loc 12) (.const (.int 1)))) (.idx (.loc 13) (.const (.int 1)))) .nil))))
  .nil))))
  .nil)
 (.cons (.ite (.cmp .Eq (.bin .Mod (.loc 5) (.const (.int 2))) (.const (.int 0)))
  (.cons (.assign 11 0 (.call "_law_fit" (.cons (.call "_law_mix" (.cons (.loc 0) (.cons (.const (.int 2)) .nil))) (.cons (.bin .Sub (.loc 1) (.const (.int 1))) (.cons (.call "_law_times" (.cons (.loc 2) (.cons (.loc 10) (.cons (.neg (.const (.int 1))) .nil)))) (.cons (.loc 3) (.cons (.loc 4) .nil)))))))
  (.cons (.ret 0 (.call "_law_two" (.cons (.const (.str "times")) (.cons (.loc 9) (.cons (.loc 11) .nil)))))
  .nil))
  .nil)
 (.cons (.assign 11 0 (.call "_law_fit" (.cons (.call "_law_mix" (.cons (.loc 0) (.cons (.const (.int 2)) .nil))) (.cons (.bin .Sub (.loc 1) (.const (.int 1))) (.cons (.call "_law_times" (.cons (.loc 2) (.cons (.loc 10) (.cons (.const (.int 1)) .nil)))) (.cons (.loc 3) (.cons (.loc 4) .nil)))))))
 (.cons (.ret 0 (.call "_law_two" (.cons (.const (.str "over")) (.cons (.loc 11) (.cons (.loc 9) .nil)))))
 .nil))))))))))),false⟩
noncomputable def Ph:cb:=⟨1,4,
 (.cons (.assign 1 1 .io)
 (.cons (.ev (.one 2) (.idx (.loc 0) (.const (.int 0)))
  (.cons (.fx (.loc 1) (.bin .Add (.const (.str "=")) (.loc 2)) 0 (.idx (.idx (.loc 0) (.const (.int 0))) (.loc 2)))
  .nil) [2])
 (.cons (.ev (.one 3) (.bi .range (.cons (.bi .len (.cons (.idx (.loc 0) (.const (.int 1))) .nil)) .nil))
  (.cons (.fx (.loc 1) (.bin .Add (.const (.str "0")) (.bi .str (.cons (.loc 3) .nil))) 0 (.idx (.idx (.loc 0) (.const (.int 1))) (.loc 3)))
  .nil) [3])
 (.cons (.ret 0 (.loc 1))
 .nil)))),false⟩
noncomputable def Pj:cb:=⟨1,5,
 (.cons (.assign 1 0 (.comp (.tup (.cons (.const (.str "nought")) .nil)) (.one 3) (.bi .range (.cons (.loc 0) .nil)) (.const (.bool true))))
 (.cons (.rI (.cmp .Gt (.bi .len (.cons (.loc 1) .nil)) (.const (.int 1)))
  (.cons (.assign 2 0 (.comp (.tup (.cons (.const (.str "plus")) (.cons (.idx (.loc 1) (.bin .Mult (.const (.int 2)) (.loc 4))) (.cons (.idx (.loc 1) (.bin .Add (.bin .Mult (.const (.int 2)) (.loc 4)) (.const (.int 1)))) .nil)))) (.one 4) (.bi .range (.cons (.bin .FloorDiv (.bi .len (.cons (.loc 1) .nil)) (.const (.int 2))) .nil)) (.const (.bool true))))
  (.cons (.assign 1 0 (.bin .Add (.loc 2) (.rG (.loc 1) (.bin .Mult (.const (.int 2)) (.bi .len (.cons (.loc 2) .nil))))))
  .nil)) [2])
 (.cons (.ret 0 (.idx (.loc 1) (.const (.int 0))))
 .nil))),false⟩
noncomputable def Pk:cb:=⟨1,1,
 (.cons (.u0 (.cons (.ret 0 (.call "widest" (.cons (.loc 0) .nil)))
  .nil))
 .nil),false⟩
noncomputable def mB:cb:=⟨1,21,
 (.cons (.assign 1 0 (.call "_law_words" (.cons (.call "_law_cell_at" (.cons (.loc 0) (.cons (.const (.int 0)) .nil))) (.cons (.const (.int 5)) .nil))))
 (.cons (.assign 2 0 (.call "_law_words" (.cons (.call "_law_cell_at" (.cons (.loc 0) (.cons (.bi .int (.cons (.cmp .Gt (.bin .Mod (.call "_law_cell_at" (.cons (.loc 0) (.cons (.const (.int 1)) .nil))) (.const (.int 3))) (.const (.int 0))) .nil)) .nil))) (.cons (.const (.int 4)) .nil))))
 (.cons (.assign 3 1 .io)
 (.cons (.ev (.one 4) (.bi .range (.cons (.const (.int 5)) .nil))
  (.cons (.fx (.loc 3) (.idx (.loc 1) (.loc 4)) 0 (.call "_law_small" (.cons (.call "_law_cell_at" (.cons (.loc 0) (.cons (.bin .Add (.const (.int 2)) (.loc 4)) .nil))) (.cons (.loc 2) .nil))))
  .nil) [4])
 (.cons (.assign 5 0 (.idx (.lst (.cons (.const (.int 1)) (.cons (.const (.int 2)) (.cons (.const (.int 2)) (.cons (.const (.int 2)) .nil))))) (.bin .Mod (.call "_law_cell_at" (.cons (.loc 0) (.cons (.const (.int 7)) .nil))) (.const (.int 4)))))
 (.cons (.assign 6 0 (.idx (.lst (.cons (.idx (.loc 3) (.idx (.loc 1) (.const (.int 0)))) (.cons (.call "_law_small" (.cons (.call "_law_cell_at" (.cons (.loc 0) (.cons (.const (.int 8)) .nil))) (.cons (.loc 2) .nil))) .nil))) (.bin .Mod (.bin .FloorDiv (.call "_law_cell_at" (.cons (.loc 0) (.cons (.const (.int 7)) .nil))) (.const (.int 4))) (.const (.int 2)))))
 (.cons (.tc [7,8] (.call "_law_fit" (.cons (.call "_law_cell_at" (.cons (.loc 0) (.cons (.const (.int 9)) .nil))) (.cons (.loc 5) (.cons (.loc 6) (.cons (.loc 3) (.cons (.const (.int 2)) .nil)))))))
 (.cons (.assign 9 0 (.bi (.min2 ()) (.cons (.bi .len (.cons (.loc 0) .nil)) (.cons (.idx (.lst (.cons (.const (.int 10)) (.cons (.const (.int 13)) .nil))) (.bin .Mod (.bin .FloorDiv (.call "_law_cell_at" (.cons (.loc 0) (.cons (.const (.int 7)) .nil))) (.const (.int 8))) (.const (.int 2)))) .nil))))
 (.cons (.ev (.one 10) (.comp (.call "_law_cell_at" (.cons (.loc 0) (.cons (.loc 20) .nil))) (.one 20) (.bi .rF (.cons (.const (.int 10)) (.cons (.loc 9) .nil))) (.const (.bool true)))
  (.cons (.assign 11 0 (.call "_law_fit" (.cons (.bin .FloorDiv (.loc 10) (.const (.int 2))) (.cons (.const (.int 1)) (.cons (.loc 6) (.cons (.loc 3) (.cons (.const (.int 2)) .nil)))))))
  (.cons (.ite (.cmp .Eq (.bin .Mod (.loc 10) (.const (.int 2))) (.const (.int 0)))
   (.cons (.rJ 7 8 (.tup (.cons (.const (.str "plus")) (.cons (.loc 7) (.cons (.idx (.loc 11) (.const (.int 0))) .nil)))) (.bin .Add (.loc 8) (.idx (.loc 11) (.const (.int 1)))))
   .nil)
   (.cons (.rJ 7 8 (.tup (.cons (.const (.str "less")) (.cons (.idx (.loc 11) (.const (.int 0))) (.cons (.tup (.cons (.const (.str "nought")) .nil)) (.cons (.loc 7) (.cons (.idx (.loc 11) (.const (.int 0))) .nil)))))) (.bin .Add (.bin .Add (.bin .Add (.idx (.loc 11) (.const (.int 1))) (.lst (.cons (.loc 6) .nil))) (.loc 8)) (.idx (.loc 11) (.const (.int 1)))))
   .nil))
  .nil)) [10,11])
 (.cons (.ite (.cmp .Eq (.bin .Mod (.bin .FloorDiv (.call "_law_cell_at" (.cons (.loc 0) (.cons (.const (.int 7)) .nil))) (.const (.int 16))) (.const (.int 6))) (.const (.int 1)))
  (.cons (.assign 12 0 (.bin .Add (.const (.int 9)) (.bin .Mod (.call "_law_cell_at" (.cons (.loc 0) (.cons (.const (.int 8)) .nil))) (.const (.int 4)))))
  (.cons (.rJ 7 8 (.tup (.cons (.const (.str "minus")) (.cons (.loc 7) (.cons (.call "_law_wide" (.cons (.loc 12) .nil)) .nil)))) (.bin .Add (.loc 8) (.bin .Mult (.lst (.cons (.loc 6) .nil)) (.loc 12))))
  .nil))
  .nil)
 (.cons (.assign 13 0 (.call "_law_widest" (.cons (.loc 7) .nil)))
 (.cons (.ite (.cmp .Is (.loc 13) (.const .none))
  (.cons (.ret 0 (.const (.bool false)))
  .nil)
  .nil)
 (.cons (.assign 14 0 (.call "_law_measures_of" (.cons (.loc 13) .nil)))
 (.cons (.assign 15 1 .io)
 (.cons (.ev (.one 16) (.idx (.loc 13) (.const (.int 0)))
  (.cons (.fx (.loc 15) (.bin .Add (.const (.str "=")) (.loc 16)) 0 (.idx (.loc 3) (.loc 16)))
  .nil) [16])
 (.cons (.ev (.one 4) (.bi .range (.cons (.bi .len (.cons (.idx (.loc 13) (.const (.int 1))) .nil)) .nil))
  (.cons (.fx (.loc 15) (.bin .Add (.const (.str "0")) (.bi .str (.cons (.loc 4) .nil))) 0 (.idx (.loc 8) (.loc 4)))
  .nil) [4])
 (.cons (.assign 17 1 .io)
 (.cons (.ev (.one 18) (.idx (.loc 13) (.const (.int 3)))
  (.cons (.fx (.loc 17) (.loc 18) 0 (.call "_law_filled" (.cons (.idx (.idx (.loc 13) (.const (.int 3))) (.loc 18)) (.cons (.loc 15) .nil))))
  .nil) [18])
 (.cons (.ev (.one 19) (.loc 14)
  (.cons (.ite (.cmp .NotEq (.call "_law_filled" (.cons (.idx (.loc 14) (.loc 19)) (.cons (.loc 17) .nil))) (.idx (.loc 15) (.loc 19)))
   (.cons (.ret 0 (.const (.bool false)))
   .nil)
   .nil)
  .nil) [19])
 (.cons (.ret 0 (.kK (.cons (.cmp .Eq (.bi .len (.cons (.idx (.loc 13) (.const (.int 1))) .nil)) (.bi .len (.cons (.loc 8) .nil))) (.cons (.cmp .Eq (.call "_law_filled" (.cons (.idx (.loc 13) (.const (.int 2))) (.cons (.loc 17) .nil))) (.loc 6)) .nil))))
 .nil)))))))))))))))))))),false⟩
noncomputable def Pl:cb:=⟨3,3,
 (.cons (.setattr (.loc 0) "names" 0 (.loc 1))
 (.cons (.setattr (.loc 0) "own" 0 (.loc 2))
 (.cons (.setattr (.loc 0) "met" 0 (.const (.int 0)))
 (.cons (.setattr (.loc 0) "noted" 1 (.lst .nil))
 .nil)))),true⟩
noncomputable def Pm:cb:=⟨2,5,
 (.cons (.assign 2 0 (.idx (.loc 1) (.const (.int 0))))
 (.cons (.ite (.cmp .Eq (.loc 2) (.const (.str "is")))
  (.cons (.ret 0 (.idx (.loc 1) (.const (.int 2))))
  .nil)
  .nil)
 (.cons (.ite (.cmp .Eq (.loc 2) (.const (.str "input")))
  (.cons (.ret 0 (.idx (.attr (.loc 0) "names") (.idx (.loc 1) (.const (.int 1)))))
  .nil)
  .nil)
 (.cons (.ite (.cmp .Eq (.loc 2) (.const (.str "nought")))
  (.cons (.setattr (.loc 0) "met" 0 (.bin .Add (.attr (.loc 0) "met") (.const (.int 1))))
  (.cons (.ret 0 (.idx (.attr (.loc 0) "own") (.bin .Sub (.attr (.loc 0) "met") (.const (.int 1)))))
  .nil))
  .nil)
 (.cons (.assign 3 0 (.comp (.kL (.loc 0) "measure" (.cons (.loc 4) .nil)) (.one 4) (.call "parts_of" (.cons (.loc 1) .nil)) (.const (.bool true))))
 (.cons (.ite (.cmp .Eq (.loc 2) (.const (.str "times")))
  (.cons (.ret 0 (.call "times" (.cons (.idx (.loc 3) (.const (.int 0))) (.cons (.idx (.loc 3) (.const (.int 1))) .nil))))
  .nil)
  .nil)
 (.cons (.ite (.cmp .Eq (.loc 2) (.const (.str "over")))
  (.cons (.ret 0 (.call "over" (.cons (.idx (.loc 3) (.const (.int 0))) (.cons (.idx (.loc 3) (.const (.int 1))) .nil))))
  .nil)
  .nil)
 (.cons (.ite (.cmp .Eq (.loc 2) (.const (.str "power")))
  (.cons (.ret 0 (.call "power" (.cons (.idx (.loc 3) (.const (.int 0))) (.cons (.idx (.loc 1) (.const (.int 2))) .nil))))
  .nil)
  .nil)
 (.cons (.expr (.f8 (.attr (.loc 0) "noted") .append (.cons (.call "over" (.cons (.idx (.loc 3) (.const (.int 0))) (.cons (.idx (.loc 3) (.const (.int 1))) .nil))) .nil)))
 (.cons (.ite (.cmp .Eq (.loc 2) (.const (.str "less")))
  (.cons (.expr (.f8 (.attr (.loc 0) "noted") .append (.cons (.call "over" (.cons (.idx (.loc 3) (.const (.int 2))) (.cons (.idx (.loc 3) (.const (.int 3))) .nil))) .nil)))
  (.cons (.ret 0 (.idx (.loc 3) (.const (.int 2))))
  .nil))
  .nil)
 (.cons (.ret 0 (.idx (.loc 3) (.const (.int 0))))
 .nil))))))))))),true⟩
noncomputable def Pn:cb:=⟨3,5,
 (.cons (.setattr (.loc 0) "rows" 2 (.comp (.comp (.call "power_in" (.cons (.loc 3) (.cons (.loc 4) .nil))) (.one 4) (.loc 2) (.const (.bool true))) (.one 3) (.loc 1) (.const (.bool true))))
 (.cons (.setattr (.loc 0) "forth" 0 (.call "unit_rows" (.cons (.bi .len (.cons (.loc 2) .nil)) .nil)))
 (.cons (.setattr (.loc 0) "back" 0 (.call "unit_rows" (.cons (.bi .len (.cons (.loc 2) .nil)) .nil)))
 .nil))),true⟩
noncomputable def Po:cb:=⟨4,6,
 (.cons (.ev (.one 4) (.bin .Add (.attr (.loc 0) "rows") (.attr (.loc 0) "forth"))
  (.cons (.fx (.loc 4) (.loc 1) 0 (.bin .Sub (.idx (.loc 4) (.loc 1)) (.bin .Mult (.loc 3) (.idx (.loc 4) (.loc 2)))))
  .nil) [4])
 (.cons (.ev (.one 5) (.bi .range (.cons (.bi .len (.cons (.attr (.loc 0) "back") .nil)) .nil))
  (.cons (.fx (.idx (.attr (.loc 0) "back") (.loc 2)) (.loc 5) 0 (.bin .Add (.idx (.idx (.attr (.loc 0) "back") (.loc 2)) (.loc 5)) (.bin .Mult (.loc 3) (.idx (.idx (.attr (.loc 0) "back") (.loc 1)) (.loc 5)))))
  .nil) [5])
 .nil)),true⟩
noncomputable def Pp:cb:=⟨3,5,
 (.cons (.ev (.one 3) (.bin .Add (.attr (.loc 0) "rows") (.attr (.loc 0) "forth"))
  (.cons (.assign 4 0 (.idx (.loc 3) (.loc 1)))
  (.cons (.fx (.loc 3) (.loc 1) 0 (.idx (.loc 3) (.loc 2)))
  (.cons (.fx (.loc 3) (.loc 2) 0 (.loc 4))
  .nil))) [3,4])
 (.cons (.assign 4 0 (.idx (.attr (.loc 0) "back") (.loc 1)))
 (.cons (.fx (.attr (.loc 0) "back") (.loc 1) 0 (.idx (.attr (.loc 0) "back") (.loc 2)))
 (.cons (.fx (.attr (.loc 0) "back") (.loc 2) 0 (.loc 4))
 .nil)))),true⟩
noncomputable def Pq:cb:=⟨2,4,
 (.cons (.ev (.one 2) (.bin .Add (.attr (.loc 0) "rows") (.attr (.loc 0) "forth"))
  (.cons (.fx (.loc 2) (.loc 1) 0 (.bin .Sub (.const (.int 0)) (.idx (.loc 2) (.loc 1))))
  .nil) [2])
 (.cons (.fx (.attr (.loc 0) "back") (.loc 1) 1 (.comp (.bin .Sub (.const (.int 0)) (.loc 3)) (.one 3) (.idx (.attr (.loc 0) "back") (.loc 1)) (.const (.bool true))))
 .nil)),true⟩
def Pr:cb:=⟨3,9,
 (.cons (.assign 6 0 (.idx (.attr (.loc 0) "rows") (.loc 1)))
 (.cons (.assign 4 0 (.comp (.loc 7) (.one 7) (.bi .rF (.cons (.loc 2) (.cons (.bi .len (.cons (.loc 6) .nil)) .nil))) (.cmp .NotEq (.idx (.loc 6) (.loc 7)) (.const (.int 0)))))
 (.cons (.rI (.cmp .Gt (.bi .len (.cons (.loc 4) .nil)) (.const (.int 1)))
  (.cons (.u1 5 (.loc 4) 6 lnm)
  (.cons (.ev (.one 3) (.loc 4)
   (.cons (.ite (.cmp .NotEq (.loc 3) (.loc 5))
    (.cons (.expr (.kL (.loc 0) "take_off" (.cons (.loc 3) (.cons (.loc 5) (.cons (.bin .FloorDiv (.idx (.loc 6) (.loc 3)) (.idx (.loc 6) (.loc 5))) .nil)))))
    .nil)
    .nil)
   .nil) [3])
  (.cons (.assign 4 0 (.comp (.loc 8) (.one 8) (.loc 4) (.cmp .NotEq (.idx (.loc 6) (.loc 8)) (.const (.int 0)))))
  .nil))) [3,5])
 (.cons (.ite (.cmp .Eq (.loc 4) (.lst .nil))
  (.cons (.ret 0 (.const (.bool false)))
  .nil)
  .nil)
 (.cons (.ite (.cmp .NotEq (.idx (.loc 4) (.const (.int 0))) (.loc 2))
  (.cons (.expr (.kL (.loc 0) "swap" (.cons (.idx (.loc 4) (.const (.int 0))) (.cons (.loc 2) .nil))))
  .nil)
  .nil)
 (.cons (.ite (.cmp .Lt (.idx (.loc 6) (.loc 2)) (.const (.int 0)))
  (.cons (.expr (.kL (.loc 0) "turn" (.cons (.loc 2) .nil)))
  .nil)
  .nil)
 (.cons (.ret 0 (.const (.bool true)))
 .nil))))))),true⟩
def tbl:List (Str×cb):=[(("measure_of_dict":Str),OG),(("put_to":Str),OH),(("times":Str),OI),(("over":Str),OJ),(("power":Str),OL),(("filled":Str),OM),(("parts_of":Str),ON),(("all_within":Str),OO),(("inputs":Str),OP),(("noughts":Str),OQ),(("own_looker":Str),OR),(("measure_of":Str),OS),(("alike":Str),OT),(("power_in":Str),OU),(("unit_rows":Str),OV),(("rest_of":Str),OW),(("needed_for":Str),OX),(("split":Str),OY),(("walked":Str),OZ),(("told_by":Str),O0),(("solved":Str),O1),(("widest":Str),O2),(("range_of":Str),O3),(("_law_cell_at":Str),O4),(("_law_mix":Str),O5),(("_law_words":Str),O6),(("_law_made":Str),F9),(("_law_small":Str),O7),(("_law_shared":Str),O8),(("_law_lowest":Str),O9),(("_law_number":Str),O'),(("_law_filled":Str),Pa),(("_law_times":Str),Pb),(("_law_writable":Str),Pc),(("_law_fit_leaf":Str),Pd),(("_law_root":Str),Pe),(("_law_two":Str),Pf),(("_law_fit":Str),Pg),(("_law_measures_of":Str),Ph),(("_law_wide":Str),Pj),(("_law_widest":Str),Pk),(("law":Str),mB),(("Looker.__init__":Str),Pl),(("Looker.measure":Str),Pm),(("Columns.__init__":Str),Pn),(("Columns.take_off":Str),Po),(("Columns.swap":Str),Pp),(("Columns.turn":Str),Pq),(("Columns.cleared":Str),Pr)]
noncomputable def BM:List (Str×an2):=[("is",.int 0),("nought",.int 0),("input",.int 0),("plus",.int 2),("minus",.int 2),("times",.int 2),("over",.int 2),("power",.int 1),("less",.int 4)]
def G:rK:=⟨lnm,fun x=>if x = "PARTS" then some (.ba BM) else none,fun f=>tbl.lookup f,fun V V=>false,fun x=>xm.contains x⟩
theorem aeb:G.fn "measure_of_dict"=some OG:=by rfl
theorem aec:G.fn "put_to"=some OH:=by rfl
theorem aed:G.fn "times"=some OI:=by rfl
theorem aee:G.fn "over"=some OJ:=by rfl
theorem aef:G.fn "power"=some OL:=by rfl
theorem aeg:G.fn "filled"=some OM:=by rfl
theorem aeh:G.fn "parts_of"=some ON:=by rfl
theorem aei:G.fn "all_within"=some OO:=by rfl
theorem aej:G.fn "inputs"=some OP:=by rfl
theorem aek:G.fn "noughts"=some OQ:=by rfl
theorem ael:G.fn "own_looker"=some OR:=by rfl
theorem aem:G.fn "measure_of"=some OS:=by rfl
theorem aen:G.fn "alike"=some OT:=by rfl
theorem aeo:G.fn "power_in"=some OU:=by rfl
theorem aep:G.fn "unit_rows"=some OV:=by rfl
theorem aeq:G.fn "rest_of"=some OW:=by rfl
theorem aer:G.fn "needed_for"=some OX:=by rfl
theorem Ps:G.fn "split"=some OY:=by rfl
theorem aes:G.fn "walked"=some OZ:=by rfl
theorem aet:G.fn "told_by"=some O0:=by rfl
theorem aeu:G.fn "solved"=some O1:=by rfl
theorem aev:G.fn "widest"=some O2:=by rfl
theorem aew:G.fn "range_of"=some O3:=by rfl
theorem aex:G.fn "_law_cell_at"=some O4:=by rfl
theorem aey:G.fn "_law_mix"=some O5:=by rfl
theorem aez:G.fn "_law_words"=some O6:=by rfl
theorem aeA:G.fn "_law_made"=some F9:=by rfl
theorem aeB:G.fn "_law_small"=some O7:=by rfl
theorem aeC:G.fn "_law_shared"=some O8:=by rfl
theorem aeD:G.fn "_law_lowest"=some O9:=by rfl
theorem aeE:G.fn "_law_number"=some O':=by rfl
theorem aeF:G.fn "_law_filled"=some Pa:=by rfl
theorem aeG:G.fn "_law_times"=some Pb:=by rfl
theorem aeH:G.fn "_law_writable"=some Pc:=by rfl
theorem aeI:G.fn "_law_fit_leaf"=some Pd:=by rfl
theorem aeJ:G.fn "_law_root"=some Pe:=by rfl
theorem aeK:G.fn "_law_two"=some Pf:=by rfl
theorem Pu:G.fn "_law_fit"=some Pg:=by rfl
theorem aeL:G.fn "_law_measures_of"=some Ph:=by rfl
theorem aeM:G.fn "_law_wide"=some Pj:=by rfl
theorem aeN:G.fn "_law_widest"=some Pk:=by rfl
theorem aeO:G.fn "law"=some mB:=by rfl
theorem aeP:G.fn "Looker.__init__"=some Pl:=by rfl
theorem v6:G.fn "Looker.measure"=some Pm:=by rfl
theorem aeQ:G.fn "Columns.__init__"=some Pn:=by rfl
theorem aeR:G.fn "Columns.take_off"=some Po:=by rfl
theorem aeS:G.fn "Columns.swap"=some Pp:=by rfl
theorem aeT:G.fn "Columns.turn"=some Pq:=by rfl
theorem aeU:G.fn "Columns.cleared"=some Pr:=by rfl
noncomputable def fO(ns:List Int)(k:Nat):Int:=if k<ns.length then (ns.getD k 0).fmod 1000000000000000003 else 0
theorem aeV{ns:List Int}(h:ns.length<=63)(k:Nat)(e:k<=1000)(d:Nat)(σ:ah):bF G (d+1) "_law_cell_at" [.lst (ns.map .int),.int k] σ=.ok (.int (fO ns k)) σ:=by
 have b:(List.map an2.int ns).length<=1000000:=by rw[a0];exact ax h (by decide)
 refine dw aex rfl rfl rfl fun c a=>?_;refine cm (u7 _ _ b) ?_;by_cases ae:k<ns.length
 ·rw[show fO ns k=(ns.getD k 0).fmod 1000000000000000003 from bl ae];refine bI.t (b9 (by rw[a0];exact Jz ae)) ?_;refine cj (qk σ _ k (.int (ns.getD k 0)) (i6 e) (by simp[ae,zX])) ?_;exact dP rfl
 ·rw[show fO ns k=0 from b5 ae];refine bI.f (d8 (by rw[a0];exact fun q=>ae (kE.mp q))) ?_;exact dP rfl
noncomputable def yP(cell k:Int):Int:=(cell*48271+k*69621+11).fmod 2147483647
def nk(cell k:Int):Int:=(yP cell k*yP cell k+7*yP cell k+k).fmod 2147483629
theorem aeW(cell k:Int):0<=yP cell k/\yP cell k<2147483647:=⟨I9 _ (by decide),I' _ (by decide)⟩
variable {u x y:Int}
theorem Pw(h0:0<=x)(a:x<=2147483647):IntMulOk x y:=DV (Ij (by decide) h0) (uJ a (by decide))
theorem Px(h:x=0\/x=1):IntMulOk x y:=by rcases h with rfl|rfl<;>exact Pw (by decide) (by decide)
theorem F'(cell k:Int)(d:Nat)(σ:ah):bF G (d+1) "_law_mix" [.int cell,.int k] σ=.ok (.int (nk cell k)) σ:=by
 have b:=aeW cell k;refine dw aey rfl rfl rfl fun c a=>?_;refine jU (v3 rfl) ?_;refine jU (v3 rfl) ?_;refine jU (Pw b.1 (gY b.2)) ?_;refine jU (sf rfl) ?_;exact dP rfl
theorem f0(x:Int){n:Int}(h:0<n):0<=x.fmod n/\x.fmod n<n:=⟨I9 _ h,I' _ h⟩
theorem BN(x:Int){n:Nat}(h:0<n):∃k:Nat,k<n/\x.fmod n=k:=by
 have:=f0 x (n:=n) (Int.natCast_pos.mpr h);exact⟨(x.fmod n).toNat,((Sz this.1).mpr this.2),((zJ this.1).symm)⟩
variable {σ au τ:ah}
theorem qI{o a:bb}:(σ++[o]).set σ.length a=σ++[a]:=by simp
theorem gQ{o:bb}:(σ++[o])[σ.length]?=some o:=by simp
variable {a e fs h i j k:Nat}{b:Bool}
theorem si{l:List (Str×an2)}(h:σ[i]?=some (.dict b l)):cR σ (.ref i)=.ba l:=dt iH h
variable {l:List an2}
theorem qJ(h:σ[i]?=some (.list b l)):cR σ (.ref i)=.lst l:=dt iH h
variable {D:List (Str×an2)}
theorem Ga(h:σ[i]?=some (.dict false D)):rM σ i=some D:=by unfold rM;rw[h]
theorem BO(h:σ[i]?=some (.dict b D)){k:Str}{v:an2}(a:cp D k=some v):eQ σ (.ref i) (.str k)=some (.v v):=by
 unfold eQ;rw[si h];show (cp D k).map cL.v=_;rw[a];rfl
theorem nq(a:D.length<=1000000)(k:Str)(v:an2):setAt (σ++[bb.dict false D]) (.ref σ.length) (.str k) v=some (σ++[bb.dict false (b6 D k v)]):=by
 show (rM (σ++[bb.dict false D]) σ.length).bind _=_;rw[Ga gQ];exact(bl (b9 a)).trans (by rw[qI])
theorem Gb{L:List (Str×an2)}(h:σ[i]?=some (.dict b L))(a:(L.map bz).length<hz):i8 σ .sorted [.ref i]=some (.f (.list ((hy (L.map bz)).map .str))):=by
 show (DS (cR σ (.ref i))).bind _=_;rw[si h];exact bl a
theorem aeX(a:l.length<=1000000)(v:an2):ma (σ++[bb.list false l]) .append (.ref σ.length) [v]=some (.none,σ++[bb.list false (l++[v])]):=by
 show (jA (σ++[bb.list false l]) σ.length).bind _=_;rw[show jA (σ++[bb.list false l]) σ.length=some l by unfold jA;rw[gQ]];exact(bl (b9 a)).trans (by rw[qI])
theorem yQ:(ke (cR (σ++[bb.list false l]) (.ref σ.length))).isSome=true:=by
 rw[qJ gQ];rfl
theorem aeY(a:kh l=true):di σ.length (σ++[bb.list false l]) 3 (.ref σ.length)=some (.lst l):=
 (b5 (kD _)).trans (by show aoI _ (σ++[bb.list false l])[σ.length]?=_;rw[gQ];exact dt (mP an2.lst) (LF _ _ a))
theorem ao1{ρ:List an2}(a:kh l=true):left false σ (.ok (.ret (.ref σ.length),ρ) (σ++[bb.list false l]))=.ok (.lst l) σ:=by
 rw[xy,I8,bl rfl,aeY a]
theorem nr(σ:ah){n:Int}(h:n.natAbs<=1000000):i8 σ .range [.int n]=some (.v (.eP 0 n)):=bl h
theorem aoH{n:Nat}{x:an2}(h:(hw 0 n)[k]?=some x):x=.int k/\k<n:=by
 unfold hw at h;rw[aob]at h;refine aw (dh.mp h) fun j b c=>?_;subst c;have:=dN.mp b;obtain⟨a,O⟩:=this;simp at a O;subst O;exact⟨by simp,by assumption⟩
theorem yR(n:Nat):(hw 0 n).length=n:=by simp[hw]
variable {v v':an2}
theorem gR{a k:an2}{K:ah->Prop}(h:setAt σ a k v=some au)(q:K au):@hq _ (fun V=>Prop) False K (setAt σ a k v):=an3.mk h q
theorem aor{m:kJ}{x:an2}{vs:List an2}{r:an2×ah}{K:an2×ah->Prop}(h:ma σ m x vs=some r)(q:K r):@hq _ (fun V=>Prop) False K (ma σ m x vs):=an3.mk h q
theorem kq{t:kJ}{x:an2}{P:Prop}(h:xu σ t x=true)(q:P):@Dh (fun V=>Prop) False P (xu σ t x):=bI.t h q
theorem aeZ(x y:Str):(x++y).length=x.length+y.length:=by
 show (x.cps++y.cps).size=_;rw[akp];rfl
theorem v7(x y:Str):(x++y).cps.toList=x.cps.toList++y.cps.toList:=zT
theorem ae0{x y:Str}(h:x.cps.toList=y.cps.toList):x=y:=by
 obtain⟨x⟩:=x;obtain⟨y⟩:=y;exact dt _ (alx.mp h)
theorem v8(c:Nat)(n:Int):(kM ⟨#[c]⟩ n).cps.toList=eL n.toNat c:=by
 have b:∀(k:Nat) (a:Array Nat),((eL k #[c]).foldl (·++·) a).toList=a.toList++eL k c:=by
  intro k
  induction k with
  |zero=>intro a;simp
  |succ k ih=>intro a;rw[rx,sU,ih,zT,rx,ek];rfl
 show ((eL n.toNat #[c]).foldl (·++·) #[]).toList=_;rw[b];rfl
noncomputable def v9:Str:="abcdefghijklmnopqrstuvwxyz"
theorem ae1:v9.cps.size=26:=by decide
def iS(k:Int):Nat:=v9.cps.getD k.toNat 0
def lK(k:Int):Str:=⟨#[iS k]⟩
theorem ae2:∀k:Fin 26,v9.cps.getD k.val 0=97+k.val:=by decide
theorem Gc{k:Int}(h:0<=k/\k<26):(iS k:Int)=97+k:=by
 have:=ae2 ⟨k.toNat,(JJ h)⟩;unfold iS;simp only at this;exact by rw[this,ajZ,zJ h.1];rfl
theorem Gd(σ:ah){k:Int}(h:0<=k/\k<26):eQ σ (.str "abcdefghijklmnopqrstuvwxyz") (.int k)=some (.v (.str (lK k))):=by
 have a:k.toNat<v9.cps.size:=by rw[ae1];exact JJ h
 show (if 0<=k/\k<=1000000 then (v9.cps[k.toNat]?).map fun c=>cL.v (.str ⟨#[c]⟩) else none)=_;rw[bl (by exact Uf h),getElem?_pos v9.cps k.toNat a];simp[lK,iS,Array.getD,a]
theorem Pz(aP:List Str):kh (aP.map .str)=true:=by rw[rQ];intro v a;obtain⟨w,V,rfl⟩:=dQ.mp a;rfl
def bg(cell:Int)(k:Nat):Str:=
 let b:=lK ((cell.fdiv 64).fmod 26);let sz:=1+cell.fmod 8;let pz:=(cell.fdiv 8).fmod sz;let ao3:=lK ((cell.fdiv 1664+5*(k:Int)).fmod 26)
 if (cell.fdiv 3).fmod 4=0 then ao3++kM b ((3*(k:Int)+cell.fdiv 9).fmod 8)
 else if (cell.fdiv 3).fmod 4=1 then (if k<8 then kM b (1+(3*(k:Int)+cell.fdiv 9).fmod 8) else lK ((cell.fdiv 64+(k:Int)-7).fmod 26)++kM b ((k:Int).fmod 8))
 else kM b pz++ao3++kM b (sz-1-pz)
theorem BP(c:Nat)(n:Int):(kM ⟨#[c]⟩ n).length=n.toNat:=by
 have:=dt w9 (v8 c n);rw[qa,C0]at this;exact this
theorem ae3(cell:Int)(many:Nat)(s:many<=1000)(d:Nat)(σ:ah):bF G (d+1) "_law_words" [.int cell,.int many] σ=.ok (.lst ((bf many).map fun k=>.str (bg cell k))) σ:=by
 have j:=f0 cell (n:=8) (by decide);have g:=f0 (cell.fdiv 8) (n:=1+cell.fmod 8) (JB j);refine dw aez rfl rfl rfl fun c a=>?_;refine v4 (Ja (uJ g.1 g.2)) ?_;refine cj (Gd σ (f0 _ (by decide))) ?_;refine cm (nr σ (by exact o4 s)) ?_;refine dg.const (fun k au=>au=σ++[.list false ((bf k).map fun k=>.str (bg cell k))]) rfl ?_ ?_
 ·rintro k x au u rfl;obtain⟨rfl,o⟩:=aoH u;have l:=f0 (3*(k:Int)+cell.fdiv 9) (n:=8) (by decide);have p:=f0 (k:Int) (n:=8) (by decide);have bv:=BP (iS ((cell.fdiv 64).fmod 26)) ((cell.fdiv 8).fmod (1+cell.fmod 8));have v:=BP (iS ((cell.fdiv 64).fmod 26)) (1+cell.fmod 8-1-(cell.fdiv 8).fmod (1+cell.fmod 8));have y:=BP (iS ((cell.fdiv 64).fmod 26)) ((3*(k:Int)+cell.fdiv 9).fmod 8);have z:=BP (iS ((cell.fdiv 64).fmod 26)) ((k:Int).fmod 8);have i:∀x,(lK x).length=1:=fun V=>rfl;have m:∀w:Str,w=bg cell k->ma (σ++[bb.list false ((bf k).map fun k=>.str (bg cell k))]) .append (.ref σ.length) [.str w]=some (.none,σ++[bb.list false ((bf (k+1)).map fun k=>.str (bg cell k))]):=fun w aF=>by
   rw[z6,hS,aF];exact aeX (by rw[a0,an5];exact jz s o) _
  refine jU (sf rfl) ?_;refine cj (Gd _ (f0 _ (by decide))) ?_;have ls:=i ((cell.fdiv 1664+5*(k:Int)).fmod 26);have A:=i ((cell.fdiv 64+(k:Int)-7).fmod 26);refine eh (xz _ _ _ ⟨(eY (uK (ro 1 _▸g.2)) (eY (gY j.2) (by decide))),(eY (by decide) g.1),ax (bx (i _)) (by decide)⟩) ?_;refine eh (kj _ _ _ (by unfold lK;rw[bv];exact ax (aG (show _<=8 by exact JI j g) (bx ls)) (by decide))) ?_;refine eh (xz _ _ _ ⟨by exact Ue j g,by exact Ud g,ax (bx (i _)) (by decide)⟩) ?_;refine eh (kj _ _ _ (by rw[aeZ];unfold lK;rw[bv,v];exact ax (aG (aG (show _<=8 by exact JI j g) (bx ls)) (show _<=8 by exact Uc j g)) (by decide))) ?_;refine bI.mk (fun e=>?_) fun e=>?_
  ·have e:(cell.fdiv 3).fmod 4=0:=dC e;have b:((cell.fdiv 3).fmod 4==1)=false:=by rw[e];rfl
   refine jU (sf rfl) ?_;refine eh (xz _ _ _ ⟨(JH l),(JG l),ax (bx (i _)) (by decide)⟩) ?_;refine eh (kj _ _ _ (by unfold lK;rw[y];exact ax (aG (bx ls) (show _<=8 by exact JF l)) (by decide))) ?_;refine bI.f b (bI.f b (bI.f b (bI.f b ?_)));refine kq yQ ?_;refine aor (m _ (by unfold bg;rw[bl e])) ?_;exact⟨_,by rfl,rfl,rfl⟩
  ·have e:((cell.fdiv 3).fmod 4==0)=false:=e;have e:¬(cell.fdiv 3).fmod 4=0:=by simpa using e
   refine bI.mk (fun r=>?_) fun b=>?_
   ·have b:(cell.fdiv 3).fmod 4=1:=dC r;refine bI.mk (fun h=>?_) fun h=>?_
    ·have h:=ct h;refine jU (sf rfl) ?_;refine eh (xz _ _ _ ⟨(eY (Sy (gY l.2) 1) (by decide)),(eY (by decide) (alG l.1)),ax (bx (i _)) (by decide)⟩) ?_;refine bI.t r ?_;refine bI.f (d8 (hR.mpr (uK h))) ?_;refine kq yQ ?_;refine aor (m _ (by unfold bg;rw[b5 e,bl b,bl (kE.mp h)])) ?_;exact⟨_,by rfl,rfl,rfl⟩
    ·have h:=of_decide_eq_false h;refine bI.t r ?_;refine bI.t (b9 (hR.mp (fun q=>h q))) ?_;refine cj (Gd _ (f0 _ (by decide))) ?_;refine eh (xz _ _ _ ⟨(JH p),(JG p),ax (bx (i _)) (by decide)⟩) ?_;refine eh (kj _ _ _ (by unfold lK;rw[z];exact ax (aG (bx A) (show _<=8 by exact JF p)) (by decide))) ?_;refine kq yQ ?_;refine aor (m _ (by unfold bg;rw[b5 e,bl b,b5 (fun q=>h (kE.mpr q))])) ?_;exact⟨_,by rfl,rfl,rfl⟩
   ·refine bI.f b (bI.f b (bI.f b ?_));have b:((cell.fdiv 3).fmod 4==1)=false:=b;refine kq yQ ?_;refine aor (m _ (by unfold bg;rw[b5 e,b5 (by simpa using b)])) ?_;exact⟨_,by rfl,rfl,rfl⟩
 ·rintro au rfl;rw[yR];refine ao1 ?_;rw[show (bf many).map (fun k=>an2.str (bg cell k))=((bf many).map (bg cell)).map .str by rw[hk];rfl];exact Pz _
theorem BQ(cell:Int)(k:Nat):(bg cell k).cps.toList =
  if (cell.fdiv 3).fmod 4=0 then iS ((cell.fdiv 1664+5*(k:Int)).fmod 26)::eL ((3*(k:Int)+cell.fdiv 9).fmod 8).toNat (iS ((cell.fdiv 64).fmod 26))
  else if (cell.fdiv 3).fmod 4=1 then (if k<8 then eL (1+(3*(k:Int)+cell.fdiv 9).fmod 8).toNat (iS ((cell.fdiv 64).fmod 26)) else iS ((cell.fdiv 64+(k:Int)-7).fmod 26)::eL ((k:Int).fmod 8).toNat (iS ((cell.fdiv 64).fmod 26)))
  else eL ((cell.fdiv 8).fmod (1+cell.fmod 8)).toNat (iS ((cell.fdiv 64).fmod 26))++iS ((cell.fdiv 1664+5*(k:Int)).fmod 26)::eL ((1+cell.fmod 8)-1-(cell.fdiv 8).fmod (1+cell.fmod 8)).toNat (iS ((cell.fdiv 64).fmod 26)):=by
 unfold bg;by_cases h0:(cell.fdiv 3).fmod 4=0
 ·rw[bl h0,bl h0,v7];unfold lK;rw[v8];rfl
 ·rw[b5 h0,b5 h0];by_cases a:(cell.fdiv 3).fmod 4=1
  ·rw[bl a,bl a];by_cases b:k<8
   ·rw[bl b,bl b];unfold lK;rw[v8]
   ·rw[b5 b,b5 b,v7];unfold lK;rw[v8];rfl
  ·rw[b5 a,b5 a,v7,v7];unfold lK;rw[v8,v8,ek];rfl
theorem PB(x:Int):x.fmod 26=x % 26:=TD _ (by decide)
theorem PC(x:Int):x.fmod 8=x % 8:=TD _ (by decide)
theorem yS(h:iS (x.fmod 26)=iS (y.fmod 26)):x % 26=y % 26:=by
 have a:=Gc (f0 x (n:=26) (by decide));have O:=Gc (f0 y (n:=26) (by decide));rw[PB]at a O h;rw[PB]at h;exact Int.add_left_cancel (a.symm.trans (by rw[h];exact O))
theorem ae7{cell:Int}(c:k<26)(d:j<26)(h:bg cell k=bg cell j):k=j:=by
 have h:(bg cell k).cps.toList=(bg cell j).cps.toList:=by rw[h]
 rw[BQ,BQ]at h;by_cases h0:(cell.fdiv 3).fmod 4=0
 ·rw[bl h0,bl h0]at h;have:=yS (nL h).1;exact JC c d this
 ·rw[b5 h0,b5 h0]at h;by_cases b:(cell.fdiv 3).fmod 4=1
  ·rw[bl b,bl b]at h;have f:=f0 (3*(k:Int)+cell.fdiv 9) (n:=8) (by decide);have g:=f0 (3*(j:Int)+cell.fdiv 9) (n:=8) (by decide);by_cases e:k<8
   ·rw[bl e]at h;by_cases a:j<8
    ·rw[bl a]at h;have:=dt w9 h;rw[qa,qa]at this;rw[PC]at this f g;rw[PC]at this;exact(Dt (Ub (alH _ (by decide)) (alH _ (by decide)) this)).elim fun V q=>Ua e a (by rw[<- q,w1,ajY])
    ·rw[b5 a,show (1+(3*(k:Int)+cell.fdiv 9).fmod 8).toNat=((3*(k:Int)+cell.fdiv 9).fmod 8).toNat+1 by exact Ds f,rx]at h;have:=yS (nL h).1;exact((JE d a this.symm)).elim
   ·rw[b5 e]at h;by_cases a:j<8
    ·rw[bl a,show (1+(3*(j:Int)+cell.fdiv 9).fmod 8).toNat=((3*(j:Int)+cell.fdiv 9).fmod 8).toNat+1 by exact Ds g,rx]at h;have:=yS (nL h).1;exact(JE c e this).elim
    ·rw[b5 a]at h;have:=yS (nL h).1;exact JD c d this
  ·rw[b5 b,b5 b]at h;have:=yS (nL (alI h)).1;exact JC c d this
theorem ae8(cell:Int)(k:Nat):∃c r,(bg cell k).cps.toList=c::r/\97<=c:=by
 have ae:∀x:Int,97<=iS (x.fmod 26):=fun x=>by
  have b:=f0 x (n:=26) (by decide);have:=Gc b;exact lw.mp (this▸alG b.1)
 rw[BQ];by_cases h0:(cell.fdiv 3).fmod 4=0
 ·rw[bl h0];exact⟨_,_,rfl,ae _⟩
 ·rw[b5 h0];by_cases a:(cell.fdiv 3).fmod 4=1
  ·rw[bl a];by_cases d:k<8
   ·have e:=f0 (3*(k:Int)+cell.fdiv 9) (n:=8) (by decide);rw[bl d,show (1+(3*(k:Int)+cell.fdiv 9).fmod 8).toNat=((3*(k:Int)+cell.fdiv 9).fmod 8).toNat+1 by exact Ds e,rx];exact⟨_,_,rfl,ae _⟩
   ·rw[b5 d];exact⟨_,_,rfl,ae _⟩
  ·rw[b5 a];generalize ((cell.fdiv 8).fmod (1+cell.fmod 8)).toNat=n;cases n with
   |zero=>exact⟨_,_,rfl,ae _⟩
   |succ n=>rw[rx];exact⟨_,_,rfl,ae _⟩
theorem ae9(cell:Int)(k:Nat):(bg cell k).length<=100:=by
 rw[show (bg cell k).length=(bg cell k).cps.toList.length from (C0).symm,BQ];have b:=f0 cell (n:=8) (by decide);have e:=f0 (cell.fdiv 8) (n:=1+cell.fmod 8) (JB b);have c:=f0 (3*(k:Int)+cell.fdiv 9) (n:=8) (by decide);have f:=f0 (k:Int) (n:=8) (by decide);by_cases h0:(cell.fdiv 3).fmod 4=0
 ·rw[bl h0,aoc,qa];exact JA c
 ·rw[b5 h0];by_cases a:(cell.fdiv 3).fmod 4=1
  ·rw[bl a];by_cases d:k<8
   ·rw[bl d,qa];exact rn.mpr (eY (Sy (gY c.2) 1) (by decide))
   ·rw[b5 d,aoc,qa];exact JA f
  ·rw[b5 a,bW,aoc,qa,qa];exact T8 b e
theorem afa{D:cg}(h:σ[i]?=some (.dict b (an4 D))){k:Str}(c:k∈D.map bz):eQ σ (.ref i) (.str k)=some (.v (.int (val D k))):=by
 obtain⟨v,a⟩:=VV c;refine BO h ?_;rw[LG,a];unfold val;rw[a];rfl
theorem BR(h:l.length<=1000000):i8 σ .tuple [.lst l]=some (.v (.tup l)):=bl (b9 h)
theorem afb(D:cg):kP D=((hy (D.map bz)).filter fun k=>!(val D k==0)).map fun k=>(k,val D k):=by
 unfold kP;generalize hy (D.map bz)=l
 induction l with
 |nil=>rfl
 |cons k l ih=>
  by_cases h:val D k=0
  ·rw[j',z5,b5 (fun q=>q h),h,ih];rfl
  ·rw[j',z5,bl h,bl (by simpa using h),ih];rfl
theorem PD{F:Str}(bL:G.fn F=some F9){σ:ah}{i:Nat}{b:Bool}{D:cg}(h:σ[i]?=some (.dict b (an4 D)))(f:D.length<hz)(d:Nat):bF G (d+1) F [.ref i] σ=.ok (aR (kP D)) σ:=by
 rw[afb];have e:((hy (D.map bz)).filter fun k=>!(val D k==0)).length<=1000000:=by
  refine ax (z7 ..) ?_;rw[(kO _).length_eq,a0];exact ax (et f) (by decide)
 refine dw bL rfl rfl rfl fun c a=>?_;refine cm (Gb h (by rw[AK,a0];exact f)) ?_;refine eB.pure .str (fun k=>!(val D k==0)) (fun k=>.tup [.str k,.int (val D k)]) (hy ((an4 D).map bz)) rfl rfl rfl (fun k g=>?_) ?_ ?_
 ·rw[AK]at g;have j:=afa h ((kO _).mem_iff.mp g);exact⟨cj j ⟨rfl,rfl⟩,fun V=>cj j ⟨rfl,rfl⟩⟩
 ·rw[AK,a0];exact b9 e
 ·rw[AK];refine cm (BR (by rw[a0];exact e)) ?_;refine(dP ?_).trans ?_
  ·exact hB (((hy (D.map bz)).filter fun k=>!(val D k==0)).map fun k=>(k,val D k))▸by unfold aR;rw[hk];rfl
  ·unfold aR;rw[hk];rfl
theorem Gf{D:cg}(h:σ[i]?=some (.dict b (an4 D)))(a:D.length<hz)(d:Nat):bF G (d+1) "_law_made" [.ref i] σ=.ok (aR (kP D)) σ:=PD aeA h a d
theorem yT{D:cg}(h:σ[i]?=some (.dict b (an4 D)))(a:D.length<hz)(d:Nat):bF G (d+1) "measure_of_dict" [.ref i] σ=.ok (aR (kP D)) σ:=PD aeb h a d
theorem Gg{D:cg}(h:σ[i]?=some (.dict b (an4 D)))(k:Str):ma σ .get (.ref i) [.str k,.int 0]=some (.int (val D k),σ):=by
 show (qg (cR σ (.ref i))).bind _=_;rw[si h];exact dt (fun x=>some (x,σ)) (LH D k)
theorem Gh(h:σ[i]?=some (.dict b D)):(qg (cR σ (.ref i))).isSome=true:=by
 rw[si h];rfl
theorem afc{D:cg}(h:σ[i]?=some (.dict false (an4 D)))(a:D.length<=1000000)(k:Str)(v:Int):setAt σ (.ref i) (.str k) (.int v)=some (σ.set i (.dict false (an4 (b6 D k v)))):=by
 show (rM σ i).bind _=_;rw[Ga h];exact(bl (b9 (by rw[AI];exact a))).trans (by rw[AJ])
variable {ms:cg}
theorem BS(hn:(ms.map bz).Nodup)(a:ms.length<=1000000):i8 σ .dict [aR ms]=some (.f (.dict (an4 ms))):=by
 show (aoK (ms.map fun kv=>.tup [.str kv.1,.int kv.2])).bind _=_;rw[VQ];exact(bl (b9 (by rw[AI];exact a))).trans (by rw[VX hn])
theorem afd(D ms:cg)(n:Int):(cZ D ms n).length<=D.length+ms.length:=by
 unfold cZ
 induction ms generalizing D with
 |nil=>exact cu _
 |cons kv ms ih=>
  refine ax (ih _) ?_;have:(b6 D kv.1 ((cp D kv.1).getD 0+kv.2*n)).length<=D.length+1:=by unfold b6;split<;>simp
  rw[aoc];exact ax (lx this _) (bx (by rw[eK,kG 1]))
theorem afe(D ms:cg)(kv:Str×Int)(n:Int):cZ D (ms++[kv]) n=b6 (cZ D ms n) kv.1 (val (cZ D ms n) kv.1+kv.2*n):=by unfold cZ;rw[Di];rfl
theorem aoj{r:fi}:left true σ (.ok r au)=.ok r.1.out au:=by unfold left;exact bl rfl
theorem nt{o:bb}(a:bb)(h:σ[i]?=some o):(σ.set i a)[i]?=some a:=by
 obtain⟨q,V⟩:=dN.mp h;rw[zS q]
theorem t8{o:bb}(h:σ[i]?=some o):σ.set i o=σ:=by
 apply uQ;intro j;rw[I7];split
 ·rename_i e;subst e;rw[h,bl (dN.mp h).1]
 ·rfl
variable {kv:Str×Int}
theorem Gi{D:cg}{n:Int}{done a:cg}(h:σ[i]?=some (.dict false (an4 D)))(c:D.length+ms.length<=1000000)(d:done++kv::a=ms) :
  (σ.set i (.dict false (an4 (cZ D done n))))[i]?=some (.dict false (an4 (cZ D done n)))/\setAt (σ.set i (.dict false (an4 (cZ D done n)))) (.ref i) (.str kv.1) (.int (val (cZ D done n) kv.1+kv.2*n))=some (σ.set i (.dict false (an4 (cZ D (done++[kv]) n)))):=by
 have b:=nt (.dict false (an4 (cZ D done n))) h;refine⟨b,?_⟩;have O:=afd D done n;have e:done.length<=ms.length:=by rw[<- d,bW];exact bO _ _
 rw[afc b (ax O (ax (fv e _) c)),xa,afe]
noncomputable def aok(kv:Str×Int):an2:=.tup [.str kv.1,.int kv.2]
theorem BU{n:Int}(g:∀kv∈ms,IntMulOk kv.2 n)(d:Nat){σ:ah}{i:Nat}{D:cg}(h:σ[i]?=some (.dict false (an4 D)))(j:D.length+ms.length<=1000000) :
  bF G (d+1) "put_to" [.ref i,aR ms,.int n] σ=.ok .none (σ.set i (.dict false (an4 (cZ D ms n)))):=by
 refine dw aec rfl rfl rfl fun c a=>?_;refine dg.nj aok ms (fun done=>σ.set i (.dict false (an4 (cZ D done n)))) rfl (t8 h).symm ?_ ?_
 ·intro done kv f e;obtain⟨b,O⟩:=Gi (n:=n) h j e;refine kq (Gh b) ?_;refine aor (Gg b kv.1) ?_;refine jU (g kv (e▸ho _ cW)) ?_;refine gR O ?_;refine mA (S:=fun done=>σ.set i (.dict false (an4 (cZ D done n)))) e ?_;rfl
 ·exact aoj
theorem aff{a b:cg}(g:(a.map bz).Nodup)(e:a.length+b.length<=1000000)(h:∀kv∈b,IntMulOk kv.2 1)(j:(cZ a b 1).length<hz)(d:Nat)(σ:ah) :
  bF G (d+2) "times" [aR a,aR b] σ=.ok (aR (kP (cZ a b 1))) σ:=by
 have f:=BU (n:=1) h d (σ:=σ++[.dict false (an4 a)]) (i:=σ.length) (D:=a) gQ e;rw[qI]at f;refine dw aed rfl rfl rfl fun c at_=>?_;refine cm (BS g (ax (bO _ _) e)) ?_;refine aW at_ f ?_;have k:=yT (σ:=σ++[.dict false (an4 (cZ a b 1))]) (i:=σ.length) (b:=false) (D:=cZ a b 1) gQ j d;refine aW at_ k ?_;exact qH (hB (kP (cZ a b 1)))
theorem afg{a b:cg}(g:(a.map bz).Nodup)(e:a.length+b.length<=1000000)(h:∀kv∈b,IntMulOk kv.2 (-1))(j:(cZ a b (-1)).length<hz)(d:Nat)(σ:ah) :
  bF G (d+2) "over" [aR a,aR b] σ=.ok (aR (kP (cZ a b (-1)))) σ:=by
 have f:=BU (n:=-1) h d (σ:=σ++[.dict false (an4 a)]) (i:=σ.length) (D:=a) gQ e;rw[qI]at f;refine dw aee rfl rfl rfl fun c at_=>?_;refine cm (BS g (ax (bO _ _) e)) ?_;refine aW at_ f ?_;have k:=yT (σ:=σ++[.dict false (an4 (cZ a b (-1)))]) (i:=σ.length) (b:=false) (D:=cZ a b (-1)) gQ j d;refine aW at_ k ?_;exact qH (hB (kP (cZ a b (-1))))
theorem afh{b:cg}{n:Int}(e:b.length<=1000000)(f:∀kv∈b,IntMulOk kv.2 n)(g:(cZ [] b n).length<hz)(d:Nat)(σ:ah) :
  bF G (d+2) "power" [aR b,.int n] σ=.ok (aR (kP (cZ [] b n))) σ:=by
 have a:=BU (n:=n) f d (σ:=σ++[.dict false (an4 [])]) (i:=σ.length) (D:=[]) gQ (by rw[z8,mT];exact e);rw[qI]at a;refine dw aef rfl rfl rfl fun c at_=>?_;refine aW at_ a ?_;have h:=yT (σ:=σ++[.dict false (an4 (cZ [] b n))]) (i:=σ.length) (b:=false) (D:=cZ [] b n) gQ g d;refine aW at_ h ?_;exact qH (hB (kP (cZ [] b n)))
def aA(K:List Str)(f:Str->Int):cg:=(hy K).filterMap fun k=>if f k≠0 then some (k,f k) else none
variable {B K K':List Str}
theorem iT{f:Str->Int}:kv∈aA K f↔kv.1∈K/\kv.2=f kv.1/\kv.2≠0:=by
 unfold aA;rw[aoX];constructor
 ·rintro⟨k,b,e⟩;split at e
  ·cases e;exact⟨(kO _).mem_iff.mp b,rfl,by assumption⟩
  ·cases e
 ·rintro⟨a,O,c⟩;refine⟨kv.1,(kO _).mem_iff.mpr a,?_⟩;rw[bl (O▸c),<- O]
theorem wa(bc:K.Nodup)(f:Str->Int):(aA K f).Pairwise fun a b=>fh a.1 b.1=true:=by
 unfold aA;refine anY _ ?_ (VY bc);intro a b e x c y d;split at c<;>split at d<;>simp_all;obtain⟨rfl,rfl⟩:=c;obtain⟨rfl,rfl⟩:=d;exact e
theorem Gj{d:cg}(h:d.Pairwise fun a b=>fh a.1 b.1=true):(d.map bz).Nodup:=by
 rw[Jb,Jc];exact h.imp fun {a b} c q=>by rw[q,VJ]at c;exact l5 c
theorem lL(bc:K.Nodup)(f:Str->Int):((aA K f).map bz).Nodup:=Gj (wa bc f)
theorem afi(K:List Str)(f:Str->Int):(aA K f).length<=K.length:=by
 unfold aA;exact ax (alJ ..) (bx (kO K).length_eq)
variable {α β:Type}
theorem Gk{g:α->β}{l:List α}(h:(l.map g).Nodup):l.Nodup:=by
 rw[Jb,Jc]at h;exact h.imp fun q e=>q (dt g e)
theorem Gl{a b:cg}(d:a.Pairwise fun a b=>fh a.1 b.1=true)(e:b.Pairwise fun a b=>fh a.1 b.1=true)(h:∀kv,kv∈a↔kv∈b):a=b:=by
 have f:=Gk (Gj d);have g:=Gk (Gj e);have i:a.Perm b:=(List.perm_ext_iff_of_nodup f g).mpr h;refine aki (le:=fun a b=>fh a.1 b.1=true) (fun x y V V c O=>?_) d e i;exact dk O (by
  intro O;have j:=ct (show decide (x.1.cps.toList<y.1.cps.toList)=true from c);have k:=ct (show decide (y.1.cps.toList<x.1.cps.toList)=true from O);exact dk (List.lt_trans j k) (List.lt_irrefl _))
theorem Gm(k:Str):val [] k=0:=rfl
theorem PE{d:cg}(hn:(d.map bz).Nodup){k:Str}{v:Int}(h:(k,v)∈d):val d k=v:=by unfold val;rw[D4 hn h];rfl
theorem wb{d:cg}{k:Str}(h:k∉d.map bz):val d k=0:=by
 unfold val;cases e:cp d k with
 |none=>rfl
 |some v=>exact dk (List.mem_map_of_mem (D5 e)) h
open Classical in
theorem afk(bc:K.Nodup)(f:Str->Int){k:Str}:val (aA K f) k=if k∈K then f k else 0:=by
 by_cases b:k∈K
 ·rw[bl b];by_cases h0:f k=0
  ·rw[h0];refine wb fun q=>?_;obtain⟨kv,a,rfl⟩:=dQ.mp q;have:=iT.mp a;exact this.2.2 (this.2.1.trans h0)
  ·exact PE (lL bc f) (iT.mpr ⟨b,rfl,h0⟩)
 ·rw[b5 b];refine wb fun q=>?_;obtain⟨kv,a,rfl⟩:=dQ.mp q;exact b (iT.mp a).1
theorem oz(bc:K.Nodup)(f:Str->Int){k:Str}(a:k∈K):val (aA K f) k=f k:=(afk bc f).trans (bl a)
variable {g:Str->Int}
theorem pF{f:Str->Int}(h:∀k∈K,f k=g k):aA K f=aA K g:=by
 unfold aA;have:∀l:List Str,(∀k∈l,f k=g k)->l.filterMap (fun k=>if f k≠0 then some (k,f k) else none)=l.filterMap (fun k=>if g k≠0 then some (k,g k) else none):=by
  intro l
  induction l with
  |nil=>exact fun V=>rfl
  |cons x l ih=>intro b;rw[j',j',b x cW,ih fun k a=>b k (dM _ a)]
 exact this _ fun k a=>h k ((kO _).mem_iff.mp a)
theorem t9(bc:K.Nodup){D:cg}(hn:(D.map bz).Nodup)(d:∀k∈D.map bz,k∈K):kP D=aA K (val D):=by
 have e:kP D=aA (D.map bz) (val D):=rfl;rw[e];refine Gl (wa hn _) (wa bc _) fun kv=>?_;rw[iT,iT];refine⟨fun ⟨a,b,c⟩=>⟨d _ a,b,c⟩,fun ⟨a,b,c⟩=>⟨?_,b,c⟩⟩;refine j6 fun q=>?_;exact c (b.trans (wb q))
theorem PF{D:cg}{k x:Str}{v:Int}:val (b6 D k v) x=if x=k then v else val D x:=by
 unfold val;rw[LI];split<;>rfl
theorem afl(k:Str)(v:Int)(d:cg)(x:Str):val ((k,v)::d) x=if k=x then v else val d x:=by
 unfold val cp;rw[It];by_cases h:k=x
 ·rw[bl h];simp[h]
 ·rw[b5 h];simp[h]
theorem yU(a:(ms.map bz).Nodup)(D:cg)(n:Int)(x:Str):val (cZ D ms n) x=val D x+val ms x*n:=by
 induction ms generalizing D with
 |nil=>rw[Gm,g0,aod];rfl
 |cons kv ms ih=>
  rw[gu,mR]at a;show val (cZ (b6 D kv.1 (val D kv.1+kv.2*n)) ms n) x=_;rw[ih a.2,PF,afl];by_cases h:x=kv.1
  ·subst h;rw[bl rfl,bl rfl,wb a.1,g0,aod]
  ·rw[b5 h,b5 (fun q=>h q.symm)]
section
variable {K:List Str}
structure dT (K:List Str):Prop where
 c7:K.Nodup
 len:K.length<64
 ne:∀k∈K,k≠(⟨#[]⟩:Str)
variable {n:Nat}
theorem qL(h:n<hz):n<=1000000:=ax (et h) (by decide)
theorem yV{m:Nat}(h:n<hz)(O:m<hz):n+m<=1000000:=ax (aG (et h) (et O)) (by decide)
theorem dT.le(h:dT K)(f:Str->Int):(aA K f).length<hz:=fR (afi K f) h.len
theorem yW{D ms:cg}{n:Int}(a:∀k∈D.map bz,k∈K)(b:∀k∈ms.map bz,k∈K):∀k∈(cZ D ms n).map bz,k∈K:=fun k c=>by
 rcases VW.mp c with h|h
 ·exact a k h
 ·exact b k h
theorem ua(bc:dT K){D:cg}(hn:(D.map bz).Nodup)(a:∀k∈D.map bz,k∈K):D.length<hz:=by
 have:=D6 hn a;rw[a0]at this;exact fR this bc.len
theorem qM(f:Str->Int):∀k∈(aA K f).map bz,k∈K:=fun k a=>by
 obtain⟨kv,h,rfl⟩:=dQ.mp a;exact(iT.mp h).1
theorem PG(bc:dT K)(f g:Str->Int)(d:Nat)(σ:ah):bF G (d+2) "times" [aR (aA K f),aR (aA K g)] σ=.ok (aR (aA K fun k=>f k+g k)) σ:=by
 have a:=xB (n:=1) (ms:=aA K g) (lL bc.c7 f);have O:=yW (n:=1) (qM (K:=K) f) (qM (K:=K) g);have:=aff (lL bc.c7 f) (b:=aA K g) (yV (bc.le f) (bc.le g)) (fun kv V=>v3 rfl) (ua bc a O) d σ;rw[this,t9 bc.c7 a O];refine dt (fun m=>be.ok (aR m) σ) (pF fun k c=>?_);rw[yU (lL bc.c7 g),oz bc.c7 f c,oz bc.c7 g c,oU]
theorem uc(bc:dT K)(f g:Str->Int)(d:Nat)(σ:ah):bF G (d+2) "over" [aR (aA K f),aR (aA K g)] σ=.ok (aR (aA K fun k=>f k-g k)) σ:=by
 have a:=xB (n:=-1) (ms:=aA K g) (lL bc.c7 f);have O:=yW (n:=-1) (qM (K:=K) f) (qM (K:=K) g);have:=afg (lL bc.c7 f) (b:=aA K g) (yV (bc.le f) (bc.le g)) (fun kv V=>v3 rfl) (ua bc a O) d σ;rw[this,t9 bc.c7 a O];refine dt (fun m=>be.ok (aR m) σ) (pF fun k c=>?_);rw[yU (lL bc.c7 g),oz bc.c7 f c,oz bc.c7 g c,SF,oU];rfl
theorem Gn(bc:dT K)(f:Str->Int){n:Int}(e:∀k∈K,IntMulOk (f k) n)(d:Nat)(σ:ah):bF G (d+2) "power" [aR (aA K f),.int n] σ=.ok (aR (aA K fun k=>f k*n)) σ:=by
 have a:((cZ [] (aA K f) n).map bz).Nodup:=xB sY;have O:=yW (D:=[]) (n:=n) (fun k c=>eO c) (qM (K:=K) f);have:=afh (b:=aA K f) (n:=n) (qL (bc.le f)) (fun kv h=>by have:=iT.mp h;rw[this.2.1];exact e _ this.1) (ua bc a O) d σ;rw[this,t9 bc.c7 a O];refine dt (fun m=>be.ok (aR m) σ) (pF fun k c=>?_);rw[yU (lL bc.c7 f),oz bc.c7 f c,Gm,uR]
theorem afm(bc:dT K)(f:Str->Int){l:Str}(a:l∈K)(d:Nat)(σ:ah):bF G (d+1) "power_in" [aR (aA K f),.str l] σ=.ok (.int (f l)) σ:=by
 refine dw aeo rfl rfl rfl fun c at_=>?_;refine cm (BS (lL bc.c7 f) (qL (bc.le f))) ?_;show left false σ (.ok (.ret ((cp (an4 (aA K f)) l).getD (.int 0)),[]) σ)=_;rw[LH,show (cp (aA K f) l).getD 0=f l from oz bc.c7 f a];exact dP rfl
variable {ls:List Str}
theorem afn{σ:ah}{x:Str}:mX σ .NotIn (.str x) (.lst (ls.map .str))=some (!(ls.any (·==x))):=by
 show ((qh (ls.map an2.str)).map fun ss=>!(ss.any (·==x)))=_;rw[show qh (ls.map an2.str)=some ls by
  induction ls with
  |nil=>rfl
  |cons y l ih=>show (qh (l.map an2.str)).map (y::·)=_;rw[ih];rfl]
 rfl
variable {f:Str->Int}
theorem afo{g:Str->Int}(b:∀k,k∈ls->g k=0)(O:∀k,k∉ls->g k=f k):(aA K f).filter (fun kv=>!(ls.any (·==kv.1)))=aA K g:=by
 unfold aA;generalize hy K=l
 induction l with
 |nil=>rfl
 |cons x l ih=>
  rw[j',j'];by_cases a:x∈ls
  ·have d:¬(g x≠0):=fun q=>q (b x a);by_cases h0:f x=0
   ·have c:¬(f x≠0):=fun q=>q h0;rw[b5 c,b5 d];exact ih
   ·have c:f x≠0:=h0;rw[bl c,b5 d];show alK _ ((x,f x)::_)=_;rw[z5,b5 (by simp[a])];exact ih
  ·rw[O x a];by_cases h0:f x=0
   ·rw[b5 (fun q=>q h0)];exact ih
   ·rw[bl h0];show alK _ ((x,f x)::_)=_;rw[z5,bl (by simp only[ru,Tj];exact fun y e q=>a (dC q▸e)),ih]
open Classical in
theorem PH(f:Str->Int)(ls:List Str):(aA K f).filter (fun kv=>!(ls.any (·==kv.1)))=aA K fun k=>if k∈ls then 0 else f k:=afo (fun k h=>bl h) (fun k h=>b5 h)
theorem fP{α:Type}(l:List α):l.filter (fun V=>true)=l:=List.filter_eq_self.mpr fun V V=>rfl
open Classical in
theorem afp(bc:dT K)(f:Str->Int)(ls:List Str)(d:Nat)(σ:ah):bF G (d+1) "rest_of" [aR (aA K f),.lst (ls.map .str)] σ=.ok (aR (aA K fun k=>if k∈ls then 0 else f k)) σ:=by
 have a:∀g,((aA K g).map aok).length<=1000000:=fun g=>by rw[a0];exact qL (bc.le g)
 refine dw aeq rfl rfl rfl fun c at_=>?_;refine eB.pure aok (fun kv=>!(ls.any (·==kv.1))) aok (aA K f) rfl rfl rfl (fun kv V=>?_) ?_ ?_
 ·exact⟨yN afn ⟨rfl,rfl⟩,fun V=>⟨rfl,rfl⟩⟩
 ·rw[PH];exact b9 (a _)
 ·rw[PH];exact cm (BR (a _)) (dP (hB _))
theorem Go(h:∀k∈K,f k=0):aA K f=[]:=by
 refine List.eq_nil_iff_forall_not_mem.mpr fun kv q=>?_;have:=iT.mp q;exact this.2.2 (this.2.1.trans (h _ this.1))
theorem afq(h:∀k∈K,f k=0)(d:Nat)(σ:ah):bF G (d+1) "split" [aR (aA K f),.int 0] σ=.ok (aR []) σ:=by
 rw[Go h];refine dw Ps rfl rfl rfl fun c at_=>?_;exact dP rfl
theorem afr(f:Str->Int){b:Int}(a:0<b):(aA K fun k=>b*f k).map (fun kv=>(kv.1,kv.2.fdiv b))=aA K f:=by
 unfold aA;generalize hy K=l
 induction l with
 |nil=>rfl
 |cons x l ih=>
  rw[j',j'];dsimp only;by_cases h0:f x=0
  ·rw[b5 (fun q=>q (by rw[h0,aom])),b5 (fun q=>q h0)];exact ih
  ·rw[bl (Int.mul_ne_zero (Ja a) h0),bl h0];show (x,(b*f x).fdiv b)::_=_;rw[Int.mul_fdiv_cancel_left _ (Ja a),ih]
theorem afs(bc:dT K)(f:Str->Int){b:Int}(g:0<b)(d:Nat)(σ:ah):bF G (d+1) "split" [aR (aA K fun k=>b*f k),.int b] σ=.ok (aR (aA K f)) σ:=by
 have a:((aA K fun k=>b*f k).map aok).length<=1000000:=by rw[a0];exact(qL (bc.le _))
 have e:=Ja g;refine dw Ps rfl rfl rfl fun c at_=>?_;refine bI.f (show (b==0)=false from beq_eq_false_iff_ne.mpr e) ?_;refine eB.pure aok (fun V=>true) (fun V=>.bool true) (aA K fun k=>b*f k) rfl rfl rfl (fun kv h=>?_) ?_ ?_
 ·refine⟨⟨rfl,rfl⟩,fun V=>v4 e ⟨rfl,?_⟩⟩;have:=iT.mp h;show an2.bool (kv.2.fmod b==0)=.bool true;rw[this.2.1,Int.mul_fmod_right];rfl
 ·rw[fP,a0,<- a0 (f:=aok)];exact b9 a
 ·rw[fP];refine cm (w:=.v (.bool true)) ?_ ?_
  ·show ((tg ((aA K fun k=>b*f k).map fun V=>an2.bool true)).bind fun ns=>if d' ns.length then some (cL.v (.bool (ns.all id))) else none)=_;have:∀m:cg,tg (m.map fun V=>an2.bool true)=some (m.map fun V=>true):=by
    intro m
    induction m with
    |nil=>rfl
    |cons x m ih=>show (tg (m.map fun V=>an2.bool true)).map (true::·)=_;rw[ih];rfl
   rw[this];show (if d' ((aA K fun k=>b*f k).map fun V=>true).length then some (cL.v (.bool (((aA K fun k=>b*f k).map fun V=>true).all id))) else none)=_;rw[bl (by rw[a0,<- a0 (f:=aok)];exact b9 a)];exact dt (fun b=>some (cL.v (.bool b))) (oZ.mpr fun x i=>by obtain⟨V,V,rfl⟩:=dQ.mp i;rfl)
  ·refine eB.pure aok (fun V=>true) (fun kv=>aok (kv.1,kv.2.fdiv b)) (aA K fun k=>b*f k) rfl rfl rfl (fun kv h=>?_) ?_ ?_
   ·exact⟨⟨rfl,rfl⟩,fun V=>sg e ⟨rfl,rfl⟩⟩
   ·rw[fP,a0,<- a0 (f:=aok)];exact b9 a
   ·rw[fP,show (aA K fun k=>b*f k).map (fun kv=>aok (kv.1,kv.2.fdiv b))=(aA K f).map aok by rw[<- afr f g,hk];rfl];exact cm (BR (by rw[a0];exact qL (bc.le _))) (dP (hB _))
end
variable {ρ:a'}{c:bP}{body:dH}{as ds ks:List Nat}{X:Str->ah->Prop}
theorem dg.listI{t:dq}{K:fJ->a'->ah->Prop}(bJ:α->an2)(xs:List α)(I:List α->a'->ah->Prop)(j:∀d ρ σ,I d ρ σ->cY ρ)(m:l=xs.map bJ)(h0:jm (I []) (gm ks ρ) (bG σ v true))
  (n:∀done x a ρ au,done++x::a=xs->I done ρ au->an3 (iR t (bJ x) ρ) fun aN=>iz c body aN au (sh v (c' σ v) ks K (jm (I (done++[x])))) fun e au=>X e (bG au v (c' σ v)))
  (b:∀ρ au,I xs ρ au->K .next ρ (bG au v (c' σ v))):dg c body t ks l v ρ σ K X:=by
 subst m;refine dg.inv (fun k=>I (xs.take k)) (fun k=>j _) h0 (fun k x f au g h=>?_) fun f au h=>b f au ?_
 ·rw[aob]at g;obtain⟨y,i,rfl⟩:=dh.mp g;have e:xs.take (k+1)=xs.take k++[y]:=by rw[alL,i];rfl
  obtain⟨b,o⟩:=dN.mp i;have:=n (xs.take k) y (xs.drop (k+1)) f au (by rw[<- o,<- aoQ b,I5]) h;rw[<- e]at this;exact this
 ·rw[a0,IL]at h;exact h
theorem aft(σ:ah)(i:Nat)(b:Bool):gb (gb σ i b) i (rN σ i)=σ:=by
 have f:∀o,σ[i]?=some o->∀a,(σ.set i a)[i]?=some a:=fun o h a=>nt a h;cases h:σ[i]? with
 |none=>
  have e:∀b,gb σ i b=σ:=fun b=>by unfold gb;rw[h]
  rw[e,e]
 |some o=>
  cases o with
  |list q l=>
   have e:gb σ i b=σ.set i (.list b l):=by unfold gb;rw[h]
   have c:rN σ i=q:=by unfold rN;rw[h]
   rw[e,c];unfold gb;rw[f _ h];show (σ.set i _).set i (.list q l)=σ;rw[xa,t8 h]
  |dict q l=>
   have e:gb σ i b=σ.set i (.dict b l):=by unfold gb;rw[h]
   have c:rN σ i=q:=by unfold rN;rw[h]
   rw[e,c];unfold gb;rw[f _ h];show (σ.set i _).set i (.dict q l)=σ;rw[xa,t8 h]
  |inst k d=>
   have e:∀b,gb σ i b=σ:=fun b=>by unfold gb;rw[h]
   rw[e,e]
  |ns l=>
   have e:∀b,gb σ i b=σ:=fun b=>by unfold gb;rw[h]
   rw[e,e]
  |tab l=>
   have e:∀b,gb σ i b=σ:=fun b=>by unfold gb;rw[h]
   rw[e,e]
theorem Gp(σ:ah)(v:an2)(b:Bool):bG (bG σ v b) v (c' σ v)=σ:=by
 cases v with
 |ref i=>exact aft σ i b
 |_=>rfl
theorem qF.pure{is:List Nat}{q:List an2×an2×an2}{K:fJ->a'->ah->Prop}(bJ:α->an2)(xs:List α)(R:List α->a')(w:∀d,cY (R d))(m:q.1=xs.map bJ)(h0:bV (gm ks ρ)=bV (R []))
  (z:∀done x i τ v b K',done++x::i=xs->an3 (iR (.many is) (bJ x) (R done)) fun aN=>iz c body aN τ (sh v b ks K' (jm fun g au=>g=R (done++[x])/\au=τ)) fun V V=>False)
  (n:K .next (R xs) σ):qF c body is ks q ρ σ K X:=by
 intro F;obtain⟨l,a,b⟩:=q;have m:l=xs.map bJ:=m;subst m;have H:=OE (c:=c) (body:=body) (t:=.many is) (ks:=ks) (v:=b) (b:=c' (bG σ a true) b) (K:=fun f g au=>f=.next/\g=R xs/\au=bG σ a true) (X:=fun V V=>False)
  (fun k g au=>g=R (xs.take k)/\au=bG (bG σ a true) b true) (fun k g au h=>h.1▸w _) (xs.map bJ) 0 (bV ρ) (R []) (bG (bG σ a true) b true) (qG.symm.trans h0) (fun j x g au A h=>?_) ⟨rfl,rfl⟩ (fun g au h=>?_)
 ·show cO (rO (hX a (c' σ a) (hX b (c' (bG σ a true) b) (g1 (cF c body) (.many is) ks (xs.map bJ) (bV ρ) (bG (bG σ a true) b true))))) K X;generalize hX b (c' (bG σ a true) b) (g1 (cF c body) (.many is) ks (xs.map bJ) (bV ρ) (bG (bG σ a true) b true))=r at H;cases r with
  |bad=>exact H.elim
  |ok p au=>
   obtain⟨B,o,O,s,C,D⟩:=H;obtain⟨f,g⟩:=p;refine⟨B,o,O,?_⟩;subst C D;have s:f=.next:=s
   subst s;show K .next (R xs) (bG (bG σ a true) a (c' σ a))
   rw[Gp];exact n
 ·obtain⟨rfl,rfl⟩:=h;rw[mT,aob]at *
  obtain⟨y,u,rfl⟩:=dh.mp A;have e:xs.take (j+1)=xs.take j++[y]:=by rw[alL,u];rfl
  obtain⟨n,E⟩:=dN.mp u;have:=z (xs.take j) y (xs.drop (j+1)) (bG (bG σ a true) b true) b (c' (bG σ a true) b) (fun f g au=>f=.next/\g=R xs/\au=bG σ a true) (by rw[<- E,<- aoQ n,I5])
  rw[<- e]at this;exact this
 ·obtain⟨rfl,rfl⟩:=h;rw[mT,a0,IL];exact⟨rfl,rfl,Gp _ _ _⟩
theorem qF.listI{is:List Nat}{a:List an2}{K:fJ->a'->ah->Prop}(bJ:α->an2)(xs:List α)(I:List α->a'->ah->Prop)(m:∀d ρ σ,I d ρ σ->cY ρ)(n:l=xs.map bJ)(h0:jm (I []) (gm ks ρ) σ)
  (o:∀done x g ρ au v b K',done++x::g=xs->I done ρ au->an3 (iR (.many is) (bJ x) ρ) fun aN=>iz c body aN au (sh v b ks K' (jm (I (done++[x])))) fun e au=>False)
  (q:∀ρ au,I xs ρ au->K .next ρ au):qF c body is ks (l,.lst a,.none) ρ σ K X:=by
 intro s;have H:=dg.listI (c:=c) (body:=body) (t:=.many is) (ks:=ks) (v:=.none) (ρ:=ρ) (σ:=σ) (K:=fun f i au=>f=.next/\I xs i au) (X:=fun V V=>False) bJ xs I m n h0 (fun done x g ρ au e h=>o done x g ρ au _ _ _ e h) (fun i au h=>⟨rfl,h⟩) s
 show cO (rO (hX (.lst a) _ (hX .none _ (g1 (cF c body) (.many is) ks l (bV ρ) σ)))) K X;have H:cO (hX .none false (g1 (cF c body) (.many is) ks l (bV ρ) σ)) _ _:=H;generalize g1 (cF c body) (.many is) ks l (bV ρ) σ=r at H;cases r with
 |bad=>exact H.elim
 |ok p au=>
  obtain⟨u,j,O,k,w⟩:=H;obtain⟨f,i⟩:=p;have k:f=.next:=k
  subst k;exact⟨u,j,O,q _ _ w⟩
noncomputable def S(x:Nat)(f:(Nat->Int)):Int:=match x with
 |0=>0
 |n+1=>S n f+f n
theorem PI{a b:an2}{r:List an2}(c:eZ σ a=some l)(d:eZ σ b=some r):AF σ true [a,b]=some (CY (fun x y=>an2.tup [x,y]) l r,a,b):=by
 show (eZ σ a).bind _=_;rw[c];show (eZ σ b).map _=_;rw[d];rfl
noncomputable def cx(n:Nat)(f:Nat->Int):List an2:=(bf n).map fun j=>.int (f j)
def gS(K:List Str)(h:Nat)(y:Nat->Str->Int):List an2:=(bf h).map fun j=>aR (aA K (y j))
theorem PJ{n:Nat}(hn:h<=n)(f:Nat->Int)(g:Nat->an2):CY (fun x y=>an2.tup [x,y]) (cx n f) ((bf h).map g)=(bf h).map fun j=>an2.tup [.int (f j),g j]:=by
 unfold cx;apply uQ;intro j;rw[alo,aob,aob,aob];by_cases a:j<h
 ·rw[p9 (an9 a hn),p9 a];rfl
 ·rw[show (bf h)[j]?=none from nN (by rw[an5];exact kC a)];cases (bf n)[j]?<;>rfl
theorem BW{done a:List Nat}{x n:Nat}(h:done++x::a=bf n):done=bf x/\x<n:=by
 have b:done.length<n:=by have:=dt w9 h;rw[bW,aoc,an5]at this;exact this▸TF (TG _)
 have O:x=done.length:=by
  have:(done++x::a)[done.length]?=(bf n)[done.length]?:=by rw[h]
  rw[nP (cu _),p7,p9 b]at this;exact dp this
 have c:done=bf done.length:=by
  have:=dt (List.take done.length) h;rw[I8,List.take_range,Ip (et b)]at this;exact this
 rw[<- O]at c;exact⟨c,O▸b⟩
section
variable {K:List Str}
theorem afu(bc:dT K)(e:Str->Int){n h:Nat}(hn:h<=n)(f:Nat->Int)(y:Nat->Str->Int)(m:∀j<h,∀k∈K,IntMulOk (y j k) (f j)){a b:an2}{σ:ah}(o:eZ σ a=some (cx n f))(p:eZ σ b=some (gS K h y))(i:e8 a=false)(l:e8 b=false)(d:Nat) :
  bF G (d+3) "needed_for" [a,aR (aA K e),b] σ=.ok (aR (aA K fun k=>0-e k-S h fun j=>y j k*f j)) σ:=by
 refine dw aer rfl rfl (mz i (mz rfl (mz l rfl))) fun c at_=>?_;have q:aR []=aR (aA K fun V=>0):=by rw[Go fun V V=>rfl]
 have nu:=uc bc (fun V=>0) e d σ;rw[<- q]at nu;refine aW at_ nu ?_;refine an3.mk (PI o p) ?_;refine qF.pure (fun j=>an2.tup [.int (f j),aR (aA K (y j))]) (bf h) (fun done=>.eV 6 [some a,some (aR (aA K e)),some b,some (aR (aA K fun k=>0-e k-S done.length fun j=>y j k*f j)),none,none]) (fun d=>pD (by show (bif e8 a then false else _)=true;rw[i];show (bif e8 b then false else _)=true;rw[l];rfl)) (PJ hn f _) ?_ (fun done j s τ v b' K' r=>?_) ?_
 ·rw[show (fun k=>0-e k-S ([]:List Nat).length fun j=>y j k*f j)=fun k=>0-e k by funext k;exact CR _];rfl
 ·obtain⟨g,O⟩:=BW r;refine aW at_ (Gn bc (y j) (m j O) d τ) ?_;refine aW at_ (uc bc _ _ d τ) ?_;refine⟨_,?_,rfl,rfl⟩;rw[show (fun k=>0-e k-S (done++[j]).length fun j=>y j k*f j)=fun k=>(0-e k-S done.length fun j=>y j k*f j)-y j k*f j by
   funext k;rw[bW,g,an5];show 0-e k-(S j (fun j=>y j k*f j)+y j k*f j)=_;exact(gW (Int.sub_sub (0-_) _ _))]
  rfl
 ·rw[an5];exact dP (hB _)
theorem afv(bc:dT K){n h:Nat}(hn:h<=n)(f:Nat->Int)(y:Nat->Str->Int)(l:∀j<h,∀k∈K,IntMulOk (y j k) (f j)){a b:an2}{σ:ah}(m:eZ σ a=some (cx n f))(o:eZ σ b=some (gS K h y))(g:e8 a=false)(i:e8 b=false)(d:Nat) :
  bF G (d+3) "told_by" [a,b] σ=.ok (aR (aA K fun k=>S h fun j=>y j k*f j)) σ:=by
 refine dw aet rfl rfl (mz g (mz i rfl)) fun c at_=>?_;have p:aR []=aR (aA K fun V=>0):=by rw[Go fun V V=>rfl]
 refine an3.mk (PI m o) ?_;refine qF.pure (fun j=>an2.tup [.int (f j),aR (aA K (y j))]) (bf h) (fun done=>.eV 5 [some a,some b,some (aR (aA K fun k=>S done.length fun j=>y j k*f j)),none,none]) (fun d=>pD (by show (bif e8 a then false else _)=true;rw[g];show (bif e8 b then false else _)=true;rw[i];rfl)) (PJ hn f _) ?_ (fun done j r τ v b' K' q=>?_) ?_
 ·show _=bV (.eV 5 [some a,some b,some (aR (aA K fun V=>0)),none,none]);rw[<- p];rfl
 ·obtain⟨e,O⟩:=BW q;refine aW at_ (Gn bc (y j) (l j O) d τ) ?_;refine aW at_ (PG bc _ _ d τ) ?_;refine⟨_,?_,rfl,rfl⟩;rw[show (fun k=>S (done++[j]).length fun j=>y j k*f j)=fun k=>(S done.length fun j=>y j k*f j)+y j k*f j by
   funext k;rw[bW,e,an5];rfl]
  rfl
 ·rw[an5];exact dP (hB _)
end
noncomputable def dK(y:List Str)(q:(Str->Int)):Int:=match y with
 | []=>0
 |x::l=>q x+dK l q
theorem Gq(l r:List Str)(q:Str->Int):dK (l++r) q=dK l q+dK r q:=by
 induction l with
 |nil=>exact(uR _).symm
 |cons x l ih=>show q x+dK (l++r) q=q x+dK l q+dK r q;rw[ih];exact gW (w4 _ _ _)
theorem afw{l r:List Str}(h:l.Perm r)(q:Str->Int):dK l q=dK r q:=by
 induction h with
 |nil=>rfl
 |cons x V ih=>show q x+_=q x+_;rw[ih]
 |swap x y l=>show q y+(q x+_)=q x+(q y+_);exact aj3 _ _ _
 |trans V V a b=>exact a.trans b
theorem BX(n:Nat)(L:Nat->Str)(q:Str->Int):dK ((bf n).map L) q=S n fun i=>q (L i):=by
 induction n with
 |zero=>rfl
 |succ n ih=>
  rw[z6,hS,Gq,ih];show S n _+(q (L n)+0)=S n _+q (L n);rw[aod]
def hO(Hf:Str->cg)(ms:cg):cg:=ms.foldl (fun D kv=>cZ D (Hf kv.1) kv.2) []
theorem PK(Hf:Str->cg)(ms:cg)(kv:Str×Int):hO Hf (ms++[kv])=cZ (hO Hf ms) (Hf kv.1) kv.2:=by unfold hO;rw[Di];rfl
section
variable {K:List Str}
theorem PL{Hf:Str->cg}(ms:cg)(c:∀kv∈ms,((Hf kv.1).map bz).Nodup)(O:∀kv∈ms,∀k∈(Hf kv.1).map bz,k∈K):∀D:cg,(D.map bz).Nodup->(∀k∈D.map bz,k∈K) ->
  ((ms.foldl (fun D kv=>cZ D (Hf kv.1) kv.2) D).map bz).Nodup/\(∀k∈(ms.foldl (fun D kv=>cZ D (Hf kv.1) kv.2) D).map bz,k∈K) /\
  ∀o,val (ms.foldl (fun D kv=>cZ D (Hf kv.1) kv.2) D) o=val D o+(ms.map fun kv=>val (Hf kv.1) o*kv.2).foldr (·+·) 0:=by
 induction ms with
 |nil=>exact fun D a b=>⟨a,b,fun o=>(aod _).symm⟩
 |cons kv ms ih=>
  intro D a b;have d:=ih (fun x e=>c x (dM _ e)) (fun x e=>O x (dM _ e)) (cZ D (Hf kv.1) kv.2) (xB a) (yW b (O kv cW));refine⟨d.1,d.2.1,fun o=>(d.2.2 o).trans ?_⟩;rw[yU (c kv cW),gu,List.foldr_cons,w4]
theorem afx(f:Str->Int)(q:Str->Int):((aA K f).map fun kv=>q kv.1*kv.2).foldr (·+·) 0=dK K fun l=>q l*f l:=by
 rw[<- afw (kO K)];unfold aA;generalize hy K=l
 induction l with
 |nil=>rfl
 |cons x l ih=>
  rw[j'];show _=q x*f x+dK l _;by_cases h0:f x=0
  ·have a:¬(f x≠0):=fun q=>q h0;rw[b5 a,h0,aom,uR];exact ih
  ·have a:f x≠0:=h0;rw[bl a];show q x*f x+_=_;rw[ih]
section
variable {K':List Str}
theorem PM(bc:dT K')(f:Str->Int)(H:Str->Str->Int):kP (hO (fun l=>aA K' (H l)) (aA K f))=aA K' fun o=>dK K fun l=>H l o*f l:=by
 have a:=PL (K:=K') (Hf:=fun l=>aA K' (H l)) (aA K f) (fun kv V=>lL bc.c7 _) (fun kv V=>qM _) [] sY (fun k b=>eO b);refine(t9 (D:=hO (fun l=>aA K' (H l)) (aA K f)) bc.c7 a.1 a.2.1).trans ?_;refine pF fun o c=>(a.2.2 o).trans ?_;rw[Gm,uR,<- afx f fun l=>H l o];refine dt (List.foldr _ _) (i0 fun kv d=>?_);rw[oz bc.c7 _ c]
theorem BY(bc:dT K')(H:Str->Str->Int)(done:cg):(hO (fun l=>aA K' (H l)) done).length<hz:=by
 have:=PL (K:=K') (Hf:=fun l=>aA K' (H l)) done (fun kv V=>lL bc.c7 _) (fun kv V=>qM _) [] sY (fun k a=>eO a);exact ua bc this.1 this.2.1
theorem afy(H:Str->Str->Int){E:List (Str×an2)}{v:an2}{τ:ah}(a:cR τ v=.ba E){l:Str}(b:(cp E l).getD (.tup [.tup [.str l,.int 1]])=aR (aA K' (H l))):ma τ .get v [.str l,.tup [.tup [.str l,.int 1]]]=some (aR (aA K' (H l)),τ):=by
 show (qg (cR _ v)).bind _=_;rw[a];show some ((cp E l).getD (.tup [.tup [.str l,.int 1]]),_)=_;rw[b]
theorem PN(bc:dT K')(f:Str->Int)(H:Str->Str->Int){E:List (Str×an2)}{v:an2}{σ:ah}(h:∀o,cR (σ++[o]) v=.ba E)(q:e8 v=false)
  (r:∀l∈K,f l≠0->(cp E l).getD (.tup [.tup [.str l,.int 1]])=aR (aA K' (H l))) (s:∀l∈K,f l≠0->∀o∈K',IntMulOk (H l o) (f l)) (d:Nat) :
  bF G (d+2) "_law_filled" [aR (aA K f),v] σ=.ok (aR (aA K' fun o=>dK K fun l=>H l o*f l)) σ:=by
 refine dw aeF rfl rfl (mz rfl (mz q rfl)) fun c at_=>?_;refine dg.nj aok (aA K f) (fun done=>σ++[.dict false (an4 (hO (fun l=>aA K' (H l)) done))]) rfl rfl ?_ ?_
 ·intro done kv j k;have a:=iT.mp (show kv∈aA K f from k▸ho _ cW);have h0:(σ++[bb.dict false (an4 (hO (fun l=>aA K' (H l)) done))])[σ.length]?=some (.dict false (an4 (hO (fun l=>aA K' (H l)) done))):=gQ;refine kq (by show (qg (cR _ v)).isSome=_;rw[h];rfl) ?_;refine aor (afy H (h _) (r _ a.1 (a.2.1▸a.2.2))) ?_;refine dg.nj aok (aA K' (H kv.1)) (fun dn=>(σ++[bb.dict false (an4 (hO (fun l=>aA K' (H l)) done))]).set σ.length (.dict false (an4 (cZ (hO (fun l=>aA K' (H l)) done) dn kv.2)))) rfl (t8 h0).symm ?_ ?_
  ·intro dn m rs g;have p:=iT.mp (show m∈aA K' (H kv.1) from g▸ho _ cW);obtain⟨e,O⟩:=Gi (n:=kv.2) h0 (yV (BY bc H done) (bc.le (H kv.1))) g;refine kq (Gh e) ?_;refine aor (Gg e m.1) ?_;refine jU (by rw[p.2.1,a.2.1];exact s _ a.1 (a.2.1▸a.2.2) _ p.1) ?_;refine gR O ?_;refine mA (S:=fun dn=>(σ++[bb.dict false (an4 (hO (fun l=>aA K' (H l)) done))]).set σ.length (.dict false (an4 (cZ (hO (fun l=>aA K' (H l)) done) dn kv.2)))) g ?_;rfl
  ·rw[qI,<- PK (fun l=>aA K' (H l))];refine mA (S:=fun done=>σ++[.dict false (an4 (hO (fun l=>aA K' (H l)) done))]) k ?_;rfl
 ·have t:=Gf (σ:=σ++[.dict false (an4 (hO (fun l=>aA K' (H l)) (aA K f)))]) (i:=σ.length) (b:=false) (D:=hO (fun l=>aA K' (H l)) (aA K f)) gQ (BY bc H _) d;refine aW at_ t ?_;rw[PM bc];exact qH (hB _)
theorem afz(bc:dT K')(f:Str->Int)(H:Str->Str->Int){E:List (Str×an2)}(k:∀l∈K,f l≠0->(cp E l).getD (.tup [.tup [.str l,.int 1]])=aR (aA K' (H l)))(m:∀l∈K,f l≠0->∀o∈K',IntMulOk (H l o) (f l))(d:Nat)(σ:ah) :
  bF G (d+2) "filled" [aR (aA K f),.ba E] σ=.ok (aR (aA K' fun o=>dK K fun l=>H l o*f l)) σ:=by
 refine dw aeg rfl rfl rfl fun c at_=>?_;refine dg.nj aok (aA K f) (fun done=>σ++[.dict false (an4 (hO (fun l=>aA K' (H l)) done))]) rfl rfl ?_ ?_
 ·intro done kv h j;have a:=iT.mp (show kv∈aA K f from j▸ho _ cW);have g:=BU (ms:=aA K' (H kv.1)) (n:=kv.2) (fun q e=>by have e:=iT.mp e;rw[e.2.1,a.2.1];exact m _ a.1 (a.2.1▸a.2.2) _ e.1) d (σ:=σ++[.dict false (an4 (hO (fun l=>aA K' (H l)) done))]) (i:=σ.length) (D:=hO (fun l=>aA K' (H l)) done) gQ (yV (BY bc H done) (bc.le (H kv.1)));rw[qI,<- PK (fun l=>aA K' (H l))]at g;rw[<- k _ a.1 (a.2.1▸a.2.2)]at g;refine aW at_ g ?_;refine mA (S:=fun done=>σ++[.dict false (an4 (hO (fun l=>aA K' (H l)) done))]) j ?_;rfl
 ·have p:=yT (σ:=σ++[.dict false (an4 (hO (fun l=>aA K' (H l)) (aA K f)))]) (i:=σ.length) (b:=false) (D:=hO (fun l=>aA K' (H l)) (aA K f)) gQ (BY bc H _) d;refine aW at_ p ?_;rw[PM bc];exact qH (hB _)
end
end
theorem cV{n:Nat}{f g:Nat->Int}(h:∀j<n,f j=g j):S n f=S n g:=by
 induction n with
 |zero=>rfl
 |succ n ih=>show S n f+f n=S n g+g n;rw[ih fun j a=>h j (j7 a),h n (aog n)]
theorem pG(n:Nat)(f g:Nat->Int):(S n fun j=>f j+g j)=S n f+S n g:=by
 induction n with
 |zero=>rfl
 |succ n ih=>show (S n fun j=>f j+g j)+(f n+g n)=S n f+f n+(S n g+g n);rw[ih];exact Uj
theorem ue(n:Nat)(c:Int)(f:Nat->Int):(S n fun j=>c*f j)=c*S n f:=by
 induction n with
 |zero=>exact(aom c).symm
 |succ n ih=>show (S n fun j=>c*f j)+c*f n=c*(S n f+f n);rw[ih,Dj]
theorem mC{n:Nat}{f:Nat->Int}(h:∀j<n,f j=0):S n f=0:=by
 induction n with
 |zero=>rfl
 |succ n ih=>show S n f+f n=0;rw[ih fun j a=>h j (j7 a),h n (aog n)];rfl
theorem k8{n c:Nat}(ae:c<n)(a:Int):(S n fun j=>if j=c then a else 0)=a:=by
 induction n with
 |zero=>exact dk ae (nM _)
 |succ n ih=>
  show (S n fun j=>if j=c then a else 0)+(if n=c then a else 0)=a;by_cases h:n=c
  ·rw[bl h,mC fun j b=>b5 (gV (h▸b)),uR]
  ·rw[b5 h,ih (CU (Sx ae) (eD h)),aod]
theorem yY(n:Nat)(q:Int)(f g:Nat->Int):(S n fun j=>f j+q*g j)=S n f+q*S n g:=by rw[pG,ue]
theorem PO(n m:Nat)(f:Nat->Nat->Int):(S n fun i=>S m fun j=>f i j)=S m fun j=>S n fun i=>f i j:=by
 induction n with
 |zero=>exact(mC fun V V=>rfl).symm
 |succ n ih=>show (S n fun i=>S m fun j=>f i j)+S m (fun j=>f n j)=S m fun j=>(S n fun i=>f i j)+f n j;rw[pG,ih]
noncomputable def ck(i j:Nat):Int:=if i=j then 1 else 0
noncomputable abbrev a4:=Nat->Nat->Int
structure eJ (n m:Nat)(A P F B:a4):Prop where
 k9:∀i<m,∀k<n,P i k=S n fun j=>A i j*F j k
 qN:∀i<n,∀k<n,(S n fun j=>B i j*F j k)=ck i k
 fb:∀i<n,∀k<n,(S n fun j=>F i j*B j k)=ck i k
noncomputable def tk(x b:Nat)(q:Int)(P:a4):a4:=fun i j=>if j=x then P i x-q*P i b else P i j
noncomputable def jn(x b:Nat)(q:Int)(B:a4):a4:=fun i j=>if i=b then B b j+q*B x j else B i j
theorem wc(x b:Nat)(q:Int)(P:a4)(i:Nat):tk x b q P i x=P i x-q*P i b:=bl rfl
theorem qO{x:Nat}(h:j≠x)(b:Nat)(q:Int)(P:a4)(i:Nat):tk x b q P i j=P i j:=b5 h
theorem Gr(x b:Nat)(q:Int)(B:a4)(j:Nat):jn x b q B b j=B b j+q*B x j:=bl rfl
theorem wd{b:Nat}(h:i≠b)(x:Nat)(q:Int)(B:a4)(j:Nat):jn x b q B i j=B i j:=b5 h
theorem yZ(i:Nat):ck i i=1:=bl rfl
theorem pH(h:i≠j):ck i j=0:=b5 h
variable {A bY F aY P aE:a4}
theorem eJ.take{n m:Nat}{B:a4}(h:eJ n m A P F B){x b:Nat}(r:x<n)(l:b<n)(c:x≠b)(q:Int):eJ n m A (tk x b q P) (tk x b q F) (jn x b q B):=by
 refine⟨fun i hi k d=>?_,fun i hi k d=>?_,fun i hi k d=>?_⟩
 ·by_cases e:k=x
  ·subst e;rw[cV (f:=fun j=>A i j*tk k b q F j k) (g:=fun j=>A i j*F j k+(-q)*(A i j*F j b)) fun j V=>by rw[wc,w1,uL,w3,z9],yY,wc,h.k9 i hi k d,h.k9 i hi b l,z9,<- w3]
  ·rw[qO e,h.k9 i hi k d];exact cV fun j V=>by rw[qO e]
 ·have t:∀o a,o≠b->a≠x->(S n fun j=>jn x b q B o j*tk x b q F j a)=S n fun j=>B o j*F j a:=fun o a p O=>cV fun j V=>by rw[wd p,qO O]
  have L:∀a<n,(S n fun j=>jn x b q B b j*F j a)=ck b a+q*ck x a:=fun a s=>by
   rw[<- h.qN b l a s,<- h.qN x r a s,<- yY];exact cV fun j V=>by rw[Gr,TH,sR]
  have M:∀g:Nat->Int,(S n fun j=>g j*tk x b q F j x)=(S n fun j=>g j*F j x)+(-q)*S n fun j=>g j*F j b:=fun g=>by
   rw[<- yY];exact cV fun j V=>by rw[wc,w1,uL,w3,z9]
  by_cases e:i=b
  ·subst e;by_cases e':k=x
   ·subst e';rw[M,L k d,L i hi,yZ,yZ,pH (eD c),pH c,aom,oU,aod,oU];exact Int.add_neg_cancel_right 0 _
   ·rw[cV (g:=fun j=>jn x i q B i j*F j k) fun j V=>by rw[qO e'],L k d,pH (fun w=>e' w.symm),aom,aod]
  ·by_cases e':k=x
   ·subst e';rw[cV (g:=fun j=>B i j*tk k b q F j k) fun j V=>by rw[wd e],M,h.qN i hi k d,h.qN i hi b l,pH e,aom,aod]
   ·rw[t i k e e',h.qN i hi k d]
 ·rw[<- h.fb i hi k d,cV (g:=fun j=>(F i j*B j k+(if j=x then -(q*F i b*B x k) else 0))+(if j=b then q*F i b*B x k else 0)) fun j V=>?_,pG,pG,k8 r,k8 l]
  ·exact aj0 _ _
  ·by_cases e:j=x
   ·subst e;rw[wc,wd c,bl rfl,b5 c,zL];exact gW (aod (_ + -_))
   ·by_cases e':j=b
    ·subst e';rw[qO e,Gr,b5 e,bl rfl,Dj,aod,uL (F i j),sR]
    ·rw[qO e,wd e',b5 e,b5 e'];exact JN
noncomputable def b3(a b j:Nat):Nat:=if j=a then b else if j=b then a else j
theorem uf(a b:Nat):b3 a b a=b:=bl rfl
theorem we{b:Nat}(h:b≠a):b3 a b b=a:=(b5 h).trans (bl rfl)
theorem pI{b:Nat}(h:j≠a)(O:j≠b):b3 a b j=j:=(b5 h).trans (b5 O)
theorem oA{b n:Nat}(c:a<n)(d:b<n)(e:j<n):b3 a b j<n:=by unfold b3;split;exact d;split;exact c;exact e
theorem Gs{b:Nat}(h:a≠b)(j:Nat):b3 a b (b3 a b j)=j:=by
 by_cases e:j=a
 ·subst e;rw[uf,we h.symm]
 ·by_cases c:j=b
  ·subst c;rw[we h.symm,uf]
  ·rw[pI e c,pI e c]
theorem afA{n b:Nat}(h:a<n)(i:b<n)(d:a≠b)(f:Nat->Int):(S n fun j=>f (b3 a b j))=S n f:=by
 rw[cV (g:=fun j=>(f j+(if j=a then f b-f a else 0))+(if j=b then f a-f b else 0)) fun j V=>?_,pG,pG,k8 h,k8 i]
 ·exact by lia
 ·by_cases e:j=a
  ·subst e;rw[uf,bl rfl,b5 d];exact by lia
  ·by_cases c:j=b
   ·subst c;rw[we d.symm,b5 e,bl rfl];exact by lia
   ·rw[pI e c,b5 e,b5 c];exact JN
theorem eJ.swap{n m:Nat}{B:a4}(h:eJ n m A P F B){a b:Nat}(d:a<n)(f:b<n)(g:a≠b):eJ n m A (fun i j=>P i (b3 a b j)) (fun i j=>F i (b3 a b j)) (fun i j=>B (b3 a b i) j):=by
 refine⟨fun i hi k c=>h.k9 i hi _ (oA d f c),fun i hi k c=>(h.qN _ (oA d f hi) _ (oA d f c)).trans ?_,fun i hi k c=>?_⟩
 ·by_cases e:i=k
  ·subst e;rw[yZ,yZ]
  ·rw[pH e,pH fun q=>e (by rw[<- Gs g i,q,Gs g])]
 ·rw[<- h.fb i hi k c];exact afA d f g fun j=>F i j*B j k
noncomputable def gn(a:Nat)(P:a4):a4:=fun i j=>if j=a then 0-P i j else P i j
noncomputable def lc(a:Nat)(B:a4):a4:=fun i j=>if i=a then 0-B i j else B i j
theorem Gu(n:Nat)(f:Nat->Int):(S n fun j=>0-f j)=0-S n f:=by
 have:=ue n (-1) f;rw[cV (g:=fun j=>0-f j) fun j V=>(JM)]at this;rw[this];exact JM
theorem eJ.turn{n m:Nat}{B:a4}(h:eJ n m A P F B)(a:Nat):eJ n m A (gn a P) (gn a F) (lc a B):=by
 have h0:∀x y:Int,x*(0-y)=0-x*y:=fun x y=>by rw[w1,aom]
 have c:∀x y:Int,(0-x)*y=0-x*y:=fun x y=>by rw[zL,g0]
 refine⟨fun i hi k b=>?_,fun i hi k b=>?_,fun i hi k b=>?_⟩
 ·unfold gn;by_cases e:k=a
  ·rw[bl e,h.k9 i hi k b,<- Gu];exact cV fun j V=>by rw[bl e,h0]
  ·rw[b5 e,h.k9 i hi k b];exact cV fun j V=>by rw[b5 e]
 ·rw[<- h.qN i hi k b];by_cases e:i=a
  ·by_cases d:k=a
   ·exact cV fun j V=>by unfold lc gn;rw[bl e,bl d,h0,c];exact JL
   ·have f:i≠k:=fun q=>d (q▸e);have:=h.qN i hi k b;rw[pH f]at this;rw[this,cV (g:=fun j=>0-B i j*F j k) fun j V=>by unfold lc gn;rw[bl e,b5 d,c],Gu,this];rfl
  ·by_cases d:k=a
   ·have f:i≠k:=fun q=>e (q▸d);have:=h.qN i hi k b;rw[pH f]at this;rw[this,cV (g:=fun j=>0-B i j*F j k) fun j V=>by unfold lc gn;rw[b5 e,bl d,h0],Gu,this];rfl
   ·exact cV fun j V=>by unfold lc gn;rw[b5 e,b5 d]
 ·rw[<- h.fb i hi k b];refine cV fun j V=>?_;unfold gn lc;by_cases e:j=a
  ·rw[bl e,bl e,h0,c];exact JL
  ·rw[b5 e,b5 e]
structure bh (n m fs:Nat)(A pJ qP P F B:a4):Prop where
 inv:eJ n m A P F B
 Gw:∀i j,j<fs->P i j=pJ i j
 BZ:∀i j,i<fs->B i j=qP i j
 wg:∀i,(∀j,fs<=j->j<n->pJ i j=0)->∀j,fs<=j->j<n->P i j=0
section
variable {n m fs:Nat}{A pJ qP P F B:a4}
theorem bh.eV(h:eJ n m A P F B):bh n m fs A P B P F B:=⟨h,fun V V V=>rfl,fun V V V=>rfl,fun V h=>h⟩
theorem bh.take(h:bh n m fs A pJ qP P F B){x b:Nat}(g:fs<=x)(fb:fs<=b)(k:x<n)(d:b<n)(c:x≠b)(q:Int):bh n m fs A pJ qP (tk x b q P) (tk x b q F) (jn x b q B):=
 ⟨h.inv.take k d c q,fun i j f=>(qO (uU g f) b q P i).trans (h.Gw i j f),fun i j hi=>(wd (uU fb hi) x q B j).trans (h.BZ i j hi),fun i h0 j a O=>by
  by_cases e:j=x
  ·subst e;rw[wc,h.wg i h0 j a O,h.wg i h0 b fb d,aom];rfl
  ·rw[qO e,h.wg i h0 j a O]⟩
theorem bh.swap(h:bh n m fs A pJ qP P F B){a b:Nat}(fa:fs<=a)(fb:fs<=b)(e:a<n)(f:b<n)(g:a≠b):bh n m fs A pJ qP (fun i j=>P i (b3 a b j)) (fun i j=>F i (b3 a b j)) (fun i j=>B (b3 a b i) j):=
 ⟨h.inv.swap e f g,fun i j c=>by show P i (b3 a b j)=_;rw[pI (uU fa c) (uU fb c)];exact h.Gw i j c,fun i j hi=>by show B (b3 a b i) j=_;rw[pI (uU fa hi) (uU fb hi)];exact h.BZ i j hi,
  fun i h0 j d O=>by
  refine h.wg i h0 _ ?_ (oA e f O);unfold b3;split;exact fb;split;exact fa;exact d⟩
theorem bh.turn(h:bh n m fs A pJ qP P F B){a:Nat}(fa:fs<=a):bh n m fs A pJ qP (gn a P) (gn a F) (lc a B):=
 ⟨h.inv.turn a,fun i j c=>by show (if j=a then _ else _)=_;rw[b5 (JK fa c)];exact h.Gw i j c,fun i j hi=>by show (if i=a then _ else _)=_;rw[b5 (JK fa hi)];exact h.BZ i j hi,
  fun i h0 j b O=>by show (if j=a then _ else _)=_;rw[h.wg i h0 j b O];split<;>rfl⟩
structure iA (n m W:Nat)(P F B:a4):Prop where
 p:∀i<m,∀j<n,(P i j).natAbs<=W
 f:∀i<n,∀j<n,(F i j).natAbs<=W
 b:∀i<n,∀j<n,(B i j).natAbs<=W
variable {W:Nat}
theorem iA.mono{c:Nat}(h:iA n m W P F B)(aF:W<=c):iA n m c P F B:=⟨fun i hi j a=>ax (h.p i hi j a) aF,fun i hi j a=>ax (h.f i hi j a) aF,fun i hi j a=>ax (h.b i hi j a) aF⟩
theorem B0{x y q:Int}(b:x.natAbs<=W)(c:y.natAbs<=W):(x-q*y).natAbs<=W*(1+q.natAbs)/\(x+q*y).natAbs<=W*(1+q.natAbs):=by
 have a:(q*y).natAbs<=W*q.natAbs:=by rw[qb,sZ];exact mU _ c
 rw[TJ,alM];exact⟨ax (zO _ _) (aG b a),ax (z' _ _) (aG b a)⟩
theorem iA.take(h:iA n m W P F B){x b:Nat}(c:x<n)(d:b<n)(q:Int):iA n m (W*(1+q.natAbs)) (tk x b q P) (tk x b q F) (jn x b q B):=by
 have aF:W<=W*(1+q.natAbs):=o1 _ (by exact Ui);refine⟨fun i hi j a=>?_,fun i hi j a=>?_,fun i hi j a=>?_⟩
 ·unfold tk;split;exact(B0 (h.p i hi x c) (h.p i hi b d)).1;exact ax (h.p i hi j a) aF
 ·unfold tk;split;exact(B0 (h.f i hi x c) (h.f i hi b d)).1;exact ax (h.f i hi j a) aF
 ·unfold jn;split;exact(B0 (h.b b d j a) (h.b x c j a)).2;exact ax (h.b i hi j a) aF
theorem iA.swap(h:iA n m W P F B){a b:Nat}(d:a<n)(e:b<n):iA n m W (fun i j=>P i (b3 a b j)) (fun i j=>F i (b3 a b j)) (fun i j=>B (b3 a b i) j):=
 ⟨fun i hi j c=>h.p i hi _ (oA d e c),fun i hi j c=>h.f i hi _ (oA d e c),fun i hi j c=>h.b _ (oA d e hi) j c⟩
theorem iA.turn(h:iA n m W P F B)(a:Nat):iA n m W (gn a P) (gn a F) (lc a B):=by
 have e:∀x:Int,(0-x).natAbs=x.natAbs:=fun x=>(by rw[CS,wY]);refine⟨fun i hi j c=>?_,fun i hi j c=>?_,fun i hi j c=>?_⟩
 ·unfold gn;split;rw[e];exact h.p i hi j c;exact h.p i hi j c
 ·unfold gn;split;rw[e];exact h.f i hi j c;exact h.f i hi j c
 ·unfold lc;split;rw[e];exact h.b i hi j c;exact h.b i hi j c
end
noncomputable def PP(fs:Nat)(x:Nat)(v:(Nat->Int)):Nat:=match x with
 |0=>1
 |n+1=>if fs<=n then PP fs n v*((v n).natAbs+1) else PP fs n v
theorem Gx(n:Nat)(f:Nat->Int):(cx n f).length=n:=by unfold cx;rw[a0,an5]
theorem afB{n:Nat}(h:j<n)(f:Nat->Int):(cx n f)[j]?=some (.int (f j)):=by unfold cx;rw[aob,p9 h];rfl
theorem B1{n:Nat}(g:Nat->α)(v:α):((bf n).map g).set j v=(bf n).map fun k=>if k=j then v else g k:=by
 apply uQ;intro k;rw[I7,aob,aob,a0,an5];by_cases a:k<n
 ·rw[p9 a];by_cases e:j=k
  ·subst e;rw[bl rfl,bl a];exact dt some (bl rfl).symm
  ·rw[b5 e];exact dt some (b5 (fun q=>e q.symm)).symm
 ·rw[nN (by rw[an5];exact kC a)];by_cases e:j=k
  ·subst e;rw[bl rfl,b5 a];rfl
  ·rw[b5 e];rfl
theorem afC{n:Nat}(f:Nat->Int)(v:Int):(cx n f).set j (.int v)=cx n fun k=>if k=j then v else f k:=by
 unfold cx;rw[B1];refine i0 fun k V=>?_;show (if k=j then an2.int v else an2.int (f k))=an2.int (if k=j then v else f k);by_cases e:k=j
 ·rw[bl e,bl e]
 ·rw[b5 e,b5 e]
theorem ug{n:Nat}{f g:Nat->Int}(h:∀j<n,f j=g j):cx n f=cx n g:=i0 fun j a=>by rw[h j (eE.mp a)]
theorem mD(h:σ[a]?=some (.list b l))(c:j<=1000000)(d:l[j]?=some v):eQ σ (.ref a) (.int j)=some (.v v):=by
 unfold eQ;rw[qJ h];exact Lx c d
theorem lf{n:Nat}{f:Nat->Int}(h:σ[a]?=some (.list b (cx n f)))(hn:n<=1000)(c:j<n):eQ σ (.ref a) (.int j)=some (.v (.int (f j))):=mD h (jz hn c) (afB c f)
theorem B2(h:σ[a]?=some (.list false l))(b:l.length<=1000)(c:j<l.length):setAt σ (.ref a) (.int j) v=some (σ.set a (.list false (l.set j v))):=by
 show (jA σ a).bind _=_;rw[show jA σ a=some l by unfold jA;rw[h]];exact bl ⟨(rp _),(Jz c),b9 (i6 b)⟩
theorem y1{n:Nat}{f:Nat->Int}(h:σ[a]?=some (.list false (cx n f)))(hn:n<=1000)(b:j<n)(v:Int):setAt σ (.ref a) (.int j) (.int v)=some (σ.set a (.list false (cx n fun k=>if k=j then v else f k))):=by
 rw[B2 h (by rw[Gx];exact hn) (by rw[Gx];exact b),afC]
theorem jV{b:Nat}{o:bb}(h:a≠b):(σ.set a o)[b]?=σ[b]?:=w6 h
def ft(σ:ah)(as:List Nat)(n:Nat)(g:Nat->Nat->Int):ah:=as.foldl (fun σ a=>σ.set a (.list false (cx n (g a)))) σ
theorem Gy(σ:ah)(as:List Nat)(a n:Nat)(g:Nat->Nat->Int):ft σ (as++[a]) n g=(ft σ as n g).set a (.list false (cx n (g a))):=by unfold ft;rw[Di];rfl
theorem afD(σ:ah)(as:List Nat)(n:Nat)(g:Nat->Nat->Int):(ft σ as n g).length=σ.length:=by
 unfold ft
 induction as generalizing σ with
 |nil=>rfl
 |cons a as ih=>rw[sU,ih,lY]
theorem nv{n:Nat}{g:Nat->Nat->Int}(h:a∉as):(ft σ as n g)[a]?=σ[a]?:=by
 unfold ft
 induction as generalizing σ with
 |nil=>rfl
 |cons b as ih=>
  rw[sU,ih fun q=>h (dM _ q),jV (show b≠a from fun q=>h (q▸cW))]
theorem PQ{n:Nat}{g:Nat->Nat->Int}(h:a∈as)(d:a<σ.length):(ft σ as n g)[a]?=some (.list false (cx n (g a))):=by
 unfold ft
 induction as generalizing σ with
 |nil=>cases h
 |cons b as ih=>
  rw[sU];by_cases c:a∈as
  ·exact ih c (by rw[lY];exact d)
  ·have e:a=b:=(dG.mp h).resolve_right c;subst e;exact(nv c).trans (zS d)
structure dy (keep:Nat->Prop)(s dn b0 b1 lb n m:Nat)(ra fa:Nat->Nat)(σ:ah)(ce:Nat->Nat)(P F B:a4):Prop where
 ha:∀a,keep a->a<σ.length
 eT:keep 0
 kp:keep s/\keep dn/\keep b0/\keep b1
 tab:∃q,σ[0]?=some (.tab q)
 hs:σ[s]?=some (.inst "Columns" dn)
 hd:σ[dn]?=some (.ns [("rows",.ref b0),("forth",.ref b1),("back",.ref lb)])
 hr:σ[b0]?=some (.list false ((bf m).map fun i=>.ref (ra i)))
 hf:σ[b1]?=some (.list false ((bf n).map fun i=>.ref (fa i)))
 ab:σ[lb]?=some (.list false ((bf n).map fun i=>.ref (ce i)))
 rw:∀i<m,σ[ra i]?=some (.list false (cx n (P i)))
 fw:∀i<n,σ[fa i]?=some (.list false (cx n (F i)))
 iB:∀i<n,σ[ce i]?=some (.list false (cx n (B i)))
 tag:∃t:Nat->Nat×Nat,(∀i<m,t (ra i)=(0,i))/\(∀i<n,t (fa i)=(1,i))/\(∀i<n,t (ce i)=(2,i))/\t lb=(3,0)/\∀a,keep a->t a=(4,0)
theorem ie{o:bb}(h:σ[a]?=some o):a<σ.length:=(dN.mp h).1
section
variable {keep:Nat->Prop}{s dn b0 b1 lb n m:Nat}{ra fa:Nat->Nat}{σ:ah}{ce:Nat->Nat}{P F B:a4}
theorem PR{σ:ah}{s dn b0 b1 lb:Nat}(a:σ[s]?=some (.inst "Columns" dn))(b:σ[dn]?=some (.ns [("rows",.ref b0),("forth",.ref b1),("back",.ref lb)])):l9 σ s=some (("Columns":Str),dn,[(("rows":Str),an2.ref b0),("forth",.ref b1),("back",.ref lb)]):=by
 unfold l9;rw[a];show (DT σ[dn]?).map _=_;rw[b];rfl
theorem Gz{σ:ah}(a:σ[s]?=some (.inst "Columns" dn))(b:σ[dn]?=some (.ns [("rows",.ref b0),("forth",.ref b1),("back",.ref lb)])){d:Nat}{c:bP}(at_:jT G d c){x:Str}{v:an2}(e:G.dc x=true)(f:cp [(("rows":Str),an2.ref b0),("forth",.ref b1),("back",.ref lb)] x=some v):md c σ (.ref s) x=some v:=by
 show (l9 σ s).bind _=_;rw[PR a b];show (if c.dc x then cp _ x else none)=_;rw[at_.dc,bl e];exact f
theorem dy.f8(C:dy keep s dn b0 b1 lb n m ra fa σ ce P F B){x f:Str}(a:(cp [(("rows":Str),an2.ref b0),("forth",.ref b1),("back",.ref lb)] x).isNone=true)(b:fy "Columns" x=f):qi σ (.ref s) x=some f:=by
 show (l9 σ s).bind _=_;rw[PR C.hs C.hd];show (if (cp _ x).isNone then some (fy "Columns" x) else none)=_;rw[bl a,b]
theorem dy.attr(C:dy keep s dn b0 b1 lb n m ra fa σ ce P F B){d:Nat}{c:bP}(at_:jT G d c){x:Str}{v:an2}(a:G.dc x=true)(b:cp [(("rows":Str),an2.ref b0),("forth",.ref b1),("back",.ref lb)] x=some v):md c σ (.ref s) x=some v:=Gz C.hs C.hd at_ a b
theorem dy.uh(C:dy keep s dn b0 b1 lb n m ra fa σ ce P F B){d:Nat}{c:bP}(at_:jT G d c):md c σ (.ref s) "rows"=some (.ref b0):=C.attr at_ (by decide +kernel) rfl
theorem dy.B3(C:dy keep s dn b0 b1 lb n m ra fa σ ce P F B){d:Nat}{c:bP}(at_:jT G d c):md c σ (.ref s) "forth"=some (.ref b1):=C.attr at_ (by decide +kernel) rfl
theorem dy.qQ(C:dy keep s dn b0 b1 lb n m ra fa σ ce P F B){d:Nat}{c:bP}(at_:jT G d c):md c σ (.ref s) "back"=some (.ref lb):=C.attr at_ (by decide +kernel) rfl
noncomputable def fC(n m:Nat)(ra fa:Nat->Nat):List Nat:=(bf m).map ra++(bf n).map fa
theorem GA(n m:Nat)(ra fa:Nat->Nat):(bf m).map (fun i=>an2.ref (ra i))++(bf n).map (fun i=>an2.ref (fa i))=(fC n m ra fa).map .ref:=by
 unfold fC;rw[hS,hk,hk];rfl
variable {a:Nat}
theorem y2:a∈fC n m ra fa↔(∃i<m,a=ra i)\/∃i<n,a=fa i:=by
 unfold fC;rw[eM,dQ,dQ];constructor
 ·rintro (⟨i,h,rfl⟩ |⟨i,h,rfl⟩)
  ·exact .inl ⟨i,eE.mp h,rfl⟩
  ·exact .inr ⟨i,eE.mp h,rfl⟩
 ·rintro (⟨i,h,rfl⟩ |⟨i,h,rfl⟩)
  ·exact .inl ⟨i,eE.mpr h,rfl⟩
  ·exact .inr ⟨i,eE.mpr h,rfl⟩
theorem PS(k n:Nat):((bf n).map fun i=>(k,i)).Nodup:=by
 rw[Jb,Jc];exact Tx.imp fun h q=>h (dt ju q)
theorem afE{t:Nat->Nat×Nat}(c:∀i<m,t (ra i)=(0,i))(O:∀i<n,t (fa i)=(1,i)):(fC n m ra fa).Nodup:=by
 refine Gk (g:=t) ?_;unfold fC;rw[hS,hk,hk,i0 (f:=t∘ra) (g:=fun i=>(0,i)) (fun i hi=>c i (eE.mp hi)),i0 (f:=t∘fa) (g:=fun i=>(1,i)) (fun i hi=>O i (eE.mp hi))];refine mQ.mpr ⟨PS 0 m,PS 1 n,fun a h b k e=>?_⟩;refine aw (dQ.mp h) fun i V d=>?_;subst d;refine aw (dQ.mp k) fun j V d=>?_;subst d;cases e
theorem dy.mapped(C:dy keep s dn b0 b1 lb n m ra fa σ ce P F B)(h:(Nat->Int)->Nat->Int):∃g:Nat->Nat->Int,((∀i<m,g (ra i)=P i)/\∀i<n,g (fa i)=F i)/\(fC n m ra fa).Nodup/\(∀a∈fC n m ra fa,σ[a]?=some (.list false (cx n (g a)))) /\
  dy keep s dn b0 b1 lb n m ra fa (ft σ (fC n m ra fa) n fun a=>h (g a)) ce (fun i=>h (P i)) (fun i=>h (F i)) B/\(∀a,keep a->(ft σ (fC n m ra fa) n fun a=>h (g a))[a]?=σ[a]?):=by
 refine nR C.tag fun t f j t3 gj k=>?_;have l:∀i<m,(fun a=>if (t a).1=0 then P (t a).2 else F (t a).2) (ra i)=P i:=fun i hi=>by show (if _ then _ else _)=_;rw[f i hi,bl rfl]
 have o:∀i<n,(fun a=>if (t a).1=0 then P (t a).2 else F (t a).2) (fa i)=F i:=fun i hi=>by show (if _ then _ else _)=_;rw[j i hi,b5 (show ¬(1=0) by decide)]
 have no:∀a,(t a).1≠0->(t a).1≠1->a∉fC n m ra fa:=fun a h0 d q=>by
  rcases y2.mp q with⟨i,hi,e⟩ |⟨i,hi,e⟩
  ·rw[e,f i hi]at h0;exact h0 rfl
  ·rw[e,j i hi]at d;exact d rfl
 have c:∀a,keep a->a∉fC n m ra fa:=fun a b=>no a (by rw[k a b];decide) (by rw[k a b];decide);refine⟨fun a=>if (t a).1=0 then P (t a).2 else F (t a).2,⟨l,o⟩,afE f j,fun a b=>?_,⟨fun a b=>by rw[afD];exact C.ha a b,C.eT,C.kp,?_,?_,?_,?_,?_,?_,fun i hi=>?_,fun i hi=>?_,fun i hi=>?_,⟨t,f,j,t3,gj,k⟩⟩,fun a b=>nv (c a b)⟩
 ·rcases y2.mp b with⟨i,hi,rfl⟩ |⟨i,hi,rfl⟩
  ·rw[l i hi];exact C.rw i hi
  ·rw[o i hi];exact C.fw i hi
 ·rw[nv (c _ C.eT)];exact C.tab
 ·rw[nv (c _ C.kp.1)];exact C.hs
 ·rw[nv (c _ C.kp.2.1)];exact C.hd
 ·rw[nv (c _ C.kp.2.2.1)];exact C.hr
 ·rw[nv (c _ C.kp.2.2.2)];exact C.hf
 ·rw[nv (no lb (by rw[gj];decide) (by rw[gj];decide))];exact C.ab
 ·rw[PQ (y2.mpr (.inl ⟨i,hi,rfl⟩)) (ie (C.rw i hi)),l i hi]
 ·rw[PQ (y2.mpr (.inr ⟨i,hi,rfl⟩)) (ie (C.fw i hi)),o i hi]
 ·rw[nv (no _ (by rw[t3 i hi];exact(by decide:2≠0)) (by rw[t3 i hi];exact(by decide:2≠1)))];exact C.iB i hi
variable {l:List an2}
theorem GD{σ:ah}{b:Nat}{p q:Bool}{r:List an2}(c:σ[a]?=some (.list p l))(d:σ[b]?=some (.list q r))(e:l.length+r.length<=1000000):kg σ .Add (.ref a) (.ref b)=some (.f (.list (l++r))):=by
 show both ke ke (cR σ (.ref a)) (cR σ (.ref b)) _ _=_;rw[qJ c,qJ d];exact bl e
variable {b:Bool}
theorem afF{σ:ah}(h:σ[a]?=some (.list b l))(c:l.length<=1000000):i8 σ .len [.ref a]=some (.v (.int l.length)):=by
 show (AB (cR σ (.ref a))).bind _=_;rw[qJ h];exact bl (b9 c)
theorem y3{σ:ah}{n:Nat}(h:σ[a]?=some (.list b l))(e:l.length=n)(c:n<=1000000):i8 σ .len [.ref a]=some (.v (.int n)):=e▸afF h (e▸c)
theorem dy.back(C:dy keep s dn b0 b1 lb n m ra fa σ ce P F B){b:Nat}(k:b<n)(f:Nat->Int):dy keep s dn b0 b1 lb n m ra fa (σ.set (ce b) (.list false (cx n f))) ce P F (fun i=>if i=b then f else B i)/\∀a,keep a->(σ.set (ce b) (.list false (cx n f)))[a]?=σ[a]?:=by
 refine nR C.tag fun t g h t3 gj j=>?_;have ne:∀a,t a≠(2,b)->(σ.set (ce b) (.list false (cx n f)))[a]?=σ[a]?:=fun a d=>jV fun e=>d (by rw[<- e,t3 b k]);have c:∀a,keep a->(σ.set (ce b) (.list false (cx n f)))[a]?=σ[a]?:=fun a d=>ne a (by rw[j a d];intro q;cases q);refine⟨⟨fun a d=>by rw[lY];exact C.ha a d,C.eT,C.kp,?_,?_,?_,?_,?_,?_,fun i hi=>?_,fun i hi=>?_,fun i hi=>?_,⟨t,g,h,t3,gj,j⟩⟩,c⟩
 ·rw[c _ C.eT];exact C.tab
 ·rw[c _ C.kp.1];exact C.hs
 ·rw[c _ C.kp.2.1];exact C.hd
 ·rw[c _ C.kp.2.2.1];exact C.hr
 ·rw[c _ C.kp.2.2.2];exact C.hf
 ·rw[ne lb (by rw[gj];intro q;cases q)];exact C.ab
 ·rw[ne _ (by rw[g i hi];intro q;cases q)];exact C.rw i hi
 ·rw[ne _ (by rw[h i hi];intro q;cases q)];exact C.fw i hi
 ·by_cases e:i=b
  ·subst e;rw[bl rfl];exact nt _ (C.iB i hi)
  ·rw[b5 e,ne _ (by rw[t3 i hi];intro q;exact e (dt ju q))];exact C.iB i hi
theorem dy.afG(C:dy keep s dn b0 b1 lb n m ra fa σ ce P F B){i j:Nat}(hi:i<n)(a:j<n)(h:i≠j):ce i≠ce j:=fun e=>by
 refine nR C.tag fun t b c t3 gj d=>?_;exact h (dt ju ((t3 i hi).symm.trans ((dt t e).trans (t3 j a))))
theorem jW{n:Nat}(f:Nat->an2){i:Nat}(hi:i<n):((bf n).map f)[i]?=some (f i):=by rw[aob,p9 hi];rfl
def GF(keep:Nat->Prop)(s dn b0 b1 lb n m:Nat)(ra fa:Nat->Nat)(σ:ah)(ce:Nat->Nat)(P F B:a4)(x b:Nat)(q:Int):Prop:=∀(C:dy keep s dn b0 b1 lb n m ra fa σ ce P F B) (hn:n<=1000) (hm:m<=1000) (hx:x<n) (ab:b<n) (aoi:x≠b) (cq:∀i<m,IntMulOk q (P i b)) (bL:∀i<n,IntMulOk q (F i b)) (b2:∀j<n,IntMulOk q (B x j)) (d:Nat),∃au,bF G (d+1) "Columns.take_off" [.ref s,.int x,.int b,.int q] σ=.ok .none au/\dy keep s dn b0 b1 lb n m ra fa au ce (tk x b q P) (tk x b q F) (jn x b q B)/\(∀a,keep a->au[a]?=σ[a]?)
def PT(k:(Nat->Prop)×Nat×Nat×Nat×Nat×Nat×Nat×Nat×(Nat->Nat)×(Nat->Nat)×ah×(Nat->Nat)×a4×a4×a4×Nat×Nat×Int):Prop:=GF k.1 k.2.1 k.2.2.1 k.2.2.2.1 k.2.2.2.2.1 (en k).2.1 (en k).2.2.1 (en k).2.2.2.1 (ey k).1 (ey k).2.1 (ey k).2.2.1 (ey k).2.2.2.1 (eA k).1 (eA k).2.1 (eA k).2.2.1 (eA k).2.2.2.1 (eS k).1 (eS k).2
def jo:=ch PT
def PU:=jo.1
def PV:=jo.2.1
def PW:=jo.2.2.1
def PX:=jo.2.2.2.1
def PY:=jo.2.2.2.2.1
def PZ:=(en jo).2.1
def fQ:=(en jo).2.2.1
def qR:=(en jo).2.2.2.1
def qS:=(ey jo).1
def qT:=(ey jo).2.1
def ui:=(ey jo).2.2.1
def uj:=(ey jo).2.2.2.1
def P0:=(eA jo).1
def P1:=(eA jo).2.1
def fE:=(eA jo).2.2.1
def eC:=(eA jo).2.2.2.1
def ei:=(eS jo).1
def hb:=(eS jo).2
theorem afH:GF PU PV PW PX PY PZ fQ qR qS qT ui uj P0 P1 fE eC ei hb:=by
 intro C hn z o b s A bL b2 d;refine nR (C.mapped fun f j=>if j=eC then f eC-hb*f ei else f j) fun g u B D h k1=>?_;have h:dy PU PV PW PX PY PZ fQ qR qS qT (ft ui (fC fQ qR qS qT) fQ fun a j=>if j=eC then g a eC-hb*g a ei else g a j) uj (tk eC ei hb P0) (tk eC ei hb P1) fE:=h;have v:=h.back b (fun j=>fE ei j+hb*fE eC j);have E:∀a∈fC fQ qR qS qT,IntMulOk hb (g a ei):=fun a m=>by
  rcases y2.mp m with⟨i,hi,e⟩ |⟨i,hi,e⟩
  ·rw[e,u.1 i hi];exact A i hi
  ·rw[e,u.2 i hi];exact bL i hi
 refine⟨(ft ui (fC fQ qR qS qT) fQ fun a j=>if j=eC then g a eC-hb*g a ei else g a j).set (uj ei) (.list false (cx fQ fun j=>fE ei j+hb*fE eC j)),?_,?_,?_⟩
 ·refine dw aeR rfl rfl rfl fun c at_=>?_;refine an3.mk (C.uh at_) ?_;refine an3.mk (C.B3 at_) ?_;refine eh (GD C.hr C.hf (by rw[a0,a0,an5,an5];exact Dw hn z)) ?_;refine dg.nj an2.ref (fC fQ qR qS qT) (fun done=>ft ui done fQ fun a j=>if j=eC then g a eC-hb*g a ei else g a j) (GA fQ qR qS qT) rfl ?_ ?_
  ·intro done a w t;have m:a∈fC fQ qR qS qT:=t▸ho _ cW;have F:a∉done:=fun G=>by
    have:=B;rw[<- t,mQ]at this;exact this.2.2 a G a cW rfl
   have n:(ft ui done fQ fun a j=>if j=eC then g a eC-hb*g a ei else g a j)[a]?=some (.list false (cx fQ (g a))):=(nv F).trans (D a m);refine cj (lf n hn o) ?_;refine cj (lf n hn b) ?_;refine jU (E a m) ?_;refine gR (y1 n hn o _) ?_;rw[show (cx fQ fun k=>if k=eC then g a eC-hb*g a ei else g a k)=cx fQ ((fun a j=>if j=eC then g a eC-hb*g a ei else g a j) a) from rfl,<- Gy];refine mA (S:=fun done=>ft ui done fQ fun a j=>if j=eC then g a eC-hb*g a ei else g a j) t ?_;rfl
  ·generalize L:(ft ui (fC fQ qR qS qT) fQ fun a j=>if j=eC then g a eC-hb*g a ei else g a j)=τ at *
   refine an3.mk (h.qQ at_) ?_;refine cm (y3 h.ab (by rw[a0,an5]) (i6 hn)) ?_;refine cm (nr τ (o4 hn)) ?_;refine dg.const (fun k au=>au=τ.set (uj ei) (.list false (cx fQ fun j=>if j<k then fE ei j+hb*fE eC j else fE ei j))) ?_ ?_ ?_
   ·rw[show (cx fQ fun j=>if j<0 then fE ei j+hb*fE eC j else fE ei j)=cx fQ (fE ei) from ug fun j V=>b5 (nM _)];exact(t8 (h.iB ei b)).symm
   ·rintro k y au H rfl;refine bt (aoH H) fun I q=>?_;subst I;have p:=(h.back b fun j=>if j<k then fE ei j+hb*fE eC j else fE ei j).1;have x:=nt (.list false (cx fQ fun j=>if j<k then fE ei j+hb*fE eC j else fE ei j)) (h.iB ei b);have J:(τ.set (uj ei) (.list false (cx fQ fun j=>if j<k then fE ei j+hb*fE eC j else fE ei j)))[uj eC]?=some (.list false (cx fQ (fE eC))):=(jV (h.afG b o (eD s))).trans (h.iB eC o);refine an3.mk (p.qQ at_) ?_;refine cj (mD p.ab (jz hn b) (jW _ b)) ?_;refine cj (lf x hn q) ?_;refine an3.mk (p.qQ at_) ?_;refine cj (mD p.ab (jz hn o) (jW _ o)) ?_;refine cj (lf J hn q) ?_;refine jU (b2 k q) ?_;refine an3.mk (p.qQ at_) ?_;refine cj (mD p.ab (jz hn b) (jW _ b)) ?_;refine gR (y1 x hn q _) ?_;refine⟨_,by rfl,rfl,?_⟩;rw[xa];refine dt (fun l=>τ.set (uj ei) (.list false l)) (ug fun j V=>?_);by_cases e:j=k
    ·subst e;rw[bl rfl,b5 (kD _),bl (aog _)]
    ·rw[b5 e];by_cases r:j<k
     ·rw[bl r,bl (Dv r)]
     ·rw[b5 r,b5 (gq.mpr (CU (kC r) (eD e)))]
   ·rintro au rfl;rw[yR,show (cx fQ fun j=>if j<fQ then fE ei j+hb*fE eC j else fE ei j)=cx fQ (fun j=>fE ei j+hb*fE eC j) from ug fun j K=>bl K];exact aoj
 ·refine(show jn eC ei hb fE=_ from ?_)▸v.1;funext i j;unfold jn;split<;>rfl
 ·exact fun a m=>(v.2 a m).trans (k1 a m)
theorem afI{keep s dn b0 b1 lb n m ra fa σ ce P F B x b q}:GF keep s dn b0 b1 lb n m ra fa σ ce P F B x b q:=tb (P:=PT) afH (keep,s,dn,b0,b1,lb,n,m,ra,fa,σ,ce,P,F,B,x,b,q)
end
section
variable {keep:Nat->Prop}{s dn b0 b1 lb n m:Nat}{ra fa:Nat->Nat}{σ:ah}{ce:Nat->Nat}{P F B:a4}
def GH(keep:Nat->Prop)(s dn b0 b1 lb n m:Nat)(ra fa:Nat->Nat)(σ:ah)(ce:Nat->Nat)(P F B:a4)(x b:Nat):Prop:=∀(C:dy keep s dn b0 b1 lb n m ra fa σ ce P F B) (hn:n<=1000) (hm:m<=1000) (hx:x<n) (ab:b<n) (aoi:x≠b) (d:Nat),∃au,bF G (d+1) "Columns.swap" [.ref s,.int x,.int b] σ=.ok .none au/\dy keep s dn b0 b1 lb n m ra fa au (fun i=>ce (b3 x b i)) (fun i j=>P i (b3 x b j)) (fun i j=>F i (b3 x b j)) (fun i j=>B (b3 x b i) j)/\(∀a,keep a->au[a]?=σ[a]?)
def P2(k:(Nat->Prop)×Nat×Nat×Nat×Nat×Nat×Nat×Nat×(Nat->Nat)×(Nat->Nat)×ah×(Nat->Nat)×a4×a4×a4×Nat×Nat):Prop:=GH k.1 k.2.1 k.2.2.1 k.2.2.2.1 k.2.2.2.2.1 (en k).2.1 (en k).2.2.1 (en k).2.2.2.1 (ey k).1 (ey k).2.1 (ey k).2.2.1 (ey k).2.2.2.1 (eA k).1 (eA k).2.1 (eA k).2.2.1 (eA k).2.2.2.1 (eS k)
def jX:=ch P2
def P4:=jX.1
def P5:=jX.2.1
def P6:=jX.2.2.1
def afJ:=jX.2.2.2.1
def afK:=jX.2.2.2.2.1
def wj:=(en jX).2.1
def hg:=(en jX).2.2.1
def qV:=(en jX).2.2.2.1
def oB:=(ey jX).1
def oC:=(ey jX).2.1
def qW:=(ey jX).2.2.1
def nw:=(ey jX).2.2.2.1
def afL:=(eA jX).1
def afM:=(eA jX).2.1
def afN:=(eA jX).2.2.1
def fF:=(eA jX).2.2.2.1
def fG:=(eS jX)
theorem afO:GH P4 P5 P6 afJ afK wj hg qV oB oC qW nw afL afM afN fF fG:=by
 intro C hn B n p l d;refine a3 fun w=>?_;refine nR (C.mapped fun f j=>f (b3 fF fG j)) fun g I D E b k1=>?_;refine nR b.tag fun t x y t3 gj z=>?_;refine w ?_;clear w;have u:∀(o:bb) a,t a≠(3,0)->((ft qW (fC hg qV oB oC) hg fun a j=>g a (b3 fF fG j)).set wj o)[a]?=(ft qW (fC hg qV oB oC) hg fun a j=>g a (b3 fF fG j))[a]?:=fun o a h=>jV fun e=>h (by rw[<- e,gj]);have r:∀(o:bb) a,P4 a->((ft qW (fC hg qV oB oC) hg fun a j=>g a (b3 fF fG j)).set wj o)[a]?=(ft qW (fC hg qV oB oC) hg fun a j=>g a (b3 fF fG j))[a]?:=fun o a h=>u o a (by rw[z a h];intro q;cases q);have F:(((bf hg).map fun i=>an2.ref (nw i)).set fF (.ref (nw fG))).set fG (.ref (nw fF))=(bf hg).map fun i=>.ref (nw (b3 fF fG i)):=by
  rw[B1,B1];refine i0 fun k V=>?_;show (if k=fG then an2.ref (nw fF) else if k=fF then .ref (nw fG) else .ref (nw k))=.ref (nw (b3 fF fG k));by_cases e:k=fF
  ·subst e;rw[b5 l,bl rfl,uf]
  ·by_cases s:k=fG
   ·subst s;rw[bl rfl,we l.symm]
   ·rw[b5 s,b5 e,pI e s]
 refine⟨(ft qW (fC hg qV oB oC) hg fun a j=>g a (b3 fF fG j)).set wj (.list false ((bf hg).map fun i=>.ref (nw (b3 fF fG i)))),?_,?_,?_⟩
 ·refine dw aeS rfl rfl rfl fun c at_=>?_;refine an3.mk (C.uh at_) ?_;refine an3.mk (C.B3 at_) ?_;refine eh (GD C.hr C.hf (by rw[a0,a0,an5,an5];exact Dw hn B)) ?_;refine dg.nj an2.ref (fC hg qV oB oC) (fun done=>ft qW done hg fun a j=>g a (b3 fF fG j)) (GA hg qV oB oC) rfl ?_ ?_
  ·intro done a A v;have h:a∈fC hg qV oB oC:=v▸ho _ cW;have G:a∉done:=fun H=>by
    have:=D;rw[<- v,mQ]at this;exact this.2.2 a H a cW rfl
   have m:(ft qW done hg fun a j=>g a (b3 fF fG j))[a]?=some (.list false (cx hg (g a))):=(nv G).trans (E a h);refine cj (lf m hn n) ?_;refine cj (lf m hn p) ?_;refine gR (y1 m hn n _) ?_;refine gR (y1 (nt _ m) hn p _) ?_;rw[xa,show (cx hg fun k=>if k=fG then g a fF else if k=fF then g a fG else g a k)=cx hg ((fun a j=>g a (b3 fF fG j)) a) from ?_,<- Gy]
   ·refine mA (S:=fun done=>ft qW done hg fun a j=>g a (b3 fF fG j)) v ?_;rfl
   ·refine ug fun k V=>?_;show _=g a (b3 fF fG k);by_cases e:k=fF
    ·subst e;rw[b5 l,bl rfl,uf]
    ·by_cases s:k=fG
     ·subst s;rw[bl rfl,we l.symm]
     ·rw[b5 s,b5 e,pI e s]
  ·refine an3.mk (b.qQ at_) ?_;refine cj (mD b.ab (jz hn n) (jW _ n)) ?_;refine an3.mk (b.qQ at_) ?_;refine cj (mD b.ab (jz hn p) (jW _ p)) ?_;refine an3.mk (b.qQ at_) ?_;refine gR (B2 b.ab (by rw[a0,an5];exact hn) (by rw[a0,an5];exact n)) ?_;refine an3.mk (Gz ((r _ P5 C.kp.1).trans b.hs) ((r _ P6 C.kp.2.1).trans b.hd) at_ (by decide +kernel) rfl) ?_;refine gR (B2 (nt _ b.ab) (by rw[lY,a0,an5];exact hn) (by rw[lY,a0,an5];exact p)) ?_;rw[xa,F];exact aoj
 ·refine⟨fun a h=>by rw[lY];exact b.ha a h,b.eT,b.kp,?_,?_,?_,?_,?_,?_,fun i hi=>?_,fun i hi=>?_,fun i hi=>?_,⟨fun a=>if (t a).1=2 then (2,b3 fF fG (t a).2) else t a,fun i hi=>?_,fun i hi=>?_,fun i hi=>?_,?_,fun a h=>?_⟩⟩
  ·rw[r _ _ C.eT];exact b.tab
  ·rw[r _ _ C.kp.1];exact b.hs
  ·rw[r _ _ C.kp.2.1];exact b.hd
  ·rw[r _ _ C.kp.2.2.1];exact b.hr
  ·rw[r _ _ C.kp.2.2.2];exact b.hf
  ·exact nt _ b.ab
  ·rw[u _ _ (by rw[x i hi];intro q;cases q)];exact b.rw i hi
  ·rw[u _ _ (by rw[y i hi];intro q;cases q)];exact b.fw i hi
  ·rw[u _ _ (by rw[t3 _ (oA n p hi)];intro q;cases q)];exact b.iB _ (oA n p hi)
  ·show (if (t (oB i)).1=2 then _ else t (oB i))=_;rw[x i hi];exact b5 (show ¬(0=2) by decide)
  ·show (if (t (oC i)).1=2 then _ else t (oC i))=_;rw[y i hi];exact b5 (show ¬(1=2) by decide)
  ·show (if (t (nw (b3 fF fG i))).1=2 then (2,b3 fF fG (t (nw (b3 fF fG i))).2) else _)=_;rw[t3 _ (oA n p hi),bl rfl];show (2,b3 fF fG (b3 fF fG i))=_;rw[Gs l]
  ·show (if (t wj).1=2 then _ else t wj)=_;rw[gj];rfl
  ·show (if (t a).1=2 then _ else t a)=_;rw[z a h];rfl
 ·exact fun a h=>(r _ a h).trans (k1 a h)
theorem afP{keep s dn b0 b1 lb n m ra fa σ ce P F B x b}:GH keep s dn b0 b1 lb n m ra fa σ ce P F B x b:=tb (P:=P2) afO (keep,s,dn,b0,b1,lb,n,m,ra,fa,σ,ce,P,F,B,x,b)
theorem eB.afQ{α:Type}{c:bP}{cond elt:bE}{m:Nat}{t:dq}{l:List an2}{v:an2}{ρ:a'}{σ:ah}{K:an2->ah->Prop}(bJ:α->an2)(p:α->Bool)(o:α->an2)(xs:List α)(a:l=xs.map bJ)
  (d:∀τ,∀x∈xs,an3 (iR t (bJ x) (gm (ip t) ρ)) fun aN=>(cU c cond 0 aN τ fun b aj=>aj=τ/\b=.bool (p x))/\(p x=true->cU c elt m.pred aN τ fun v aj=>aj=τ/\v=o x))
  (e:d' ((xs.filter p).map o).length=true) (k:cf (iG m (.list ((xs.filter p).map o)) σ) K):eB c cond elt m t l v ρ σ K:=by
 intro f;rw[a,<- qG,OF f.kill bJ p o xs (d _)];show cf (.ok _ (bG (bG σ v true) v (c' σ v))) _;rw[Gp];exact bI.t e k
theorem P7(C:dy keep s dn b0 b1 lb n m ra fa σ ce P F B)(hn:n<=1000)(L:m<=1000){x:Nat}(p:x<n)(d:Nat) :
  ∃au M,bF G (d+1) "Columns.turn" [.ref s,.int x] σ=.ok .none au/\dy keep s dn b0 b1 lb n m ra fa au M (gn x P) (gn x F) (lc x B)/\(∀a,keep a->au[a]?=σ[a]?):=by
 refine a3 fun E=>?_;refine nR (C.mapped fun f j=>if j=x then 0-f j else f j) fun g k2 N O b k1=>?_;have b:dy keep s dn b0 b1 lb n m ra fa (ft σ (fC n m ra fa) n fun a j=>if j=x then 0-g a j else g a j) ce (gn x P) (gn x F) B:=b;refine nR b.tag fun t H I t3 gj J=>?_;refine E ?_;clear E;generalize Q:(ft σ (fC n m ra fa) n fun a j=>if j=x then 0-g a j else g a j)=τ at *
 have u:∀a,a<τ.length->(τ++[bb.list false (cx n fun j=>0-B x j)])[a]?=τ[a]?:=fun a h=>mS h;have w:=ie b.ab;have y:∀(o:bb) a,a<τ.length->t a≠(3,0)->((τ++[bb.list false (cx n fun j=>0-B x j)]).set lb o)[a]?=τ[a]?:=fun o a R h=>(jV fun e=>h (by rw[<- e,gj])).trans (u a R);have r:∀(o:bb) a,keep a->((τ++[bb.list false (cx n fun j=>0-B x j)]).set lb o)[a]?=τ[a]?:=fun o a h=>y o a (b.ha a h) (by rw[J a h];intro q;cases q);have T:((bf n).map fun i=>an2.ref (ce i)).set x (.ref τ.length)=(bf n).map fun i=>.ref (if i=x then τ.length else ce i):=by
  rw[B1];refine i0 fun k V=>?_;show (if k=x then an2.ref τ.length else .ref (ce k))=.ref (if k=x then τ.length else ce k);by_cases e:k=x
  ·rw[bl e,bl e]
  ·rw[b5 e,b5 e]
 refine⟨(τ++[bb.list false (cx n fun j=>0-B x j)]).set lb (.list false ((bf n).map fun i=>.ref (if i=x then τ.length else ce i))),fun i=>if i=x then τ.length else ce i,?_,?_,?_⟩
 ·refine dw aeT rfl rfl rfl fun c at_=>?_;refine an3.mk (C.uh at_) ?_;refine an3.mk (C.B3 at_) ?_;refine eh (GD C.hr C.hf (by rw[a0,a0,an5,an5];exact Dw hn L)) ?_;refine dg.nj an2.ref (fC n m ra fa) (fun done=>ft σ done n fun a j=>if j=x then 0-g a j else g a j) (GA n m ra fa) rfl ?_ ?_
  ·intro done a K z;have h:a∈fC n m ra fa:=z▸ho _ cW;have U:a∉done:=fun W=>by
    have:=N;rw[<- z,mQ]at this;exact this.2.2 a W a cW rfl
   have v:(ft σ done n fun a j=>if j=x then 0-g a j else g a j)[a]?=some (.list false (cx n (g a))):=(nv U).trans (O a h);refine cj (lf v hn p) ?_;refine gR (y1 v hn p _) ?_;rw[show (cx n fun k=>if k=x then 0-g a x else g a k)=cx n ((fun a j=>if j=x then 0-g a j else g a j) a) from ug fun k V=>?_,<- Gy]
   ·refine mA (S:=fun done=>ft σ done n fun a j=>if j=x then 0-g a j else g a j) z ?_;rfl
   ·show _=if k=x then 0-g a k else g a k;by_cases e:k=x
    ·subst e;rw[bl rfl]
    ·rw[b5 e,b5 e]
  ·rw[Q];refine an3.mk (b.qQ at_) ?_;refine cj (mD b.ab (jz hn p) (jW _ p)) ?_;refine an3.mk (show de τ (.ref (ce x))=some (cx n (B x)) by show xn (cR τ (.ref (ce x)))=_;rw[qJ (b.iB x p)];rfl) ?_;refine eB.afQ (fun j=>.int (B x j)) (fun V=>true) (fun j=>.int (0-B x j)) (bf n) rfl (fun X j am=>⟨⟨rfl,rfl⟩,fun V=>⟨rfl,rfl⟩⟩) ?_ ?_
   ·rw[fP,a0,an5];exact b9 (i6 hn)
   ·rw[fP];have Y:=(u s (b.ha s C.kp.1)).trans b.hs;have A:=(u dn (b.ha dn C.kp.2.1)).trans b.hd;have Z:=(u lb w).trans b.ab;refine an3.mk (Gz Y A at_ (by decide +kernel) rfl) ?_;refine gR (B2 Z (by rw[a0,an5];exact hn) (by rw[a0,an5];exact p)) ?_;exact aoj.trans (dt (fun l=>be.ok an2.none ((τ++[bb.list false (cx n fun j=>0-B x j)]).set lb (.list false l))) T)
 ·have D:∀i<n,ce i≠τ.length:=fun i hi=>gV (ie (b.iB i hi));refine⟨fun a h=>by rw[lY,bW];exact j7 (b.ha a h),b.eT,b.kp,?_,?_,?_,?_,?_,?_,fun i hi=>?_,fun i hi=>?_,fun i hi=>?_,⟨fun a=>if a=τ.length then (2,x) else if t a=(2,x) then (5,0) else t a,fun i hi=>?_,fun i hi=>?_,fun i hi=>?_,?_,fun a h=>?_⟩⟩
  ·rw[r _ _ C.eT];exact b.tab
  ·rw[r _ _ C.kp.1];exact b.hs
  ·rw[r _ _ C.kp.2.1];exact b.hd
  ·rw[r _ _ C.kp.2.2.1];exact b.hr
  ·rw[r _ _ C.kp.2.2.2];exact b.hf
  ·exact nt _ ((u lb w).trans b.ab)
  ·rw[y _ _ (ie (b.rw i hi)) (by rw[H i hi];intro q;cases q)];exact b.rw i hi
  ·rw[y _ _ (ie (b.fw i hi)) (by rw[I i hi];intro q;cases q)];exact b.fw i hi
  ·by_cases e:i=x
   ·subst e;rw[bl rfl,jV (gV w),nP (cu _),p7];show some (bb.list false (cx n fun j=>0-B i j))=_;rw[show (cx n fun j=>0-B i j)=cx n (lc i B i) from ug fun j V=>(bl rfl).symm]
   ·rw[b5 e,y _ _ (ie (b.iB i hi)) (by rw[t3 i hi];intro q;cases q),b.iB i hi,show cx n (lc x B i)=cx n (B i) from ug fun j V=>b5 e]
  ·show (if _ then _ else if _ then _ else _)=_;rw[b5 (gV (ie (b.rw i hi))),H i hi,b5 (by intro q;cases q)]
  ·show (if _ then _ else if _ then _ else _)=_;rw[b5 (gV (ie (b.fw i hi))),I i hi,b5 (by intro q;cases q)]
  ·by_cases e:i=x
   ·subst e;show (if (if i=i then τ.length else ce i)=τ.length then _ else _)=_;rw[bl rfl,bl rfl]
   ·show (if (if i=x then τ.length else ce i)=τ.length then _ else if t (if i=x then τ.length else ce i)=(2,x) then _ else t (if i=x then τ.length else ce i))=_;rw[b5 e,b5 (D i hi),t3 i hi,b5 (by intro q;exact e (dt ju q))]
  ·show (if _ then _ else if _ then _ else _)=_;rw[b5 (gV w),gj,b5 (by intro q;cases q)]
  ·show (if _ then _ else if _ then _ else _)=_;rw[b5 (gV (b.ha a h)),J a h,b5 (by intro q;cases q)]
 ·exact fun a h=>(r _ a h).trans (k1 a h)
end
noncomputable def oE(fs n:Nat):List Nat:=(bf (n-fs)).map (fs+·)
theorem P8{n c:Nat}:c∈oE fs n↔fs<=c/\c<n:=by
 unfold oE;rw[dQ];constructor
 ·rintro⟨k,b,rfl⟩;have:=eE.mp b;exact⟨bO _ _,by rw[kG];exact IJ this⟩
 ·rintro⟨a,O⟩;exact⟨c-fs,eE.mpr (TC a O),(Nat.add_sub_of_le a)⟩
theorem afS(fs n:Nat):(oE fs n).Nodup:=by
 unfold oE;rw[Jb,Jc];exact Tx.imp fun h q=>h (by exact((h (uI q))).elim)
def cH(fs n:Nat)(v:Nat->Int):List Nat:=(oE fs n).filter fun c=>!(v c==0)
theorem d2{n c:Nat}{v:Nat->Int}:c∈cH fs n v↔(fs<=c/\c<n)/\v c≠0:=by
 unfold cH;rw[Tz,P8];simp
theorem P9(fs n:Nat)(v:Nat->Int):(cH fs n v).Nodup:=(afS fs n).filter _
theorem Qa(fs n:Nat)(v:Nat->Int):(cH fs n v).length<=n:=by
 unfold cH oE;exact ax (z7 ..) (by rw[a0,an5];exact kH _ _)
def GJ(fs n:Nat)(v:Nat->Int):Prop:=∃u:Int,u≠0/\∀c,fs<=c->c<n->0<=v c*u
theorem afT(c:u≠0)(a:0<=x*u)(b:0<=y*u):0<=x*y:=by
 rcases aj7 c with h|h
 ·have a:x<=0:=hR.mp fun q=>by have:=alN q h;exact(Ah a this).elim
  have b:y<=0:=hR.mp fun q=>by have:=alN q h;exact(Ah b this).elim
  exact alO a b
 ·have a:0<=x:=hR.mp fun q=>by have:=TK q h;exact(Ah a this).elim
  have b:0<=y:=hR.mp fun q=>by have:=TK q h;exact(Ah b this).elim
  exact Dk a b
theorem Qb{n:Nat}(hn:n<=1000)(f:Nat->Int){k:Nat}(a:k<n):jB ((bf n).map f) (k:Int)=some ((f k).natAbs:Int):=by
 unfold jB;rw[bl (⟨rp _,lw.mpr (ax (et a) (ax hn (by decide)))⟩),TL,aob,p9 a];rfl
theorem afU{n:Nat}(hn:n<=1000)(f:Nat->Int):∀(ks:List Nat) (b:Nat),b<n->(∀k∈ks,k<n)->∃r:Nat,nW ((bf n).map f) (b:Int) ((f b).natAbs:Int) (ks.map fun k:Nat=>(k:Int))=some (r:Int)/\(r=b\/r∈ks)/\(f r).natAbs<=(f b).natAbs/\∀k∈ks,(f r).natAbs<=(f k).natAbs:=by
 intro ks
 induction ks with
 |nil=>exact fun b l V=>⟨b,rfl,.inl rfl,cu _,fun k h=>eO h⟩
 |cons k ks ih=>
  intro b l h;have m:=h k cW;have o:∀j∈ks,j<n:=fun j d=>h j (dM _ d);have e:nW ((bf n).map f) (b:Int) ((f b).natAbs:Int) ((k::ks).map fun k:Nat=>(k:Int))=bif decide (((f k).natAbs:Int)<((f b).natAbs:Int)) then nW ((bf n).map f) (k:Int) ((f k).natAbs:Int) (ks.map fun k:Nat=>(k:Int)) else nW ((bf n).map f) (b:Int) ((f b).natAbs:Int) (ks.map fun k:Nat=>(k:Int)):=by
   show (jB ((bf n).map f) (k:Int)).bind _=_;rw[Qb hn f m];rfl
  rw[e];by_cases a:(f k).natAbs<(f b).natAbs
  ·rw[show decide (((f k).natAbs:Int)<((f b).natAbs:Int))=true from b9 (kE.mpr a)];refine s4 (ih k m o) fun r c O g i=>?_;refine⟨r,c,.inr ?_,(ax g (et a)),fun j d=>?_⟩
   ·rcases O with q|q
    ·rw[q];exact cW
    ·exact dM _ q
   ·rcases dG.mp d with q|q
    ·rw[q];exact g
    ·exact i j q
  ·rw[show decide (((f k).natAbs:Int)<((f b).natAbs:Int))=false from d8 (fun q=>a (kE.mp q))];refine s4 (ih b l o) fun r c O g i=>?_;refine⟨r,c,O.imp id (dM _),g,fun j d=>?_⟩;rcases dG.mp d with q|q
   ·rw[q];exact ax g (kC a)
   ·exact i j q
theorem afV{n:Nat}(hn:n<=1000)(f:Nat->Int){ks:List Nat}(h0:ks≠[])(a:∀k∈ks,k<n):∃r:Nat,xw ((bf n).map f) (ks.map fun k:Nat=>(k:Int))=some (r:Int)/\r∈ks/\∀k∈ks,(f r).natAbs<=(f k).natAbs:=by
 cases ks with
 |nil=>exact dk rfl h0
 |cons k ks=>
  refine s4 (afU hn f ks k (a k cW) fun j b=>a j (dM _ b)) fun r c O d e=>?_;refine⟨r,?_,?_,fun j b=>?_⟩
  ·show (jB ((bf n).map f) (k:Int)).bind _=_;rw[Qb hn f (a k cW)];exact c
  ·rcases O with q|q
   ·rw[q];exact cW
   ·exact dM _ q
  ·rcases dG.mp b with q|q
   ·rw[q];exact d
   ·exact e j q
noncomputable def aof(k:Nat):an2:=.int (k:Int)
theorem afW(ks:List Nat):l8 (ks.map aof)=some (ks.map fun k:Nat=>(k:Int)):=by
 induction ks with
 |nil=>rfl
 |cons k ks ih=>show (l8 (ks.map aof)).map _=_;rw[ih];rfl
theorem afX(n:Nat)(f:Nat->Int):l8 (cx n f)=some ((bf n).map f):=by
 unfold cx;generalize bf n=l
 induction l with
 |nil=>rfl
 |cons k l ih=>show (l8 (l.map fun j=>.int (f j))).map _=_;rw[ih];rfl
variable {q s w:Str}
theorem afY(h0:σ[0]?=some (.tab q)){a n:Nat}{b:Bool}{f:Nat->Int}(h:σ[a]?=some (.list b (cx n f))){ks:List Nat}{r:Nat}(c:xw ((bf n).map f) (ks.map fun k:Nat=>(k:Int))=some (r:Int)):pd σ (.lst (ks.map aof)) (some (.ref a))=some (r:Int):=by
 have e:AG σ=some q:=by
  cases σ with
  |nil=>cases h0
  |cons o l=>cases (show some o=some (bb.tab q) from h0);rfl
 unfold pd;rw[e];show (l8 (ks.map aof)).bind _=_;rw[afW];show (eZ σ (.ref a)).bind _=_;rw[show eZ σ (.ref a)=some (cx n f) by unfold eZ;rw[qJ h];rfl];show (l8 (cx n f)).bind _=_;rw[afX];exact c
theorem GK{n:Nat}(h:fs<=n):hw (fs:Int) (n:Int)=(oE fs n).map aof:=by
 unfold hw oE aof;rw[hk,show ((n:Int)-(fs:Int)).toNat=n-fs by exact akR _ _];exact i0 fun k V=>dt an2.int (by simp)
noncomputable def eU(v:Nat->Int)(b c:Nat):Int:=(v c).fdiv (v b)
def mE(ds:List Nat)(b:Nat)(v f:Nat->Int)(c:Nat):Int:=if c∈ds/\c≠b then f c-eU v b c*f b else f c
def Qd(n:Nat)(ds:List Nat)(b:Nat)(v u:Nat->Int)(i:Nat):Int:=if i=b then u b+S n (fun c=>if c∈ds/\c≠b then eU v b c*u c else 0) else u i
def iC(ds:List Nat)(b:Nat)(v:Nat->Int)(M:a4):a4:=fun i=>mE ds b v (M i)
def mF(n:Nat)(ds:List Nat)(b:Nat)(v:Nat->Int)(B:a4):a4:=fun i j=>Qd n ds b v (fun i=>B i j) i
theorem oF(ds:List Nat)(b:Nat)(v f:Nat->Int):mE ds b v f b=f b:=b5 fun h=>h.2 rfl
theorem pK{c:Nat}(h:c∉ds)(b:Nat)(v f:Nat->Int):mE ds b v f c=f c:=b5 fun q=>h q.1
theorem wk{b c:Nat}(h:c∈ds)(a:c≠b)(v f:Nat->Int):mE ds b v f c=f c-eU v b c*f b:=bl ⟨h,a⟩
theorem y5{p q:Prop}[Decidable p][Decidable q]{a b:α}(h:p↔q):ite p a b=ite q a b:=by
 by_cases c:p
 ·rw[bl c,bl (h.mp c)]
 ·rw[b5 c,b5 fun x=>c (h.mpr x)]
theorem B5(b:Nat)(v:Nat->Int)(M:a4):iC [] b v M=M:=by
 funext i c;exact pK (rv) ..
theorem Qe(n b:Nat)(v:Nat->Int)(B:a4):mF n [] b v B=B:=by
 funext i j;show (if i=b then B b j+S n (fun c=>if c∈[]/\c≠b then eU v b c*B c j else 0) else B i j)=B i j;by_cases h:i=b
 ·rw[bl h,mC (fun c V=>b5 fun q=>dk q.1 rv),aod,<- h]
 ·rw[b5 h]
theorem B6{ds:List α}{x c:α}(h:c≠x):c∈ds++[x]↔c∈ds:=⟨fun q=>(eM.mp q).elim id fun q=>dk (c3.mp q) h,sV _⟩
theorem B7(ds:List Nat)(b:Nat)(v:Nat->Int)(M:a4):iC (ds++[b]) b v M=iC ds b v M:=by
 funext i c;by_cases h:c=b
 ·subst h;exact(oF ..).trans (oF ..).symm
 ·exact y5 (and_congr_left fun V=>B6 h)
theorem Qf(n:Nat)(ds:List Nat)(b:Nat)(v:Nat->Int)(B:a4):mF n (ds++[b]) b v B=mF n ds b v B:=by
 funext i j;show (if i=b then B b j+S n (fun c=>if c∈ds++[b]/\c≠b then eU v b c*B c j else 0) else B i j)=(if i=b then B b j+S n (fun c=>if c∈ds/\c≠b then eU v b c*B c j else 0) else B i j);rw[cV fun c V=>?_];by_cases h:c=b
 ·rw[b5 fun q=>q.2 h,b5 fun q=>q.2 h]
 ·exact y5 (and_congr_left fun V=>B6 h)
theorem Qg{x b:Nat}(a:x∉ds)(d:x≠b)(v:Nat->Int)(M:a4):tk x b (eU v b x) (iC ds b v M)=iC (ds++[x]) b v M:=by
 funext i c;by_cases h:c=x
 ·subst h;rw[wc];exact(congr (dt _ (pK a ..)) (dt _ (oF ..))).trans (wk (ho _ (c3.mpr rfl)) d ..).symm
 ·rw[qO h];exact(y5 (and_congr_left fun V=>B6 h)).symm
theorem afZ{n:Nat}{x b:Nat}(hn:x<n)(d:x∉ds)(a:x≠b)(v:Nat->Int)(B:a4):jn x b (eU v b x) (mF n ds b v B)=mF n (ds++[x]) b v B:=by
 funext i j;by_cases h:i=b
 ·subst h;rw[Gr];have e:mF n ds i v B x j=B x j:=b5 a;have f:mF n ds i v B i j=B i j+S n (fun c=>if c∈ds/\c≠i then eU v i c*B c j else 0):=bl rfl;have g:mF n (ds++[x]) i v B i j=B i j+S n (fun c=>if c∈ds++[x]/\c≠i then eU v i c*B c j else 0):=bl rfl;rw[e,f,g,w4];refine dt _ ?_;rw[<- k8 hn (eU v i x*B x j),<- pG];refine cV fun c V=>?_;by_cases ae:c=x
  ·subst ae;rw[b5 fun q=>d q.1,bl rfl,bl ⟨ho _ (c3.mpr rfl),a⟩,uR]
  ·rw[b5 ae,aod];exact(y5 (and_congr_left fun V=>B6 ae)).symm
 ·rw[wd h];exact(b5 h).trans (b5 h).symm
theorem wm{v:Int}(m:u≠0):(v-v.fdiv u*u).natAbs<u.natAbs/\0<=(v-v.fdiv u*u)*u /\
  (v.natAbs=u.natAbs*(v.fdiv u).natAbs+(v-v.fdiv u*u).natAbs\/v.natAbs+(v-v.fdiv u*u).natAbs=u.natAbs*(v.fdiv u).natAbs)/\(0<=v*u->v.natAbs=u.natAbs*(v.fdiv u).natAbs+(v-v.fdiv u*u).natAbs):=by
 have n:v-v.fdiv u*u=v.fmod u:=by have:=Jd v u;rw[rA]at this;exact Im.mpr (id (gW this))
 have e:∀v u q r:Int,0<u->0<=r->r<u->v=u*q+r->r.natAbs<u.natAbs/\0<=r*u/\(v.natAbs=u.natAbs*q.natAbs+r.natAbs\/v.natAbs+r.natAbs=u.natAbs*q.natAbs)/\(0<=v*u->v.natAbs=u.natAbs*q.natAbs+r.natAbs):=by
  intro v u q r c O j k;have l:r.natAbs<u.natAbs:=(Int.natAbs_lt_natAbs_of_nonneg_of_lt O j);have f:((u.natAbs*q.natAbs:Nat):Int)=if 0<=q then u*q else -(u*q):=by
   rw[Int.natCast_mul];split
   ·rw[zM (gY c),zM (by assumption)]
   ·rw[zM (gY c),show (q.natAbs:Int) = -q by exact Io (gY (Int.not_le.mp (by assumption))),SF]
  have ae:(0<=q->v.natAbs=u.natAbs*q.natAbs+r.natAbs)/\(¬0<=q->v.natAbs+r.natAbs=u.natAbs*q.natAbs/\v<0):=by
   refine⟨fun d=>?_,fun d=>?_⟩
   ·rw[bl d]at f;have:0<=u*q:=Dk (gY c) d;exact k▸f▸Int.natAbs_add_of_nonneg (rp _) O
   ·rw[b5 d]at f;have:u*q<=u*(-1):=SK (hR.mp d) (gY c);exact Ug O j k f this
  by_cases d:0<=q
  ·exact⟨l,Dk O (gY c),.inl (ae.1 d),fun V=>ae.1 d⟩
  ·refine⟨l,Dk O (gY c),.inr (ae.2 d).1,fun h=>?_⟩;have:=TK (ae.2 d).2 c;exact((aoE (sS h this) (by simp +arith))).elim
 rw[n];have i:=Jd v u;by_cases g:0<u
 ·exact e v u (v.fdiv u) (v.fmod u) g (I9 _ g) (I' _ g) i.symm
 ·have hn:u<0:=by exact Uq m g
  have c:v.fmod u<=0/\u<v.fmod u:=by
   have a:=I9 (-v) (show 0 < -u by exact J8 hn);have b:=I' (-v) (show 0 < -u by exact J8 hn);rw[Int.neg_fmod_neg]at a b;exact⟨l4 a (by simp +arith),l4 b (by simp +arith)⟩
  have:=e (-v) (-u) (v.fdiv u) (-(v.fmod u)) (l4 (sS c.1 c.2) (by simp +arith)) (l4 c.1 (by simp +arith)) (l4 c.2 (by simp +arith)) (by rw[z9];exact alP (l4 (aoC i) (by simp +arith)) (l4 (aoC i.symm) (by simp +arith)));rw[wY,wY,wY,alQ,alQ]at this;exact this
structure eW (fs n:Nat)(v:Nat->Int)(p:Nat):Prop where
 two:1<(cH fs n v).length
 mem:p∈cH fs n v
 le:∀c∈cH fs n v,(v p).natAbs<=(v c).natAbs
section
variable {fs n p:Nat}{v f:Nat->Int}
abbrev c5(fs n p:Nat)(v f:Nat->Int):Nat->Int:=mE (cH fs n v) p v f
theorem eW.ne(h:eW fs n v p):v p≠0:=(d2.mp h.mem).2
theorem eW.rem(h:eW fs n v p){c:Nat}(a:fs<=c)(O:c<n)(ae:c≠p):(c5 fs n p v v c).natAbs<(v p).natAbs/\0<=c5 fs n p v v c*v p:=by
 by_cases h0:v c=0
 ·have e:c5 fs n p v v c=0:=(pK (fun q=>(d2.mp q).2 h0) ..).trans h0;rw[e];exact⟨by have:=h.ne;exact(CV.mpr this),by rw[g0];exact Tw _⟩
 ·have e:c5 fs n p v v c=v c-(v c).fdiv (v p)*v p:=wk (d2.mpr ⟨⟨a,O⟩,h0⟩) ae ..;rw[e];exact⟨(wm h.ne).1,(wm h.ne).2.1⟩
theorem eW.ss(h:eW fs n v p):GJ fs n (c5 fs n p v v):=⟨v p,h.ne,fun c a O=>by
 by_cases ae:c=p
 ·subst ae;rw[show c5 fs n c v v c=v c from oF ..];exact(Int.le_total 0 (v c)).elim (fun q=>Dk q q) fun q=>alO q q
 ·exact(h.rem a O ae).2⟩
theorem eW.y6(h:eW fs n v p){c:Nat}(a:fs<=c)(O:c<n):(c5 fs n p v v c).natAbs<=(v p).natAbs:=by
 by_cases ae:c=p
 ·subst ae;rw[show c5 fs n c v v c=v c from oF ..];exact cu _
 ·exact et (h.rem a O ae).1
theorem eW.ay(h:eW fs n v p){c:Nat}(ae:c∈cH fs n v):(v p).natAbs*(eU v p c).natAbs<=(v c).natAbs+(v p).natAbs:=by
 have:=wm (v:=v c) h.ne;unfold eU;rcases this.2.2.1 with e | e<;>(first | exact Uo e | exact Up this)
theorem eW.az(h:eW fs n v p)(s:GJ fs n v){c:Nat}(ae:c∈cH fs n v)(d:c≠p):(v p).natAbs*(eU v p c).natAbs<=(v c).natAbs/\(c5 fs n p v v c).natAbs+(v p).natAbs<=(v c).natAbs:=by
 obtain⟨u,f,b⟩:=s;have a:=d2.mp ae;have O:=d2.mp h.mem;have e:c5 fs n p v v c=v c-(v c).fdiv (v p)*v p:=wk ae d ..;have q:=(wm (v:=v c) h.ne).2.2.2 (afT f (b c a.1.1 a.1.2) (b p O.1.1 O.1.2));have ay:=(wm (v:=v c) h.ne).1;rw[e];unfold eU;have g:=h.le c ae;refine⟨(IS (id (gW q))),?_⟩;rcases alR ((v c).fdiv (v p)).natAbs with z|z
 ·rw[z,alS]at q;exact((ff (aG (aG (bx q) ay) g) (by simp +arith))).elim
 ·have:=cE (v p).natAbs z;exact fr (aG (bx q.symm) this) (by simp +arith)
end
noncomputable def N(n:Nat)(f:Nat->Nat):Nat:=match n with
 |0=>0
 |n+1=>N n f+f n
theorem mG{n:Nat}{f g:Nat->Nat}(h:∀j<n,f j<=g j):N n f<=N n g:=by
 induction n with
 |zero=>exact cu _
 |succ n ih=>exact aG (ih fun j a=>h j (j7 a)) (h n (aog n))
theorem y7{n W:Nat}{f:Nat->Nat}(h:∀j<n,f j<=W):N n f<=n*W:=by
 induction n with
 |zero=>exact d4 _
 |succ n ih=>rw[akq];exact aG (ih fun j a=>h j (j7 a)) (h n (aog n))
theorem B8{n:Nat}{f g:Nat->Nat}(h:∀j<n,f j=g j):N n f=N n g:=sQ (mG fun j a=>bx (h j a)) (mG fun j a=>bx (h j a).symm)
theorem GL(n a:Nat)(f:Nat->Nat):N n (fun c=>a*f c)=a*N n f:=by
 induction n with
 |zero=>exact(alS _).symm
 |succ n ih=>show N n _+a*f n=a*(N n f+f n);rw[ih,TJ]
theorem GN(n:Nat)(f:Nat->Int):(S n f).natAbs<=N n fun c=>(f c).natAbs:=by
 induction n with
 |zero=>exact cu _
 |succ n ih=>exact ax (z' _ _) (lx ih _)
theorem y8{n p:Nat}(b:p<n)(f:Nat->Nat):N n f=N n (fun c=>if c=p then 0 else f c)+f p:=by
 induction n with
 |zero=>exact dk b (nM _)
 |succ n ih=>
  show N n f+f n=N n (fun c=>if c=p then 0 else f c)+(if n=p then 0 else f n)+f p;by_cases h:n=p
  ·subst h;rw[bl rfl,B8 (g:=f) fun j d=>b5 (gV d)];rfl
  ·rw[b5 h,ih ((sT h).elim (fun a=>fr (aG (cE 2 b) a) (by simp +arith)) fun a=>fr a (by simp +arith))];exact uM _ _ _
theorem B9{n c:Nat}(ae:c<n)(f:Nat->Nat):f c<=N n f:=by rw[y8 ae];exact pZ _ _
inductive eX (n fs w:Nat)(P F B:a4):a4->a4->a4->Prop
 |nil:eX n fs w P F B P F B
 |turn {aE aY bY:a4} {p:Nat}:eX n fs w P F B aE aY bY->eW fs n (aE w) p->eX n fs w P F B (iC (cH fs n (aE w)) p (aE w) aE) (iC (cH fs n (aE w)) p (aE w) aY) (mF n (cH fs n (aE w)) p (aE w) bY)
def f2(fs n:Nat)(v u:Nat->Int):Int:=S n fun c=>if fs<=c then v c*u c else 0
def ii(fs n:Nat)(v u:Nat->Int):Nat:=N n fun c=>if fs<=c/\v c≠0 then (u c).natAbs else 0
abbrev lg(fs n p:Nat)(v u:Nat->Int):Nat->Int:=Qd n (cH fs n v) p v u
section
variable {fs n p:Nat}{v f u:Nat->Int}
theorem eW.act(h:eW fs n v p):fs<=p/\p<n:=(d2.mp h.mem).1
theorem B'{c:Nat}(h:c≠p):lg fs n p v u c=u c:=b5 h
theorem eW.wn(h:eW fs n v p):f2 fs n (c5 fs n p v v) (lg fs n p v u)=f2 fs n v u:=by
 unfold f2;generalize d:S n (fun c=>if c∈cH fs n v/\c≠p then eU v p c*u c else 0)=s;rw[cV (g:=fun c=>((if fs<=c then v c*u c else 0)+(- v p)*(if c∈cH fs n v/\c≠p then eU v p c*u c else 0))+(if c=p then v p*s else 0)) fun c ae=>?_,pG,yY,d,k8 h.act.2,z9,w4,Int.add_left_neg,aod];by_cases e:c=p
 ·subst e;rw[bl h.act.1,bl h.act.1,b5 (fun q=>q.2 rfl),bl rfl,aom,aod,show c5 fs n c v v c=v c from oF ..,show lg fs n c v u c=u c+s from (bl rfl).trans (dt _ d),Dj]
 ·rw[b5 e,aod,B' e];by_cases a:fs<=c
  ·rw[bl a,bl a];by_cases b:c∈cH fs n v
   ·rw[bl ⟨b,e⟩,show c5 fs n p v v c=v c-eU v p c*v p from wk b e ..,zL,w3,z9,sR,uL]
   ·rw[b5 fun q=>b q.1,show c5 fs n p v v c=v c from pK b ..,aom,aod]
  ·rw[b5 a,b5 a,b5 (fun q=>a (d2.mp q.1).1.1),aom];rfl
theorem eW.zero(h:eW fs n v p){c:Nat}(ae:c∉cH fs n v):c5 fs n p v v c=v c:=pK ae ..
theorem eW.back(h:eW fs n v p):(lg fs n p v u p).natAbs<=ii fs n v u+(f2 fs n v u).natAbs/\ii fs n (c5 fs n p v v) (lg fs n p v u)+(f2 fs n v u).natAbs<=2*(ii fs n v u+(f2 fs n v u).natAbs):=by
 have a:=h.act;have d:N n (fun c=>if c=p then 0 else if fs<=c/\c5 fs n p v v c≠0 then (u c).natAbs else 0)<=ii fs n v u:=mG fun c ae=>by
  by_cases e:c=p
  ·rw[bl e];exact d4 _
  ·rw[b5 e];by_cases q:fs<=c/\c5 fs n p v v c≠0
   ·rw[bl q,bl ⟨q.1,fun z=>q.2 ((pK (fun y=>(d2.mp y).2 z) ..).trans z)⟩];exact cu _
   ·rw[b5 q];exact d4 _
 have g:ii fs n (c5 fs n p v v) (lg fs n p v u)=N n (fun c=>if c=p then 0 else if fs<=c/\c5 fs n p v v c≠0 then (u c).natAbs else 0)+(lg fs n p v u p).natAbs:=by
  unfold ii;rw[y8 a.2];refine congr (dt _ (B8 fun c ae=>?_)) ?_
  ·by_cases e:c=p
   ·rw[bl e,bl e]
   ·rw[b5 e,b5 e,B' e]
  ·exact bl ⟨a.1,by rw[show c5 fs n p v v p=v p from oF ..];exact h.ne⟩
 generalize f:N n (fun c=>if c=p then 0 else if fs<=c/\c5 fs n p v v c≠0 then (u c).natAbs else 0)=X at d g;have i:(lg fs n p v u p).natAbs<=(f2 fs n v u).natAbs+X:=by
  have j:=h.wn (u:=u);have k:f2 fs n (c5 fs n p v v) (lg fs n p v u)=(S n fun c=>if c=p then 0 else if fs<=c then c5 fs n p v v c*u c else 0)+v p*lg fs n p v u p:=by
   unfold f2;rw[<- k8 a.2 (v p*lg fs n p v u p),<- pG];refine cV fun c ae=>?_;by_cases e:c=p
   ·subst e;rw[bl a.1,bl rfl,bl rfl,show c5 fs n c v v c=v c from oF ..,uR]
   ·rw[b5 e,b5 e,B' e,aod]
  have l:(S n fun c=>if c=p then 0 else if fs<=c then c5 fs n p v v c*u c else 0).natAbs<=(v p).natAbs*X:=by
   rw[<- f,<- GL];refine ax (GN ..) (mG fun c ae=>?_);by_cases e:c=p
   ·rw[bl e,bl e];exact d4 _
   ·rw[b5 e,b5 e];by_cases b:fs<=c
    ·rw[bl b];by_cases z:c5 fs n p v v c=0
     ·rw[z,g0];exact d4 _
     ·rw[bl ⟨b,z⟩,qb];exact mU _ (h.y6 b ae)
    ·rw[b5 b];exact d4 _
  have m:(v p).natAbs*(lg fs n p v u p).natAbs<=(v p).natAbs*((f2 fs n v u).natAbs+X):=by
   rw[<- qb,TJ];have o:(f2 fs n v u).natAbs<=(v p).natAbs*(f2 fs n v u).natAbs:=Aa _ (by have:=h.ne;exact xg this);rw[k]at j;exact Ur j l o
  exact Nat.le_of_mul_le_mul_left m (by have:=h.ne;exact xg this)
 rw[g];exact⟨(fr (aG d i) (by simp +arith)),(fr (aG (cE 2 d) i) (by simp +arith))⟩
theorem eW.GO(h:eW fs n v p){W Q:Nat}(b:∀c,fs<=c->c<n->(f c).natAbs<=W)(d:∀c∈cH fs n v,c≠p->(eU v p c).natAbs<=Q){c:Nat}(a:fs<=c)(O:c<n):(c5 fs n p v f c).natAbs<=W*(1+Q):=by
 by_cases q:c∈cH fs n v/\c≠p
 ·rw[show c5 fs n p v f c=f c-eU v p c*f p from wk q.1 q.2 ..];exact ax (B0 (b c a O) (b p h.act.1 h.act.2)).1 (cE _ (fv (d c q.1 q.2) _))
 ·rw[show c5 fs n p v f c=f c from b5 q];exact ax (b c a O) (o1 _ (Il (J9)))
theorem Qh(fs n:Nat)(v:Nat->Int):∀(k:Nat),(∃c,(fs<=c/\c<n)/\v c≠0/\(v c).natAbs<=k)->∃c,(fs<=c/\c<n)/\v c≠0/\∀d,fs<=d->d<n->v d≠0->(v c).natAbs<=(v d).natAbs:=by
 intro k
 induction k with
 |zero=>rintro⟨c,a,O,b⟩;exact dk (Je.mp (TM.mp b)) O
 |succ k ih=>
  rintro⟨c,a,O,b⟩;by_cases h:∃d,(fs<=d/\d<n)/\v d≠0/\(v d).natAbs<=k
  ·exact ih h
  ·exact⟨c,a,O,fun d ay az e=>ax b (xb fun q=>h ⟨d,⟨ay,az⟩,e,q⟩)⟩
end
section
variable {fs n p K L Z:Nat}{α:Int}{v f u:Nat->Int}
inductive y9 (fs n K L:Nat)(α:Int)(v f u:Nat->Int):Prop
 |go (W g b:Nat):1<=b->(∀c,fs<=c->c<n->(v c).natAbs<=g)->(∃c,(fs<=c/\c<n)/\(v c).natAbs=b)->(∀c,fs<=c->c<n->v c≠0->b<=(v c).natAbs)->GJ fs n v->(∀c,fs<=c->c<n->(f c).natAbs<=W)->W*(g*g*b)<=K->(ii fs n v u+α.natAbs)*(g*b)<=L->y9 fs n K L α v f u
 |fin:¬1<(cH fs n v).length->(∀c,fs<=c->c<n->(f c).natAbs<=2*K)->y9 fs n K L α v f u
structure wo (fs n K L Z:Nat)(α:Int)(v f u:Nat->Int):Prop where
 GP:y9 fs n K L α v f u
 wn:f2 fs n v u=α
 ub:∀c,fs<=c->c<n->(u c).natAbs<=Z
theorem wp(h:∀c,fs<=c->c<n->c≠p->v c=0):¬1<(cH fs n v).length:=gq.mpr (D6 (m:=[p]) (P9 fs n v) fun c ae=>by
 have:=d2.mp ae;exact c3.mpr (j6 fun e=>this.2 (h c this.1.1 this.1.2 e)))
theorem Ca(W m b:Nat):W*m*(m*b)=W*(m*m*b):=by rw[aou,aou]
theorem eW.ub(h:eW fs n v p)(bB:ii fs n v u+(f2 fs n v u).natAbs<=Z)(b:∀c,fs<=c->c<n->(u c).natAbs<=Z)(c:Nat)(a:fs<=c)(O:c<n):(lg fs n p v u c).natAbs<=Z:=by
 by_cases e:c=p
 ·rw[e];exact ax h.back.1 bB
 ·rw[B' e];exact b c a O
theorem eW.first(h:eW fs n v p){W m R:Nat}(i:∀c,fs<=c->c<n->(v c).natAbs<=m)(r:∀c,fs<=c->c<n->(f c).natAbs<=W)(j:ii fs n v u+(f2 fs n v u).natAbs<=R)(s:∀c,fs<=c->c<n->(u c).natAbs<=Z)(t:R<=Z) :
  wo fs n (3*W*(m*m*m)) (2*R*(m*m)) Z (f2 fs n v u) (c5 fs n p v v) (c5 fs n p v f) (lg fs n p v u):=by
 have d:1<=(v p).natAbs:=by have:=h.ne;exact Dy this
 have b:=i p h.act.1 h.act.2;have w:∀c∈cH fs n v,c≠p->(eU v p c).natAbs<=m / (v p).natAbs+1:=fun c ae V=>by
  have a:=h.ay ae;have O:=i c (d2.mp ae).1.1 (d2.mp ae).1.2;rw[<- alT m d];exact(alU d).mpr (by rw[sZ];exact fr (aG a O) (by simp +arith))
 have bL:∀c,fs<=c->c<n->(c5 fs n p v f c).natAbs<=W*(1+(m / (v p).natAbs+1)):=fun c a O=>h.GO r w a O;have k:W*(1+(m / (v p).natAbs+1))*(v p).natAbs<=3*W*m:=by
  have a:(m / (v p).natAbs)*(v p).natAbs<=m:=alV _ _;have O:(1+(m / (v p).natAbs+1))*(v p).natAbs<=3*m:=by
   rw[show 1+(m / (v p).natAbs+1)=m / (v p).natAbs+2 by exact kG 1 (_+1),TN];exact fr (aG (cE 2 b) a) (by simp +arith)
  rw[aou,sZ 3 W,aou];exact cE _ O
 have b2:=h.back (u:=u);refine⟨?_,h.wn,fun c a O=>h.ub (ax j t) s c a O⟩;by_cases ae:∃c,(fs<=c/\c<n)/\c≠p/\c5 fs n p v v c≠0
 ·refine fS ae fun x e z y=>?_;refine fS (Qh fs n (c5 fs n p v v) _ ⟨x,e,y,cu _⟩) fun l a O g=>?_;have o:=h.y6 a.1 a.2;refine .go _ (v p).natAbs (c5 fs n p v v l).natAbs (Dy O) (fun c ay az=>h.y6 ay az) ⟨l,a,rfl⟩ g h.ss bL ?_ ?_
  ·rw[<- Ca,<- Ca];exact p0 k (p0 b (ax o b))
  ·exact p0 (ax b2.2 (cE _ j)) (p0 b (ax o b))
 ·refine .fin (wp (p:=p) fun c a O g=>j6 fun q=>ae ⟨c,⟨a,O⟩,g,q⟩) fun c a O=>ax (bL c a O) ?_;refine ax (o1 _ d) (ax k ?_);rw[<- Ca];refine ax (o1 _ (uS (show 0<m by exact Kc d b) (show 0<m by exact Kc d b))) (Aa _ (by decide))
theorem wo.turn(h:eW fs n v p)(E:wo fs n K L Z α v f u)(F:L<=Z):wo fs n K L Z α (c5 fs n p v v) (c5 fs n p v f) (lg fs n p v u):=by
 obtain⟨G,wn,r⟩:=E;subst wn;cases G with
 |fin a O=>exact dk h.two a
 |go W g b i s hex H A I bc B=>
  refine aw hex fun J j d=>?_;have t:=h.ne;have k:(v p).natAbs=b:=sQ (d▸h.le J (d2.mpr ⟨j,by intro z;rw[z]at d;have:b=0:=d.symm;exact((ff (aG i (bx this)) (by simp +arith))).elim⟩)) (H p h.act.1 h.act.2 t);have w:b<=g:=k▸s p h.act.1 h.act.2;have M:∀c∈cH fs n v,c≠p->(eU v p c).natAbs<=g / b:=fun c ae l=>by
   have a:=(h.az A ae l).1;have O:=s c (d2.mp ae).1.1 (d2.mp ae).1.2;rw[k]at a;exact(alU i).mpr (by rw[sZ];exact ax a O)
  have bL:∀c,fs<=c->c<n->(c5 fs n p v f c).natAbs<=W*(1+g / b):=fun c a O=>h.GO I M a O;have C:W*(1+g / b)*b<=W*(2*g):=by
   have a:(g / b)*b<=g:=alV _ _;rw[aou];refine cE _ ?_;rw[TN];exact fr (aG w a) (by simp +arith)
  have b2:=h.back (u:=u);have N:ii fs n v u+(f2 fs n v u).natAbs<=L:=ax (o1 _ (uS (show 0<g by exact Kb t k w) i)) B;refine⟨?_,h.wn,fun c a O=>h.ub (ax N F) r c a O⟩;by_cases ae:∃c,(fs<=c/\c<n)/\c≠p/\c5 fs n p v v c≠0
  ·refine fS ae fun m d l j=>?_;refine fS (Qh fs n (c5 fs n p v v) _ ⟨m,d,j,cu _⟩) fun e a O o=>?_;have x:m∈cH fs n v:=d2.mpr ⟨d,fun z=>j ((pK (fun y=>(d2.mp y).2 z) ..).trans z)⟩;have D:2*(c5 fs n p v v e).natAbs<=g:=by
    have P:=o m d.1 d.2 j;have Q:=(h.az A x l).2;have R:=(h.rem d.1 d.2 l).1;have S:=s m d.1 d.2;exact fr (aG (aG (aG (cE 2 P) Q) R) S) (by simp +arith)
   refine .go _ b (c5 fs n p v v e).natAbs (Dy O) (fun c ay az=>k▸h.y6 ay az) ⟨e,a,rfl⟩ o h.ss bL ?_ ?_
   ·refine ax ?_ bc;rw[<- Ca];refine ax (mU _ C) ?_;rw[aou];refine cE _ ?_;rw[show 2*g*(b*(c5 fs n p v v e).natAbs)=g*b*(2*(c5 fs n p v v e).natAbs) by rw[sZ 2 g,aou,aou,TO 2 b],Nat.mul_right_comm g g b];exact cE _ D
   ·refine ax ?_ B;refine ax (mU _ b2.2) ?_;rw[show 2*(ii fs n v u+(f2 fs n v u).natAbs)*(b*(c5 fs n p v v e).natAbs)=(ii fs n v u+(f2 fs n v u).natAbs)*(2*(c5 fs n p v v e).natAbs*b) by rw[sZ 2,aou,sZ b,aou]];exact cE _ (mU _ D)
  ·refine .fin (wp (p:=p) fun c a O o=>j6 fun q=>ae ⟨c,⟨a,O⟩,o,q⟩) fun c a O=>ax (bL c a O) ?_;refine ax (o1 _ i) (ax C ?_);rw[TO];refine cE _ (ax (cE _ ?_) bc);rw[aou];exact o1 _ (uS (show 0<g by exact Kb t k w) i)
theorem y9.af3(E:y9 fs n K L α v f u){c:Nat}(a:fs<=c)(O:c<n):(f c).natAbs<=2*K:=by
 cases E with
 |fin ay az=>exact az c a O
 |go W g b e i hex l m j bc o=>
  refine aw hex fun k h d=>?_;have:=i k h.1 h.2;refine ax (j c a O) (ax (o1 _ (uS (uS (show 0<g by exact Ka e d this) (show 0<g by exact Ka e d this)) e)) (ax bc (Aa _ (by decide))))
end
theorem eX.any{n w:Nat}{B:a4}(h:eX n fs w P F B aE aY bY){W m R Z l j:Nat}(b:1<=m)(p:∀c,fs<=c->c<n->(P w c).natAbs<=m)(g:∀c,fs<=c->c<n->(F l c).natAbs<=W)(r:ii fs n (P w) (fun i=>B i j)+(f2 fs n (P w) fun i=>B i j).natAbs<=R)(k:∀c,fs<=c->c<n->(B c j).natAbs<=Z)(o:2*R*(m*m)<=Z) :
  (∀c,fs<=c->c<n->(aY l c).natAbs<=6*W*(m*m*m))/\∀c,fs<=c->c<n->(bY c j).natAbs<=Z:=by
 have d:1<=m*m*m:=uS (uS b b) b;have e:R<=Z:=ax (ax (Aa _ (by decide)) (o1 _ (uS b b))) o;have f:(aE=P/\aY=F/\bY=B)\/wo fs n (3*W*(m*m*m)) (2*R*(m*m)) Z (f2 fs n (P w) fun i=>B i j) (aE w) (aY l) fun i=>bY i j:=by
  induction h with
  |nil=>exact .inl ⟨rfl,rfl,rfl⟩
  |turn h q ih=>
   rcases ih with⟨rfl,rfl,rfl⟩|ih
   ·exact .inr (q.first p g r k e)
   ·exact .inr (wo.turn q ih o)
 rcases f with⟨rfl,rfl,rfl⟩|E
 ·refine⟨fun c a O=>ax (g c a O) ?_,k⟩;exact ax (Aa _ (by decide)) (o1 _ d)
 ·refine⟨fun c a O=>ax (E.GP.af3 a O) (bx ?_),E.ub⟩;rw[<- aou 2,<- aou 2 3]
theorem eX.unit{n w:Nat}{B:a4}(h:eX n fs w P F B aE aY bY){W m R Z l j x:Nat}(o:fs<=x/\x<n)(a:(P w x).natAbs=1)(u:∀c,fs<=c->c<n->(P w c).natAbs<=m)(r:∀c,fs<=c->c<n->(F l c).natAbs<=W)(y:ii fs n (P w) (fun i=>B i j)+(f2 fs n (P w) fun i=>B i j).natAbs<=Z)(s:∀c,fs<=c->c<n->(B c j).natAbs<=Z) :
  (∀c,fs<=c->c<n->(aY l c).natAbs<=W*(1+m))/\∀c,fs<=c->c<n->(bY c j).natAbs<=Z:=by
 have d:(aE=P/\aY=F/\bY=B)\/¬1<(cH fs n (aE w)).length/\(∀c,fs<=c->c<n->(aY l c).natAbs<=W*(1+m))/\∀c,fs<=c->c<n->(bY c j).natAbs<=Z:=by
  induction h with
  |nil=>exact .inl ⟨rfl,rfl,rfl⟩
  |@turn aZ bp cI p h q ih=>
   rcases ih with⟨rfl,rfl,rfl⟩|ih
   ·refine .inr ⟨?_,fun c O b=>?_,fun c O b=>q.ub y s c O b⟩
    ·refine wp (p:=p) fun c O b A=>?_;have C:=(q.rem O b A).1;have e:=q.le x (d2.mpr ⟨o,fun z=>by rw[z]at a;cases a⟩);exact Je.mp (by show (c5 fs n p (aZ w) (aZ w) c).natAbs=0;exact J' a C e)
    ·refine q.GO (f:=bp l) r (fun c ae G=>?_) O b;have e:=q.le x (d2.mpr ⟨o,fun z=>by rw[z]at a;cases a⟩);have g:=(wm (v:=aZ w c) q.ne);have t:=u c (d2.mp ae).1.1 (d2.mp ae).1.2;have D:(aZ w p).natAbs=1:=by have:=q.ne;exact sQ (a▸e) (CV.mpr this)
     unfold eU;rw[D,alW]at g;exact g.2.2.1.elim (fun k=>fr (aG t (bx k.symm)) (by simp +arith)) fun k=>fr (aG (aG g.1 t) (bx k.symm)) (by simp +arith)
   ·exact dk q.two ih.1
 rcases d with⟨rfl,rfl,rfl⟩|E
 ·exact⟨fun c a O=>ax (r c a O) (o1 _ (J9)),s⟩
 ·exact E.2
section
variable {n h w x:Nat}{P F B aE aY bY aZ bp cI:a4}
theorem eX.z(R:eX n h w P F B aE aY bY){c:Nat}(ae:c<h\/P w c=0):(c<h\/aE w c=0)/\(∀i,aY i c=F i c)/\∀j,bY c j=B c j:=by
 induction R with
 |nil=>exact⟨ae,fun i=>rfl,fun j=>rfl⟩
 |@turn aZ bp cI p R q ih=>
  have a:c∉cH h n (aZ w):=fun m=>ih.1.elim (fun z=>dk (d2.mp m).1.1 (zY z)) (d2.mp m).2;refine⟨ih.1.imp id fun z=>(pK a ..).trans z,fun i=>(pK a ..).trans (ih.2.1 i),fun j=>(b5 ?_).trans (ih.2.2 j)⟩;intro e;exact a (e▸q.mem)
theorem eX.eq(R:eX n h w P F B aE aY bY){k l:Nat}(e:∀c,h<=c->c<n->F k c=F l c):∀c,h<=c->c<n->aY k c=aY l c:=by
 induction R with
 |nil=>exact e
 |@turn aZ bp cI p R q ih=>
  intro c a O;show mE (cH h n (aZ w)) p (aZ w) (bp k) c=mE (cH h n (aZ w)) p (aZ w) (bp l) c;unfold mE;rw[ih c a O,ih p q.act.1 q.act.2]
theorem eX.nul(R:eX n h w P F B aE aY bY){k:Nat}(e:∀c,h<=c->c<n->F k c=0):∀c,h<=c->c<n->aY k c=0:=by
 induction R with
 |nil=>exact e
 |@turn aZ bp cI p R q ih=>
  intro c a O;show mE (cH h n (aZ w)) p (aZ w) (bp k) c=0;unfold mE;rw[ih c a O,ih p q.act.1 q.act.2,aom];exact ite_self 0
theorem eX.out(R:eX n h w P F B aE aY bY){l:Nat}(e:∀d,h<=d->d<n->P w d≠0->F l d=0):∀d,h<=d->d<n->aY l d=F l d:=by
 induction R with
 |nil=>exact fun d V V=>rfl
 |@turn aZ bp cI p R q ih=>
  intro d a O;have b:bp l p=0:=(ih p q.act.1 q.act.2).trans (e p q.act.1 q.act.2 fun z=>(R.z (.inr z)).1.elim (fun y=>dk q.act.1 (zY y)) q.ne);show mE (cH h n (aZ w)) p (aZ w) (bp l) d=F l d;unfold mE;rw[b,aom,CR,ite_self];exact ih d a O
theorem eX.once(R:eX n h w P F B aE aY bY)(f:∃c,(h<=c/\c<n)/\(P w c).natAbs=1):(aE=P/\aY=F/\bY=B)\/∃p,eW h n (P w) p/\aE=iC (cH h n (P w)) p (P w) P/\aY=iC (cH h n (P w)) p (P w) F/\bY=mF n (cH h n (P w)) p (P w) B:=by
 induction R with
 |nil=>exact .inl ⟨rfl,rfl,rfl⟩
 |@turn aZ bp cI p R q ih=>
  rcases ih with⟨rfl,rfl,rfl⟩ |⟨d,e,rfl,rfl,rfl⟩
  ·exact .inr ⟨p,q,rfl,rfl,rfl⟩
  ·refine dk q.two (wp (p:=d) fun c b O g=>?_);refine aw f fun i j a=>?_;have k:=(e.rem b O g).1;have l:=e.le i (d2.mpr ⟨j,fun z=>by rw[z]at a;cases a⟩);exact Je.mp (by show (c5 h n d (P w) (P w) c).natAbs=0;exact J' a k l)
structure pL (h x:Nat)(aE aY bY aZ bp cI:a4):Prop where
 f:∀i c,h<c->bp i c=aY i (b3 x h c)
 p:∀i c,h<c->aZ i c=aE i (b3 x h c)
 fa:∀i c,(bp i c).natAbs=(aY i (b3 x h c)).natAbs
 ce:∀c j,(cI c j).natAbs=(bY (b3 x h c) j).natAbs
inductive hP (n h w:Nat)(P F B aZ bp cI:a4):Prop
 |mk (aE aY bY:a4) (x:Nat):eX n h w P F B aE aY bY->(h<=x/\x<n)->aE w x≠0->(∀c,h<=c->c<n->c≠x->aE w c=0)->pL h x aE aY bY aZ bp cI->hP n h w P F B aZ bp cI
theorem qX(b:h<=x/\x<n){c:Nat}(a:h<c)(O:c<n):(h<=b3 x h c/\b3 x h c<n)/\b3 x h c≠x:=by
 unfold b3;by_cases e:c=x
 ·rw[bl e];exact Us a O e
 ·rw[b5 e,b5 (s8 a)];exact⟨⟨et a,O⟩,e⟩
theorem Cb(a:h<=x/\x<n){c:Nat}(O:c<n):b3 x h c<n:=oA a.2 (fR a.1 a.2) O
theorem GS(f:h<=x/\x<n){d:Nat}(b:h<=d)(O:d<n)(g:d≠x):∃c,(h<c/\c<n)/\b3 x h c=d:=by
 by_cases e:d=h
 ·refine⟨x,(⟨(sT g).elim (fun a=>fr (aG (bx e.symm) a) (by simp +arith)) fun a=>fr (aG (aG (cE 2 f.1) (bx e)) a) (by simp +arith),fr f.2 (by simp +arith)⟩),?_⟩;rw[e];exact uf x h
 ·exact⟨d,(⟨(sT e).elim (fun a=>fr (aG (cE 2 b) a) (by simp +arith)) fun a=>fr a (by simp +arith),fr O (by simp +arith)⟩),pI g e⟩
theorem hP.eq(H:hP n h w P F B aZ bp cI){k l:Nat}(e:∀c,h<=c->c<n->F k c=F l c):∀c,h+1<=c->c<n->bp k c=bp l c:=by
 cases H with
 |mk aE aY bY x R b d bB N=>
  intro c a O;have:=qX b a O;rw[N.f _ _ a,N.f _ _ a];exact R.eq e _ this.1.1 this.1.2
theorem hP.nul(H:hP n h w P F B aZ bp cI){k:Nat}(e:∀c,h<=c->c<n->F k c=0):∀c,h+1<=c->c<n->bp k c=0:=by
 cases H with
 |mk aE aY bY x R b d bB N=>
  intro c a O;have:=qX b a O;rw[N.f _ _ a];exact R.nul e _ this.1.1 this.1.2
theorem hP.own(H:hP n h w P F B aZ bp cI):∀c,h+1<=c->c<n->aZ w c=0:=by
 cases H with
 |mk aE aY bY x R b d bB N=>
  intro c a O;have:=qX b a O;rw[N.p _ _ a];exact bB _ this.1.1 this.1.2 this.2
theorem hP.col(H:hP n h w P F B aZ bp cI){d:Nat}(a:h<=d)(O:d<n)(g:P w d=0):∃c,(h+1<=c/\c<n)/\∀i,bp i c=F i d:=by
 cases H with
 |mk aE aY bY x R j k bB N=>
  have z:=R.z (c:=d) (.inr g);have b:d≠x:=fun e=>z.1.elim (fun q=>dk a (zY q)) fun q=>k (e▸q);refine aw (GS j a O b) fun c ae e=>?_;exact⟨c,ae,fun i=>by rw[N.f _ _ ae.1,e];exact z.2.1 i⟩
end
def sm(n h:Nat)(f:Nat->Int)(c:Nat):Prop:=(h<=c/\c<n)/\f c=1/\∀d,h<=d->d<n->d≠c->f d=0
def so(n h:Nat)(F:a4)(D:Nat->Prop):Prop:=∀l,l<n->D l->∃c,sm n h (F l) c/\∀k,k<n->¬D k->F k c=0
section
variable {n h w m x:Nat}{A P F B aE aY bY aZ bp cI:a4}{D:Nat->Prop}
theorem hP.apart(H:hP n h w P F B aZ bp cI)(I:eJ n m A P F B)(aF:w<m)(J:so n h F D)(K:∀l,l<n->D l->A w l=0):so n (h+1) bp D:=by
 intro l L ck;refine aw (J l L ck) fun c b C=>?_;have bB:P w c=0:=by
  rw[I.k9 w aF c b.1.2];refine mC fun k j=>?_;by_cases o:D k
  ·rw[K k j o,g0]
  ·rw[C k j o,aom]
 cases H with
 |mk aE aY bY x R E M Q N=>
  have z:=R.z (c:=c) (.inr bB);have r:c≠x:=fun e=>z.1.elim (fun q=>dk b.1.1 (zY q)) fun q=>M (e▸q);refine aw (GS E b.1.1 b.1.2 r) fun d p e=>?_;refine⟨d,⟨p,by rw[N.f _ _ p.1,e];exact(z.2.1 l).trans b.2.1,fun s g O S=>?_⟩,fun k j o=>by rw[N.f _ _ p.1,e];exact(z.2.1 k).trans (C k j o)⟩;have a:=qX E g O;rw[N.f _ _ g];have t:b3 x h s≠c:=fun q=>S (by
   rw[<- e]at q;unfold b3 at q;have G:h<s:=g;have u:h<d:=p.1;by_cases v:s=x
   ·rw[bl v]at q;by_cases i:d=x
    ·rw[v,i]
    ·rw[b5 i,b5 (s8 u)]at q;exact(Ke q u).elim
   ·rw[b5 v,b5 (s8 G)]at q;by_cases i:d=x
    ·rw[bl i]at q;exact(Kd q G).elim
    ·rw[b5 i,b5 (s8 u)]at q;exact q)
  refine(R.out (fun d ay az T=>b.2.2 d ay az fun y=>T (y▸bB)) _ a.1.1 a.1.2).trans (b.2.2 _ a.1.1 a.1.2 t)
end
def oG(n h:Nat)(f:Nat->Int):Prop:=(∀c,h<=c->c<n->f c=0)\/∃a,sm n h f a
section
variable {n h w x m:Nat}{A P F B aE aY bY aZ bp cI:a4}{f g:Nat->Int}
theorem sm.at{a:Nat}(u:sm n h f a){c:Nat}(b:h<=c)(O:c<n):f c=if c=a then 1 else 0:=by
 by_cases e:c=a
 ·rw[bl e,e];exact u.2.1
 ·rw[b5 e];exact u.2.2 c b O e
theorem oG.at(u:oG n h f):∃a b:Nat,(b=0\/b=1)/\∀c,h<=c->c<n->f c=if c=a/\b=1 then 1 else 0:=by
 rcases u with z |⟨a,u⟩
 ·exact⟨0,0,.inl rfl,fun c d O=>(z c d O).trans (b5 fun q=>nomatch q.2).symm⟩
 ·refine⟨a,1,.inr rfl,fun c d O=>(u.at d O).trans (y5 ⟨fun q=>⟨q,rfl⟩,fun q=>q.1⟩)⟩
theorem Cc(R:eX n h w P F B aE aY bY)(k:h<=x/\x<n)(S:aE w x≠0)(bB:∀c,h<=c->c<n->c≠x->aE w c=0)(T:oG n h f)(U:oG n h g)(K:∀c,h<=c->c<n->P w c=f c-g c) :
  (∃c,(h<=c/\c<n)/\(P w c).natAbs=1)/\P w x≠0/\∃o,(h<=o/\o<n)/\(o≠x->P w o≠0)/\(o=x->∀c,h<=c->c<n->c≠x->P w c=0)/\∀i d,h<=d->d<n->aY i d=if d=o/\o≠x then F i o+F i x else F i d:=by
 refine bZ T.at fun a s hs L=>?_;refine bZ U.at fun b t ht M=>?_;have u:P w x≠0:=fun z=>(R.z (c:=x) (.inr z)).1.elim (fun q=>dk k.1 (zY q)) S;have N:∃c,(h<=c/\c<n)/\(P w c).natAbs=1:=by
  refine⟨x,k,?_⟩;rw[K x k.1 k.2,L x k.1 k.2,M x k.1 k.2]at u ⊢;by_cases ay:x=a/\s=1
  ·by_cases az:x=b/\t=1
   ·rw[bl ay,bl az]at u;exact dk rfl u
   ·rw[bl ay,b5 az];rfl
  ·by_cases az:x=b/\t=1
   ·rw[b5 ay,bl az];rfl
   ·rw[b5 ay,b5 az]at u;exact dk rfl u
 refine⟨N,u,?_⟩;rcases R.once N with⟨rfl,rfl,rfl⟩ |⟨p,q,rfl,rfl,rfl⟩
 ·exact⟨x,k,fun e=>dk rfl e,fun V=>bB,fun i d V V=>(b5 fun e=>e.2 rfl).symm⟩
 ·have W:p=x:=j6 fun e=>by
   have:=bB p q.act.1 q.act.2 e;exact q.ne ((oF (cH h n (P w)) p (P w) (P w)).symm.trans this)
  subst W
  obtain⟨o,Q,v⟩:∃o,o∈cH h n (P w)/\o≠p:=j6 fun e=>by
   refine wp (p:=p) (fun c j O l=>j6 fun z=>e ⟨c,d2.mpr ⟨⟨j,O⟩,z⟩,l⟩) q.two
  have y:=d2.mp Q;have E:∀c,h<=c->c<n->P w c=(if c=a/\s=1 then 1 else 0)-(if c=b/\t=1 then 1 else 0):=fun c j O=>by rw[K c j O,L c j O,M c j O]
  have G:∀c,h<=c->c<n->P w c≠0->(c=a/\s=1/\P w c=1)\/(c=b/\t=1/\P w c = -1):=fun c j O l=>by
   rw[E c j O]at l ⊢;by_cases ay:c=a/\s=1
   ·by_cases az:c=b/\t=1
    ·rw[bl ay,bl az]at l;exact dk rfl l
    ·rw[bl ay,b5 az];exact .inl ⟨ay.1,ay.2,rfl⟩
   ·by_cases az:c=b/\t=1
    ·rw[b5 ay,bl az];exact .inr ⟨az.1,az.2,rfl⟩
    ·rw[b5 ay,b5 az]at l;exact dk rfl l
  have j:=G p q.act.1 q.act.2 q.ne;have O:=G o y.1.1 y.1.2 y.2;have X:eU (P w) p o = -1:=by
   unfold eU;rcases j with⟨m,V,A⟩ |⟨m,V,A⟩<;>rcases O with⟨r,V,C⟩ |⟨r,V,C⟩
   ·exact dk (r.trans m.symm) v
   ·rw[A,C];rfl
   ·rw[A,C];rfl
   ·exact dk (r.trans m.symm) v
  have Y:∀d,d∈cH h n (P w)->d≠p->d=o:=fun d D H=>by
   have I:=d2.mp D;have l:=G d I.1.1 I.1.2 I.2;rcases j with⟨m,V,A⟩ |⟨m,V,A⟩<;>rcases O with⟨r,V,C⟩ |⟨r,V,C⟩<;>rcases l with⟨J,V,Z⟩ |⟨J,V,Z⟩
   all_goals first | exact J.trans r.symm | exact dk (J.trans m.symm) H | exact dk (r.trans m.symm) v
  refine⟨o,y.1,fun V=>y.2,fun e=>dk e v,fun i d ay az=>?_⟩;show mE (cH h n (P w)) p (P w) (F i) d=_;by_cases e:d=o
  ·rw[bl ⟨e,v⟩,wk (e▸Q) (e▸v),e,X];exact by simp +arith
  ·rw[b5 fun z=>e z.1];by_cases D:d∈cH h n (P w)/\d≠p
   ·exact dk (Y d D.1 D.2) e
   ·exact b5 D
theorem Qj{l o:Nat}(j:h<=x/\x<n)(k:h<=o/\o<n)(N:pL h x aE aY bY aZ bp cI)(e:∀d,h<=d->d<n->aY l d=if d=o/\o≠x then F l o+F l x else F l d){a:Nat}(u:sm n h (F l) a)(t:a=x->o≠x):∃c,sm n (h+1) (bp l) c/\b3 x h c=(if a=x then o else a):=by
 have aF:∀b,(h<=b/\b<n)->b≠x->(∀d,h<=d->d<n->d≠x->aY l d=if d=b then 1 else 0)->∃c,sm n (h+1) (bp l) c/\b3 x h c=b:=fun b p A bL=>by
  refine aw (GS j p.1 p.2 A) fun c ae v=>?_;refine⟨c,⟨ae,?_,fun d g O r=>?_⟩,v⟩
  ·rw[N.f _ _ ae.1,v,bL b p.1 p.2 A,bl rfl]
  ·have s:=qX j g O;rw[N.f _ _ g,bL _ s.1.1 s.1.2 s.2,b5];intro q;refine r ?_;rw[<- v]at q;unfold b3 at q;have B:h<d:=g;have w:h<c:=ae.1;by_cases y:d=x
   ·rw[bl y]at q;by_cases m:c=x
    ·rw[y,m]
    ·rw[b5 m,b5 (s8 w)]at q;exact(Ke q w).elim
   ·rw[b5 y,b5 (s8 B)]at q;by_cases m:c=x
    ·rw[bl m]at q;exact(Kd q B).elim
    ·rw[b5 m,b5 (s8 w)]at q;exact q
 by_cases i:a=x
 ·rw[bl i];refine aF o k (t i) fun d g O r=>?_;rw[e d g O,u.at k.1 k.2,u.at j.1 j.2,u.at g O];by_cases q:d=o
  ·rw[bl ⟨q,t i⟩,b5 (by rw[i];exact t i),bl i.symm,bl q];rfl
  ·rw[b5 fun z=>q z.1,b5 q,b5 (by rw[i];exact r)]
 ·rw[b5 i];refine aF a u.1 i fun d g O r=>?_;rw[e d g O,u.at k.1 k.2,u.at j.1 j.2,u.at g O];by_cases q:d=o/\o≠x
  ·rw[bl q,q.1,show (if x=a then (1:Int) else 0)=0 from b5 fun z=>i z.symm,aod]
  ·rw[b5 q]
def Cd(n h:Nat)(F:a4):Prop:=∀l,l<n->oG n h (F l)
theorem hP.simple(H:hP n h w P F B aZ bp cI)(i:Cd n h F)(j:oG n h f)(k:oG n h g)(m:∀c,h<=c->c<n->P w c=f c-g c):Cd n (h+1) bp:=by
 cases H with
 |mk aE aY bY x R b p bB N=>
  obtain⟨V,A,o,d,r,O,e⟩:=Cc R b p bB j k m;intro l t;rcases i l t with z |⟨a,u⟩
  ·refine .inl fun c ay az=>?_;have s:=qX b ay az;rw[N.f _ _ ay,e l _ s.1.1 s.1.2,z _ d.1 d.2,z _ b.1 b.2,z _ s.1.1 s.1.2];exact ite_self 0
  ·by_cases q:a=x/\o=x
   ·refine .inl fun c ay az=>?_;have s:=qX b ay az;rw[N.f _ _ ay,e l _ s.1.1 s.1.2,b5 fun z=>z.2 q.2,u.2.2 _ s.1.1 s.1.2 (q.1▸s.2)]
   ·refine aw (Qj (l:=l) b d N (e l) u fun v y=>q ⟨v,y⟩) fun c ae V=>?_;exact .inr ⟨c,ae⟩
theorem hP.within{D:Nat->Prop}(H:hP n h w P F B aZ bp cI)(z:so n h F D){k1 y:Nat}(U:D k1)(W:D y)(X:k1<n)(Y:y<n)(m:∀c,h<=c->c<n->P w c=F k1 c-F y c):so n (h+1) bp D/\∀l,l<n->¬D l->∀c,h+1<=c->c<n->∃d,(h<=d/\d<n)/\bp l c=F l d:=by
 cases H with
 |mk aE aY bY x R g Z bB N=>
  refine aw (z k1 X U) fun a i sa=>?_;refine aw (z y Y W) fun b ub cT=>?_;obtain⟨V,A,o,j,C,O,e⟩:=Cc R g Z bB (.inr ⟨a,i⟩) (.inr ⟨b,ub⟩) m;have E:∀c,h<=c->c<n->P w c≠0->c=a\/c=b:=fun c ay az G=>by
   rw[m c ay az,i.at ay az,ub.at ay az]at G;by_cases K:c=a
   ·exact .inl K
   ·by_cases L:c=b
    ·exact .inr L
    ·rw[b5 K,b5 L]at G;exact dk rfl G
  have I:o≠x:=fun ox=>by
   have M:=O ox;by_cases p:a=b
   ·refine A ?_;rw[m x g.1 g.2,i.at g.1 g.2,ub.at g.1 g.2,p,TP]
   ·rcases E x g.1 g.2 A with ex|ex
    ·have:=M b ub.1.1 ub.1.2 (fun q=>p (ex▸q.symm));rw[m b ub.1.1 ub.1.2,i.at ub.1.1 ub.1.2,ub.at ub.1.1 ub.1.2,b5 (fun q=>p q.symm),bl rfl]at this;exact dk this (by decide)
    ·have:=M a i.1.1 i.1.2 (fun q=>p (ex▸q));rw[m a i.1.1 i.1.2,i.at i.1.1 i.1.2,ub.at i.1.1 i.1.2,bl rfl,b5 p]at this;exact dk this (by decide)
  have Q:∀k,k<n->¬D k->F k x=0/\F k o=0:=fun k r t=>by
   have ae:∀c,(c=a\/c=b)->F k c=0:=fun c q=>q.elim (fun q=>q▸sa k r t) fun q=>q▸cT k r t;exact⟨ae x (E x g.1 g.2 A),ae o (E o j.1 j.2 (C I))⟩
  refine⟨fun l J ck=>?_,fun l J ck c ay az=>?_⟩
  ·refine aw (z l J ck) fun c u s=>?_;refine aw (Qj (l:=l) g j N (e l) u fun V=>I) fun d S GY=>?_;refine⟨d,S,fun k r t=>?_⟩;rw[N.f _ _ S.1.1,GY];have:=Q k r t;by_cases T:c=x
   ·rw[bl T,e k o j.1 j.2,bl ⟨rfl,I⟩,this.1,this.2];rfl
   ·rw[b5 T,e k c u.1.1 u.1.2];by_cases v:c=o/\o≠x
    ·rw[bl v,this.1,this.2];rfl
    ·rw[b5 v];exact s k r t
  ·have s:=qX g ay az;have:=Q l J ck;rw[N.f _ _ ay,e l _ s.1.1 s.1.2];by_cases v:b3 x h c=o/\o≠x
   ·exact⟨o,j,by rw[bl v,this.1,aod]⟩
   ·exact⟨_,s.1,b5 v⟩
end
section
variable {n m h w x f g aL:Nat}{A P F B aE aY bY aZ bp cI:a4}
theorem eX.pp(R:eX n h w P F B aE aY bY):eX n h w P P B aE aE bY:=by
 induction R with
 |nil=>exact .nil
 |turn R q ih=>exact .turn ih q
structure mH (n:Nat)(F B:a4)(f g:Nat):Prop where
 f:∀l<n,∀c<n,(F l c).natAbs<=2^f
 b:∀c<n,∀j<n,(B c j).natAbs<=2^g
theorem mH.mono{f' g':Nat}(H:mH n F B f g)(a:f<=f')(O:g<=g'):mH n F B f' g':=⟨fun l d c ae=>ax (H.f l d c ae) (hV (by decide) a),fun l d c ae=>ax (H.b l d c ae) (hV (by decide) O)⟩
variable {u v:Nat->Int}
theorem agb(hn:n<=2^6)(a:∀c<n,(u c).natAbs<=2^g):ii h n v u<=2^(6+g):=by
 rw[jw];refine ax (y7 (W:=2^g) fun c ae=>?_) (mU _ hn);split
 ·exact a c ae
 ·exact d4 _
theorem agc(hn:n<=2^6)(a:∀c,h<=c->c<n->(v c).natAbs<=2^aL)(b:∀c<n,(u c).natAbs<=2^g):(f2 h n v u).natAbs<=2^(6+(aL+g)):=by
 rw[jw];refine ax (GN ..) (ax (y7 (W:=2^(aL+g)) fun c ae=>?_) (mU _ hn));by_cases q:h<=c
 ·rw[bl q,qb,jw];exact p0 (a c q ae) (b c ae)
 ·rw[b5 q];exact d4 _
theorem Qm(hn:n<=2^6)(d:∀c,h<=c->c<n->(v c).natAbs<=2^aL)(b:∀c<n,(u c).natAbs<=2^g):ii h n v u+(f2 h n v u).natAbs<=2^(7+aL+g):=by
 have a:=agb (h:=h) (v:=v) hn b;have O:=agc hn d b;have e:2^(6+g)<=2^(6+(aL+g)):=hV (by decide) (by simp +arith);rw[show 7+aL+g=(6+(aL+g))+1 by exact by simp +arith,nQ];exact fr (aG (aG a O) e) (by simp +arith)
theorem Qn(aL:Nat):2^aL*2^aL*2^aL=2^(3*aL):=by rw[<- jw,<- jw];congr 1;exact by simp +arith
theorem eX.GZ(R:eX n h w P F B aE aY bY)(hn:n<=2^6)(k:∀c,h<=c->c<n->(P w c).natAbs<=2^aL)(H:mH n F B f g):mH n aY bY (f+3*aL+3) (g+3*aL+8):=by
 have d:∀l<n,∀j<n,(∀c,h<=c->c<n->(aY l c).natAbs<=6*2^f*(2^aL*2^aL*2^aL))/\∀c,h<=c->c<n->(bY c j).natAbs<=2^(g+3*aL+8):=fun l e j a=>by
  refine R.any (R:=2^(7+aL+g)) (kI (by decide)) k (fun c i O=>H.f l e c O) (Qm hn k fun c ae=>H.b c ae j a) (fun c i O=>ax (H.b c O j a) (hV (by decide) (Kh))) ?_;rw[<- jw,<- Nat.pow_succ',<- jw];exact hV (by decide) (by exact by simp +arith)
 refine⟨fun l e c ae=>?_,fun c ae j a=>?_⟩
 ·by_cases q:h<=c
  ·refine ax ((d l e l e).1 c q ae) ?_;rw[Qn,aou,<- jw,show f+3*aL+3=3+(f+3*aL) by exact gW (kG 3 (_+3*_)),jw 2 3];exact mU _ (by decide)
  ·rw[(R.z (.inl (xb q))).2.1 l];exact ax (H.f l e c ae) (hV (by decide) (by simp +arith))
 ·by_cases q:h<=c
  ·exact(d j a j a).2 c q ae
  ·rw[(R.z (.inl (xb q))).2.2 j];exact ax (H.b c ae j a) (hV (by decide) (by exact Kh))
theorem eX.G0(R:eX n h w P F B aE aY bY)(hn:n<=2^6)(k:∃c,(h<=c/\c<n)/\(P w c).natAbs=1)(m:∀c,h<=c->c<n->(P w c).natAbs<=2^aL)(H:mH n F B f g):mH n aY bY (f+aL+1) (g+aL+7):=by
 refine aw k fun x k a=>?_;have e:∀l<n,∀j<n,(∀c,h<=c->c<n->(aY l c).natAbs<=2^f*(1+2^aL))/\∀c,h<=c->c<n->(bY c j).natAbs<=2^(g+aL+7):=fun l i j d=>by
  refine R.unit (R:=0) k a m (fun c a O=>H.f l i c O) ?_ (fun c a O=>ax (H.b c O j d) (hV (by decide) (Kf)));rw[show g+aL+7=7+aL+g by exact by simp +arith];exact Qm hn m fun c ae=>H.b c ae j d
 refine⟨fun l i c ae=>?_,fun c ae j d=>?_⟩
 ·by_cases q:h<=c
  ·refine ax ((e l i l i).1 c q ae) ?_;rw[eK,jw,nQ];have:1<=2^aL:=kI (by decide);exact cE _ (Kg this)
  ·rw[(R.z (.inl (xb q))).2.1 l];exact ax (H.f l i c ae) (hV (by decide) (by simp +arith))
 ·by_cases q:h<=c
  ·exact(e j d j d).2 c q ae
  ·rw[(R.z (.inl (xb q))).2.2 j];exact ax (H.b c ae j d) (hV (by decide) (Kf))
theorem wq{lam:Nat}(I:eJ n m A P F B)(aF:w<m)(a:N n (fun l=>(A w l).natAbs)<=2^lam)(b:∀l<n,∀c<n,(F l c).natAbs<=2^f){c:Nat}(ae:c<n):(P w c).natAbs<=2^(f+lam):=by
 rw[I.k9 w aF c ae];refine ax (GN ..) ?_;rw[jw];refine ax (mG (g:=fun l=>2^f*(A w l).natAbs) fun l d=>?_) ?_
 ·rw[qb,sZ];exact mU _ (b l d c ae)
 ·rw[GL];exact cE _ a
theorem pL.fb(N:pL h x aE aY bY aZ bp cI)(a:h<=x/\x<n)(H:mH n aY bY f g):mH n bp cI f g:=⟨fun l d c ae=>by rw[N.fa];exact H.f l d _ (Cb a ae),fun c ae j e=>by rw[N.ce];exact H.b _ (Cb a ae) j e⟩
end
inductive pM (n m:Nat)(A:a4):Nat->Nat->a4->a4->a4->Prop
 |nil {P F B:a4}:eJ n m A P F B->(∀l<n,∀c<n,F l c=ck l c)->(∀l<n,∀c<n,B l c=ck l c)->pM n m A 0 0 P F B
 |zero {i h:Nat} {P F B:a4}:pM n m A i h P F B->(∀c,h<=c->c<n->P i c=0)->pM n m A (i+1) h P F B
 |head {i h:Nat} {P F B aZ bp cI:a4}:pM n m A i h P F B->hP n h i P F B aZ bp cI->eJ n m A aZ bp cI->pM n m A (i+1) (h+1) aZ bp cI
inductive dU where
 |plain (x y:Option Nat)
 |zero (j:Nat)
 |unit (l:Nat)
 |wide (x y:Nat)
 |join (x:Nat)
 |nB
 |any
noncomputable def bJ(x:Option Nat)(l:Nat):Int:=if x=some l then 1 else 0
def dU.pz(k:dU):Prop:=match k with
 |.plain V f9=>True
 |V=>False
def dU.nC(k:dU):Prop:=match k with
 |.join V=>True
 |V=>False
def dU.bg(k:dU):Prop:=match k with
 |.join V=>True
 |.wide V f9=>True
 |V=>False
noncomputable def dU.f(k:dU)(f:Nat):Nat:=match k with
 |.unit V=>2*f+6
 |.join V=>2*f+6
 |.nB=>4*f+12
 |.any=>4*f+18
 |V=>f
noncomputable def cz(kd:Nat->dU)(i:Nat):Nat:=match i with
 |0=>0
 |i+1=>(kd i).f (cz kd i)
def jq(n:Nat)(x:Option Nat):Prop:=∀l,x=some l->l<n
def ws(n:Nat)(A:a4)(D:Nat->Prop)(kd:Nat->dU)(i:Nat):Prop:=match kd i with
 |.plain x y=>(∀j<i,(kd j).pz)/\jq n x/\jq n y/\∀l<n,A i l=bJ x l-bJ y l
 |.zero j=>j<i/\∀l<n,A i l=A j l
 |.unit l=>l<n/\(A i l).natAbs=1/\∀j<i,A j l=0
 |.wide x y=>(x<n/\D x)/\(y<n/\D y)/\(∀j<i,¬(kd j).nC)/\∀l<n,A i l=bJ (some x) l-bJ (some y) l
 |.join x=>(x<n/\D x)/\(A i x).natAbs=1/\(∀l<n,l≠x->D l->A i l=0)/\∀j<i,¬(kd j).nC
 |.nB=>N n (fun l=>(A i l).natAbs)<=2^3
 |.any=>True
structure pN (n:Nat)(A:a4)(D:Nat->Prop)(kd:Nat->dU)(i:Nat):Prop where
 k:ws n A D kd i
 a:N n (fun l=>(A i l).natAbs)<=2^5
 d:¬(kd i).bg->∀l<n,D l->A i l=0
structure jZ (n m:Nat)(A:a4)(D:Nat->Prop)(kd:Nat->dU)(i h:Nat)(P F B:a4):Prop where
 inv:eJ n m A P F B
 fb:mH n F B (cz kd i) (cz kd i+8*i)
 wt:∀j<i,∀c,h<=c->c<n->P j c=0
 nS:(∀j<i,(kd j).pz)->Cd n h F
 fr:∀l<n,(∀j<i,A j l=0)->so n h F (·=l)
 ap:(∀j<i,¬(kd j).nC)->so n h F D
section
variable {n m i h:Nat}{A P F B aE aY bY aZ bp cI:a4}{D:Nat->Prop}{kd:Nat->dU}
theorem agd(k:dU)(f:Nat):f<=k.f f:=by cases k<;>(unfold dU.f;simp only;(first | exact(cu _) | exact Kl | exact(by simp +arith) | exact by simp +arith))
theorem G1(kd:Nat->dU)(i:Nat):cz kd i<=cz kd (i+1):=agd _ _
noncomputable def sp(F:a4)(x:Option Nat)(c:Nat):Int:=match x with
 |some k=>F k c
 |none=>0
theorem Qo{x:Option Nat}(a:jq n x)(F:a4)(c:Nat):(S n fun l=>bJ x l*F l c)=sp F x c:=by
 cases x with
 |none=>exact mC fun l V=>by unfold bJ;rw[b5 (fun q=>dS q),g0]
 |some k=>
  show _=F k c;rw[<- k8 (a k rfl) (F k c)];refine cV fun l V=>?_;unfold bJ;by_cases e:l=k
  ·rw[bl (by rw[e]),bl e,e,w2]
  ·rw[b5 (fun q=>e (dp q).symm),b5 e,g0]
theorem wu(I:eJ n m A P F B)(hi:i<m){x y:Option Nat}(a:jq n x)(b:jq n y)(d:∀l<n,A i l=bJ x l-bJ y l){c:Nat}(ae:c<n):P i c=sp F x c-sp F y c:=by
 rw[I.k9 i hi c ae,<- Qo a F c,<- Qo b F c,cV (g:=fun l=>bJ x l*F l c+(-1)*(bJ y l*F l c)) fun l e=>?_,yY]
 ·exact by simp +arith
 ·rw[d l e,zL];exact by simp +arith
theorem ul(S:Cd n h F){x:Option Nat}(a:jq n x):oG n h (sp F x):=by
 cases x with
 |none=>exact .inl fun c V V=>rfl
 |some k=>exact S k (a k rfl)
theorem Ce{l:Nat}(I:eJ n m A P F B)(hi:i<m)(a:l<n)(ck:D l)(f:so n h F D)(g:∀k<n,k≠l->D k->A i k=0):∃c,(h<=c/\c<n)/\P i c=A i l:=by
 refine aw (f l a ck) fun c u s=>?_;refine⟨c,u.1,?_⟩;rw[I.k9 i hi c u.1.2,<- k8 a (A i l)];refine cV fun k b=>?_;by_cases e:k=l
 ·rw[bl e,e,u.2.1,oU]
 ·rw[b5 e];by_cases d:D k
  ·rw[g k b e d,g0]
  ·rw[s k b d,aom]
theorem jZ.rows(G:jZ n m A D kd i h P F B)(V:pN n A D kd i)(hi:i<m){c:Nat}(ae:c<n):(P i c).natAbs<=2^(cz kd i+5):=wq G.inv hi V.a G.fb.f ae
def dU.an(k:dU):Prop:=match k with
 |.nB=>True
 |.any=>True
 |V=>False
noncomputable def dU.r(k:dU)(f:Nat):Nat:=match k with
 |.nB=>4*f
 |.any=>4*f
 |V=>2*f
variable {f:Nat->Int}
theorem Qp(u:oG n h f){c:Nat}(b:h<=c)(O:c<n):f c=0\/f c=1:=by
 refine bZ u.at fun a s e d=>?_;rw[d c b O];by_cases q:c=a/\s=1
 ·rw[bl q];exact .inr rfl
 ·rw[b5 q];exact .inl rfl
theorem Qq{v g:Nat->Int}(i:oG n h f)(j:oG n h g)(k:∀c,h<=c->c<n->v c=f c-g c):(∃c,(h<=c/\c<n)/\(v c).natAbs=1)\/∀c,h<=c->c<n->v c=0:=by
 by_cases q:∃c,(h<=c/\c<n)/\v c≠0
 ·refine aw q fun c ae d=>?_;refine .inl ⟨c,ae,?_⟩;rw[k c ae.1 ae.2]at d ⊢;rcases Qp i ae.1 ae.2 with a | a<;>rcases Qp j ae.1 ae.2 with b | b<;>rw[a,b]at d ⊢<;>first | rfl | exact dk rfl d
 ·exact .inr fun c e O=>j6 fun z=>q ⟨c,⟨e,O⟩,z⟩
theorem jZ.one(G:jZ n m A D kd i h P F B)(V:pN n A D kd i)(hi:i<m)(o:¬(kd i).an):(∃c,(h<=c/\c<n)/\(P i c).natAbs=1)\/∀c,h<=c->c<n->P i c=0:=by
 have d:=V.k;unfold ws at d;cases f:kd i with
 |any=>rw[f]at o;exact dk trivial o
 |nB=>rw[f]at o;exact dk trivial o
 |unit l=>
  rw[f]at d;refine aw (Ce (D:=(·=l)) G.inv hi d.1 rfl (G.fr l d.1 d.2.2) fun k V g O=>dk O g) fun c ae e=>?_;exact .inl ⟨c,ae,by rw[e];exact d.2.1⟩
 |join x=>
  rw[f]at d;refine aw (Ce G.inv hi d.1.1 d.1.2 (G.ap d.2.2.2) d.2.2.1) fun c ae e=>?_;exact .inl ⟨c,ae,by rw[e];exact d.2.1⟩
 |zero j=>
  rw[f]at d;refine .inr fun x g O=>?_;rw[G.inv.k9 i hi x O,<- G.wt j d.1 x g O,G.inv.k9 j (jt d.1 hi) x O];exact cV fun l s=>by rw[d.2 l s]
 |plain a b=>
  rw[f]at d;have p:=G.nS d.1;exact Qq (ul p d.2.1) (ul p d.2.2.1) fun c t ae=>wu G.inv hi d.2.1 d.2.2.1 d.2.2.2 ae
 |wide a b=>
  rw[f]at d;have r:=G.ap d.2.2.1;have u:jq n (some a):=fun l q=>dp q▸d.1.1;have ob:jq n (some b):=fun l q=>dp q▸d.2.1.1;refine aw (r a d.1.1 d.1.2) fun v w V=>?_;refine aw (r b d.2.1.1 d.2.1.2) fun y ub V=>?_;exact Qq (.inr ⟨v,w⟩) (.inr ⟨y,ub⟩) fun c t ae=>wu G.inv hi u ob d.2.2.2 ae
theorem eX.age(R:eX n h i P F B aE aY bY)(bB:∀c,h<=c->c<n->P i c=0):aE=P/\aY=F/\bY=B:=by
 induction R with
 |nil=>exact⟨rfl,rfl,rfl⟩
 |turn R q ih=>obtain⟨rfl,rfl,rfl⟩:=ih;exact dk (bB _ q.act.1 q.act.2) q.ne
theorem jZ.Qr(G:jZ n m A D kd i h P F B)(e:∀k<m,N n (fun l=>(A k l).natAbs)<=2^5):iA n m (2^(cz kd i+8*i+5)) P F B:=by
 have a:=G.fb.mono (f':=cz kd i+8*i+5) (g':=cz kd i+8*i+5) (by simp +arith) (bO (_+8*_) 5);exact⟨fun k d c ae=>ax (wq G.inv d (e k d) G.fb.f ae) (hV (by decide) (by simp +arith)),a.f,a.b⟩
theorem jZ.reach(G:jZ n m A D kd i h P F B)(V:pN n A D kd i)(hi:i<m)(hn:n<=2^6)(g:∀k<m,N n (fun l=>(A k l).natAbs)<=2^5)(R:eX n h i P F B aE aY bY):iA n m (2^((kd i).r (cz kd i)+8*i+40)) aE aY bY:=by
 have o:∀c,h<=c->c<n->(P i c).natAbs<=2^(cz kd i+5):=fun c p ae=>G.rows V hi ae;have u:∀k<m,∀c<n,¬h<=c->(aE k c).natAbs<=2^(cz kd i+5):=fun k d c ae q=>by
  rw[(R.pp.z (.inl (xb q))).2.1 k];exact wq G.inv d (g k d) G.fb.f ae
 have H:cz kd i<=(kd i).r (cz kd i):=by cases kd i<;>(unfold dU.r;simp only;(first | exact(by simp +arith) | exact by simp +arith))
 by_cases e:(kd i).an
 ·have s:(kd i).r (cz kd i)=4*cz kd i:=by cases t:kd i<;>rw[t]at e<;>first | rfl | exact e.elim
  rw[s];have a:=(R.GZ hn o G.fb).mono (f':=4*cz kd i+8*i+40) (g':=4*cz kd i+8*i+40) (by simp +arith) (by simp +arith);refine⟨fun k d c ae=>?_,a.f,a.b⟩;by_cases q:h<=c
  ·have O:=(R.pp.any (m:=2^(cz kd i+5)) (W:=2^(cz kd i+5)) (l:=k) (j:=0) (R:=ii h n (P i) (fun i=>B i 0)+(f2 h n (P i) fun i=>B i 0).natAbs) (Z:=2*(ii h n (P i) (fun i=>B i 0)+(f2 h n (P i) fun i=>B i 0).natAbs)*(2^(cz kd i+5)*2^(cz kd i+5))+N n fun c=>(B c 0).natAbs) (kI (by decide)) o (fun c p ae=>wq G.inv d (g k d) G.fb.f ae) (cu _) (fun c p ae=>ax (B9 ae fun c=>(B c 0).natAbs) (pZ _ _)) (bO _ _)).1 c q ae;refine ax O ?_;rw[Qn,aou,<- jw];refine ax (mU _ (show 6<=2^3 by decide)) ?_;rw[<- jw];exact hV (by decide) (by simp +arith)
  ·exact ax (u k d c ae q) (hV (by decide) (by simp +arith))
 ·have s:(kd i).r (cz kd i)=2*cz kd i:=by cases t:kd i<;>rw[t]at e<;>first | rfl | exact dk trivial e
  rw[s];rcases G.one V hi e with v|bB
  ·have a:=(R.G0 hn v o G.fb).mono (f':=2*cz kd i+8*i+40) (g':=2*cz kd i+8*i+40) (by simp +arith) (by simp +arith);refine⟨fun k d c ae=>?_,a.f,a.b⟩;by_cases q:h<=c
   ·refine aw v fun x w a=>?_;have O:=(R.pp.unit (m:=2^(cz kd i+5)) (W:=2^(cz kd i+5)) (l:=k) (j:=0) (R:=0) (Z:=(ii h n (P i) (fun i=>B i 0)+(f2 h n (P i) fun i=>B i 0).natAbs)+N n fun c=>(B c 0).natAbs) w a o (fun c p ae=>wq G.inv d (g k d) G.fb.f ae) (bO _ _) (fun c p ae=>ax (B9 ae fun c=>(B c 0).natAbs) (pZ _ _))).1 c q ae;refine ax O ?_;have:1+2^(cz kd i+5)<=2^(cz kd i+6):=by rw[nQ 2 (cz kd i+5)];have:1<=2^(cz kd i+5):=kI (by decide);exact Kg this
    refine ax (cE _ this) ?_;rw[<- jw];exact hV (by decide) (by simp +arith)
   ·exact ax (u k d c ae q) (hV (by decide) (by simp +arith))
  ·refine mV (R.age bB) fun y C E=>?_;subst y C E;exact(G.Qr g).mono (hV (by decide) (by simp +arith))
theorem jZ.zero(G:jZ n m A D kd i h P F B)(bB:∀c,h<=c->c<n->P i c=0):jZ n m A D kd (i+1) h P F B:=by
 refine⟨G.inv,G.fb.mono (G1 kd i) (by have:=G1 kd i;exact Uu this),fun j a c b O=>?_,fun q=>G.nS fun j a=>q j (by exact s9 a),fun l d q=>G.fr l d fun j a=>q j (by exact s9 a),fun q=>G.ap fun j a=>q j (by exact s9 a)⟩;by_cases e:j=i
 ·rw[e];exact bB c b O
 ·exact G.wt j (Kk a e) c b O
theorem hP.wt(H:hP n h i P F B aZ bp cI){k:Nat}(e:∀c,h<=c->c<n->P k c=0):∀c,h+1<=c->c<n->aZ k c=0:=by
 cases H with
 |mk aE aY bY x R b d bB N=>
  intro c a O;have:=qX b a O;rw[N.p _ _ a];exact R.pp.nul e _ this.1.1 this.1.2
theorem jZ.agf(G:jZ n m A D kd i h P F B)(V:pN n A D kd i)(hi:i<m)(hn:n<=2^6)(H:hP n h i P F B aZ bp cI):mH n bp cI (cz kd (i+1)) (cz kd (i+1)+8*(i+1)):=by
 have H0:=H;cases H with
 |mk aE aY bY x R g Q bB N=>
  have aq:∀c,h<=c->c<n->(P i c).natAbs<=2^(cz kd i+5):=fun c S ae=>G.rows V hi ae;have r:=V.k;unfold ws at r;show mH n bp cI ((kd i).f (cz kd i)) ((kd i).f (cz kd i)+8*(i+1));have unit:(∃c,(h<=c/\c<n)/\(P i c).natAbs=1)->mH n bp cI (2*cz kd i+6) (2*cz kd i+6+8*(i+1)):=fun q=>
   N.fb g ((R.G0 hn q aq G.fb).mono (by simp +arith) (by simp +arith))
  have zc:(∃c,(h<=c/\c<n)/\(P i c).natAbs=1)->(∀c,h<=c->c<n->(P i c).natAbs<=2^1)->∀c<n,∀j<n,(cI c j).natAbs<=2^(cz kd i+8*(i+1)):=fun ay az=>
   (N.fb g ((R.G0 hn ay az G.fb).mono (f':=cz kd i+1+1) (g':=cz kd i+8*(i+1)) (cu _) (cu (_+8*_+1+7)))).b
  cases E:kd i with
  |any=>exact N.fb g ((R.GZ hn aq G.fb).mono (by show _<=4*cz kd i+18;exact by simp +arith) (by show _<=4*cz kd i+18+8*(i+1);exact by simp +arith))
  |nB=>
   rw[E]at r;have T:∀c,h<=c->c<n->(P i c).natAbs<=2^(cz kd i+3):=fun c S ae=>wq G.inv hi r G.fb.f ae;exact N.fb g ((R.GZ hn T G.fb).mono (by show _<=4*cz kd i+12;exact by simp +arith) (by show _<=4*cz kd i+12+8*(i+1);exact by simp +arith))
  |unit l=>
   rw[E]at r;refine aw (Ce (D:=(·=l)) G.inv hi r.1 rfl (G.fr l r.1 r.2.2) fun k V p O=>dk O p) fun c ae e=>?_;exact unit ⟨c,ae,by rw[e];exact r.2.1⟩
  |join x=>
   rw[E]at r;refine aw (Ce G.inv hi r.1.1 r.1.2 (G.ap r.2.2.2) r.2.2.1) fun c ae e=>?_;exact unit ⟨c,ae,by rw[e];exact r.2.1⟩
  |zero j=>
   rw[E]at r;have U:P i x=0:=by
    rw[G.inv.k9 i hi x g.2,<- G.wt j r.1 x g.1 g.2,G.inv.k9 j (jt r.1 hi) x g.2];exact cV fun l t=>by rw[r.2 l t]
   exact dk ((R.z (.inr U)).1.resolve_left (aj6 g.1)) Q
  |plain a b=>
   rw[E]at r;refine Jl r fun je v w W=>?_;have L:=G.nS je;have I:∀c,h<=c->c<n->P i c=sp F a c-sp F b c:=fun c S ae=>wu G.inv hi v w W ae;obtain⟨X,U,o,J,FC,vl,e⟩:=Cc R g Q bB (ul L v) (ul L w) I;have Qs:∀{x:Option Nat},jq n x->∀c,h<=c->c<n->sp F x c=0\/sp F x c=1:=fun g c p O=>by
    refine bZ ((ul L g).at) fun a s K ea=>?_;rw[ea c p O];by_cases q:c=a/\s=1
    ·rw[bl q];exact .inr rfl
    ·rw[b5 q];exact .inl rfl
   refine⟨fun l t c ae=>?_,zc X fun c p O=>?_⟩
   ·show _<=2^cz kd i;rw[N.fa];have K:=Cb g ae;by_cases q:h<=b3 x h c
    ·rw[e l _ q K];by_cases az:b3 x h c=o/\o≠x
     ·rw[bl az];have M:1<=2^cz kd i:=kI (by decide);rcases L l t with z |⟨k,u⟩
      ·rw[z o J.1 J.2,z x g.1 g.2];exact d4 _
      ·rw[u.at J.1 J.2,u.at g.1 g.2];by_cases C:o=k
       ·rw[bl C,b5 (fun y=>az.2 (C.trans y.symm))];exact M
       ·rw[b5 C];by_cases y:x=k
        ·rw[bl y];exact M
        ·rw[b5 y];exact d4 _
     ·rw[b5 az];exact G.fb.f l t _ K
    ·rw[(R.z (.inl (xb q))).2.1 l];exact G.fb.f l t _ K
   ·rw[I c p O];rcases Qs v c p O with q|q<;>rcases Qs w c p O with iQ|iQ<;>rw[q,iQ]<;>decide
  |wide a b=>
   rw[E]at r;refine Jl r fun v w am W=>?_;have oa:jq n (some a):=fun l q=>dp q▸v.1;have ob:jq n (some b):=fun l q=>dp q▸w.1;have Y:=G.ap am;have I:∀c,h<=c->c<n->P i c=F a c-F b c:=fun c S ae=>wu G.inv hi oa ob W ae;refine aw (Y a v.1 v.2) fun ca jp sa=>?_;refine aw (Y b w.1 w.2) fun kr ub cT=>?_;obtain⟨X,U,o,J,FC,vl,e⟩:=Cc R g Q bB (.inr ⟨ca,jp⟩) (.inr ⟨kr,ub⟩) I;have dF:=H0.within Y v.2 w.2 v.1 w.1 I;have M:1<=2^cz kd i:=kI (by decide);refine⟨fun l t c ae=>?_,zc X fun c p O=>?_⟩
   ·show _<=2^cz kd i;by_cases q:h+1<=c
    ·by_cases ck:D l
     ·refine aw (dF.1 l t ck) fun d u V=>?_;rw[u.at q ae];by_cases az:c=d
      ·rw[bl az];exact M
      ·rw[b5 az];exact d4 _
     ·refine aw (dF.2 l t ck c q ae) fun d hd GY=>?_;rw[GY];exact G.fb.f l t _ hd.2
    ·rw[N.fa];have K:=Cb g ae;by_cases az:c=h
     ·have:b3 x h c=x:=by
       rw[az];unfold b3;by_cases C:h=x
       ·rw[bl C];exact C
       ·rw[b5 C,bl rfl]
      rw[this,e l x g.1 g.2,b5 (fun q=>q.2 q.1.symm)];exact G.fb.f l t _ g.2
     ·have:b3 x h c=c:=pI (fun e=>(sT az).elim (fun Z=>ff (aG (aG g.1 (bx e.symm)) Z) (by simp +arith)) fun Z=>ff (aG (SM q) Z) (by simp +arith)) az;rw[this,(R.z (.inl (show c<h by exact Ut q az))).2.1 l];exact G.fb.f l t _ ae
   ·rw[I c p O,jp.at p O,ub.at p O];by_cases q:c=ca<;>by_cases iQ:c=kr
    ·rw[bl q,bl iQ];decide
    ·rw[bl q,b5 iQ];decide
    ·rw[b5 q,bl iQ];decide
    ·rw[b5 q,b5 iQ];decide
theorem jZ.head(G:jZ n m A D kd i h P F B)(V:pN n A D kd i)(hi:i<m)(hn:n<=2^6)(H:hP n h i P F B aZ bp cI)(s:eJ n m A aZ bp cI):jZ n m A D kd (i+1) (h+1) aZ bp cI:=by
 have f:=V.k;unfold ws at f;refine⟨s,G.agf V hi hn H,fun j g=>?_,fun q=>?_,fun l t q=>?_,fun q=>?_⟩
 ·by_cases e:j=i
  ·rw[e];exact H.own
  ·exact H.wt (G.wt j (Kk g e))
 ·have p:=G.nS fun j g=>q j (s9 g);have:=q i (aog i);cases o:kd i with
  |plain a b=>
   rw[o]at f;exact H.simple p (ul p f.2.1) (ul p f.2.2.1) fun c u ae=>wu G.inv hi f.2.1 f.2.2.1 f.2.2.2 ae
  |_=>rw[o]at this;exact this.elim
 ·exact H.apart G.inv hi (G.fr l t fun j g=>q j (s9 g)) fun k f e=>by rw[e];exact q i (aog i)
 ·have r:=G.ap fun j g=>q j (s9 g);have g:=q i (aog i);have other:¬(kd i).bg->so n (h+1) bp D:=fun w=>H.apart G.inv hi r (V.d w);cases o:kd i with
  |wide a b=>
   rw[o]at f;have v:jq n (some a):=fun l q=>dp q▸f.1.1;have ob:jq n (some b):=fun l q=>dp q▸f.2.1.1;exact(H.within r f.1.2 f.2.1.2 f.1.1 f.2.1.1 fun c u ae=>wu G.inv hi v ob f.2.2.2 ae).1
  |join a=>rw[o]at g;exact dk trivial g
  |_=>exact other (by rw[o];exact id)
theorem pM.good(W:pM n m A i h P F B)(o:∀k<m,pN n A D kd k)(hn:n<=2^6)(hi:i<=m):jZ n m A D kd i h P F B:=by
 induction W with
 |@nil pJ cQ qP I bL b2=>
  have un:∀l<n,sm n 0 (cQ l) l:=fun l a=>⟨⟨d4 _,a⟩,by rw[bL l a l a,yZ],fun d f p e=>by rw[bL l a d p,pH (fun q=>e q.symm)]⟩;have g:∀k<n,∀l<n,k≠l->cQ k l=0:=fun k b l a e=>by rw[bL k b l a,pH e]
  refine⟨I,⟨fun l a c ae=>?_,fun l a c ae=>?_⟩,fun j r=>dk r (nM _),fun f l a=>.inr ⟨l,un l a⟩,fun l a f k b e=>⟨l,e▸un l a,fun s t e'=>g s t l a e'⟩,fun f l a ck=>⟨l,un l a,fun k b u=>g k b l a fun e=>u (e▸ck)⟩⟩
  ·rw[bL l a c ae];show (ck l c).natAbs<=2^0;unfold ck;split<;>decide
  ·rw[b2 l a c ae];show (ck l c).natAbs<=2^0;unfold ck;split<;>decide
 |zero W bB ih=>exact(ih (Kj hi)).zero bB
 |head W H I ih=>exact(ih (Kj hi)).head (o _ (Ki hi)) (Ki hi) hn H I
end
theorem Qu(h:x.natAbs<=2^e):Ab x<=e+1:=by
 unfold Ab;split
 ·exact d4 _
 ·have a:x.natAbs<2^(e+1):=fR h (Nat.pow_lt_pow_right (by decide) (aog e));rcases alR x.natAbs with h0|hp
  ·rw[h0];exact w0 (d4 _)
  ·have:=(akK (kF hp)).mpr a;exact Il this
theorem wv{f:Nat}(b:x.natAbs<=2^e)(c:y.natAbs<=2^f)(h:e+f<=130000000):IntMulOk x y:=by
 have a:=Qu b;have O:=Qu c;have ae:alX (Ab x+Ab y)=false:=by
  unfold alX bitsLine;exact d8 fun q=>(gq.mpr (ax (aG a O) (ax (show e+1+(f+1)<=130000002 from fr h (by simp +arith)) (show 130000002<=2^27 by decide)))) (kE.mp (show ((2^27:Nat):Int)<((Ab x+Ab y:Nat):Int) from q))
 unfold IntMulOk;rw[ae];simp
section
variable {keep:Nat->Prop}{s dn b0 b1 lb n m:Nat}{ra fa:Nat->Nat}{σ:ah}{ce:Nat->Nat}{A P F B:a4}
theorem agi(ks:List Nat):kh (ks.map aof)=true:=rQ.mpr fun v a=>by obtain⟨k,V,rfl⟩:=dQ.mp a;rfl
theorem agj(σ:ah)(ks:List Nat):mX σ .Eq (.lst (ks.map aof)) (.lst [])=some ks.isEmpty:=dt some (by cases ks<;>rfl)
def Cf(s w fs:Nat)(sr:List Nat)(a:Nat):a':=.eV 9 [some (.ref s),some (.int w),some (.int fs),none,some (.lst (sr.map aof)),none,some (.ref a),none,none]
theorem agk(s w fs:Nat)(b:List Nat)(a:Nat):cY (Cf s w fs b a):=pD rfl
def G2(s w fs:Nat)(sr:List Nat)(a b:Nat):a':=.eV 9 [some (.ref s),some (.int w),some (.int fs),none,some (.lst (sr.map aof)),some (.int b),some (.ref a),none,none]
theorem agl(s w fs:Nat)(c:List Nat)(a b:Nat):cY (G2 s w fs c a b):=pD rfl
def Cg(fs n:Nat)(v:Nat->Int):Nat:=N n fun c=>if fs<=c then (v c).natAbs else 0
variable {fs p:Nat}
theorem agm{n:Nat}(a:p<n){f g:Nat->Nat}(h:∀j<n,f j<=g j)(b:f p<g p):N n f<N n g:=by
 rw[y8 a f,y8 a g];refine Nat.add_lt_add_of_le_of_lt (mG fun j c=>?_) b;split
 ·exact cu _
 ·exact h j c
variable {v:Nat->Int}
theorem eW.lt{n:Nat}(h:eW fs n v p):Cg fs n (c5 fs n p v v)<Cg fs n v:=by
 obtain⟨o,d,f⟩:∃o,o∈cH fs n v/\o≠p:=j6 fun e=>wp (p:=p) (fun c b O g=>j6 fun z=>e ⟨c,d2.mpr ⟨⟨b,O⟩,z⟩,g⟩) h.two;have a:=d2.mp d;refine agm a.1.2 (fun c ae=>?_) ?_
 ·by_cases q:fs<=c
  ·rw[bl q,bl q];by_cases z:v c=0
   ·rw[h.zero fun y=>(d2.mp y).2 z];exact cu _
   ·exact ax (h.y6 q ae) (h.le c (d2.mpr ⟨⟨q,ae⟩,z⟩))
  ·rw[b5 q,b5 q];exact cu _
 ·rw[bl a.1.1,bl a.1.1];exact an9 (h.rem a.1.1 a.1.2 f).1 (h.le o d)
structure Wh (keep:Nat->Prop)(s dn b0 b1 lb n m:Nat)(ra fa:Nat->Nat)(A P F B:a4)(σ:ah)(w fs t:Nat)(ρ:a')(au:ah)(oD:Nat->Nat)(P' jd lM:a4):Prop where
 ρ:ρ=Cf s w fs (cH fs n (P' w)) (ra w)
 C:dy keep s dn b0 b1 lb n m ra fa au oD P' jd lM
 st:bh n m fs A P B P' jd lM
 t:Cg fs n (P' w)=t
 rt:eX n fs w P F B P' jd lM
 fr:∀a,keep a->au[a]?=σ[a]?
inductive G3 (keep:Nat->Prop)(s dn b0 b1 lb n m:Nat)(ra fa:Nat->Nat)(A P F B:a4)(σ:ah)(w fs:Nat)(R:be an2):Prop
 |mk (r:Bool) (au:ah) (oD:Nat->Nat) (P' jd lM:a4):R=.ok (.bool r) au->dy keep s dn b0 b1 lb n m ra fa au oD P' jd lM->(∀a,keep a->au[a]?=σ[a]?)->bh n m fs A P B P' jd lM ->
   (r=false->(P'=P/\jd=F/\lM=B)/\∀c,fs<=c->c<n->P w c=0)->(r=true->fs<n/\0<P' w fs/\(∀c,fs<c->c<n->P' w c=0)/\hP n fs w P F B P' jd lM)->G3 keep s dn b0 b1 lb n m ra fa A P F B σ w fs R
inductive Qv (keep:Nat->Prop)(s dn b0 b1 lb n m:Nat)(ra fa:Nat->Nat)(A P F B:a4)(σ:ah)(w fs:Nat)(t:Nat)(ρ:a')(au:ah):Prop
 |mk (oD:Nat->Nat) (P' jd lM:a4):Wh keep s dn b0 b1 lb n m ra fa A P F B σ w fs t ρ au oD P' jd lM->Qv keep s dn b0 b1 lb n m ra fa A P F B σ w fs t ρ au
inductive Qw (keep:Nat->Prop)(s dn b0 b1 lb n m:Nat)(ra fa:Nat->Nat)(A P B aE aY bY:a4)(σ:ah)(w fs b:Nat)(done:List Nat)(cB:a')(au:ah):Prop
 |mk (h:cB=G2 s w fs (cH fs n (aE w)) (ra w) b) (qZ:Nat->Nat):dy keep s dn b0 b1 lb n m ra fa au qZ (iC done b (aE w) aE) (iC done b (aE w) aY) (mF n done b (aE w) bY)->(∀a,keep a->au[a]?=σ[a]?)->bh n m fs A P B (iC done b (aE w) aE) (iC done b (aE w) aY) (mF n done b (aE w) bY)->Qw keep s dn b0 b1 lb n m ra fa A P B aE aY bY σ w fs b done cB au
theorem ago{n:Nat}{v':Nat->Int}(h:∀c,v c=0->v' c=0):(cH fs n v).filter (fun c=>!(v' c==0))=cH fs n v':=by
 unfold cH;rw[List.filter_filter];refine List.filter_congr fun c ae=>?_;by_cases a:v c=0
 ·rw[h c a];rfl
 ·rw[show (v c==0)=false from beq_eq_false_iff_ne.mpr a];cases (v' c==0)<;>rfl
theorem G4(ds:List Nat)(b:Nat)(v:Nat->Int)(M:a4)(i:Nat):iC ds b v M i b=M i b:=oF ..
theorem Qx{ds:List Nat}{c:Nat}(h:c∉ds)(b:Nat)(v:Nat->Int)(M:a4)(i:Nat):iC ds b v M i c=M i c:=pK h ..
theorem agp{i b:Nat}(h:i≠b)(n:Nat)(ds:List Nat)(v:Nat->Int)(B:a4)(j:Nat):mF n ds b v B i j=B i j:=b5 h
theorem Ch(a:Nat)(j:Nat):b3 a a j=j:=by
 unfold b3;by_cases e:j=a
 ·rw[bl e,e]
 ·rw[b5 e,b5 e]
theorem Qy(h:Nat)(P F B:a4):pL h h P F B P F B:=⟨fun i c V=>by rw[Ch],fun i c V=>by rw[Ch],fun i c=>by rw[Ch],fun c j=>by rw[Ch]⟩
theorem Qz(h x:Nat)(P F B:a4):pL h x P F B (fun i j=>P i (b3 x h j)) (fun i j=>F i (b3 x h j)) (fun i j=>B (b3 x h i) j):=⟨fun i c V=>rfl,fun i c V=>rfl,fun i c=>rfl,fun c j=>rfl⟩
theorem QA{a j:Nat}(h:j≠a)(P:a4)(i:Nat):gn a P i j=P i j:=b5 h
theorem agq(a:Nat)(P:a4)(i j:Nat):(gn a P i j).natAbs=(P i j).natAbs:=by
 unfold gn;split
 ·exact KO
 ·rfl
theorem agr(a:Nat)(B:a4)(i j:Nat):(lc a B i j).natAbs=(B i j).natAbs:=by
 unfold lc;split
 ·exact KO
 ·rfl
theorem pL.gn{h x:Nat}{aE aY bY aZ bp cI:a4}(N:pL h x aE aY bY aZ bp cI):pL h x aE aY bY (gn h aZ) (gn h bp) (lc h cI):=⟨fun i c q=>(QA (kF q) ..).trans (N.f i c q),fun i c q=>(QA (kF q) ..).trans (N.p i c q),fun i c=>(agq ..).trans (N.fa i c),fun c j=>(agr ..).trans (N.ce c j)⟩
theorem ags(C:dy keep s dn b0 b1 lb n m ra fa σ ce P F B)(hn:n<=1000)(Y:m<=1000)(cr:eJ n m A P F B){w fs:Nat}(aF:w<m)(hf:fs<=n){E:Nat}(d6:E<=64000000)(hs:∀aE aY bY,eX n fs w P F B aE aY bY->iA n m (2^E) aE aY bY)(d:Nat) :
  G3 keep s dn b0 b1 lb n m ra fa A P F B σ w fs (bF G (d+2) "Columns.cleared" [.ref s,.int w,.int fs] σ):=by
 refine bK C.tab fun qt an=>?_;refine ou (P:=G3 keep s dn b0 b1 lb n m ra fa A P F B σ w fs) aeU rfl rfl rfl fun c at_=>?_;refine an3.mk (C.uh at_) ?_;refine cj (mD C.hr (jz Y aF) (jW _ aF)) ?_;refine cm (y3 (C.rw w aF) (Gx ..) (i6 hn)) ?_;refine cm (w:=.v (.eP fs n)) (bl ⟨(o4 hn),(ax hf (ax hn (by decide)))⟩) ?_;refine eB.pure aof (fun c=>!(P w c==0)) aof (oE fs n) (GK hf) rfl rfl (fun x o=>?_) ?_ ?_
 ·have:=P8.mp o;exact⟨cj (lf (C.rw w aF) hn this.2) ⟨rfl,rfl⟩,fun V=>⟨rfl,rfl⟩⟩
 ·rw[a0];exact b9 (ax (Qa fs n (P w)) (i6 hn))
 ·refine vY.inv (Qv keep s dn b0 b1 lb n m ra fa A P F B σ w fs) (fun t ρ au h=>by obtain⟨V,V,V,V,h⟩:=h;exact h.ρ▸agk _ _ _ _ _) ?_ (Cg fs n (P w)) ⟨Cf s w fs (cH fs n (P w)) (ra w),rfl,ce,P,F,B,⟨rfl,C,bh.eV cr,rfl,.nil,fun V V=>rfl⟩⟩;intro t ρ aj Z;obtain⟨ww,aE,aY,bY,h⟩:=Z;obtain⟨rfl,H,zd,rfl,Ci,L⟩:=h;have ab:=hs _ _ _ Ci;have QB:=Qa fs n (aE w);refine cm (u7 aj _ (by rw[a0];exact Ai hn QB)) ?_;by_cases M:1<(cH fs n (aE w)).length
  ·refine bI.t (b9 (by rw[a0];exact Int.lt_of_toNat_lt M)) ?_;obtain⟨b,GI,QC,Cj⟩:=afV hn (aE w) (ks:=cH fs n (aE w)) (fun q=>by rw[q]at M;exact dk M (by decide)) (fun k aa=>(d2.mp aa).1.2);have I:=d2.mp QC;have G5:eW fs n (aE w) b:=⟨M,QC,Cj⟩;refine bI.t (b9 at_.lnm) ?_;refine an3.mk (afY ((L 0 C.eT).trans an) (H.rw w aF) GI) ?_;refine dg.listI aof (cH fs n (aE w)) (Qw keep s dn b0 b1 lb n m ra fa A P B aE aY bY σ w fs b) (fun done cB au h=>by obtain⟨h,V⟩:=h;exact h▸agl _ _ _ _ _ _) rfl ?_ ?_ ?_
   ·refine⟨G2 s w fs (cH fs n (aE w)) (ra w) b,by rfl,rfl,ww,?_,L,?_⟩
    ·rw[B5,B5,Qe];exact H
    ·rw[B5,B5,Qe];exact zd
   ·intro done x z cB au Q Z;obtain⟨rfl,qZ,r,S,T⟩:=Z;have QD:x∈cH fs n (aE w):=Q▸ho _ cW;have o:=d2.mp QD;have Ck:x∉done:=fun aC=>by
     have:=P9 fs n (aE w);rw[<- Q,mQ]at this;exact this.2.2 x aC x cW rfl
    by_cases K:x=b
    ·subst K;refine bI.f (show (!((x:Int)==(x:Int)))=false by rw[ef];rfl) ?_;refine⟨_,by rfl,rfl,qZ,?_,S,?_⟩
     ·rw[B7,B7,Qf];exact r
     ·rw[B7,B7,Qf];exact T
    ·refine bI.t (show (!((x:Int)==(b:Int)))=true by rw[show ((x:Int)==(b:Int))=false from beq_eq_false_iff_ne.mpr (JQ K)];rfl) ?_;have aC:(eU (aE w) b x).natAbs<=2^(E+1):=by
      have g:=G5.ay QD;have O:=ab.p w aF x o.1.2;have ag:=ab.p w aF b I.1.2;have av:(eU (aE w) b x).natAbs<=(aE w b).natAbs*(eU (aE w) b x).natAbs:=Aa _ (by have:=I.2;exact xg this);rw[nQ];exact fr (aG (aG (aG g O) ag) av) (by simp +arith)
     have ex:iC done b (aE w) aE w x=aE w x:=Qx Ck ..;have eb:iC done b (aE w) aE w b=aE w b:=G4 ..;obtain⟨cN,jO,U,q1⟩:=afI r hn Y (q:=eU (aE w) b x) o.1.2 I.1.2 K (fun i hi=>by rw[G4];exact wv aC (ab.p i hi b I.1.2) (DE d6)) (fun i hi=>by rw[G4];exact wv aC (ab.f i hi b I.1.2) (DE d6)) (fun j am=>by rw[agp K];exact wv aC (ab.b x o.1.2 j am) (DE d6)) d;have QE:=T.take o.1.1 I.1.1 o.1.2 I.1.2 K (eU (aE w) b x);rw[Qg Ck K,Qg Ck K,afZ o.1.2 Ck K]at U QE;refine an3.mk (r.f8 (x:="take_off") (f:="Columns.take_off") rfl rfl) ?_;refine cj (lf (r.rw w aF) hn o.1.2) ?_;refine cj (lf (r.rw w aF) hn I.1.2) ?_;refine sg (by rw[eb];exact I.2) ?_;refine aW at_ (by rw[ex,eb];exact jO) ?_;exact⟨_,by rfl,rfl,qZ,U,fun a u=>(q1 a u).trans (S a u),QE⟩
   ·intro cB au Z;obtain⟨rfl,qZ,r,S,T⟩:=Z;refine eB.pure aof (fun c=>!(iC (cH fs n (aE w)) b (aE w) aE w c==0)) aof (cH fs n (aE w)) rfl rfl rfl (fun x o=>?_) ?_ ?_
    ·have:=(d2.mp o).1;exact⟨cj (lf (r.rw w aF) hn this.2) ⟨rfl,rfl⟩,fun V=>⟨rfl,rfl⟩⟩
    ·rw[a0];exact b9 (ax (z7 ..) (Ai hn QB))
    ·have W:=ago (fs:=fs) (n:=n) (v:=aE w) (v':=iC (cH fs n (aE w)) b (aE w) aE w) fun c g=>(Qx (fun q=>(d2.mp q).2 g) ..).trans g;rw[W];exact⟨Cf s w fs (cH fs n (iC (cH fs n (aE w)) b (aE w) aE w)) (ra w),by rfl,_,G5.lt,qZ,_,_,_,⟨rfl,r,T,rfl,.turn Ci G5,S⟩⟩
  ·refine bI.f (d8 (by rw[a0];exact fun q=>M (kE.mp q))) ?_;refine yN (agj aj _) ?_;cases W:cH fs n (aE w) with
   |nil=>
    have bB:∀c,fs<=c->c<n->aE w c=0:=fun c g O=>j6 fun q=>by
     have:=d2.mpr ⟨⟨g,O⟩,q⟩;rw[W]at this;cases this
    have e:aE=P/\aY=F/\bY=B:=by
     cases Ci with
     |nil=>exact⟨rfl,rfl,rfl⟩
     |turn R q=>exact dk ((oF ..).symm.trans (bB _ q.act.1 q.act.2)) q.ne
    refine mV e fun el a5 aJ=>?_;subst el a5 aJ;exact⟨false,aj,ww,aE,aY,bY,aoj,H,L,zd,fun V=>⟨⟨rfl,rfl,rfl⟩,bB⟩,fun q=>l5 q⟩
   |cons x z=>
    have tC:z=[]:=by
     rw[W]at M;cases z with
     |nil=>rfl
     |cons y l=>exact dk (alY (TG _)) M
    subst tC;have o:=d2.mp (show x∈cH fs n (aE w) by rw[W];exact cW);have uk:∀c,fs<=c->c<n->c≠x->aE w c=0:=fun c g O ag=>j6 fun q=>by
     have:=d2.mpr ⟨⟨g,O⟩,q⟩;rw[W]at this;exact ag (c3.mp this)
    have D:fs<n:=fR o.1.1 o.1.2;have Q:∀{aZ bp cI:a4},pL fs x aE aY bY aZ bp cI->hP n fs w P F B aZ bp cI:=fun N=>.mk aE aY bY x Ci o.1 o.2 uk N;by_cases X:x=fs
    ·subst X;refine bI.f (show (!((x:Int)==(x:Int)))=false by rw[ef];rfl) ?_;refine cj (lf (H.rw w aF) hn D) ?_;by_cases J:aE w x<0
     ·refine bI.t (b9 J) ?_;refine db (P7 H hn Y D d) fun cN G6 jO U q1=>?_;refine an3.mk (H.f8 (x:="turn") (f:="Columns.turn") rfl rfl) ?_;refine aW at_ jO ?_;refine⟨true,cN,G6,_,_,_,aoj,U,fun a u=>(q1 a u).trans (L a u),zd.turn (cu _),(fun q=>As q),fun V=>⟨D,?_,fun c g O=>?_,Q (Qy ..).gn⟩⟩
      ·show 0<if x=x then 0-aE w x else aE w x;rw[bl rfl];exact JP J
      ·show (if c=x then 0-aE w c else aE w c)=0;rw[b5 (JO g)];exact uk c (Dx g) O (rC g)
     ·refine bI.f (d8 J) ?_;exact⟨true,aj,ww,aE,aY,bY,aoj,H,L,zd,(fun q=>As q),fun V=>⟨D,by have:=o.2;exact(alZ.mpr ⟨hR.mp J,eD this⟩),fun c g O=>uk c (Dx g) O (rC g),Q (Qy ..)⟩⟩
    ·refine bI.t (show (!((x:Int)==(fs:Int)))=true by rw[show ((x:Int)==(fs:Int))=false from beq_eq_false_iff_ne.mpr (JQ X)];rfl) ?_;refine fS (afP H hn Y o.1.2 D X d) fun a7 dv r S=>?_;have T:=zd.swap o.1.1 (cu fs) o.1.2 D X;have ar:aE w (b3 x fs fs)=aE w x:=by rw[we (eD X)]
     have fm:∀c,fs<c->c<n->aE w (b3 x fs c)=0:=fun c g O=>by
      by_cases e:c=x
      ·subst e;rw[uf];exact uk fs (cu _) D (Ne.intro fun G7=>X (id (gW G7)))
      ·rw[pI e (rC g)];exact uk c (Dx g) O e
     refine an3.mk (H.f8 (x:="swap") (f:="Columns.swap") rfl rfl) ?_;refine aW at_ dv ?_;refine cj (lf (r.rw w aF) hn D) ?_;by_cases J:aE w (b3 x fs fs)<0
     ·refine bI.t (b9 J) ?_;refine db (P7 r hn Y D d) fun cN G6 jO U q1=>?_;refine an3.mk (r.f8 (x:="turn") (f:="Columns.turn") rfl rfl) ?_;refine aW at_ jO ?_;refine⟨true,cN,G6,_,_,_,aoj,U,fun a u=>(q1 a u).trans ((S a u).trans (L a u)),T.turn (cu _),(fun q=>As q),fun V=>⟨D,?_,fun c g O=>?_,Q (Qz ..).gn⟩⟩
      ·show 0<if fs=fs then 0-aE w (b3 x fs fs) else aE w (b3 x fs fs);rw[bl rfl];exact JP J
      ·show (if c=fs then 0-aE w (b3 x fs c) else aE w (b3 x fs c))=0;rw[b5 (JO g)];exact fm c g O
     ·refine bI.f (d8 J) ?_;exact⟨true,a7,_,_,_,_,aoj,r,fun a u=>(S a u).trans (L a u),T,(fun q=>As q),fun V=>⟨D,show 0<aE w (b3 x fs fs) by have:=o.2;exact(alZ.mpr ⟨hR.mp J,ar▸eD this⟩),fm,Q (Qz ..)⟩⟩
end
variable {elt:bE}
theorem agu{m:Nat}{t:dq}(d:cY ρ)(bJ:α->an2)(ob:α->bb):∀(xs:List α) (σ:ah)
  (_:∀x∈xs,∀τ,an3 (iR t (bJ x) ρ) fun aN=>cU c elt m aN τ fun v aj=>aj=τ++[ob x]/\v=.ref τ.length),
  gc (bk c (.const (.bool true)) 0) (bk c elt m) t (bV ρ) (xs.map bJ) σ=.ok ((bf xs.length).map fun i=>.ref (σ.length+i)) (σ++xs.map ob):=by
 intro xs
 induction xs with
 |nil=>exact fun σ V=>by rw[al0,al0,il];rfl
 |cons x xs ih=>
  intro σ b;refine aw (iw (b x cW σ)) fun aN a O=>?_;refine bt (yM d a) fun e f=>?_;have ih:=ih (σ++[ob x]) fun y g=>b y (dM _ g);refine db (yD (iy elt m aN σ _ e O)) fun v aj h j k=>?_;subst j k;rw[gu,AE,f];show (bk c elt m (bV aN) σ).bind _=_;rw[h];show (gc _ _ _ _ _ _).bind _=_;rw[ih];show be.ok (an2.ref σ.length::_) (σ++[ob x]++xs.map ob)=_;rw[ek,aoc,IG,gu,hk,bW];refine dt (fun l=>be.ok (an2.ref σ.length::l) _) (i0 fun i V=>?_);show an2.ref (σ.length+1+i)=an2.ref (σ.length+(i+1));rw[eK,kG 1]
theorem eB.grow{m:Nat}{t:dq}{K:an2->ah->Prop}(bJ:α->an2)(ob:α->bb)(xs:List α)(d:l=xs.map bJ)(a:∀τ b,bG τ v b=τ)(e:xs.length<=1000)
  (f:∀x∈xs,∀τ,an3 (iR t (bJ x) (gm (ip t) ρ)) fun aN=>cU c elt m.pred aN τ fun v aj=>aj=τ++[ob x]/\v=.ref τ.length)
  (k:cf (iG m (.list ((bf xs.length).map fun i=>.ref (σ.length+i))) (σ++xs.map ob)) K):eB c (.const (.bool true)) elt m t l v ρ σ K:=by
 intro g;rw[d,a,<- qG,agu g.kill bJ ob xs σ f];show cf (.ok _ (bG (σ++xs.map ob) v (c' σ v))) _;rw[a];exact bI.t (b9 (by rw[a0,an5];exact i6 e)) k
def dW(n m:Nat)(P:a4):ah:=(bf m).map fun i=>.list false (cx n (P i))
noncomputable def gI(b m:Nat):bb:=.list false ((bf m).map fun i=>.ref (b+i))
theorem nD(n m:Nat)(P:a4):(dW n m P).length=m:=by unfold dW;rw[a0,an5]
theorem G8{n m:Nat}(h:i<m)(P:a4):(dW n m P)[i]?=some (.list false (cx n (P i))):=by unfold dW;rw[aob,p9 h];rfl
theorem agv(i j:Nat):(if ((i:Int)==(j:Int)) then (1:Int) else 0)=ck i j:=by
 unfold ck;by_cases h:i=j
 ·subst h;rw[bl rfl,bl (ef _)]
 ·rw[b5 h,b5 (by simp;exact fun q=>h (SE.mp q))]
theorem wz(n:Nat):hw 0 n=(bf n).map aof:=by
 unfold hw aof;rw[show ((n:Int)-0).toNat=n by exact by rw[CR];rfl];exact i0 fun k V=>dt an2.int (by simp)
theorem QF{n:Nat}(hn:n<=1000)(d:Nat)(σ:ah):bF G (d+1) "unit_rows" [.int n] σ=.ok (.ref (σ.length+n)) (σ++dW n n ck++[gI σ.length n]):=by
 refine dw aep rfl rfl rfl fun c at_=>?_;refine cm (nr σ (o4 hn)) ?_;refine eB.grow aof (fun i=>.list false (cx n (ck i))) (bf n) (wz n) (fun V V=>rfl) (by rw[an5];omega) (fun i hi τ=>?_) ?_
 ·refine cm (nr τ (o4 hn)) ?_;refine eB.pure aof (fun V=>true) (fun j=>.int (ck i j)) (bf n) (wz n) rfl rfl (fun j a=>⟨⟨rfl,rfl⟩,fun V=>⟨rfl,?_⟩⟩) ?_ ?_
  ·exact dt an2.int (agv i j)
  ·rw[fP,a0,an5];exact b9 (i6 hn)
  ·rw[fP];exact⟨rfl,rfl⟩
 ·rw[an5];refine aoj.trans ?_;show be.ok (an2.ref (σ++dW n n ck).length) (σ++dW n n ck++[gI σ.length n])=_;rw[bW,nD]
section
variable {K:List Str}
def aop(K:List Str)(m:Nat)(R:Nat->Str->Int):List an2:=(bf m).map fun i=>aR (aA K (R i))
noncomputable def fu(n:Nat)(L:Nat->Str):List an2:=(bf n).map fun i=>.str (L i)
noncomputable def sw(b n m:Nat):List (Str×an2):=[("rows",.ref (b+2+m)),("forth",.ref (b+3+m+n)),("back",.ref (b+4+m+n+n))]
def ku(σ:ah)(n m:Nat)(A:a4):ah:=σ++[.ns (sw σ.length n m),.inst "Columns" σ.length]++dW n m A++[gI (σ.length+2) m]++(dW n n ck++[gI (σ.length+3+m) n])++(dW n n ck++[gI (σ.length+4+m+n) n])
variable {r σ τ:ah}{dn i:Nat}{l:List (Str×an2)}
theorem agw(a:τ[i]?=some (.inst "Columns" dn))(O:τ[dn]?=some (.ns l)):th τ (.ref i)=some (("Columns":Str),dn,l):=by
 show l9 τ i=_;unfold l9;rw[a];show (DT τ[dn]?).map _=_;rw[O];rfl
theorem G9{d:Nat}{c:bP}(at_:jT G d c)(a:τ[i]?=some (.inst "Columns" dn))(O:τ[dn]?=some (.ns l)){x:Str}(b:G.dc x=true)(e:l.length<=1000000)(v:an2):me c τ (.ref i) x v=some (τ.set dn (.ns (b6 l x v))):=by
 unfold me;rw[agw a O];show (if c.dc x&&d' l.length then _ else _)=_;rw[at_.dc,b,bl (show (true&&d' l.length)=true by rw[show d' l.length=true from b9 e];rfl)]
theorem Cm{α:Type}(d:List (Str×α))(k:Str)(v:α):(b6 d k v).length<=d.length+1:=by unfold b6;split<;>simp
theorem G'(o a:bb):(σ++[o,a]++r)[σ.length]?=some o/\(σ++[o,a]++r)[σ.length+1]?=some a:=by
 refine⟨?_,?_⟩
 ·rw[ek,nP (cu _),p7];rfl
 ·rw[ek,nP (bO _ _),l0];rfl
theorem Ha(o a x:bb):(σ++[o,a]++r).set σ.length x=σ++[x,a]++r:=by
 rw[ek,Dl _ _ (cu _),p7,ek];rfl
theorem agx(bc:dT K){n m:Nat}(hn:n<=1000)(q:m<=1000){L:Nat->Str}(h:∀j<n,L j∈K)(R:Nat->Str->Int)(d:Nat)(σ:ah) :
  bF G (d+2) "Columns.__init__" [.ref (σ.length+1),.lst (aop K m R),.lst (fu n L)] (σ++[.ns []]++[.inst "Columns" σ.length])=.ok .none (ku σ n m fun i j=>R i (L j)):=by
 have k:σ++[bb.ns []]++[.inst "Columns" σ.length]=σ++[.ns [],.inst "Columns" σ.length]:=by rw[ek];rfl
 rw[k];have a:(fu n L).length=n:=by unfold fu;rw[a0,an5]
 refine dw aeQ rfl rfl rfl fun c at_=>?_;refine eB.grow (fun i=>aR (aA K (R i))) (fun i=>.list false (cx n fun j=>R i (L j))) (bf m) rfl (fun V V=>rfl) (by rw[an5];omega) (fun i hi τ=>?_) ?_
 ·refine eB.pure (fun j=>.str (L j)) (fun V=>true) (fun j=>.int (R i (L j))) (bf n) rfl rfl rfl (fun j l=>⟨⟨rfl,rfl⟩,fun V=>?_⟩) ?_ ?_
  ·exact aW at_ (afm bc (R i) (h j (eE.mp l)) d τ) ⟨rfl,rfl⟩
  ·rw[fP,a0,an5];exact b9 (i6 hn)
  ·rw[fP];exact⟨rfl,rfl⟩
 ·have bJ:(σ++[bb.ns [],.inst "Columns" σ.length]).length=σ.length+2:=by rw[bW];rfl
  show an3 (me c (σ++[bb.ns [],.inst "Columns" σ.length]++dW n m (fun i j=>R i (L j))++[bb.list false ((bf (bf m).length).map fun i=>.ref ((σ++[bb.ns [],.inst "Columns" σ.length]).length+i))]) (.ref (σ.length+1)) "rows" (.ref (σ++[bb.ns [],.inst "Columns" σ.length]++dW n m (fun i j=>R i (L j))).length)) _;rw[an5,bJ,show (σ++[bb.ns [],.inst "Columns" σ.length]++dW n m (fun i j=>R i (L j))).length=σ.length+2+m by rw[bW,bJ,nD],ek _ (dW n m _)];have b:=G' (σ:=σ) (r:=dW n m (fun i j=>R i (L j))++[gI (σ.length+2) m]) (.ns []) (.inst "Columns" σ.length);refine an3.mk (G9 at_ b.2 b.1 (by decide +kernel) (by decide) _) ?_;rw[Ha];refine cm (kN a (i6 hn)) ?_;refine aW at_ (QF hn d _) ?_;have o:(σ++[bb.ns (b6 [] "rows" (.ref (σ.length+2+m))),.inst "Columns" σ.length]++(dW n m (fun i j=>R i (L j))++[gI (σ.length+2) m])).length=σ.length+3+m:=by
   rw[bW,bW,bW,nD];show σ.length+2+(m+1)=_;exact gW (Nat.succ_add_eq_add_succ (_+2) _)
  rw[o,ek (_++_) (dW n n ck),ek _ _ (dW n n ck++_)];have e:=G' (σ:=σ) (r:=dW n m (fun i j=>R i (L j))++[gI (σ.length+2) m]++(dW n n ck++[gI (σ.length+3+m) n])) (.ns (b6 [] "rows" (.ref (σ.length+2+m)))) (.inst "Columns" σ.length);refine an3.mk (G9 at_ e.2 e.1 (by decide +kernel) (ax (Cm _ _ _) (by decide)) _) ?_;rw[Ha];refine cm (kN a (i6 hn)) ?_;refine aW at_ (QF hn d _) ?_;generalize f:b6 (b6 [] "rows" (an2.ref (σ.length+2+m))) "forth" (.ref (σ.length+3+m+n))=D;have p:(σ++[bb.ns D,.inst "Columns" σ.length]++(dW n m (fun i j=>R i (L j))++[gI (σ.length+2) m]++(dW n n ck++[gI (σ.length+3+m) n]))).length=σ.length+4+m+n:=by
   rw[bW,bW,bW,bW,bW,nD,nD];show σ.length+2+(m+1+(n+1))=_;exact(by simp only[eK,kG,IA])
  rw[p,ek (_++_) (dW n n ck),ek _ _ (dW n n ck++_)];have g:=G' (σ:=σ) (r:=dW n m (fun i j=>R i (L j))++[gI (σ.length+2) m]++(dW n n ck++[gI (σ.length+3+m) n])++(dW n n ck++[gI (σ.length+4+m+n) n])) (.ns D) (.inst "Columns" σ.length);refine an3.mk (G9 at_ g.2 g.1 (by decide +kernel) (by rw[<- f];exact ax (Cm _ _ _) (w0 (ax (Cm _ _ _) (by decide)))) _) ?_;rw[Ha];refine aoj.trans ?_;refine dt (be.ok an2.none) ?_;rw[<- f,show b6 (b6 (b6 [] "rows" (an2.ref (σ.length+2+m))) "forth" (.ref (σ.length+3+m+n))) "back" (.ref (σ.length+4+m+n+n))=sw σ.length n m from rfl];unfold ku;simp only[ek]
theorem agz(bc:dT K){n m:Nat}(hn:n<=1000)(a:m<=1000){L:Nat->Str}(b:∀j<n,L j∈K)(R:Nat->Str->Int)(d:Nat)(σ:ah) :
  bF G (d+2) (fy "Columns" "__init__") [.ref (σ.length+1),.lst (aop K m R),.lst (fu n L)] (σ++[.ns []]++[.inst "Columns" σ.length])=.ok .none (ku σ n m fun i j=>R i (L j)):=by
 rw[show fy "Columns" "__init__"=("Columns.__init__":Str) by decide +kernel];exact agx bc hn a b R d σ
end
def agA(b n m:Nat)(a:Nat):Prop:=a<b\/a=b+1\/a=b\/a=b+2+m\/a=b+3+m+n
theorem j1{r:ah}(i:Nat)(h:σ.length=k):(σ++r)[k+i]?=r[i]?:=by
 subst h;rw[nP (bO _ _),l0]
theorem hQ{r:ah}(h:i<σ.length):(σ++r)[i]?=σ[i]?:=mS h
theorem agB(o:σ[0]?=some (.tab q))(n m:Nat)(A:a4) :
  dy (agA σ.length n m) (σ.length+1) σ.length (σ.length+2+m) (σ.length+3+m+n) (σ.length+4+m+n+n) n m (fun i=>σ.length+2+i) (fun i=>σ.length+3+m+i) (ku σ n m A) (fun i=>σ.length+4+m+n+i) A ck ck/\(∀a,a<σ.length->(ku σ n m A)[a]?=σ[a]?)/\(ku σ n m A).length=σ.length+5+m+n+n:=by
 have p:=ie o;generalize g:σ.length=b at *
 have l:(σ++[bb.ns (sw b n m),.inst "Columns" b]).length=b+2:=by rw[bW,g];rfl
 have k:(σ++[bb.ns (sw b n m),.inst "Columns" b]++dW n m A).length=b+2+m:=by rw[bW,l,nD]
 have j:(σ++[bb.ns (sw b n m),.inst "Columns" b]++dW n m A++[gI (b+2) m]).length=b+3+m:=by rw[bW,k];show b+2+m+1=_;exact uM (_+2) _ 1
 have u:(dW n n ck++[gI (b+3+m) n]).length=n+1:=by rw[bW,nD];rfl
 have d:(σ++[bb.ns (sw b n m),.inst "Columns" b]++dW n m A++[gI (b+2) m]++(dW n n ck++[gI (b+3+m) n])).length=b+4+m+n:=by rw[bW,j,u];exact(by simp only[eK,kG,IA])
 have v:(dW n n ck++[gI (b+4+m+n) n]).length=n+1:=by rw[bW,nD];rfl
 have e:ku σ n m A=σ++[.ns (sw b n m),.inst "Columns" b]++dW n m A++[gI (b+2) m]++(dW n n ck++[gI (b+3+m) n])++(dW n n ck++[gI (b+4+m+n) n]):=by unfold ku;rw[g]
 have dB:∀i,i<b+2->(ku σ n m A)[i]?=(σ++[bb.ns (sw b n m),.inst "Columns" b])[i]?:=fun i hi=>by
  rw[e,hQ (by rw[d];exact an9 hi (ax (fv (by decide) _) (ax (bO _ _) (bO _ _)))),hQ (by rw[j];exact an9 hi (ax (nK _) (bO _ _))),hQ (by rw[k];exact CT _ hi),hQ (by rw[l];assumption)]
 have aB:∀i,i<m->(ku σ n m A)[b+2+i]?=(dW n m A)[i]?:=fun i hi=>by
  rw[e,hQ (by rw[d];exact an9 (oV hi _) (ax (lx (fv (by decide) _) _) (bO _ _))),hQ (by rw[j];exact an9 (oV hi _) (lx (nK _) _)),hQ (by rw[k];exact JZ hi),j1 i l]
 have cc:(ku σ n m A)[b+2+m]?=some (gI (b+2) m):=by
  rw[e,hQ (by rw[d];exact an9 (oW (oV (by decide) _) _) (bO _ _)),hQ (by rw[j];exact oW (aog _) _)];exact j1 0 k
 have r:∀i,i<n+1->(ku σ n m A)[b+3+m+i]?=(dW n n ck++[gI (b+3+m) n])[i]?:=fun i hi=>by
  rw[e,hQ (by rw[d];exact Uk hi),j1 i j]
 have s:∀i,i<n+1->(ku σ n m A)[b+4+m+n+i]?=(dW n n ck++[gI (b+4+m+n) n])[i]?:=fun i hi=>by
  rw[e,j1 i d]
 have c:(ku σ n m A).length=b+5+m+n+n:=by rw[e,bW,d,v];exact(by simp only[eK,kG,IA])
 have t:∀a,a<b->(ku σ n m A)[a]?=σ[a]?:=fun a f=>(dB a (JU f)).trans (hQ (wZ f (id (gW g))));refine⟨⟨fun a f=>?_,.inl p,⟨.inr (.inl rfl),.inr (.inr (.inl rfl)),.inr (.inr (.inr (.inl rfl))),.inr (.inr (.inr (.inr rfl)))⟩,⟨q,(t 0 p).trans o⟩,?_,?_,?_,?_,?_,fun i hi=>?_,fun i hi=>?_,fun i hi=>?_,?_⟩,t,c⟩
 ·rw[c];rcases f with h | h | h | h | h<;>(first | exact(an9 h (ax (bO _ 5) (ax (bO _ _) (ax (bO _ _) (bO _ _))))) | exact(h▸JT (by decide)) | exact(h▸JT (i:=0) (by decide)) | exact(h▸an9 (oW (oV (by decide) _) _) (ax (bO _ _) (bO _ _))) | exact by subst h;exact an9 (oW (oW (oV (by decide:3<5) _) _) _) (bO _ _))
 ·rw[dB _ (SG (_+1))];exact j1 1 g
 ·rw[dB _ (TF (by decide))];exact j1 0 g
 ·exact cc
 ·rw[r n (J0)];exact j1 0 (nD n n ck)
 ·rw[s n (J0)];exact j1 0 (nD n n ck)
 ·rw[aB i hi,G8 hi]
 ·rw[r i (Dv hi),hQ (by rw[nD];exact hi),G8 hi]
 ·rw[s i (Dv hi),hQ (by rw[nD];exact hi),G8 hi]
 ·refine⟨fun a=>if a<b+2 then (4,0) else if a<b+2+m then (0,a-(b+2)) else if a=b+2+m then (4,0) else if a<b+3+m+n then (1,a-(b+3+m)) else if a=b+3+m+n then (4,0) else if a<b+4+m+n+n then (2,a-(b+4+m+n)) else (3,0),fun i hi=>?_,fun i hi=>?_,fun i hi=>?_,?_,fun a f=>?_⟩
  ·dsimp only;rw[b5 (gq.mpr (bO _ _)),bl (JZ hi),l0]
  ·dsimp only;rw[b5 (JS _ _ _),b5 (JR _ _ _),b5 (kF (an9 (oW (aog _) _) (bO _ _))),bl (oV hi (_+3+_)),l0]
  ·dsimp only;rw[b5 (JY),b5 (JX),b5 (JW),b5 (JV),b5 (kF (an9 (oW (oW (aog _) _) _) (bO _ _))),bl (oV hi (_+4+_+_)),l0]
  ·dsimp only;rw[b5 (JY),b5 (JX),b5 (JW),b5 (JV),b5 (kF (an9 (oW (oW (aog _) _) _) (bO _ _))),b5 (kD (_+4+_+_+_))]
  ·dsimp only;rcases f with h|h|h|h|h
   ·rw[bl (JU h)]
   ·rw[bl (h▸aog _)]
   ·rw[bl (h▸TF (by decide))]
   ·rw[b5 (h▸gq.mpr (bO _ _)),b5 (gq.mpr (bx h.symm)),bl h]
   ·rw[b5 (h▸JS _ _ _),b5 (h▸JR _ _ _),b5 (h▸kF (an9 (oW (aog _) _) (bO _ _))),b5 (gq.mpr (bx h.symm)),bl h]
theorem agC(n m:Nat)(A:a4):eJ n m A A ck ck:=by
 have a:∀(f:Nat->Int) k,k<n->(S n fun j=>f j*ck j k)=f k:=fun f k b=>by
  rw[cV (g:=fun j=>if j=k then f k else 0) fun j V=>?_,k8 b];unfold ck;by_cases e:j=k
  ·rw[bl e,bl e,e,oU]
  ·rw[b5 e,b5 e,aom]
 exact⟨fun i hi k b=>(a _ k b).symm,fun i hi k b=>a _ k b,fun i hi k b=>a _ k b⟩
section
variable {keep:Nat->Prop}{s dn b0 b1 lb n m:Nat}{ra fa:Nat->Nat}{σ:ah}{ce:Nat->Nat}{P F B:a4}
theorem dy.more(C:dy keep s dn b0 b1 lb n m ra fa σ ce P F B)(o:bb):dy (fun a=>keep a\/a=σ.length) s dn b0 b1 lb n m ra fa (σ++[o]) ce P F B:=by
 refine nR C.tag fun t d f t3 gj g=>?_;have b:∀{a x},σ[a]?=some x->(σ++[o])[a]?=some x:=fun h=>(hQ (ie h)).trans h;refine⟨fun a c=>?_,.inl C.eT,⟨.inl C.kp.1,.inl C.kp.2.1,.inl C.kp.2.2.1,.inl C.kp.2.2.2⟩,?_,b C.hs,b C.hd,b C.hr,b C.hf,b C.ab,fun i hi=>b (C.rw i hi),fun i hi=>b (C.fw i hi),fun i hi=>b (C.iB i hi),⟨fun a=>if a=σ.length then (4,0) else t a,fun i hi=>?_,fun i hi=>?_,fun i hi=>?_,?_,fun a c=>?_⟩⟩
 ·rw[bW];rcases c with h|h
  ·exact an9 (C.ha a h) (bO _ _)
  ·rw[h];exact aog _
 ·refine bK C.tab fun q h=>?_;exact⟨q,b h⟩
 ·dsimp only;rw[b5 (gV (ie (C.rw i hi))),d i hi]
 ·dsimp only;rw[b5 (gV (ie (C.fw i hi))),f i hi]
 ·dsimp only;rw[b5 (gV (ie (C.iB i hi))),t3 i hi]
 ·dsimp only;rw[b5 (gV (ie C.ab)),gj]
 ·dsimp only;by_cases e:a=σ.length
  ·rw[bl e]
  ·rw[b5 e];exact g a (c.resolve_right e)
theorem dy.put(C:dy keep s dn b0 b1 lb n m ra fa σ ce P F B){a:Nat}(k:keep a)(h0:a≠0)(d:a≠s)(O:a≠dn)(l:a≠b0)(p:a≠b1)(o:bb):dy keep s dn b0 b1 lb n m ra fa (σ.set a o) ce P F B:=by
 refine nR C.tag fun t g h t3 gj j=>?_;have c:∀b,t b≠(4,0)->(σ.set a o)[b]?=σ[b]?:=fun b f=>jV fun e=>f (by rw[<- e];exact j a k);refine⟨fun b f=>by rw[lY];exact C.ha b f,C.eT,C.kp,by rw[jV h0];exact C.tab,by rw[jV d];exact C.hs,by rw[jV O];exact C.hd,by rw[jV l];exact C.hr,by rw[jV p];exact C.hf,?_,fun i hi=>?_,fun i hi=>?_,fun i hi=>?_,⟨t,g,h,t3,gj,j⟩⟩
 ·rw[c lb (by rw[gj];intro q;cases q)];exact C.ab
 ·rw[c _ (by rw[g i hi];intro q;cases q)];exact C.rw i hi
 ·rw[c _ (by rw[h i hi];intro q;cases q)];exact C.fw i hi
 ·rw[c _ (by rw[t3 i hi];intro q;cases q)];exact C.iB i hi
end
theorem Hb(n:Nat)(c:Int)(f:Nat->Int):(S n fun j=>f j*c)=S n f*c:=by
 rw[rA,<- ue];exact cV fun j V=>rA _ _
theorem Cn{n:Nat}{f:Nat->Int}(hn:h<=n)(bB:∀j,h<=j->j<n->f j=0):S n f=S h f:=by
 induction n with
 |zero=>rw[TM.mp hn]
 |succ n ih=>
  by_cases e:h=n+1
  ·rw[e]
  ·show S n f+f n=_;rw[bB n (J2 hn e) (aog n),aod,ih (J2 hn e) fun j a O=>bB j a (j7 O)]
theorem Hc{n W:Nat}{f:Nat->Int}(h:∀j<n,(f j).natAbs<=W):(S n f).natAbs<=n*W:=by
 induction n with
 |zero=>exact d4 _
 |succ n ih=>
  have a:=ih fun j b=>h j (j7 b);have O:=h n (aog n);show (S n f+f n).natAbs<=(n+1)*W;rw[TN,alW];exact ax (z' _ _) (aG a O)
theorem agD{n:Nat}(b:a<n)(f:Nat->Int):(S n fun l=>ck a l*f l)=f a:=by
 rw[cV (g:=fun j=>if j=a then f a else 0) fun j V=>?_,k8 b];unfold ck;by_cases e:a=j
 ·rw[bl e,bl e.symm,e,w2]
 ·rw[b5 e,b5 (fun q=>e q.symm),g0]
def bw(n:Nat)(x:Nat->Str->Int)(B:a4)(j:Nat)(k:Str):Int:=S n fun i=>B j i*x i k
section
variable {n m:Nat}{A P F B:a4}
theorem eJ.FB(h:eJ n m A P F B){a:Nat}(b:a<n)(z:Nat->Int):(S n fun j=>F a j*S n fun i=>B j i*z i)=z a:=by
 rw[cV (g:=fun j=>S n fun i=>F a j*B j i*z i) fun j V=>?_,PO,cV (g:=fun i=>ck a i*z i) fun i hi=>?_,agD b]
 ·rw[Hb,h.fb a b i hi]
 ·rw[<- ue];exact cV fun i V=>(sR _ _ _).symm
theorem eJ.PA(h:eJ n m A P F B){i:Nat}(hi:i<m)(z:Nat->Int):(S n fun j=>P i j*z j)=S n fun a=>A i a*S n fun j=>F a j*z j:=by
 rw[cV (g:=fun j=>S n fun a=>A i a*(F a j*z j)) fun j b=>?_,PO]
 ·exact cV fun a V=>by rw[ue]
 ·rw[h.k9 i hi j b,<- Hb];exact cV fun a V=>sR _ _ _
theorem eJ.QG(h:eJ n m A P F B){a:Nat}(b:a<n)(x:Nat->Str->Int)(k:Str):(S n fun j=>F a j*bw n x B j k)=x a k:=h.FB b fun i=>x i k
theorem eJ.Py(h:eJ n m A P F B){i:Nat}(hi:i<m)(x:Nat->Str->Int)(k:Str):(S n fun j=>P i j*bw n x B j k)=S n fun a=>A i a*x a k:=by
 rw[h.PA hi];exact cV fun a b=>by rw[h.QG b]
theorem Co{e ex:Nat}(hn:n<=1000)(a:iA n m (2^e) P F B){x:Nat->Str->Int}{k:Str}(c:∀i<n,(x i k).natAbs<=2^ex){j:Nat}(d:j<n):(bw n x B j k).natAbs<=2^(10+e+ex):=by
 refine ax (Hc (W:=2^(e+ex)) fun i hi=>?_) ?_
 ·rw[qb,jw];exact p0 (a.b j d i hi) (c i hi)
 ·rw[eK,jw 2 10];exact mU _ (ax hn (by decide))
end
theorem Hd(K:List Str)(h:Nat)(y:Nat->Str->Int):(gS K h y).length=h:=by unfold gS;rw[a0,an5]
theorem QH(K:List Str)(h:Nat)(y:Nat->Str->Int):gS K (h+1) y=gS K h y++[aR (aA K (y h))]:=by unfold gS;rw[z6,hS];rfl
theorem QI{y z:Nat->Str->Int}(e:∀j<h,∀k∈K,y j k=z j k):gS K h y=gS K h z:=i0 fun j a=>by rw[pF (e j (eE.mp a))]
theorem Cp(h:σ[a]?=some (.list b l)):eZ σ (.ref a)=some l:=by unfold eZ;rw[qJ h];rfl
theorem Cq(h:σ[a]?=some (.list false l))(b:l.length<=1000000)(v:an2):ma σ .append (.ref a) [v]=some (.none,σ.set a (.list false (l++[v]))):=by
 show (jA σ a).bind _=_;rw[show jA σ a=some l by unfold jA;rw[h]];exact bl (b9 b)
theorem uo(h:σ[a]?=some (.list b l)):(ke (cR σ (.ref a))).isSome=true:=by
 rw[qJ h];rfl
section
variable {K:List Str}{keep:Nat->Prop}{s dn b0 b1 lb n m:Nat}{ra fa:Nat->Nat}{σ:ah}{ce:Nat->Nat}{A P F B:a4}
structure wB (n m:Nat)(A:a4)(E:Nat):Prop where
 r:∀i h P F B,pM n m A i h P F B->i<m->∀aE aY bY,eX n h i P F B aE aY bY->iA n m (2^E) aE aY bY
 s:∀i h P F B,pM n m A i h P F B->i<=m->iA n m (2^E) P F B
theorem agG{D:Nat->Prop}{kd:Nat->dU}{n m E:Nat}{A:a4}(b:∀k<m,pN n A D kd k)(hn:n<=2^6)(c:∀i<m,(kd i).r (cz kd i)+8*i+40<=E)(O:∀i,i<=m->cz kd i+8*i+5<=E):wB n m A E:=
 ⟨fun i h P F B W hi aE aY bY R=>((W.good b hn (et hi)).reach (b i hi) hi hn (fun k d=>(b k d).a) R).mono (hV (by decide) (c i hi)),
  fun i h P F B W hi=>((W.good b hn hi).Qr fun k d=>(b k d).a).mono (hV (by decide) (O i hi))⟩
abbrev QJ(keep:Nat->Prop)(b:Nat)(a:Nat):Prop:=(keep a\/a=b)\/a=b+1
structure QK (K:List Str)(x:Nat->Str->Int)(keep:Nat->Prop)(s dn b0 b1 lb n m:Nat)(ra fa:Nat->Nat)(A:a4)(σ:ah)(w:Nat)(au:ah)(h:Nat)(hd:List an2)(ce:Nat->Nat)(P F B:a4):Prop where
 C:dy (QJ keep σ.length) s dn b0 b1 lb n m ra fa au ce P F B
 cS:au[σ.length]?=some (.list false hd)
 af:hd.length=h
 hf:au[σ.length+1]?=some (.list false (gS K h (bw n x B)))
 hn:h<=n
 inv:eJ n m A P F B
 z:∀i<w,∀c,h<=c->c<n->P i c=0
 wl:pM n m A w h P F B
 fr:∀a,keep a->au[a]?=σ[a]?
theorem QL(a:eJ n m A P F B){w h:Nat}(aF:w<m)(x:Nat->Str->Int){rest:Nat->Str->Int}{k:Str}(b:(S n fun j=>A w j*x j k)+rest w k=0) :
  (0-rest w k-S h fun j=>bw n x B j k*P w j)=(S n fun j=>P w j*bw n x B j k)-S h fun j=>P w j*bw n x B j k:=by
 rw[a.Py aF,cV (n:=h) (f:=fun j=>bw n x B j k*P w j) (g:=fun j=>P w j*bw n x B j k) fun j V=>rA _ _];exact by rw[<- Int.neg_eq_of_add_eq_zero b,CS,Int.neg_neg]
abbrev agH(K:List Str)(x:Nat->Str->Int)(keep:Nat->Prop)(s dn b0 b1 lb n m:Nat)(ra fa:Nat->Nat)(A:a4)(σ:ah)(w:Nat)(au:ah):Prop:=∃h hd oD P' jd lM,QK K x keep s dn b0 b1 lb n m ra fa A σ w au h hd oD P' jd lM
abbrev agI(K:List Str)(x:Nat->Str->Int)(keep:Nat->Prop)(s dn b0 b1 lb n m:Nat)(ra fa:Nat->Nat)(A:a4)(σ:ah)(w:Nat)(au:ah):Prop:=w<=m/\agH K x keep s dn b0 b1 lb n m ra fa A σ w au
abbrev QM(K:List Str)(x:Nat->Str->Int)(keep:Nat->Prop)(s dn b0 b1 lb n m:Nat)(ra fa:Nat->Nat)(A:a4)(σ:ah)(R:be an2):Prop:=∃au h hd oD P' jd lM,R=.ok (.ref (σ.length+1)) au/\QK K x keep s dn b0 b1 lb n m ra fa A σ m au h hd oD P' jd lM
def He(K:List Str)(keep:Nat->Prop)(s dn b0 b1 lb n m:Nat)(ra fa:Nat->Nat)(σ:ah)(ce:Nat->Nat)(A P F B:a4)(ex E:Nat):Prop:=∀(bc:dT K) (C:dy keep s dn b0 b1 lb n m ra fa σ ce P F B) (hn:n<=1000) (hm:m<=1000) (cr:eJ n m A P F B) (x:Nat->Str->Int) (rest:Nat->Str->Int) (hx:∀i<m,∀k∈K,(S n fun j=>A i j*x j k)+rest i k=0) (aoi:∀i<n,∀k∈K,(x i k).natAbs<=2^ex) (hex:ex<=1000) (bL:∀l<n,∀c<n,F l c=ck l c) (b2:∀l<n,∀c<n,B l c=ck l c) (d6:E<=64000000) (hs:wB n m A E) (d:Nat),QM K x keep s dn b0 b1 lb n m ra fa A σ (bF G (d+4) "walked" [.ref s,.lst (aop K m rest)] σ)
def QN(k:List Str×(Nat->Prop)×Nat×Nat×Nat×Nat×Nat×Nat×Nat×(Nat->Nat)×(Nat->Nat)×ah×(Nat->Nat)×a4×a4×a4×a4×Nat×Nat):Prop:=He k.1 k.2.1 k.2.2.1 k.2.2.2.1 k.2.2.2.2.1 (en k).2.1 (en k).2.2.1 (en k).2.2.2.1 (ey k).1 (ey k).2.1 (ey k).2.2.1 (ey k).2.2.2.1 (eA k).1 (eA k).2.1 (eA k).2.2.1 (eA k).2.2.2.1 (eS k).1 (eS k).2.1 (eS k).2.2
def iU:=ch QN
def ky:=iU.1
def zf:=iU.2.1
def wC:=iU.2.2.1
def zg:=iU.2.2.2.1
def zh:=iU.2.2.2.2.1
def zi:=(en iU).2.1
def Cr:=(en iU).2.2.1
def iV:=(en iU).2.2.2.1
def oJ:=(ey iU).1
def Cs:=(ey iU).2.1
def Ct:=(ey iU).2.2.1
def iW:=(ey iU).2.2.2.1
def Hg:=(eA iU).1
def Hh:=(eA iU).2.1
def Hi:=(eA iU).2.2.1
def Hj:=(eA iU).2.2.2.1
def Hk:=(eS iU).1
def agJ:=(eS iU).2.1
def QO:=(eS iU).2.2
theorem agK:He ky zf wC zg zh zi Cr iV oJ Cs Ct iW Hg Hh Hi Hj Hk agJ QO:=by
 intro bc C hn u Y x b Z F hex bL b2 d6 G d;refine ou (P:=QM ky x zf wC zg zh zi Cr iV oJ Cs Ct Hh iW) aes rfl rfl rfl fun c at_=>?_;have H:(aop ky oJ b).length=oJ:=by unfold aop;rw[a0,an5]
 refine cm (kN H (i6 u)) ?_;refine cm (nr _ (o4 u)) ?_;have ig:dy (QJ zf iW.length) wC zg zh zi Cr iV oJ Cs Ct (iW++[.list false []]++[.list false []]) Hg Hi Hj Hk:=by
  have:=(C.more (.list false [])).more (.list false []);rw[show (iW++[bb.list false []]).length=iW.length+1 by rw[bW];rfl]at this;exact this
 have Hl:=C.ha wC C.kp.1;have r7:=C.ha zg C.kp.2.1;have tQ:=C.ha zh C.kp.2.2.1;have mu:=C.ha zi C.kp.2.2.2;have I:=C.ha 0 C.eT;have D:(iW++[bb.list false []]).length=iW.length+1:=by rw[bW];rfl
 show dg c _ (.one 4) [4,5,6,7] (hw 0 oJ) (.eP 0 oJ) (.upd (.upd (.eV 8 [some (.ref wC),some (.lst (aop ky oJ b))]) 2 (.ref iW.length)) 3 (.ref (iW++[bb.list false []]).length)) (iW++[.list false []]++[.list false []]) _ _;rw[D];refine dg.const (agI ky x zf wC zg zh zi Cr iV oJ Cs Ct Hh iW) ?_ ?_ ?_
 ·refine⟨d4 _,0,[],Hg,Hi,Hj,Hk,ig,?_,rfl,?_,d4 _,Y,(fun i hi=>dk hi (nM _)),.nil Y bL b2,fun a l=>?_⟩
  ·exact(hQ (by rw[D];exact aog _)).trans (j1 0 rfl)
  ·exact j1 0 D
  ·exact(hQ (by rw[D];exact j7 (C.ha a l))).trans (hQ (C.ha a l))
 ·intro w y aj aQ J;refine a3 fun m=>?_;obtain⟨an,h,n,ww,aE,aY,bY,W⟩:=J;obtain⟨rfl,aF⟩:=aoH aQ;refine m ?_;clear m;have K:n.length<=1000000:=by rw[W.af];have:=W.hn;exact Ai hn this
  obtain⟨r,o,qZ,aZ,bp,cI,rc,g,L,st,hf,ht⟩:=ags W.C hn u W.inv aF W.hn d6 (fun aE aY bY r=>G.r w h _ _ _ W.wl aF _ _ _ r) (d+1);have Cj:iA iV oJ (2^QO) aZ bp cI:=by
   cases r with
   |false=>obtain⟨⟨rfl,rfl,rfl⟩,V⟩:=hf rfl;exact G.r w h _ _ _ W.wl aF _ _ _ .nil
   |true=>exact G.s _ _ _ _ _ (.head W.wl (ht rfl).2.2.2 st.inv) aF
  have A:o[iW.length]?=some (.list false n):=(L _ (.inl (.inr rfl))).trans W.cS;have M:∀j<h,∀k∈ky,bw iV x bY j k=bw iV x cI j k:=fun j E k V=>cV fun i V=>by rw[st.BZ j i E]
  have N:o[iW.length+1]?=some (.list false (gS ky h (bw iV x cI))):=by
   rw[L _ (.inr rfl),W.hf,QI M]
  have yx:∀i<w,∀c,h<=c->c<iV->aZ i c=0:=fun i hi=>st.wg i (W.z i hi);have nc:∀a,zf a->o[a]?=iW[a]?:=fun a l=>(L a (.inl (.inl l))).trans (W.fr a l);have GG:∀j<h,∀k∈ky,IntMulOk (bw iV x cI j k) (aZ w j):=fun j E k B=>wv (Co hn Cj (fun i hi=>F i hi k B) (an9 E W.hn)) (Cj.p w aF j (an9 E W.hn)) (KP hex d6);have Q:=afu bc (b w) W.hn (aZ w) (bw iV x cI) GG (Cp (g.rw w aF)) (Cp N) rfl rfl d;have tC:eQ o (.lst (aop ky oJ b)) (.int (w:Int))=some (.v (aR (aA ky (b w)))):=qk o _ w _ (jz u aF) (jW _ aF);refine an3.mk (W.C.f8 (x:="cleared") (f:="Columns.cleared") rfl rfl) ?_;refine cm (y3 W.cS W.af (W.af▸K)) ?_;refine aW at_ rc ?_;cases r with
  |false=>
   obtain⟨⟨rfl,rfl,rfl⟩,bB⟩:=hf rfl;have R:∀k∈ky,(0-b w k-S h fun j=>bw iV x cI j k*aZ w j)=0:=fun k B=>by
    rw[QL st.inv aF x (Z w aF k B),Cn W.hn fun j e O=>by rw[bB j e O,g0],TP]
   refine an3.mk (g.uh at_) ?_;refine cj (mD g.hr (jz u aF) (jW _ aF)) ?_;refine cj tC ?_;refine aW at_ Q ?_;refine aW at_ (afq R (d+2) o) ?_;refine⟨_,by rfl,rfl,aF,h,n,qZ,_,_,_,g,A,W.af,N,W.hn,st.inv,fun i hi c e O=>?_,.zero W.wl bB,nc⟩;rcases ao8.mp hi with q|q
   ·exact yx i q c e O
   ·rw[q];exact bB c e O
  |true=>
   refine a3 fun m=>?_;obtain⟨T,Bp,bB,U⟩:=ht rfl;refine m ?_;clear m;have R:aA ky (fun k=>0-b w k-S h fun j=>bw iV x cI j k*aZ w j)=aA ky fun k=>aZ w h*bw iV x cI h k:=pF fun k B=>by
    rw[QL st.inv aF x (Z w aF k B),Cn (h:=h+1) T fun j e O=>by rw[bB j e O,g0]];show S h _+aZ w h*bw iV x cI h k-S h _=_;exact Im.mpr rfl
   rw[R]at Q;refine an3.mk (g.uh at_) ?_;refine cj (mD g.hr (jz u aF) (jW _ aF)) ?_;refine cm (y3 A W.af (W.af▸K)) ?_;refine cj (lf (g.rw w aF) hn T) ?_;refine an3.mk (g.uh at_) ?_;refine cj (mD g.hr (jz u aF) (jW _ aF)) ?_;refine cj tC ?_;refine aW at_ Q ?_;refine aW at_ (afs bc (bw iV x cI h) Bp (d+2) o) ?_;refine bI.t (b9 Bp) ?_;refine kq (uo A) ?_;refine aor (Cq A K _) ?_;have C4:=g.put (a:=iW.length) (.inl (.inr rfl)) (Nat.ne_zero_of_lt I) (rC Hl) (rC r7) (rC tQ) (rC mu) (.list false (n++[.int w]));have X:(o.set iW.length (.list false (n++[.int w])))[iW.length+1]?=some (.list false (gS ky h (bw iV x cI))):=(jV (al1 _)).trans N;refine kq (uo X) ?_;refine aor (Cq X (by rw[Hd];have:=W.hn;exact Ai hn this) _) ?_;have C5:=C4.put (a:=iW.length+1) (.inr rfl) (J1) (xf Hl) (xf r7) (xf tQ) (xf mu) (.list false (gS ky h (bw iV x cI)++[aR (aA ky (bw iV x cI h))]));refine⟨_,by rfl,rfl,aF,h+1,n++[.int w],qZ,aZ,bp,cI,C5,?_,?_,?_,T,st.inv,fun i hi c e O=>?_,.head W.wl U st.inv,fun a l=>?_⟩
   ·exact(jV (eD (al1 _))).trans (nt _ A)
   ·rw[bW,W.af];rfl
   ·rw[QH];exact nt _ X
   ·rcases ao8.mp hi with q|q
    ·exact yx i q c (rq e) O
    ·rw[q];exact bB c e O
   ·have:=C.ha a l;exact(jV (xf this)).trans ((jV (rC this)).trans (nc a l))
 ·intro aj J;refine a3 fun m=>?_;obtain⟨V,h,n,ww,aE,aY,bY,W⟩:=J;refine m ?_;clear m;rw[yR]at W;exact⟨aj,h,n,ww,aE,aY,bY,aoj,W⟩
theorem agR{K keep s dn b0 b1 lb n m ra fa σ ce A P F B ex E}:He K keep s dn b0 b1 lb n m ra fa σ ce A P F B ex E:=tb (P:=QN) agK (K,keep,s,dn,b0,b1,lb,n,m,ra,fa,σ,ce,A,P,F,B,ex,E)
end
noncomputable def sx(i:Int):Str:=("?":Str)++ly (toString i)
def Q(c:Nat):Str:=sx (c:Int)
theorem uq(σ:ah){i:Int}(h:i.natAbs<10^40):i8 σ .str [.int i]=some (.v (.str (ly (toString i)))):=bl h
theorem agS(h:σ[i]?=some (.dict false D))(a:D.length<=1000000)(k:Str)(v:an2):setAt σ (.ref i) (.str k) v=some (σ.set i (.dict false (b6 D k v))):=by
 show (rM σ i).bind _=_;rw[Ga h];exact bl (b9 a)
theorem agT(l:List an2):∀k,pc k l=(bf l.length).map fun i=>.tup [.int ((k+i:Nat):Int),(l[i]?).getD .none]:=by
 induction l with
 |nil=>exact fun k=>rfl
 |cons x l ih=>
  intro k;show an2.tup [.int (k:Int),x]::pc (k+1) l=_;rw[ih,aoc,IG,gu,hk];refine dt (Iv (an2.tup [.int (k:Int),x])) (i0 fun i V=>?_);show an2.tup [.int ((k+1+i:Nat):Int),_]=an2.tup [.int ((k+(i+1):Nat):Int),_];rw[uM k 1 i];rfl
theorem wD(n:Nat)(L:Nat->Str):(fu n L).length=n:=by unfold fu;rw[a0,an5]
noncomputable def Hp(L:Nat->Str)(i:Nat):an2:=.tup [.int (i:Int),.str (L i)]
theorem QP(n:Nat)(L:Nat->Str):pc 0 (fu n L)=(bf n).map (Hp L):=by
 rw[agT,wD];refine i0 fun i hi=>?_;rw[show (fu n L)[i]?=some (.str (L i)) from jW _ (eE.mp hi),mT];rfl
noncomputable def ba{α:Type}(k:Nat)(L:Nat->Str)(v:Nat->α):List (Str×α):=(bf k).map fun i=>(L i,v i)
theorem lN(k:Nat)(L:Nat->Str)(v:Nat->α):(ba k L v).length=k:=by unfold ba;rw[a0,an5]
theorem sy(k:Nat)(L:Nat->Str)(v:Nat->α):(ba k L v).map bz=(bf k).map L:=by unfold ba;rw[hk];rfl
theorem q4{L:Nat->Str}(h:∀i<k,L i≠L k)(v:Nat->α):b6 (ba k L v) (L k) (v k)=ba (k+1) L v:=by
 rw[u8 fun q=>by
  rw[sy]at q;refine aw (dQ.mp q) fun i hi e=>?_;exact h i (eE.mp hi) e]
 unfold ba;rw[z6,hS];rfl
theorem Cv{L:Nat->Str}(h:∀i j,i<j->j<k->L i≠L j)(v:Nat->α):((ba k L v).map bz).Nodup:=by
 rw[sy]
 induction k with
 |zero=>exact sY
 |succ k ih=>
  rw[z6,hS,mQ];refine⟨ih fun i j c O=>h i j c (j7 O),mR.mpr ⟨(fun q=>eO q),sY⟩,fun a d b f e=>?_⟩;refine aw (dQ.mp d) fun i hi g=>?_;subst g;obtain rfl:=c3.mp f;exact h i k (eE.mp hi) (aog k) e
theorem QQ{n:Nat}(hn:h<=n){k:Nat}{x:an2}(b:(hw (h:Int) (n:Int))[k]?=some x):x=.int ((h+k:Nat):Int)/\h+k<n:=by
 rw[GK hn]at b;unfold oE at b;rw[hk,aob]at b;refine aw (dh.mp b) fun j c d=>?_;subst d;obtain⟨a,O⟩:=dN.mp c;rw[an5]at a;rw[TR]at O;subst O;exact⟨rfl,(kG _ _▸IJ a)⟩
theorem QR{n:Nat}(hn:h<=n):(hw (h:Int) (n:Int)).length=n-h:=by
 rw[GK hn];unfold oE;rw[a0,a0,an5]
section
variable {K:List Str}
theorem QS(bc:dT K){q:Str}(d:q∈K):aA K (fun k=>if k=q then 1 else 0)=[(q,1)]:=by
 refine Gl (wa bc.c7 _) (List.pairwise_singleton _ _) fun kv=>?_;rw[iT,c3];refine⟨fun ⟨a,b,c⟩=>?_,fun e=>?_⟩
 ·by_cases e:kv.1=q
  ·rw[bl e]at b;exact aks e b
  ·rw[b5 e]at b;exact dk b c
 ·subst e;exact⟨d,(bl rfl).symm,show (1:Int)≠0 by decide⟩
theorem Cw(d:Nat->Option an2)(l:List (Str×an2))(h:∀kv∈l,eF kv.2=true):o8 d l=some l:=by
 induction l with
 |nil=>rfl
 |cons p l ih=>
  obtain⟨k,v⟩:=p;rw[Lm,DZ d v (h _ cW),ih fun kv a=>h kv (dM _ a)];rfl
theorem ur(k:Nat)(L:Nat->Str)(T:Nat->cg):∀kv∈ba k L (fun i=>aR (T i)),eF kv.2=true:=fun kv h=>by
 refine aw (dQ.mp h) fun i V a=>?_;subst a;exact hB _
theorem agU{σ τ:ah}{a b:Nat}{p q:Bool}{D E:List (Str×an2)}{ρ:List an2}(ht:∀i,i<σ.length->τ[i]?=σ[i]?)(r:σ.length<=τ.length)(c:σ.length<=a)(d:σ.length<=b)(e:τ[a]?=some (.dict p D))(f:τ[b]?=some (.dict q E))(g:∀kv∈D,eF kv.2=true)(k:∀kv∈E,eF kv.2=true) :
  left false σ (.ok (.ret (.tup [.ref a,.ref b]),ρ) τ)=.ok (.tup [.ba D,.ba E]) σ:=by
 have l:τ.take σ.length=σ:=by
  apply uQ;intro i;rw[Tb];by_cases h:i<σ.length
  ·rw[bl h];exact ht i h
  ·rw[b5 h,nN (kC h)]
 rw[xy,bl l];have m:di σ.length τ 3 (.tup [.ref a,.ref b])=some (.tup [.ba D,.ba E]):=by
  show (kf _ [.ref a,.ref b]).map _=_;rw[td,td];have n:iJ (fun i=>if i<σ.length then some (.ref i) else aoI (fun j=>di σ.length τ 2 (.ref j)) τ[i]?) (.ref a)=some (.ba D):=by
   show (if a<σ.length then _ else _)=_;rw[b5 (gq.mpr c),e];exact dt (mP an2.ba) (Cw _ _ g)
  have o:iJ (fun i=>if i<σ.length then some (.ref i) else aoI (fun j=>di σ.length τ 2 (.ref j)) τ[i]?) (.ref b)=some (.ba E):=by
   show (if b<σ.length then _ else _)=_;rw[b5 (gq.mpr d),f];exact dt (mP an2.ba) (Cw _ _ k)
  rw[n,o];rfl
 rw[m]
open Classical in
noncomputable def j2(ls:List Str)(f:Str->Int)(k:Str):Int:=if k∈ls then 0 else f k
def fd(h:Nat)(y:Nat->Str->Int)(j:Nat)(k:Str):Int:=if j<h then y j k else if k=Q (j-h) then 1 else 0
def d3(n h:Nat)(y:Nat->Str->Int)(F:a4)(i:Nat)(k:Str):Int:=S n fun j=>fd h y j k*F i j
def aot(K:List Str)(n h:Nat)(L:Nat->Str)(y:Nat->Str->Int)(F:a4)(k:Nat):List (Str×an2):=ba k L fun i=>aR (aA K (d3 n h y F i))
def q5(n:Nat)(L:Nat->Str)(B:a4)(r:Nat):cg:=ba n L fun i=>B r i
def pO(K:List Str)(n h:Nat)(L:Nat->Str)(B:a4)(k:Nat):List (Str×an2):=ba k Q fun c=>aR (aA K (val (q5 n L B (h+c))))
section
variable {keep:Nat->Prop}{s dn b0 b1 lb n m:Nat}{ra fa:Nat->Nat}{σ:ah}{ce:Nat->Nat}{P F B:a4}
theorem dy.app(C:dy keep s dn b0 b1 lb n m ra fa σ ce P F B)(r:ah):dy keep s dn b0 b1 lb n m ra fa (σ++r) ce P F B:=by
 have b:∀{a x},σ[a]?=some x->(σ++r)[a]?=some x:=fun h=>(hQ (ie h)).trans h;refine⟨fun a c=>?_,C.eT,C.kp,?_,b C.hs,b C.hd,b C.hr,b C.hf,b C.ab,fun i hi=>b (C.rw i hi),fun i hi=>b (C.fw i hi),fun i hi=>b (C.iB i hi),C.tag⟩
 ·rw[bW];exact an9 (C.ha a c) (bO _ _)
 ·refine bK C.tab fun q h=>?_;exact⟨q,b h⟩
end
variable {c om h s ut u:Nat}
theorem agV(y:Nat->Str->Int):gS K h (fd h y)=gS K h y:=QI fun j a k V=>bl a
theorem agW(y:Nat->Str->Int):fd h y (h+c)=fun k=>if k=Q c then 1 else 0:=by
 funext k;unfold fd;rw[b5 (gq.mpr (bO _ _)),l0]
theorem Cx:(((h+c:Nat):Int)-(h:Int))=(c:Int):=by exact Ul
noncomputable def rs(ms ls:an2)(s om h ut:Nat)(us:Option an2):a':=.eV 12 [some ms,some ls,some (.ref s),some (.ref om),some (.int h),none,some (.ref ut),none,none,us,none,none]
variable {ls ms:List an2}
theorem agX:cY (rs (.lst ms) (.lst ls) s om h ut none):=pD rfl
theorem agY:cY (rs (.lst ms) (.lst ls) s om h ut (some (.ref u))):=pD rfl
noncomputable def Hq(ms ls:an2)(s om h ut:Nat)(us lP:Nat)(cl:Nat):a':=.eV 12 [some ms,some ls,some (.ref s),some (.ref om),some (.int h),some (.int cl),some (.ref ut),none,none,some (.ref us),some (.ref lP),none]
theorem agZ{p:Nat}:cY (Hq (.lst ms) (.lst ls) s om h ut u p c):=pD rfl
structure wE (n m:Nat)(A:a4)(e h:Nat)(P F B:a4):Prop where
 hn:h<=n
 inv:eJ n m A P F B
 z:∀i<m,∀c,h<=c->c<n->P i c=0
 bd:iA n m (2^e) P F B
abbrev ag0(K:List Str)(aj:ah)(a h n:Nat)(y:Nat->Str->Int)(k:Nat)(au:ah):Prop:=h+k<=n/\au=aj.set a (.list false (gS K (h+k) (fd h y)))
abbrev ag1(K:List Str)(n h:Nat)(L:Nat->Str)(y:Nat->Str->Int)(F:a4)(r:a')(cN:ah)(done:List Nat)(ρ:a')(au:ah):Prop:=ρ=r/\au=cN++[.dict false (aot K n h L y F done.length)]
abbrev ag2(eo K:List Str)(n h:Nat)(L:Nat->Str)(y:Nat->Str->Int)(F B:a4)(r:a')(cN:ah)(k:Nat)(ρ:a')(au:ah):Prop:=ρ=r/\h+k<=n/\∃uu,au=cN++([.dict false (aot K n h L y F n),.dict false (pO eo n h L B k)]++uu)
abbrev ag3(L:Nat->Str)(b:Nat->Int)(r:a')(τ:ah)(done:List Nat)(ρ:a')(au:ah):Prop:=ρ=r/\au=τ++[.dict false (an4 (ba done.length L b))]
def Hr(K eo:List Str)(n m:Nat)(L:Nat->Str)(ex E:Nat)(q:Str)(σ:ah):Prop:=∀(zk:dT eo) (bc:dT K) (hn:n<=1000) (hm:m<=1000) (eg:∀j<n,L j∈eo) (wF:∀i j,i<j->j<n->L i≠L j) (gC:∀c<n,Q c∈K) (sA:∀i j,i<j->j<n->Q i≠Q j) (Hs:∀c<n,(ly (toString (c:Int))).length<=1000) (R:Nat->Str->Int) (fU:∀i<m,aA eo (j2 ((bf n).map L) (R i))=aA K (j2 ((bf n).map L) (R i))) (x:Nat->Str->Int) (hx:∀i<m,∀k∈K,(S n fun j=>R i (L j)*x j k)+j2 ((bf n).map L) (R i) k=0) (aoi:∀i<n,∀k∈K,(x i k).natAbs<=2^ex) (hex:ex<=1000) (d6:E<=64000000) (hs:wB n m (fun i j=>R i (L j)) E) (aC:σ[0]?=some (.tab q)) (d:Nat),∃h P F B,bF G (d+5) "solved" [.lst (aop eo m R),.lst (fu n L)] σ=.ok (.tup [.ba (aot K n h L (bw n x B) F n),.ba (pO eo n h L B (n-h))]) σ/\wE n m (fun i j=>R i (L j)) E h P F B
def QT(k:List Str×List Str×Nat×Nat×(Nat->Str)×Nat×Nat×Str×ah):Prop:=Hr k.1 k.2.1 k.2.2.1 k.2.2.2.1 k.2.2.2.2.1 (en k).2.1 (en k).2.2.1 (en k).2.2.2.1 (ey k)
def q6:=ch QT
def hh:=q6.1
def iD:=q6.2.1
def bM:=q6.2.2.1
def li:=q6.2.2.2.1
def du:=q6.2.2.2.2.1
def QU:=(en q6).2.1
def QV:=(en q6).2.2.1
def uv:=(en q6).2.2.2.1
def lQ:=(ey q6)
set_option maxHeartbeats 400000 in
theorem ag4:Hr hh iD bM li du QU QV uv lQ:=by
 intro E bc hn J eg K gC sA Hs R fU x hx u hex d6 hs aC d;refine mV (agB aC bM li fun i j=>R i (du j)) fun p M aS=>?_;obtain⟨aj,h,G,ce,P,F,B,N,W⟩:=agR bc p hn J (agC bM li _) x (fun i=>j2 ((bf bM).map du) (R i)) hx u hex (fun l V c V=>rfl) (fun l V c V=>rfl) d6 hs d;have O:=hs.s _ _ _ _ _ W.wl (cu li);refine⟨h,P,F,B,?_,W.hn,W.inv,W.z,O⟩;generalize S:ku lQ bM li (fun i j=>R i (du j))=g at *
 have T:h<=1000:=ax W.hn hn;have BV:=ie aC;have U:g.length+1<aj.length:=ie W.hf;refine dw aeu rfl rfl rfl fun c at_=>?_;refine aW at_ (S▸agz E hn J eg R (d+2) lQ) ?_;refine eB.pure (fun i=>aR (aA iD (R i))) (fun V=>true) (fun i=>aR (aA hh (j2 ((bf bM).map du) (R i)))) (bf li) rfl rfl rfl (fun i hi=>⟨⟨rfl,rfl⟩,fun V=>?_⟩) ?_ ?_
 ·have hr:=afp E (R i) ((bf bM).map du) (d+3) g;rw[show (((bf bM).map du).map an2.str)=fu bM du by unfold fu;rw[hk];rfl]at hr;exact aW at_ hr ⟨rfl,dt aR (fU i (eE.mp hi))⟩
 ·rw[fP,a0,an5];exact b9 (i6 J)
 rw[fP];refine aW at_ N ?_;refine cm (y3 W.hf (Hd ..) (i6 T)) ?_;refine cm (kN (wD ..) (i6 hn)) ?_;refine cm (w:=.v (.eP h bM)) (bl ⟨(o4 hn),(o4 T)⟩) ?_
 refine dg.const (ag0 hh aj (g.length+1) h bM (bw bM x B)) ?_ ?_ ?_
 ·refine⟨W.hn,?_⟩;show aj=aj.set (g.length+1) (.list false (gS hh h (fd h (bw bM x B))));rw[agV];exact(t8 W.hf).symm
 ·rintro k y au X ⟨H,rfl⟩;refine bt (QQ W.hn X) fun Y o=>?_;subst Y;have aV:=nt (.list false (gS hh (h+k) (fd h (bw bM x B)))) W.hf;refine kq (uo aV) ?_;refine cm (uq _ (i:=((h+k:Nat):Int)-(h:Int)) (by rw[Cx];have:k<10^40:=jt (show k<1001 by exact J5 hn o) (by decide);exact J4 this)) ?_;rw[Cx];refine eh (kj _ _ _ (ax (fv (Hs k (Aj o)) _) (by decide))) ?_;refine aor (Cq aV (by rw[Hd];exact ax (et o) (ax hn (by decide))) _) ?_;refine⟨_,by rfl,rfl,(J3 o),?_⟩;rw[xa,<- eK,QH,agW,QS bc (gC k (Aj o))];rfl
 rintro au ⟨_,rfl⟩;rw[QR W.hn,Dg W.hn];have Hl:=p.ha _ p.kp.1;have r7:=p.ha _ p.kp.2.1;have tQ:=p.ha _ p.kp.2.2.1;have r:=p.ha _ p.kp.2.2.2;have ig:=W.C.put (a:=g.length+1) (.inr rfl) (J1) (fun uv=>J6 r (IN uv▸dk r (gq.mpr (IN uv▸ax (ax (bO _ 3) (bO _ _)) (bO _ _))))) (J6 r) (kF (j7 (fR (ax (lx (fv (by decide:2<=3) _) _) (bO _ _)) r))) (kF (j7 r)) (.list false (gS hh bM (fd h (bw bM x B))));have q3:=nt (.list false (gS hh bM (fd h (bw bM x B)))) W.hf;have q0:∀a,a<lQ.length->(aj.set (g.length+1) (.list false (gS hh bM (fd h (bw bM x B)))))[a]?=lQ[a]?:=fun a Z=>(jV (kF (j7 (jt Z (fR (ax (bO _ 3) (ax (bO _ _) (bO _ _))) r))))).trans ((W.fr a (.inl Z)).trans (M a Z));have I:lQ.length<=(aj.set (g.length+1) (.list false (gS hh bM (fd h (bw bM x B))))).length:=by rw[lY];exact ax (ax (bO _ 3) (ax (bO _ _) (bO _ _))) (ax (et r) (ax (nK _) (et U)))
 generalize aj.set (g.length+1) (.list false (gS hh bM (fd h (bw bM x B))))=n at *
 have an:∀i<bM,∀j<bM,∀k∈hh,IntMulOk (fd h (bw bM x B) j k) (F i j):=fun i hi j q k H=>by
  refine wv (e:=10+QV+QU) ?_ (O.f i hi j q) (KP hex d6);unfold fd;by_cases uv:j<h
  ·rw[bl uv];exact Co hn O (fun i hi=>u i hi k H) q
  ·rw[b5 uv];refine ax (m:=1) ?_ (kI (by decide));split<;>decide
 refine qF.listI (Hp du) (bf bM) (ag1 hh bM h du (bw bM x B) F (rs (.lst (aop iD li R)) (.lst (fu bM du)) (lQ.length+1) (g.length+1) h n.length none) n) (fun V ρ au h=>h.1▸agX) (QP bM du) ⟨rs (.lst (aop iD li R)) (.lst (fu bM du)) (lQ.length+1) (g.length+1) h n.length none,by rfl,rfl,rfl⟩ ?_ ?_
 ·rintro done i A ρ au v b' K' G ⟨rfl,rfl⟩;refine bt (BW G) fun ak hi=>?_;have bJ:done.length=i:=by rw[ak,an5]
  rw[bJ];have t:=ig.app [.dict false (aot hh bM h du (bw bM x B) F i)];have ap:(n++[bb.dict false (aot hh bM h du (bw bM x B) F i)])[g.length+1]?=some (.list false (gS hh bM (fd h (bw bM x B)))):=(hQ (ie q3)).trans q3;refine an3.mk (t.B3 at_) ?_;refine cj (mD t.hf (jz hn hi) (jW _ hi)) ?_;refine aW at_ (afv bc (cu bM) (F i) (fd h (bw bM x B)) (an i hi) (Cp (t.fw i hi)) (Cp ap) rfl rfl (d+1)) ?_;refine gR (nq (by unfold aot;rw[lN];exact jz hn hi) _ _) ?_;refine⟨_,by rfl,rfl,?_⟩;rw[bW,bJ];refine dt (fun l=>n++[bb.dict false l]) ?_;exact q4 (fun j q=>K j i q hi) _
 rintro ρ au ⟨rfl,rfl⟩;rw[an5]
 have as:(n++[bb.dict false (aot hh bM h du (bw bM x B) F bM)]).length=n.length+1:=by rw[bW];rfl
 refine cm (kN (wD ..) (i6 hn)) ?_;refine cm (w:=.v (.eP h bM)) (bl ⟨(o4 hn),(o4 T)⟩) ?_;show dg c _ (.one 5) [5,7,8,10] (hw h bM) (.eP h bM) (.upd (rs (.lst (aop iD li R)) (.lst (fu bM du)) (lQ.length+1) (g.length+1) h n.length none) 9 (.ref (n++[bb.dict false (aot hh bM h du (bw bM x B) F bM)]).length)) (n++[.dict false (aot hh bM h du (bw bM x B) F bM)]++[.dict false []]) _ _;rw[as];refine dg.inv (ag2 iD hh bM h du (bw bM x B) F B (rs (.lst (aop iD li R)) (.lst (fu bM du)) (lQ.length+1) (g.length+1) h n.length (some (.ref (n.length+1)))) n) (fun V ρ au h=>h.1▸agY) ⟨rs (.lst (aop iD li R)) (.lst (fu bM du)) (lQ.length+1) (g.length+1) h n.length (some (.ref (n.length+1))),by rfl,rfl,W.hn,[],?_⟩ ?_ ?_
 ·show n++[bb.dict false (aot hh bM h du (bw bM x B) F bM)]++[.dict false []]=_;rw[ek,il];rfl
 ·intro k y ρ au X fL;obtain⟨rfl,H,uu,rfl⟩:=fL;refine bt (QQ W.hn X) fun Y o=>?_;subst Y;generalize qU:n++([bb.dict false (aot hh bM h du (bw bM x B) F bM),.dict false (pO iD bM h du B k)]++uu)=τ;have aG:dy _ _ _ _ _ _ bM li _ _ τ ce P F B:=qU▸ig.app _;have aX:τ[n.length+1]?=some (.dict false (pO iD bM h du B k)):=by rw[<- qU];exact j1 1 rfl
  have v5:=ie aX;refine qF.listI (Hp du) (bf bM) (ag3 du (fun i=>B (h+k) i) (Hq (.lst (aop iD li R)) (.lst (fu bM du)) (lQ.length+1) (g.length+1) h n.length (n.length+1) τ.length (h+k)) τ) (fun V ρ au h=>h.1▸agZ) (QP bM du) ⟨Hq (.lst (aop iD li R)) (.lst (fu bM du)) (lQ.length+1) (g.length+1) h n.length (n.length+1) τ.length (h+k),by rfl,rfl,rfl⟩ ?_ ?_
  ·rintro done i A ρ au v b' K' G ⟨rfl,rfl⟩;refine bt (BW G) fun ak hi=>?_;have bJ:done.length=i:=by rw[ak,an5]
   rw[bJ];have t:=aG.app [.dict false (an4 (ba i du fun i=>B (h+k) i))];refine an3.mk (t.qQ at_) ?_;refine cj (mD t.ab (ax H (ax hn (by decide))) (jW _ o)) ?_;refine cj (lf (t.iB _ o) hn hi) ?_;refine gR (nq (by rw[AI,lN];exact jz hn hi) _ _) ?_;refine⟨_,by rfl,rfl,?_⟩;rw[bW,bJ];refine dt (fun l=>τ++[bb.dict false l]) ?_;rw[AJ];exact dt an4 (q4 (fun j q=>K j i q hi) _)
  ·rintro ρ au ⟨rfl,rfl⟩;rw[an5];have kW:=Cv K fun i=>B (h+k) i;have ed:∀z∈(ba bM du fun i=>B (h+k) i).map bz,z∈iD:=fun z bB=>by
    rw[sy]at bB;refine aw (dQ.mp bB) fun i hi aJ=>?_;subst aJ;exact eg i (eE.mp hi)
   have QW:=yT (σ:=τ++[.dict false (an4 (ba bM du fun i=>B (h+k) i))]) (i:=τ.length) (b:=false) (D:=ba bM du fun i=>B (h+k) i) gQ (ua E kW ed) (d+3);rw[t9 E.c7 kW ed]at QW;refine aW at_ QW ?_;refine cm (uq _ (i:=((h+k:Nat):Int)-(h:Int)) (by rw[Cx];have:k<10^40:=jt (show k<1001 by exact J5 hn o) (by decide);exact J4 this)) ?_;rw[Cx];refine eh (kj _ _ _ (ax (fv (Hs k (Aj o)) _) (by decide))) ?_;refine gR (agS ((hQ v5).trans aX) (by unfold pO;rw[lN];exact ax (et (fR (pZ _ _) o)) (ax hn (by decide))) _ _) ?_;refine⟨rs (.lst (aop iD li R)) (.lst (fu bM du)) (lQ.length+1) (g.length+1) h n.length (some (.ref (n.length+1))),by rfl,rfl,(J3 o),uu++[.dict false (an4 (ba bM du fun i=>B (h+k) i))],?_⟩;rw[show b6 (pO iD bM h du B k) (("?":Str)++ly (toString (k:Int))) (aR (aA iD (val (ba bM du fun i=>B (h+k) i))))=pO iD bM h du B (k+1) from q4 (L:=Q) (fun j q=>sA j k q (Aj o)) fun c=>aR (aA iD (val (q5 bM du B (h+c)))),List.set_append_left _ _ v5,<- qU,Dl _ _ (bO _ _),l0];show n++([bb.dict false (aot hh bM h du (bw bM x B) F bM),.dict false (pO iD bM h du B (k+1))]++uu)++_=_;rw[ek,ek]
 intro ρ au fL;obtain⟨rfl,V,uu,rfl⟩:=fL;rw[QR W.hn];exact agU (τ:=n++([bb.dict false (aot hh bM h du (bw bM x B) F bM),bb.dict false (pO iD bM h du B (bM-h))]++uu)) (fun i hi=>(hQ (an9 hi I)).trans (q0 i hi)) (by rw[bW];exact al2 I) I (ax I (nK _)) (j1 0 rfl) (j1 1 rfl) (ur _ _ _) (ur _ _ _)
theorem ahc{K eo n m L ex E q σ}:Hr K eo n m L ex E q σ:=tb (P:=QT) ag4 (K,eo,n,m,L,ex,E,q,σ)
end
inductive nE where
 |plus|minus|times (u:Unit)|over
inductive T where
 |c2 (w:Str)
 |b4
 |is (n:an2) (f:Str->Int)
 |bin (o:nE) (a b:T)
 |pow (a:T) (n:Int)
 |less (a b c d:T)
noncomputable def nE.word(x:nE):Str:=match x with
 |.plus=>"plus" | .minus=>"minus" | .times V=>"times" | .over=>"over"
noncomputable def T.word(x:T):Str:=match x with
 |.c2 V=>"input" | .b4=>"nought" | .is V f9=>"is" | .bin o V f9=>o.word|.pow V f9=>"power" | .less V f9 QX V3=>"less"
noncomputable def bT(B:List Str)(x:T):an2:=match x with
 |.c2 w=>.tup [.str "input",.str w]
 |.b4=>.tup [.str "nought"]
 |.is n f=>.tup [.str "is",n,aR (aA B f)]
 |.bin o a b=>.tup [.str o.word,bT B a,bT B b]
 |.pow a n=>.tup [.str "power",bT B a,.int n]
 |.less a b c d=>.tup [.str "less",bT B a,bT B b,bT B c,bT B d]
noncomputable def T.kids(x:T):List T:=match x with
 |.bin V a b=>[a,b]
 |.pow a V=>[a]
 |.less a b c d=>[a,b,c,d]
 |.c2 V=>[]
 |.b4=>[]
 |.is V f9=>[]
noncomputable def T.all(x:T):List T:=match x with
 |.bin o a b=>.bin o a b::(a.all++b.all)
 |.pow a n=>.pow a n::a.all
 |.less a b c d=>.less a b c d::(a.all++(b.all++(c.all++d.all)))
 |.c2 w=>[.c2 w]
 |.b4=>[.b4]
 |.is n f=>[.is n f]
noncomputable def T.ht(x:T):Nat:=match x with
 |.bin V a b=>1+max a.ht b.ht
 |.pow a V=>1+a.ht
 |.less a b c d=>1+max (max a.ht b.ht) (max c.ht d.ht)
 |.c2 V=>1
 |.b4=>1
 |.is V f9=>1
noncomputable def T.nn(x:T):Nat:=match x with
 |.b4=>1
 |.bin V a b=>a.nn+b.nn
 |.pow a V=>a.nn
 |.less a b c d=>a.nn+b.nn+(c.nn+d.nn)
 |.c2 V=>0
 |.is V f9=>0
theorem ji{o:nE}{a b:T}:T.kids (.bin o a b)=[a,b]:=rfl
theorem hI{a:T}{n:Int}:T.kids (.pow a n)=[a]:=rfl
variable {d t:T}
theorem lj{a b c:T}:T.kids (.less a b c d)=[a,b,c,d]:=rfl
theorem ll:T.kids (.c2 w)=[]:=rfl
theorem lm:T.kids .b4=[]:=rfl
theorem ln{n:an2}{f:Str->Int}:T.kids (.is n f)=[]:=rfl
theorem pP{o:nE}{a b:T}:T.all (.bin o a b)=.bin o a b::(a.all++b.all):=rfl
theorem pQ{a:T}{n:Int}:T.all (.pow a n)=.pow a n::a.all:=rfl
theorem pR{a b c:T}:T.all (.less a b c d)=.less a b c d::(a.all++(b.all++(c.all++d.all))):=rfl
theorem pS:T.all (.c2 w)=[.c2 w]:=rfl
theorem pT:T.all .b4=[.b4]:=rfl
theorem pU{n:an2}{f:Str->Int}:T.all (.is n f)=[.is n f]:=rfl
theorem q8{o:nE}{a b:T}:T.ht (.bin o a b)=1+max a.ht b.ht:=rfl
theorem q9{a:T}{n:Int}:T.ht (.pow a n)=1+a.ht:=rfl
theorem q'{a b c:T}:T.ht (.less a b c d)=1+max (max a.ht b.ht) (max c.ht d.ht):=rfl
theorem rb:T.ht (.c2 w)=1:=rfl
theorem rd:T.ht .b4=1:=rfl
theorem re{n:an2}{f:Str->Int}:T.ht (.is n f)=1:=rfl
theorem aoP{o:nE}{a b:T}:T.nn (.bin o a b)=a.nn+b.nn:=rfl
theorem zm{a:T}{n:Int}:T.nn (.pow a n)=a.nn:=rfl
theorem zn{a b c:T}:T.nn (.less a b c d)=a.nn+b.nn+(c.nn+d.nn):=rfl
theorem zo:T.nn (.c2 w)=0:=rfl
theorem zp:T.nn .b4=1:=rfl
theorem zq{n:an2}{f:Str->Int}:T.nn (.is n f)=0:=rfl
noncomputable def T.ok(W:Str->Prop)(B:List Str)(x:T):Prop:=match x with
 |.c2 w=>W w
 |.b4=>True
 |.is n f=>eF n=true/\∀k,k∉B->f k=0
 |.bin V a b=>a.ok W B/\b.ok W B
 |.pow a n=>a.ok W B/\n.natAbs<=4
 |.less a b c d=>a.ok W B/\b.ok W B/\c.ok W B/\d.ok W B
theorem T.Hv{P:T->Prop}(h:∀t,(∀x∈t.kids,P x)->P t)(t:T):P t:=by
 induction t with
 |bin o a b e f=>exact h _ fun x hx=>by rcases dG.mp hx with rfl|hx;exact e;obtain rfl:=c3.mp hx;exact f
 |pow a n e=>exact h _ fun x hx=>by obtain rfl:=c3.mp hx;exact e
 |less a b c d e f ae g=>exact h _ fun x hx=>by rcases dG.mp hx with rfl|hx;exact e;rcases dG.mp hx with rfl|hx;exact f;rcases dG.mp hx with rfl|hx;exact ae;obtain rfl:=c3.mp hx;exact g
 |_=>exact h _ fun x hx=>eO hx
theorem Hw(t:T):t.all=t::t.kids.flatMap T.all:=by
 cases t<;>simp[pP,pQ,pR,pS,pT,pU,ji,hI,lj,ll,lm,ln]
theorem QY{x:T}(h:x∈t.kids):x.ht<t.ht:=by
 cases t<;>simp[ji,hI,lj,ll,lm,ln]at h
 ·rcases h with rfl | rfl<;>simp only[q8,q9,q',rb,rd,re]<;>(first | exact Uv | exact Uw)
 ·subst h;simp only[q8,q9,q',rb,rd,re];exact by simp +arith
 ·rcases h with rfl | rfl | rfl | rfl<;>simp only[q8,q9,q',rb,rd,re]<;>(first | exact(fR (ax (CW _ _) (CW _ _)) (Jf (by decide))) | exact(fR (ax (CX _ _) (CW _ _)) (Jf (by decide))) | exact(fR (ax (CW _ _) (CX _ _)) (Jf (by decide))) | exact fR (ax (CX _ _) (CX _ _)) (Jf (by decide)))
theorem QZ(t:T):1<=t.ht:=by cases t<;>simp only[q8,q9,q',rb,rd,re]<;>(first | exact(z4 rfl) | exact(bO 1 (max _ _)) | exact(bO 1 _) | exact bO 1 (max (max _ _) (max _ _)))
theorem Q0(t:T):t.kids.length<=4:=by cases t<;>simp[ji,hI,lj,ll,lm,ln]
theorem ahe{x:T}(h:x∈t.kids):x.all.length<t.all.length:=by
 cases t<;>simp[ji,hI,lj,ll,lm,ln]at h<;>simp only[pP,pQ,pR,pS,pT,pU,aoc,bW]
 ·rcases h with rfl | rfl<;>(first | exact(by simp +arith) | exact by simp +arith)
 ·subst h;exact SG _
 ·rcases h with rfl | rfl | rfl | rfl<;>(first | exact(by simp +arith) | exact(by simp +arith) | exact(by simp +arith) | exact by simp +arith)
section
variable {W:Str->Prop}{B:List Str}
variable {t:T}
theorem Cy(h:t.ok W B):∀x∈t.kids,x.ok W B:=by
 cases t with
 |bin o a b=>intro x e;simp[ji,hI,lj,ll,lm,ln]at e;rcases e with rfl|rfl;exact h.1;exact h.2
 |pow a n=>intro x e;simp[ji,hI,lj,ll,lm,ln]at e;subst e;exact h.1
 |less a b c d=>intro x e;simp[ji,hI,lj,ll,lm,ln]at e;rcases e with rfl|rfl|rfl|rfl;exact h.1;exact h.2.1;exact h.2.2.1;exact h.2.2.2
 |_=>intro x e;cases e
theorem Q1(t:T):t.ok W B->∀x∈t.all,x.ok W B:=by
 induction t using T.Hv with|h t ih=>?_
 intro h x hx;rw[Hw]at hx;rcases dG.mp hx with rfl|hx
 ·exact h
 ·refine aw (List.mem_flatMap.mp hx) fun y a hx=>?_;exact ih y a (Cy h y a) x hx
theorem Hx(t:T):t.ok W B->eF (bT B t)=true:=by
 induction t with
 |c2 w=>exact fun h=>rfl
 |b4=>exact fun h=>rfl
 |is n f=>intro h;show (true&&(eF n&&(eF (aR (aA B f))&&true)))=true;rw[h.1,hB];rfl
 |bin o a b e g=>intro h;show (true&&(eF (bT B a)&&(eF (bT B b)&&true)))=true;rw[e h.1,g h.2];rfl
 |pow a n e=>intro h;show (true&&(eF (bT B a)&&(true&&true)))=true;rw[e h.1];rfl
 |less a b c d e g ae i=>intro h;show (true&&(eF (bT B a)&&(eF (bT B b)&&(eF (bT B c)&&(eF (bT B d)&&true)))))=true;rw[e h.1,g h.2.1,ae h.2.2.1,i h.2.2.2];rfl
theorem Cz{ρ:a'}{i:Nat}{v:an2}{K:a'->Prop}(a:e8 v=false)(b:p8 i ρ.len=true)(q:K (.upd ρ i v)):@hq _ (fun V=>Prop) False K (jl ρ i v):=by
 unfold jl;rw[b,a];exact q
theorem sB(t:T):e8 (bT B t)=false:=by cases t<;>rfl
theorem rf(t:T):ot [bT B t]=true:=mz (sB t) rfl
theorem Q2{l:List T}(h:∀x∈l,x.ok W B):kh (l.map (bT B))=true:=by
 rw[rQ];intro v a;obtain⟨x,b,rfl⟩:=dQ.mp a;exact Hx x (h x b)
noncomputable def T.np(x:T):Int:=match x with
 |.bin V f9 QX=>2|.pow V f9=>1|.less V f9 QX V3=>4|.c2 V=>0|.b4=>0|.is V f9=>0
theorem ahf:G.const "PARTS"=some (.ba BM):=by rfl
theorem Hy(σ:ah)(t:T):eQ σ (bT B t) (.int 0)=some (.v (.str t.word)):=by cases t<;>rfl
theorem ahg(σ:ah)(t:T):eQ σ (.ba BM) (.str t.word)=some (.v (.int t.np)):=by rcases t with V|V|V |⟨⟨⟩,V,V⟩|V|V<;>rfl
theorem ahh(σ:ah)(t:T):xo σ (bT B t) (.int 1) (.int (1+t.np))=some (.v (.tup (t.kids.map (bT B)))):=by cases t<;>rfl
variable {σ:ah}{l:List an2}
theorem ahi(h:l.length<=1000000):i8 σ .list [.tup l]=some (.f (.list l)):=bl (b9 h)
theorem uw(e:t.ok W B)(d:Nat)(σ:ah):bF G (d+1) "parts_of" [bT B t] σ=.ok (.lst (t.kids.map (bT B))) σ:=by
 have b:(t.kids.map (bT B)).length<=1000000:=by rw[a0];have:=Q0 t;exact fr this (by simp +arith)
 refine dw aeh rfl rfl (rf t) fun c a=>?_;refine ad8 a ahf ?_;refine cj (Hy σ t) ?_;refine cj (ahg σ t) ?_;refine ad7 (ahh σ t) ?_;refine cm (ahi b) ?_;exact dP (Q2 (Cy e))
theorem ahj{r:List an2}(a:l.length+r.length<=1000000):ma (σ++[bb.list false l]) (.extend ()) (.ref σ.length) [.lst r]=some (.none,σ++[bb.list false (l++r)]):=by
 show (jA (σ++[bb.list false l]) σ.length).bind _=_;rw[show jA (σ++[bb.list false l]) σ.length=some l by unfold jA;rw[gQ]];exact(bl (b9 a)).trans (by rw[qI])
theorem Q3(t:T):∀(d:Nat) (σ:ah),t.ok W B->t.ht<=d->t.all.length<=1000->bF G (d+1) "all_within" [bT B t] σ=.ok (.lst (t.all.map (bT B))) σ:=by
 induction t using T.Hv with|h t ih=>?_
 intro d σ g k l;obtain⟨e,rfl⟩:∃e,d=e+1:=⟨d-1,by have:=QZ t;exact Kn k this⟩;refine dw aei rfl rfl (rf t) fun c a=>?_;refine aW a (uw g e _) ?_;refine dg.nj (bT B) t.kids (fun done=>σ++[.list false ((t::done.flatMap T.all).map (bT B))]) rfl rfl ?_ ?_
 ·intro done x b i;have f:x∈t.kids:=i▸ho _ cW;have j:=ih x f e (σ++[.list false ((t::done.flatMap T.all).map (bT B))]) (Cy g x f) (by have:=QY f;exact Km k this) (by have:=ahe f;exact fr (aG l this) (by simp +arith));have O:((t::done.flatMap T.all).map (bT B)).length+(x.all.map (bT B)).length<=1000000:=by
   have:(t.all).length=(t::(done++x::b).flatMap T.all).length:=by rw[i,<- Hw]
   rw[al3,al4,aoc,bW,bW]at this;rw[a0,a0,aoc];exact fr (aG l (bx this.symm)) (by simp +arith)
  refine Cz (sB x) rfl ?_;refine kq yQ ?_;refine aW a j ?_;refine aor (r:=(.none,σ++[.list false ((t::(done++[x]).flatMap T.all).map (bT B))])) ((ahj O).trans (by rw[<- hS,Tp,al3,al4,List.flatMap_nil,il])) ?_;refine mA (S:=fun done=>σ++[.list false ((t::done.flatMap T.all).map (bT B))]) i ?_;rfl
 ·rw[<- Hw];exact ao1 (Q2 (Q1 t g))
end
noncomputable def un(l k:Str):Int:=if k=l then 1 else 0
noncomputable def le(w:Str):Str:=("=":Str)++w
noncomputable def f3(k:Nat):Str:=("0":Str)++ly (toString (k:Int))
noncomputable def T.wd?(x:T):Option Str:=match x with
 |.c2 w=>some w
 |V=>none
def iE(l:List T):List (Str×an2):=(l.filterMap T.wd?).foldl (fun D w=>b6 D w (.bool true)) []
def T.dL(t:T):List Str:=hy ((iE t.all).map bz)
theorem Q4(l:List T)(x:T):iE (l++[x])=match x.wd? with|some w=>b6 (iE l) w (.bool true)|none=>iE l:=by
 unfold iE;rw[List.filterMap_append,Di];cases h:x.wd? with
 |none=>rw[j',h];rfl
 |some w=>rw[j',h];rfl
theorem Q5(l:List T):((iE l).map bz).Nodup/\∀k,k∈(iE l).map bz↔.c2 k∈l:=by
 unfold iE;have c:∀(aP:List Str) (D:List (Str×an2)),(D.map bz).Nodup->((aP.foldl (fun D w=>b6 D w (.bool true)) D).map bz).Nodup/\∀k,k∈(aP.foldl (fun D w=>b6 D w (.bool true)) D).map bz↔k∈aP\/k∈D.map bz:=by
  intro aP
  induction aP with
  |nil=>exact fun D h=>⟨h,fun k=>⟨.inr,fun q=>q.resolve_left (fun w=>eO w)⟩⟩
  |cons w aP ih=>
   intro D h;refine bt (ih (b6 D w (.bool true)) (D2 h)) fun b O=>?_;refine⟨b,fun k=>(O k).trans ?_⟩;rw[D0,dG];constructor
   ·rintro (a|a|a)
    ·exact .inl (.inr a)
    ·exact .inl (.inl a)
    ·exact .inr a
   ·rintro ((a|a)|a)
    ·exact .inr (.inl a)
    ·exact .inl a
    ·exact .inr (.inr a)
 refine bt (c (l.filterMap T.wd?) [] sY) fun b O=>?_;refine⟨b,fun k=>(O k).trans ?_⟩;rw[aoX];constructor
 ·rintro (⟨x,d,e⟩|q)
  ·cases x<;>cases e;exact d
  ·exact eO q
 ·exact fun q=>.inl ⟨_,q,rfl⟩
theorem CA(t:T):t.dL.Nodup:=(kO _).nodup_iff.mpr (Q5 t.all).1
theorem Q6{k:Str}:k∈t.dL↔.c2 k∈t.all:=(kO _).mem_iff.trans ((Q5 t.all).2 k)
section
variable {W:Str->Prop}{B:List Str}
variable {t:T}
theorem ahk(h:(t.word==("input":Str))=true):∃w,t=.c2 w:=by
 rcases t with V | V | V |⟨⟨⟩,V,V⟩ | V | V<;>first | exact⟨_,rfl⟩ | cases h
theorem ahl(h:(t.word==("input":Str))=false):t.wd?=none:=by
 rcases t with V | V | V |⟨⟨⟩,V,V⟩ | V | V<;>first | rfl | cases h
theorem ahm(i:t.ok W B)(h:t.all.length<=1000)(hn:((iE t.all).map bz).length<hz){d:Nat}(j:t.ht<=d)(σ:ah):bF G (d+2) "inputs" [bT B t] σ=.ok (.lst (t.dL.map .str)) σ:=by
 refine dw aej rfl rfl (rf t) fun c a=>?_;refine aW a (Q3 t d _ i j h) ?_;have k:∀done rest:List T,done++rest=t.all->(iE done).length<=1000000:=fun done rest b=>by
  have f:(iE done).length<=done.length:=by
   clear b;unfold iE;have g:∀(aP:List Str) (D:List (Str×an2)),(aP.foldl (fun D w=>b6 D w (.bool true)) D).length<=D.length+aP.length:=by
    intro aP
    induction aP with
    |nil=>exact fun D=>cu _
    |cons w aP ih=>intro D;refine ax (ih (b6 D w (.bool true))) ?_;have:=Cm D w (an2.bool true);rw[aoc];exact fr this (by simp +arith)
   refine ax (g _ []) ?_;rw[z8,mT];exact alJ ..
  have O:=dt w9 b;rw[bW]at O;exact fr (aG (aG h f) (bx O)) (by simp +arith)
 refine dg.nj (bT B) t.all (fun done=>σ++[.dict false (iE done)]) rfl rfl ?_ ?_
 ·intro done x rest b;refine Cz (sB x) rfl ?_;refine cj (Hy _ x) ?_;refine bI.mk (fun e=>?_) fun e=>?_
  ·refine bK (ahk e) fun w l=>?_;subst l;refine gR (nq (k done _ b) w (.bool true)) ?_;rw[show b6 (iE done) w (.bool true)=iE (done++[.c2 w]) by rw[Q4];rfl];refine mA (S:=fun done=>σ++[.dict false (iE done)]) b ?_;rfl
  ·have m:iE done=iE (done++[x]):=by rw[Q4,ahl e]
   show jm _ _ (σ++[.dict false (iE done)]);rw[m];refine mA (S:=fun done=>σ++[.dict false (iE done)]) b ?_;rfl
 ·refine cm (Gb gQ hn) ?_;exact qH (Pz _)
theorem ahn(t:T):(t.all.filter fun x=>x.word==("nought":Str)).length=t.nn:=by
 induction t with
 |bin o a b e g=>cases o<;>(show ((a.all++b.all).filter _).length=a.nn+b.nn;rw[Jg,bW,e,g])
 |pow a n e=>exact e
 |less a b c d e g ae h=>
  show ((a.all++(b.all++(c.all++d.all))).filter _).length=a.nn+b.nn+(c.nn+d.nn);rw[Jg,Jg,Jg,bW,bW,bW,e,g,ae,h,eK]
 |c2 w=>rfl
 |b4=>rfl
 |is n f=>rfl
theorem Q7(f:t.ok W B)(b:t.all.length<=1000){d:Nat}(g:t.ht<=d)(σ:ah):bF G (d+2) "noughts" [bT B t] σ=.ok (.int t.nn) σ:=by
 have e:((t.all.filter fun x=>x.word==("nought":Str)).map (bT B)).length<=1000000:=by rw[a0];exact ax (z7 ..) (uV b)
 refine dw aek rfl rfl (rf t) fun c a=>?_;refine aW a (Q3 t d _ f g b) ?_;refine eB.pure (bT B) (fun x=>x.word==("nought":Str)) (bT B) t.all rfl rfl rfl (fun x h=>?_) ?_ ?_
 ·refine Cz (sB x) rfl ?_;exact⟨cj (Hy _ x) ⟨rfl,rfl⟩,fun V=>⟨rfl,rfl⟩⟩
 ·exact b9 e
 ·refine cm (u7 _ _ e) ?_;exact(dP rfl).trans (by rw[a0,ahn])
end
noncomputable def T.f(x:T)(k:Nat):Str->Int:=match x with
 |.is V f=>f
 |.c2 w=>un (le w)
 |.b4=>un (f3 k)
 |.bin (.times V) a b=>fun s=>a.f k s+b.f (k+a.nn) s
 |.bin .over a b=>fun s=>a.f k s-b.f (k+a.nn) s
 |.bin .plus a V=>a.f k
 |.bin .minus a V=>a.f k
 |.pow a n=>fun s=>a.f k s*n
 |.less a b c V=>c.f (k+a.nn+b.nn)
noncomputable def cT(f g:Str->Int)(s:Str):Int:=f s-g s
noncomputable def T.r(x:T)(k:Nat):List (Str->Int):=match x with
 |.bin (.times V) a b=>a.r k++b.r (k+a.nn)
 |.bin .over a b=>a.r k++b.r (k+a.nn)
 |.bin .plus a b=>a.r k++b.r (k+a.nn)++[cT (a.f k) (b.f (k+a.nn))]
 |.bin .minus a b=>a.r k++b.r (k+a.nn)++[cT (a.f k) (b.f (k+a.nn))]
 |.pow a V=>a.r k
 |.less a b c d=>a.r k++b.r (k+a.nn)++c.r (k+a.nn+b.nn)++d.r (k+a.nn+b.nn+c.nn)++[cT (a.f k) (b.f (k+a.nn))]++[cT (c.f (k+a.nn+b.nn)) (d.f (k+a.nn+b.nn+c.nn))]
 |.c2 V=>[]
 |.b4=>[]
 |.is V f9=>[]
theorem sC{u:Unit}{a b:T}:T.r (.bin (.times u) a b) k=a.r k++b.r (k+a.nn):=rfl
theorem sD{a b:T}:T.r (.bin .over a b) k=a.r k++b.r (k+a.nn):=rfl
theorem sE{a b:T}:T.r (.bin .plus a b) k=a.r k++b.r (k+a.nn)++[cT (a.f k) (b.f (k+a.nn))]:=rfl
theorem sF{a b:T}:T.r (.bin .minus a b) k=a.r k++b.r (k+a.nn)++[cT (a.f k) (b.f (k+a.nn))]:=rfl
theorem sG{a:T}{n:Int}:T.r (.pow a n) k=a.r k:=rfl
theorem sH{a b c:T}:T.r (.less a b c d) k=a.r k++b.r (k+a.nn)++c.r (k+a.nn+b.nn)++d.r (k+a.nn+b.nn+c.nn)++[cT (a.f k) (b.f (k+a.nn))]++[cT (c.f (k+a.nn+b.nn)) (d.f (k+a.nn+b.nn+c.nn))]:=rfl
theorem sI:T.r (.c2 w) k=[]:=rfl
theorem sJ:T.r .b4 k=[]:=rfl
theorem sK{n:an2}{f:Str->Int}:T.r (.is n f) k=[]:=rfl
theorem Hz(bc:K.Nodup)(d:K'.Nodup){f:Str->Int}(e:∀k∈K,k∉K'->f k=0)(O:∀k∈K',k∉K->f k=0):aA K f=aA K' f:=by
 refine Gl (wa bc f) (wa d f) fun kv=>?_;rw[iT,iT];exact⟨fun ⟨a,b,c⟩=>⟨j6 fun q=>c (b.trans (e _ a q)),b,c⟩,fun ⟨a,b,c⟩=>⟨j6 fun q=>c (b.trans (O _ a q)),b,c⟩⟩
noncomputable def zr{α:Type}(o:List α->α->an2)(y:List α)(z:List α):List an2:=match y,z with
 |V,[]=>[]
 |done,x::r=>o done x::zr o (done++[x]) r
theorem ahp(o:List α->α->an2)(done xs:List α):(zr o done xs).length=xs.length:=by
 induction xs generalizing done with
 |nil=>rfl
 |cons x r ih=>exact dt Iu (ih (done++[x]))
theorem ahq{m:Nat}{t:dq}(d:cY ρ)(bJ:α->an2)(S:List α->ah)(o:List α->α->an2)(all:List α)
  (e:∀done x a,done++x::a=all->an3 (iR t (bJ x) ρ) fun aN=>cU c elt m aN (S done) fun v aj=>aj=S (done++[x])/\v=o done x) :
  ∀(xs done:List α),done++xs=all->gc (bk c (.const (.bool true)) 0) (bk c elt m) t (bV ρ) (xs.map bJ) (S done)=.ok (zr o done xs) (S all):=by
 intro xs
 induction xs with
 |nil=>intro done h;rw[il]at h;subst h;rfl
 |cons x xs ih=>
  intro done h;refine aw (iw (e done x xs h)) fun aN b f=>?_;refine bt (yM d b) fun g i=>?_;have ih:=ih (done++[x]) (by rw[ek];exact h);refine db (yD (iy elt m aN _ _ g f)) fun v aj j k l=>?_;subst k l;rw[gu,AE,i];show (bk c elt m (bV aN) _).bind _=_;rw[j];show (gc _ _ _ _ _ _).bind _=_;rw[ih];rfl
theorem eB.go{m:Nat}{t:dq}{K:an2->ah->Prop}(bJ:α->an2)(S:List α->ah)(o:List α->α->an2)(xs:List α)(b:l=xs.map bJ)(d:bG σ v true=S [])(e:bG (S xs) v (c' σ v)=S xs)(f:xs.length<=1000)
  (g:∀done x a,done++x::a=xs->an3 (iR t (bJ x) (gm (ip t) ρ)) fun aN=>cU c elt m.pred aN (S done) fun v aj=>aj=S (done++[x])/\v=o done x)
  (k:cf (iG m (.list (zr o [] xs)) (S xs)) K):eB c (.const (.bool true)) elt m t l v ρ σ K:=by
 intro h;rw[b,d,<- qG,ahq h.kill bJ S o xs g xs [] rfl];show cf (.ok _ (bG (S xs) v (c' σ v))) _;rw[e];exact bI.t (b9 (by rw[ahp];exact uV f)) k
noncomputable def ux(σ:ah)(nm ow:an2)(k:Nat):List (Str×an2):=[("names",nm),("own",ow),("met",.int k),("noted",.ref (σ.length+2))]
def fH(σ:ah)(nm ow:an2)(k:Nat)(cJ:List an2):ah:=σ++[.ns (ux σ nm ow k),.inst "Looker" σ.length,.list false cJ]
theorem Q8(σ:ah)(a b c:bb):(σ++[a,b,c])[σ.length]?=some a/\(σ++[a,b,c])[σ.length+1]?=some b/\(σ++[a,b,c])[σ.length+2]?=some c:=by simp
theorem HA(σ:ah)(nm ow:an2)(k:Nat)(cJ:List an2):th (fH σ nm ow k cJ) (.ref (σ.length+1))=some (("Looker":Str),σ.length,ux σ nm ow k):=by
 refine mV (Q8 σ (.ns (ux σ nm ow k)) (.inst "Looker" σ.length) (.list false cJ)) fun a O V=>?_;show l9 (fH σ nm ow k cJ) (σ.length+1)=_;unfold l9 fH aoN;rw[O];simp only;rw[a];rfl
section
variable {d:Nat}{c:bP}(at_:jT G d c){σ:ah}{nm ow:an2}{k:Nat}{cJ:List an2}{K:an2->Prop}
include at_
theorem CB{x:Str}{v:an2}(b:G.dc x=true)(h:cp (ux σ nm ow k) x=some v)(q:K v):@hq _ (fun V=>Prop) False K (md c (fH σ nm ow k cJ) (.ref (σ.length+1)) x):=by
 refine an3.mk (a:=v) ?_ q;unfold md;rw[HA];show (if c.dc x=true then cp (ux σ nm ow k) x else none)=_;rw[at_.dc,b];exact h
theorem ahr(q:K nm):@hq _ (fun V=>Prop) False K (md c (fH σ nm ow k cJ) (.ref (σ.length+1)) "names"):=CB at_ (by decide +kernel) (by rfl) q
theorem ahs(q:K ow):@hq _ (fun V=>Prop) False K (md c (fH σ nm ow k cJ) (.ref (σ.length+1)) "own"):=CB at_ (by decide +kernel) (by rfl) q
theorem Q9(q:K (.int k)):@hq _ (fun V=>Prop) False K (md c (fH σ nm ow k cJ) (.ref (σ.length+1)) "met"):=CB at_ (by decide +kernel) (by rfl) q
theorem zs(q:K (.ref (σ.length+2))):@hq _ (fun V=>Prop) False K (md c (fH σ nm ow k cJ) (.ref (σ.length+1)) "noted"):=CB at_ (by decide +kernel) (by rfl) q
theorem aht{i:Int}(e:i=((k+1:Nat):Int)){K:ah->Prop}(q:K (fH σ nm ow (k+1) cJ)):@hq _ (fun V=>Prop) False K (me c (fH σ nm ow k cJ) (.ref (σ.length+1)) "met" (.int i)):=by
 refine an3.mk (a:=fH σ nm ow (k+1) cJ) ?_ q;unfold me;rw[HA];show (if (c.dc "met"&&d' 4)=true then some ((fH σ nm ow k cJ).set σ.length (.ns (b6 (ux σ nm ow k) "met" (.int i)))) else none)=_;rw[at_.dc,bl (by decide +kernel),e];unfold fH;rw[Dl _ _ (cu _),p7];rfl
end
theorem HB(σ:ah)(nm ow:an2)(k:Nat)(cJ:List an2):qi (fH σ nm ow k cJ) (.ref (σ.length+1)) "measure"=some "Looker.measure":=by
 unfold qi;rw[HA];rfl
theorem HC{x f:Str}{K:Str->Prop}(h:qi σ v x=some f)(q:K f):@hq _ (fun V=>Prop) False K (qi σ v x):=an3.mk h q
theorem wG(σ:ah)(nm ow:an2)(k:Nat)(cJ:List an2):(fH σ nm ow k cJ)[σ.length+2]?=some (.list false cJ):=(Q8 σ (.ns (ux σ nm ow k)) (.inst "Looker" σ.length) (.list false cJ)).2.2
theorem CC(σ:ah)(nm ow:an2)(k:Nat){cJ:List an2}(a:cJ.length<=1000000)(v:an2):ma (fH σ nm ow k cJ) .append (.ref (σ.length+2)) [v]=some (.none,fH σ nm ow k (cJ++[v])):=by
 rw[Cq (wG σ nm ow k cJ) a v];unfold fH;rw[Dl _ _ (bO _ _),l0];rfl
structure Q' (K:List Str)(W:Str->Prop)(N:Nat)(σ:ah)(nm:an2)(L:List an2):Prop where
 n:∀w,W w->∀τ,eQ (σ++τ) nm (.str w)=some (.v (aR (aA K (un (le w)))))
 g:∀k,k<N->L[k]?=some (aR (aA K (un (f3 k))))
 N:N<=1000
def gT(K:List Str)(f:Str->Int):an2:=aR (aA K f)
def gJ(K:List Str)(p:Nat×List an2)(x:T):Nat×List an2:=(p.1+x.nn,p.2++(x.r p.1).map (gT K))
theorem Ra:∀(t:T) (k:Nat),(t.r k).length<=2*t.all.length:=by
 intro t
 induction t with
 |bin o a b e f=>intro k;have:=e k;have:=f (k+a.nn);cases o<;>simp only[sC,sD,sE,sF,sG,sH,sI,sJ,sK,pP,pQ,pR,pS,pT,pU,bW,aoc,z8]<;>(first | exact Uy (by assumption) this | exact Uz (by assumption) this)
 |pow a n e=>intro k;have:=e k;simp only[sC,sD,sE,sF,sG,sH,sI,sJ,sK,pP,pQ,pR,pS,pT,pU,aoc];exact fr this (by simp +arith)
 |less a b c d e f ae g=>intro k;have:=e k;have:=f (k+a.nn);have:=ae (k+a.nn+b.nn);have:=g (k+a.nn+b.nn+c.nn);simp only[sC,sD,sE,sF,sG,sH,sI,sJ,sK,pP,pQ,pR,pS,pT,pU,bW,aoc,z8];exact Ux (by assumption) (by assumption) (by assumption) this
 |_=>intro k;exact d4 _
noncomputable def gU(y:List T):Nat:=match y with
 | []=>0
 |x::r=>x.nn+gU r
noncomputable def j4(y:List T):Nat:=match y with
 | []=>0
 |x::r=>x.all.length+j4 r
theorem ahu:gU []=0:=rfl
theorem ahv{x:T}{r:List T}:gU (x::r)=x.nn+gU r:=rfl
theorem ahw:j4 []=0:=rfl
theorem ahx{x:T}{r:List T}:j4 (x::r)=x.all.length+j4 r:=rfl
theorem ahy(l r:List T):gU (l++r)=gU l+gU r:=by
 induction l with
 |nil=>exact(mT _).symm
 |cons x l ih=>show x.nn+gU (l++r)=x.nn+gU l+gU r;rw[ih,eK]
theorem ahz(l r:List T):j4 (l++r)=j4 l+j4 r:=by
 induction l with
 |nil=>exact(mT _).symm
 |cons x l ih=>show x.all.length+j4 (l++r)=x.all.length+j4 l+j4 r;rw[ih,eK]
theorem ahA(h:t≠.b4):gU t.kids=t.nn:=by
 cases t with
 |b4=>exact dk rfl h
 |c2 V=>rfl
 |is V V=>rfl
 |bin o a b=>rfl
 |pow a n=>rfl
 |less a b c d=>simp only[ji,hI,lj,ll,lm,ln,aoP,zm,zn,zo,zp,zq,ahu,ahv];exact gW (eK _ _ (_+_))
theorem Rb(t:T):j4 t.kids+1=t.all.length:=by
 cases t<;>simp only[ji,hI,lj,ll,lm,ln,pP,pQ,pR,pS,pT,pU,ahw,ahx,aoc,bW,z8]<;>(first | exact(al5.mpr rfl) | exact al5.mpr rfl)
theorem ahB(K:List Str):∀(l:List T) (p:Nat×List an2),(l.foldl (gJ K) p).1=p.1+gU l:=by
 intro l
 induction l with
 |nil=>exact fun p=>rfl
 |cons x l ih=>intro p;rw[sU,ih];show p.1+x.nn+gU l=p.1+(x.nn+gU l);rw[eK]
theorem Rc(K:List Str):∀(l:List T) (p:Nat×List an2),(l.foldl (gJ K) p).2.length<=p.2.length+2*j4 l:=by
 intro l
 induction l with
 |nil=>exact fun p=>cu _
 |cons x l ih=>
  intro p;have a:=ih (gJ K p x);have O:=Ra x p.1;rw[sU];have b:(gJ K p x).2.length=p.2.length+(x.r p.1).length:=by
   show (p.2++(x.r p.1).map (gT K)).length=_;rw[bW,a0]
  show _<=p.2.length+2*(x.all.length+j4 l);exact fr (aG (aG a O) (bx b)) (by simp +arith)
section
variable {W:Str->Prop}{B K:List Str}{N:Nat}{σ:ah}{nm:an2}{L:List an2}
def Rd(K B:List Str)(N:Nat)(σ:ah)(nm:an2)(L:List an2)(t:T):Prop:=
 ∀(d k:Nat) (cJ:List an2),k+t.nn<=N->t.ht<=d->cJ.length+2*t.all.length<=1000000->bF G (d+2) "Looker.measure" [.ref (σ.length+1),bT B t] (fH σ nm (.lst L) k cJ)=.ok (gT K (t.f k)) (fH σ nm (.lst L) (k+t.nn) (cJ++(t.r k).map (gT K)))
theorem sL{v:an2}{k b:Nat}{cJ c:List an2}{ow:an2}(a:k=b)(O:cJ=c):be.ok v (fH σ nm ow k cJ)=be.ok v (fH σ nm ow b c):=by rw[a,O]
theorem ahC{t:T}(ih:∀x∈t.kids,Rd K B N σ nm L x){d k:Nat}{cJ:List an2}(hn:t≠.b4)(g:k+t.nn<=N)(h:t.ht<=d+1)(i:cJ.length+2*t.all.length<=1000000){done:List T}{x:T}{a:List T}(c:done++x::a=t.kids) :
  bF G (d+2) "Looker.measure" [.ref (σ.length+1),bT B x] (fH σ nm (.lst L) (done.foldl (gJ K) (k,cJ)).1 (done.foldl (gJ K) (k,cJ)).2)=.ok (gT K (x.f (done.foldl (gJ K) (k,cJ)).1)) (fH σ nm (.lst L) ((done++[x]).foldl (gJ K) (k,cJ)).1 ((done++[x]).foldl (gJ K) (k,cJ)).2):=by
 have e:x∈t.kids:=c▸ho _ cW;have b:=ahA hn;have O:=Rb t;have j:=QY e;rw[<- c,ahy]at b;rw[<- c,ahz]at O;have b:gU done+(x.nn+gU a)=t.nn:=b;have O:j4 done+(x.all.length+j4 a)+1=t.all.length:=O;have l:(done.foldl (gJ K) (k,cJ)).1=k+gU done:=ahB K done (k,cJ);have m:(done.foldl (gJ K) (k,cJ)).2.length<=cJ.length+2*j4 done:=Rc K done (k,cJ);rw[Di];exact ih x e d _ _ (fr (aG (aG g (bx b)) (bx l)) (by simp +arith)) (Km h j) (fr (aG (aG i (cE 2 (bx O))) m) (by simp +arith))
theorem ahD(bc:dT K)(b2:B.Nodup)(rg:∀k∈B,k∈K)(H:Q' K W N σ nm L)(t:T):t.ok W B->Rd K B N σ nm L t:=by
 induction t using T.Hv with|h t ih=>?_
 intro i d k cJ m r s;obtain⟨e,rfl⟩:∃e,d=e+1:=⟨d-1,by have:=QZ t;exact Kn r this⟩;have ih:=fun x o=>ih x o (Cy i x o);have go:∀{c:bP} (at_:jT G (e+2) c) (hn:t≠.b4) {ρ:a'} {Q:an2->ah->Prop} (u:ρ=.upd (.eV 5 [some (.ref (σ.length+1)),some (bT B t)]) 2 (.str t.word)),
   Q (.lst (zr (fun done (x:T)=>gT K (x.f (done.foldl (gJ K) (k,cJ)).1)) [] t.kids)) (fH σ nm (.lst L) (t.kids.foldl (gJ K) (k,cJ)).1 (t.kids.foldl (gJ K) (k,cJ)).2) ->
   eB c (.const (.bool true)) (.kL (.loc 0) "measure" (.cons (.loc 4) .nil)) 0 (.one 4) (t.kids.map (bT B)) (.lst (t.kids.map (bT B))) ρ (fH σ nm (.lst L) k cJ) Q:=by
  intro c at_ hn ρ Q u A;subst u;refine eB.go (bT B) (fun done:List T=>fH σ nm (.lst L) (done.foldl (gJ K) (k,cJ)).1 (done.foldl (gJ K) (k,cJ)).2) (fun done x=>gT K (x.f (done.foldl (gJ K) (k,cJ)).1)) t.kids rfl rfl rfl (ax (Q0 t) (by decide)) (fun done x z C=>?_) A;have j:=ahC ih hn m r s C;refine Cz (sB x) rfl ?_;refine HC (HB σ _ _ _ _) ?_;exact aW at_ j ⟨rfl,rfl⟩
 have p:(t.kids.foldl (gJ K) (k,cJ)).2.length+1<=1000000:=by
  have j:(t.kids.foldl (gJ K) (k,cJ)).2.length<=cJ.length+2*j4 t.kids:=Rc K t.kids (k,cJ);have O:=Rb t;exact fr (aG (aG s j) (cE 2 (bx O))) (by simp +arith)
 have l:ot [.ref (σ.length+1),bT B t]=true:=mz rfl (rf t);cases t with
 |is n f=>
  refine dw v6 rfl rfl l fun c at_=>?_;rw[show gT K ((T.is n f).f k)=aR (aA B f) from dt aR (Hz bc.c7 b2 (fun k V q=>i.2 k q) fun k h q=>dk (rg k h) q)];exact aoj.trans (sL rfl (il _).symm)
 |c2 w=>
  refine dw v6 rfl rfl l fun c at_=>?_;refine ahr at_ ?_;refine cj (H.n w i _) ?_;exact aoj.trans (sL rfl (il _).symm)
 |b4=>
  have m:k+1<=N:=m;have D:=H.N;refine dw v6 rfl rfl l fun c at_=>?_;refine Q9 at_ ?_;refine aht at_ rfl ?_;refine ahs at_ ?_;refine Q9 at_ ?_;have o:((k+1:Nat):Int)-1=(k:Int):=(aj2.mpr rfl);refine cj (show eQ _ _ (.int (((k+1:Nat):Int)-1))=some (.v (gT K (un (f3 k)))) by rw[o];exact qk _ L k _ (fr (aG m D) (by simp +arith)) (H.g k m)) ?_;exact aoj.trans (sL rfl (il _).symm)
 |bin op a b=>
  refine dw v6 rfl rfl l fun c at_=>?_;cases op with
  |times V=>
   refine aW at_ (uw i (e+1) _) ?_;refine go at_ (fun q=>dk (show (2:Int)=0 from dt T.np q) (by decide)) rfl ?_;refine aW at_ (PG bc (a.f k) (b.f (k+a.nn)) e _) ?_;exact aoj.trans (sL (eK ..) (by simp[sC,sD,sE,sF,sG,sH,sI,sJ,sK,ji,hI,lj,ll,lm,ln,gJ]))
  |over=>
   refine aW at_ (uw i (e+1) _) ?_;refine go at_ (fun q=>dk (show (2:Int)=0 from dt T.np q) (by decide)) rfl ?_;refine aW at_ (uc bc (a.f k) (b.f (k+a.nn)) e _) ?_;exact aoj.trans (sL (eK ..) (by simp[sC,sD,sE,sF,sG,sH,sI,sJ,sK,ji,hI,lj,ll,lm,ln,gJ]))
  |plus=>
   refine aW at_ (uw i (e+1) _) ?_;refine go at_ (fun q=>dk (show (2:Int)=0 from dt T.np q) (by decide)) rfl ?_;refine zs at_ ?_;refine kq (uo (wG ..)) ?_;refine aW at_ (uc bc (a.f k) (b.f (k+a.nn)) e _) ?_;refine aor (CC σ _ _ _ (rq p) _) ?_;exact aoj.trans (sL (eK ..) (by simp[sC,sD,sE,sF,sG,sH,sI,sJ,sK,ji,hI,lj,ll,lm,ln,gJ];rfl))
  |minus=>
   refine aW at_ (uw i (e+1) _) ?_;refine go at_ (fun q=>dk (show (2:Int)=0 from dt T.np q) (by decide)) rfl ?_;refine zs at_ ?_;refine kq (uo (wG ..)) ?_;refine aW at_ (uc bc (a.f k) (b.f (k+a.nn)) e _) ?_;refine aor (CC σ _ _ _ (rq p) _) ?_;exact aoj.trans (sL (eK ..) (by simp[sC,sD,sE,sF,sG,sH,sI,sJ,sK,ji,hI,lj,ll,lm,ln,gJ];rfl))
 |pow a n=>
  refine dw v6 rfl rfl l fun c at_=>?_;refine aW at_ (uw i (e+1) _) ?_;refine go at_ (fun q=>dk (show (1:Int)=0 from dt T.np q) (by decide)) rfl ?_;have hn:=i.2;refine aW at_ (Gn bc (a.f k) (n:=n) (fun k V=>DW (nS hn (by decide)).1 (nS hn (by decide)).2) e _) ?_;exact aoj.trans rfl
 |less a b x y=>
  refine dw v6 rfl rfl l fun c at_=>?_;refine aW at_ (uw i (e+1) _) ?_;refine go at_ (fun q=>dk (show (4:Int)=0 from dt T.np q) (by decide)) rfl ?_;refine zs at_ ?_;refine kq (uo (wG ..)) ?_;refine aW at_ (uc bc (a.f k) (b.f (k+a.nn)) e _) ?_;refine aor (CC σ _ _ _ (rq p) _) ?_;refine zs at_ ?_;refine kq (uo (wG ..)) ?_;refine aW at_ (uc bc (x.f (k+a.nn+b.nn)) (y.f (k+a.nn+b.nn+x.nn)) e _) ?_;refine aor (CC σ _ _ _ (by rw[bW];exact p) _) ?_;exact aoj.trans (sL (by simp[ji,hI,lj,ll,lm,ln,gJ,aoP,zm,zn,zo,zp,zq,eK]) (by simp[sC,sD,sE,sF,sG,sH,sI,sJ,sK,ji,hI,lj,ll,lm,ln,gJ];exact⟨rfl,rfl⟩))
end
theorem HD{ρ:List an2}(h:di σ.length (σ++τ) 3 v=some v'):left false σ (.ok (.ret v,ρ) (σ++τ))=.ok v' σ:=by
 rw[xy,I8,bl rfl,h]
theorem HE{s:ah}{ρ:List an2}(a:∃τ,s=σ++τ)(h:di σ.length s 3 v=some v'):left false σ (.ok (.ret v,ρ) s)=.ok v' σ:=by
 obtain⟨τ,rfl⟩:=a;exact HD h
theorem ahE{n:Nat}(hi:n<=i)(h:τ[i]?=some (.list b l))(a:kh l=true):di n τ 3 (.ref i)=some (.lst l):=by
 refine(b5 (gq.mpr hi)).trans ?_;show aoI _ τ[i]?=_;rw[h];exact dt (mP an2.lst) (LF _ _ a)
theorem Rg{n:Nat}(hi:n<=i)(h:τ[i]?=some (.dict b D))(a:∀kv∈D,eF kv.2=true):di n τ 3 (.ref i)=some (.ba D):=by
 refine(b5 (gq.mpr hi)).trans ?_;show aoI _ τ[i]?=_;rw[h];exact dt (mP an2.ba) (Cw _ _ a)
theorem HF{n:Nat}(a:∀kv∈D,eF kv.2=true):di n τ 3 (.ba D)=some (.ba D):=dt (mP an2.ba) (Cw _ _ a)
theorem Rh{n:Nat}{a d b c e:an2}(g:di n τ 3 a=some d)(f:eF b=true)(ae:eF c=true)(h:di n τ 3 e=some e):di n τ 3 (.tup [a,b,c,e])=some (.tup [d,b,c,e]):=by
 have f:=xA (n:=n) (k:=3) (σ:=τ) f;have ae:=xA (n:=n) (k:=3) (σ:=τ) ae;show (kf _ [a,b,c,e]).map _=_;rw[td,td,td,td];rw[show iJ _ a=some d from g,show iJ _ b=some b from f,show iJ _ c=some c from ae,show iJ _ e=some e from h];rfl
def kA(l:List Str):List (Str×an2):=l.map fun w=>(w,.tup [.tup [.str (le w),.int 1]])
def CD(N:Nat):List an2:=(bf N).map fun k=>.tup [.tup [.str (f3 k),.int 1]]
def HG(σ:ah)(t:T)(k:Nat)(cJ:List an2):ah:=fH (σ++[.dict false (kA t.dL)]) (.ref σ.length) (.lst (CD t.nn)) k cJ
theorem zt:∀k:Fin 64,(ly (toString ((k.val:Nat):Int))).length<=5:=by decide +kernel
theorem zu(h:k<64):((k:Nat):Int).natAbs<10^40:=by
 have:k<10^40:=jt h (by decide);rw[xc];exact this
structure nF (B:List Str)(t:T)(d:Nat):Prop where
 ok:t.ok (·∈t.dL) B
 sz:t.all.length<=1000
 nn:t.nn<64
 nm:t.dL.length<hz
 wl:∀w∈t.dL,w.length<=100
 ht:t.ht<=d
section
variable {B K:List Str}{t:T}{d:Nat}
theorem nF.up(R:nF B t d):nF B t (d+1):=⟨R.ok,R.sz,R.nn,R.nm,R.wl,akc R.ht⟩
theorem ahF(σ:ah)(a b:bb)(τ:ah):(σ++(a::b::τ))[σ.length]?=some a/\(σ++(a::b::τ))[σ.length+1]?=some b:=by simp
noncomputable def kB(σ:ah)(l:List (Str×an2))(τ:ah):ah:=σ++(.ns l::.inst "Looker" σ.length::τ)
theorem CE{d:Nat}{c:bP}(at_:jT G d c){σ:ah}{l:List (Str×an2)}{τ:ah}{x:Str}{v:an2}(e:G.dc x=true)(f:d' l.length=true){K:ah->Prop}(q:K (kB σ (b6 l x v) τ)):@hq _ (fun V=>Prop) False K (me c (kB σ l τ) (.ref (σ.length+1)) x v):=by
 refine an3.mk (a:=kB σ (b6 l x v) τ) ?_ q;refine bt (ahF σ (.ns l) (.inst "Looker" σ.length) τ) fun b O=>?_;have hi:th (kB σ l τ) (.ref (σ.length+1))=some (("Looker":Str),σ.length,l):=by
  show l9 (kB σ l τ) (σ.length+1)=_;unfold l9 kB aoN;rw[O];simp only;rw[b];rfl
 unfold me;rw[hi];show (if (c.dc x&&d' l.length)=true then some ((kB σ l τ).set σ.length (.ns (b6 l x v))) else none)=_;rw[bl (by rw[at_.dc,e,f];rfl)];unfold kB;rw[Dl _ _ (cu _),p7];rfl
theorem ahG(σ:ah)(l:List (Str×an2)):(kB σ l []).length=σ.length+2:=by simp[kB]
theorem ahH(σ:ah){nm ow:an2}(a:e8 nm=false)(O:e8 ow=false)(d:Nat):bF G (d+1) (fy "Looker" "__init__") [.ref (σ.length+1),nm,ow] (σ++[.ns []]++[.inst "Looker" σ.length])=.ok .none (fH σ nm ow 0 []):=by
 rw[show fy "Looker" "__init__"=("Looker.__init__":Str) by decide +kernel,show σ++[bb.ns []]++[.inst "Looker" σ.length]=kB σ [] [] by rw[ek];rfl];refine dw aeP rfl rfl (mz rfl (mz a (mz O rfl))) fun c at_=>?_;refine CE at_ (by decide +kernel) (by rfl) ?_;refine CE at_ (by decide +kernel) (by rfl) ?_;refine CE at_ (by decide +kernel) (by rfl) ?_;have e:kB σ (b6 (b6 (b6 [] "names" nm) "own" ow) "met" (.int 0)) []++[bb.list false []]=kB σ (b6 (b6 (b6 [] "names" nm) "own" ow) "met" (.int 0)) [bb.list false []]:=by simp[kB]
 show @hq _ (fun V=>Prop) False _ (me c (kB σ (b6 (b6 (b6 [] "names" nm) "own" ow) "met" (.int 0)) []++[bb.list false []]) (.ref (σ.length+1)) "noted" (.ref (kB σ (b6 (b6 (b6 [] "names" nm) "own" ow) "met" (.int 0)) []).length));rw[e,ahG];refine CE at_ (by decide +kernel) (by rfl) ?_;exact aoj
theorem Ri(l:List Str):(kA l).map bz=l:=by unfold kA;rw[hk];exact List.map_id l
theorem nF.c2(R:nF B t d)(σ:ah):bF G (d+2) "inputs" [bT B t] σ=.ok (.lst (t.dL.map .str)) σ:=
 ahm R.ok R.sz (by rw[<- (kO _).length_eq];exact R.nm) R.ht σ
theorem Rj(R:nF B t d)(σ:ah):bF G (d+3) "own_looker" [bT B t] σ=.ok (.ref ((σ++[bb.dict false (kA t.dL)]).length+1)) (HG σ t 0 []):=by
 have b:=R.nn;refine dw ael rfl rfl (rf t) fun c at_=>?_;refine aW at_ (R.c2 _) ?_;refine dg.nj an2.str t.dL (fun done=>σ++[.dict false (kA done)]) rfl rfl ?_ ?_
 ·intro done w h f;have aF:w∈t.dL:=f▸ho _ cW;have i:w∉(kA done).map bz:=by
   rw[Ri];have:=CA t;rw[<- f,mQ]at this;exact fun q=>this.2.2 w q w cW rfl
  have j:(kA done).length<=1000000:=by
   have a:=R.nm;rw[<- f,bW]at a;unfold kA;rw[a0];exact ax (ax (bO _ _) (et a)) (by decide)
  refine eh (kj _ _ _ (ax (fv (R.wl w aF) _) (by decide))) ?_;refine gR (nq j w _) ?_;rw[u8 i,show kA done++[(w,.tup [.tup [.str (("=":Str)++w),.int 1]])]=kA (done++[w]) by unfold kA;rw[hS];rfl];refine mA (S:=fun done=>σ++[.dict false (kA done)]) f ?_;rfl
 ·refine aW at_ (Q7 R.ok R.sz R.ht _) ?_;refine cm (nr _ (by rw[xc];exact Ko b)) ?_;refine eB.pure aof (fun V=>true) (fun k=>.tup [.tup [.str (f3 k),.int 1]]) (bf t.nn) (wz _) rfl rfl (fun k g=>⟨⟨rfl,rfl⟩,fun V=>?_⟩) ?_ ?_
  ·have g:=eE.mp g;refine cm (uq _ (zu (Kp b g))) ?_;refine eh (kj _ _ _ (ax (fv (zt ⟨k,(Kp b g)⟩) _) (by decide))) ?_;exact⟨rfl,rfl⟩
  ·rw[fP];exact b9 (by rw[a0,an5];exact Ko b)
  ·rw[fP];have e:=ahH (σ++[.dict false (kA t.dL)]) (nm:=.ref σ.length) (ow:=.lst (CD t.nn)) rfl rfl (d+1);refine aW at_ e ?_;exact aoj
theorem CF(bc:dT K){q:Str}(a:q∈K):an2.tup [.tup [.str q,.int 1]]=aR (aA K (un q)):=by
 rw[show aA K (un q)=[(q,1)] from QS bc a];rfl
theorem ahI(bc:dT K)(hn:∀w∈t.dL,le w∈K)(bB:∀k<t.nn,f3 k∈K)(c:t.nn<64)(σ:ah):Q' K (·∈t.dL) t.nn (σ++[.dict false (kA t.dL)]) (.ref σ.length) (CD t.nn):=by
 refine⟨fun w aF τ=>?_,fun k a=>?_,(fr c (by simp +arith))⟩
 ·refine BO (b:=false) (D:=kA t.dL) (by rw[ek];exact j1 0 rfl) ?_;rw[<- CF bc (hn w aF)];exact D4 (by rw[Ri];exact CA t) (dQ.mpr ⟨w,aF,rfl⟩)
 ·unfold CD;rw[aob,p9 a];exact dt some (CF bc (bB k a))
variable (bc:dT K)(b2:B.Nodup)(rg:∀k∈B,k∈K)(hn:∀w∈t.dL,le w∈K)(bB:∀k<t.nn,f3 k∈K)
include bc b2 rg hn bB
theorem Rk(R:nF B t d)(σ:ah):bF G (d+2) "Looker.measure" [.ref ((σ++[bb.dict false (kA t.dL)]).length+1),bT B t] (HG σ t 0 [])=.ok (gT K (t.f 0)) (HG σ t t.nn ((t.r 0).map (gT K))):=by
 have h:=ahD bc b2 rg (ahI bc hn bB R.nn σ) t R.ok d 0 [] (by rw[mT];exact cu _) R.ht (by have:=R.sz;rw[z8];exact fr (cE 2 this) (by simp +arith));rw[mT,I3]at h;exact h
theorem ahJ(R:nF B t d)(σ:ah):bF G (d+4) "measure_of" [bT B t] σ=.ok (gT K (t.f 0)) σ:=by
 refine dw aem rfl rfl (rf t) fun c at_=>?_;refine aW at_ (Rj R σ) ?_;refine HC (HB _ _ _ _ _) ?_;refine aW at_ (Rk bc b2 rg hn bB R.up σ) ?_;exact HE ⟨_,ek ..⟩ (xA (hB _))
theorem ahK(R:nF B t d)(σ:ah):bF G (d+4) "alike" [bT B t] σ=.ok (.lst ((t.r 0).map (gT K))) σ:=by
 refine dw aen rfl rfl (rf t) fun c at_=>?_;refine aW at_ (Rj R σ) ?_;refine HC (HB _ _ _ _ _) ?_;refine aW at_ (Rk bc b2 rg hn bB R.up σ) ?_;refine zs at_ ?_;refine HE ⟨_,ek ..⟩ (ahE ?_ (wG ..) ?_)
 ·rw[bW];exact by simp +arith
 ·rw[rQ];intro v a;obtain⟨f,V,rfl⟩:=dQ.mp a;exact hB _
end
theorem ahL{n:Nat}(hn:n<=1000)(d:Nat)(σ:ah):bF G (d+1) "range_of" [.int n] σ=.ok (.lst ((bf n).map aof)) σ:=by
 refine dw aew rfl rfl rfl fun c at_=>?_;refine cm (nr σ (by rw[xc];exact uV hn)) ?_;refine cm (w:=.f (.list ((bf n).map aof))) ?_ ?_
 ·show (if d' (hw 0 n).length then some (cL.f (.list (hw 0 n))) else none)=_;rw[wz];exact bl (b9 (by rw[a0,an5];exact uV hn))
 ·exact dP (agi _)
theorem ahM(l k:Str):(un l k).natAbs<=1:=by unfold un;split<;>decide
def bL(k:Nat)(L:Nat->Str)(T:Nat->Str->Int)(l:Str):Str->Int:=(((bf k).find? fun i=>decide (L i=l)).map T).getD (un l)
theorem rh{L:Nat->Str}(hi:∀i j,i<j->j<k->L i≠L j)(T:Nat->Str->Int){i:Nat}(h:i<k):bL k L T (L i)=T i:=by
 unfold bL;cases e:(bf k).find? fun j=>decide (L j=L i) with
 |none=>
  have:=CZ.mp e i (eE.mpr h);exact dk (b9 rfl) this
 |some j=>
  have a:L j=L i:=ct (show decide (L j=L i)=true from akl (p:=fun j=>decide (L j=L i)) e);have O:=eE.mp (SU e);have:j=i:=by
   rcases z3 j i with q|q|q
   ·exact dk a (hi j i q h)
   ·exact q
   ·exact dk a.symm (hi i j q O)
  rw[this];rfl
theorem wH{L:Nat->Str}{l:Str}(h:∀i<k,L i≠l)(T:Nat->Str->Int):bL k L T l=un l:=by
 unfold bL;rw[CZ.mpr fun i hi q=>h i (eE.mp hi) (ct q)];rfl
theorem Rl{L:Nat->Str}{T:Nat->Str->Int}{o:Str}(a:∀i<k,(T i o).natAbs<=2^e)(l:Str):(bL k L T l o).natAbs<=2^e:=by
 unfold bL;cases h:(bf k).find? fun j=>decide (L j=l) with
 |none=>exact ax (ahM l o) (kI (by decide))
 |some j=>exact a j (eE.mp (SU h))
theorem zv{L:Nat->Str}(hi:∀i j,i<j->j<k->L i≠L j)(v:Nat->α){i:Nat}(h:i<k):cp (ba k L v) (L i)=some (v i):=
 D4 (Cv hi v) (dQ.mpr ⟨i,eE.mpr h,rfl⟩)
theorem Rm{L:Nat->Str}{l:Str}(h:∀i<k,L i≠l)(v:Nat->α):cp (ba k L v) l=none:=by
 cases e:cp (ba k L v) l with
 |none=>rfl
 |some x=>
  have:=D5 e;refine aw (dQ.mp this) fun i hi q=>?_;exact dk (dt bz q) (h i (eE.mp hi))
theorem wI{n:Nat}{L:Nat->Str}(h:∀i j,i<j->j<n->L i≠L j):((bf n).map L).Nodup:=by
 have:=Cv h fun V=>();rw[sy]at this;exact this
theorem aoo{n:Nat}{L:Nat->Str}{k:Str}:k∈(bf n).map L↔∃i<n,L i=k:=by
 rw[dQ];exact⟨fun ⟨i,h,e⟩=>⟨i,eE.mp h,e⟩,fun ⟨i,h,e⟩=>⟨i,eE.mpr h,e⟩⟩
theorem ahN:∀i j:Fin 60,i.val<j.val->Q i.val≠Q j.val:=by decide +kernel
theorem ahO:∀c:Fin 60,Q c.val≠(⟨#[]⟩:Str):=by decide +kernel
structure er (n:Nat)(L o:Nat->Str):Prop where
 oK:n<60
 iF:∀i j,i<j->j<n->L i≠L j
 uy:∀i j,i<j->j<4->o i≠o j
 ia:∀i<n,∀j<4,L i≠o j
 Rn:∀i<n,∀c<n,L i≠Q c
 uz:∀j<4,∀c<n,o j≠Q c
 Le:∀i<n,L i≠(⟨#[]⟩:Str)
 HH:∀i<4,o i≠(⟨#[]⟩:Str)
noncomputable def bC(o:Nat->Str):List Str:=(bf 4).map o
def eo(n:Nat)(L o:Nat->Str):List Str:=(bf n).map L++bC o
def c8(n:Nat)(o:Nat->Str):List Str:=bC o++(bf n).map Q
theorem Ro(l:List Str)(f g:Str->Int):(dK l fun x=>f x+g x)=dK l f+dK l g:=by
 induction l with
 |nil=>rfl
 |cons x l ih=>show f x+g x+dK l _=f x+dK l f+(g x+dK l g);rw[ih];exact Kq
theorem HI(l:List Str)(c:Int)(f:Str->Int):(dK l fun x=>c*f x)=c*dK l f:=by
 induction l with
 |nil=>exact(aom c).symm
 |cons x l ih=>show c*f x+dK l _=c*(f x+dK l f);rw[ih,Dj]
theorem Rp(l:List Str)(n:Nat)(f:Str->Nat->Int):(dK l fun x=>S n fun a=>f x a)=S n fun a=>dK l fun x=>f x a:=by
 induction n with
 |zero=>
  show (dK l fun x=>0)=0;exact(dt (dK l) (funext fun x=>(g0 0).symm)).trans ((HI l 0 fun V=>0).trans (g0 _))
 |succ n ih=>show (dK l fun x=>(S n fun a=>f x a)+f x n)=_;rw[Ro,ih];rfl
section
variable {n:Nat}{L o:Nat->Str}
theorem er.sx(E:er n L o):∀i j,i<j->j<n->Q i≠Q j:=fun i j a O=>ahN ⟨i,by have:=E.oK;exact(fr (aG (aG a O) this) (by simp +arith))⟩ ⟨j,by have:=E.oK;exact(jt O this)⟩ a
variable {k:Str}
theorem lp:k∈bC o↔∃i<4,o i=k:=aoo
theorem ri:k∈eo n L o↔(∃i<n,L i=k)\/∃i<4,o i=k:=by unfold eo;rw[eM,aoo,lp]
theorem sM:k∈c8 n o↔(∃i<4,o i=k)\/∃i<n,Q i=k:=by unfold c8;rw[eM,aoo,lp]
theorem er.ti(E:er n L o):dT (bC o):=⟨wI E.uy,by unfold bC;rw[a0,an5];decide,fun k a=>by obtain⟨i,hi,rfl⟩:=lp.mp a;exact E.HH i hi⟩
theorem er.wJ(E:er n L o):dT (eo n L o):=by
 have hn:=E.oK;refine⟨mQ.mpr ⟨wI E.iF,wI E.uy,fun a d b f e=>?_⟩,?_,fun k g=>?_⟩
 ·refine aw (aoo.mp d) fun i hi c=>?_;subst c;refine aw (aoo.mp f) fun j h c=>?_;subst c;exact E.ia i hi j h e
 ·unfold eo bC;rw[bW,a0,a0,an5,an5];exact IJ hn
 ·rcases ri.mp g with⟨i,hi,rfl⟩ |⟨i,hi,rfl⟩
  ·exact E.Le i hi
  ·exact E.HH i hi
theorem er.oL(E:er n L o):dT (c8 n o):=by
 have hn:=E.oK;refine⟨mQ.mpr ⟨wI E.uy,wI E.sx,fun a d b f e=>?_⟩,?_,fun k g=>?_⟩
 ·refine aw (aoo.mp d) fun i hi c=>?_;subst c;refine aw (aoo.mp f) fun j h c=>?_;subst c;exact E.uz i hi j h e
 ·unfold c8 bC;rw[bW,a0,a0,an5,an5];exact aj9 hn
 ·rcases sM.mp g with⟨i,hi,rfl⟩ |⟨i,hi,rfl⟩
  ·exact E.HH i hi
  ·exact ahO ⟨i,by exact jt hi hn⟩
theorem HJ(q:Str->Int):dK (eo n L o) q=(S n fun i=>q (L i))+S 4 fun i=>q (o i):=by unfold eo bC;rw[Gq,BX,BX]
theorem Rq(q:Str->Int):dK (c8 n o) q=(S 4 fun i=>q (o i))+S n fun i=>q (Q i):=by unfold c8 bC;rw[Gq,BX,BX]
structure pV (n:Nat)(o:Nat->Str)(x:Nat->Str->Int):Prop where
 no:∀i<n,∀k,k∉bC o->x i k=0
 bd:∀i<n,∀k,(x i k).natAbs<=2^7
def hj(n:Nat)(L:Nat->Str)(x:Nat->Str->Int)(f:Str->Int)(k:Str):Int:=(S n fun j=>f (L j)*x j k)+j2 ((bf n).map L) f k
variable {m e h:Nat}{x R:Nat->Str->Int}{P F B:a4}
theorem Rr(a:pV n o x){k:Str}(b:k∉bC o)(j:Nat):bw n x B j k=0:=mC fun i hi=>by rw[a.no i hi k b,aom]
theorem ahQ(a:pV n o x)(hn:n<=1000)(Z:wE n m (fun i j=>R i (L j)) e h P F B){j:Nat}(b:j<n)(k:Str):(fd h (bw n x B) j k).natAbs<=2^(17+e):=by
 unfold fd;split
 ·have:=Co (ex:=7) hn Z.bd (k:=k) (fun i hi=>a.bd i hi k) b
  rwa [show 10+e+7=17+e by exact by simp +arith]at this
 ·refine ax (m:=1) ?_ (kI (by decide));split<;>decide
theorem ahR(b:pV n o x)(hn:n<=1000)(Z:wE n m (fun i j=>R i (L j)) e h P F B){i:Nat}(hi:i<n)(k:Str):(d3 n h (bw n x B) F i k).natAbs<=2^(27+2*e):=by
 refine ax (Hc (W:=2^(17+e+e)) fun j a=>?_) ?_
 ·rw[qb,jw];exact p0 (ahQ b hn Z a k) (Z.bd.f i hi j a)
 ·rw[show 27+2*e=10+(17+e+e) by exact by simp +arith,jw 2 10];exact mU _ (ax hn (by decide))
theorem ahS(E:er n L o){r i:Nat}(hi:i<n):val (q5 n L B r) (L i)=B r i:=PE (Cv E.iF _) (dQ.mpr ⟨i,eE.mpr hi,rfl⟩)
theorem ahT{r:Nat}(a:∀i<n,L i≠k):val (q5 n L B r) k=0:=wb fun q=>by
 have q:k∈(ba n L fun i=>B r i).map bz:=q;rw[sy]at q;refine aw (aoo.mp q) fun i hi e=>?_;exact a i hi e
theorem Rs(E:er n L o){c:Nat}(ae:c<n):Q c∉bC o:=fun q=>by obtain⟨j,a,e⟩:=lp.mp q;exact E.uz j a c ae e
theorem CG(E:er n L o){i:Nat}(hi:i<n):L i∉bC o:=fun q=>by obtain⟨j,a,e⟩:=lp.mp q;exact E.ia i hi j a e.symm
theorem ahU(E:er n L o){a b:Nat}(c:a<n)(d:b<n)(e:Q a=Q b):a=b:=by
 rcases z3 a b with q|q|q
 ·exact dk e (E.sx a b q d)
 ·exact q
 ·exact dk e.symm (E.sx b a q c)
theorem Rt(E:er n L o)(a:pV n o x){j c:Nat}(b:j<n)(ae:c<n):fd h (bw n x B) j (Q c)=if j=h+c then 1 else 0:=by
 unfold fd;by_cases q:j<h
 ·rw[bl q,b5 (fun e=>ff (aG q (bx e.symm)) (by simp +arith))];exact Rr a (Rs E ae) j
 ·rw[b5 q];by_cases az:j=h+c
  ·rw[bl az,bl (by rw[az,l0])]
  ·rw[b5 az,b5 fun e=>az (by have:=ahU E ae (Ku b) e;exact((az (by rw[this,Dg (kC q)]))).elim)]
theorem TQ(E:er n L o)(a:pV n o x){i c:Nat}(ae:h+c<n):d3 n h (bw n x B) F i (Q c)=F i (h+c):=by
 unfold d3;rw[cV (g:=fun j=>if j=h+c then F i (h+c) else 0) fun j b=>?_,k8 ae];rw[Rt E a b (aj5 ae)];by_cases q:j=h+c
 ·rw[bl q,bl q,q,w2]
 ·rw[b5 q,b5 q,g0]
theorem ahW(E:er n L o)(b:pV n o x){i c:Nat}(ae:c<n)(d:n<=h+c):d3 n h (bw n x B) F i (Q c)=0:=mC fun j a=>by rw[Rt E b a ae,b5 (fun e=>ff (aG (aG d a) (bx e.symm)) (by simp +arith)),g0]
theorem To(E:er n L o)(hn:h<=n){i j:Nat}(b:j<4):d3 n h (bw n x B) F i (o j)=S h fun l=>bw n x B l (o j)*F i l:=by
 unfold d3;rw[Cn hn fun l a O=>?_]
 ·exact cV fun l c=>by unfold fd;rw[bl c]
 ·unfold fd;rw[b5 (gq.mpr a),b5 (E.uz j b (l-h) (Ku O)),g0]
theorem ahY{n h:Nat}(hn:h<=n)(f:Nat->Int):S n f=S h f+S (n-h) fun c=>f (h+c):=by
 refine bK (TS hn) fun k a=>?_;subst a;rw[l0];clear hn
 induction k with
 |zero=>exact(aod _).symm
 |succ k ih=>show S (h+k) f+f (h+k)=S h f+((S k fun c=>f (h+c))+f (h+k));rw[ih];exact w4 _ _ _
open Classical in
theorem ao4(E:er n L o)(f:Str->Int){k:Str}:(S 4 fun j=>un (o j) k*f (o j))=if k∈bC o then f k else 0:=by
 by_cases q:k∈bC o
 ·rw[bl q];refine aw (lp.mp q) fun j b c=>?_;subst c;rw[cV (g:=fun l=>if l=j then f (o j) else 0) fun l a=>?_,k8 b];unfold un;by_cases e:l=j
  ·rw[bl e,bl (by rw[e]),e,w2]
  ·rw[b5 e,b5 fun w=>?_,g0];rcases sT e with q|q
   ·exact E.uy l j q b w.symm
   ·exact E.uy j l q a w
 ·rw[b5 q];refine mC fun l a=>?_;unfold un;rw[b5 fun w=>q (lp.mpr ⟨l,a,w.symm⟩),g0]
theorem ahZ(E:er n L o){r:Nat}(k:Str):(dK (eo n L o) fun l=>bL n L x l k*val (q5 n L B r) l)=bw n x B r k:=by
 rw[HJ,mC (n:=4) fun j a=>by rw[ahT fun i hi=>E.ia i hi j a,aom],aod];exact cV fun i hi=>by rw[rh E.iF _ hi,ahS E hi,rA]
theorem HK(E:er n L o){j u:Nat}(a:j<4)(b:u<=n)(T:Nat->Str->Int):bL u Q T (o j)=un (o j):=wH (fun c ae e=>E.uz j a c (Kt b ae) e.symm) T
theorem zc(E:er n L o)(f:pV n o x)(Z:wE n m (fun i j=>R i (L j)) e h P F B){i:Nat}(hi:i<n)(k:Str):(dK (c8 n o) fun l=>bL (n-h) Q (fun c=>bw n x B (h+c)) l k*d3 n h (bw n x B) F i l)=x i k:=by
 have p:=Z.hn;have r:∀a b,a<b->b<n-h->Q a≠Q b:=fun a b d O=>E.sx a b d (Ks O);have s:(S 4 fun a=>bL (n-h) Q (fun c=>bw n x B (h+c)) (o a) k*d3 n h (bw n x B) F i (o a))=S 4 fun a=>un (o a) k*d3 n h (bw n x B) F i (o a):=cV fun j g=>by rw[HK E g (kH _ _)]
 have t:(S n fun a=>bL (n-h) Q (fun c=>bw n x B (h+c)) (Q a) k*d3 n h (bw n x B) F i (Q a))=S (n-h) fun c=>bw n x B (h+c) k*F i (h+c):=by
  rw[Cn (h:=n-h) (kH _ _) fun a d O=>by rw[ahW E f O (Iq.mp d),aom]];exact cV fun c ae=>by rw[rh r _ ae,TQ E f (Kr ae)]
 rw[Rq,s,t,ao4 E];by_cases q:k∈bC o
 ·rw[bl q];refine aw (lp.mp q) fun j g u=>?_;subst u;rw[To E p g,<- ahY p (fun l=>bw n x B l (o j)*F i l),<- Z.inv.QG hi x (o j)];exact cV fun l V=>rA _ _
 ·rw[b5 q,f.no i hi k q,mC fun c V=>by rw[Rr f q,g0]];rfl
theorem ah0(E:er n L o){j:Nat}(b:j<4)(g:Str->Int):(dK (c8 n o) fun l=>g l*un (o j) l)=g (o j):=by
 rw[Rq,cV (g:=fun a=>if a=j then g (o j) else 0) fun a c=>?_,k8 b,mC fun a c=>?_,aod]
 ·unfold un;rw[b5 fun w=>E.uz j b a c w.symm,aom]
 ·unfold un;by_cases q:a=j
  ·rw[bl q,bl (by rw[q]),q,oU]
  ·rw[b5 q,b5 fun w=>?_,aom];rcases sT q with z|z
   ·exact E.uy a j z b w
   ·exact E.uy j a z c w.symm
theorem ah1(E:er n L o)(p:pV n o x)(Z:wE n m (fun i j=>R i (L j)) e h P F B){f:Str->Int}(r:∀c<n,f (Q c)=0){k:Str}(s:k∈c8 n o) :
  (dK (c8 n o) fun l=>bL (n-h) Q (fun c=>bw n x B (h+c)) l k*dK (eo n L o) fun a=>bL n L (d3 n h (bw n x B) F) a l*f a)=hj n L x f k:=by
 have t:(fun l=>bL (n-h) Q (fun c=>bw n x B (h+c)) l k*dK (eo n L o) fun a=>bL n L (d3 n h (bw n x B) F) a l*f a)=fun l=>(S n fun a=>f (L a)*(bL (n-h) Q (fun c=>bw n x B (h+c)) l k*d3 n h (bw n x B) F a l))+S 4 fun a=>f (o a)*(bL (n-h) Q (fun c=>bw n x B (h+c)) l k*un (o a) l):=by
  funext l;rw[HJ,Dj,<- ue,<- ue];refine congr (dt (·+·) (cV fun a b=>?_)) (cV fun a b=>?_)
  ·rw[rh E.iF _ b,rA (d3 n h _ F a l),uL]
  ·rw[wH (fun i hi=>E.ia i hi a b),rA (un (o a) l),uL]
 rw[t,Ro,Rp,Rp];unfold hj;refine congr (dt (·+·) (cV fun a b=>?_)) ?_
 ·rw[HI,zc E p Z b]
 ·rw[cV (g:=fun a=>un (o a) k*f (o a)) fun a b=>by rw[HI,ah0 E b,HK E b (kH _ _),rA],ao4 E];unfold j2;rcases sM.mp s with⟨j,d,rfl⟩ |⟨c,ae,rfl⟩
  ·rw[bl (lp.mpr ⟨j,d,rfl⟩),b5 fun q=>by obtain⟨i,hi,e⟩:=aoo.mp q;exact E.ia i hi j d e]
  ·rw[b5 (Rs E ae),b5 fun q=>by obtain⟨i,hi,e⟩:=aoo.mp q;exact E.Rn i hi c ae e,r c ae]
theorem ao2(a:∀i<n,L i≠k)(f:Str->Int):j2 ((bf n).map L) f k=f k:=by
 unfold j2;rw[b5 fun q=>by obtain⟨i,hi,e⟩:=aoo.mp q;exact a i hi e]
theorem Rw(f g:Str->Int)(k:Str):hj n L x (fun s=>f s+g s) k=hj n L x f k+hj n L x g k:=by
 unfold hj;rw[cV (g:=fun j=>f (L j)*x j k+g (L j)*x j k) fun j V=>TH _ _ _,pG];unfold j2;split
 ·exact by simp +arith
 ·show _+(f k+g k)=_;exact Kq
theorem Rx(f:Str->Int)(c:Int)(k:Str):hj n L x (fun s=>f s*c) k=hj n L x f k*c:=by
 unfold hj;rw[cV (g:=fun j=>(f (L j)*x j k)*c) fun j V=>by rw[Int.mul_right_comm],Hb,TH];unfold j2;split<;>simp
theorem ah2(f g:Str->Int)(k:Str):hj n L x (fun s=>f s-g s) k=hj n L x f k-hj n L x g k:=by
 have a:=Rw (n:=n) (L:=L) (x:=x) f (fun s=>g s*(-1)) k;rw[Rx]at a;rw[show (fun s=>f s-g s)=fun s=>f s+g s*(-1) by funext s;exact(by simp +arith),a];exact by simp +arith
theorem ah3(E:er n L o){f:Str->Int}(a:∀k,k∉bC o->f k=0)(k:Str):hj n L x f k=f k:=by
 unfold hj;rw[mC fun j b=>by rw[a _ (CG E b),g0],uR];by_cases q:∃i,i<n/\L i=k
 ·refine aw q fun i hi c=>?_;subst c;unfold j2;rw[bl (aoo.mpr ⟨i,hi,rfl⟩),a _ (CG E hi)]
 ·exact ao2 (fun i hi e=>q ⟨i,hi,e⟩) f
theorem Ry(E:er n L o){j:Nat}(a:j<n)(k:Str):hj n L x (un (L j)) k=x j k:=by
 unfold hj;rw[cV (g:=fun i=>if i=j then x j k else 0) fun i hi=>?_,k8 a]
 ·by_cases q:∃i,i<n/\L i=k
  ·refine aw q fun i hi b=>?_;subst b;unfold j2;rw[bl (aoo.mpr ⟨i,hi,rfl⟩),aod]
  ·rw[ao2 (fun i hi e=>q ⟨i,hi,e⟩)];unfold un;rw[b5 fun e=>q ⟨j,a,e.symm⟩,aod]
 ·unfold un;by_cases q:i=j
  ·rw[bl q,bl (by rw[q]),q,w2]
  ·rw[b5 q,b5 fun w=>?_,g0];rcases sT q with z|z
   ·exact E.iF i j z a w
   ·exact E.iF j i z hi w.symm
end
theorem Rz(m:cg):te (m.map fun kv=>.tup [.str kv.1,.int kv.2])=some m:=by
 induction m with
 |nil=>rfl
 |cons a l ih=>exact dt (mP (a::·)) ih
theorem RA(σ:ah)(a b:cg):mX σ .Eq (aR a) (aR b)=some (decide (a=b)):=by
 show (te (a.map fun kv=>.tup [.str kv.1,.int kv.2])).bind (fun x=>(te (b.map fun kv=>.tup [.str kv.1,.int kv.2])).map fun y=>decide (x=y))=_;rw[Rz,Rz];rfl
theorem RB(m:cg):mX σ .Eq (aR m) (aR m)=some true:=by rw[RA,b9 rfl]
theorem ah4(m:cg):mX σ .NotEq (aR m) (aR m)=some false:=dt (mP (!·)) (RB (σ:=σ) m)
theorem CH{L:Nat->Str}{v:Nat->an2}{x:an2}(h:((ba k L v).map fun kv=>an2.str kv.1)[j]?=some x):x=.str (L j)/\j<k:=by
 unfold ba at h;rw[hk,aob]at h;refine aw (dh.mp h) fun i hi b=>?_;subst b;obtain⟨a,O⟩:=dN.mp hi;rw[an5]at a;rw[TR]at O;subst O;exact⟨rfl,a⟩
theorem ah5{L:Nat->Str}{x:an2}(h:(fu k L)[j]?=some x):x=.str (L j)/\j<k:=by
 unfold fu at h;rw[aob]at h;refine aw (dh.mp h) fun i hi b=>?_;subst b;obtain⟨a,O⟩:=dN.mp hi;rw[an5]at a;rw[TR]at O;subst O;exact⟨rfl,a⟩
theorem zw{L:Nat->Str}(hi:∀i j,i<j->j<k->L i≠L j)(v:Nat->an2){i:Nat}(h:i<k):eQ σ (.ba (ba k L v)) (.str (L i))=some (.v (v i)):=by
 show (cp (ba k L v) (L i)).map cL.v=_;rw[zv hi v h];rfl
variable {W:Str->Prop}
theorem RC(aF:∀w,W w->le w≠s)(o:s∉B)(t:T):t.ok W B->∀k,(∀i,k<=i->i<k+t.nn->f3 i≠s)->t.f k s=0/\∀r∈t.r k,r s=0:=by
 have v:∀{l:Str},l≠s->un l s=0:=fun q=>b5 fun e=>q e.symm
 induction t with
 |c2 w=>exact fun j k h=>⟨v (aF w j),fun r hr=>eO hr⟩
 |b4=>exact fun j k h=>⟨v (h k (cu _) (aog k)),fun r hr=>eO hr⟩
 |is n f=>exact fun j k h=>⟨j.2 s o,fun r hr=>eO hr⟩
 |pow a n p=>intro j k h;have g:=p j.1 k h;exact⟨by show a.f k s*n=0;rw[g.1,g0],g.2⟩
 |bin op a b p o=>
  intro j k h;have h:∀i,k<=i->i<k+(a.nn+b.nn)->f3 i≠s:=h;have g:=p j.1 k fun i ay az=>h i ay (Kx az);have O:=o j.2 (k+a.nn) fun i ay az=>h i (Am ay) (UF az);have u:cT (a.f k) (b.f (k+a.nn)) s=0:=by unfold cT;rw[g.1,O.1];rfl
  have m:∀r∈a.r k++b.r (k+a.nn),r s=0:=fun r hr=>(eM.mp hr).elim (g.2 r) (O.2 r);cases op with
  |times V=>exact⟨by show a.f k s+b.f (k+a.nn) s=0;rw[g.1,O.1];rfl,m⟩
  |over=>exact⟨u,m⟩
  |plus=>exact⟨g.1,fun r hr=>(eM.mp hr).elim (m r) fun q=>c3.mp q▸u⟩
  |minus=>exact⟨g.1,fun r hr=>(eM.mp hr).elim (m r) fun q=>c3.mp q▸u⟩
 |less a b c d p o ae y=>
  intro j k h;have h:∀i,k<=i->i<k+(a.nn+b.nn+(c.nn+d.nn))->f3 i≠s:=h;have g:=p j.1 k fun i ay az=>h i ay (UE az);have O:=o j.2.1 (k+a.nn) fun i ay az=>h i (Am ay) (UD az);have m:=ae j.2.2.1 (k+a.nn+b.nn) fun i ay az=>h i (UC ay) (UB az);have x:=y j.2.2.2 (k+a.nn+b.nn+c.nn) fun i ay az=>h i (fr ay (by simp +arith)) (UA az);refine⟨m.1,fun r hr=>?_⟩;rcases eM.mp hr with hr|hr
  ·rcases eM.mp hr with hr|hr
   ·rcases eM.mp hr with hr|hr
    ·rcases eM.mp hr with hr|hr
     ·exact(eM.mp hr).elim (g.2 r) (O.2 r)
     ·exact m.2 r hr
    ·exact x.2 r hr
   ·rw[c3.mp hr];unfold cT;rw[g.1,O.1];rfl
  ·rw[c3.mp hr];unfold cT;rw[m.1,x.1];rfl
noncomputable def T.p(t:T):Nat:=t.dL.length
noncomputable def T.ns(t:T)(i:Nat):Str:=t.dL.getD i (⟨#[]⟩:Str)
noncomputable def T.n(t:T):Nat:=t.p+t.nn
def T.L(t:T)(j:Nat):Str:=if j<t.p then le (t.ns j) else f3 (j-t.p)
theorem rj{l:List α}(z:α)(h:i<l.length):l.getD i z=l[i]:=by unfold zX;rw[uP h];rfl
theorem HL(l:List α)(g:α->β)(z:α):l.map g=(bf l.length).map fun i=>g (l.getD i z):=by
 apply uQ;intro i;rw[aob,aob];by_cases h:i<l.length
 ·rw[p9 h,uP h];simp[zX,h]
 ·rw[nN (kC h),nN (by rw[an5];exact kC h)];rfl
theorem RE(t:T):t.dL.map an2.str=fu t.p t.ns:=HL t.dL an2.str _
theorem CI(h:i<t.p):t.ns i∈t.dL:=by unfold T.ns;rw[rj _ h];exact xd h
theorem nG(h:i<t.p):t.L i=le (t.ns i):=bl h
theorem lR(t:T)(k:Nat):t.L (t.p+k)=f3 k:=by unfold T.L;rw[b5 (Kw),l0]
theorem ah6(t:T):(t.dL.map fun w=>an2.str (le w))++(bf t.nn).map (fun k=>an2.str (f3 k))=fu t.n t.L:=by
 rw[HL t.dL (fun w=>an2.str (le w)) (⟨#[]⟩:Str)];show (bf t.p).map _++_=(bf (t.p+t.nn)).map fun i=>an2.str (t.L i);rw[List.range_add,hS,hk];refine congr (dt (·++·) (i0 fun i hi=>?_)) (i0 fun k a=>?_)
 ·rw[nG (eE.mp hi)];rfl
 ·show _=an2.str (t.L (t.p+k));rw[lR]
theorem zx(h:w∈t.dL):∃i<t.p,t.L i=le w:=by
 obtain⟨i,hi,e⟩:=I6 h;exact⟨i,hi,by rw[nG hi];unfold T.ns;rw[rj _ hi,e]⟩
noncomputable def T.R(t:T)(i:Nat):Str->Int:=(t.r 0).getD i fun V=>0
noncomputable def T.m(t:T):Nat:=(t.r 0).length
theorem ah7(K:List Str)(t:T):(t.r 0).map (gT K)=aop K t.m t.R:=HL (t.r 0) (gT K) _
theorem RF(h:i<t.m):t.R i∈t.r 0:=by unfold T.R;rw[rj _ h];exact xd h
section
variable {o:Nat->Str}{t:T}{d:Nat}
theorem RG(b:t.ok (·∈t.dL) (bC o)){s:Str}(a:s∉eo t.n t.L o):t.f 0 s=0/\∀r∈t.r 0,r s=0:=by
 have a:¬((∃i<t.n,t.L i=s)\/∃i<4,o i=s):=fun q=>a (ri.mpr q);refine RC (fun w aF e=>a (.inl ?_)) (fun q=>a (.inr (lp.mp q))) t b 0 fun i ay az e=>a (.inl ⟨t.p+i,by unfold T.n;exact(fr az (by simp +arith)),(lR t i).trans e⟩);refine aw (zx aF) fun i hi c=>?_;exact⟨i,by unfold T.n;exact qd hi,c.trans e⟩
theorem oM(σ:ah)(a b:List an2)(h:a.length+b.length<=1000000):kg σ .Add (.lst a) (.lst b)=some (.f (.list (a++b))):=bl h
def RH(t:T)(o:Nat->Str)(h:Nat)(x:Nat->Str->Int)(F B:a4):an2:=.tup [.ba (ba t.p t.ns fun i=>aR (aA (c8 t.n o) (d3 t.n h (bw t.n x B) F i))),.lst ((bf t.nn).map fun k=>aR (aA (c8 t.n o) (d3 t.n h (bw t.n x B) F (t.p+k)))),aR (aA (c8 t.n o) fun s=>dK (eo t.n t.L o) fun l=>bL t.n t.L (d3 t.n h (bw t.n x B) F) l s*t.f 0 l),.ba (pO (eo t.n t.L o) t.n h t.L B (t.n-h))]
theorem ah8(E:er t.n t.L o)(R:nF (bC o) t d)(M:t.m<=1000){x:Nat->Str->Int}(N:pV t.n o x)(O:∀r∈t.r 0,∀k∈c8 t.n o,hj t.n t.L x r k=0)(Q:∀j<t.n,(t.f 0 (t.L j)).natAbs<=1000)
  {W:Nat} (S:W<=64000000) (z:wB t.n t.m (fun i j=>t.R i (t.L j)) W) {q:Str} {σ:ah} (U:σ[0]?=some (.tab q)) :
  ∃h P F B,bF G (d+6) "widest" [bT (bC o) t] σ=.ok (RH t o h x F B) σ/\wE t.n t.m (fun i j=>t.R i (t.L j)) W h P F B:=by
 have hn:=E.oK;have b:t.p+t.nn<60:=hn;have g:∀j<t.n,t.L j∈eo t.n t.L o:=fun j a=>ri.mpr (.inl ⟨j,a,rfl⟩);have rg:∀k∈bC o,k∈eo t.n t.L o:=fun k aa=>ri.mpr (.inr (lp.mp aa));have A:∀w∈t.dL,le w∈eo t.n t.L o:=fun w aF=>by obtain⟨i,hi,e⟩:=zx aF;exact e▸g i (by unfold T.n;exact qd hi)
 have C:∀k<t.nn,f3 k∈eo t.n t.L o:=fun k aa=>lR t k▸g (t.p+k) (by unfold T.n;exact Al aa);have X:∀i<t.m,aA (eo t.n t.L o) (j2 ((bf t.n).map t.L) (t.R i))=aA (c8 t.n o) (j2 ((bf t.n).map t.L) (t.R i)):=fun i hi=>by
  refine Hz E.wJ.c7 E.oL.c7 (fun k aa q=>?_) fun k aa q=>?_
  ·rcases ri.mp aa with⟨j,a,rfl⟩|aa
   ·unfold j2;rw[bl (aoo.mpr ⟨j,a,rfl⟩)]
   ·exact dk (sM.mpr (.inl aa)) q
  ·unfold j2;rw[(RG R.ok q).2 _ (RF hi)];split<;>rfl
 obtain⟨h,P,F,B,rs,Z⟩:=ahc E.wJ E.oL (n:=t.n) (m:=t.m) (Dz hn) M g E.iF (fun c ae=>sM.mpr (.inr ⟨c,ae,rfl⟩)) E.sx (fun c ae=>ax (zt ⟨c,(fr (aG hn ae) (by simp +arith))⟩) (by decide)) t.R X x (fun i hi k aa=>O _ (RF hi) k aa) (ex:=7) (fun i hi k V=>N.bd i hi k) (by decide) S z U d;refine⟨h,P,F,B,?_,Z⟩;have cS:=Z.hn;rw[<- ah7,<- ah6]at rs;unfold aot at rs;have D:=R.up.up.up.c2 σ;rw[RE]at D;refine dw aev rfl rfl (rf t) fun c at_=>?_;refine aW at_ D ?_;refine aW at_ (Q7 R.ok R.sz R.up.up.up.ht σ) ?_;refine aW at_ (ahL (fr b (by simp +arith)) (d+4) σ) ?_;refine aW at_ (ahK E.wJ E.ti.c7 rg A C R.up σ) ?_;have H:∀w∈t.dL,("=":Str).length+w.length<=1000000:=fun w aF=>ax (fv (R.wl w aF) _) (by decide);have I:∀k<t.nn,("0":Str).length+(ly (toString ((k:Nat):Int))).length<=1000000:=fun k aa=>ax (fv (zt ⟨k,(xh b aa)⟩) _) (by decide);refine eB.pure an2.str (fun V=>true) (fun w=>.str (le w)) t.dL (RE t).symm rfl rfl (fun w aF=>⟨⟨rfl,rfl⟩,fun V=>eh (kj _ _ _ (H w aF)) ⟨rfl,rfl⟩⟩) ?_ ?_
 ·rw[fP];exact b9 (by rw[a0];show t.p<=_;exact fr b (by simp +arith))
 rw[fP];refine eB.pure aof (fun V=>true) (fun k=>.str (f3 k)) (bf t.nn) rfl rfl rfl (fun k aa=>⟨⟨rfl,rfl⟩,fun V=>cm (uq _ (zu (by have:=eE.mp aa;exact xh b this))) (eh (kj _ _ _ (I k (eE.mp aa))) ⟨rfl,rfl⟩)⟩) ?_ ?_
 ·rw[fP];exact b9 (by rw[a0,an5];exact Ak b)
 rw[fP];refine eh (oM _ _ _ (by rw[a0,a0,an5];show t.p+_<=_;exact fr b (by simp +arith))) ?_;refine aW at_ rs ?_;refine dg.const (fun k au=>k<=t.p/\au=σ++[.dict false (ba k t.ns fun i=>aR (aA (c8 t.n o) (d3 t.n h (bw t.n x B) F i)))]) ⟨d4 _,rfl⟩ ?_ ?_
 ·rintro k y au Y ⟨wK,rfl⟩;refine bt (ah5 (show (fu t.p t.ns)[k]?=some y from Y)) fun el aa=>?_;subst el;refine eh (kj _ _ _ (H _ (CI aa))) ?_;refine cj (w:=.v (aR (aA (c8 t.n o) (d3 t.n h (bw t.n x B) F k)))) (by rw[show ("=":Str)++t.ns k=t.L k from (nG aa).symm];exact zw E.iF (fun i=>aR (aA (c8 t.n o) (d3 t.n h (bw t.n x B) F i))) (by unfold T.n;exact qd aa)) ?_;refine gR (nq (by rw[lN];exact Kv b aa) _ _) ?_;refine⟨_,by rfl,rfl,aa,?_⟩;refine dt (fun l=>σ++[bb.dict false l]) (q4 (L:=t.ns) (fun j a e=>?_) fun i=>aR (aA (c8 t.n o) (d3 t.n h (bw t.n x B) F i)));exact E.iF j k a (by unfold T.n;exact qd aa) (by rw[nG (jt a aa),nG aa,e])
 rintro au ⟨_,rfl⟩;rw[wD];refine eB.pure aof (fun V=>true) (fun k=>aR (aA (c8 t.n o) (d3 t.n h (bw t.n x B) F (t.p+k)))) (bf t.nn) rfl rfl rfl (fun k aa=>⟨⟨rfl,rfl⟩,fun V=>?_⟩) ?_ ?_
 ·have aa:=eE.mp aa;refine cm (uq _ (zu (xh b aa))) (eh (kj _ _ _ (I k aa)) ?_);refine cj (w:=.v (aR (aA (c8 t.n o) (d3 t.n h (bw t.n x B) F (t.p+k))))) (by rw[show ("0":Str)++ly (toString ((k:Nat):Int))=t.L (t.p+k) from (lR t k).symm];exact zw E.iF (fun i=>aR (aA (c8 t.n o) (d3 t.n h (bw t.n x B) F i))) (by unfold T.n;exact Al aa)) ⟨rfl,rfl⟩
 ·rw[fP];exact b9 (by rw[a0,an5];exact Ak b)
 rw[fP];refine aW at_ (ahJ E.wJ E.ti.c7 rg A C R.up _) ?_;refine aW at_ (afz (K:=eo t.n t.L o) E.oL (t.f 0) (bL t.n t.L (d3 t.n h (bw t.n x B) F)) (fun l u V=>?_) (fun l u V s z=>?_) (d+3) _) ?_
 ·rcases ri.mp u with⟨i,hi,rfl⟩ |⟨j,a,rfl⟩
  ·rw[zv E.iF _ hi,rh E.iF _ hi];rfl
  ·have J:∀i<t.n,t.L i≠o j:=fun i hi=>E.ia i hi j a;rw[Rm J,wH J,<- CF E.oL (sM.mpr (.inl ⟨j,a,rfl⟩))];rfl
 ·rcases ri.mp u with⟨i,hi,rfl⟩ |⟨j,a,rfl⟩
  ·have:=Q i hi;exact DW (nS this (by decide)).1 (nS this (by decide)).2
  ·rw[wH fun i hi=>E.ia i hi j a];exact Px (by unfold un;split;exact .inr rfl;exact .inl rfl)
 refine HD (Rh (Rg (cu _) gQ (ur _ _ _)) ?_ (hB _) (HF (ur _ _ _)));show kh _=true;rw[rQ];intro v aq;obtain⟨k,V,rfl⟩:=dQ.mp aq;exact hB _
end
theorem ah9(σ:ah){i a b:Int}(h:i=0\/i=1):eQ σ (.lst [.int a,.int b]) (.int i)=some (.v (.int (if i=0 then a else b))):=by
 rcases h with rfl|rfl<;>rfl
theorem RN(x:Int){b:Int}(a:0<=b):x.fdiv b=x / b:=Int.fdiv_eq_ediv_of_nonneg x a
theorem aia(x:Int):(x.fmod 9).fdiv 8=0\/(x.fmod 9).fdiv 8=1:=by
 have:=f0 x (n:=9) (by decide);rw[RN _ (by decide)];exact(Int.lt_or_le _ 8).imp (Int.ediv_eq_zero_of_lt this.1) fun q=>alP (uK (Int.ediv_lt_of_lt_mul (by decide) (Ij this.2 (by decide)))) ((Int.le_ediv_iff_mul_le (by decide)).mpr q)
theorem aib{D:cg}(a:D.length<=1000000)(k:Str)(v:Int):setAt (σ++[bb.dict false (an4 D)]) (.ref σ.length) (.str k) (.int v)=some (σ++[bb.dict false (an4 (b6 D k v))]):=by
 rw[nq (by rw[AI];exact a),AJ]
structure oN (n:Nat)(o:Nat->Str)(W:Nat)(D:cg):Prop where
 c7:(D.map bz).Nodup
 ks:∀k∈D.map bz,∃j<n,o j=k
 bd:∀k,(val D k).natAbs<=W
theorem oN.nil(n:Nat)(o:Nat->Str)(W:Nat):oN n o W []:=⟨sY,(fun k a=>eO a),fun k=>d4 _⟩
variable {o aP:Nat->Str}
theorem oN.put{n W:Nat}{D:cg}(h:oN n o W D){j:Nat}(a:j<n){v:Int}(b:v.natAbs<=W):oN n o W (b6 D (o j) v):=by
 refine⟨D2 h.c7,fun k c=>?_,fun k=>?_⟩
 ·rcases D0.mp c with e|e
  ·exact⟨j,a,e.symm⟩
  ·exact h.ks k e
 ·rw[PF];split
  ·exact b
  ·exact h.bd k
theorem oN.no{n W:Nat}{D:cg}(h:oN n o W D){k:Str}(a:∀j<n,o j≠k):val D k=0:=wb fun q=>by
 refine aw (h.ks k q) fun j b e=>?_;exact a j b e
theorem aic(σ:ah)(x:Int){n:Nat}(hn:0<n)(a:n<=1000)(L:Nat->Str):∃j<n,eQ σ (.lst (fu n L)) (.int (x.fmod n))=some (.v (.str (L j))):=by
 refine aw (BN x hn) fun j b e=>?_;refine⟨j,b,?_⟩;rw[e];exact qk _ _ j _ (by exact jz a b) (jW _ b)
section
variable {K:List Str}
theorem oN.le(bc:dT K){n W:Nat}{o:Nat->Str}{D:cg}(h:oN n o W D)(a:∀j<n,o j∈K):D.length<hz:=ua bc h.c7 fun k b=>by obtain⟨j,c,e⟩:=h.ks k b;exact e▸a j c
abbrev aie(K:List Str)(n:Nat)(o:Nat->Str)(σ:ah)(R:be an2):Prop:=∃f,R=.ok (aR (aA K f)) σ/\(∀k,(∀j<n,o j≠k)->f k=0)/\∀k,(f k).natAbs<=20
abbrev aif(n:Nat)(o:Nat->Str)(W:Nat)(σ:ah)(_:Nat)(au:ah):Prop:=∃D,au=σ++[.dict false (an4 D)]/\oN n o W D
theorem aig(bc:dT K){n:Nat}(h:0<n)(hn:n<=1000){o:Nat->Str}(m:∀j<n,o j∈K)(cell:Int)(d:Nat)(σ:ah) :
  ∃f,bF G (d+2) "_law_small" [.int cell,.lst (fu n o)] σ=.ok (aR (aA K f)) σ/\(∀k,(∀j<n,o j≠k)->f k=0)/\∀k,(f k).natAbs<=20:=by
 refine ou (P:=aie K n o σ) aeB rfl rfl rfl fun E at_=>?_;refine aw (BN cell (n:=4) (by decide)) fun r u p=>?_;have p:cell.fmod 4=(r:Int):=p;refine cm (b:=.range) (l:=[.int (cell.fmod 4)]) (w:=.v (.eP 0 r)) (by rw[p];exact nr _ (ax (et u) (by decide))) ?_;refine dg.const (aif n o 20 σ) ⟨[],rfl,oN.nil _ _ _⟩ ?_ ?_
 ·intro k x au y q;refine aw q fun D s a=>?_;subst s;refine bt (aoH y) fun z g=>?_;subst z;refine aW at_ (F' cell k d _) ?_;generalize nk cell k=mo;refine cm (kN (wD ..) (i6 hn)) ?_;refine sg (show (n:Int)≠0 by exact J7 h) ?_;refine cj (ah9 _ (aia _)) ?_;refine cm (kN (wD ..) (i6 hn)) ?_;refine v4 (show (n:Int)≠0 by exact J7 h) ?_;refine aw (aic (σ++[bb.dict false (an4 D)]) mo h hn o) fun j t A=>?_;refine cj A ?_;refine gR (aib (qL (a.le bc m)) _ _) ?_;refine⟨_,by rfl,rfl,_,rfl,a.put t ?_⟩;have c:=f0 (mo.fdiv (n:Int)) (n:=5) (by decide);have O:=f0 (mo.fdiv 256) (n:=41) (by decide);split<;>(first | exact(ax (Do (n:=2) (al6 (show (-(2:Int))+2<=_ from c.1)) (al7 (show _<=(2:Int)+2 from uK c.2))) (by decide)) | exact Do (al6 (show (-(20:Int))+20<=_ from O.1)) (al7 (show _<=(20:Int)+20 from uK O.2)))
 ·intro au q;refine aw q fun D s a=>?_;subst s;have B:∀k∈D.map bz,k∈K:=fun k g=>by obtain⟨j,t,e⟩:=a.ks k g;exact e▸m j t
  have C:=Gf (σ:=σ++[.dict false (an4 D)]) (i:=σ.length) (b:=false) (D:=D) gQ (a.le bc m) d;refine aW at_ C ?_;rw[t9 bc.c7 a.c7 B];exact⟨val D,qH (hB _),fun k g=>a.no g,a.bd⟩
end
theorem aii(a b:Nat):xe b (a % b)=xe a b:=by rw[al8 b,<- Nat.gcd_rec,al8]
theorem aij(a b:Nat):(a:Int).fmod (b:Int)=((a % b:Nat):Int):=by rw[TD _ (KA)];rfl
theorem aik(a b:Nat)(d:Nat)(σ:ah):bF G (d+1) "_law_shared" [.int a,.int b] σ=.ok (.int (xe a b)) σ:=by
 refine dw aeC rfl rfl rfl fun c at_=>?_;refine vY.inv (fun n ρ au=>∃x:Nat,au=σ/\ρ=.eV 3 [some (.int x),some (.int (n:Nat)),none]/\xe x n=xe a b) (fun k ρ σ ⟨x,_,e,_⟩=>e▸pD rfl) ?_ b ⟨.eV 3 [some (.int a),some (.int b),none],rfl,a,rfl,rfl,rfl⟩;rintro n ρ au ⟨x,rfl,rfl,h⟩;refine bI.mk (fun e=>?_) fun e=>?_
 ·have hn:(n:Int)≠0:=fun q=>by rw[q]at e;cases e
  refine v4 hn ?_;refine⟨.eV 3 [some (.int n),some (.int ((x % n:Nat):Int)),none],?_,x % n,Nat.mod_lt _ (Nat.zero_lt_of_ne_zero fun f=>hn (dt Nat.cast f)),n,rfl,rfl,by rw[aii];exact h⟩;rw[<- aij];rfl
 ·have e:(!((n:Int)==0))=false:=e;have hn:n=0:=by
   have:(n:Int)=0:=by
    cases q:((n:Int)==0) with
    |true=>exact dC q
    |false=>rw[q]at e;cases e
   exact akY.mp this
  subst hn;rw[Nat.gcd_zero_right]at h;exact(dP rfl).trans (by rw[h])
theorem ail{a b:Int}(h:b≠0):0<xe a.natAbs b.natAbs:=Nat.gcd_pos_of_pos_right _ (xg h)
theorem RO(a:Int){b:Int}(g:b≠0)(d:Nat)(σ:ah):∃x y:Int,bF G (d+2) "_law_lowest" [.int a,.int b] σ=.ok (.tup [.int x,.int y]) σ:=by
 have f:0<xe a.natAbs b.natAbs:=ail g;refine ou (P:=fun r=>∃x y:Int,r=.ok (.tup [.int x,.int y]) σ) aeD rfl rfl rfl fun c at_=>?_;refine aW at_ (aik a.natAbs b.natAbs d σ) ?_;refine bI.mk (fun e=>?_) fun e=>?_
 ·refine sg (Kz f) (sg (Kz f) ?_);exact⟨_,_,dP rfl⟩
 ·refine sg (Ky f) (sg (Ky f) ?_);exact⟨_,_,dP rfl⟩
theorem aim(cell:Int)(d:Nat)(σ:ah):∃x y:Int,bF G (d+3) "_law_number" [.int cell] σ=.ok (.tup [.int x,.int y]) σ:=by
 refine ou (P:=fun r=>∃x y:Int,r=.ok (.tup [.int x,.int y]) σ) aeE rfl rfl rfl fun c at_=>?_;refine bI.mk (fun e=>?_) fun e=>?_
 ·have b:=f0 (cell.fdiv 246) (n:=5) (by decide);have a:1+(cell.fdiv 246).fmod 5≠0:=(fun e=>aoE (sS b.1 (aoC e)) (by simp +arith));refine hv (RO ((cell.fdiv 6).fmod 41-20) a d σ) fun x y h=>?_;refine aW at_ h ?_;exact⟨x,y,dP rfl⟩
 ·refine bI.mk (fun e=>?_) fun e=>?_
  ·exact⟨_,_,dP rfl⟩
  ·have f:(10:Int)^Dm 9=1000000000:=by decide +kernel
   have g:=f0 (cell.fdiv 6) (n:=1000000000) (by decide);have a:1+(cell.fdiv 6).fmod (10^Dm 9)≠0:=by rw[f];exact fun e=>aoE (sS g.1 (aoC e)) (by simp +arith)
   refine hv (RO ((cell.fdiv (6^Dm 3)*7).fmod (2*10^Dm 9+1)-10^Dm 9) a d σ) fun x y h=>?_;refine jU (v3 rfl) (jU (sf rfl) ?_);refine aW at_ h ?_;exact⟨x,y,dP rfl⟩
theorem aip(σ:ah){m:cg}(h:m.length<=1000000):i8 σ .len [aR m]=some (.v (.int m.length)):=by
 show (if d' (m.map aok).length then some (cL.v (.int ((m.map aok).length:Nat))) else none)=_;rw[a0];exact bl (b9 h)
theorem aiq{k:Str}(h:k≠(⟨#[]⟩:Str))(σ:ah):∃c:Str,eQ σ (.str k) (.int 0)=some (.v (.str c)):=by
 obtain⟨⟨l⟩⟩:=k;cases l with
 |nil=>exact dk rfl h
 |cons x l=>exact⟨_,rfl⟩
section
variable {B:List Str}
theorem air(b2:dT B)(g:Str->Int)(d:Nat)(σ:ah):∃b:Bool,bF G (d+1) "_law_writable" [aR (aA B g)] σ=.ok (.bool b) σ:=by
 refine ou (P:=fun r=>∃b:Bool,r=.ok (.bool b) σ) aeH rfl rfl rfl fun c at_=>?_;refine cm (aip σ (qL (b2.le g))) ?_;refine bI.mk (fun e=>?_) fun e=>?_
 ·exact⟨false,dP rfl⟩
 ·refine dg.nj aok (aA B g) (fun V=>σ) rfl rfl (fun done kv a f=>?_) ?_
  ·refine bK (aiq (b2.ne kv.1 (iT.mp (show kv∈aA B g from f▸ho _ cW)).1) σ) fun eT h=>?_;refine bI.mk (fun e=>?_) fun e=>?_
   ·exact bI.t e ⟨false,dP rfl⟩
   ·refine cj h ?_;refine bI.mk (fun e=>?_) fun e=>?_
    ·exact⟨false,dP rfl⟩
    ·refine mA (S:=fun V=>σ) f ?_;rfl
  ·exact⟨true,dP rfl⟩
def RP(B:List Str)(x:Option (Str->Int)):an2:=match x with
 |none=>.none
 |some m=>aR (aA B m)
theorem ais{g:Str->Int}{b:Int}(h:∀kv∈aA B g,kv.2.fmod b=0)(i:b≠0):(aA B g).map (fun kv=>(kv.1,kv.2.fdiv b))=aA B fun k=>(g k).fdiv b:=by
 have c:∀l:List Str,(∀k∈l,(g k).fmod b=0)->(l.filterMap fun k=>if g k≠0 then some (k,g k) else none).map (fun kv=>(kv.1,kv.2.fdiv b))=l.filterMap fun k=>if (g k).fdiv b≠0 then some (k,(g k).fdiv b) else none:=by
  intro l
  induction l with
  |nil=>exact fun V=>rfl
  |cons x l ih=>
   intro f;have e:=Jd (g x) b;rw[f x cW,aod]at e;have ih:=ih fun k d=>f k (dM _ d);rw[j',j'];by_cases h0:g x=0
   ·have a:¬((g x).fdiv b≠0):=fun q=>q (by rw[h0];exact al9 b);have h0:¬(g x≠0):=fun q=>q h0;rw[b5 h0,b5 a];exact ih
   ·have a:(g x).fdiv b≠0:=fun q=>h0 (by rw[<- e,q,aom]);have h0:g x≠0:=h0;rw[bl h0,bl a];show (x,(g x).fdiv b)::_=_;rw[ih]
 refine c _ fun k d=>?_;by_cases h0:g k=0
 ·rw[h0];exact Int.zero_fmod b
 ·exact h (k,g k) (iT.mpr ⟨(kO _).mem_iff.mp d,rfl,h0⟩)
theorem ait(b2:dT B){g:Str->Int}(p:∀k,k∉B->g k=0){b:Int}(i:b≠0)(d:Nat)(σ:ah):∃r:Option (Str->Int),(∀x,r=some x->∀k,g k=x k*b)/\bF G (d+1) "_law_root" [aR (aA B g),.int b] σ=.ok (RP B r) σ:=by
 have o:=qL (b2.le g);refine ou (P:=fun R=>∃r:Option (Str->Int),(∀x,r=some x->∀k,g k=x k*b)/\R=.ok (RP B r) σ) aeJ rfl rfl rfl fun c at_=>?_;refine dg.const (fun n s=>s=σ/\∀(j:Nat) (x:Str×Int),j<n->(aA B g)[j]?=some x->x.2.fmod b=0) ⟨rfl,fun j x q=>nomatch q⟩ ?_ ?_
 ·rintro n x s a ⟨rfl,f⟩;have a:((aA B g).map aok)[n]?=some x:=a;rw[aob]at a;refine aw (dh.mp a) fun kv t u=>?_;subst u;refine v4 i ?_;refine bI.mk (fun e=>?_) fun e=>?_
  ·exact⟨none,(fun V q=>dS q),dP rfl⟩
  ·have e:(!(kv.2.fmod b==0))=false:=e;refine⟨_,by rfl,rfl,rfl,fun j y h l=>?_⟩;rcases ao8.mp h with q|q
   ·exact f j y q l
   ·subst q;rw[t]at l;cases l;exact dC (by simpa using e)
 ·rintro s ⟨rfl,f⟩;have f:∀kv∈aA B g,kv.2.fmod b=0:=fun kv v=>by
   refine bK (List.mem_iff_getElem?.mp v) fun j h=>?_;exact f j kv (by show j<((aA B g).map aok).length;rw[a0];exact(dN.mp h).1) h
  refine eB.pure aok (fun V=>true) (fun kv=>.tup [.str kv.1,.int (kv.2.fdiv b)]) (aA B g) rfl rfl rfl (fun x a=>?_) ?_ ?_
  ·exact⟨⟨rfl,rfl⟩,fun V=>sg i ⟨rfl,rfl⟩⟩
  ·rw[fP,a0];exact b9 o
  ·rw[fP];refine cm (BR (by rw[a0];exact o)) ?_;have e:an2.tup ((aA B g).map fun kv=>.tup [.str kv.1,.int (kv.2.fdiv b)])=aR (aA B fun k=>(g k).fdiv b):=by
    rw[<- ais f i];unfold aR;rw[hk];rfl
   rw[e];refine⟨some fun k=>(g k).fdiv b,fun x a k=>?_,dP (hB _)⟩;cases a;by_cases h0:g k=0
   ·show g k=(g k).fdiv b*b;rw[h0,al9,g0]
   ·have m:k∈B:=j6 fun q=>h0 (p k q);have e:=Jd (g k) b;rw[f (k,g k) (iT.mpr ⟨m,rfl,h0⟩),aod,rA]at e;exact e.symm
theorem aiu(b2:dT B){f g:Str->Int}(a:∀k,k∉B->f k=0)(b:∀k,k∉B->g k=0)(h:aA B f=aA B g):f=g:=by
 funext k;by_cases q:k∈B
 ·rw[<- oz b2.c7 f q,h,oz b2.c7 g q]
 ·rw[a k q,b k q]
theorem CJ(b2:dT B)(f g:Str->Int){n:Int}(hn:n=1\/n = -1)(d:Nat)(σ:ah):bF G (d+2) "_law_times" [aR (aA B f),aR (aA B g),.int n] σ=.ok (aR (aA B fun k=>f k+g k*n)) σ:=by
 have a:=xB (n:=n) (ms:=aA B g) (lL b2.c7 f);have O:=yW (n:=n) (qM (K:=B) f) (qM (K:=B) g);have m:=yV (b2.le f) (b2.le g);refine dw aeG rfl rfl rfl fun c at_=>?_;refine cm (BS (lL b2.c7 f) (qL (b2.le f))) ?_;refine dg.nj aok (aA B g) (fun done=>(σ++[bb.dict false (an4 (aA B f))]).set σ.length (.dict false (an4 (cZ (aA B f) done n)))) rfl (t8 gQ).symm ?_ ?_
 ·intro done kv e h;refine bt (Gi (n:=n) (σ:=σ++[.dict false (an4 (aA B f))]) (i:=σ.length) gQ m h) fun ay az=>?_;refine kq (Gh ay) ?_;refine aor (Gg ay kv.1) ?_;refine jU (by rcases hn with rfl|rfl<;>exact v3 rfl) ?_;refine gR az ?_;refine mA (S:=fun done=>(σ++[bb.dict false (an4 (aA B f))]).set σ.length (.dict false (an4 (cZ (aA B f) done n)))) h ?_;rfl
 ·have o:kP (cZ (aA B f) (aA B g) n)=aA B fun k=>f k+g k*n:=(t9 b2.c7 a O).trans (pF fun k j=>by rw[yU (lL b2.c7 g),oz b2.c7 f j,oz b2.c7 g j]);have l:=Gf (σ:=σ++[.dict false (an4 (cZ (aA B f) (aA B g) n))]) (i:=σ.length) (b:=false) (D:=cZ (aA B f) (aA B g) n) gQ (ua b2 a O) d;rw[o]at l;rw[qI];refine aW at_ l ?_;exact qH (hB _)
end
inductive cM:Nat->T->Prop
 |c2 {n:Nat} {w:Str}:cM n (.c2 w)
 |b4 {n:Nat}:cM n .b4
 |is {n:Nat} {v:an2} {f:Str->Int}:cM n (.is v f)
 |pow {n:Nat} {a:T} {k:Int}:cM n a->k.natAbs<=4->cM (n+1) (.pow a k)
 |bin {n:Nat} {o:nE} {a b:T}:cM n a->cM n b->cM (n+1) (.bin o a b)
 |less {n:Nat} {a b c d:T}:cM n a->cM n b->cM (n-1) c->cM (n-1) d->cM (n+1) (.less a b c d)
structure CK (o:Nat->Str)(e:(Str->Int)->Str->Int):Prop where
 add:∀f g,e (fun s=>f s+g s)=fun s=>e f s+e g s
 sub:∀f g,e (fun s=>f s-g s)=fun s=>e f s-e g s
 mul:∀f (n:Int),e (fun s=>f s*n)=fun s=>e f s*n
 base:∀f:Str->Int,(∀k,k∉bC o->f k=0)->e f=f
def wM(e:(Str->Int)->Str->Int)(k:Nat)(gs:List (Str->Int)):Prop:=∀i g,gs[i]?=some g->e (un (f3 (k+i)))=g
def Sv(o aP:Nat->Str)(c:Nat->Str->Int)(goal:Str->Int)(t:T)(gs:List (Str->Int)):Prop:=
 ∀e W k,CK o e->(∀i<5,W (aP i)->e (un (le (aP i)))=c i)->t.ok W (bC o)->wM e k gs->e (t.f k)=goal/\∀r∈t.r k,e r=fun V=>0
structure c9 (o aP:Nat->Str)(c:Nat->Str->Int)(b:Nat)(goal:Str->Int)(t:T)(gs:List (Str->Int)):Prop where
 ok:t.ok (fun w=>∃i,i<5/\aP i=w) (bC o)
 nn:gs.length=t.nn
 dB:∀g∈gs,∀k,k∉bC o->g k=0
 kz:∀g∈gs,∀k,(g k).natAbs<=b
 sv:Sv o aP c goal t gs
theorem wM.app{e:(Str->Int)->Str->Int}{m:Nat}{x y:List (Str->Int)}(a:x.length=m)(h:wM e k (x++y)):wM e k x/\wM e (k+m) y:=by
 refine⟨fun i g hi=>h i g ?_,fun i g hi=>?_⟩
 ·rw[mS (dN.mp hi).1];exact hi
 ·rw[eK];refine h (m+i) g ?_;rw[nP (by rw[a];exact bO _ _),a,l0];exact hi
section
variable {o aP:Nat->Str}{c:Nat->Str->Int}{b:Nat}{g aB cc:Str->Int}{t s t3 gj:T}{x y z w:List (Str->Int)}
theorem c9.more{b':Nat}(h:c9 o aP c b g t x)(a:b<=b'):c9 o aP c b' g t x:=⟨h.ok,h.nn,h.dB,fun g d k=>ax (h.kz g d k) a,h.sv⟩
theorem c9.wN(a:c9 o aP c b aB t x)(O:c9 o aP c b cc s y):(∀g∈x++y,∀k,k∉bC o->g k=0)/\∀g∈x++y,∀k,(g k).natAbs<=b:=
 ⟨fun g d=>(eM.mp d).elim (a.dB g) (O.dB g),fun g d=>(eM.mp d).elim (a.kz g) (O.kz g)⟩
theorem c9.c2{i:Nat}(hi:i<5)(h:c i=g):c9 o aP c b g (.c2 (aP i)) []:=
 ⟨⟨i,hi,rfl⟩,rfl,(fun g a=>eO a),(fun g a=>eO a),fun e W k j aF d a=>⟨(aF i hi d).trans h,fun r f=>eO f⟩⟩
theorem c9.is{n:an2}(hn:eF n=true)(a:∀k,k∉bC o->g k=0):c9 o aP c b g (.is n g) []:=
 ⟨⟨hn,a⟩,rfl,(fun g a=>eO a),(fun g a=>eO a),fun e W k d aF i h=>⟨d.base g a,fun r f=>eO f⟩⟩
theorem c9.b4(a:∀k,k∉bC o->g k=0)(d:∀k,(g k).natAbs<=b):c9 o aP c b g .b4 [g]:=
 ⟨trivial,rfl,fun g' h=>c3.mp h▸a,fun g' h=>c3.mp h▸d,fun e W k i aF j h=>⟨h 0 g rfl,fun r f=>eO f⟩⟩
theorem c9.pow{n:Int}(h:c9 o aP c b aB t x)(hn:n.natAbs<=4)(i:∀k,g k=aB k*n):c9 o aP c b g (.pow t n) x:=
 ⟨⟨h.ok,hn⟩,h.nn,h.dB,h.kz,fun e W k d aF j l=>by
  refine bt (h.sv e W k d aF j.1 l) fun a O=>?_;refine⟨?_,O⟩;show e (fun s=>t.f k s*n)=g;rw[d.mul,a];exact funext fun k=>(i k).symm⟩
variable {op:nE}
theorem c9.bin(a:c9 o aP c b aB t x)(O:c9 o aP c b cc s y)(i:∀e k,CK o e->e (t.f k)=aB->e (s.f (k+t.nn))=cc->e ((T.bin op t s).f k)=g/\∀r∈(T.bin op t s).r k,r∈t.r k++s.r (k+t.nn)\/e r=fun V=>0):c9 o aP c b g (.bin op t s) (x++y):=
 ⟨⟨a.ok,O.ok⟩,by rw[bW,a.nn,O.nn];rfl,(a.wN O).1,(a.wN O).2,fun e W k d aF h j=>by
  refine bt (j.app a.nn) fun s1 l=>?_;refine bt (a.sv e W k d aF h.1 s1) fun m n=>?_;refine bt (O.sv e W _ d aF h.2 l) fun p u=>?_;refine bt (i e k d m p) fun ay az=>?_;refine⟨ay,fun r v=>(az r v).elim (fun q=>?_) id⟩;exact(eM.mp q).elim (n r) (u r)⟩
theorem HN{e:(Str->Int)->Str->Int}(b:CK o e){f f':Str->Int}(a:e f=g)(O:e f'=g):e (cT f f')=fun V=>0:=by
 show e (fun s=>f s-f' s)=_;rw[b.sub,a,O];exact funext fun k=>TP _
theorem c9.sum(f:op=.plus\/op=.minus)(a:c9 o aP c b g t x)(O:c9 o aP c b g s y):c9 o aP c b g (.bin op t s) (x++y):=by
 refine a.bin O fun e k h d i=>?_;rcases f with rfl|rfl<;>exact⟨d,fun r j=>(eM.mp j).elim .inl fun q=>.inr (c3.mp q▸HN h d i)⟩
theorem c9.aiw(a:c9 o aP c b aB t x)(O:c9 o aP c b cc s y)(h:∀k,g k=aB k+cc k):c9 o aP c b g (.bin (.times ()) t s) (x++y):=
 a.bin O fun e k i j l=>⟨by show e (fun d=>t.f k d+s.f (k+t.nn) d)=g;rw[i.add,j,l];exact funext fun k=>(h k).symm,fun r m=>.inl m⟩
theorem c9.zy(a:c9 o aP c b aB t x)(O:c9 o aP c b cc s y)(h:∀k,g k=aB k-cc k):c9 o aP c b g (.bin .over t s) (x++y):=
 a.bin O fun e k i j l=>⟨by show e (fun d=>t.f k d-s.f (k+t.nn) d)=g;rw[i.sub,j,l];exact funext fun k=>(h k).symm,fun r m=>.inl m⟩
theorem c9.less(a:c9 o aP c b aB t x)(O:c9 o aP c b aB s y)(d:c9 o aP c b g t3 z)(i:c9 o aP c b g gj w):c9 o aP c b g (.less t s t3 gj) (x++y++z++w):=by
 have p:∀g'∈x++y++z++w,g'∈x++y\/g'∈z++w:=fun g' f=>by rw[ek]at f;exact eM.mp f
 refine⟨⟨a.ok,O.ok,d.ok,i.ok⟩,?_,fun g' f=>(p g' f).elim ((a.wN O).1 g') ((d.wN i).1 g'),fun g' f=>(p g' f).elim ((a.wN O).2 g') ((d.wN i).2 g'),fun e W k h aF j A=>?_⟩
 ·rw[bW,bW,bW,a.nn,O.nn,d.nn,i.nn];show _=t.nn+s.nn+(t3.nn+gj.nn);exact eK (_+_) _ _
 ·refine bt (A.app (m:=t.nn+s.nn+t3.nn) (by rw[bW,bW,a.nn,O.nn,d.nn])) fun l q=>?_;refine bt (l.app (m:=t.nn+s.nn) (by rw[bW,a.nn,O.nn])) fun n u=>?_;refine bt (n.app a.nn) fun s1 B=>?_;rw[<- eK,<- eK]at q;rw[<- eK]at u;refine bt (a.sv e W k h aF j.1 s1) fun C D=>?_;refine bt (O.sv e W _ h aF j.2.1 B) fun E F=>?_;refine bt (d.sv e W _ h aF j.2.2.1 u) fun v G=>?_;refine bt (i.sv e W _ h aF j.2.2.2 q) fun H I=>?_;refine⟨v,fun r hr=>?_⟩;rcases eM.mp hr with hr|hr
  ·rcases eM.mp hr with hr|hr
   ·rcases eM.mp hr with hr|hr
    ·rcases eM.mp hr with hr|hr
     ·exact(eM.mp hr).elim (D r) (F r)
     ·exact G r hr
    ·exact I r hr
   ·rw[c3.mp hr];exact HN h C E
  ·rw[c3.mp hr];exact HN h v H
end
structure nH (σ:ah)(a:Nat)(o aP:Nat->Str)(c:Nat->Str->Int):Prop where
 d:∃b,σ[a]?=some (.dict b (ba 5 aP fun i=>aR (aA (bC o) (c i))))
 wi:∀i j,i<j->j<5->aP i≠aP j
 c0:∀i<5,∀k,k∉bC o->c i k=0
 kr:∀i<5,∀k,(c i k).natAbs<=20
def rk(aP:Nat->Str):List Str:=hy ((bf 5).map aP)
theorem HO{k:Str}:k∈rk aP↔∃i<5,aP i=k:=(kO _).mem_iff.trans aoo
theorem zz(aP:Nat->Str):(rk aP).length=5:=by unfold rk;rw[(kO _).length_eq,a0,an5]
section
variable {σ:ah}{a:Nat}{o aP:Nat->Str}{c:Nat->Str->Int}
theorem nH.get(h:nH σ a o aP c){i:Nat}(hi:i<5):eQ σ (.ref a) (.str (aP i))=some (.v (aR (aA (bC o) (c i)))):=by
 refine bK h.d fun b e=>?_;exact BO e (zv h.wi _ hi)
theorem nH.sorted(h:nH σ a o aP c):i8 σ .sorted [.ref a]=some (.f (.list ((rk aP).map .str))):=by
 refine bK h.d fun b e=>?_;have:=Gb e (by rw[sy,a0,an5];decide);rw[sy]at this;exact this
theorem nH.len(h:nH σ a o aP c):i8 σ .len [.ref a]=some (.v (.int 5)):=by
 refine bK h.d fun b e=>?_;show (AB (cR σ (.ref a))).bind _=_;rw[si e];show (if d' (ba 5 aP fun i=>aR (aA (bC o) (c i))).length then some (cL.v (.int ((ba 5 aP fun i=>aR (aA (bC o) (c i))).length:Nat))) else none)=_;rw[lN];rfl
theorem RQ(σ:ah){l:List Str}(h:1<=l.length)(O:l.length<=1000)(x:Int):∃w,w∈l/\eQ σ (.lst (l.map .str)) (.int (x.fmod ((l.map an2.str).length:Int)))=some (.v (.str w)):=by
 refine aw (BN x (n:=l.length) h) fun k a e=>?_;refine⟨l[k],xd a,?_⟩;rw[a0,e];exact qk σ _ k _ (fr (aG O a) (by simp +arith)) (by simp[a])
def lq(o:Nat->Str)(t:T)(gs:List (Str->Int)):an2:=.tup [bT (bC o) t,.lst (gs.map (gT (bC o)))]
variable {W:Str->Prop}{t:T}
theorem lS(h:t.ok W (bC o))(gs:List (Str->Int)):eF (lq o t gs)=true:=by
 show (eF (bT (bC o) t)&&(kh (gs.map (gT (bC o)))&&true))=true;rw[Hx t h,rQ.mpr fun v a=>by obtain⟨g,V,rfl⟩:=dQ.mp a;exact hB _];rfl
theorem aiz{op:nE}{s:T}(ht:t.ok W (bC o))(a:s.ok W (bC o)){x y:List (Str->Int)}(b:x.length+y.length<=1000000)(d:Nat)(σ:ah):bF G (d+1) "_law_two" [.str op.word,lq o t x,lq o s y] σ=.ok (lq o (.bin op t s) (x++y)) σ:=by
 refine dw aeK rfl rfl rfl fun c at_=>?_;refine eh (oM _ _ _ (by rw[a0,a0];exact b)) ?_;rw[<- hS];exact dP (lS (t:=.bin op t s) ⟨ht,a⟩ (x++y))
def HP(σ:ah)(a:Nat)(o aP:Nat->Str)(c:Nat->Str->Int)(g:Str->Int)(b:Nat):Prop:=∀(b2:dT (bC o)) (h:nH σ a o aP c) (cell:Int) (aV:∀k,k∉bC o->g k=0) (ab:∀k,(g k).natAbs<=b) (d:Nat),∃t gs,(cM 0 t/\c9 o aP c b g t gs)/\bF G (d+4) "_law_fit_leaf" [.int cell,aR (aA (bC o) g),.ref a] σ=.ok (lq o t gs) σ
def RS(k:ah×Nat×(Nat->Str)×(Nat->Str)×(Nat->Str->Int)×(Str->Int)×Nat):Prop:=HP k.1 k.2.1 k.2.2.1 k.2.2.2.1 k.2.2.2.2.1 (en k).2.1 (en k).2.2
def uA:=ch RS
def pW:=uA.1
def aiA:=uA.2.1
def lT:=uA.2.2.1
def mI:=uA.2.2.2.1
def pX:=uA.2.2.2.2.1
def lU:=(en uA).2.1
def HQ:=(en uA).2.2
theorem aiB:HP pW aiA lT mI pX lU HQ:=by
 intro b2 h cell l s d;refine ou (P:=fun r=>∃t gs,(cM 0 t/\c9 lT mI pX HQ lU t gs)/\r=.ok (lq lT t gs) pW) aeI rfl rfl rfl fun A at_=>?_;refine cm h.sorted ?_;refine eB.pure .str (fun k=>decide (aA (bC lT) (bL 5 mI pX k)=aA (bC lT) lU)) .str (rk mI) rfl rfl rfl (fun k u=>?_) ?_ ?_
 ·refine a3 fun b=>?_;refine aw (HO.mp u) fun i hi j=>?_;subst j;refine b ?_;clear b;rw[rh h.wi pX hi];exact⟨cj (h.get hi) (yN (RA pW _ _) ⟨rfl,rfl⟩),fun V=>⟨rfl,rfl⟩⟩
 ·rw[a0];exact b9 (ax (z7 ..) (by rw[zz];decide))
 ·have m:∀w∈(rk mI).filter (fun k=>decide (aA (bC lT) (bL 5 mI pX k)=aA (bC lT) lU)),∃i<5,mI i=w/\pX i=lU:=fun w aF=>by
   refine bt (Tz.mp aF) fun a O=>?_;refine aw (HO.mp a) fun i hi j=>?_;subst j;refine⟨i,hi,rfl,?_⟩;have O:=ct O;rw[rh h.wi pX hi]at O;exact aiu b2 (h.c0 i hi) l O
  have c:((rk mI).filter (fun k=>decide (aA (bC lT) (bL 5 mI pX k)=aA (bC lT) lU))).length<=1000:=ax (z7 ..) (by rw[zz];decide);generalize (rk mI).filter (fun k=>decide (aA (bC lT) (bL 5 mI pX k)=aA (bC lT) lU))=same at *
  have p:(same.map an2.str).length<=1000000:=by rw[a0];exact uV c
  refine a3 fun b=>?_;refine hv (aim (nk cell 9) d pW) fun x y hn=>?_;refine bK (air b2 lU (d+2) pW) fun v n=>?_;refine b ?_;clear b;have o:∃t gs,(cM 0 t/\c9 lT mI pX HQ lU t gs)/\left false pW (.ok (.ret (.tup [.tup [.str "nought"],.lst [aR (aA (bC lT) lU)]]),([]:List an2)) pW)=.ok (lq lT t gs) pW:=
   ⟨.b4,[lU],⟨.b4,.b4 l s⟩,dP (lS (W:=fun V=>True) (t:=.b4) trivial [lU])⟩
  refine cm (u7 _ _ p) ?_;refine bI.mk (fun e=>?_) fun e=>?_
  ·refine bI.mk (fun g=>?_) fun g=>?_
   ·have a:1<=same.length:=by have:=ct e;rw[a0]at this;exact lw.mp this
    refine a3 fun b=>?_;refine aw (RQ pW a c (cell.fdiv 4)) fun w aF hi=>?_;refine fS (m w aF) fun i z j ae=>?_;subst j;refine b ?_;clear b;refine cm (u7 _ _ p) (v4 (by rw[a0];exact SJ.mpr a) (cj hi ?_));exact⟨.c2 (mI i),[],⟨.c2,.c2 z ae⟩,dP rfl⟩
   ·have g:decide (cell.fmod 4<3)=false:=g;have q:¬cell.fmod 4<2:=by have:=of_decide_eq_false g;exact fun e=>aoE (sS (hR.mp this) e) (by simp +arith)
    refine bI.f (d8 q) ?_;refine bI.f (d8 q) ?_;exact o
  ·refine bI.f e ?_;refine bI.mk (fun g=>?_) fun g=>?_
   ·refine aW at_ n ?_;cases v with
    |true=>
     refine aW at_ (F' cell 9 (d+2) pW) ?_;refine aW at_ hn ?_;exact⟨.is (.tup [.int x,.int y]) lU,[],⟨.is,.is rfl l⟩,dP (lS (W:=fun V=>True) (t:=.is (.tup [.int x,.int y]) lU) ⟨rfl,l⟩ [])⟩
    |false=>exact o
   ·refine bI.f g ?_;exact o
theorem RT{σ a o aP c g b}:HP σ a o aP c g b:=tb (P:=RS) aiB (σ,a,o,aP,c,g,b)
end
theorem aiE(x:Int):∃k:Int,k≠0/\k.natAbs<=4/\∀σ,eQ σ (.lst [.int 2,.int 3,.int (-1),.int (-2),.int 4,.int (-3)]) (.int (x.fmod 6))=some (.v (.int k)):=by
 have:=f0 x (n:=6) (by decide);have h:x.fmod 6=0\/x.fmod 6=1\/x.fmod 6=2\/x.fmod 6=3\/x.fmod 6=4\/x.fmod 6=5:=by exact UI this
 rcases h with h|h|h|h|h|h<;>rw[h]
 ·exact⟨2,by decide,by decide,fun V=>rfl⟩
 ·exact⟨3,by decide,by decide,fun V=>rfl⟩
 ·exact⟨-1,by decide,by decide,fun V=>rfl⟩
 ·exact⟨-2,by decide,by decide,fun V=>rfl⟩
 ·exact⟨4,by decide,by decide,fun V=>rfl⟩
 ·exact⟨-3,by decide,by decide,fun V=>rfl⟩
theorem cM.nn{n:Nat}(h:cM n t):t.nn<=4^n:=by
 induction h with
 |c2=>exact d4 _
 |b4=>exact kI (by decide)
 |is=>exact d4 _
 |pow h k ih=>rw[nQ];show a.nn<=_;exact DC ih
 |bin e O f g=>rw[nQ];show a.nn+b.nn<=_;exact DB f g
 |@less n0 a b c d e O ag av f g i j=>
  have:4^(n0-1)<=4^n0:=hV (by decide) (kH _ _);rw[nQ];show a.nn+b.nn+(c.nn+d.nn)<=_;exact UH f g i j this
section
variable {σ:ah}{a:Nat}{o aP:Nat->Str}{c:Nat->Str->Int}
abbrev HS(o aP:Nat->Str)(c:Nat->Str->Int)(n b:Nat)(g:Str->Int)(σ:ah)(R:be an2):Prop:=∃t gs,(cM n t/\c9 o aP c b g t gs)/\R=.ok (lq o t gs) σ
abbrev wO(σ:ah)(a:Nat)(o aP:Nat->Str)(c:Nat->Str->Int)(n:Nat):Prop:=∀(cell D lP:Int) (g:Str->Int) (b d:Nat),D<=n->(∀k,k∉bC o->g k=0)->(∀k,(g k).natAbs<=b)->HS o aP c n (b+20*n) g σ (bF G (d+n+5) "_law_fit" [.int cell,.int D,aR (aA (bC o) g),.ref a,.int lP] σ)
theorem cM.up{n:Nat}{t:T}(h:cM 0 t):cM n t:=by
 cases h with
 |c2=>exact .c2
 |b4=>exact .b4
 |is=>exact .is
def HT(σ:ah)(a:Nat)(o aP:Nat->Str)(c:Nat->Str->Int)(n:Nat):Prop:=∀(b2:dT (bC o)) (h:nH σ a o aP c) (hn:n+1<=2) (i1:wO σ a o aP c n) (i2:wO σ a o aP c (n-1)),wO σ a o aP c (n+1)
def RU(k:ah×Nat×(Nat->Str)×(Nat->Str)×(Nat->Str->Int)×Nat):Prop:=HT k.1 k.2.1 k.2.2.1 k.2.2.2.1 k.2.2.2.2.1 (en k).2
def wP:=ch RU
def iX:=wP.1
def aiF:=wP.2.1
def mJ:=wP.2.2.1
def sN:=wP.2.2.2.1
def lr:=wP.2.2.2.2.1
def fI:=(en wP).2
theorem aiG:HT iX aiF mJ sN lr fI:=by
 intro b2 h hn C i2;intro cell D p g b d u w A;have E:∀{t:T} {gs:List (Str->Int)} {g':Str->Int} {b' m:Nat},m<=2->cM m t->c9 mJ sN lr b' g' t gs->gs.length<=16:=fun Q ay az=>by
  rw[az.nn];exact ax ay.nn (ax (hV (by decide) Q) (by decide))
 have F:fI<=2:=(rq hn);refine a3 fun a=>?_;obtain⟨uB,R,⟨pE,J⟩,l2⟩:=RT b2 h (cell.fdiv 8) w A (d+(fI+1));refine aw (RQ iX (l:=rk sN) (by rw[zz];decide) (by rw[zz];decide) (cell.fdiv 8)) fun kk vR hi=>?_;rw[a0,zz]at hi;refine aw (HO.mp vR) fun i zA aJ=>?_;subst aJ;have S:=h.c0 i zA;have U:=h.kr i zA;have HU:=h.get zA;obtain⟨RV,uY,⟨o,c⟩,a2⟩:=C (nk cell 1) (D-1) p (lr i) 20 d (ta u) S U;obtain⟨to,gO,⟨B,j⟩,tx⟩:=C (nk cell 2) (D-1) p (fun k=>g k+lr i k*1) (b+20) d (ta u) (fun k H=>by rw[w k H,S k H];rfl) (fun k=>by have:=A k;have:=U k;exact by rw[oU];exact ax (z' _ _) (aG (by assumption) this));refine a ?_;clear a;have J:=J.more (b':=b+20*(fI+1)) (bO _ (20*(_+1)));have c:=c.more (b':=b+20*(fI+1)) (KI);have j:=j.more (b':=b+20*(fI+1)) (KC);have gK:=fun k=>F' cell k (d+fI+4) iX;have zy:HS mJ sN lr (fI+1) (b+20*(fI+1)) g iX (.ok (lq mJ (.bin .over to RV) (gO++uY)) iX):=⟨_,_,⟨.bin B o,j.zy c fun k=>(An)⟩,rfl⟩;have lO:=E F B j;have HV:=E F o c;have two:∀{op:nE} {t s:T} {x y:List (Str->Int)} {aB cc:Str->Int} {b':Nat},cM fI t->c9 mJ sN lr b' aB t x->cM fI s->c9 mJ sN lr b' cc s y->bF G (d+fI+5) "_law_two" [.str op.word,lq mJ t x,lq mJ s y] iX=.ok (lq mJ (.bin op t s) (x++y)) iX:=fun {op t s x y aB cc b'} ay az bA L=>aiz az.ok L.ok (by have:=E F ay az;have:=E F bA L;exact KD (by assumption) this) (d+fI+4) iX;have an:∀{t:T} {x:List (Str->Int)} {aB:Str->Int} {b':Nat},c9 mJ sN lr b' aB t x->left false iX (.ok (.ret (lq mJ t x),([]:List an2)) iX)=.ok (lq mJ t x) iX:=fun q=>dP (lS q.ok _);refine ou (P:=HS mJ sN lr (fI+1) (b+20*(fI+1)) g iX) Pu rfl rfl rfl fun gi at_=>?_;refine bI.mk (fun e=>?_) fun bN=>?_
 ·refine bI.t e ?_;exact aW at_ l2 ⟨uB,R,⟨pE.up,J⟩,dP (lS J.ok R)⟩
 refine bI.mk (fun e=>?_) fun M=>?_
 ·exact aW at_ l2 ⟨uB,R,⟨pE.up,J⟩,dP (lS J.ok R)⟩
 have iB:=f0 cell (n:=8) (by decide);have M:(cell.fmod 8==0)=false:=M;have M:=beq_eq_false_iff_ne.mp M;refine bI.mk (fun HW=>?_) fun HW=>?_
 ·have K:cell.fmod 8=7:=dC (show (cell.fmod 8==7)=true from HW);refine bI.mk (fun ep=>?_) fun ep=>?_
  ·refine a3 fun a=>?_;refine fS (aiE (cell.fdiv 8)) fun k k1 df H=>?_;refine aw (ait b2 w k1 (d+fI+4) iX) fun r hr dv=>?_;refine a ?_;clear a;refine cj (H iX) ?_;refine aW at_ dv ?_;cases r with
   |some m=>
    have Q:=hr m rfl;have By:∀s,(m s).natAbs<=(g s).natAbs:=fun s=>by rw[Q s,qb];exact o1 _ (xg k1)
    refine a3 fun a=>?_;obtain⟨tp,gp,⟨N1,V⟩,p2⟩:=C (nk cell 1) (D-1) (p-1) m b d (ta u) (fun s hs=>by have:=By s;rw[w s hs]at this;exact Je.mp (TM.mp this)) (fun s=>ax (By s) (A s));refine a ?_;clear a;refine aW at_ (gK 1) ?_;refine aW at_ p2 ?_;have V:=(V.more (b':=b+20*(fI+1)) (DA)).pow df Q;exact⟨_,_,⟨.pow N1 df,V⟩,dP (lS V.ok gp)⟩
   |none=>
    refine cm h.sorted ?_;refine cm h.len ?_;refine cj hi ?_;refine cj HU ?_;refine bI.f (d8 (show ¬cell.fmod 8<3 by exact KL K)) ?_;refine aW at_ (gK 1) (aW at_ a2 ?_);refine bI.f (show (cell.fmod 8==3)=false by rw[K];rfl) ?_;refine bI.f (show ((cell.fmod 8).fmod 2==0)=false by rw[K];rfl) ?_;refine aW at_ (gK 2) ?_;refine aW at_ (CJ b2 g (lr i) (.inl rfl) (d+fI+3) iX) ?_;refine aW at_ tx ?_;refine aW at_ (two (op:=.over) B j o c) ?_;exact⟨_,_,⟨.bin B o,j.zy c fun k=>(An)⟩,dP (lS (t:=.bin .over _ _) ⟨j.ok,c.ok⟩ _)⟩
  ·refine cm h.sorted ?_;refine cm h.len ?_;refine cj hi ?_;refine cj HU ?_;refine bI.f (d8 (show ¬cell.fmod 8<3 by exact KL K)) ?_;refine aW at_ (gK 1) (aW at_ a2 ?_);refine bI.f (show (cell.fmod 8==3)=false by rw[K];rfl) ?_;refine bI.f (show ((cell.fmod 8).fmod 2==0)=false by rw[K];rfl) ?_;refine aW at_ (gK 2) ?_;refine aW at_ (CJ b2 g (lr i) (.inl rfl) (d+fI+3) iX) ?_;refine aW at_ tx ?_;refine aW at_ (two (op:=.over) B j o c) ?_;exact⟨_,_,⟨.bin B o,j.zy c fun k=>(An)⟩,dP (lS (t:=.bin .over _ _) ⟨j.ok,c.ok⟩ _)⟩
 ·refine bI.f HW ?_;refine cm h.sorted ?_;refine cm h.len ?_;refine cj hi ?_;refine cj HU ?_;refine a3 fun a=>?_;obtain⟨bQ,k2,⟨dB,aB⟩,cc⟩:=C (nk cell 1) (D-1) p g b d (ta u) w A;obtain⟨sr,gh,⟨h0,I⟩,O⟩:=C (nk cell 2) (D-1) p g b d (ta u) w A;refine a ?_;clear a;refine bI.mk (fun W=>?_) fun W=>?_
  ·have W:=ct (show decide (cell.fmod 8<3)=true from W);obtain⟨op,nz,al⟩:∃op:nE,(op=.plus\/op=.minus)/\eQ iX (.lst [.str "plus",.str "minus"]) (.int (cell.fmod 8-1))=some (.v (.str op.word)):=by
    have aF:cell.fmod 8=1\/cell.fmod 8=2:=((Um ⟨iB.1,W⟩).elim (fun e=>dk e M) id);rcases aF with q|q<;>rw[q]
    ·exact⟨.plus,.inl rfl,rfl⟩
    ·exact⟨.minus,.inr rfl,rfl⟩
   refine aW at_ (gK 1) (aW at_ cc ?_);refine aW at_ (gK 2) (aW at_ O ?_);refine cj al ?_;refine aW at_ (two (op:=op) dB aB h0 I) ?_;exact⟨_,_,⟨.bin dB h0,.sum nz (aB.more (DA)) (I.more (DA))⟩,dP (lS (t:=.bin op _ _) ⟨aB.ok,I.ok⟩ _)⟩
  ·refine aW at_ (gK 1) (aW at_ a2 ?_);refine bI.mk (fun dX=>?_) fun dX=>?_
   ·obtain⟨X,vm⟩:∃X,X+(fI-1)+5=d+fI+5:=⟨d+(fI-(fI-1)),by exact UG⟩;refine a3 fun a=>?_;obtain⟨jn,kz,⟨zB,Y⟩,bR⟩:=C (nk cell 2) (D-1) p (lr i) 20 d (ta u) S U;obtain⟨FQ,gx,⟨x0,z⟩,eH⟩:=i2 (nk cell 3) (D-2) p g b X (KJ u) w A;obtain⟨ty,Oh,⟨RW,Z⟩,BA⟩:=i2 (nk cell 4) (D-2) p g b X (KJ u) w A;refine a ?_;clear a;rw[vm]at eH BA;have Y:=Y.more (b':=b+20*(fI+1)) (KI);have z:=z.more (b':=b+20*(fI+1)) (KH);have Z:=Z.more (b':=b+20*(fI+1)) (KH);have dE:=E F zB Y;have vW:=E (KG F) x0 z;have n4:=E (KG F) RW Z;refine aW at_ (gK 2) (aW at_ bR ?_);refine aW at_ (gK 3) (aW at_ eH ?_);refine aW at_ (gK 4) (aW at_ BA ?_);refine eh (oM _ _ _ (by rw[a0,a0];exact KD HV dE)) ?_;refine eh (oM _ _ _ (by rw[bW,a0,a0,a0];exact fr (aG (aG HV dE) vW) (by simp +arith))) ?_;refine eh (oM _ _ _ (by rw[bW,bW,a0,a0,a0,a0];exact fr (aG (aG (aG HV dE) vW) n4) (by simp +arith))) ?_;rw[<- hS,<- hS,<- hS];have af:=c.less Y z Z;exact⟨.less RV jn FQ ty,_,⟨.less o zB x0 RW,af⟩,dP (lS af.ok _)⟩
   ·refine bI.mk (fun jP=>?_) fun jP=>?_
    ·refine a3 fun a=>?_;obtain⟨tt,gt,⟨t0,N⟩,e6⟩:=C (nk cell 2) (D-1) p (fun k=>g k+lr i k * -1) (b+20) d (ta u) (fun k H=>by rw[w k H,S k H];rfl) (fun k=>by have:=A k;have:=U k;exact ax (z' _ _) (aG (by assumption) (by rw[qb];exact ax (bx (alM _)) this)));refine a ?_;clear a;have N:=N.more (b':=b+20*(fI+1)) (KC);refine aW at_ (gK 2) ?_;refine aW at_ (CJ b2 g (lr i) (.inr rfl) (d+fI+3) iX) ?_;refine aW at_ e6 ?_;refine aW at_ (two (op:=.times ()) o c t0 N) ?_;exact⟨_,_,⟨.bin o t0,c.aiw N fun k=>(by simp +arith)⟩,dP (lS (t:=.bin (.times ()) _ _) ⟨c.ok,N.ok⟩ _)⟩
    ·refine aW at_ (gK 2) ?_;refine aW at_ (CJ b2 g (lr i) (.inl rfl) (d+fI+3) iX) ?_;refine aW at_ tx ?_;refine aW at_ (two (op:=.over) B j o c) ?_;exact⟨_,_,⟨.bin B o,j.zy c fun k=>(An)⟩,dP (lS (t:=.bin .over _ _) ⟨j.ok,c.ok⟩ _)⟩
theorem RX{σ a o aP c n}:HT σ a o aP c n:=tb (P:=RU) aiG (σ,a,o,aP,c,n)
theorem aiK(b2:dT (bC o))(h:nH σ a o aP c):wO σ a o aP c 1/\wO σ a o aP c 2:=by
 have i:wO σ a o aP c 0:=by
  intro cell D p g b d f l m;refine a3 fun j=>?_;refine bZ (RT b2 h (cell.fdiv 8) l m d) fun t gs e O=>?_;refine j ?_;clear j;have f:D<1:=by have:D<=(0:Nat):=f;exact Int.lt_of_le_sub_one this
  refine⟨t,gs,⟨e.1,e.2.more (bO _ _)⟩,dw Pu rfl rfl rfl fun c at_=>?_⟩;refine bI.t (b9 f) (bI.t (b9 f) ?_);exact aW at_ O (dP (lS e.2.ok gs))
 have k:=RX b2 h (n:=0) (by decide) i i;exact⟨k,RX b2 h (n:=1) (by decide) k i⟩
end
inductive jr:T->Prop
 |b4:jr .b4
 |plus {a b:T}:jr a->jr b->jr (.bin .plus a b)
noncomputable def lV(x:List T):List T:=match x with
 |a::b::l=>.bin .plus a b::lV l
 | [a]=>[a]
 | []=>[]
theorem HX{motive:List T->Prop}(case3:motive [])(case2:∀a,motive [a])(case1:∀a b l,motive l->motive (a::b::l))(l:List T):motive l:=
 (show motive l/\∀a,motive (a::l) from l.rec ⟨case3,case2⟩ fun b l ih=>⟨ih.2 b,fun a=>case1 a b l ih.1⟩).1
noncomputable def oP(l:List T):List T:=(bf (l.length / 2)).map fun k=>T.bin .plus (l.getD (2*k) .b4) (l.getD (2*k+1) .b4)
theorem aiL:∀l:List T,oP l++l.drop (2*(oP l).length)=lV l:=by
 have c:∀l:List T,(oP l).length=l.length / 2:=fun l=>by unfold oP;rw[a0,an5]
 intro l
 induction l using HX with
 |case1 a b l ih=>
  rw[c]at ih ⊢;have e:(a::b::l).length / 2=l.length / 2+1:=by simp only[aoc];exact alT _ (z:=2) (by decide)
  rw[e,show 2*(l.length / 2+1)=2*(l.length / 2)+1+1 by exact gW (Nat.succ_add (2*(_ / 2)) 1),ama,ama];show _=T.bin .plus a b::lV l;rw[<- ih];unfold oP;rw[e,IG,gu,hk];rfl
 |case2 a=>show oP [a]++_=[a];simp[oP]
 |case3=>rfl
theorem aiM:∀l:List T,2<=l.length->(lV l).length<l.length/\1<=(lV l).length:=by
 have c:∀l:List T,(lV l).length<=l.length:=by
  intro l
  induction l using HX with
  |case1 a b l ih=>show (lV l).length+1<=l.length+1+1;exact fr ih (by simp +arith)
  |case2 a=>exact cu _
  |case3=>exact cu _
 intro l h
 match l,h with
 |a::b::l,h=>have:=c l;exact⟨by show (lV l).length+1<l.length+1+1;exact(fr this (by simp +arith)),pZ _ _⟩
 | [a],h=>exact dk h (by simp)
 | [],h=>exact dk h (by simp)
theorem aiN:∀l:List T,(∀t∈l,jr t)->(∀t∈lV l,jr t)/\gU (lV l)=gU l:=by
 intro l
 induction l using HX with
 |case1 a b l ih=>
  intro h;refine bt (ih fun t ht=>h t (dM _ (dM _ ht))) fun c O=>?_;refine⟨fun t ht=>?_,?_⟩
  ·rcases dG.mp ht with rfl|ht
   ·exact .plus (h a cW) (h b (dM _ cW))
   ·exact c t ht
  ·show a.nn+b.nn+gU (lV l)=a.nn+(b.nn+gU l);exact sQ (fr (bx O) (by simp +arith)) (fr (bx O.symm) (by simp +arith))
 |case2 a=>exact fun h=>⟨h,rfl⟩
 |case3=>exact fun h=>⟨h,rfl⟩
theorem jr.ok(h:jr t):t.ok W B:=by
 induction h with
 |b4=>exact trivial
 |plus a O b c=>exact⟨b,c⟩
theorem jr.sz(h:jr t):t.ht<=t.nn/\t.all.length+1=2*t.nn/\1<=t.nn:=by
 induction h with
 |b4=>exact⟨cu _,rfl,cu _⟩
 |plus c O b a=>refine⟨?_,?_,?_⟩<;>simp only[q8,q9,q',rb,rd,re,aoP,zm,zn,zo,zp,zq,pP,pQ,pR,pS,pT,pU,aoc,bW]<;>(first | exact(gK (fr (aG b.1 a.2.2) (by simp +arith)) (fr (aG a.1 b.2.2) (by simp +arith))) | exact(sQ (fr (aG (bx b.2.1) (bx a.2.1)) (by simp +arith)) (fr (aG (bx b.2.1.symm) (bx a.2.1.symm)) (by simp +arith))) | exact fr a.2.2 (by simp +arith))
theorem aiO(σ:ah)(l:List an2)(k:Nat)(h:l.length<=1000)(a:k<=l.length):xp σ (.lst l) (.int k)=some (.f (.list (l.drop k))):=by
 show (if 0<=(k:Int)/\(k:Int)<=1000000 then some (k:Int).toNat else none).bind (fun i=>DR i l)=_;rw[bl (⟨rp _,lw.mpr (ax a (ax h (by decide)))⟩),TL];exact bl (b9 (by exact uV h))
section
variable {B:List Str}
theorem aiP{c:bP}{σ:ah}{l:List T}{n k:Nat}{kk:Int}{many:an2}(b:kk=k)(d:l.length=n)(hn:n<=100)(e:2*k+1<n):an3 (iR (.one 4) (.int kk) (gm (ip (.one 4)) (.eV 5 [some many,some (.lst (l.map (bT B))),none,none,none]))) fun aN=>(cU c (.const (.bool true)) 0 aN σ fun v aj=>aj=σ/\v=.bool true)/\(true=true->cU c (.tup (.cons (.const (.str "plus")) (.cons (.idx (.loc 1) (.bin .Mult (.const (.int 2)) (.loc 4))) (.cons (.idx (.loc 1) (.bin .Add (.bin .Mult (.const (.int 2)) (.loc 4)) (.const (.int 1)))) .nil)))) 0 aN σ fun v aj=>aj=σ/\v=bT B (T.bin .plus (l.getD (2*k) .b4) (l.getD (2*k+1) .b4))):=by
 have f:∀j,j<n->eQ σ (.lst (l.map (bT B))) (.int (j:Int))=some (.v (bT B (l.getD j .b4))):=fun j a=>qk _ _ j _ (fr (aG hn a) (by simp +arith)) (by rw[aob,uP (xi d a),rj _ (xi d a)];rfl);have aB:eQ σ (.lst (l.map (bT B))) (.int (2*kk))=some (.v (bT B (l.getD (2*k) .b4))):=by rw[show (2:Int)*kk=((2*k:Nat):Int) by exact gW (amb rfl (id (gW b)))];exact f _ (by exact ID e)
 have cc:eQ σ (.lst (l.map (bT B))) (.int (2*kk+1))=some (.v (bT B (l.getD (2*k+1) .b4))):=by rw[show (2:Int)*kk+1=((2*k+1:Nat):Int) by exact b▸rfl];exact f _ e
 exact⟨⟨rfl,rfl⟩,fun V=>jU (sf rfl) (cj aB (jU (sf rfl) (cj cc ⟨rfl,rfl⟩)))⟩
theorem aiQ{many:Nat}(j:1<=many)(m:many<=100)(d:Nat)(σ:ah):∃t,(jr t/\t.nn=many)/\bF G (d+1) "_law_wide" [.int many] σ=.ok (bT B t) σ:=by
 have o:∀k,gU (eL k T.b4)=k:=fun k=>by
  induction k with
  |zero=>rfl
  |succ k ih=>rw[rx];show 1+gU _=k+1;rw[ih,kG]
 refine ou (P:=fun r=>∃t,(jr t/\t.nn=many)/\r=.ok (bT B t) σ) aeM rfl rfl rfl fun c at_=>?_;refine cm (nr σ (by rw[xc];exact KR m)) ?_;refine eB.pure aof (fun V=>true) (fun V=>.tup [.str "nought"]) (bf many) (wz _) rfl rfl (fun k q=>⟨⟨rfl,rfl⟩,fun V=>⟨rfl,rfl⟩⟩) ?_ ?_
 ·rw[fP];exact b9 (by rw[a0,an5];exact KR m)
 rw[fP,show (bf many).map (fun V=>an2.tup [.str "nought"])=(eL many T.b4).map (bT B) by
  rw[amc,List.map_const',an5];rfl]
 refine vY.inv (fun n ρ au=>∃l:List T,(au=σ/\ρ=.eV 5 [some (.int many),some (.lst (l.map (bT B))),none,none,none])/\l.length=n/\(1<=n/\n<=100)/\(∀t∈l,jr t)/\gU l=many) (fun k ρ σ ⟨x,⟨_,e⟩,_⟩=>e▸pD rfl) ?_ many ⟨.eV 5 [some (.int many),some (.lst ((eL many T.b4).map (bT B))),none,none,none],rfl,_,⟨rfl,rfl⟩,qa,⟨j,m⟩,fun t ht=>by rw[alu ht];exact .b4,o many⟩;rintro n ρ au ⟨l,⟨rfl,rfl⟩,g,hn,s,i⟩;have h:(l.map (bT B)).length=n:=by rw[a0,g]
 refine cm (kN h (KQ hn)) ?_;refine bI.mk (fun e=>?_) fun e=>?_
 ·have e:(n:Int) > 1:=ct e;have e:2<=n:=(lw.mp e);have p:(oP l).length=n / 2:=by unfold oP;rw[a0,an5,g]
  refine cm (kN h (KQ hn)) ?_;refine cm (w:=.v (.eP 0 ((n / 2:Nat):Int))) (by
   rw[show (n:Int).fdiv 2=((n / 2:Nat):Int) by rw[RN _ (by decide)];exact(gW (anZ rfl rfl))];exact nr _ (by rw[xc];exact DF hn)) ?_
  refine eB.pure aof (fun V=>true) (fun k=>bT B (T.bin .plus (l.getD (2*k) .b4) (l.getD (2*k+1) .b4))) (bf (n / 2)) (wz _) rfl rfl (fun k q=>aiP (kk:=(k:Int)) rfl g hn.2 (by have:=eE.mp q;exact SH (ax (cE 2 this) (amd _ 2)))) ?_ ?_
  ·rw[fP];exact b9 (by rw[a0,an5];exact DF hn)
  rw[fP,show (bf (n / 2)).map (fun k=>bT B (T.bin .plus (l.getD (2*k) .b4) (l.getD (2*k+1) .b4)))=(oP l).map (bT B) by unfold oP;rw[hk,g];rfl];refine cm (kN (n:=n / 2) (by rw[a0,p]) (DF hn)) ?_;refine jU (sf rfl) ?_;refine ad9 (w:=.f (.list ((l.map (bT B)).drop (2*(n / 2))))) (by rw[show (2:Int)*((n / 2:Nat):Int)=((2*(n / 2):Nat):Int) by exact gW (amb rfl rfl)];exact aiO _ _ _ (by exact fr (aG hn.2 (bx h)) (by simp +arith)) (by exact h▸amd _ 2)) ?_;refine eh (oM _ _ _ (by rw[a0,akV,p];exact ax (aG (akb n 2) (ax (kH _ _) (bx h))) (fr (cE 2 hn.2) (by simp +arith)))) ?_;rw[<- List.map_drop,<- hS,<- p,aiL];refine bt (aiM l (le_of_le_of_eq e (id (gW g)))) fun u p2=>?_;refine bt (aiN l s) fun p3 p4=>?_;exact⟨.eV 5 [some (.int many),some (.lst ((lV l).map (bT B))),none,none,none],rfl,(lV l).length,(KN g u),lV l,⟨rfl,rfl⟩,rfl,(⟨fr p2 (by simp +arith),fr (aG (aG (bx g) hn.2) u) (by simp +arith)⟩),p3,p4.trans i⟩
 ·have e:¬(n:Int) > 1:=of_decide_eq_false e
  match l,g with
  | [t],g=>
   have i:t.nn+0=many:=i;have ht:=s t cW;exact⟨t,⟨ht,i⟩,dP (Hx (W:=fun V=>True) t ht.ok)⟩
  | [],g=>have:0=n:=g;exact dk hn.1 (by exact((ff (aG hn.1 (bx this.symm)) (by simp +arith))).elim)
  |a::b::l,g=>have:l.length+1+1=n:=g;exact dk e (fun e=>e (kE.mpr (this▸alY (TG _))))
end
section
variable {o:Nat->Str}{t:T}{d:Nat}
abbrev uB(t:T)(o:Nat->Str)(h:Nat)(x:Nat->Str->Int)(F B:a4)(k:Nat):List (Str×an2):=ba k t.L fun i=>aR (aA (c8 t.n o) (d3 t.n h (bw t.n x B) F i))
theorem CL{t:T}{k:Nat}(E:er t.n t.L o)(a:k<t.n):∀j<k,t.L j≠t.L k:=fun j b=>E.iF j k b a
theorem aiS(E:er t.n t.L o)(R:nF (bC o) t d)(h:Nat)(x:Nat->Str->Int)(F B:a4)(m:Nat)(σ:ah):bF G (m+1) "_law_measures_of" [RH t o h x F B] σ=.ok (.ba (uB t o h x F B t.n)) σ:=by
 have hn:=E.oK;have b:t.p+t.nn<60:=hn;have q:∀i j,i<j->j<t.p->t.ns i≠t.ns j:=fun i j f O e=>E.iF i j f (by unfold T.n;exact qd O) (by rw[nG (KS f O),nG O,e]);refine dw aeL rfl rfl rfl fun c at_=>?_;refine dg.const (fun k au=>k<=t.p/\au=σ++[.dict false (uB t o h x F B k)]) ⟨d4 _,rfl⟩ ?_ ?_
 ·rintro k y au g ⟨r,rfl⟩;obtain⟨rfl,a⟩:=CH (show ((ba t.p t.ns fun i=>aR (aA (c8 t.n o) (d3 t.n h (bw t.n x B) F i))).map fun kv=>an2.str kv.1)[k]?=some y from g);refine cj (zw q (fun i=>aR (aA (c8 t.n o) (d3 t.n h (bw t.n x B) F i))) a) ?_;refine eh (kj _ _ _ (ax (fv (R.wl _ (CI a)) _) (by decide))) ?_;refine gR (nq (by rw[lN];exact Kv b a) _ _) ?_;refine⟨_,by rfl,rfl,a,?_⟩;rw[show ("=":Str)++t.ns k=t.L k from (nG a).symm];exact dt (fun l=>σ++[bb.dict false l]) (q4 (CL E (by unfold T.n;exact qd a)) _)
 rintro au ⟨_,rfl⟩;rw[show ((ba t.p t.ns fun i=>aR (aA (c8 t.n o) (d3 t.n h (bw t.n x B) F i))).map fun kv=>an2.str kv.1).length=t.p by rw[a0,lN]];refine cm (kN (n:=t.nn) (by rw[a0,an5]) (Ak b)) ?_;refine cm (nr _ (by rw[xc];exact Ak b)) ?_;refine dg.const (fun k au=>k<=t.nn/\au=σ++[.dict false (uB t o h x F B (t.p+k))]) ⟨d4 _,rfl⟩ ?_ ?_
 ·rintro k y au g ⟨r,rfl⟩;obtain⟨rfl,a⟩:=aoH g;refine cj (qk _ _ k _ (fr (aG b a) (by simp +arith)) (jW (fun k=>aR (aA (c8 t.n o) (d3 t.n h (bw t.n x B) F (t.p+k)))) a)) ?_;refine cm (uq _ (zu (xh b a))) ?_;refine eh (kj _ _ _ (ax (fv (zt ⟨k,(xh b a)⟩) _) (by decide))) ?_;refine gR (nq (by rw[lN];exact fr (aG b a) (by simp +arith)) _ _) ?_;refine⟨_,by rfl,rfl,a,?_⟩;rw[show ("0":Str)++ly (toString ((k:Nat):Int))=t.L (t.p+k) from (lR t k).symm];exact dt (fun l=>σ++[bb.dict false l]) (q4 (CL E (by unfold T.n;exact Al a)) _)
 rintro au ⟨_,rfl⟩;rw[yR];exact HD (Rg (cu _) gQ (ur _ _ _))
theorem aiT{v:an2}(a:e8 v=false){D U:List (Str×an2)}{l:List an2}{m:an2}{σ:ah}(b:∀kv∈D,eF kv.2=true)(e:∀kv∈U,eF kv.2=true)(f:kh l=true)(g:eF m=true)(h:bF G d "widest" [v] σ=.ok (.tup [.ba D,.lst l,m,.ba U]) σ):bF G (d+1) "_law_widest" [v] σ=.ok (.tup [.ba D,.lst l,m,.ba U]) σ:=by
 refine dw aeN rfl rfl (mz a rfl) fun c at_=>?_;refine aW at_ h ?_;exact HE ⟨[],(il σ).symm⟩ (Rh (HF b) f g (HF e))
end
theorem wQ(n:Nat)(f g:Nat->Nat):N n (fun c=>f c+g c)=N n f+N n g:=by
 induction n with
 |zero=>rfl
 |succ n ih=>show N n _+(f n+g n)=N n f+f n+(N n g+g n);rw[ih];exact Nat.add_add_add_comm _ _ _ _
theorem wR(n:Nat)(x:Option Nat):N n (fun l=>(bJ x l).natAbs)<=1:=by
 cases x with
 |none=>
  have:N n (fun l=>(bJ none l).natAbs)<=n*0:=y7 fun l V=>by unfold bJ;rw[b5 (fun q=>dS q)];exact cu _
  exact KX this
 |some k=>
  by_cases a:k<n
  ·rw[y8 a,B8 (g:=fun V=>0) fun l V=>?_]
   ·have:N n (fun V=>0)<=n*0:=y7 fun l V=>cu _;unfold bJ;rw[bl rfl];show _+1<=1;exact w0 this
   ·by_cases q:l=k
    ·rw[bl q]
    ·rw[b5 q];unfold bJ;rw[b5 fun e=>q (dp e).symm];rfl
  ·have:N n (fun l=>(bJ (some k) l).natAbs)<=n*0:=y7 fun l b=>by unfold bJ;rw[b5 fun e=>a (by rw[dp e];exact b)];exact cu _
   exact KX this
noncomputable def gk(ks:List dU)(i:Nat):dU:=ks.getD i .any
def aoB(L:Nat->Str)(rs:List (Str->Int)):a4:=fun i j=>(rs.getD i fun V=>0) (L j)
noncomputable def iY:Nat:=37748730
structure oQ (n:Nat)(L:Nat->Str)(D:Nat->Prop)(rs:List (Str->Int))(ks:List dU)(f:Nat):Prop where
 len:ks.length=rs.length
 v:∀i<rs.length,pN n (aoB L rs) D (gk ks) i
 f:cz (gk ks) rs.length<=f
 r:∀i<rs.length,(gk ks i).r (cz (gk ks) i)<=iY
theorem aiV{kd a:Nat->dU}:∀{i:Nat},(∀j<i,kd j=a j)->cz kd i=cz a i:=by
 intro i
 induction i with
 |zero=>exact fun V=>rfl
 |succ i ih=>intro h;show (kd i).f (cz kd i)=(a i).f (cz a i);rw[ih fun j b=>h j (s9 b),h i (aog i)]
theorem RY{l:List α}{x z:α}(h:i<l.length):(l++[x]).getD i z=l.getD i z:=by unfold zX;rw[mS h]
theorem RZ{l:List α}{x z:α}:(l++[x]).getD l.length z=x:=by unfold zX;rw[nP (cu _),p7];rfl
theorem R0(k:dU){f g:Nat}(h:f<=g):k.f f<=k.f g/\k.r f<=k.r g:=by cases k<;>(unfold dU.f dU.r;simp only;(first | exact UL h | exact UM h | exact UN h | exact UO h))
section
variable {n:Nat}{L:Nat->Str}{D:Nat->Prop}{rs:List (Str->Int)}{ks:List dU}{f:Nat}
theorem aiW{A m:a4}{kd f:Nat->dU}{i:Nat}(h:∀j,j<=i->kd j=f j)(c:∀j,j<=i->A j=m j)(V:pN n A D kd i):pN n m D f i:=by
 have hi:=cu i;refine⟨?_,by rw[<- c i hi];exact V.a,by rw[<- c i hi,<- h i hi];exact V.d⟩;have V:=V.k;have g:∀{P:dU->Prop},(∀j<i,P (kd j))->∀j<i,P (f j):=fun q j e=>h j (et e)▸q j e;unfold ws at V ⊢;rw[<- h i hi,<- c i hi];cases b:kd i with
 |plain x y=>rw[b]at V;exact⟨g V.1,V.2⟩
 |zero j=>rw[b]at V;exact⟨V.1,by rw[<- c j (et V.1)];exact V.2⟩
 |unit l=>rw[b]at V;exact⟨V.1,V.2.1,fun j e=>by rw[<- c j (et e)];exact V.2.2 j e⟩
 |wide x y=>rw[b]at V;exact⟨V.1,V.2.1,g (P:=fun k=>¬k.nC) V.2.2.1,V.2.2.2⟩
 |join x=>rw[b]at V;exact⟨V.1,V.2.1,V.2.2.1,g (P:=fun k=>¬k.nC) V.2.2.2⟩
 |nB=>rw[b]at V;exact V
 |any=>exact trivial
def R2(n:Nat)(L:Nat->Str)(D:Nat->Prop)(rs:List (Str->Int))(ks:List dU)(r:Str->Int)(k:dU):Prop:=match k with
 |.plain x y=>(∀k∈ks,k.pz)/\jq n x/\jq n y/\∀l<n,r (L l)=bJ x l-bJ y l
 |.zero j=>∃h:j<rs.length,∀l<n,r (L l)=rs[j] (L l)
 |.unit l=>l<n/\(r (L l)).natAbs=1/\∀r'∈rs,r' (L l)=0
 |.wide x y=>(x<n/\D x)/\(y<n/\D y)/\(∀k∈ks,¬k.nC)/\∀l<n,r (L l)=bJ (some x) l-bJ (some y) l
 |.join x=>(x<n/\D x)/\(r (L x)).natAbs=1/\(∀l<n,l≠x->D l->r (L l)=0)/\∀k∈ks,¬k.nC
 |.nB=>N n (fun l=>(r (L l)).natAbs)<=2^3
 |.any=>True
theorem aiX(h:ks.length=rs.length){j:Nat}(a:j<rs.length):gk ks j∈ks:=by unfold gk;rw[rj _ (xi h a)];exact xd (xi h a)
def HY(n:Nat)(L:Nat->Str)(D:Nat->Prop)(rs:List (Str->Int))(ks:List dU)(f:Nat)(r:Str->Int):Prop:=∀(H:oQ n L D rs ks f) {k:dU} (aa:R2 n L D rs ks r k) (ai:N n (fun l=>(r (L l)).natAbs)<=2^5) (hd:¬k.bg->∀l<n,D l->r (L l)=0) (hr:k.r f<=iY),oQ n L D (rs++[r]) (ks++[k]) (k.f f)
def R3(k:Nat×(Nat->Str)×(Nat->Prop)×(List (Str->Int))×List dU×Nat×(Str->Int)):Prop:=HY k.1 k.2.1 k.2.2.1 k.2.2.2.1 k.2.2.2.2.1 (en k).2.1 (en k).2.2
def uD:=ch R3
def aiY:=uD.1
def uE:=uD.2.1
def aiZ:=uD.2.2.1
def ij:=uD.2.2.2.1
def pY:=uD.2.2.2.2.1
def ai0:=(en uD).2.1
def wS:=(en uD).2.2
theorem ai1:HY aiY uE aiZ ij pY ai0 wS:=by
 intro H k b t u w;have c:(ij++[wS]).length=ij.length+1:=by rw[bW];rfl
 have d:∀j,j<ij.length->gk pY j=gk (pY++[k]) j:=fun j a=>by unfold gk;rw[RY (by rw[H.len];exact a)]
 have g:gk (pY++[k]) ij.length=k:=by unfold gk;rw[<- H.len];exact RZ
 have p:∀j,j<ij.length->aoB uE ij j=aoB uE (ij++[wS]) j:=fun j a=>by unfold aoB;rw[RY a]
 have m:aoB uE (ij++[wS]) ij.length=fun j=>wS (uE j):=by unfold aoB;rw[RZ]
 have n:∀j,j<=ij.length->cz (gk (pY++[k])) j=cz (gk pY) j:=fun j a=>(aiV fun i hi=>d i (Kt a hi)).symm;have s:∀j (h:j<ij.length),aoB uE (ij++[wS]) j=fun l=>ij[j] (uE l):=fun j a=>by rw[<- p j a];unfold aoB;rw[rj _ a]
 refine⟨by rw[bW,c,H.len];rfl,fun i hi=>?_,?_,fun i hi=>?_⟩
 ·by_cases q:i<ij.length
  ·exact aiW (fun j a=>d j (KW q a)) (fun j a=>p j (KW q a)) (H.v i q)
  ·obtain rfl:i=ij.length:=(KV c hi q);refine⟨?_,by rw[m];exact t,by rw[m,g];exact u⟩;unfold ws;rw[g,m];have o:∀{P:dU->Prop},(∀k∈pY,P k)->∀j<ij.length,P (gk (pY++[k]) j):=fun q j a=>d j a▸q _ (aiX H.len a);cases k with
   |plain x y=>exact⟨o b.1,b.2⟩
   |zero j=>obtain⟨a,e⟩:=b;exact⟨a,by rw[s j a];exact e⟩
   |unit l=>exact⟨b.1,b.2.1,fun j a=>by rw[s j a];exact b.2.2 _ (xd a)⟩
   |wide x y=>exact⟨b.1,b.2.1,o (P:=fun k=>¬k.nC) b.2.2.1,b.2.2.2⟩
   |join x=>exact⟨b.1,b.2.1,b.2.2.1,o (P:=fun k=>¬k.nC) b.2.2.2⟩
   |nB=>exact b
   |any=>exact trivial
 ·rw[c];show (gk (pY++[k]) ij.length).f (cz (gk (pY++[k])) ij.length)<=_;rw[g,n _ (cu _)];exact(R0 k H.f).1
 ·by_cases q:i<ij.length
  ·rw[n i (rq q),<- d i q];exact H.r i q
  ·obtain rfl:i=ij.length:=(KV c hi q);rw[g,n _ (cu _)];exact ax (R0 k H.f).2 w
theorem oQ.snoc{n L D rs ks f r}:HY n L D rs ks f r:=tb (P:=R3) ai1 (n,L,D,rs,ks,f,r)
variable {f':Nat}
theorem oQ.more(H:oQ n L D rs ks f)(h:f<=f'):oQ n L D rs ks f':=⟨H.len,H.v,ax H.f h,H.r⟩
def lu(n:Nat)(L:Nat->Str)(D:Nat->Prop)(rs:List (Str->Int)):Prop:=∃ks,oQ n L D rs ks 0/\∀k∈ks,k.pz
def dm(n:Nat)(L:Nat->Str)(D:Nat->Prop)(rs:List (Str->Int))(f:Nat):Prop:=∃ks,oQ n L D rs ks f/\∀k∈ks,¬k.nC
theorem lu.nil:lu n L D []:=⟨[],⟨rfl,fun i hi=>dk hi (nM _),cu _,fun i hi=>dk hi (nM _)⟩,fun k a=>eO a⟩
theorem lu.toN(H:lu n L D rs):dm n L D rs 0:=by
 obtain⟨ks,a,O⟩:=H;exact⟨ks,a,fun k b q=>by have:=O k b;cases k<;>first | exact q.elim | exact this.elim⟩
theorem dm.more(H:dm n L D rs f)(h:f<=f'):dm n L D rs f':=by obtain⟨ks,a,O⟩:=H;exact⟨ks,a.more h,O⟩
theorem lu.add(H:lu n L D rs){r:Str->Int}{x y:Option Nat}(b:jq n x)(c:jq n y)(h:∀l<n,r (L l)=bJ x l-bJ y l)(d:∀l<n,D l->r (L l)=0):lu n L D (rs++[r]):=by
 obtain⟨ks,a,O⟩:=H;refine⟨ks++[.plain x y],a.snoc (k:=.plain x y) ⟨O,b,c,h⟩ ?_ (fun V=>d) (show 2*0<=iY by decide),fun k e=>?_⟩
 ·refine ax (mG (g:=fun l=>(bJ x l).natAbs+(bJ y l).natAbs) fun l f=>by rw[h l f];exact KU) ?_;rw[wQ];exact ax (aG (wR n x) (wR n y)) (by decide)
 ·rcases eM.mp e with q|q
  ·exact O k q
  ·rw[c3.mp q];exact trivial
theorem dm.snoc(H:dm n L D rs f){r:Str->Int}{k:dU}(b:∀ks,(∀k∈ks,¬k.nC)->R2 n L D rs ks r k)(c:¬k.nC)(d:N n (fun l=>(r (L l)).natAbs)<=2^5)(e:¬k.bg->∀l<n,D l->r (L l)=0)(g:k.r f<=iY):dm n L D (rs++[r]) (k.f f):=by
 obtain⟨ks,a,O⟩:=H;refine⟨ks++[k],a.snoc (b ks O) d e g,fun h i=>?_⟩;rcases eM.mp i with q|q
 ·exact O h q
 ·rw[c3.mp q];exact c
theorem dm.any(H:dm n L D rs f){r:Str->Int}(a:N n (fun l=>(r (L l)).natAbs)<=2^5)(b:∀l<n,D l->r (L l)=0)(c:4*f<=iY):dm n L D (rs++[r]) (4*f+18):=H.snoc (k:=.any) (fun ks q=>trivial) id a (fun V=>b) c
theorem dm.nB(H:dm n L D rs f){r:Str->Int}(a:N n (fun l=>(r (L l)).natAbs)<=2^3)(b:∀l<n,D l->r (L l)=0)(c:4*f<=iY):dm n L D (rs++[r]) (4*f+12):=H.snoc (k:=.nB) (fun ks q=>a) id (ax a (by decide)) (fun V=>b) c
theorem dm.unit(H:dm n L D rs f){r:Str->Int}{l:Nat}(b:l<n)(a:(r (L l)).natAbs=1)(h0:∀c∈rs,c (L l)=0)(d:N n (fun l=>(r (L l)).natAbs)<=2^5)(e:∀l<n,D l->r (L l)=0)(g:2*f<=iY):dm n L D (rs++[r]) (2*f+6):=H.snoc (k:=.unit l) (fun ks q=>⟨b,a,h0⟩) id d (fun V=>e) g
theorem dm.again(H:dm n L D rs f){r:Str->Int}(a:r∈rs)(b:N n (fun l=>(r (L l)).natAbs)<=2^5)(c:∀l<n,D l->r (L l)=0)(d:2*f<=iY):dm n L D (rs++[r]) f:=by
 obtain⟨j,g,e⟩:=I6 a;exact H.snoc (k:=.zero j) (fun ks q=>⟨g,fun l h=>by rw[e]⟩) id b (fun V=>c) d
theorem dm.wide(H:dm n L D rs f){r:Str->Int}{x y:Nat}(a:x<n/\D x)(b:y<n/\D y)(h:∀l<n,r (L l)=bJ (some x) l-bJ (some y) l)(c:2*f<=iY):dm n L D (rs++[r]) f:=by
 refine H.snoc (k:=.wide x y) (fun ks q=>⟨a,b,q,h⟩) id ?_ (fun q=>dk trivial q) c;refine ax (mG (g:=fun l=>(bJ (some x) l).natAbs+(bJ (some y) l).natAbs) fun l d=>by rw[h l d];exact KU) ?_;rw[wQ];exact ax (aG (wR n (some x)) (wR n (some y))) (by decide)
theorem dm.join(H:dm n L D rs f){r:Str->Int}{x:Nat}(b:x<n/\D x)(a:(r (L x)).natAbs=1)(h0:∀l<n,l≠x->D l->r (L l)=0)(c:N n (fun l=>(r (L l)).natAbs)<=2^5)(d:2*f<=iY):∃ks,oQ n L D (rs++[r]) ks (2*f+6):=by
 obtain⟨ks,ay,az⟩:=H;exact⟨_,ay.snoc (k:=.join x) ⟨b,a,h0,az⟩ c (fun q=>dk trivial q) d⟩
theorem oQ.safe(H:oQ n L D rs ks f)(hn:n<=2^6)(a:rs.length<=1000)(d:f<=iY):wB n rs.length (aoB L rs) 37800000:=by
 have b:iY=37748730:=rfl;refine agG (D:=D) (kd:=gk ks) H.v hn (fun i hi=>?_) fun i hi=>?_
 ·have:=H.r i hi;exact fr (aG (aG (aG (cE 8 a) (bx b)) (cE 8 hi)) this) (by simp +arith)
 ·have:cz (gk ks) i<=cz (gk ks) rs.length:=by
   obtain⟨j,c⟩:=TS hi;rw[c];clear c hi
   induction j with
   |zero=>exact cu _
   |succ j ih=>exact ax ih (G1 _ _)
  have:=H.f;exact UK a d b hi (by assumption) this
end
inductive lW:Nat->T->Prop
 |base {t:T}:cM 2 t->lW 0 t
 |plus {i:Nat} {t s:T}:lW i t->cM 1 s->lW (i+1) (.bin .plus t s)
 |less {i:Nat} {t s:T}:lW i t->cM 1 s->lW (i+1) (.less s .b4 t s)
noncomputable def wT(i:Nat):Nat:=match i with
 |0=>66
 |i+1=>64*wT i+378
structure In (tt:T)(o:Nat->Str)(w:Nat)(t:T)(k:Nat):Prop where
 ok:t.ok (·∈tt.dL) (bC o)
 aa:k+t.nn<=w
section
variable {tt:T}{o:Nat->Str}{w:Nat}{t a b c d:T}{k ka kb kc kd:Nat}{rs:List (Str->Int)}{f:Nat}(E:er tt.n tt.L o)(aF:w<=tt.nn)
theorem HZ(E:er tt.n tt.L o){i j:Nat}(hi:i<tt.n)(a:j<tt.n)(e:tt.L i=tt.L j):i=j:=by
 rcases z3 i j with q|q|q
 ·exact dk e (E.iF i j q a)
 ·exact q
 ·exact dk e.symm (E.iF j i q hi)
theorem zD(E:er tt.n tt.L o){i l:Nat}(hi:i<tt.n)(a:l<tt.n):un (tt.L i) (tt.L l)=bJ (some i) l:=by
 unfold un bJ;by_cases q:l=i
 ·rw[bl (by rw[q]),bl (by rw[q])]
 ·rw[b5 fun e=>q (HZ E a hi e),b5 fun e=>q (dp e).symm]
include E aF
theorem In.rm(h:In tt o w t k){q:Nat}(c:q<tt.nn)(d:q<k\/k+t.nn<=q):t.f k (tt.L (tt.p+q))=0/\∀r∈t.r k,r (tt.L (tt.p+q))=0:=by
 have hn:tt.p+q<tt.n:=by unfold T.n;exact Al c
 refine RC (fun v g e=>?_) (CG E hn) t h.ok k fun i a O e=>?_
 ·refine aw (zx g) fun i hi j=>?_;have:=HZ E (by unfold T.n;exact qd hi) hn (j.trans e);exact((ff (aG hi (bx this.symm)) (by simp +arith))).elim
 ·have l:=h.aa;rw[<- lR tt i]at e;have:=HZ E (by unfold T.n;exact fr (aG (aG aF O) l) (by simp +arith)) hn e;exact((d.elim (fun b=>ff (aG (aG a (bx this)) b) (by simp +arith)) fun b=>ff (aG (aG O (bx this.symm)) b) (by simp +arith))).elim
theorem In.aoU(h:In tt o w t k):∀l<tt.n,tt.p+w<=l->t.f k (tt.L l)=0/\∀r∈t.r k,r (tt.L l)=0:=fun l b a=>by
 have c:=h.aa;have hn:l<tt.p+tt.nn:=b;have:=h.rm E aF (q:=l-tt.p) (Nat.sub_lt_left_of_lt_add (fr a (by simp +arith)) hn) (.inr (Nat.le_sub_of_add_le (fr (aG a c) (by simp +arith))))
 rwa [Dg (Am a)]at this
theorem H1(h:In tt o w t k)(d:cM 0 t):∃x,jq tt.n x/\∀l<tt.n,t.f k (tt.L l)=bJ x l:=by
 have b:=h.aa;cases d with
 |@c2 n0 c=>
  refine aw (zx (show c∈tt.dL from h.ok)) fun i hi e=>?_;have hi:i<tt.n:=by unfold T.n;exact qd hi
  refine⟨some i,fun l q=>dp q▸hi,fun l a=>?_⟩;show un (le c) (tt.L l)=_;rw[<- e];exact zD E hi a
 |b4=>
  have b:k+1<=w:=b;have hi:tt.p+k<tt.n:=by unfold T.n;exact DG aF b
  refine⟨some (tt.p+k),fun l q=>dp q▸hi,fun l a=>?_⟩;show un (f3 k) (tt.L l)=_;rw[<- lR tt k];exact zD E hi a
 |is=>exact⟨none,(fun l q=>dS q),fun l a=>(h.ok.2 _ (CG E a)).trans (b5 fun q=>dS q).symm⟩
theorem cM.iZ{m:Nat}(s:cM m t):∀{k},In tt o w t k->N tt.n (fun l=>(t.f k (tt.L l)).natAbs)<=4^m:=by
 have u:∀{n:Nat} {t:T},cM 0 t->∀{k},In tt o w t k->N tt.n (fun l=>(t.f k (tt.L l)).natAbs)<=4^n:=fun {n t} s {k} h=>by
  refine aw (H1 E aF h s) fun x V e=>?_;rw[B8 fun l p=>by rw[e l p]];exact ax (wR _ x) (kI (by decide))
 induction s with
 |c2=>exact u .c2
 |b4=>exact u .b4
 |is=>exact u .is
 |pow j z ih=>
  intro i h;have:=ih (k:=i) ⟨h.ok.1,h.aa⟩;refine ax (mG (g:=fun l=>4*(a.f i (tt.L l)).natAbs) fun l p=>?_) ?_
  ·show (a.f i (tt.L l)*k).natAbs<=_;rw[qb,sZ];exact mU _ z
  ·rw[GL,nQ];exact fr (cE 4 this) (by simp +arith)
 |@bin n0 o0 a b j O v y=>
  intro i h;have r:i+(a.nn+b.nn)<=w:=h.aa;have ay:=v (k:=i) ⟨h.ok.1,(aoO r)⟩;have az:=y (k:=i+a.nn) ⟨h.ok.2,(Ap r)⟩;rw[nQ];cases o0 with
  |plus=>show N tt.n (fun l=>(a.f i (tt.L l)).natAbs)<=_;exact DC ay
  |minus=>show N tt.n (fun l=>(a.f i (tt.L l)).natAbs)<=_;exact DC ay
  |times V=>
   refine ax (mG (g:=fun l=>(a.f i (tt.L l)).natAbs+(b.f (i+a.nn) (tt.L l)).natAbs) fun l p=>z' _ _) ?_;rw[wQ];exact DB ay az
  |over=>
   refine ax (mG (g:=fun l=>(a.f i (tt.L l)).natAbs+(b.f (i+a.nn) (tt.L l)).natAbs) fun l p=>zO _ _) ?_;rw[wQ];exact DB ay az
 |less j O B C v y A D=>
  intro i h;have r:i+(a.nn+b.nn+(c.nn+d.nn))<=w:=h.aa;have q:=A (k:=i+a.nn+b.nn) ⟨h.ok.2.2.1,(KY r)⟩;have:4^(n-1)<=4^n:=hV (by decide) (kH _ _);rw[nQ];show N tt.n (fun l=>(c.f (i+a.nn+b.nn) (tt.L l)).natAbs)<=_;exact fr (aG q this) (by simp +arith)
omit E aF in
theorem uF{f g:Str->Int}{x y:Nat}(a:N tt.n (fun l=>(f (tt.L l)).natAbs)<=x)(b:N tt.n (fun l=>(g (tt.L l)).natAbs)<=y):N tt.n (fun l=>(cT f g (tt.L l)).natAbs)<=x+y:=by
 refine ax (mG (g:=fun l=>(f (tt.L l)).natAbs+(g (tt.L l)).natAbs) fun l c=>zO _ _) ?_;rw[wQ];exact aG a b
theorem sP(e:In tt o w a ka)(g:In tt o w b kb):∀l<tt.n,tt.p+w<=l->cT (a.f ka) (b.f kb) (tt.L l)=0:=fun l c d=>by
 unfold cT;rw[(e.aoU E aF l c d).1,(g.aoU E aF l c d).1];rfl
theorem H3(H:lu tt.n tt.L (tt.p+w<=·) rs)(d:In tt o w a ka)(e:In tt o w b kb)(h:cM 0 a)(c:cM 0 b):lu tt.n tt.L (tt.p+w<=·) (rs++[cT (a.f ka) (b.f kb)]):=by
 refine aw (H1 E aF d h) fun x i ex=>?_;refine aw (H1 E aF e c) fun y j k=>?_;exact H.add i j (fun l g=>by unfold cT;rw[ex l g,k l g]) (sP E aF d e)
omit E aF in
theorem nu(a:cM 0 t)(k:Nat):t.r k=[]:=by cases a<;>rfl
inductive aK (tt:T)(o:Nat->Str)(w:Nat)(t:T):Prop
 |nil (h:∀k,t.r k=[])
 |one (a b:T) (ai:cM 0 a) (ab:cM 0 b) (hi:∀k,In tt o w t k->In tt o w a k/\In tt o w b (k+a.nn)) (hn:t.nn=a.nn+b.nn) (h:∀k,t.r k=[cT (a.f k) (b.f (k+a.nn))])
 |two (a b c d:T) (ai:cM 0 a) (ab:cM 0 b) (ae:cM 0 c) (hd:cM 0 d) (hi:∀k,In tt o w t k->(In tt o w a k/\In tt o w b (k+a.nn))/\In tt o w c (k+a.nn+b.nn)/\In tt o w d (k+a.nn+b.nn+c.nn)) (hn:t.nn=a.nn+b.nn+(c.nn+d.nn)) (h:∀k,t.r k=[cT (a.f k) (b.f (k+a.nn)),cT (c.f (k+a.nn+b.nn)) (d.f (k+a.nn+b.nn+c.nn))])
omit E aF in
theorem cM.bv(l:cM 1 t):aK tt o w t:=by
 cases l with
 |c2=>exact .nil fun k=>rfl
 |b4=>exact .nil fun k=>rfl
 |is=>exact .nil fun k=>rfl
 |pow f m=>exact .nil fun k=>nu f k
 |@bin n0 o0 a b f O=>
  have e:∀k,a.r k++b.r (k+a.nn)=[]:=fun k=>by rw[nu f,nu O];rfl
  have hi:∀k,In tt o w (.bin o0 a b) k->In tt o w a k/\In tt o w b (k+a.nn):=fun k h=>⟨⟨h.ok.1,ax (fv (bO _ _) k) h.aa⟩,⟨h.ok.2,ax (bx (eK ..)) h.aa⟩⟩;cases o0 with
  |times V=>exact .nil e
  |over=>exact .nil e
  |plus=>exact .one a b f O hi rfl fun k=>dt (·++_) (e k)
  |minus=>exact .one a b f O hi rfl fun k=>dt (·++_) (e k)
 |less f O i j=>
  refine .two a b c d f O i j (fun k h=>?_) rfl fun k=>?_
  ·have g:k+(a.nn+b.nn+(c.nn+d.nn))<=w:=h.aa;exact⟨⟨⟨h.ok.1,fr g (by simp +arith)⟩,⟨h.ok.2.1,fr g (by simp +arith)⟩⟩,⟨h.ok.2.2.1,fr g (by simp +arith)⟩,⟨h.ok.2.2.2,fr g (by simp +arith)⟩⟩
  ·show a.r k++b.r (k+a.nn)++c.r (k+a.nn+b.nn)++d.r (k+a.nn+b.nn+c.nn)++[_]++[_]=_;rw[nu f,nu O,nu i,nu j];rfl
theorem wU(H:lu tt.n tt.L (tt.p+w<=·) rs)(h:In tt o w t k)(g:cM 1 t):lu tt.n tt.L (tt.p+w<=·) (rs++t.r k):=by
 cases g.bv (tt:=tt) (o:=o) (w:=w) with
 |nil e=>rw[e,il];exact H
 |one a b f O hi hn e=>rw[e];exact H3 E aF H (hi k h).1 (hi k h).2 f O
 |two a b c d f O i j hi hn e=>rw[e,TU];exact H3 E aF (H3 E aF H (hi k h).1.1 (hi k h).1.2 f O) (hi k h).2.1 (hi k h).2.2 i j
theorem ai4(H:dm tt.n tt.L (tt.p+w<=·) rs f)(h:In tt o w t k)(q:cM 1 t)(j:4*(4*f+18)<=iY):dm tt.n tt.L (tt.p+w<=·) (rs++t.r k) (4*(4*f+18)+18):=by
 have nil:dm tt.n tt.L (tt.p+w<=·) (rs++[]) (4*(4*f+18)+18):=by rw[il];exact H.more (by simp +arith)
 have g:∀{rs f a b ka kb},dm tt.n tt.L (tt.p+w<=·) rs f->In tt o w a ka->In tt o w b kb->cM 0 a->cM 0 b->4*f<=iY->dm tt.n tt.L (tt.p+w<=·) (rs++[cT (a.f ka) (b.f kb)]) (4*f+18):=fun {rs f a b ka kb} H l m s1 s j=>
  H.any (ax (uF (s1.iZ E aF l) (s.iZ E aF m)) (by decide)) (sP E aF l m) j
 cases q.bv (tt:=tt) (o:=o) (w:=w) with
 |nil e=>rw[e];exact nil
 |one a b i O hi hn e=>rw[e];exact(g H (hi k h).1 (hi k h).2 i O (fr j (by simp +arith))).more (by simp +arith)
 |two a b c d i O u v hi hn e=>rw[e,TU];exact g (g H (hi k h).1.1 (hi k h).1.2 i O (fr j (by simp +arith))) (hi k h).2.1 (hi k h).2.2 u v j
theorem aoS(H:dm tt.n tt.L (tt.p+w<=·) rs f)(g:In tt o w a ka)(h:In tt o w b kb)(v:cM 0 a)(x:cM 0 b)(i:ka+a.nn<=kb)(fa:∀r∈rs,∀q,ka<=q->q<ka+a.nn->r (tt.L (tt.p+q))=0)(fb:∀r∈rs,∀q,kb<=q->q<kb+b.nn->r (tt.L (tt.p+q))=0){k1 y:Nat}(z:cT (a.f k1) (b.f y)∈rs)(m:2*f<=iY):dm tt.n tt.L (tt.p+w<=·) (rs++[cT (a.f ka) (b.f kb)]) (2*f+6):=by
 have s:N tt.n (fun l=>(cT (a.f ka) (b.f kb) (tt.L l)).natAbs)<=2^5:=ax (uF (v.iZ E aF g) (x.iZ E aF h)) (by decide);have t:=sP E aF g h;have j:=g.aa;have k:=h.aa;have c:∀{q:Nat},un (f3 q) (tt.L (tt.p+q))=1:=fun {q}=>by rw[lR];exact bl rfl
 have d:a.f ka=a.f k1->dm tt.n tt.L (tt.p+w<=·) (rs++[cT (a.f ka) (b.f kb)]) (2*f+6):=fun A=>by
  have e:b.f kb=b.f y->dm tt.n tt.L (tt.p+w<=·) (rs++[cT (a.f ka) (b.f kb)]) (2*f+6):=fun B=>(H.again (r:=cT (a.f ka) (b.f kb)) (by rw[A,B];exact z) s t m).more (Kl);cases x with
  |c2=>exact e rfl
  |is=>exact e rfl
  |b4=>
   have k:kb+1<=w:=k;refine H.unit (l:=tt.p+kb) (by unfold T.n;exact DG aF k) ?_ (fun r u=>fb r u kb (cu _) (aog _)) s t m;unfold cT;rw[(g.rm E aF (q:=kb) (KZ aF k) (.inr i)).1];show (0-un (f3 kb) (tt.L (tt.p+kb))).natAbs=1;rw[c];rfl
 cases v with
 |c2=>exact d rfl
 |is=>exact d rfl
 |b4=>
  have j:ka+1<=w:=j;have i:ka+1<=kb:=i;refine H.unit (l:=tt.p+ka) (by unfold T.n;exact DG aF j) ?_ (fun r u=>fa r u ka (cu _) (aog _)) s t m;unfold cT;rw[(h.rm E aF (q:=ka) (KZ aF j) (.inl i)).1];show (un (f3 ka) (tt.L (tt.p+ka))-0).natAbs=1;rw[c];rfl
theorem ai5(H:dm tt.n tt.L (tt.p+w<=·) rs f)(h:In tt o w t k)(y:cM 1 t)(g:∀r∈rs,∀q,k<=q->q<k+t.nn->r (tt.L (tt.p+q))=0){k1:Nat}(m:∀r∈t.r k1,r∈rs)(s:2*(2*f+6)<=iY):dm tt.n tt.L (tt.p+w<=·) (rs++t.r k) (2*(2*f+6)+6):=by
 have u:=h.aa;cases y.bv (tt:=tt) (o:=o) (w:=w) with
 |nil e=>rw[e,il];exact H.more (by simp +arith)
 |one a b i O hi hn e=>
  rw[hn]at g;rw[e]at m ⊢;exact(aoS E aF H (hi k h).1 (hi k h).2 i O (cu _) (fun r hr q ay az=>g r hr q ay (fr az (by simp +arith))) (fun r hr q ay az=>g r hr q (fr ay (by simp +arith)) (fr az (by simp +arith))) (m _ (c3.mpr rfl)) (fr s (by simp +arith))).more (by simp +arith)
 |two a b c d i O z A hi hn e=>
  rw[hn]at g u;rw[e]at m ⊢;have ay:=aoS E aF H (hi k h).1.1 (hi k h).1.2 i O (cu _) (fun r hr q ay az=>g r hr q ay (fr az (by simp +arith))) (fun r hr q ay az=>g r hr q (fr ay (by simp +arith)) (fr az (by simp +arith))) (m _ cW) (fr s (by simp +arith));have v:∀r∈rs++[cT (a.f k) (b.f (k+a.nn))],∀q,k+a.nn+b.nn<=q->q<k+(a.nn+b.nn+(c.nn+d.nn))->r (tt.L (tt.p+q))=0:=fun r hr q j l=>by
   rcases eM.mp hr with hr|hr
   ·exact g r hr q (fr j (by simp +arith)) l
   ·have x:q<tt.nn:=an9 l (ax u aF);rw[c3.mp hr];unfold cT;rw[((hi k h).1.1.rm E aF x (.inr (fr j (by simp +arith)))).1,((hi k h).1.2.rm E aF x (.inr j)).1];rfl
  rw[TU];exact aoS E aF ay (hi k h).2.1 (hi k h).2.2 z A (cu _) (fun r hr q j l=>v r hr q j (fr l (by simp +arith))) (fun r hr q j l=>v r hr q (fr j (by simp +arith)) (fr l (by simp +arith))) (sV _ (m _ (dM _ cW))) s
theorem ai6(H:lu tt.n tt.L (tt.p+w<=·) rs)(h:In tt o w t k)(x:cM 2 t):dm tt.n tt.L (tt.p+w<=·) (rs++t.r k) 66:=by
 have g:=h.aa;have nil:dm tt.n tt.L (tt.p+w<=·) (rs++[]) 66:=by rw[il];exact H.toN.more (Ao)
 have q:∀{rs a b ka kb},dm tt.n tt.L (tt.p+w<=·) rs 0->In tt o w a ka->In tt o w b kb->cM 1 a->cM 1 b->dm tt.n tt.L (tt.p+w<=·) (rs++[cT (a.f ka) (b.f kb)]) 12:=fun {rs a b ka kb} H i j s1 y=>
  H.nB (ax (uF (s1.iZ E aF i) (y.iZ E aF j)) (by decide)) (sP E aF i j) (by decide)
 cases x with
 |c2=>exact nil
 |b4=>exact nil
 |is=>exact nil
 |pow e z=>exact(wU E aF H (t:=a) ⟨h.ok.1,g⟩ e).toN.more (Ao)
 |@bin n0 o0 a b e O=>
  have g:k+(a.nn+b.nn)<=w:=g;have i:In tt o w a k:=⟨h.ok.1,(aoO g)⟩;have j:In tt o w b (k+a.nn):=⟨h.ok.2,(Ap g)⟩;have l:=wU E aF (wU E aF H i e) j O;rw[ek]at l;have m:=(q l.toN i j e O).more (f':=66) (z4 rfl);rw[ek]at m;cases o0 with
  |times V=>exact l.toN.more (Ao)
  |over=>exact l.toN.more (Ao)
  |plus=>exact m
  |minus=>exact m
 |less e O s u=>
  have g:k+(a.nn+b.nn+(c.nn+d.nn))<=w:=g;have i:In tt o w a k:=⟨h.ok.1,(UR g)⟩;have j:In tt o w b (k+a.nn):=⟨h.ok.2.1,(UQ g)⟩;have ae:In tt o w c (k+a.nn+b.nn):=⟨h.ok.2.2.1,(KY g)⟩;have v:In tt o w d (k+a.nn+b.nn+c.nn):=⟨h.ok.2.2.2,(UP g)⟩;have l:=q (wU E aF (wU E aF H i e) j O).toN i j e O;have m:=l.any (r:=cT (c.f (k+a.nn+b.nn)) (d.f (k+a.nn+b.nn+c.nn))) (ax (uF (s.iZ E aF ae) (u.iZ E aF v)) (by decide)) (sP E aF ae v) (by decide);show dm _ _ _ (rs++(a.r k++b.r (k+a.nn)++c.r (k+a.nn+b.nn)++d.r (k+a.nn+b.nn+c.nn)++[cT (a.f k) (b.f (k+a.nn))]++[cT (c.f (k+a.nn+b.nn)) (d.f (k+a.nn+b.nn+c.nn))])) _;rw[nu s,nu u,il,il];simp only[ek]at m ⊢;exact m
end
section
variable {tt:T}{o:Nat->Str}{w:Nat}{rs:List (Str->Int)}{f:Nat}(E:er tt.n tt.L o)(aF:w<=tt.nn)
include E aF
variable {hN:Nat}{t t0:T}
theorem lW.iZ(c:lW hN t0):∀{k},In tt o w t0 k->N tt.n (fun l=>(t0.f k (tt.L l)).natAbs)<=16:=by
 induction c with
 |base d=>exact fun h=>d.iZ E aF h
 |plus a O ih=>intro k h;have b:k+(t.nn+s.nn)<=w:=h.aa;exact ih (k:=k) ⟨h.ok.1,(aoO b)⟩
 |less a O ih=>
  intro k h;have b:k+(s.nn+1+(t.nn+s.nn))<=w:=h.aa;exact ih (k:=k+s.nn+1) ⟨h.ok.2.2.1,by exact K7 b⟩
theorem R7(G:lW hN t0):hN<=3->∀{rs k},lu tt.n tt.L (tt.p+w<=·) rs->In tt o w t0 k->(∀r∈rs,∀q,k<=q->q<k+t0.nn->r (tt.L (tt.p+q))=0)->dm tt.n tt.L (tt.p+w<=·) (rs++t0.r k) (wT hN):=by
 have g:iY=37748730:=rfl;have A:∀i,i+1<=3->64*wT i+378<=18874362:=fun i hi=>by
  have:i=0\/i=1\/i=2:=by exact UU hi
  rcases this with rfl|rfl|rfl<;>decide
 induction G with
 |base j=>exact fun hi rs k H h V=>ai6 E aF H h j
 |plus c O ih=>
  intro hi rs k H h d;have a:k+(t.nn+s.nn)<=w:=h.aa;have ht:In tt o w t k:=⟨h.ok.1,(aoO a)⟩;have j:In tt o w s (k+t.nn):=⟨h.ok.2,(Ap a)⟩;have bL:=A i hi;have y:=ai4 E aF (ih (K6 hi) H ht fun r ay q az b=>d r ay q az (by show q<k+(t.nn+s.nn);exact Kx b)) j O (fr (aG (bx g.symm) bL) (by simp +arith));have u:=y.any (r:=cT (t.f k) (s.f (k+t.nn))) (ax (uF (c.iZ E aF ht) (O.iZ E aF j)) (by decide)) (sP E aF ht j) (fr (aG (bx g.symm) bL) (by simp +arith));show dm _ _ _ (rs++(t.r k++s.r (k+t.nn)++[cT (t.f k) (s.f (k+t.nn))])) (64*wT i+378);simp only[ek]at u ⊢;exact u.more (by simp +arith)
 |less c O ih=>
  intro hi rs k H h d;have a:k+(s.nn+1+(t.nn+s.nn))<=w:=h.aa;have d:∀r∈rs,∀q,k<=q->q<k+(s.nn+1+(t.nn+s.nn))->r (tt.L (tt.p+q))=0:=d;have m:In tt o w s k:=⟨h.ok.1,(fr a (by simp +arith))⟩;have B:In tt o w .b4 (k+s.nn):=⟨trivial,by show k+s.nn+1<=w;exact(fr a (by simp +arith))⟩;have v:In tt o w t (k+s.nn+1):=⟨h.ok.2.2.1,(K7 a)⟩;have x:In tt o w s (k+s.nn+1+t.nn):=⟨h.ok.2.2.2,(fr a (by simp +arith))⟩;have bL:=A i hi;have y:=wU E aF H m O;have C:∀r∈rs++s.r k,∀q,k+s.nn<=q->q<k+(s.nn+1+(t.nn+s.nn))->r (tt.L (tt.p+q))=0:=fun r ay q az b=>by
   rcases eM.mp ay with ay|ay
   ·exact d r ay q (Am az) b
   ·exact(m.rm E aF (q:=q) (K5 aF a b) (.inr az)).2 r ay
  have u:=ih (K6 hi) y v fun r ay q az b=>C r ay q (rq az) (fr b (by simp +arith));have D:∀r∈rs++s.r k++t.r (k+s.nn+1),∀q,q=k+s.nn\/k+s.nn+1+t.nn<=q->q<k+(s.nn+1+(t.nn+s.nn))->r (tt.L (tt.p+q))=0:=fun r ay q az b=>by
   rcases eM.mp ay with ay|ay
   ·exact C r ay q (az.elim (fun z=>fr (bx z.symm) (by simp +arith)) fun z=>fr z (by simp +arith)) b
   ·exact(v.rm E aF (q:=q) (K5 aF a b) (az.imp (fun e=>SI (bx e)) id)).2 r ay
  have I:=ai5 E aF u x O (fun r ay q az b=>D r ay q (.inr az) (fr b (by simp +arith))) (k1:=k) (fun r d=>sV _ (ho _ d)) (fr (aG (bx g.symm) bL) (by simp +arith));have J:∀r∈rs++s.r k++t.r (k+s.nn+1)++s.r (k+s.nn+1+t.nn),r (tt.L (tt.p+(k+s.nn)))=0:=fun r ay=>by
   rcases eM.mp ay with ay|ay
   ·exact D r ay _ (.inl rfl) (by simp +arith)
   ·exact(x.rm E aF (q:=k+s.nn) (K4 aF a) (.inl (by simp +arith))).2 r ay
  have K:=I.unit (r:=cT (s.f k) (T.b4.f (k+s.nn))) (l:=tt.p+(k+s.nn)) (by unfold T.n;exact fr (aG aF a) (by simp +arith)) (by
   unfold cT;rw[(m.rm E aF (q:=k+s.nn) (K4 aF a) (.inr (cu _))).1];show (0-un (f3 (k+s.nn)) (tt.L (tt.p+(k+s.nn)))).natAbs=1;rw[lR,show un (f3 (k+s.nn)) (f3 (k+s.nn))=1 from bl rfl];rfl) J (ax (uF (O.iZ E aF m) (cM.iZ E aF (.b4 (n:=0)) B)) (by decide)) (sP E aF m B) (fr (aG (bx g.symm) bL) (by simp +arith))
  have F:=K.any (r:=cT (t.f (k+s.nn+1)) (s.f (k+s.nn+1+t.nn))) (ax (uF (c.iZ E aF v) (O.iZ E aF x)) (by decide)) (sP E aF v x) (fr (aG (bx g.symm) bL) (by simp +arith));show dm _ _ _ (rs++(s.r k++[]++t.r (k+s.nn+1)++s.r (k+s.nn+1+t.nn)++[cT (s.f k) (T.b4.f (k+s.nn))]++[cT (t.f (k+s.nn+1)) (s.f (k+s.nn+1+t.nn))])) (64*wT i+378);rw[il];simp only[ek]at F ⊢;exact F.more (by simp +arith)
omit E aF in
theorem jr.un(h:jr t):∀k,t.f k=un (f3 k):=by
 induction h with
 |b4=>exact fun k=>rfl
 |plus a O b c=>exact fun k=>b k
theorem ai8(h:jr t):∀{rs k},dm tt.n tt.L (tt.p+w<=·) rs f->w<=k->k+t.nn<=tt.nn->2*f<=iY->dm tt.n tt.L (tt.p+w<=·) (rs++t.r k) f:=by
 induction h with
 |b4=>intro rs k H V V V;rw[show T.b4.r k=[] from rfl,il];exact H
 |plus c O j m=>
  intro rs k H d hn e;have hn:k+(a.nn+b.nn)<=tt.nn:=hn;have ay:=c.sz;have az:=O.sz;have o:=m (k:=k+a.nn) (j H d (aoO hn) e) (al2 d) (Ap hn) e;have g:=o.wide (r:=cT (a.f k) (b.f (k+a.nn))) (x:=tt.p+k) (y:=tt.p+(k+a.nn)) ⟨by unfold T.n;exact K3 hn az,(Nat.add_le_add_iff_left.mpr d)⟩ ⟨by unfold T.n;exact K2 hn az,(fr d (by simp +arith))⟩ (fun l i=>by
   unfold cT;rw[c.un,O.un,<- lR tt k,<- lR tt (k+a.nn),zD E (by unfold T.n;exact K3 hn az) i,zD E (by unfold T.n;exact K2 hn az) i]) e
  show dm _ _ _ (rs++(a.r k++b.r (k+a.nn)++[cT (a.f k) (b.f (k+a.nn))])) f;simp only[ek]at g ⊢;exact g
end
inductive zE:T->Prop
 |no {i:Nat} {t:T}:i<=3->lW i t->zE t
 |wide {i:Nat} {t s:T}:i<=3->lW i t->jr s->zE (.bin .minus t s)
theorem R9(h:i<=3):wT i<=18874362:=by
 have:i=0\/i=1\/i=2\/i=3:=by exact UT h
 rcases this with rfl|rfl|rfl|rfl<;>decide
theorem zE.safe{tt:T}(h:zE tt)(E:er tt.n tt.L o)(v:tt.ok (·∈tt.dL) (bC o))(F:tt.m<=1000):wB tt.n tt.m (fun i j=>tt.R i (tt.L j)) 37800000/\∀j<tt.n,(tt.f 0 (tt.L j)).natAbs<=1000:=by
 have d:iY=37748730:=rfl;have hn:tt.n<=2^6:=ax (et E.oK) (by decide);cases h with
 |no hi b=>
  have ht:In tt o tt.nn tt 0:=⟨v,(K1)⟩;have H:=R7 E (cu _) b hi lu.nil ht (fun r w=>eO w);rw[I3]at H;obtain⟨ks,q,V⟩:=H;exact⟨q.safe hn F (by have:=R9 hi;exact fr (aG (bx d.symm) this) (by simp +arith)),fun j y=>ax (B9 y fun l=>(tt.f 0 (tt.L l)).natAbs) (ax (b.iZ E (cu _) ht) (by decide))⟩
 |wide hi b z=>
  generalize c:T.bin .minus t s=tt at *
  have A:tt.nn=t.nn+s.nn:=by rw[<- c];rfl
  have aF:t.nn<=tt.nn:=(IS (id (gW A)));have G:t.ok (·∈tt.dL) (bC o):=by rw[<- c]at v;rw[<- c];exact v.1
  have ht:In tt o t.nn t 0:=⟨G,(K1)⟩;have I:=z.sz;have H:=R7 E aF b hi lu.nil ht (fun r w=>eO w);rw[I3]at H;have B:=R9 hi;have J:=ai8 E aF z (k:=t.nn) H (cu _) (bx (id (gW A))) (K0 d B);have u:tt.p+t.nn<tt.n:=by unfold T.n;exact fr (aG (bx A.symm) I.2.2) (by simp +arith)
  have C:∀l<tt.n,cT (t.f 0) (s.f t.nn) (tt.L l)=t.f 0 (tt.L l)-bJ (some (tt.p+t.nn)) l:=fun l a=>by
   unfold cT;rw[z.un,<- lR tt t.nn,zD E u a]
  have h0:∀l<tt.n,tt.p+t.nn<=l->t.f 0 (tt.L l)=0:=fun l a D=>(ht.aoU E aF l a D).1;obtain⟨ks,q⟩:=J.join (r:=cT (t.f 0) (s.f t.nn)) (x:=tt.p+t.nn) ⟨u,cu _⟩ (by rw[C _ u,h0 _ u (cu _)];unfold bJ;rw[bl rfl];rfl) (fun l a K D=>by
   rw[C l a,h0 l a D];unfold bJ;rw[b5 fun e=>K (dp e).symm];rfl) (by
   refine ax (mG (g:=fun l=>(t.f 0 (tt.L l)).natAbs+(bJ (some (tt.p+t.nn)) l).natAbs) fun l a=>by rw[C l a];exact zO _ _) ?_;rw[wQ];exact ax (aG (b.iZ E aF ht) (wR _ _)) (by decide)) (K0 d B)
  have M:tt.r 0=t.r 0++s.r t.nn++[cT (t.f 0) (s.f t.nn)]:=by
   rw[<- c];show t.r 0++s.r (0+t.nn)++[cT (t.f 0) (s.f (0+t.nn))]=_;rw[mT]
  rw[<- M]at q;refine⟨q.safe hn F (fr (aG (bx d.symm) (cE 2 B)) (by simp +arith)),fun j y=>?_⟩;have N:tt.f 0=t.f 0:=by rw[<- c];rfl
  rw[N];exact ax (B9 y fun l=>(t.f 0 (tt.L l)).natAbs) (ax (b.iZ E aF ht) (by decide))
theorem cM.sz{n:Nat}(h:cM n t):t.ht<=n+1/\t.all.length<=5^n:=by
 induction h with
 |c2=>exact⟨pZ _ _,kI (by decide)⟩
 |b4=>exact⟨pZ _ _,kI (by decide)⟩
 |is=>exact⟨pZ _ _,kI (by decide)⟩
 |@pow n0 a k h aa ih=>have:1<=5^n0:=kI (by decide);rw[nQ];simp only[q8,q9,q',rb,rd,re,pP,pQ,pR,pS,pT,pU,aoc];exact⟨fr ih.1 (by simp +arith),fr (aG ih.2 this) (by simp +arith)⟩
 |@bin n0 o0 a b an1 O i1 i2=>have:1<=5^n0:=kI (by decide);rw[nQ];simp only[q8,q9,q',rb,rd,re,pP,pQ,pR,pS,pT,pU,aoc,bW];exact⟨gK (fr i1.1 (by simp +arith)) (fr i2.1 (by simp +arith)),fr (aG (aG i1.2 i2.2) this) (by simp +arith)⟩
 |@less n0 a b c d an1 O ag av i1 i2 e f=>
  have:1<=5^n0:=kI (by decide);have:5^(n0-1)<=5^n0:=hV (by decide) (kH _ _);rw[nQ];simp only[q8,q9,q',rb,rd,re,pP,pQ,pR,pS,pT,pU,aoc,bW];exact US i1 i2 e f (by assumption) this
theorem aja(h:cM 2 t):t.nn<=10:=by
 cases h with
 |c2=>exact d4 _
 |b4=>show 1<=10;decide
 |is=>exact d4 _
 |pow h d=>exact ax h.nn (by decide)
 |bin a O=>exact ax (aG a.nn O.nn) (by decide)
 |less a O b c=>exact ax (aG (aG a.nn O.nn) (aG b.nn c.nn)) (by decide)
theorem lW.sz{hN:Nat}{t0:T}(h:lW hN t0):t0.ht<=3+hN/\t0.all.length<=25+12*hN/\t0.nn<=10+9*hN:=by
 induction h with
 |base a=>exact⟨a.sz.1,a.sz.2,aja a⟩
 |plus b O ih=>
  have e:(T.bin .plus t s).all.length=t.all.length+s.all.length+1:=by show (_::(t.all++s.all)).length=_;rw[aoc,bW]
  exact⟨gK (fr ih.1 (by simp +arith)) (fr O.sz.1 (by simp +arith)),e▸fr (aG ih.2.1 O.sz.2) (by simp +arith),fr (aG ih.2.2 O.nn) (by simp +arith [aoP,zm,zn,zo,zp,zq])⟩
 |less b O ih=>
  have e:(T.less s .b4 t s).all.length=s.all.length+(1+(t.all.length+s.all.length))+1:=by show (_::(s.all++([_]++(t.all++s.all)))).length=_;rw[aoc,bW,bW,bW];rfl
  exact⟨gK (gK (fr O.sz.1 (by simp +arith)) (by simp +arith [q8,q9,q',rb,rd,re])) (gK (fr ih.1 (by simp +arith)) (fr O.sz.1 (by simp +arith))),e▸fr (aG ih.2.1 (cE 2 O.sz.2)) (by simp +arith),fr (aG ih.2.2 (cE 2 O.nn)) (by simp +arith [aoP,zm,zn,zo,zp,zq])⟩
noncomputable def zF(x:Nat)(ss:dH):dH:=match x with
 |0=>.nil
 |n+1=>match ss with
  |.nil=>.nil
  |.cons s ss=>.cons s (zF n ss)
noncomputable def wV(x:Nat)(ss:dH):dH:=match x with
 |0=>ss
 |n+1=>match ss with
  |.nil=>.nil
  |.cons s ss=>wV n ss
inductive oS (J:a'->ah->Prop):fJ->a'->ah->Prop
 |mk {ρ:a'} {σ:ah} (aN:a') (h:bV ρ=bV aN) (ok:cY aN) (j:J aN σ):oS J .next ρ σ
variable {J:a'->ah->Prop}
theorem oS.nx{f:fJ}(h:oS J f ρ σ):Oy f=true:=by cases h;rfl
theorem Sa{K:fJ->a'->ah->Prop}(n:Nat):∀(body:dH) {ρ:List an2} {σ:ah},cO (cF c (zF n body) ρ σ) (oS J) X ->
  (∀aN aj,cY aN->J aN aj->cO (cF c (wV n body) (bV aN) aj) K X)->cO (cF c body ρ σ) K X:=by
 have a:∀(body:dH) {ρ:List an2} {σ:ah},(∃aN:a',cY aN/\ρ=bV aN/\oS J .next aN σ)->(∀aN aj,cY aN->J aN aj->cO (cF c body (bV aN) aj) K X)->cO (cF c body ρ σ) K X:=fun body ρ σ h k=>by
  refine fS h fun aN V e b=>?_;cases b with
  |mk d O ok j=>rw[e,O];exact k d σ ok j
 induction n with
 |zero=>exact fun body ρ σ h k=>a body h k
 |succ n ih=>
  intro body ρ σ h k;cases body with
  |nil=>exact a .nil h k
  |cons s ss=>
   have h:cO ((rP c s ρ σ).gz fun r aj=>match r.1 with
    |.next=>cF c (zF n ss) r.2 aj
    |f=>.ok (f,r.2) aj) (oS J) X:=h
   show cO ((rP c s ρ σ).gz fun r aj=>match r.1 with
    |.next=>cF c ss r.2 aj
    |f=>.ok (f,r.2) aj) K X
   generalize rP c s ρ σ=r at h;cases r with
   |bad=>exact h
   |ok p au=>
    obtain⟨f,g⟩:=p;cases f with
    |next=>exact ih ss h k
    |ret v=>obtain⟨aN,V,V,b⟩:=h;exact l5 (show false=true from b.nx)
theorem H8{ns:List Int}(h:ns.length<=63){i:Int}(k:Nat)(e:i=(k:Int))(a:k<=1000)(d:Nat)(σ:ah):bF G (d+1) "_law_cell_at" [.lst (ns.map .int),.int i] σ=.ok (.int (fO ns k)) σ:=e▸aeV h k a d σ
theorem Sb(cell:Int){i:Int}(many:Nat)(e:i=(many:Int))(a:many<=1000)(d:Nat)(σ:ah):bF G (d+1) "_law_words" [.int cell,.int i] σ=.ok (.lst (fu many (bg cell))) σ:=e▸ae3 cell many a d σ
noncomputable def ae(s:Str):Nat:=s.cps.toList.head?.getD 0
theorem H9(cell:Int)(k:Nat):97<=ae (bg cell k):=by
 refine bZ (ae8 cell k) fun c r h a=>?_;unfold ae;rw[h];exact a
theorem Sc(cell:Int)(k:Nat):bg cell k≠(⟨#[]⟩:Str):=fun e=>by have:=H9 cell k;rw[e]at this;exact dk this (by decide)
theorem uG(cell:Int){i j:Nat}(h:i<j)(a:j<26):bg cell i≠bg cell j:=fun e=>by have:=ae7 (jt h a) a e;exact((ff (aG h (bx this.symm)) (by simp +arith))).elim
theorem Sd(y:Int):dT (bC (bg y)):=⟨wI fun i j a O=>uG y a (La O),by unfold bC;rw[a0,an5];decide,fun k b=>by obtain⟨i,hi,rfl⟩:=lp.mp b;exact Sc y i⟩
theorem Se(y cell:Int)(d:Nat)(σ:ah):∃f,bF G (d+2) "_law_small" [.int cell,.lst (fu 4 (bg y))] σ=.ok (aR (aA (bC (bg y)) f)) σ/\(∀k,k∉bC (bg y)->f k=0)/\∀k,(f k).natAbs<=20:=by
 refine fS (aig (Sd y) (n:=4) (by decide) (by decide) (o:=bg y) (fun j a=>lp.mpr ⟨j,a,rfl⟩) cell d σ) fun f b O c=>?_;exact⟨f,b,fun k g=>O k fun j a e=>g (lp.mpr ⟨j,a,e⟩),c⟩
def js(x y:Int)(c:Nat->Str->Int)(k:Nat):List (Str×an2):=ba k (bg x) fun i=>aR (aA (bC (bg y)) (c i))
structure k3 (y:Int)(k:Nat)(c:Nat->Str->Int):Prop where
 z:∀i<k,∀s,s∉bC (bg y)->c i s=0
 b:∀i<k,∀s,(c i s).natAbs<=20
theorem k3.ch{c:Nat->Str->Int}(h:k3 y 5 c){σ:ah}{a:Nat}{b:Bool}(e:σ[a]?=some (.dict b (js x y c 5))):nH σ a (bg y) (bg x) c:=⟨⟨b,e⟩,fun i j d O=>uG x d (xk O),h.z,h.b⟩
def jf(sv:an2)(x y:Int)(a:Nat)(D:Int)(g:Str->Int)(t:T)(gs:List (Str->Int))(u:Int)(z:Option an2):a':=.eV 21 [some sv,some (.lst (fu 5 (bg x))),some (.lst (fu 4 (bg y))),some (.ref a),none,some (.int D),some (aR (aA (bC (bg y)) g)),some (bT (bC (bg y)) t),some (.lst (gs.map (gT (bC (bg y))))),some (.int u),none,none,z]
theorem CM{D:Int}{gs:List (Str->Int)}{z:Option Int}:cY (jf (.lst l) x y a D g t gs u (z.map an2.int)):=pD (by
 show (bif e8 (bT (bC (bg y)) t) then false else yO [some (.lst (gs.map (gT (bC (bg y))))),some (.int u),none,none,z.map an2.int])=true;rw[sB];cases z<;>rfl)
theorem ajb(a:p8 i ρ.len=true)(O:p8 j ρ.len=true)(o:Nat->Str)(t:T)(gs:List (Str->Int)):iR (.many [i,j]) (lq o t gs) ρ=some (.upd (.upd ρ i (bT (bC o) t)) j (.lst (gs.map (gT (bC o))))):=by
 have c:jl ρ i (bT (bC o) t)=some (.upd ρ i (bT (bC o) t)):=by unfold jl;rw[a,sB];rfl
 have d:jl (.upd ρ i (bT (bC o) t)) j (.lst (gs.map (gT (bC o))))=some (.upd (.upd ρ i (bT (bC o) t)) j (.lst (gs.map (gT (bC o))))):=by unfold jl;rw[show p8 j (a'.upd ρ i (bT (bC o) t)).len=true from O];rfl
 show (jl ρ i (bT (bC o) t)).bind (fun aN=>(jl aN j (.lst (gs.map (gT (bC o))))).bind fun b=>some b)=_;rw[c];show (jl (.upd ρ i (bT (bC o) t)) j (.lst (gs.map (gT (bC o))))).bind (fun b=>some b)=_;rw[d];rfl
theorem ajc(x:Int):∃D:Int,D<=(2:Nat)/\∀σ,eQ σ (.lst [.int 1,.int 2,.int 2,.int 2]) (.int (x.fmod 4))=some (.v (.int D)):=by
 have:=f0 x (n:=4) (by decide);have h:x.fmod 4=0\/x.fmod 4=1\/x.fmod 4=2\/x.fmod 4=3:=by exact UW this
 rcases h with h|h|h|h<;>rw[h]
 ·exact⟨1,by decide,fun V=>rfl⟩
 ·exact⟨2,by decide,fun V=>rfl⟩
 ·exact⟨2,by decide,fun V=>rfl⟩
 ·exact⟨2,by decide,fun V=>rfl⟩
noncomputable def nI(a b:Int):Int:=if b<a then b else a
theorem Sf(x:Int):x.fmod 2=0\/x.fmod 2=1:=by
 have:=f0 x (n:=2) (by decide);exact UV this
structure zG (x y:Int)(c:Nat->Str->Int)(g:Str->Int)(t:T)(gs:List (Str->Int)):Prop where
 aH:k3 y 5 c
 dB:∀k,k∉bC (bg y)->g k=0
 kz:∀k,(g k).natAbs<=20
 h8:c9 (bg y) (bg x) c 60 g t gs
abbrev Sg(sv:an2)(σ:ah)(ρ:a')(τ:ah):Prop:=∃x y c g D t gs u i,ρ=jf sv x y σ.length D g t gs u none/\τ=σ++[.dict false (js x y c 5)]/\i<=3/\lW i t/\zG x y c g t gs
abbrev ajd(x y:Int)(σ:ah)(k:Nat)(au:ah):Prop:=k<=5/\∃c,au=σ++[.dict false (js x y c k)]/\k3 y k c
abbrev aje(sv:an2)(x y:Int)(σ:ah)(c:Nat->Str->Int)(g:Str->Int)(D u:Int)(done:List Nat)(ρ:a')(τ:ah):Prop:=τ=σ++[.dict false (js x y c 5)]/\∃t gs,ρ=jf sv x y σ.length D g t gs u none/\lW done.length t/\c9 (bg y) (bg x) c 60 g t gs
theorem ajf(k:Nat)(L:Nat->Str)(v:Nat->α)(w:α):ba k L v++[(L k,w)]=ba (k+1) L fun i=>if i<k then v i else w:=by
 unfold ba;rw[z6,hS];refine congr (dt (·++·) (i0 fun i hi=>?_)) ?_
 ·dsimp only;rw[bl (eE.mp hi)]
 ·show [_]=[_];dsimp only;rw[b5 (kD k)]
theorem ajg(x y:Int)(c:Nat->Str->Int)(f:Str->Int){k:Nat}(a:k<5):b6 (js x y c k) (bg x k) (aR (aA (bC (bg y)) f))=js x y (fun i=>if i<k then c i else f) (k+1):=by
 rw[u8 fun w=>by
  unfold js at w;rw[sy]at w;refine aw (aoo.mp w) fun i hi e=>?_;exact uG x hi (xk a) e]
 unfold js;rw[ajf];refine dt (ba (k+1) (bg x)) (funext fun i=>?_);by_cases h:i<k
 ·rw[bl h];dsimp only;rw[bl h]
 ·rw[b5 h];dsimp only;rw[b5 h]
section
variable {c:bP}(at_:jT G 40 c){ns:List Int}(fM:ns.length<=63)
include at_ fM
set_option maxHeartbeats 400000 in
theorem ajh(σ:ah){X:Str->ah->Prop}:iz c (zF 9 mB.body) (.eV 21 [some (.lst (ns.map .int))]) σ (oS (Sg (.lst (ns.map .int)) σ)) X:=by
 have m:∀(k:Nat),k<=1000->∀(i:Int),i=(k:Int)->∀τ,bF G 40 "_law_cell_at" [.lst (ns.map .int),.int i] τ=.ok (.int (fO ns k)) τ:=fun k l i e τ=>H8 fM k e l 39 τ;have F:=m 0 (by decide) 0 rfl;have H:=m 1 (by decide) 1 rfl;have u:=m 7 (by decide) 7 rfl;have M:=m 8 (by decide) 8 rfl;have N:=m 9 (by decide) 9 rfl;have O:∀b:Bool,∀τ,bF G 40 "_law_cell_at" [.lst (ns.map .int),.int (if b then 1 else 0)] τ=.ok (.int (fO ns (if b then 1 else 0))) τ:=fun b τ=>by cases b;exact F τ;exact H τ
 refine aW at_ (F σ) ?_;refine aW at_ (Sb (fO ns 0) 5 rfl (by decide) 39 σ) ?_;refine aW at_ (H σ) ?_;refine aW at_ (O (decide ((fO ns 1).fmod 3 > 0)) σ) ?_;generalize fO ns (if decide ((fO ns 1).fmod 3 > 0)=true then 1 else 0)=y;generalize P:fO ns 0=x;refine aW at_ (Sb y 4 rfl (by decide) 39 σ) ?_;refine dg.const (ajd x y σ) ⟨d4 _,fun V V=>0,rfl,fun i hi=>dk hi (nM _),fun i hi=>dk hi (nM _)⟩ ?_ ?_
 ·rintro k v au Q ⟨R,a,rfl,j⟩;refine a3 fun d=>?_;refine bt (aoH (n:=5) Q) fun S l=>?_;subst S;refine fS (Se y (fO ns (k+2)) 38 (σ++[.dict false (js x y a k)])) fun f A B fb=>?_;refine d ?_;clear d;refine aW at_ (m (k+2) (fr l (by simp +arith)) (2+(k:Int)) (ro 2 _) _) ?_;refine aW at_ A ?_;refine cj (qk _ _ k (.str (bg x k)) (K9 l) (jW _ l)) ?_;refine gR (nq (by unfold js;rw[lN];exact K9 l) _ _) ?_;refine⟨_,by rfl,rfl,l,fun i=>if i<k then a i else f,?_,fun i hi s I=>?_,fun i hi s=>?_⟩
  ·rw[ajg x y a f l]
  ·split
   ·exact j.z i (by assumption) s I
   ·exact B s I
  ·split
   ·exact j.b i (by assumption) s
   ·exact fb s
 rintro au ⟨_,a,rfl,j⟩;have j:k3 y 5 a:=j;show iz c _ _ (σ++[bb.dict false (js x y a 5)]) _ _;have J:nH (σ++[bb.dict false (js x y a 5)]) σ.length (bg y) (bg x) a:=j.ch gQ;refine bt (aiK (Sd y) J) fun T U=>?_;refine aw (ajc (fO ns 7)) fun D W Y=>?_;refine aW at_ (u _) ?_;refine cj (Y _) ?_;refine cj (J.get (i:=0) (by decide)) ?_;refine aW at_ (M _) ?_;refine a3 fun d=>?_;refine fS (Se y (fO ns 8) 38 (σ++[.dict false (js x y a 5)])) fun f A B fb=>?_;refine d ?_;clear d;refine aW at_ A ?_;refine aW at_ (u _) ?_;obtain⟨g,dB,kz,Z⟩:∃g:Str->Int,(∀k,k∉bC (bg y)->g k=0)/\(∀k,(g k).natAbs<=20)/\eQ (σ++[.dict false (js x y a 5)]) (.lst [aR (aA (bC (bg y)) (a 0)),aR (aA (bC (bg y)) f)]) (.int (((fO ns 7).fdiv 4).fmod 2))=some (.v (aR (aA (bC (bg y)) g))):=by
  rcases Sf ((fO ns 7).fdiv 4) with e|e<;>rw[e]
  ·exact⟨a 0,j.z 0 (by decide),j.b 0 (by decide),rfl⟩
  ·exact⟨f,B,fb,rfl⟩
 refine cj Z ?_;refine aW at_ (N _) ?_;refine a3 fun d=>?_;obtain⟨t,gs,⟨t0,t1⟩,e6⟩:=U (fO ns 9) D 2 g 20 33 W dB kz;refine d ?_;clear d;refine aW at_ e6 ?_;refine an3.mk (ajb rfl rfl (bg y) t gs) ?_;refine cm (kN (n:=ns.length) (by rw[a0]) (fr fM (by simp +arith))) ?_;refine aW at_ (u _) ?_;obtain⟨V,K,C⟩:∃V:Int,(V=10\/V=13)/\∀τ,eQ τ (.lst [.int 10,.int 13]) (.int (((fO ns 7).fdiv 8).fmod 2))=some (.v (.int V)):=by
  rcases Sf ((fO ns 7).fdiv 8) with e|e<;>rw[e]
  ·exact⟨10,.inl rfl,fun V=>rfl⟩
  ·exact⟨13,.inr rfl,fun V=>rfl⟩
 refine cj (C _) ?_;have p:nI ns.length V<=13/\0<=nI ns.length V:=by unfold nI;split<;>(first | exact K8 K | exact⟨eY (hR.mp (by assumption)) (K8 K).1,rp _⟩)
 refine cm (w:=.v (.eP 10 (nI ns.length V))) (bl ⟨Do (eY (by decide) p.2) (eY p.1 (by decide)),by decide⟩) ?_;refine eB.pure (fun i:Nat=>an2.int (10+(i:Int))) (fun V=>true) (fun i=>.int (fO ns (10+i))) (bf (nI ns.length V-10).toNat) rfl rfl rfl (fun i hi=>⟨⟨rfl,rfl⟩,fun V=>aW at_ (m (10+i) (by have:=eE.mp hi;exact ax (fv (et (an9 this (Aq p))) 10) (by decide)) (10+(i:Int)) (Int.mem_toNat?.mp rfl) _) ⟨rfl,rfl⟩⟩) ?_ ?_
 ·rw[fP];exact b9 (by rw[a0,an5];exact ax (Aq p) (by decide))
 rw[fP];refine dg.listI (fun i:Nat=>an2.int (fO ns (10+i))) (bf (nI ns.length V-10).toNat) (aje (.lst (ns.map .int)) x y σ a g D (nI ns.length V)) (fun V ρ τ h=>by obtain⟨V,t,gs,rfl,V⟩:=h;exact CM (z:=none)) rfl ⟨jf (.lst (ns.map .int)) x y σ.length D g t gs (nI ns.length V) none,by rfl,rfl,t,gs,rfl,.base t0,t1⟩ ?_ ?_
 ·rintro done i L ρ τ he ⟨rfl,t,gs,rfl,q,r⟩;have af:done.length+1<=3:=by
   have:=dt w9 he;rw[bW,aoc,an5]at this;exact ax (fv (w0 (d4 _)) _) (ax (bx this) (Aq p))
  generalize fO ns (10+i)=cell;refine a3 fun d=>?_;obtain⟨s,CO,⟨E,s1⟩,s2⟩:=T (cell.fdiv 2) 1 2 g 20 34 (by decide) dB kz;refine d ?_;clear d;have s1:=s1.more (b':=60) (z4 rfl);have o:gs.length<=100/\CO.length<=100:=by rw[r.nn,s1.nn];exact⟨fr (aG q.sz.2.2 (cE 9 af)) (by simp +arith),ax E.nn (by decide)⟩
  refine aW at_ s2 ?_;refine bI.mk (fun e=>?_) fun e=>?_
  ·refine eh (oM _ _ _ (by rw[a0,a0];exact fr (aG o.1 o.2) (by simp +arith))) ?_;rw[<- hS];refine⟨jf (.lst (ns.map .int)) x y σ.length D g (.bin .plus t s) (gs++CO) (nI ns.length V) none,by rfl,rfl,_,_,rfl,?_,.sum (.inl rfl) r s1⟩;rw[bW];exact q.plus E
  ·refine eh (oM _ _ _ (by rw[a0];show _+1<=_;exact fr o.2 (by simp +arith))) ?_;refine eh (oM _ _ _ (by rw[bW,a0,a0];show _+1+_<=_;exact fr (aG o.1 o.2) (by simp +arith))) ?_;refine eh (oM _ _ _ (by rw[bW,bW,a0,a0];show _+1+_+_<=_;exact fr (aG o.1 (cE 2 o.2)) (by simp +arith))) ?_;refine⟨jf (.lst (ns.map .int)) x y σ.length D g (.less s .b4 t s) (CO++[g]++gs++CO) (nI ns.length V) none,?_,rfl,_,_,rfl,?_,.less s1 (.b4 dB fun k=>ax (kz k) (by decide)) r s1⟩
   ·unfold jf;rw[hS,hS,hS];rfl
   ·rw[bW];exact q.less E
 ·rintro ρ τ ⟨rfl,t,gs,rfl,q,r⟩;refine oS.mk (jf (.lst (ns.map .int)) x y σ.length D g t gs (nI ns.length V) none) rfl (CM (z:=none)) ⟨x,y,a,g,D,t,gs,nI ns.length V,_,rfl,rfl,?_,q,j,dB,kz,r⟩;rw[an5];exact Aq p
end
theorem ajj(σ:ah)(v:an2){i:Int}{m:Nat}(e:i=(m:Int))(a:m<=1000):kg σ .Mult (.lst [v]) (.int i)=some (.f (.list (eL m v))):=by
 subst e;show (if 0<=(m:Int)/\(m:Int)<=1000/\[v].length<=1000 then some (cL.f (.list ((eL (m:Int).toNat [v]).flatten))) else none)=_;rw[bl ⟨(KA),(ajT rfl rfl a),by simp⟩,TL];refine dt (fun l=>some (cL.f (.list l))) ?_;clear a
 induction m with
 |zero=>rfl
 |succ m ih=>rw[rx,List.flatten_cons,ih];rfl
structure Wz (t:T):Prop where
 fl:zE t
 ht:t.ht<=13
 sz:t.all.length<=200
 nn:t.nn<=49
theorem c9.wide{c:Nat->Str->Int}{b:Nat}(d:∀k,k∉bC o->g k=0)(e:∀k,(g k).natAbs<=b){s:T}(h:jr s):c9 o aP c b g s (eL s.nn g):=by
 induction h with
 |b4=>exact .b4 d e
 |@plus a zB an1 O i1 i2=>rw[show (T.bin .plus a zB).nn=a.nn+zB.nn from rfl,<- List.replicate_append_replicate];exact .sum (.inl rfl) i1 i2
abbrev Sh(sv:an2)(σ:ah)(ρ:a')(τ:ah):Prop:=∃x y c g D t gs u,∃z:Option Int,ρ=jf sv x y σ.length D g t gs u (z.map an2.int)/\τ=σ++[.dict false (js x y c 5)]/\Wz t/\zG x y c g t gs
section
variable {c:bP}(at_:jT G 40 c){ns:List Int}(fM:ns.length<=63)
include at_ fM
theorem ajl{σ τ:ah}{ρ:a'}(j:Sg (.lst (ns.map .int)) σ ρ τ){X:Str->ah->Prop}:iz c (zF 1 (wV 9 mB.body)) ρ τ (oS (Sh (.lst (ns.map .int)) σ)) X:=by
 obtain⟨x,y,f,g,D,t,gs,u,i,rfl,rfl,hi,h,H⟩:=j;have a:=h.sz;refine aW at_ (H8 fM 7 rfl (by decide) 39 _) ?_;refine bI.mk (fun e=>?_) fun e=>?_
 ·refine aW at_ (H8 fM 8 rfl (by decide) 39 _) ?_;refine aw (BN (fO ns 8) (n:=4) (by decide)) fun m b em=>?_;have em:9+(fO ns 8).fmod 4=((9+m:Nat):Int):=by
   have:(fO ns 8).fmod 4=(m:Int):=em;exact gW (an0 rfl (id (gW this)))
  refine a3 fun p=>?_;obtain⟨s,⟨l,d⟩,rs⟩:=aiQ (B:=bC (bg y)) (many:=9+m) (by simp +arith) (fr b (by simp +arith)) 39 (σ++[.dict false (js x y f 5)]);refine p ?_;clear p;rw[<- em]at rs;have ss:=l.sz;have o:=H.h8.nn;refine aW at_ rs ?_;refine eh (ajj _ _ em (fr b (by simp +arith))) ?_;refine eh (oM _ _ _ (by rw[a0,qa];exact fr (aG (aG (aG (cE 9 hi) a.2.2) b) (bx o)) (by simp +arith))) ?_;refine oS.mk (jf (.lst (ns.map .int)) x y σ.length D g (.bin .minus t s) (gs++eL s.nn g) u (some (.int (9+(fO ns 8).fmod 4)))) ?_ (CM (z:=some (9+(fO ns 8).fmod 4))) ⟨x,y,f,g,D,_,_,u,some (9+(fO ns 8).fmod 4),rfl,rfl,⟨.wide hi h l,?_,?_,?_⟩,H.aH,H.dB,H.kz,.sum (.inr rfl) H.h8 (.wide H.dB (fun k=>ax (H.kz k) (by decide)) l)⟩
  ·unfold jf;rw[hS,amc,d];rfl
  ·show 1+max t.ht s.ht<=13;exact gK (fr (aG a.1 hi) (by simp +arith)) (fr (aG ss.1 (aG (bx d) b)) (by simp +arith))
  ·show (T.bin .minus t s::(t.all++s.all)).length<=200;rw[aoc,bW];exact fr (aG (aG a.2.1 (cE 12 hi)) (aG (bx ss.2.1) (aG (cE 2 (bx d)) (cE 2 b)))) (by simp +arith)
  ·show t.nn+s.nn<=49;exact fr (aG (aG (aG (cE 9 hi) a.2.2) b) (bx d)) (by simp +arith)
 ·exact oS.mk (jf (.lst (ns.map .int)) x y σ.length D g t gs u none) rfl (CM (z:=none)) ⟨x,y,f,g,D,t,gs,u,none,rfl,rfl,⟨.no hi h,(fr (aG hi a.1) (by simp +arith)),(fr (aG (cE 12 hi) a.2.1) (by simp +arith)),(fr (aG (cE 9 hi) a.2.2) (by simp +arith))⟩,H⟩
end
theorem H'(a:Nat)(s:Str):ae ((⟨#[a]⟩:Str)++s)=a:=by
 unfold ae;rw[v7];rfl
theorem Si{t:Str}(h:(⟨#[a]⟩:Str)++s=(⟨#[a]⟩:Str)++t):s=t:=by
 have:=dt (fun x=>x.cps.toList) h;simp only[v7]at this;exact ae0 (alI this)
theorem Sj(w:Str):ae (le w)=61:=H' 61 w
theorem Sk(k:Nat):ae (f3 k)=48:=H' 48 _
theorem Sl(c:Nat):ae (Q c)=63:=H' 63 _
theorem ajn:∀i j:Fin 64,i.val<j.val->f3 i.val≠f3 j.val:=by decide +kernel
theorem ajo(t:T){i j:Nat}(h:i<j)(a:j<t.p):t.ns i≠t.ns j:=fun e=>by
 have:=CA t;unfold T.ns at e;rw[rj _ (show i<t.dL.length from jt h a),rj _ (show j<t.dL.length from a)]at e;exact List.pairwise_iff_getElem.mp this i j _ _ h e
theorem Ia(b:t.ok (fun w=>∃i,i<5/\bg x i=w) B):(∀w∈t.dL,∃i<5,bg x i=w)/\t.p<=5:=by
 have a:∀w∈t.dL,∃i<5,bg x i=w:=fun w aF=>by
  obtain⟨i,hi,e⟩:=Q1 t b _ (Q6.mp aF);exact⟨i,hi,e⟩
 refine⟨a,?_⟩;have:=D6 (CA t) (m:=(bf 5).map (bg x)) fun w aF=>aoo.mpr (a w aF);rw[a0,an5]at this;exact this
theorem ajp(k:t.ok (fun w=>∃i,i<5/\bg x i=w) (bC (bg y)))(hn:t.nn<=49):er t.n t.L (bg y):=by
 refine bt (Ia k) fun b l=>?_;have d:∀i,ae (t.L i)=61\/ae (t.L i)=48:=fun i=>by
  unfold T.L;split
  ·exact .inl (Sj _)
  ·exact .inr (Sk _)
 refine⟨by unfold T.n;exact(fr (aG hn l) (by simp +arith)),fun i j b O e=>?_,fun i j b O=>uG y b (La O),fun i hi j h e=>?_,fun i hi j h e=>?_,fun i hi j h e=>?_,fun i hi e=>?_,fun i hi=>Sc y i⟩
 ·have O:j<t.p+t.nn:=O;by_cases c:j<t.p
  ·rw[nG (KS b c),nG c]at e;exact ajo t b c (Si (a:=61) e)
  ·by_cases f:i<t.p
   ·have:=dt ae e;unfold T.L at this;rw[bl f,b5 c,Sj,Sk]at this;exact((ff (bx this) (by simp +arith))).elim
   ·unfold T.L at e;rw[b5 f,b5 c]at e;exact ajn ⟨i-t.p,(Lb hn (jt b O))⟩ ⟨j-t.p,(Lb hn O)⟩ (by show i-t.p<j-t.p;exact TC (kC f) b) e
 ·have:=d i;rw[e]at this;have:=H9 y j;exact(UX (by assumption) this).elim
 ·have:=d i;rw[e,Sl]at this;exact((this.elim (fun g=>ff (bx g) (by simp +arith)) fun g=>ff (bx g) (by simp +arith))).elim
 ·have:=H9 y i;rw[e,Sl]at this;exact((ff this (by simp +arith))).elim
 ·have:=d i;rw[e]at this;rcases this with q|q<;>exact dk q (by decide)
def lX(x:Int)(c:Nat->Str->Int)(t:T)(gs:List (Str->Int))(j:Nat):Str->Int:=if j<t.p then bL 5 (bg x) c (t.ns j) else gs.getD (j-t.p) fun V=>0
section
variable {x y:Int}{c:Nat->Str->Int}{g:Str->Int}{t:T}{gs:List (Str->Int)}
theorem Ic(d:t.ok (fun w=>∃i,i<5/\bg x i=w) (bC (bg y))){j:Nat}(b:j<t.p):∃i<5,t.ns j=bg x i/\lX x c t gs j=c i:=by
 refine aw ((Ia d).1 _ (CI b)) fun i hi e=>?_;refine⟨i,hi,e.symm,?_⟩;unfold lX;rw[bl b,<- e];exact rh (fun i j a O=>uG x a (xk O)) c hi
theorem Ie{k:Nat}(a:k<gs.length):lX x c t gs (t.p+k)=gs[k]:=by
 unfold lX;rw[b5 (Kw),l0,rj _ a]
theorem Sm(H:zG x y c g t gs){j:Nat}(b:j<t.n):(∃i<5,lX x c t gs j=c i)\/lX x c t gs j∈gs:=by
 by_cases q:j<t.p
 ·refine fS (Ic (c:=c) (gs:=gs) H.h8.ok q) fun i hi V e=>?_;exact .inl ⟨i,hi,e⟩
 ·refine bK (TS (kC q)) fun k d=>?_;subst d;have a:k<gs.length:=by rw[H.h8.nn];have:t.p+k<t.p+t.nn:=b;exact Nat.lt_of_add_lt_add_left this
  rw[Ie a];exact .inr (xd a)
theorem ajq(H:zG x y c g t gs):pV t.n (bg y) (lX x c t gs):=by
 refine⟨fun j a k d=>?_,fun j a k=>?_⟩
 ·rcases Sm H a with⟨i,hi,e⟩|e
  ·rw[e];exact H.aH.z i hi k d
  ·exact H.h8.dB _ e k d
 ·rcases Sm H a with⟨i,hi,e⟩|e
  ·rw[e];exact ax (H.aH.b i hi k) (by decide)
  ·exact ax (H.h8.kz _ e k) (by decide)
theorem ajr(H:zG x y c g t gs)(E:er t.n t.L (bg y))(l:t.ok (·∈t.dL) (bC (bg y))):(∀k,hj t.n t.L (lX x c t gs) (t.f 0) k=g k)/\∀r∈t.r 0,∀k,hj t.n t.L (lX x c t gs) r k=0:=by
 have m:CK (bg y) (hj t.n t.L (lX x c t gs)):=⟨fun f g=>funext fun k=>Rw f g k,fun f g=>funext fun k=>ah2 f g k,fun f n=>funext fun k=>Rx f n k,fun f o=>funext fun k=>ah3 E o k⟩;have ay:∀i<5,bg x i∈t.dL->hj t.n t.L (lX x c t gs) (un (le (bg x i)))=c i:=fun i hi aF=>by
  refine aw (zx aF) fun j b e=>?_;refine fS (Ic (c:=c) (gs:=gs) H.h8.ok b) fun h s u v=>?_;rw[<- e];funext k;rw[Ry E (by unfold T.n;exact qd b),v];rw[nG b,u]at e;have:=Si (a:=61) e;have:h=i:=by
   rcases z3 h i with q|q|q
   ·exact dk this (uG x q (xk hi))
   ·exact q
   ·exact dk this.symm (uG x q (xk s))
  rw[this]
 have az:wM (hj t.n t.L (lX x c t gs)) 0 gs:=fun i g' w=>by
  obtain⟨hi,e⟩:=dN.mp w;have hn:t.p+i<t.n:=by have:=H.h8.nn;unfold T.n;exact fr (aG hi (bx this)) (by simp +arith)
  rw[mT,<- lR t i];funext k;rw[Ry E hn,Ie hi,e]
 refine bt (H.h8.sv (hj t.n t.L (lX x c t gs)) (·∈t.dL) 0 m ay l az) fun d O=>?_;exact⟨fun k=>congrFun d k,fun r z k=>congrFun (O r z) k⟩
end
theorem Sn(bc:dT K'){u:Nat}{M:Nat->Str}(hi:∀i j,i<j->j<u->M i≠M j){F:Nat->Str->Int}(b:∀l∈K,(∀i<u,M i≠l)->l∈K'):∀l∈K,(cp (ba u M fun i=>aR (aA K' (F i))) l).getD (.tup [.tup [.str l,.int 1]])=aR (aA K' (bL u M F l)):=fun l c=>by
 by_cases h:∃i,i<u/\M i=l
 ·refine aw h fun i a d=>?_;subst d;rw[zv hi _ a,rh hi F a];rfl
 ·have h:∀i<u,M i≠l:=fun i a O=>h ⟨i,a,O⟩;rw[Rm h,wH h,<- CF bc (b l c h)];rfl
theorem ajs{a b:Str}{z:Int}:IntMulOk (un a b) z:=Px (by unfold un;split;exact .inr rfl;exact .inl rfl)
theorem ajt{i:Str->Prop}(t:T):t.ok W B->(∀w,.c2 w∈t.all->i w)->t.ok i B:=by
 induction t with
 |c2 w=>exact fun h q=>q w (c3.mpr rfl)
 |b4=>exact fun h q=>trivial
 |is n f=>exact fun h q=>h
 |bin o a b e g=>exact fun h q=>⟨e h.1 fun w aF=>q w (dM _ (sV _ aF)),g h.2 fun w aF=>q w (dM _ (ho _ aF))⟩
 |pow a n e=>exact fun h q=>⟨e h.1 fun w aF=>q w (dM _ aF),h.2⟩
 |less a b c d e g ae j=>
  exact fun h q=>⟨e h.1 fun w aF=>q w (dM _ (sV _ aF)),g h.2.1 fun w aF=>q w (dM _ (ho _ (sV _ aF))),ae h.2.2.1 fun w aF=>q w (dM _ (ho _ (ho _ (sV _ aF)))),j h.2.2.2 fun w aF=>q w (dM _ (ho _ (ho _ (ho _ aF))))⟩
abbrev So(K:List Str)(L:Nat->Str)(X:Nat->Str->Int)(n:Nat)(τ:ah)(k:Nat)(au:ah):Prop:=k<=n/\au=τ++[.dict false (ba k L fun j=>aR (aA K (X j)))]
theorem aju(E:er t.n t.L o){F:Nat->Str->Int}{e c:Nat}(ae:c<t.n)(bL:∀i<t.n,(F i (Q c)).natAbs<=2^e)(b:∀j<t.n,(t.f 0 (t.L j)).natAbs<=1000):(dK (eo t.n t.L o) fun l=>Mine.Internal.bL t.n t.L F l (Q c)*t.f 0 l).natAbs<=2^(e+20):=by
 have hn:=E.oK;rw[HJ,mC (n:=4) fun j a=>?_,aod]
 ·refine ax (Hc (W:=2^e*1000) fun i hi=>?_) ?_
  ·rw[rh E.iF _ hi,qb];exact p0 (bL i hi) (b i hi)
  ·rw[jw,TO];refine cE _ ?_;refine ax (mU 1000 (et hn)) (by decide)
 ·rw[wH fun i hi=>E.ia i hi j a];unfold un;rw[b5 fun q=>E.uz j a c ae q.symm,g0]
section
variable {c:bP}(at_:jT G 40 c){ns:List Int}(fM:ns.length<=63)
include at_ fM
set_option maxHeartbeats 800000 in
theorem ajv{σ τ:ah}{ρ:a'}{q:Str}(aC:σ[0]?=some (.tab q))(j:Sh (.lst (ns.map .int)) σ ρ τ){X:Str->ah->Prop}:iz c (wV 1 (wV 9 mB.body)) ρ τ (fun f V au=>left mB.keep σ (.ok (f,[]) au)=.ok (.bool true) σ) X:=by
 obtain⟨x,y,aH,g,D,t,gs,u,z,rfl,rfl,S,H⟩:=j;have E:=ajp H.h8.ok S.nn;refine bt (Ia H.h8.ok) fun ap Ig=>?_;have al:t.ok (·∈t.dL) (bC (bg y)):=ajt t H.h8.ok fun w aF=>Q6.mpr aF;have I:=S.nn;have e7:t.n=t.p+t.nn:=rfl;have R:nF (bC (bg y)) t 33:=⟨al,ax S.sz (by decide),(fr I (by simp +arith)),by show t.p<64;exact(fr Ig (by simp +arith)),fun w aF=>by obtain⟨i,V,rfl⟩:=ap w aF;exact ae9 _ _,ax S.ht (by decide)⟩;have hm:t.m<=1000:=ax (Ra t 0) (by have:=S.sz;exact fr (cE 2 this) (by simp +arith));obtain⟨W,dF⟩:∃W:Nat,W=37800000:=⟨_,rfl⟩;refine bt (S.fl.safe E al hm) fun T Sp=>?_;rw[<- dF]at T;have U:=ajq H;refine bt (ajr H E al) fun as sq=>?_;refine T3 (ah8 E R hm U (fun r hr k V=>sq r hr k) Sp (fr (bx dF) (by simp +arith)) T (q:=q) (σ:=σ++[.dict false (js x y aH 5)]) ((hQ (ie aC)).trans aC)) fun h P F B aS Z=>?_;have cS:=Z.hn;generalize Sq:lX x aH t gs=o at *
 have Sr:=H.h8.nn;have Ih:∀{f:Str->Int},(∀k,k∉bC (bg y)->f k=0)->aA (bC (bg y)) f=aA (c8 t.n (bg y)) f:=fun hf=>Hz E.ti.c7 E.oL.c7 (fun k d q=>dk (sM.mpr (.inl (lp.mp d))) q) fun k V q=>hf k q;have wl:∀k<t.p,("=":Str).length+(t.ns k).length<=1000000:=fun k d=>ax (fv (R.wl _ (CI d)) _) (by decide);have zl:∀k<t.nn,("0":Str).length+(ly (toString ((k:Nat):Int))).length<=1000000:=fun k d=>ax (fv (zt ⟨k,(Lc I d)⟩) _) (by decide);have rl:=aiT (sB t) (ur _ _ _) (ur _ _ _) (show kh ((bf t.nn).map fun k=>aR (aA (c8 t.n (bg y)) (d3 t.n h (bw t.n o B) F (t.p+k))))=true by rw[rQ];intro v J;obtain⟨k,V,rfl⟩:=dQ.mp J;exact hB _) (hB _) aS;refine aW at_ rl ?_;refine aW at_ (aiS E R h o F B 39 _) ?_;generalize qU:σ++[bb.dict false (js x y aH 5)]=τ at *
 have CN:∀r:ah,nH (τ++r) σ.length (bg y) (bg x) aH:=fun r=>H.aH.ch (b:=false) (by rw[<- qU,ek];exact j1 0 rfl);refine dg.const (So (c8 t.n (bg y)) t.L o t.p τ) ⟨d4 _,rfl⟩ ?_ ?_
 ·rintro k v au J ⟨wK,rfl⟩;refine bt (CH (show ((ba t.p t.ns fun i=>aR (aA (c8 t.n (bg y)) (d3 t.n h (bw t.n o B) F i))).map fun kv=>an2.str kv.1)[k]?=some v from J)) fun N d=>?_;subst N;refine fS (Ic (c:=aH) (gs:=gs) H.h8.ok d) fun i hi ak ar=>?_;rw[Sq]at ar;refine cj (w:=.v (aR (aA (c8 t.n (bg y)) (o k)))) (by rw[ak,(CN _).get hi,ar,Ih (H.aH.z i hi)]) ?_;refine eh (kj _ _ _ (wl k d)) ?_;refine gR (nq (by rw[lN];exact fr (aG Ig wK) (by simp +arith)) _ _) ?_;refine⟨_,by rfl,rfl,d,?_⟩;rw[show ("=":Str)++t.ns k=t.L k from (nG d).symm];exact dt (fun l=>τ++[bb.dict false l]) (q4 (CL E (fr (aG (bx e7.symm) d) (by simp +arith))) _)
 rintro au ⟨_,rfl⟩;rw[show ((ba t.p t.ns fun i=>aR (aA (c8 t.n (bg y)) (d3 t.n h (bw t.n o B) F i))).map fun kv=>an2.str kv.1).length=t.p by rw[a0,lN]];refine cm (kN (n:=t.nn) (by rw[a0,an5]) (Ar I)) ?_;refine cm (nr _ (by rw[xc];exact Ar I)) ?_;refine dg.const (fun k au=>k<=t.nn/\au=τ++[.dict false (ba (t.p+k) t.L fun j=>aR (aA (c8 t.n (bg y)) (o j)))]) ⟨d4 _,rfl⟩ ?_ ?_
 ·rintro k v au J ⟨wK,rfl⟩;refine bt (aoH J) fun N d=>?_;subst N;have hJ:k<gs.length:=(xi Sr d);have ar:o (t.p+k)=gs[k]:=by rw[<- Sq];exact Ie hJ
  refine cj (w:=.v (aR (aA (c8 t.n (bg y)) (o (t.p+k))))) (qk _ _ k _ (fr (aG I d) (by simp +arith)) (by rw[aob,uP hJ,ar];exact dt (fun m=>some (aR m)) (Ih (H.h8.dB _ (xd hJ))))) ?_;refine cm (uq _ (zu (Lc I d))) ?_;refine eh (kj _ _ _ (zl k d)) ?_;refine gR (nq (by rw[lN];exact fr (aG (aG Ig I) d) (by simp +arith)) _ _) ?_;refine⟨_,by rfl,rfl,d,?_⟩;rw[show ("0":Str)++ly (toString ((k:Nat):Int))=t.L (t.p+k) from (lR t k).symm];exact dt (fun l=>τ++[bb.dict false l]) (q4 (CL E (fr (aG (bx e7.symm) d) (by simp +arith))) _)
 rintro au ⟨_,rfl⟩;rw[yR];generalize Ss:τ++[bb.dict false (ba (t.p+t.nn) t.L fun j=>aR (aA (c8 t.n (bg y)) (o j)))]=A;have vS:∀r:ah,(A++r)[τ.length]?=some (.dict false (ba t.n t.L fun j=>aR (aA (c8 t.n (bg y)) (o j)))):=fun r=>by rw[<- Ss,ek];exact j1 0 rfl
 have sA:∀a b,a<b->b<t.n-h->Q a≠Q b:=fun a b a1 O=>E.sx a b a1 (Ks O);refine dg.const (So (c8 t.n (bg y)) Q (fun c=>bw t.n o B (h+c)) (t.n-h) A) ⟨d4 _,rfl⟩ ?_ ?_
 ·rintro k v au J ⟨wK,rfl⟩;refine bt (CH (show ((ba (t.n-h) Q fun c=>aR (aA (eo t.n t.L (bg y)) (val (q5 t.n t.L B (h+c))))).map fun kv=>an2.str kv.1)[k]?=some v from J)) fun N d=>?_;subst N;have M:=PN (K:=eo t.n t.L (bg y)) (K':=c8 t.n (bg y)) E.oL (val (q5 t.n t.L B (h+k))) (bL t.n t.L o) (v:=.ref τ.length) (σ:=A++[.dict false (ba k Q fun c=>aR (aA (c8 t.n (bg y)) (bw t.n o B (h+c))))]) (fun o'=>si (by rw[ek];exact vS _)) rfl (fun l C V=>Sn E.oL E.iF (fun l C q=>(ri.mp C).elim (fun ⟨i,hi,e⟩=>dk e (q i hi)) fun w=>sM.mpr (.inl w)) l C) (fun l C V s T=>by
   have:=Rl (L:=t.L) (e:=7) (fun i hi=>U.bd i hi s) l;exact DV (nS this (by decide)).1 (nS this (by decide)).2) 38
  rw[pF (g:=bw t.n o B (h+k)) fun s V=>ahZ E s]at M;refine cj (zw sA (fun c=>aR (aA (eo t.n t.L (bg y)) (val (q5 t.n t.L B (h+c))))) d) ?_;refine aW at_ M ?_;refine gR (nq (by rw[lN];have:=E.oK;exact ax (et (an9 d (kH _ _))) (ax (et this) (by decide))) _ _) ?_;refine⟨_,by rfl,rfl,d,?_⟩;exact dt (fun l=>A++[bb.dict false l]) (q4 (L:=Q) (fun j am=>sA j k am d) fun c=>aR (aA (c8 t.n (bg y)) (bw t.n o B (h+c))))
 rintro au ⟨_,rfl⟩;rw[show ((ba (t.n-h) Q fun c=>aR (aA (eo t.n t.L (bg y)) (val (q5 t.n t.L B (h+c))))).map fun kv=>an2.str kv.1).length=t.n-h by rw[a0,lN]];generalize a2:(ba (t.n-h) Q fun c=>aR (aA (c8 t.n (bg y)) (bw t.n o B (h+c))))=Y;have Su:∀r:ah,(A++[bb.dict false Y]++r)[A.length]?=some (.dict false Y):=fun r=>by rw[ek];exact j1 0 rfl
 have a6:∀c<t.n-h,∀s,(bw t.n o B (h+c) s).natAbs<=2^(10+W+7):=fun c ae s=>Co (by have:=E.oK;exact Dz this) Z.bd (fun i hi=>U.bd i hi s) (Kr ae);have an:∀(f:Str->Int),(∀c<t.n,(f (Q c)).natAbs<=2^(47+2*W))->∀CQ,(∀o',cR (CQ++[o']) (.ref A.length)=.ba Y)->bF G 40 "_law_filled" [aR (aA (c8 t.n (bg y)) f),.ref A.length] CQ=.ok (aR (aA (c8 t.n (bg y)) fun s=>dK (c8 t.n (bg y)) fun l=>bL (t.n-h) Q (fun c=>bw t.n o B (h+c)) l s*f l)) CQ:=fun f hf CQ hd=>by
  refine PN (K:=c8 t.n (bg y)) (K':=c8 t.n (bg y)) E.oL f (bL (t.n-h) Q fun c=>bw t.n o B (h+c)) hd rfl (fun l C V=>?_) (fun l C V s T=>?_) 38
  ·rw[<- a2];exact Sn E.oL sA (fun l C V=>C) l C
  ·rcases sM.mp C with⟨j,am,rfl⟩ |⟨c,ae,rfl⟩
   ·rw[HK E am (kH _ _)];exact ajs
   ·exact wv (Rl (fun i hi=>a6 i hi s) (Q c)) (hf c ae) (fr (cE 3 (bx dF)) (by simp +arith))
 have jn:∀i<t.n,∀s,(d3 t.n h (bw t.n o B) F i s).natAbs<=2^(27+2*W):=fun i hi s=>ahR U (by have:=E.oK;exact Dz this) Z hi s;refine dg.const (fun k au=>au=A++[.dict false Y]) rfl ?_ ?_
 ·rintro k v au J rfl;refine bt (CH (show ((uB t (bg y) h o F B t.n).map fun kv=>an2.str kv.1)[k]?=some v from J)) fun N d=>?_;subst N;have M:=an (d3 t.n h (bw t.n o B) F k) (fun c ae=>ax (jn k d _) (hV (by decide) (by exact by simp +arith))) (A++[.dict false Y]) (fun o'=>si (Su _));rw[pF (g:=o k) fun s V=>zc E U Z d s]at M;refine cj (zw E.iF (fun i=>aR (aA (c8 t.n (bg y)) (d3 t.n h (bw t.n o B) F i))) d) ?_;refine aW at_ M ?_;refine cj (w:=.v (aR (aA (c8 t.n (bg y)) (o k)))) (BO (vS _) (zv E.iF _ d)) ?_;refine yN (ah4 _) ?_;exact⟨_,by rfl,rfl,rfl⟩
 ·rintro au rfl;have M:=an (fun s=>dK (eo t.n t.L (bg y)) fun l=>bL t.n t.L (d3 t.n h (bw t.n o B) F) l s*t.f 0 l) (fun c ae=>(show 27+2*W+20=47+2*W by exact by simp +arith)▸aju E ae (fun i hi=>jn i hi _) Sp) (A++[.dict false Y]) (fun o'=>si (Su _));rw[pF (g:=g) fun s T=>(ah1 E U Z (fun c ae=>(RG al fun q=>by
   rcases ri.mp q with⟨i,hi,e⟩ |⟨i,hi,e⟩
   ·exact E.Rn i hi c ae e
   ·exact E.uz i hi c ae e).1) T).trans (as s),<- Ih H.dB]at M
  refine cm (kN (n:=t.nn) (by rw[a0,an5]) (Ar I)) ?_;refine cm (kN (n:=t.nn) (by rw[a0,Sr]) (Ar I)) ?_;refine bI.t (ef (t.nn:Int)) ?_;refine aW at_ M ?_;refine yN (RB _) ?_;rw[<- Ss,<- qU,ek,ek];exact qH rfl
end
theorem ajC{ns:List Int}(fM:ns.length<=63){q:Str}{σ:ah}(a:σ[0]?=some (.tab q)):bF G 41 "law" [.lst (ns.map .int)] σ=.ok (.bool true) σ:=by
 have ok:cY (.eV 21 [some (.lst (ns.map .int))]):=OD (args:=[.lst (ns.map .int)]) rfl;have at_:jT G 40 ⟨G.lnm,G.const,bF G 40,G.aoq,G.dc⟩:=⟨fun V V V=>rfl,fun V=>rfl,rfl,rfl,fun V=>rfl⟩;have H:=Sa (K:=fun f V au=>left mB.keep σ (.ok (f,[]) au)=.ok (.bool true) σ) (X:=fun V V=>False) 9 mB.body (v0 _ _ _ _ _ ok (ajh at_ fM σ)) fun aN aj wJ b=>Sa 1 (wV 9 mB.body) (v0 _ _ _ _ _ wJ (ajl at_ fM b)) fun d g oL c=>v0 _ _ _ _ _ oL (ajv at_ fM a c);have e:bF G 41 "law" [.lst (ns.map .int)] σ=left mB.keep σ (cF ⟨G.lnm,G.const,bF G 40,G.aoq,G.dc⟩ mB.body (bV (.eV 21 [some (.lst (ns.map .int))])) σ):=by
  show (match G.fn "law" with
   |some F=>tj ⟨G.lnm,G.const,bF G 40,G.aoq,G.dc⟩ F [.lst (ns.map .int)] σ
   |none=>.bad)=_
  rw[aeO];exact bl rfl
 rw[e];generalize cF ⟨G.lnm,G.const,bF G 40,G.aoq,G.dc⟩ mB.body (bV (.eV 21 [some (.lst (ns.map .int))])) σ=r at H ⊢;cases r with
 |bad=>exact H.elim
 |ok p au=>
  obtain⟨ρ,i,j,h⟩:=H;obtain⟨f,k⟩:=p;exact h
end
set_option tactic.hygienic true
section
open PySem PySem.W PyProof.Rows
def zI(p:Program):Hook:=ac0 p (Av p) "Columns" "cleared" [("PARTS",uX)] (fun d hd=>by rw[c3.mp hd];decide +kernel)
theorem ajD:∀x,G.dc x=true->zR (.type "object") x=pure none:=fun x b=>by
 have a:x∈xm:=w7.mp b
 simp only[xm,dG,rv,or_false]at a
 rcases a with rfl|rfl|rfl|rfl|rfl|rfl|rfl<;>(rw[aly,builtinLookup_eq_fast];kernel_rfl)
theorem ajE{prog:Program}{w:World}{B:Heap}{mg mb:Str->Option Value}{cls:Str->Option lB}{lam:Addr×Addr×Str}{nl:cA}(q:mx prog w B "PARTS" uX)(a:B.Ns gr mg):∀x v,G.const x=some v->∃y,(Fix.mk prog w B mg mb cls lam nl).mg x=some y/\(Fix.mk prog w B mg mb cls lam nl).bU (Fix.mk prog w B mg mb cls lam nl).dB (Fix.mk prog w B mg mb cls lam nl).B v y:=fun x v h=>by
 have h:(if x = "PARTS" then some (an2.ba BM) else none)=some v:=h
 split at h
 ·rename_i b
  subst b
  cases h
  exact mx.m3 (C:=Fix.mk prog w B mg mb cls lam nl) q a
 ·cases h
theorem ajF{n:Nat}(h:¬((63:Nat):Int)<(n:Int)):n<=63:=lw.mp (hR.mp h)
theorem ajG{α β γ:Type}{o:Option α}{f:α->β}{g:α->γ}{x:β}{y:γ}(b:o.map f=some x)(O:o.map g=some y):o.map (fun s=>(f s,g s))=some (x,y):=by
 cases o with
 |none=>cases b
 |some a=>cases b;cases O;rfl
theorem ajH{H h':Heap}{c P:Addr}(h:CodeHd H c P)(d:H.get? P=some (tabObj #[]))(f:∀b o,b≠P->H.get? b=some o->h'.get? b=some o)(ht:∃a,h'.get? P=some (tabObj a)):OldK H h':=by
 obtain⟨a,g⟩:=ht
 refine⟨fun b o e=>?_,fun b o e=>?_⟩
 ·by_cases q:b=P
  ·subst q
   rw[d]at e
   cases e
   exact .inr (.inl ⟨(h.tab d).isCodeTable,rfl,#[],a,rfl,by rw[g,Array.empty_append]⟩)
  ·exact .inl (f b o q e)
 ·by_cases q:b=P
  ·exact⟨_,q▸g⟩
  ·exact⟨o,f b o q e⟩
end
end
end Mine.Internal
set_option maxRecDepth 100000
set_option backward.match.sparseCases false
set_option exponentiation.threshold 2000
set_option tactic.hygienic true
open PySem PySem.W PyProof.Rows
set_option maxHeartbeats 8000000 in
theorem PySem.Challenge.cw_uf010018_11_holds : PySem.Challenge.rw_uf010018_11.Holds := by
 w_on
 refine holds_law (by decide +kernel) fun amV=>?_
 refine holds_open (q:=Mine.Internal.view PySem.Challenge.rw_uf010018_11.row.prog) (loose:=Mine.Internal.l6) (Xt:=Mine.Internal.Aw) (XP:=XL (Mine.Internal.view PySem.Challenge.rw_uf010018_11.row.prog) []) (Yf:=Hook.obs (Mine.Internal.zI PySem.Challenge.rw_uf010018_11.row.prog)) (Ya:=Hook.val (Mine.Internal.zI PySem.Challenge.rw_uf010018_11.row.prog)) (YP:=Hook.says (Mine.Internal.zI PySem.Challenge.rw_uf010018_11.row.prog)) (N:=6000) ?af (Hook.of (Mine.Internal.zI PySem.Challenge.rw_uf010018_11.row.prog)) (Hook.keeps (Mine.Internal.zI PySem.Challenge.rw_uf010018_11.row.prog)) (fun s e=>xl_of s (Bool.and_eq_true_iff.mp e).1) XL.keeps (by rfl) (by rfl) (by rfl) (fun s e=>recFacts_of (Bool.and_eq_true_iff.mp e).2) (by rfl) (by first | assumption | decide +kernel) (by decide +kernel) ⟨rfl,rfl,rfl,rfl,rfl,by decide +kernel⟩ ?aF ?ae
 case af=>exact LeftO.of_split "special-get-raises" fun w=>Mine.Internal.ajG (Mine.Internal.U' w) (Mine.Internal.Vd w)
 case aF=>w_witness2
 intro w s₀ s₁ mg mb G Y fa o pm cd doc dV kV al hd NV cC ajI aV args vals as ajJ ajK ajL ajM ajN
 refine Ground.open G ?_
 intro T B D TE TW
 have Y':(∃cls,Mine.Internal.r8 (Mine.Internal.Av PySem.Challenge.rw_uf010018_11.row.prog) s₁.heap cls)/\(∃c P,Mine.Internal.r9 s₁.heap "Columns" "cleared" c P)/\∀d∈[(("PARTS":Str),Mine.Internal.uX)],Mine.Internal.mx PySem.Challenge.rw_uf010018_11.row.prog w s₁.heap d.1 d.2:=Y
 obtain⟨⟨cls,Sw⟩,⟨c,P,jk⟩,vq⟩:=Y'
 have ab:=Mine.Internal.acs T (by decide +kernel)
 have K:=Mine.Internal.acn (prog:=PySem.Challenge.rw_uf010018_11.row.prog) (w:=w) (cls:=cls) (lam:=(c,P,("Columns":Str)++"."++"cleared"++".<locals>.")) (lnm:=Mine.Internal.lnm) T (by decide +kernel) (by decide +kernel) jk.hd jk.tab jk.ne
 have FN:=Mine.Internal.acT (prog:=PySem.Challenge.rw_uf010018_11.row.prog) (w:=w) (cls:=cls) (tbl:=Mine.Internal.tbl) (nl:=Mine.Internal.lnm) (lam:=(c,P,("Columns":Str)++"."++"cleared"++".<locals>.")) jk.tab T (by decide +kernel)
 have MT:=Mine.Internal.acQ (prog:=PySem.Challenge.rw_uf010018_11.row.prog) (w:=w) (mg:=mg) (mb:=mb) (tbl:=Mine.Internal.tbl) (nl:=Mine.Internal.lnm) jk T.g Sw (by decide +kernel) (by decide +kernel)
 have tO:=Mine.Internal.acO (mg:=mg) (l:=Mine.Internal.xm) jk.tab Sw T.g (by decide +kernel)
 have ii:Mine.Internal.Eu (Mine.Internal.Fix.mk PySem.Challenge.rw_uf010018_11.row.prog w (Mine.Internal.jJ s₁.heap P) mg mb cls (c,P,("Columns":Str)++"."++"cleared"++".<locals>.") Mine.Internal.lnm) Mine.Internal.G:=⟨K,Mine.Internal.ajE ((vq ("PARTS",Mine.Internal.uX) (List.mem_singleton.mpr rfl)).cut jk.tab) (Mine.Internal.Ol jk.tab T.g),FN,ab,MT,tO,Mine.Internal.ajD,rfl⟩
 wrow_args ajJ ajK ajL ajM ajN
 rename_i ns ay az bA an7 hL r1 vF x r2 tR vG vH da amX amY amZ hlen am0
 refine Mine.Internal.Wu Mine.Internal.acj (Mine.Internal.Fix.mk PySem.Challenge.rw_uf010018_11.row.prog w (Mine.Internal.jJ s₁.heap P) mg mb cls (c,P,("Columns":Str)++"."++"cleared"++".<locals>.") Mine.Internal.lnm) _ _ _ s₁.heap rfl jk.tab Mine.Internal.G ii Mine.Internal.mB _ 40 (by decide) (show Mine.Internal.iK "law"=true by decide +kernel) _ ajI (by rfl) _ _ _ rfl da (Mine.Internal.ajC (Mine.Internal.ajF hlen) (σ:=[.tab _]) rfl) fun s' aa ht tE ajR=>⟨.inl ⟨_,.bool true,[],rfl,fun _=>rfl,.bool true,?_,fun _=>⟨List.nodup_nil,fun _ q=>nomatch q⟩⟩,Mine.Internal.ajH jk.hd jk.tab aa ht,tE,.of_eq (ajR.trans aV)⟩
 exact Mine.Internal.acu _ _ _
