import PyProof.Rows.All
import KE.BitLaws
import KE.KBytesWalk
import KE.KDictSum
import Wide.FinOn
import OpenK.AllK
import Wide.All
import Lean
import PySem.Challenge.RW_rh0237_01
set_option maxRecDepth 1000000
set_option maxHeartbeats 1000000
set_option genInjectivity false
set_option genSizeOfSpec false
set_option genSizeOf false
set_option linter.all false
set_option Elab.async false
open Int renaming ofNat->G,natCast_nonneg->AW,ofNat_le->Bq,le_trans->Bv,ofNat_lt->BN,not_lt->CI,toNat_of_nonneg->Dv,emod_nonneg->DW,fmod_eq_emod_of_nonneg->D5,add_sub_cancel->D6,sub_le_self->Ef,lt_of_le_of_lt->Ez,emod_lt_of_pos->EA,toNat_natCast->EL,toNat_le->E4,le_of_lt->FW,le_add_of_nonneg_left->G7,emod_eq_of_lt->G9,le_refl->H7,sub_le_sub_left->Iu,not_le->IU,toNat_lt->Jp,mul_one->J6,sub_le_sub->KW,neg_le_neg->KX,zero_add->LY,mul_comm->LZ,add_comm->L0,sub_le_sub_right->Mu,add_lt_add_right->Mv,add_le_add_right->Mw,add_le_add_left->MH,sub_eq_add_neg->M1,natAbs_eq_zero->M3,lt_of_lt_of_le->M4
open Nat renaming le_trans->Aa,le_of_ble_eq_true->Ac,lt_of_le_of_lt->Al,add_le_add->Ao,le_of_eq->Ap,zero_le->Aq,le_add_right->AD,le_refl->AH,lt_of_lt_of_le->AP,add_le_add_left->AU,succ_le_succ->AX,zero_add->A1,mul_le_mul_left->A2,add_le_add_right->A7,add_assoc->Bf,add_comm->Bk,le_add_left->Bl,zero_lt_succ->Bt,lt_succ_self->Bu,lt_add_of_pos_right->Bz,eq_of_beq_eq_true->BE,lt_trans->BG,beq->BU,add_right_comm->BW,le_of_lt->B3,le_succ->B4,le_succ_of_le->CA,ne_of_lt->CQ,ne_of_gt->CR,lt_succ_of_lt->C4,mod_lt->De,le_of_not_lt->Di,lt_of_succ_lt->Du,ble->DA,succ_pos->DJ,not_succ_le_zero->DO,le_of_succ_le->DR,min_eq_left->DU,div_le_self->DV,le_of_lt_succ->Eh,le_of_succ_le_succ->Ew,blt->Ey,succ_lt_succ->EZ,not_le_of_lt->E2,add_lt_add_left->Fd,lt_irrefl->Fj,not_lt->Fs,sub_self->FU,mul_succ->FV,noConfusion->Gx,min_le_left->Gy,sub_le->GR,pos_of_ne_zero->GS,succ_add_eq_add_succ->Hh,mod_eq_of_lt->Hr,min_eq_right->Ht,add_sub_cancel_left->Hu,not_lt_zero->HF,le_antisymm->HG,div_lt_of_lt_mul->HZ,add_lt_add_right->H6,sub_add_cancel->IT,le_total->Jk,beq_refl->Jl,add_sub_of_le->Jn,toDigitsCore->JR,succ_ne_self->JS,min_le_right->JT,lt_of_not_le->JU,div_add_mod'->JV,casesOn->J4,succ->KS,le_of_add_le_add_right->KU,ne_of_beq_eq_false->LP,lt_of_succ_lt_succ->LR,sub_eq_zero_of_le->Mf,le_zero->Mo,add_sub_cancel'->MC,lt_of_lt_of_eq->MX
open PySem renaming wpAny_bind->Ab,wpAny_pure->Aj,wpAny->AB,Addr->AG,wpAny_of_eq->AI,Value->AM,Expr->AO,Shared->AZ,builtinLookup_eq_fast->Bb,wpAny_specialOf->Bj,wpAny_rule->BD,typeLookup_type->BJ,DictEntry->BY,wpAny_field->Cd,wpAny_truthy_bool->Ce,wpAny_newObj_type->Cf,bm_if_false->Cm,entryFor_of_tree->Cp,entryFor_of_fast->Cq,wpAny_dictEntries->Cu,isSubtype_type->CB,Around->CP,mainGlobals->CU,wpAny_load->CY,Program->CZ,wpAny_holding->C1,builtinType_eq_fast->C7,wpAny_typeOf->C8,signature?_of->Dc,wpAny_isInstance->Dm,contains->Dn,wpAny_standAt->Dp,reduceHash->Dx,World->Dy,entryFor->DI,argsOk->DM,typeLookup->D9,sysModules->Ea,Scope->Ej,assignInOrder->En,sizeLine->Eu,wpAny_point->EE,sizeLine_eq->EF,wpAny_seqItems->EM,assign->ES,wpAny_mkBytes->EX,holding->E7,compEnvC->E8,call_meets->E9,call_gives->Fb,builtinType->Fc,callSpecial?->Fh,wpAny_call_entry->Fm,pyIter->Fo,plainId_quiet->Fu,NameKind->Fw,letOwnedTupleGo->FC,getitemInPython->FD,typeIs_int->FQ,bm_if_true->FR,wpAny_dictEpoch->FX,Result->F7,wpAny_ite->Gn,checkBuiltinCall->Gu,CmpOp->GD,theTreesLotGoes->GO,rawInt->GP,wpAny_mkInt->GU,standAt->GV,typeOf->GY,wpAny_tupleItemsOf->Hb,wpAny_pyIter_list->Hc,assignEach->Hd,Params->He,Operator->Hf,wpAny_askSetting->Hq,spliced->Hw,Comprehension->HB,wpAny_loadPart->HH,isInstance->HI,FuncData->HJ,wpAny_attempt->HS,getItem_meets->HT,clipAt->HU,importedModules->H8,codeAny->H9,isSubtype_tuple_tuple->Ig,Slot->Ii,starEach->IH,newFunctionEnv->II,loadName->IJ,evalEach->IK,noteFrame->IW,getItem->IX,evalPairs->IY,wpAny_callSpecial?_slot->Jr,wpAny_pyNext_list_item->JA,truthy->JB,clipAt_nat->JC,builtinsNs->JD,wpAny_pyNext_list_end->JW,pyHash->J7,intText?->J8,eqBool->J9,bindName->Ka,binaryOp->Kb,release->Kz,pyNext->KA,outcomeOf->KC,dictSet->KD,compareOp->KG,Thread->KI,wpAny_pyIter_enum->KY,valueOrNone->KZ,unpackItems->K0,leftWithCleanup_false_of_bare->K1,Model->K5,wpAny_pyIter_zip->Lg,wpAny_lookBehind->Lh,wpAny_comp_letGo->Li,isTrue->Lj,Code->Ll,wpAny_ret_mkInt->Lr,codeAny_of_tree->Ls,classAt->Lu,Setting->Lx,Builtin->LA,wpAny_setField->LI,backTo->LJ,wpAny_newList->L7,wpAny_mkText->Mi,wpAny_getItem_list_slice->Mj,swappedStores->Mk,concat_meets->Ml,comprehension->Mm,swapsWith->My,seqItems?->Mz,eqIsQuiet->MA,wpAny_mono->MK,tupleKeyHash->ML,relabel->MM,keyPart->MN,intKind->MO,denote->MP,UnaryOp->MS,BoolOp->MW
open Option renaming some->U,none->Y,map_eq_some_iff->A4,isNone_iff_eq_none->Dw,isSome_iff_exists->DD,bind_eq_some_iff->DN,map->Fg,bind->Jj
open List renaming length_append->Ad,forall_mem_cons->Ae,append_assoc->Ag,length_map->Ak,mem_cons_self->As,mem_cons_of_mem->Au,append_nil->Ax,not_mem_nil->Ay,mem_cons->AQ,map_append->AS,mem_singleton->AV,getElem?_eq_getElem->AY,mem_map->A0,all_eq_true->A3,mem_of_getElem?->A6,replicate->A8,nodup_cons->Bc,length_cons->Bn,map_map->Bo,mem_append->BC,reverse_cons->BF,length_reverse->BH,getElem?_eq_some_iff->BI,getElem?_map->BR,length_nil->B5,mem_map_of_mem->Ca,map_cons->Cc,contains_iff_mem->Ci,filterMap_cons->Cj,findIdx?_eq_some_iff_getElem->Ck,drop_eq_getElem_cons->Cn,length_replicate->Cs,forIn_cons->Cv,nodup_nil->Cx,length_eq_zero_iff->Cy,length_drop->Cz,map->CC,getD->CD,length->CH,getElem?_append_right->CW,take_of_length_le->C0,perm_append_comm->C6,findIdx?_cons->C9,reverse_reverse->Dg,cons_ne_nil->Dh,nodup_append->Dq,foldl_append->Dr,drop_eq_nil_of_le->Ds,mem_append_right->DB,getElem?_toArray->DC,isEmpty_iff->DE,drop_eq_nil_iff->DK,length_set->DS,foldl_cons->DT,map_reverse->DZ,lookup_cons->D0,range->D3,getElem?_eq_none->D4,getElem?_of_mem->Ee,dropWhile_cons->Ek,cons_append->Em,sublist_cons_self->Et,find?_cons->EB,take_append_drop->EH,mem_append_left->ER,mem_toArray->EV,mem_reverse->EW,getElem?_append_left->E3,drop->Ft,take_succ_eq_append_getElem->FJ,length_range->FN,getElem?_set_self->FO,drop_left->FP,length_filter_le->F2,filterMap_eq_map->F3,perm_middle->F5,length_take->F6,range'->Gm,mapM_cons->GJ,getD_eq_getElem?_getD->GK,dropWhile->GL,findIdx?_eq_none_iff->GX,push_toArray->G1,not_lt->G3,lookup->G4,flatMap_cons->G5,any_eq_false->G6,range'_succ->Hl,getElem_mem->Hm,any_toArray->Hn,any_eq_true->Ho,drop_of_length_le->HA,take_left->HN,mem_of_mem_take->HO,map_id->HP,length_take_le'->HQ,drop_drop->HR,replicate_succ->Ic,map_congr_left->Ie,map_take->Iq,any_cons->Ir,pairwise_cons->IB,map_replicate->IC,contains_cons->ID,size_toArray->I9,flatten_replicate_singleton->Ja,flatten_cons->Jb,findIdx?_map->Jc,all_map->Jd,takeWhile_append_dropWhile->Jo,take->Jx,drop_length->Jy,dropWhile_append_of_pos->J5,forIn_nil->Ku,dropWhile_cons_of_pos->Kv,dropWhile_cons_of_neg->Kw,range'_eq_map_range->Lc,map_drop->Ld,length_filterMap_le->Le,getElem?_replicate->Lo,singleton_sublist->LB,set_set->LC,filter_eq_nil_iff->LD,filterMap_eq_map'->LF,dropWhile_sublist->LG,set_getElem_self->LU,contains_toArray->LW,concat_eq_append->LX,range_eq_range'->Mg,mem_of_mem_drop->Mh,toList_toArray->Mp,reverse_append->Mq,flatten_append->Mr,filter_sublist->Ms,append_toArray->Mt,map_inj_right->MD,getElem?_take->ME,getElem?_drop->MF,all_takeWhile->MG,reverse_perm->MY,mapM_toArray->MZ,getElem?_inj->M0
open Option.some renaming inj->Af
open Bool renaming and_eq_true_iff->Ah,false->Am,true->J,and_eq_true->AR,noConfusion->A9,false_ne_true->Bh,eq_false_iff->Bp,not_eq_true'->BM,or_eq_true_iff->Cb,or_eq_false_iff->CX,or_false->Gf,and_false->GN,and_true->Ha,eq_iff_iff->HD,not_eq_false'->IE,false_eq_true->IF
open PySem.Value renaming ref->Ai,type->An,bytes->AF,builtin->AK,none->AL,int->By,bool->B0,str->Cg,notImplemented->Eb,isInt_shape->IL
open Or renaming inl->Aw,inr->AN
open Prod renaming fst->Az,snd->FH
open Pure renaming pure->AJ
open PySem.NameKind renaming free->Ba,cell->BA,globalImplicit->Ei,noConfusion->K4
open PySem.Heap renaming get?_push_of_some->Be,get?_push_size->BK,lt_size->BV,SameBut->CJ,get?_update_self->Dz,size_push->GI,get?_update_ne->Ia,ExtBut->JG
open UInt8 renaming toNat->Br,lt_iff_toNat_lt->CG,toNat_inj->Jz,ofNat->LH
open False renaming elim->Bw
open List.cons renaming inj->BO
open Int.ofNat renaming inj->BP
open ForInStep renaming yield->BX
open PySem.Data renaming bytearray->B7,fields->Df,seq->El,dict->EY
open PySem.ScopeKind renaming function->B8
open PySem.Code renaming builtin->Co,call->GC,quiet_builtin->Iy,guards->Ma
open PySem.Flow renaming ret->Cr,next->EU
open PySem.Builtin.Tuple renaming tupleHashOf->Ct,tupleExact->Gp,tupleItemsOf->Ik,tupleIsExact->Im
open PySem.W.Fast renaming tw8326940854005059898->Cw,tw12908688711261696721->Ih
open PySem.Expr renaming ListComp->CE,Name->Dl,Call->F0,Subscript->Hk,Tuple->Ib,Attribute->Kp
open PySem.Str renaming ofString->CM,empty->EG
open PySem.Fin renaming done->CN,again->Gv
open PySem.Builtin.Bytes renaming decodersThatHold->CO,order->DF,buffer?->DP,write->EC,containsIn->EJ,exportsOf->EP,joined->Fq,checkResize->Gb,ownRelease->Gq,find?->Hg,takeBufferQuiet?->HL,fullReadOnly->Io,occurrences->IA,slotIsOwn->I7,joinItems->I8,replaceM->Jf,payload?->Jg,exported->Jh,searchM->Jv,payload->Jw,window->JL,splitM->JM,bound?->JN,joinM->J0,holds->J1
open List.Perm renaming swap->CS
open Except renaming ok->CT,error->Hp
open Nat.succ renaming inj->CV
open PySem.W renaming typeIs_bytes->C5,dictOf->Dt,boot_heap->D7,instObj->Fi,emptyDict->FY,SharedT->Hx,kia_one->HV,Frag->HW,kitOne->JE,WellAll->Lv,layAllW_rest->MQ
open PySem.Heap.SameBut renaming update->Dd
open PySem.Builtin.Bytes.Kind renaming bytes->Dj
open PySem.Around renaming under_plainId->DH,under_plain->Mc,mark_none->MB
open List.Sublist renaming cons_cons->DL
open PySem.W.FB renaming plainAttrs_bytes->DY,owner_bytes->Ep,slot_bytes_getitem->EK,slot_bytes_contains->FZ,slot_bytes_eq->Hy,args_bytes_eq_2->IZ,entry_bytes_eq->Js,args_bytes_contains_2->Lw,entry_bytes_contains->LK,args_bytes_getitem_2->LL,entry_bytes_getitem->L9
open Prod.mk renaming inj->D8
open PySem.Builtin.SmallTypes renaming nextOf->Eo
open PySem.CmpOp renaming NotEq->Er,Eq->EN,NotIn->LO
open PySem.Builtin.Slice renaming sliceApplied->Es,slicePlaces->F9,sliceAdjust->Ga
open Array renaming getElem?_toList->ED,toList->Fy,getElem?_eq_none->FA,toList_extract->Gg,toList_append->Gr,length_toList->Gs,toList_map->Hi,toList_inj->Hj,forIn_toList->Iv,toList_push->IV,eq_empty_of_size_eq_zero->Jq,getElem?_eq_getElem->Kx,toArray_toList->L5,getElem_toList->L6,getElem_map->MJ
open PySem.F renaming slot_tuple_getitem->EI,slot_list_getitem->EO,slot_tuple_hash->Ff,slot_str_split->Fp,sub_int_bytes->FF,slot_tuple_eq->FG,slot_list_getattribute->FT,slot_dict_getitem->GB,args_str_split_2->GQ,entry_str_split->GZ,bm_called->Ij,slot_NoneType_eq_refl->I0,sub_NoneType_bytes->JH,slot_dict_contains->JI,kt_typeCall_dict_1->JJ,slot_list_setitem->JX,slot_dict_setitem->JY,slot_int_ne_refl->Kc,slot_int_eq_refl->Kd,slot_dict_update->Ke,args_tuple_add_2->Kf,args_dict_init_2->Kg,plainAttrs_list->Kj,plainAttrs_dict->Kk,entry_type_call->Kl,entry_tuple_add->Km,entry_dict_init->Ko,slot_tuple_add->KJ,slot_int_index->KN,plainAttrs_str->KO,kt_called_dict->KP,sub_dict_dict->K6,slot_list_pop->K7,slot_int_rmul->K8,slot_dict_get->K9,args_int_eq_2->La,entry_int_eq->Lk,slot_int_eq->Ly,bm_plain->Mn
open PySem.Builtin.Dict renaming updateFrom->ET,keyAndDefault->F4,readDirectly->IP,selfAndRest->I1,pendingKey?->I2,addKeywords->I6,notOrdered->Je,mergeDict->Ju,missed->Kh,keyArg->Ki,merge->Ks
open PySem.EqNone renaming wpAny_richCompare_eq_decline->E5
open PySem.W.KBw renaming IsBytesIter->Fl,iter_typeIs->HE,slot_next->Iw,pyIter_bytes->JF
open PySem.Gives renaming of_wp->F8
open PyProof.Rows renaming SortSt->Ge,eq_bool->G8,Keyed->Hz,toList_beq->Ji,SortKind->JO,seqObj->KQ,get?_update_seq->Lm
open PySem.W.KBy renaming buffer_eq->Gh,ite_no->KH
open PySem.Operator renaming Add->Gi,FloorDiv->LM
open PySem.Builtin.Range renaming rangeSize->Gw,small->JZ
open PySem.PyData renaming keyHash->Gz
open Decidable renaming not_not->GA
open Iff renaming rfl->GF
open Std.Legacy.Range renaming forIn_eq_forIn_range'->GG,size->IG
open PySem.Txt renaming split->GH
open PySem.Meets renaming of_wp->GW
open And renaming intro->Hv
open PySem.Builtin renaming bitNot->HC,bitAnd->JK,bitXor->MV
open PySem.Challenge renaming rw_rh0237_01->HK
open PySem.ExcName renaming means->HM
open PySem.Sem renaming wp_mono->HX
open PUnit renaming unit->Ip
open PySem.Builtin.List renaming listFitsIndex->Iz
open PySem.Obj renaming mapSeq->IM,data_mapFields->MT
open PySem.Builtin.Str renaming occurrences->Jt,strKind->Kq
open PySem.Builtin.Int renaming intBits->Kr
open Eq renaming mpr->Lf
open String renaming toList_ofList->Lp
open Std.Legacy renaming Range->Lq
open PySem.callAny renaming viaDunder->L8
open PySem.Builtin.Bytes.exported renaming match_1->Mb
open PyProof.Rows.SortSt renaming mk'->Md
open BEq renaming comm->Mx
open Char renaming toNat->MI
open PySem.W.WData renaming layableAll->MR
open PySem.DictEntry renaming mk->MU
open PySem PySem.W PyProof.Rows PySem.Calls
namespace Tp
set_option compiler.extract_closed false
private def mS(a:Array Lean.Syntax)(s:String):Lean.Syntax:=((s.splitOn " ").foldl (λst t=>match t.toList with
 |'.'::w=>.atom .none (.ofList w)::st
 |'\''::w=>(Lean.mkIdent (String.ofList w).toName).raw::st
 |c::d::w=>if c=='$' then a[d.toNat-48]!::st else
  let k:=c.toNat-48
  .node .none ((if d=='N' then .anonymous else if d=='T' then `Lean.Parser.Tactic else `Lean.Parser.Term)++(String.ofList w).toName) (st.take k).reverse.toArray::st.drop k
 |_=>st) []).head!
private def mQ(a:Array Lean.Syntax):Lean.Syntax:=mS #[.node .none `null (a.flatMap λt=> #[t,.atom .none ";"])] "$0 1TtacticSeq1Indented 1TtacticSeq"
private def mF(a:Array Lean.Syntax):Lean.Syntax:=mS #[.node .none `null (a.map λt=>mS #[t] ".| $0 2Ngroup")] ".first $0 2Tfirst"
local macro_rules (kind:=Lean.Parser.Tactic.show)
 |s=>pure (mS #[s[1]] ".refine .( ' 1NhygieneInfo 2PhygienicLParen .? ._ 2PsyntheticHole .: $0 1Nnull .) 5PtypeAscription 2Trefine")
local macro_rules (kind:=Lean.Parser.Tactic.lia)
 |s=>pure (mS #[] ".simp .+ 'arith 2TposConfigItem 1TconfigItem 1Nnull 1ToptConfig 0Nnull .only 1Nnull 0Nnull 0Nnull 6Tsimp")
local macro_rules (kind:=Lean.Parser.Tactic.decide)
 |s=>if s[1][0].getNumArgs !=0 then Lean.Macro.throwUnsupported else
  pure (mF #[mQ #[mS #[] ".exact 'Nat.le_of_ble_eq_true 'rfl 1Nnull 2Papp 2Texact"],mQ #[mS #[] ".exact 'rfl 2Texact"],mQ #[mS #[] ".decide .- 'kernel 2TnegConfigItem 1TconfigItem 1Nnull 1ToptConfig 2Tdecide"]])
local macro_rules (kind:=Lean.Parser.Tactic.rwSeq)
 |s=>
  let l:=s[3].getNumArgs==0
  let h:=s[3][0][1][0]
  if s[1][0].getNumArgs !=0|| !l&&(h.getNumArgs !=1|| !h[0].isIdent)then Lean.Macro.throwUnsupported else
  let f (a:Array Lean.Syntax) (r:String):=if l then mS a (".refine $0 "++r++" .? ._ 2PsyntheticHole 2Nnull 2Papp 2Trefine")
   else mS a (".replace $3 1PletId 0Nnull 0Nnull .:= "++(if a[4]!.getNumArgs==0 then "" else "'Eq.symm ")++r++(if a[4]!.getNumArgs==0 then "" else " 1Nnull 2Papp")++" .▸ $3 1Nnull 3Psubst 5PletIdDecl 1PletDecl 2Treplace")
  let ts:=s[2][1].getSepArgs.map λr=>
   let a:= #[(Lean.mkIdent (if r[0].getNumArgs==0 then `Tp.rwr else `Tp.rwl)).raw,r[1],r,h[0],r[0]]
   mF #[mQ #[f a "$1"],mQ #[f a "$1 ... 1Pellipsis 1Nnull 2Papp"],mQ #[mS (a.push s[3]) ".rewrite 0Nnull 1ToptConfig .[ $2 1Nnull .] 3TrwRuleSeq $5 4TrewriteSeq"]]
  pure (mS #[mQ (ts.push (mS #[] ".with_reducible .try .rfl 1TtacticRfl 1Nnull 1TtacticSeq1Indented 1TtacticSeq 2TtacticTry_ 1Nnull 1TtacticSeq1Indented 1TtacticSeq 2TwithReducible"))] ".( $0 .) 3Tparen")
local macro_rules (kind:=Lean.Parser.Tactic.obtain)
 |s=>
  let t:=s[1][0][0][0]
  let l:=t[1].getSepArgs
  let n:=l.size
  if t.getKind != `Lean.Parser.Tactic.rcasesPat.tuple||s[1][0][0].getNumArgs !=1||s[2].getNumArgs !=0||n<2||n>8 then Lean.Macro.throwUnsupported else
  let e:=s[3][1][0]
  let post:=l.mapIdx λk p=>
   let q:=p[0]
   let i:=q[0][0][0]
   if i.isIdent&&i.getId != `rfl then mS #[i] ".intro $0 1Nnull 2Tintro" else
   let x:=(Lean.mkIdent (.mkSimple ("q"++toString n++toString k++"'"))).raw
   if i.isIdent||i.getKind != `null then mS #[x,q] ".( .intro $0 1Nnull 2Tintro .; .obtain $1 1Nnull 0Nnull .:= $0 1Nnull 2Nnull 4Tobtain 3Nnull 1TtacticSeq1Indented 1TtacticSeq .) 3Tparen" else mS #[x] ".intro $0 1Nnull 2Tintro"
  let cl:=mS #[e] (if e.isIdent then ".try .clear $0 1Nnull 2Tclear 1Nnull 1TtacticSeq1Indented 1TtacticSeq 2TtacticTry_" else ".skip 1Tskip")
  let alts:=((List.range n).filter λj=>n-1-j<=5&&j<7).map λj=>
   mQ (#[mS #[(Lean.mkIdent (.mkStr `Tp ("e"++toString (n-1-j)++toString (j+1)))).raw,e] ".refine $0 $1 .? ._ 2PsyntheticHole 2Nnull 2Papp 2Trefine",cl]++post)
  pure (mF (alts.toArray.push (mQ #[mS #[e,s[1][0]] ".rcases 0Nnull $0 2TelimTarget 1Nnull .with $1 0Nnull 2TrcasesPatLo 2Nnull 3Trcases"])))
local macro_rules (kind:=Lean.Parser.Tactic.cases)
 |s=>
  let g:=s[1][0]
  let x:=g[1]
  let b:=g[0].getNumArgs==0
  if s[1].getNumArgs !=1||s[2].getNumArgs !=0|| (if b then !x.isIdent else x.getKind== `Lean.Parser.Term.paren)then Lean.Macro.throwUnsupported else
  let ns:=((if b then "Option List Bool Tp.V PySem.Value PySem.Expr Or And Exists Prod Nat Tp.Va PySem.Flow PySem.CmpOp PySem.Data Tp.S0 Tp.O Tp.Fv Int Except PySem.Obj PySem.Args PySem.Code PySem.Stmt PySem.Operator PySem.UnaryOp PySem.BoolOp PySem.NameKind PySem.Const PySem.Str PySem.Fin PySem.FuncBody PySem.Shared PySem.DictEntry PySem.Keeper Tp.E Tp.T Tp.S Tp.S1 Tp.Knd Tp.Wri Tp.Ex Tp.Mem Tp.Rw Tp.Delay Tp.Goes Tp.Item Tp.Ch Tp.Ty" else "Bool Option List Tp.V PySem.Value PySem.Expr Nat Tp.Va Tp.O Int Except Prod PySem.Operator PySem.NameKind").splitOn " ").map λn=>
   mQ ((if b then#[]else#[mS #[g[0][0][0],x] ".generalize $0 .: 2Nnull $1 .= 'z' 4TgeneralizeArg 1Nnull 0Nnull 3Tgeneralize"]).push (mS #[if b then x else Lean.mkIdent `z',(Lean.mkIdent (n.toName++ `casesOn)).raw,s[3]] ".induction 0Nnull $0 2TelimTarget 1Nnull .using $1 2Nnull 0Nnull $2 5Tinduction"))
  pure (mF ((if b then ns++[mQ #[mS #[x] ".subst $0 1Nnull 2Tsubst"]]else ns)++[mQ #[mS #[g[0],x,s[3]] ".cases $0 .( ' 1NhygieneInfo 2PhygienicLParen $1 .) 3Pparen 2TelimTarget 1Nnull 0Nnull $2 4Tcases"]]).toArray)
set_option genCtorIdx false
set_option bootstrap.genMatcherCode false
set_option tactic.hygienic false
set_option backward.match.sparseCases false
local macro_rules (kind:=Lean.Parser.Command.declaration)
 |s=>if s.getPos?.isNone then Lean.Macro.throwUnsupported else
  let d:=s[1]
  let e:=d.getKind== `Lean.Parser.Command.definition
  let l:=match d[1][0].getId with
   |.str _ n=>n.front.isLower
   |_=>false
  let r:=s[0][6].getNumArgs !=0
  let a:=d.getKind== `Lean.Parser.Command.abbrev
  let s:=if e&&l&&!r then s.setArg 1 (.node .none `Lean.Parser.Command.theorem #[.atom .none "theorem",d[1],.node .none `Lean.Parser.Command.declSig #[d[2][0],d[2][1][0]],d[3]])
   else if e||a&&!r then(if a&&l then s.setArg 1 (.node .none `Lean.Parser.Command.definition #[.atom .none "def",d[1],d[2],d[3],.node .none `null #[]])else s).modifyArg 0 λm=>(m.setArg 6 (.node .none `null #[])).setArg 4 (.node .none `null #[.node .none `Lean.Parser.Command.noncomputable #[.atom .none "noncomputable"]])
   else s
  pure (s.rewriteBottomUp (·.setInfo .none))
def M7:= @congrArg
def M9:= @absurd
def N8:= @decide_eq_false
def Od:= @of_decide_eq_true
def N5:= @decide_eq_true
def Pd:= @of_decide_eq_false
def Np:= @if_neg
def Nt:= @if_pos
def Px:= @beq_self_eq_true
def Oq:= @trivial
def TM:= @beq_false_of_ne
def N2:= @eq_of_beq
theorem H{N:Sort u}{a:N}:a=a:=rfl
abbrev M6:=List Nat
abbrev Ni:=List M6
abbrev LVal:=List AM
abbrev O3:=AM->AZ->Prop
abbrev Ot:=Array UInt8
set_option backward.match.sparseCases true
@[elab_as_elim] def rwr {N:Sort u} {a b:N} {m:N->Prop} (h:a=b) (e:m b):m a:=h▸e
@[elab_as_elim] def rwl {N:Sort u} {a b:N} {m:N->Prop} (h:b=a) (e:m b):m a:=h▸e
def aa{N:Type}{a:N}{C:Prop}(h:(Y:Option N)=U a):C:=nomatch h
def nz{P:Nat->Prop}{n:Nat}(h:P 0)(k:∀t,t<n->P (t+1))(t:Nat)(q:t<n+1):P t:=J4 (motive:=λt=>t<n+1->P t) t (λZ=>h) (λt q=>k t (LR q)) q
@[elab_as_elim] def lt2 {P:Nat->Prop} {t:Nat} (h:t<2) (a:P 0) (b:P 1):P t:=nz a (nz b λt q=>M9 q (HF t)) t h
@[elab_as_elim] def lt3 {P:Nat->Prop} {t:Nat} (h:t<3) (a:P 0) (b:P 1) (c:P 2):P t:=nz a (nz b (nz c λt q=>M9 q (HF t))) t h
@[elab_as_elim] def lt4 {P:Nat->Prop} {t:Nat} (h:t<4) (a:P 0) (b:P 1) (c:P 2) (d:P 3):P t:=nz a (λt h=>lt3 (P:=λt=>P (t+1)) h b c d) t h
@[elab_as_elim] def lt5 {P:Nat->Prop} {t:Nat} (h:t<5) (a:P 0) (b:P 1) (c:P 2) (d:P 3) (e:P 4):P t:=nz a (λt h=>lt4 (P:=λt=>P (t+1)) h b c d e) t h
@[elab_as_elim] def lt7 {P:Nat->Prop} {t:Nat} (h:t<7) (a:P 0) (b:P 1) (c:P 2) (d:P 3) (e:P 4) (f:P 5) (g:P 6):P t:=nz a (nz b λt h=>lt5 (P:=λt=>P (t+2)) h c d e f g) t h
@[elab_as_elim] def aaO {P:Nat->Prop} (p:Nat) (a:P 0) (b:P 1) (c:P 2) (d:∀p,P (p+3)):P p:=J4 p a λp=>J4 p b λp=>J4 p c d
section
variable{α β γ δ ε:Type}{G:Prop}
section
variable{P P2 P3 P4 P5 P6 P7:Prop}
def e02(h:P/\P2)(k:P->P2->G):G:=k h.1 h.2
def e03(h:P/\P2/\P3)(k:P->P2->P3->G):G:=k h.1 h.2.1 h.2.2
def e04(h:P/\P2/\P3/\P4)(k:P->P2->P3->P4->G):G:=k h.1 h.2.1 h.2.2.1 h.2.2.2
def e05(h:P/\P2/\P3/\P4/\P5)(k:P->P2->P3->P4->P5->G):G:=k h.1 h.2.1 h.2.2.1 h.2.2.2.1 h.2.2.2.2
end
section
variable{P P2 P3 P4 P5 P6 P7:α->Prop}
def e11(h:∃a,P a)(k:∀a,P a->G):G:=h.elim λa h=>k a h
def e12(h:∃a,P a/\P2 a)(k:∀a,P a->P2 a->G):G:=h.elim λa h=>k a h.1 h.2
def e13(h:∃a,P a/\P2 a/\P3 a)(k:∀a,P a->P2 a->P3 a->G):G:=h.elim λa h=>k a h.1 h.2.1 h.2.2
def e14(h:∃a,P a/\P2 a/\P3 a/\P4 a)(k:∀a,P a->P2 a->P3 a->P4 a->G):G:=h.elim λa h=>k a h.1 h.2.1 h.2.2.1 h.2.2.2
def e16(h:∃a,P a/\P2 a/\P3 a/\P4 a/\P5 a/\P6 a)(k:∀a,P a->P2 a->P3 a->P4 a->P5 a->P6 a->G):G:=h.elim λa h=>k a h.1 h.2.1 h.2.2.1 h.2.2.2.1 h.2.2.2.2.1 h.2.2.2.2.2
end
section
variable{P P2 P3 P4 P5 P6:α->β->Prop}
def e21(h:∃a b,P a b)(k:∀a b,P a b->G):G:=h.elim λa h=>h.elim λb h=>k a b h
def e22(h:∃a b,P a b/\P2 a b)(k:∀a b,P a b->P2 a b->G):G:=h.elim λa h=>h.elim λb h=>k a b h.1 h.2
def e23(h:∃a b,P a b/\P2 a b/\P3 a b)(k:∀a b,P a b->P2 a b->P3 a b->G):G:=h.elim λa h=>h.elim λb h=>k a b h.1 h.2.1 h.2.2
def e24(h:∃a b,P a b/\P2 a b/\P3 a b/\P4 a b)(k:∀a b,P a b->P2 a b->P3 a b->P4 a b->G):G:=h.elim λa h=>h.elim λb h=>k a b h.1 h.2.1 h.2.2.1 h.2.2.2
def e25(h:∃a b,P a b/\P2 a b/\P3 a b/\P4 a b/\P5 a b)(k:∀a b,P a b->P2 a b->P3 a b->P4 a b->P5 a b->G):G:=h.elim λa h=>h.elim λb h=>k a b h.1 h.2.1 h.2.2.1 h.2.2.2.1 h.2.2.2.2
end
section
variable{P P2 P3 P4 P5:α->β->γ->Prop}
def e31(h:∃a b c,P a b c)(k:∀a b c,P a b c->G):G:=h.elim λa h=>h.elim λb h=>h.elim λc h=>k a b c h
def e32(h:∃a b c,P a b c/\P2 a b c)(k:∀a b c,P a b c->P2 a b c->G):G:=h.elim λa h=>h.elim λb h=>h.elim λc h=>k a b c h.1 h.2
def e34(h:∃a b c,P a b c/\P2 a b c/\P3 a b c/\P4 a b c)(k:∀a b c,P a b c->P2 a b c->P3 a b c->P4 a b c->G):G:=h.elim λa h=>h.elim λb h=>h.elim λc h=>k a b c h.1 h.2.1 h.2.2.1 h.2.2.2
def e35(h:∃a b c,P a b c/\P2 a b c/\P3 a b c/\P4 a b c/\P5 a b c)(k:∀a b c,P a b c->P2 a b c->P3 a b c->P4 a b c->P5 a b c->G):G:=h.elim λa h=>h.elim λb h=>h.elim λc h=>k a b c h.1 h.2.1 h.2.2.1 h.2.2.2.1 h.2.2.2.2
end
section
variable{P P2 P3 P4:α->β->γ->δ->Prop}
def e43(h:∃a b c d,P a b c d/\P2 a b c d/\P3 a b c d)(k:∀a b c d,P a b c d->P2 a b c d->P3 a b c d->G):G:=h.elim λa h=>h.elim λb h=>h.elim λc h=>h.elim λd h=>k a b c d h.1 h.2.1 h.2.2
def e44(h:∃a b c d,P a b c d/\P2 a b c d/\P3 a b c d/\P4 a b c d)(k:∀a b c d,P a b c d->P2 a b c d->P3 a b c d->P4 a b c d->G):G:=h.elim λa h=>h.elim λb h=>h.elim λc h=>h.elim λd h=>k a b c d h.1 h.2.1 h.2.2.1 h.2.2.2
end
end
def ae{a b:Nat}(h:DA a b=J:=by exact H):a<=b:=Ac h
def aO{N:Sort u}{a b c:N}(h:a=b)(k:a=c):b=c:=h.symm.trans k
def aG{p:Prop}(h:p:=by decide):p:=h
def aY{p:Prop}[Decidable p](h:decide p=J:=by kernel_rfl):p:=Od h
def aS{p:Prop}(h:p:=by lia):p:=h
def ax{a b L R:Nat}(h:a<=b)(e:L+b<=R+a):L<=R:=KU (Aa e (AU h R))
abbrev dec:Ll->Bool
 |.builtin id _=>CO.contains id
 |_=>Am
def Cl(l:List (Ll×Pos)):=∀x∈l,dec x.1=Am
def Clean(Γ:Ctx):=dec Γ.code=Am/\Cl Γ.below
abbrev wpAny{α:Type}(M:K5)(A:CP)(t:Sem α)(Q:α->AZ->Prop)(E:O3)(s:AZ):=
 ∀Γ p,Γ.In A->Clean Γ->Sem.wp M Γ t (λa Z s'=>Q a s') (λe Z s'=>E e s') p s
abbrev codeAny(M:K5)(A:CP)(c:Ll)(R:F7->AZ->Prop)(s:AZ):=
 ∀Γ p,Γ.code=c->Γ.Below A->Cl Γ.below->wpCode M Γ R p s
section
variable{α β:Type}{M:K5}{A:CP}{E:O3}{s:AZ}
def up{t:Sem α}{Q:α->AZ->Prop}(h:AB M A t Q E s):wpAny M A t Q E s:=λN p i Z=>h N p i
def upc{c:Ll}{R:F7->AZ->Prop}(h:H9 M A c R s):codeAny M A c R s:=λN p e i Z=>h N p e i
def eA{c:Bool}{a b:Sem α}{Q:α->AZ->Prop}(N:c=Am)(h:wpAny M A b Q E s):wpAny M A (if c=J then a else b) Q E s:=by subst N;exact h
def adK{c:Bool}{a b:Sem α}{Q:α->AZ->Prop}(h:wpAny M A a Q E s)(k:wpAny M A b Q E s):wpAny M A (if c=J then a else b) Q E s:=by
 cases c
 exact k;exact h
def agZ{a:α}{Q:α->AZ->Prop}(h:Q a s):wpAny M A (AJ a) Q E s:=λZ Z Z Z=>h
def ag1{t:Sem α}{Q N:α->AZ->Prop}{R:O3}(h:wpAny M A t Q E s)(X:∀a s,Q a s->N a s)(C:∀e s,E e s->R e s):wpAny M A t N R s:=
 λI p i j=>HX M I t (λa Z s=>X a s) (λe Z s=>C e s) p s (h I p i j)
def agY{m:Sem α}{f:α->Sem β}{Q:β->AZ->Prop}(h:wpAny M A m (λa s'=>wpAny M A (f a) Q E s') E s):wpAny M A (m>>=f) Q E s:=λR p i j=>by rw[Sem.wp_bind'];exact HX M R m (λa I s' N=>N R I i j) (λZ Z Z N=>N) p s<|h R p i j
def ahe{m:Sem α}{k:AM->Sem Unit}{Q:α->AZ->Prop}(h:wpAny M A m Q (λe s'=>wpAny M A (k e) (λZ R=>E e R) E s') s):wpAny M A (m.onRaise k) Q E s:=λI p i j=>by rw[Sem.wp_onRaise];exact HX M I m (λZ Z Z N=>N) (λe X s' N=>N I X i j) p s<|h I p i j
def ahu{m:Sem α}{Q:Except AM α->AZ->Prop}(h:wpAny M A m (λa=>Q (.ok a)) (λe=>Q (.error e)) s):wpAny M A m.attempt Q E s:=λN p i j=>by rw[Sem.wp_attempt];exact h N p i j
def ag2{vs:LVal}{m:Sem α}{Q:α->AZ->Prop}(h:wpAny M A m Q E s):wpAny M A (holding vs m) Q E s:=λN p i j=>by rw[Sem.wp_holding];exact h N p i j
def ahP{vs:LVal}{m:Sem α}{Q:α->AZ->Prop}(h:wpAny M A m Q E s):wpAny M A (m.keep vs) Q E s:=λN p i j=>by rw[Sem.wp_keep];exact h N p i j
def ahD{N:Env}{x:Str}{v:AM}{Q:Unit->AZ->Prop}(h:wpAny M A (storeName N x v) Q E s):wpAny M A (Ka N x v) Q E s:=λR p i j=>by rw[Sem.wp_bindName];exact h R p i j
def ahi{N:Env}{m:Sem α}{Q:α->AZ->Prop}(h:wpAny M A m Q (λZ Z=>False) s):wpAny M A (m.onRaise λx=>do IW x N;GO x) Q E s:=
 ahe (ag1 h (λZ Z q=>q) λZ Z f=>f.elim)
def ag7{c:Ll}{R N:F7->AZ->Prop}(h:codeAny M A c R s)(C:∀r s,R r s->N r s):codeAny M A c N s:=λI p X i j=>wpCode_mono C (h I p X i j)
def jF{N:Ctx}(j:Clean N)(c:Ll)(h:Option AM)(p:Pos):Cl (N.enter c h p).below:=by
 intro x hx;rcases AQ.mp hx with rfl|hx
 exact j.1;exact j.2 x hx
def ahI{c:Ll}{h:Option AM}{Q:Flow->AZ->Prop}(R:codeAny M (A.mark h) c (λr s'=>match r with|.ok f=>Q f s'|.error e=>E e s') s)(N:h≠U byPass):wpAny M A (run c h) Q E s:=
 λI p i j=>by rw[Sem.wp_run];exact R _ p H (i.enter c h p N) (jF j c h p)
def ahE{c:Ll}{Q:O3}(N:codeAny M A c (λr s'=>match r with|.ok (.ret v)=>Q v s'|.ok _=>False|.error e=>E e s') s):wpAny M A (runValue c) Q E s:=
 λR p i j=>by rw[Sem.wp_runValue];exact N _ p H (i.enter c Y p (by intro x;cases x)) (jF j c Y p)
def aha{f:AM}{pos:LVal}{N:List (Str×AM)}{Q:O3}
  (R:codeAny M A (.call f ⟨pos,N⟩) (λr s'=>match r with|.ok (.ret v)=>Q v s'|.ok _=>False|.error e=>E e s') s):wpAny M A (call f pos N) Q E s:=ahE R
def ahw{N:Env}{c:Ll}{h:Option AM}{Q:Flow->AZ->Prop}(I:codeAny M (A.mark h) c (λr s'=>match r with|.ok f=>Q f s'|.error _=>False) s)(R:h≠U byPass):wpAny M A (runOwn c N h) Q E s:=by
 delta runOwn;refine ahe<|ahI (ag7 I λr s' q=>?_) R
 cases r with
 |ok f=>exact q
 |error e=>exact q.elim
def ag3{c:Ll}{R:F7->AZ->Prop}
  (h:wpAny M (A.under c) (M.den c) (λN s'=>match N with|.done f=>R (.ok f) s'|.again I=>I.quiet=J/\codeAny M A I R s') (λe s'=>R (.error e) s') s) (q:dec c=Am):codeAny M A c R s:=λC p Q i j=>by
 rw[wpCode_iff_wp,Q];refine HX M C _ (λN y s' X=>?_) (λZ Z Z X=>X) p s<|h C p (Q▸i.in) ⟨Q▸q,j⟩
 cases N with
 |done f=>exact X
 |again I=>exact⟨X.1,X.2 (C.goto I) y H (i.goto I) j⟩
def ahK{c:Ll}{R:F7->AZ->Prop}(hq:c.quiet=J)(I:Nat->AZ->Prop)
  (X:∀n s,I n s->wpAny M (A.under c) (M.den c) (λN s'=>match N with|.done f=>R (.ok f) s'|.again C=>C=c/\∃m,m<n/\I m s') (λe s'=>R (.error e) s') s) (n:Nat) (h:I n s) (hd:dec c=Am):codeAny M A c R s:=by
 induction n using Nat.strongRecOn generalizing s with
 |ind n q=>
  refine ag3 (ag1 (X n s h) (λN s' Q=>?_) λZ Z x=>x) hd
  cases N with
  |done f=>exact Q
  |again C=>obtain⟨rfl,m,y,hI⟩:=Q;exact⟨hq,q m y hI⟩
def ahv{c:Ll}{R:F7->AZ->Prop}(hq:c.quiet=J)(I:Nat->AZ->Prop)
  (X:∀n s,I n s->wpAny M (A.under c) (M.den c) (λN s'=>match N with|.done f=>R (.ok f) s'|.again C=>(C=c/\∃m,m<n/\I m s')\/(C.quiet=J/\codeAny M A C R s')) (λe s'=>R (.error e) s') s)
  (n:Nat) (h:I n s) (x:dec c=Am):codeAny M A c R s:=by
 induction n using Nat.strongRecOn generalizing s with
 |ind n y=>
  refine ag3 (ag1 (X n s h) (λN s' hf=>?_) λZ Z q=>q) x
  cases N with
  |done f=>exact hf
  |again C=>
   rcases hf with⟨rfl,m,Q,hI⟩|hf
   exact⟨hq,y m Q hI⟩;exact hf
def ahb{T:String}{data:Data}{dict:Option AG}{Q:O3}(h:Q (.ref s.heap.objs.size) {s with heap:=s.heap.push {cls:=.type T,dict:=dict,data:=data}})(N:sizeOk data):
  wpAny M A (newObj (.type T) data dict) Q E s:=up (Cf h N)
def ahB{a:AG}{N:Option AM}{o:Obj}{R:Array BY}{ep:Nat}{f:Array BY->Array BY}{Q:Unit->AZ->Prop}(X:s.heap.get? a=U o)
  (I:o.data=.dict R ep) (h:Q () {s with heap:=s.heap.update a (Obj.mapDict f)}) (hz:(f R).size<=R.size):wpAny M A (updateDict a f N) Q E s:=up (PySem.wpAny_updateDict X I h hz)
def aho{a:AG}{N:Option AM}{o:Obj}{R:Array BY}{ep:Nat}{f:Array BY->Array BY}{Q:Unit->AZ->Prop}(X:s.heap.get? a=U o)
  (I:o.data=.dict R ep) (h:Q () {s with heap:=s.heap.update a (Obj.mapDictKeys f)}) (hz:R.size<=Eu) (hf:(f R).size<=R.size+1):wpAny M A (updateDictKeys a f N) Q E s:=up (PySem.wpAny_updateDictKeys X I h hz hf)
def ahm{env:Env}{name:Str}{m:Str->Option AM}{v:AM}{Q:Unit->AZ->Prop}(I:env.kindOf name=U .local)(R:s.heap.Ns env.locals m)
  (h:∀N,N.Ns env.locals (λx=>if x=name then U v else m x)->CJ env.locals s.heap N->Q () {s with heap:=N,toks:=s.toks+1})
  (X:(env.scope.kind== .class||env.scope.kind== .module&&env.locals !=env.globals)=Am):wpAny M A (storeName env name v) Q E s:=up (PySem.wpAny_storeName_local I R h X)
def ahp{scope:Ej}{globals:AG}{X:List (Str×AG)}{I:List (Str×AM)}{y:Str}{C:Option AG}{code:AM}{R:Option Env}{N:AG}{Q:Env->AZ->Prop}
  (q:∀x∈scope.names,x.2≠.cell) (hloc:∀x∈I,scope.names.lookup x.1=U .local)
  (h:∀h',h'.Ns s.heap.objs.size (λx=>I.reverse.lookup x)->CJ s.heap.objs.size (s.heap.push {cls:=.type (if R.isSome then "dict" else "frame"),data:=.dict #[]}) h'->
   Q (newEnv scope s.heap.objs.size globals X y C code R N) {s with heap:=h',toks:=s.toks+I.length}) (hk:scope.kind=.function):
  wpAny M A (II scope globals X I y C code R N) Q E s:=up (PySem.wpAny_newFunctionEnv q hloc h hk)
variable{prog:CZ}{w:Dy}{R:F7->AZ->Prop}
def ahf{l:AG}{items:Array AM}{x:AM}{Q:O3}(C:s.heap.PlainList l items)
  (X:∀N,N.PlainList l (items.push x)->CJ l s.heap N->Q .none {s with heap:=N}) (I:items.size<=Eu):wpAny (model prog w) A (call (.builtin "list.append") [.ref l,x]) Q E s:=up (PySem.wpAny_list_append_plain C X I)
def aht{N:List (Sem AM×Sem AM)}{Q:List (AM×AM)->AZ->Prop}(h:wpAny (model prog w) A (IY N) Q E s):
  wpAny (model prog w) A (IY N) (λvs s'=>vs.length=N.length/\Q vs s') E s:=λI p i j=>wp_evalPairs_len _ I N _ _ p s (h I p i j)
def ahH{N:List Stmt}{I:Env}(h:wpAny (model prog w) A (execs N I) (λf s'=>R (.ok f) s') (λZ Z=>False) s):codeAny (model prog w) A (.block N I) R s:=by refine ag3 ?_ H;show wpAny _ _ (do return CN (<-(execs N I).onRaise (λx=>do IW x I;GO x))) _ _ s;exact agY<|ahi<|ag1 h (λf s' X=>agZ X) λZ Z X=>X
def ahL{I:List Stmt}{N:Env}(h:wpAny (model prog w) (A.deeper N) (execs I N) (λf s'=>R (.ok (.ret (match f with|.ret v=>v|_=>.none))) s') (λZ Z=>False) s):
  codeAny (model prog w) A (.func I N) R s:=by
 refine ag3 ?_ H;show wpAny _ (A.deeper N) (do point;match<-(execs I N).onRaise (leaving N)with|.ret v=>ret v|_=>ret .none) _ _ s;refine agY<|up<|EE<|agY<|ahe<|ag1 h (λf s' X=>?_) λZ Z X=>X.elim
 cases f<;>exact agZ X
def ahn{a:AG}{args:Args}{o:Obj}{N:HJ}{C:List Stmt}(q:A.depth<recursionLimit)(ho:s.heap.get? a=U o)
  (hd':o.data=.func N) (hco:N.scope.isCoroutine=Am) (hgen:N.scope.isGenerator=Am) (x:N.body=.stmts C) (hcd:s.heap.CodeRec N.code N.qualname)
  (h:wpAny (model prog w) A.in1 (bindArgs N args) (λX y=>
   wpAny (model prog w) A.in1 (II N.scope N.globals N.closure X (N.qualname++".<locals>.") (U a) N.code Y N.builtins)
    (λenv I=>I.heap.NoLimit/\codeAny (model prog w) A (.func C env) R I) (λZ Z=>False) y) (λZ Z=>False) s):
  codeAny (model prog w) A (.call (.ref a) args) R s:=by
 refine ag3 (agY (up (CY ho ?_))) H;rw[hd'];obtain⟨c,oc,vs,tq,hc,hoc,hdc,hq⟩:=hcd;show wpAny _ _ (callFunction a N args) _ _ _;delta callFunction;rw[hc]at h⊢;refine agY<|up<|Cd hoc hdc hq<|agY<|agZ<|agY<|ag1 h (λX y h₁=>agY (ag1 h₁ (λenv I Q=>agY (up (PySem.wpAny_enterFrame Q.1 q ?_))) λZ Z h'=>h'.elim)) λZ Z h'=>h'.elim
 rw[hgen,hco,x];exact agZ<|Hv H Q.2
def ahd{id:String}{args:Args}{b:LA}(X:DI table id=U b)
  (h:wpAny (model prog w) (A.under (.builtin id args)) (b args) (λN s'=>match N with|.done f=>R (.ok f) s'|.again I=>I.quiet=J/\codeAny (model prog w) A I R s') (λe s'=>R (.error e) s') s)
  (C:CO.contains id=Am):codeAny (model prog w) A (.builtin id args) R s:=by
 refine ag3 ?_ C;show wpAny _ _ (match DI table id with|some b=>b args|none=>unsupported ((withoutEnding? id "#data").getD id)) _ _ s;rw[X];exact h
def ag9{id:String}{args:Args}{b:LA}(x:(Co id args).quiet=J)(y:DI table id=U b)(q:CO.contains id=Am)
  (h:wpAny (model prog w) A.in1 (Gu id args) (λZ N=>wpAny (model prog w) (A.under (.builtin id args)) (b args)
   (λX s'=>match X with|.done f=>R (.ok f) s'|.again C=>C.quiet=J/\codeAny (model prog w) A C R s') (λe s'=>R (.error e) s') N) (λe s'=>R (.error e) s') s):codeAny (model prog w) A (.call (.builtin id) args) R s:=by
 refine ag3 ?_ H;show wpAny _ A.in1 (do Gu id args;again (.builtin id args)) _ _ s;exact agY<|ag1 h (λZ N I=>agZ (Hv x (ahd y I q))) λZ Z Q=>Q
def ahk{C N iter:AO}{X:List AO}{rest:List HB}{scope:Ej}{pos:Pos}{y acc:AM}{I:Env}
  (h0:codeAny (model prog w) A (.compLoop (.ListComp C (⟨N,iter,X,0⟩::rest) scope pos) 0 y acc I) R s)
  (h:wpAny (model prog w) A (Fo y) (λQ s'=>codeAny (model prog w) A (.compLoop (.ListComp C (⟨N,iter,X,0⟩::rest) scope pos) 0 Q acc I) R s') (λZ Z=>False) s):
  codeAny (model prog w) A (.compStart (.ListComp C (⟨N,iter,X,0⟩::rest) scope pos) 0 y acc I) R s:=by
 refine ag3 ?_ H;show wpAny _ _ ((compStart (.ListComp C (⟨N,iter,X,0⟩::rest) scope pos) 0 y acc I).onRaise (λx=>do IW x I;GV theWindowsPlace)) _ _ s;refine ahe<|ag1 (E:=λZ Z=>False) ?_ (λZ Z q=>q) λZ Z f=>f.elim
 delta compStart;show wpAny _ _ (ask>>=_) _ _ s;refine agY<|up<|Hq<|adK ?_ ?_
 ·first
   |exact agY (agZ (agZ (Hv rfl h0)))
   |exact agZ (Hv rfl h0)
 first
  |exact agY (up (BD (agY (up (Dp (agY (ag1 h (λQ s' h'=>agZ (Hv H h')) λZ Z x=>x)))))))
  | (refine agY (up (BD ?_));exact agY (up (Dp (agY (ag1 h (λQ s' h'=>agZ (Hv H h')) λZ Z x=>x)))))
variable{env:Env}
def aaP{α:Type}{b:Bool}{p:Pos}{k:Unit->Sem α}{Q:α->AZ->Prop}(h:wpAny M A (k ()) Q E s):wpAny M A (if b=J then GV p>>=k else k ()) Q E s:=by
 cases b
 exact h;exact agY<|up<|Dp h
abbrev compPost(M:K5)(A:CP)(E:O3)(use:Option (AM->Sem Unit))(Q:O3)(acc:AM)(C:AG)(r:F7)(s':AZ):=
 match r,use with
 |.ok _,Y=>∃m,s'.heap.Ns C m/\∀h',CJ C s'.heap h'->Q acc {s' with heap:=h'}
 |.ok _,U u=>wpAny M A (u acc) (λZ s''=>∃m,s''.heap.Ns C m/\∀h',CJ C s''.heap h'->Q .none {s'' with heap:=h'}) E s'
 |.error _,_=>False
def ahj{e:AO}{scope:Ej}{pos:Pos}{N first:Sem AM}{g:HB}{gs:List HB}{cl:List (Str×AG)}{C:Option (AM->Sem Unit)}{Q:O3}
  (hcl:clausesOf e=g::gs) (hs:∀x,foldedSetIterable g.iter env x=AJ x) (hclos:closureFor scope env=AJ cl)
  (X:scope.kind=.function) (y:∀x∈scope.names,x.2=.local->scope.names.lookup x.1=U .local)
  (h:wpAny M A first (λx s₁=>wpAny M A (Fo x) (λit q=>wpAny M A N (λacc s₃=>
   wpAny M A (II scope env.globals cl [] env.qual Y .none (U env)) (λcenv s₄=>codeAny M A (.compStart e 0 it acc {cenv with scope:=MM scope env}) (compPost M A E C Q acc cenv.locals) s₄) E s₃) E q) E s₁) E s):
  wpAny M A (Mm e scope env pos N Am first C) Q E s:=by
 delta Mm;rw[hclos,hcl];refine agY<|ag1 h (λx s₁ h₁=>agY (up (Dp (agY ?_)))) λZ Z I=>I
 rw[hs x];refine agZ<|agY<|ag2<|ag1 h₁ (λit q h₂=>aaP (agY (ag1 h₂ (λacc s₃ h₃=>agY (agZ (agY (ag1 h₃ (λcenv s₄ h₄=>?_) λZ Z I=>I)))) λZ Z I=>I))) λZ Z I=>I
 dsimp only
 have hv:∀x∈(scope.names.filter λx=>(x.2== .local||x.2== .cell)&&x.1 !=(".0":Str)).reverse,x.2=.local->
   Env.kindOf {cenv with scope:=MM scope env} x.1=U .local:=λx hx hl=>lookup_relabel_local (y x (List.mem_filter.mp (EW.mp hx)).1 hl)
 have hv':∀x∈(scope.names.filter λx=>(x.2== .local||x.2== .cell)&&x.1 !=(".0":Str)).reverse.drop 1++(scope.names.filter λx=>(x.2== .local||x.2== .cell)&&x.1 !=(".0":Str)).reverse.take 1,
   x.2=.local->Env.kindOf {cenv with scope:=MM scope env} x.1=U .local:=λx hx hl=>by
  rcases BC.mp hx with h1|h1
  exact hv x (Mh h1) hl;exact hv x (HO h1) hl
 refine ag2<|agY<|ahu<|ag2<|ahI (ag7 h₄ λr s' hr=>?_) (by intro x;cases x)
 cases r with
 |ok f=>
  cases C with
  |none=>obtain⟨m,hn,hr⟩:=hr;exact agY<|ag2<|up<|Li X _ s' m hv hn λI m' Z hs'=>agZ<|hr I hs'
  |some u=>
   refine agY<|up<|BD<|agY<|ag2<|ag1 hr (λZ s'' hr'=>?_) λZ Z I=>I
   obtain⟨m,hn,hr'⟩:=hr';exact agY<|up<|Li (cenv:={cenv with scope:=MM scope env}) X _ s'' m hv' hn λI m' Z hs'=>agZ<|hr' I hs'
 |error x=>exact(by cases C<;>exact hr.elim)
def ahx:∀{prog:CZ} {w:Dy} {K:Type} [DecidableEq K]
 {knd:PySem.KeyKind prog w K} {A:CP} {E:AM->AZ->Prop} {s:AZ}
 {d:AG} {o:PySem.Obj} {I:Array BY} {ep:Nat} {k:K} {N:AM}
 {Q:Option Nat->AZ->Prop},
 knd.is k N=J->
  s.heap.get? d=U o->
   o.data=EY I ep->
    PySem.KeysOf knd I->
     Q (Array.findIdx? (λ(e:BY)=>knd.is k e.key) I) s->
      Tp.wpAny (PySem.model prog w) A (PySem.dictFind d N (knd.hash k)) Q E s:=by
 intros;refine up ?_;refine' PySem.wpAny_dictFind_of ?_ ?_ ?_ ?_ ?_ <;>assumption
def ahy{prog:CZ}{w:Dy}{K:Type}[DecidableEq K]{knd:PySem.KeyKind prog w K}{A:CP}{E:O3}{s:AZ}{d:AG}{kvs:List (K×AM)}{ep:Nat}{Q:O3}
  (I:(d==Ea)=Am) (N:PySem.Heap.DictAt knd s.heap d kvs ep)
  (X:Q (.ref s.heap.objs.size) {s with heap:=s.heap.push {cls:=.type "dict_keyiterator",data:=.fields #[.ref d,.int 0 0,.int (kvs.length:Nat) 0,.int (ep:Nat) 0]}}):wpAny (model prog w) A (Fo (.ref d)) Q E s:=up (PySem.wpAny_pyIter_dict I N X)
end
set_option backward.match.sparseCases false
inductive V where
 |none
 |bool (b:Bool)
 |int (i:Int)
 |str (x:M6)
 |bytes (x:M6)
 |val (v:AM)
 |ref (a:AG)
 |tup (l:List V)
 |lst (l:List V)
 |di (l:List (V×V))
 |ins (c:AG) (l:List (Nat×V))
open V renaming bytes->W,int->Ar,ref->Av,none->A5,tup->Bg,bool->Bm,lst->BB,di->B6,str->B9,val->Gj
inductive O where
 |list (l:List V)
 |dict (l:List (V×V))
 |rF (l:M6)
 |inst (c:AG) (l:List (Nat×V))
 |u6 (a:AG)
open O renaming list->AA,dict->AE,inst->BZ,rF->CF,u6->CK
abbrev M5:=AG->Option O
abbrev KE:=V->M5->Prop
abbrev LV:=List V
abbrev OV:=Option V
abbrev NW:=List (V×V)
abbrev Ox:=List (AG×O)
abbrev NI:=List Str
abbrev M5.set(σ:M5)(a:AG)(o:O):M5:=λb=>if b=a then U o else σ b
abbrev M5.del(σ:M5)(a:AG):M5:=λb=>if b=a then Y else σ b
def Nh:=16777216
def Ub:NI:=(["octets","at","rows","text","opened","values","params","own","statics","stack","found","info","kept",
 "names","booleans","numbers","strings","more","uses","parts","size","told"]:List String).map CM
abbrev nm(n:Nat):Str:=(Ub[n]?).getD EG
structure St where
 sh:AZ
 φ:AG->Prop
 σ:M5
abbrev St.get?(x:St)(a:AG):Option Obj:=x.sh.heap.get? a
@[reducible]nonrec def St.sz(x:St):=x.sh.heap.objs.size
def Fz(x:St)(a:AG):=x.σ a=Y/\x.φ a
def Qk(P:He)(l:M6):Int:=if l.isEmpty then 0 else Dx (P.strHash l.toArray)
mutual
noncomputable def keyHash(P:He):V->Int
 |.int i=>hashInt i
 |.str x=>Qk P x
 |.bytes x=>Dx (Qk P x)
 |.tup l=>Dx (Ct (PL P l))
 |_=>0
noncomputable def PL(P:He):LV->List Int
 | []=>[]
 |v::r=>keyHash P v::PL P r
end
abbrev Sv(its:LVal)(n:Nat):Obj:={cls:=An "tuple",data:=El its.toArray n}
abbrev OG(its:LVal)(n:Nat):Obj:=listOf its.toArray n
mutual
inductive aq (P:He) (x:St):AM->V->Prop
 |none:aq P x AL A5
 |bool (b:Bool):aq P x (B0 b) (Bm b)
 |int (i:Int) (t:Tok):aq P x (By i t) (Ar i)
 |str (y:Str) (t:Tok) (l:M6):y.cps.toList=l->l.length<=Nh->aq P x (Cg y t) (B9 l)
 |bytes (b:Ot) (t:Tok) (l:M6):b.toList.map Br=l->l.length<=Nh->aq P x (AF b t) (W l)
 |val (v:AM):aq P x v (Gj v)
 |ref (a:AG):aq P x (Ai a) (Av a)
 |tup (a:AG) (vs:LVal) (n:Nat) (l:LV):x.get? a=U (Sv vs n)->Fz x a->l.length<=Nh->aE P x vs l->aq P x (Ai a) (Bg l)
 |lst (a:AG) (vs:LVal) (n:Nat) (l:LV):x.get? a=U (OG vs n)->Fz x a->l.length<=Nh->aE P x vs l->aq P x (Ai a) (BB l)
 |di (a:AG) (es:List BY) (n:Nat) (l:NW):x.get? a=U (Dt es n)->Fz x a->l.length<=Nh->aU P x es l->(a==Ea)=Am->aq P x (Ai a) (B6 l)
 |ins (a d c:AG) (es:List BY) (n:Nat) (l:List (Nat×V)):x.get? a=U (Fi c d)->x.get? d=U (Dt es n)->Fz x a->Fz x d->bh P x es l->aq P x (Ai a) (V.ins c l)
inductive aE (P:He) (x:St):LVal->LV->Prop
 |nil:aE P x [] []
 |cons {v:AM} {vs:LVal} {z:V} {l:LV}:aq P x v z->aE P x vs l->aE P x (v::vs) (z::l)
inductive aU (P:He) (x:St):List BY->NW->Prop
 |nil:aU P x [] []
 |cons {e:BY} {es:List BY} {k v:V} {l:NW}:aq P x e.key k->e.hash=keyHash P k->aq P x e.val v->aU P x es l->aU P x (e::es) ((k,v)::l)
inductive bh (P:He) (x:St):List BY->List (Nat×V)->Prop
 |nil:bh P x [] []
 |cons {hs:Int} {t:Tok} {u:AM} {es:List BY} {n:Nat} {v:V} {l:List (Nat×V)}:aq P x u v->bh P x es l->bh P x (⟨hs,Cg (nm n) t,u⟩::es) ((n,v)::l)
end
def SP(P:He)(x:St)(a:AG):O->Prop
 |.list l=>∃vs n,x.get? a=U (OG vs n)/\l.length<=Nh/\aE P x vs l
 |.dict l=>∃es n,x.get? a=U (Dt es n)/\l.length<=Nh/\aU P x es l/\(a==Ea)=Am
 |.rF l=>∃b,x.get? a=U {cls:=An "bytearray",data:=B7 b 0}/\b.toList.map Br=l/\l.length<=Nh
 |.inst c l=>∃d es n,x.get? a=U (Fi c d)/\x.get? d=U (Dt es n)/\x.σ d=U (CK a)/\bh P x es l/\a=d+1
 |.u6 _=>∃o,x.get? a=U o
structure Bx where
 prog:CZ
 w:Dy
 base:Heap
 os:OsState
 gens:Array GenState
 K:HW
 mg:Str->Option AM
 mb:Str->Option AM
 jc:K.In base
 nsg:base.Ns CU mg
 nsb:base.Ns JD mb
 nolimit:base.NoLimit
 boot:∀x:Str,x≠"__name__"->mb x=bootBuiltins x
 Fx:Prop
abbrev Bx.P(B:Bx):He:=B.w.params
abbrev Bx.M(B:Bx):K5:=model B.prog B.w
structure Ok (B:Bx) (x:St):Prop where
 base:∀b o,B.base.get? b=U o->Fz x b/\x.get? b=U o
 objs:∀a o,x.σ a=U o->SP B.P x a o
 QA:∀a,x.φ a->x.σ a=Y/\∃o,x.get? a=U o
 os:x.sh.os=B.os
 gens:x.sh.gens=B.gens
 fx:B.Fx
structure Wd (B:Bx) extends St where
 ok:Ok B toSt
def Rd{B:Bx}(x:Wd B)(v:AM)(z:V):Prop:=aq B.P x.toSt v z
def Nq{B:Bx}(x:Wd B)(v:LVal)(z:LV):Prop:=aE B.P x.toSt v z
abbrev noOwn:AG->Prop:=λZ=>False
def LE(own:AG->Prop)(x y:St):=
 (∀a o,¬own a->x.get? a=U o->x.σ a=Y->y.get? a=U o/\y.σ a=Y/\(y.φ a↔x.φ a))/\
 ∀a,own a->x.σ a=Y->¬x.φ a->y.σ a=Y/\¬y.φ a
abbrev LN{B:Bx}(x y:Wd B):=LE noOwn x.toSt y.toSt
def LE.refl{own:AG->Prop}(x:St):LE own x x:=⟨λZ Z Z e n=>⟨e,n,GF⟩,λZ Z h k=>⟨h,k⟩⟩
def LE.trans{own:AG->Prop}{x y z:St}(h:LE own x y)(k:LE own y z):LE own x z:=
 ⟨λa o n e s=>(h.1 a o n e s).elim λN r=>(k.1 a o n N r.1).imp_right λq=>⟨q.1,q.2.trans r.2⟩,
  λa n e s=>(h.2 a n e s).elim λN r=>k.2 a n N r⟩
def LE.own{own:AG->Prop}{x y:St}(h:LE noOwn x y)(N:∀a,own a->∃o,x.get? a=U o):LE own x y:=
 ⟨λa o Z e s=>h.1 a o (λq=>q) e s,λa n e s=>(N a n).elim λo g=>(h.1 a o (λq=>q) g e).elim λZ r=>⟨r.1,λq=>s (r.2.mp q)⟩⟩
def Ou(x y:St):=∀a o,x.get? a=U o->Fz x a->y.get? a=U o/\Fz y a
def LE.az(h:LE noOwn x y):Ou x y:=λa o e s=>(h.1 a o (λq=>q) e s.1).imp_right λr=>⟨r.1,r.2.mpr s.2⟩
def aq.az{x y:St}(h:Ou x y){v:AM}{z:V}(q:aq P x v z):aq P y v z:=
 aq.rec
  aq.none aq.bool aq.int aq.str aq.bytes .val aq.ref
  (λa R n l e f m Z q=>.tup a R n l (h a _ e f).1 (h a _ e f).2 m q)
  (λa R n l e f m Z q=>.lst a R n l (h a _ e f).1 (h a _ e f).2 m q)
  (λa N n l e f m Z z q=>.di a N n l (h a _ e f).1 (h a _ e f).2 m q z)
  (λa d c N n l e I f A Z q=>.ins a d c N n l (h a _ e f).1 (h d _ I A).1 (h a _ e f).2 (h d _ I A).2 q)
  aE.nil (λZ Z a b=>aE.cons a b) aU.nil (λZ b Z Z a c d=>aU.cons a b c d) .nil (λZ Z a b=>bh.cons a b) q
def aE.az{x y:St}(h:Ou x y){v:LVal}{z:LV}(q:aE P x v z):aE P y v z:=
 aE.rec
  .none .bool .int .str .bytes .val .ref
  (λa R n l e f m Z q=>.tup a R n l (h a _ e f).1 (h a _ e f).2 m q)
  (λa R n l e f m Z q=>.lst a R n l (h a _ e f).1 (h a _ e f).2 m q)
  (λa N n l e f m Z z q=>.di a N n l (h a _ e f).1 (h a _ e f).2 m q z)
  (λa d c N n l e I f A Z q=>.ins a d c N n l (h a _ e f).1 (h d _ I A).1 (h a _ e f).2 (h d _ I A).2 q)
  .nil (λZ Z a b=>.cons a b) .nil (λZ b Z Z a c d=>.cons a b c d) .nil (λZ Z a b=>.cons a b) q
def aU.az{x y:St}(h:Ou x y){v:List BY}{z:NW}(q:aU P x v z):aU P y v z:=
 aU.rec (motive_4:=λv z Z=>bh P y v z)
  aq.none aq.bool aq.int aq.str aq.bytes .val aq.ref
  (λa R n l e f m Z q=>.tup a R n l (h a _ e f).1 (h a _ e f).2 m q)
  (λa R n l e f m Z q=>.lst a R n l (h a _ e f).1 (h a _ e f).2 m q)
  (λa N n l e f m Z z q=>.di a N n l (h a _ e f).1 (h a _ e f).2 m q z)
  (λa d c N n l e I f A Z q=>.ins a d c N n l (h a _ e f).1 (h d _ I A).1 (h a _ e f).2 (h d _ I A).2 q)
  aE.nil (λZ Z a b=>aE.cons a b) aU.nil (λZ b Z Z a c d=>aU.cons a b c d) .nil (λZ Z a b=>bh.cons a b) q
def bh.az{x y:St}(h:Ou x y){v:List BY}{z:List (Nat×V)}(q:bh P x v z):bh P y v z:=
 bh.rec
  .none .bool .int .str .bytes .val .ref
  (λa R n l e f m Z q=>.tup a R n l (h a _ e f).1 (h a _ e f).2 m q)
  (λa R n l e f m Z q=>.lst a R n l (h a _ e f).1 (h a _ e f).2 m q)
  (λa N n l e f m Z z q=>.di a N n l (h a _ e f).1 (h a _ e f).2 m q z)
  (λa d c N n l e I f A Z q=>.ins a d c N n l (h a _ e f).1 (h d _ I A).1 (h a _ e f).2 (h d _ I A).2 q)
  .nil (λZ Z a b=>.cons a b) .nil (λZ b Z Z a c d=>.cons a b c d) .nil (λZ Z a b=>.cons a b) q
def Yh(P:He)(x:St)(v:AM):V->Prop
 |.none=>v=AL
 |.bool b=>v=B0 b
 |.int i=>∃t,v=By i t
 |.str l=>∃y t,v=Cg y t/\y.cps.toList=l/\l.length<=Nh
 |.bytes l=>∃b t,v=AF b t/\b.toList.map Br=l/\l.length<=Nh
 |.val u=>v=u
 |.ref a=>v=Ai a
 |.tup l=>∃a vs n,v=Ai a/\x.get? a=U (Sv vs n)/\Fz x a/\l.length<=Nh/\aE P x vs l
 |.lst l=>∃a vs n,v=Ai a/\x.get? a=U (OG vs n)/\Fz x a/\l.length<=Nh/\aE P x vs l
 |.di l=>∃a es n,v=Ai a/\x.get? a=U (Dt es n)/\Fz x a/\l.length<=Nh/\aU P x es l/\(a==Ea)=Am
 |.ins c l=>∃a d es n,v=Ai a/\x.get? a=U (Fi c d)/\x.get? d=U (Dt es n)/\Fz x a/\Fz x d/\bh P x es l
def aq.inv(q:aq P x v z):Yh P x v z:=by
 cases q with
 |none=>rfl
 |bool=>rfl
 |int i t=>exact⟨t,H⟩
 |str y t l e m=>exact⟨y,t,H,e,m⟩
 |bytes y t l e m=>exact⟨y,t,H,e,m⟩
 |val=>rfl
 |ref=>rfl
 |tup a R n l e f m q=>exact⟨a,R,n,H,e,f,m,q⟩
 |lst a R n l e f m q=>exact⟨a,R,n,H,e,f,m,q⟩
 |di a N n l e f m q z=>exact⟨a,N,n,H,e,f,m,q,z⟩
 |ins a d c N n l X I A C q=>exact⟨a,d,N,n,H,X,I,A,C,q⟩
def aE.dQ(q:aE P x v []):v=[]:=by cases q;rfl
def aE.inv(q:aE P x v (z::l)):∃u us,v=u::us/\aq P x u z/\aE P x us l:=by cases q with|cons a b=>exact⟨_,_,H,a,b⟩
def aU.dQ(q:aU P x v []):v=[]:=by cases q;rfl
def aU.inv(q:aU P x v (e::l)):∃u us,v=u::us/\aq P x u.key e.1/\u.hash=keyHash P e.1/\aq P x u.val e.2/\aU P x us l:=by cases q with|cons a b c d=>exact⟨_,_,H,a,b,c,d⟩
def bh.dQ(q:bh P x v []):v=[]:=by cases q;rfl
def bh.inv(q:bh P x v (e::l)):∃N t u us,v=⟨N,Cg (nm e.1) t,u⟩::us/\aq P x u e.2/\bh P x us l:=by cases q with|cons a b=>exact⟨_,_,_,_,H,a,b⟩
section
variable{B:Bx}{x y:Wd B}{v:AM}{z:V}{C:AM->Prop}{CL:LVal->Prop}{l:LV}{own:AG->Prop}
def Rd.l9(h:Rd x v (Ar i))(q:∀t,C (By i t)):C v:=(aq.inv h).elim λt e=>e▸q t
def Rd.dn{b:M6}(h:Rd x v (W b))(q:∀u t,u.toList.map Br=b->b.length<=Nh->C (AF u t)):C v:=by obtain⟨u,t,rfl,e,m⟩:=aq.inv h;exact q u t e m
def Rd.u7{b:M6}(h:Rd x v (B9 b))(q:∀u t,u.cps.toList=b->b.length<=Nh->C (Cg u t)):C v:=by obtain⟨u,t,rfl,e,m⟩:=aq.inv h;exact q u t e m
def Rd.mA(h:Rd x v (Bm b))(q:C (B0 b)):C v:=(aq.inv h:v=B0 b)▸q
def Rd.mB(h:Rd x v A5)(q:C AL):C v:=(aq.inv h:v=AL)▸q
def Rd.ae8(h:Rd x v (Av a))(q:C (Ai a)):C v:=(aq.inv h:v=Ai a)▸q
def Rd.xb(h:Rd x v (Bg l))(q:∀a vs n,x.get? a=U (Sv vs n)->Fz x.toSt a->l.length<=Nh->Nq x vs l->C (Ai a)):C v:=by obtain⟨a,vs,n,rfl,e,f,m,s⟩:=aq.inv h;exact q a vs n e f m s
def Rd.agc(h:Rd x v (BB l))(q:∀a vs n,x.get? a=U (OG vs n)->Fz x.toSt a->l.length<=Nh->Nq x vs l->C (Ai a)):C v:=by obtain⟨a,vs,n,rfl,e,f,m,s⟩:=aq.inv h;exact q a vs n e f m s
def Nq.e0(h:Nq x vs [])(q:CL []):CL vs:=(aE.dQ h)▸q
def Nq.dp(h:Nq x vs (z::l))(q:∀u us,Rd x u z->Nq x us l->CL (u::us)):CL vs:=by obtain⟨u,us,rfl,a,b⟩:=aE.inv h;exact q u us a b
def Nq.e1(h:Nq x vs [z])(q:∀u,Rd x u z->CL [u]):CL vs:=h.dp λu Z a b=>b.e0 (CL:=λN=>CL (u::N)) (q u a)
def Nq.e2(h:Nq x vs [z,R])(q:∀u N,Rd x u z->Rd x N R->CL [u,N]):CL vs:=h.dp λu Z a b=>b.e1 (CL:=λI=>CL (u::I)) λN b=>q u N a b
def Nq.e3(h:Nq x vs [z,R,I])(q:∀u N u3,Rd x u z->Rd x N R->Rd x u3 I->CL [u,N,u3]):CL vs:=h.dp λu Z a b=>b.e2 (CL:=λA=>CL (u::A)) λN u3 b c=>q u N u3 a b c
def Rd.le(h:Rd x v z)(k:LN x y):Rd y v z:=aq.az k.az h
def Nq.le(h:Nq x vs l)(k:LN x y):Nq y vs l:=aE.az k.az h
def Nq.nil:Nq x [] []:=aE.nil
def Nq.cons(h:Rd x v z)(k:Nq x vs l):Nq x (v::vs) (z::l):=aE.cons h k
def Nq.length{vs:LVal}(h:Nq x vs l):vs.length=l.length:=by
 induction l generalizing vs with
 |nil=>exact h.e0 (CL:=λvs=>vs.length=0) H
 |cons z l N=>exact h.dp (CL:=λvs=>vs.length=l.length+1) λu R Z b=>M7 (· +1) (N b)
def Nq.append(h:Nq x vs l)(k:Nq x ws m):Nq x (vs++ws) (l++m):=by
 induction l generalizing vs with
 |nil=>exact h.e0 (CL:=λvs=>Nq x (vs++ws) _) k
 |cons z l N=>exact h.dp (CL:=λvs=>Nq x (vs++ws) (z::(l++m))) λu R a b=>Nq.cons a (N b)
def Nq.get{k:Nat}(h:Nq x vs l)(e:l[k]?=U z):∃v,vs[k]?=U v/\Rd x v z:=by
 induction l generalizing vs k with
 |nil=>cases e
 |cons I l N=>
  refine h.dp (CL:=λvs=>∃v,vs[k]?=U v/\Rd x v z) λu R a b=>?_
  cases k with
  |zero=>exact⟨u,H,(Af e)▸a⟩
  |succ k=>exact N (vs:=R) (k:=k) b e
end
structure ef (n:Nat) (A:CP):Prop where
 handled:A.handled=Y
 guards:A.guards=U []
 depth:A.depth+2*n<900
 units:A.units+24*n<9000
def ef.le(h:n<=m)(r:ef m A):ef n A:=
 ⟨r.handled,r.guards,Al (AU (A2 2 h) _) r.depth,Al (AU (A2 24 h) _) r.units⟩
abbrev PI:AM->AZ->Prop:=λZ Z=>False
inductive aP {B:Bx} {α:Type} (own:AG->Prop) (x:Wd B) (R:α->Wd B->Prop) (r:α) (s':AZ):Prop
 |mk (y:Wd B):y.sh=s'->LE own x.toSt y.toSt->R r y->aP own x R r s'
def Wp{B:Bx}{α:Type}(n:Nat)(own:AG->Prop)(t:Sem α)(R:α->Wd B->Prop)(x:Wd B):Prop:=
 ∀A,ef n A->wpAny B.M A t (aP own x R) PI x.sh
inductive dS {B:Bx} (Q:KE) (v:AM) (y:Wd B):Prop
 |mk (z:V):Rd y v z->Q z y.σ->dS Q v y
abbrev Wv{B:Bx}(n:Nat)(t:Sem AM)(Q:KE)(x:Wd B):=Wp n noOwn t (dS Q) x
section
variable{B:Bx}{n:Nat}{α β:Type}{own:AG->Prop}{x:Wd B}{t:Sem α}{f:α->Sem β}{P P':α->Wd B->Prop}{R:β->Wd B->Prop}{tv:Sem AM}{fv:AM->Sem β}{Q Q':KE}
def dq{E:O3}{N:α->AZ->Prop}(h:wpAny B.M A t (aP own x P) PI s)(k:∀r y,LE own x.toSt y.toSt->P r y->N r y.sh):wpAny B.M A t N E s:=
 ag1 h (λr Z q=>aP.casesOn q λy e l p=>e▸k r y l p) λZ Z f=>f.elim
def Wp.bind(h:Wp n own t P x)(k:∀r y,LE own x.toSt y.toSt->P r y->Wp n own (f r) R y):Wp n own (t>>=f) R x:=λA N=>agY (ag1 (h A N) (λr Z q=>aP.casesOn q λy e l p=>e▸ag1 (k r y l p A N) (λZ Z q=>aP.casesOn q λz e I p=>.mk z e (l.trans I) p) λZ Z y=>y) λZ Z y=>y)
def Wp.mono(h:Wp n own t P x)(k:∀r y,LE own x.toSt y.toSt->P r y->P' r y):Wp n own t P' x:=λA N=>ag1 (h A N) (λr Z q=>aP.casesOn q λy e l p=>.mk y e l (k r y l p)) λZ Z y=>y
def Wp.pure(h:P r x):Wp n own (AJ r:Sem α) P x:=λZ Z=>agZ (.mk x H (LE.refl _) h)
def Wp.bz(h:Wv n tv Q x)(k:∀v y z,LN x y->Rd y v z->Q z y.σ->Wp n noOwn (fv v) R y):Wp n noOwn (tv>>=fv) R x:=
 Wp.bind h λv y l q=>dS.casesOn q λz a b=>k v y z l a b
def Wp.holding(h:Wp n own t P x):Wp n own (holding vs t) P x:=λA N=>ag2 (h A N)
def Wp.keep(h:Wp n own t P x):Wp n own (t.keep vs) P x:=λA N=>ahP (h A N)
def Wp.of_eq(e:t=u)(h:Wp n own u P x):Wp n own t P x:=e▸h
def Wp.skip{f:Unit->Sem β}(I:∀A R,R () x.sh->wpAny B.M A N R PI x.sh)(h:Wp n own (f ()) R x):Wp n own (N>>=f) R x:=λA X=>agY (I A _ (h A X))
def Wp.ba{f:Unit->Sem β}(h:Wp n own (f ()) R x):Wp n own (GV p>>=f) R x:=Wp.skip (λZ Z q=>up<|Dp q) h
def Wp.point{f:Unit->Sem β}(h:Wp n own (f ()) R x):Wp n own (PySem.point>>=f) R x:=Wp.skip (λZ Z q=>up<|EE q) h
def gT{R:Unit->AZ->Prop}(q:R () s):∀vs,wpAny B.M A (release.go keep vs) R PI s
 | []=>agZ q
 | [_]=>agZ q
 |_::b::r=>agY (ag2 (up<|EE (gT q (b::r))))
def Wp.release{vs N:LVal}{f:Unit->Sem β}(h:Wp n own (f ()) R x):Wp n own (Kz vs N>>=f) R x:=Wp.skip (λZ Z q=>gT q _) h
def Wp.operate{N:AM->Wd B->Prop}(h:Wp n own tv N x):Wp n own (operate vs tv) N x:=
 Wp.bind (Wp.holding h) λZ Z Z q=>Wp.release (Wp.pure q)
def Wp.up(N:n<=m)(h:Wp n own t P x):Wp m own t P x:=λA I=>h A (I.le N)
def Wp.lift(N:∀a,own a->∃o,x.get? a=U o)(h:Wp n noOwn t P x):Wp n own t P x:=λA I=>ag1 (h A I) (λr Z q=>aP.casesOn q λy e l p=>.mk y e (l.own N) p) λZ Z y=>y
def Wv.pure(a:Rd x v z)(q:Q z x.σ):Wv n (AJ v) Q x:=Wp.pure (.mk z a q)
def Wv.mono(h:Wv n tv Q x)(k:∀z σ,Q z σ->Q' z σ):Wv n tv Q' x:=Wp.mono h λZ Z Z q=>dS.casesOn q λz a b=>.mk z a (k _ _ b)
end
inductive E where
 |lit (v:V)
 |loc (i:Nat)
 |bin (op:Hf) (a b:E)
 |un (op:MS) (a:E)
 |not (a:E)
 |bop (op:MW) (l:List E)
 |j4 (t a b:E)
 |cmp (a:E) (ops:List GD) (l:List E)
 |list (l:List E)
 |tup (l:List E)
 |dict (ks vs:List E)
 |comp (k:Nat) (elt:E) (tg:M6) (one:Bool) (ik:Nat) (its:List E) (cs:List E)
 |attr (o:E) (n:Nat)
 |sub (o i:E)
 |slc (o lo hi st:E)
 |call (f:AG) (args:List E)
 |blt (k:Nat) (args:List E)
 |sQ (o:E) (m:Nat) (args:List E)
open E renaming loc->JP,lit->JQ
inductive T where
 |nm (i:Nat)
 |attr (o:E) (n:Nat)
 |sub (o i:E)
 |tup (ts:List T)
open T renaming nm->Eg,tup->Ln
inductive S where
 |expr (e:E)
 |asg (t:T) (e:E)
 |ret (e:E)
 |j4 (t:E) (a b:List S)
 |dN (t:E) (b:List S)
 |XX (t:T) (ik:Nat) (its:List E) (b:List S)
 |cont
 |pass
 |raise
 |Yz (b:List S)
abbrev NF:=List OV
def Pe:LVal:=[AK "len",AK "isinstance",AK "abs",AK "ord",AK "max",AK "min",AK "sorted",
 An "bool",An "bytearray",An "bytes",An "dict",An "int",An "list",An "str",An "tuple",
 AK "bytes.strip",AK "bytes.lstrip",AK "bytes.rstrip",AK "bytes.split",AK "bytes.join",AK "bytes.find",AK "bytes.replace",
 AK "str.split",AK "str.find",AK "list.append",AK "list.pop",AK "dict.get",AK "dict.update",AK "bytearray.append",AK "bytearray.extend"]
def Uc:NI:=(["append","join","refuse","put","get","push","pop","number","take","values","rstrip","pop_number","octets","split","told","strip","end_text","align",
 "variables","pop_octets","place_of","find","count","booleans","all","write","string","run","reckon","read_writer","read_one","read_named","read_constant","read_branch",
 "program","param","make_more","is_on","has","extend","do","update","replace","lstrip"]:List String).map CM
abbrev mt(n:Nat):Str:=(Uc[n]?).getD EG
inductive Goes where
 |fn (a:AG)
 |bl (k:Nat)
open Goes renaming bl->Ec
def Goes.Is(c:Goes)(f:AM):=match c with
 |.fn a=>f=Ai a
 |.bl k=>Pe[k]?=U f
abbrev newOk:O->Prop
 |.list l=>l.length<=Nh
 |.dict l=>l.length<=Nh
 |.rF l=>l.length<=Nh
 |_=>True
def YB(σ:M5)(Q:KE):O->Prop
 |.list l=>Q (BB l) σ
 |.dict l=>Q (B6 l) σ
 |_=>False
def Sw(σ:M5)(o:O)(Q:KE):=newOk o/\(YB σ Q o\/∀a,σ a=Y->Q (Av a) (σ.set a o))
def Oz:V->Option Bool
 |.none=>U Am
 |.bool b=>U b
 |.int i=>U (decide (i≠0))
 |_=>Y
def V8(x:V)(σ:M5)(Q:Bool->M5->Prop):Prop:=match Oz x with
 |some b=>Q b σ
 |none=>False
abbrev tst(b:Bool):V->V
 |.bool _=>Bm b
 |x=>x
mutual
noncomputable def Td:V->V->Bool
 |.int a,.int b=>a==b
 |.str a,.str b=>a==b
 |.bytes a,.bytes b=>a==b
 |.tup a,.tup b=>WE a b
 |_,_=>Am
noncomputable def WE:LV->LV->Bool
 | [],[]=>J
 |a::r,b::q=>Td a b&&WE r q
 |_,_=>Am
end
abbrev kindOf:V->Nat
 |.int _=>1
 |.str _=>2
 |.bytes _=>3
 |.tup _=>4
 |_=>0
def NH(k:V):NW->OV
 | []=>Y
 |e::r=>if Td k e.1 then U e.2 else NH k r
def NX(k v:V):NW->NW
 | []=>[(k,v)]
 |e::r=>if Td k e.1 then(e.1,v)::r else e::NX k v r
def Oa(es:NW):=es.foldl (λm e=>NX e.1 e.2 m) []
def Nf(d:Nat)(es:NW):=es.all λe=>kindOf e.1==d
abbrev keysOk(es:NW):=match es with
 | []=>J
 |e::_=>kindOf e.1 !=0&&kindOf e.1 !=4&&Nf (kindOf e.1) es
structure Kt where
 nx:NF->M5->Prop
 rt:V->M5->Prop
 ct:NF->M5->Prop
abbrev chars(l:M6):=l.map λc=>B9 [c]
def N9(l:M6):=l.map λc=>Ar (G c)
def OS(i:Int):=(D3 i.toNat).map λk=>Ar (G k)
def Pf:Nat->LV->LV
 |_,[]=>[]
 |k,x::r=>Bg [Ar (G k),x]::Pf (k+1) r
def TN:LV->LV->LV
 |x::r,y::q=>Bg [x,y]::TN r q
 |_,_=>[]
abbrev dictKeys(l:NW)(σ:M5)(P:LV->M5->Prop):=(∃ks:Ni,l.map (·.1)=ks.map W/\ks.Nodup)/\P (l.map (·.1)) σ
def Ta(o:Option O)(σ:M5)(P:LV->M5->Prop):=match o with
 |some (.list l)=>P l σ
 |some (.dict l)=>dictKeys l σ P
 |_=>False
abbrev itemsOf(x:V)(σ:M5)(P:LV->M5->Prop):=
 match x with
 |.tup l=>P l σ
 |.lst l=>P l σ
 |.di l=>dictKeys l σ P
 |.bytes l=>P (N9 l) σ
 |.str l=>P (chars l) σ
 |.ref a=>Ta (σ a) (σ.del a) P
 |_=>False
abbrev listAt(o:Option O)(σ:M5)(P:LV->M5->Prop):=match o with
 |some (.list l)=>P l σ
 |_=>False
def Te(x:V)(σ:M5)(P:LV->M5->Prop):=
 match x with
 |.lst l=>P l σ
 |.ref a=>listAt (σ a) (σ.del a) P
 |_=>False
def WG(x:V)(σ:M5)(P:LV->M5->Prop):=
 match x with
 |.bytes l=>P (N9 l) σ
 |x=>Te x σ P
def R2(ik:Nat)(vs:LV)(σ:M5)(P:LV->M5->Prop):=
 match ik,vs with
 |0,[x]=>itemsOf x σ P
 |1,[x]=>WG x σ λl σ=>P (Pf 0 l) σ
 |2,[x,y]=>Te x σ λl σ=>Te y σ λm σ=>P (TN l m) σ
 |3,[.int i]=>(0<=i/\i<=G Nh)/\P (OS i) σ
 |_,_=>False
def NM(ρ:NF)(i:Nat)(x:V):NF:=ρ.set i (U x)
def RE(ρ:NF):M6->LV->Option NF
 | [],[]=>U ρ
 |i::r,x::q=>RE (NM ρ i x) r q
 |_,_=>Y
def Vt:V->Option LV
 |.tup l=>U l
 |.lst l=>U l
 |_=>Y
def Vu(ρ:NF)(tg:M6)(one:Bool)(x:V):Option NF:=
 match one,tg with
 |true,[i]=>U (NM ρ i x)
 |false,tg=>(Vt x).bind (RE ρ tg)
 |_,_=>Y
def TP{α:Type}(o:Option α)(k:α->Prop):=match o with
 |some a=>k a
 |none=>False
def YC(r:OV)(vs:LV):=match r with
 |some v=>v::vs
 |none=>vs
def Qm(F:V->M5->(OV->M5->Prop)->Prop):LV->M5->(LV->M5->Prop)->Prop
 | [],σ,k=>k [] σ
 |x::xs,σ,k=>F x σ λr σ=>Qm F xs σ λvs σ=>k (YC r vs) σ
abbrev two{α β:Type}(x:Option α)(y:Option β)(f:α->β->Prop)(r:Prop):=match x,y with
 |some a,U b=>f a b
 |_,_=>r
abbrev asI:V->Option Int
 |.int i=>U i
 |_=>Y
def Wt:V->Option M6
 |.bytes b=>U b
 |_=>Y
abbrev asS:V->Option M6
 |.str b=>U b
 |_=>Y
abbrev asT:V->Option LV
 |.tup b=>U b
 |_=>Y
def Wu:V->Option Bool
 |.none=>U J
 |.val _=>Y
 |_=>U Am
abbrev asNat:V->Option Nat
 |.int (.ofNat i)=>U i
 |_=>Y
section
variable(B:Bx)(m:Nat)
def R3(op:Hf)(x y:V)(σ:M5)(Q:KE):=
 ∀(s:Wd B) v u,s.σ=σ->Rd s v x->Rd s u y->Wv m (operate [v,u] (Kb op v u)) Q s
def UnW(op:MS)(x:V)(σ:M5)(Q:KE):=
 ∀(s:Wd B) v,s.σ=σ->Rd s v x->Wv m (unaryOp op v) Q s
inductive BQ (Q:Bool->M5->Prop) (v:AM) (y:Wd B):Prop
 |mk (b:Bool):v=B0 b->Q b y.σ->BQ Q v y
def OT(op:GD)(x y:V)(σ:M5)(Q:Bool->M5->Prop):=
 ∀s v u,s.σ=σ->Rd s v x->Rd s u y->Wp m noOwn (KG op v u) (BQ B Q) s
def Tf(o:V)(k:Nat)(σ:M5)(Q:KE):=
 ∀(s:Wd B) v,s.σ=σ->Rd s v o->Wv m (getAttr v (nm k) J) Q s
def RG(o:V)(k:Nat)(x:V)(σ:M5)(Q:M5->Prop):=
 ∀(s:Wd B) v u,s.σ=σ->Rd s v o->Rd s u x->Wp m noOwn (setAttr v (nm k) u) (λZ y=>Q y.σ) s
abbrev brk (v u : AM) : Sem AM := do
  if ← FD v then unsupported "" else IX v u
def Rg(o i:V)(σ:M5)(Q:KE):=
 ∀(s:Wd B) v u,s.σ=σ->Rd s v o->Rd s u i->Wp m noOwn (FD v) (λb y=>b=Am/\Wv m (IX v u) Q y) s
def RH(o i x:V)(σ:M5)(Q:M5->Prop):=
 ∀(s:Wd B) v u y,s.σ=σ->Rd s v o->Rd s u i->Rd s y x->Wp m noOwn (setItem v u y) (λZ y=>Q y.σ) s
def R4(o lo hi st:V)(σ:M5)(Q:KE):=
 ∀(s:Wd B) v l h t,s.σ=σ->Rd s v o->Rd s l lo->Rd s h hi->Rd s t st->
  Wp m noOwn (newFields "slice" [l,h,t]) (λi y=>Wp m noOwn (FD v) (λb y=>b=Am/\Wv m (IX v i) Q y) y) s
def Ny(f:AM)(args:LV)(σ:M5)(Q:KE):=
 ∀(s:Wd B) vs,s.σ=σ->Nq s vs args->Wv m (call f vs []) Q s
def M8(a:AG)(args:LV)(σ:M5)(Q:KE):=Ny B (3*m) (Ai a) args σ Q
def Nr(k:Nat)(args:LV)(σ:M5)(Q:KE):=∀f,Pe[k]?=U f->Ny B m f args σ Q
def Rh(f:AM):=∀m (s:Wd B),Wp m noOwn (keeperOf f) (λZ y=>y=s) s
def MethW(o:V)(k:Nat)(σ:M5)(P:Goes->Prop):=
 ∃g f,g.Is f/\Rh B f/\P g/\∀(s:Wd B) v pl,s.σ=σ->Rd s v o->Wp m noOwn (getMethod v (mt k) pl) (λr y=>r=(f,[v])/\y=s) s
abbrev binI(op:Hf)(a b:Int)(σ:M5)(Q:KE):=match op with
 |.Add=>Q (Ar (a+b)) σ
 |.Sub=>Q (Ar (a-b)) σ
 |.Mult=>(a.natAbs<2^64\/b.natAbs<2^64)/\Q (Ar (a*b)) σ
 |.FloorDiv=>(b≠0/\b.natAbs<2^64)/\Q (Ar (a.fdiv b)) σ
 |.Mod=>b≠0/\Q (Ar (a.fmod b)) σ
 |.Pow=>(a=10/\b=24)/\Q (Ar 1000000000000000000000000) σ
 |.BitAnd=>Q (Ar (JK a b)) σ
 |.BitOr=>Q (Ar (Builtin.bitOr a b)) σ
 |.BitXor=>Q (Ar (MV a b)) σ
 |.LShift=>(0<=b/\b<=1000000/\a.natAbs<2^64)/\Q (Ar (a*2^b.toNat)) σ
 |.RShift=>0<=b/\Q (Ar (a.fdiv (2^b.toNat))) σ
 |_=>False
def YD(op:Hf)(a b:M6)(σ:M5)(Q:KE):=match op with
 |.Add=>a.length+b.length<=Nh/\Q (W (a++b)) σ
 |_=>False
def Xr(op:Hf)(x y:V)(σ:M5)(Q:KE):=
 two (asI x) (asI y) (λa b=>binI op a b σ Q) (two (Wt x) (Wt y) (λa b=>YD op a b σ Q) (R3 B m op x y σ Q))
def UnS(op:MS)(x:V)(σ:M5)(Q:KE):Prop:=match op,asI x with
 |.USub,U a=>Q (Ar (-a)) σ
 |.Invert,U a=>Q (Ar (HC a)) σ
 |_,_=>False
def YE(op:GD)(a b:Int)(σ:M5)(Q:Bool->M5->Prop):=match op with
 |.Eq=>Q (decide (a=b)) σ
 |.NotEq=>Q (decide (a≠b)) σ
 |.Lt=>Q (decide (a<b)) σ
 |.LtE=>Q (decide (a<=b)) σ
 |.Gt=>Q (decide (b<a)) σ
 |.GtE=>Q (decide (b<=a)) σ
 |_=>False
def Xs(op:GD)(a b:M6)(σ:M5)(Q:Bool->M5->Prop):=match op with
 |.Eq=>Q (a==b) σ
 |.NotEq=>Q (a !=b) σ
 |_=>False
def XY(op:GD)(x:V)(b:M6)(σ:M5)(Q:Bool->M5->Prop):=match op with
 |.In=>(match asNat x,Wt x with
  |some c,_=>c<256/\Q (b.contains c) σ
  |_,U [c]=>Q (b.contains c) σ
  |_,_=>False)
 |.NotIn=>(match asNat x,Wt x with
  |some c,_=>c<256/\Q (!b.contains c) σ
  |_,U [c]=>Q (!b.contains c) σ
  |_,_=>False)
 |_=>False
abbrev isS(op:GD)(nx ny:Option Bool)(f:Bool->Prop)(r:Prop):=match op with
 |.Is=>two nx ny (λb d=>match d with
  |true=>f b
  |false=>r) r
 |.IsNot=>two nx ny (λb d=>match d with
  |true=>f (!b)
  |false=>r) r
 |_=>r
abbrev inS(op:GD)(y:Option M6)(f:M6->Prop)(r:Prop):=match op,y with
 |.In,U b=>f b
 |.NotIn,U b=>f b
 |_,_=>r
def Xu(op:GD)(x y:V)(σ:M5)(Q:Bool->M5->Prop):=
 two (asI x) (asI y) (λa b=>YE op a b σ Q) (isS op (Wu x) (Wu y) (λb=>Q b σ) (two (asS x) (asS y) (λa b=>Xs op a b σ Q)
  (inS op (Wt y) (λb=>XY op x b σ Q) (two (Wt x) (Wt y) (λa b=>Xs op a b σ Q) (OT B m op x y σ Q)))))
def V9(o i:V)(σ:M5)(Q:KE):=
 two (asT o) (asNat i) (λl k=>TP l[k]? λx=>Q x σ) (two (Wt o) (asNat i) (λl k=>TP l[k]? λc=>Q (Ar (G c)) σ) (Rg B m o i σ Q))
def Wa:V->Option Nat
 |.tup l=>U l.length
 |.lst l=>U l.length
 |.di l=>U l.length
 |.bytes l=>U l.length
 |_=>Y
def Xv(k:Nat)(args:LV)(σ:M5)(Q:KE):=match k,args with
 |0,[x]=>(match Wa x with
  |some j=>Q (Ar (G j)) σ
  |none=>Nr B m 0 [x] σ Q)
 |k,args=>Nr B m k args σ Q
abbrev lv(n:Nat):=3*n+2
def T4(g:Goes)(args:LV)(σ:M5)(Q:KE):=match g with
 |.fn a=>M8 B m a args σ Q
 |.bl k=>Xv B (lv m) k args σ Q
end
abbrev br(c:Bool)(X M:Prop):=match c with
 |true=>X
 |false=>M
def agd{X M:Prop}(h:br c X M)(e:c=J):X:=by subst e;exact h
def age{X M:Prop}(h:br c X M)(e:c=Am):M:=by subst e;exact h
def aF{X M:Prop}(R:c=J->X)(N:c=Am->M):br c X M:=match c,R,N with
 |true,h,_=>h H
 |false,_,h=>h H
abbrev KL:=LV->M5->Prop
abbrev FE:=E->NF->M5->KE->Prop
abbrev FL:=List E->NF->M5->KL->Prop
section
variable(B:Bx)(m:Nat)
abbrev brK{C:Type}(F N:M5->C->Prop)(Q:C)(c:Bool)(σ:M5):=br c (F σ Q) (N σ Q)
def Vv(k:Bool->M5->Prop)(x:V)(σ:M5):=V8 x σ k
def YF(Q:KE)(b:Bool)(σ:M5):=Q (Bm b) σ
def Y8(Q:KE)(b:Bool)(σ:M5):=Q (Bm (!b)) σ
def YG(op:Hf)(x:V)(Q:KE)(y:V)(σ:M5):=Xr B m op x y σ Q
def Y9(f:FE)(op:Hf)(b:E)(ρ:NF)(Q:KE)(x:V)(σ:M5):=f b ρ σ (YG B m op x Q)
abbrev unK(op:MS)(Q:KE)(x:V)(σ:M5):=UnS op x σ Q
def Za(f:V->List GD->List E->NF->M5->(Bool->M5->Prop)->Prop)(ops:List GD)(l:List E)(ρ:NF)(Q:KE)(x:V)(σ:M5):=f x ops l ρ σ (YF Q)
def VR(Q:KE)(vs:LV)(σ:M5):=Sw σ (AA vs) Q
abbrev tupK(Q:KE)(vs:LV)(σ:M5):=Q (Bg vs) σ
def YH(Q:KE)(es:NW)(σ:M5):=keysOk es=J/\Sw σ (AE (Oa es)) Q
def YI(c:OV->M5->Prop)(v:V)(σ:M5):=c (U v) σ
def YJ(σ:M5)(c:OV->M5->Prop):=c Y σ
def YK(f:FE)(elt:E)(ρ:NF)(σ:M5)(c:OV->M5->Prop):=f elt ρ σ (YI c)
def UP(g:NF->M5->(Bool->M5->Prop)->Prop)(f:FE)(elt:E)(ρ:NF)(tg:M6)(one:Bool)(x:V)(σ:M5)(c:OV->M5->Prop):=
 TP (Vu ρ tg one x) λρ'=>g ρ' σ (brK (YK f elt ρ') YJ c)
def Yi(F:V->M5->(OV->M5->Prop)->Prop)(Q:KE)(xs:LV)(σ:M5):=Qm F xs σ (VR Q)
def YL(F:V->M5->(OV->M5->Prop)->Prop)(ik:Nat)(Q:KE)(vs:LV)(σ:M5):=R2 ik vs σ (Yi F Q)
def YM(j:Nat)(Q:KE)(x:V)(σ:M5):=Tf B m x j σ Q
def YN(x:V)(Q:KE)(y:V)(σ:M5):=V9 B m x y σ Q
def Zb(f:FE)(i:E)(ρ:NF)(Q:KE)(x:V)(σ:M5):=f i ρ σ (YN B m x Q)
def YO(x l h:V)(Q:KE)(t:V)(σ:M5):=R4 B m x l h t σ Q
def YQ(f:FE)(st:E)(ρ:NF)(x l:V)(Q:KE)(h:V)(σ:M5):=f st ρ σ (YO B m x l h Q)
def YR(f:FE)(hi st:E)(ρ:NF)(x:V)(Q:KE)(l:V)(σ:M5):=f hi ρ σ (YQ B m f st ρ x l Q)
def Zc(f:FE)(lo hi st:E)(ρ:NF)(Q:KE)(x:V)(σ:M5):=f lo ρ σ (YR B m f hi st ρ x Q)
def YS(f:AG)(Q:KE)(vs:LV)(σ:M5):=M8 B m f vs σ Q
def Zd(j:Nat)(Q:KE)(vs:LV)(σ:M5):=Xv B m j vs σ Q
def Yj(g:Goes)(x:V)(Q:KE)(vs:LV)(σ:M5):=T4 B m g (x::vs) σ Q
def Yk(f:FL)(args:List E)(ρ:NF)(σ:M5)(x:V)(Q:KE)(g:Goes):=f args ρ σ (Yj B m g x Q)
def XZ(f:FL)(j:Nat)(args:List E)(ρ:NF)(Q:KE)(x:V)(σ:M5):=MethW B (lv m) x j σ (Yk B m f args ρ σ x Q)
def X5(x:V)(Q:KL)(vs:LV)(σ:M5):=Q (x::vs) σ
abbrev esK(f:FL)(r:List E)(ρ:NF)(Q:KL)(x:V)(σ:M5):=f r ρ σ (X5 x Q)
abbrev dK3(x y:V)(Q:NW->M5->Prop)(es:NW)(σ:M5):=Q ((x,y)::es) σ
abbrev dK2(g:List E->List E->NF->M5->(NW->M5->Prop)->Prop)(ks vs:List E)(ρ:NF)(Q:NW->M5->Prop)(x y:V)(σ:M5):=g ks vs ρ σ (dK3 x y Q)
abbrev dK(f:FE)(g:List E->List E->NF->M5->(NW->M5->Prop)->Prop)(b:E)(ks vs:List E)(ρ:NF)(Q:NW->M5->Prop)(x:V)(σ:M5):=f b ρ σ (dK2 g ks vs ρ Q x)
def YT(f:MW->List E->NF->M5->KE->Prop)(op:MW)(r:List E)(ρ:NF)(Q:KE)(x:V)(b:Bool)(σ:M5):=match op with
 |.And=>br b (f .And r ρ σ Q) (Q (tst Am x) σ)
 |.Or=>br b (Q (tst J x) σ) (f .Or r ρ σ Q)
def Ze(f:MW->List E->NF->M5->KE->Prop)(op:MW)(r:List E)(ρ:NF)(Q:KE)(x:V)(σ:M5):=V8 x σ (YT f op r ρ Q x)
def VS(f:V->List GD->List E->NF->M5->(Bool->M5->Prop)->Prop)(y:V)(ops:List GD)(r:List E)(ρ:NF)(Q:Bool->M5->Prop)(b:Bool)(σ:M5):=match ops with
 | []=>(match r with
  | []=>Q b σ
  |_::_=>False)
 |_::_=>br b (f y ops r ρ σ Q) (Q Am σ)
def YU(f:V->List GD->List E->NF->M5->(Bool->M5->Prop)->Prop)(x:V)(op:GD)(ops:List GD)(r:List E)(ρ:NF)(Q:Bool->M5->Prop)(y:V)(σ:M5):=Xu B m op x y σ (VS f y ops r ρ Q)
def WH(σ:M5)(Q:Bool->M5->Prop):=Q Am σ
end
section
variable(B:Bx)(n:Nat)
mutual
noncomputable def O7:Nat->E->NF->M5->(KE)->Prop
 |0,_,_,_,_=>False
 |k+1,e,ρ,σ,Q=>match e with
  |.lit v=>Q v σ
  |.loc i=>TP (ρ[i]?.getD Y) λv=>Q v σ
  |.bin op a b=>O7 k a ρ σ (Y9 B (lv n) (O7 k) op b ρ Q)
  |.un op a=>O7 k a ρ σ (unK op Q)
  |.not a=>O7 k a ρ σ (Vv (Y8 Q))
  |.bop op l=>T5 k op l ρ σ Q
  |.j4 t a b=>O7 k t ρ σ (Vv (brK (O7 k a ρ) (O7 k b ρ) Q))
  |.cmp a ops l=>O7 k a ρ σ (Za (Sy k) ops l ρ Q)
  |.list l=>Rt k l ρ σ (VR Q)
  |.tup l=>Rt k l ρ σ (tupK Q)
  |.dict ks vs=>vcD k ks vs ρ σ (YH Q)
  |.comp j elt tg one ik its cs=>Rt k its ρ σ (YL (UP (Pr k cs) (O7 k) elt (ρ++A8 j Y) tg one) ik Q)
  |.attr o j=>O7 k o ρ σ (YM B (lv n) j Q)
  |.sub o i=>O7 k o ρ σ (Zb B (lv n) (O7 k) i ρ Q)
  |.slc o lo hi st=>O7 k o ρ σ (Zc B (lv n) (O7 k) lo hi st ρ Q)
  |.call f args=>Rt k args ρ σ (YS B n f Q)
  |.blt j args=>Rt k args ρ σ (Zd B (lv n) j Q)
  |.sQ o j args=>O7 k o ρ σ (XZ B n (Rt k) j args ρ Q)
noncomputable def Rt:Nat->List E->NF->M5->(LV->M5->Prop)->Prop
 |0,_,_,_,_=>False
 |k+1,l,ρ,σ,Q=>match l with
  | []=>Q [] σ
  |e::r=>O7 k e ρ σ (esK (Rt k) r ρ Q)
noncomputable def vcD:Nat->List E->List E->NF->M5->(NW->M5->Prop)->Prop
 |0,_,_,_,_,_=>False
 |k+1,l,m,ρ,σ,Q=>match l,m with
  | [],[]=>Q [] σ
  |a::ks,b::vs=>O7 k a ρ σ (dK (O7 k) (vcD k) b ks vs ρ Q)
  |_,_=>False
noncomputable def T5:Nat->MW->List E->NF->M5->(KE)->Prop
 |0,_,_,_,_,_=>False
 |k+1,op,l,ρ,σ,Q=>match l with
  | []=>False
  |e::r=>(match r with
   | []=>O7 k e ρ σ Q
   |_::_=>O7 k e ρ σ (Ze (T5 k) op r ρ Q))
noncomputable def Sy:Nat->V->List GD->List E->NF->M5->(Bool->M5->Prop)->Prop
 |0,_,_,_,_,_,_=>False
 |k+1,x,ops,l,ρ,σ,Q=>match l with
  | []=>False
  |e::r=>(match ops with
   | []=>False
   |op::ops=>O7 k e ρ σ (YU B (lv n) (Sy k) x op ops r ρ Q))
noncomputable def Pr:Nat->List E->NF->M5->(Bool->M5->Prop)->Prop
 |0,_,_,_,_=>False
 |k+1,l,ρ,σ,Q=>match l with
  | []=>Q J σ
  |e::r=>O7 k e ρ σ (Vv (brK (Pr k r ρ) WH Q))
end
end
def WI:Const->OV
 |.none=>U A5
 |.bool b=>U (Bm b)
 |.int i=>U (Ar i)
 |.str x=>if x.cps.size<=Nh then U (B9 x.cps.toList)else Y
 |.bytes b=>if b.length<=Nh then U (W (b.map Br))else Y
 |_=>Y
def WJ:AM->OV
 |.none=>U A5
 |.bool b=>U (Bm b)
 |.int i _=>U (Ar i)
 |.str x _=>if x.cps.size<=Nh then U (B9 x.cps.toList)else Y
 |.bytes b _=>if b.size<=Nh then U (W (b.toList.map Br))else Y
 |_=>Y
def Wb(o:Obj):Option (Option LVal):=match o with
 |⟨.type c,Y,.seq vs 0,⟨[]⟩⟩=>if c=="tuple"&&decide (vs.size<=Nh)then U (U vs.toList)else Y
 |⟨.type c,_,_,_⟩=>if c=="function"||c=="type" then U Y else Y
 |_=>Y
abbrev toV(K:HW):Nat->AM->OV
 |0,v=>WJ v
 |k+1,v=>match v with
  |.ref a=>(K.lookup a).bind λo=>match Wb o with
   |some (U vs)=>(vs.mapM (toV K k)).map Bg
   |some Y=>U (Gj (Ai a))
   |none=>Y
  |v=>WJ v
def Zf:AM->OV
 |.builtin i=>U (Gj (AK i))
 |.type i=>U (Gj (An i))
 |_=>Y
def WK(K:HW)(x:Str):OV:=
 match nsIn K CU x with
 |some (U v)=>toV K 8 v
 |some Y=>if x==("__name__":Str)then Y else(bootBuiltins x).bind Zf
 |none=>Y
def VT(x:Str):Option Nat:=Ub.findIdx? (· ==x)
def WL(x:Str):Option Nat:=Uc.findIdx? (· ==x)
abbrev slot(Γ:NI)(x:Str):Option Nat:=Γ.findIdx? (· ==x)
def WM(f:AM):Option Goes:=match f with
 |.ref a=>U (.fn a)
 |f=>(Pe.findIdx? (· ==f)).map Ec
abbrev Goes.e:Goes->List E->E
 |.fn a,l=>.call a l
 |.bl k,l=>.blt k l
section
variable(j:Str->OV)
def Vw(sc:Ej)(Γ:NI)(x:Str):Option E:=
 if x==("__debug__":Str)then Y else match sc.names.lookup x with
  |some .local|some .cell=>(slot Γ x).map JP
  |some .free=>if x==("__classdict__":Str)then Y else(slot Γ x).map JP
  |some .globalImplicit=>(j x).map JQ
  |_=>Y
def Ru(sc:Ej)(x:Str):Option AM:=if x==("__debug__":Str)then Y else match sc.names.lookup x with
 |some .globalImplicit=>(j x).bind λv=>match v with
  |.val f=>U f
  |_=>Y
 |_=>Y
abbrev nameOf:AO->Option Str
 |.Name x _=>U x
 |_=>Y
def Tg(sc:Ej)(Γ:NI)(e:AO):Option Nat:=(nameOf e).bind λx=>if sc.names.lookup x==U NameKind.local then slot Γ x else Y
def RI(sc:Ej)(Γ:NI):AO->Option (M6×Bool)
 |.Name x p=>(Tg sc Γ (Dl x p)).map λi=>([i],J)
 |.Tuple es _ _=>(es.mapM (Tg sc Γ)).map λl=>(l,Am)
 |_=>Y
def Ud(f:AM)(n:Nat):=if f==An "enumerate"&&n==1 then 1 else if f==An "zip"&&n==2 then 2 else if f==An "range"&&n==1 then 3 else 0
def Vx:AO->Option (Str×Pos×List AO×Pos)
 |.Call (.Name f p) args [] q=>U (f,p,args,q)
 |_=>Y
def Oh(sc:Ej)(e:AO):Nat×List AO:=match Vx e with
 |some (f,_,args,_)=>(match Ru j sc f with
  |some fv=>if Ud fv args.length=0 then(0,[e])else(Ud fv args.length,args)
  |none=>(0,[e]))
 |none=>(0,[e])
def Oj(outer sc:Ej):Ej:=
 {sc with names:=sc.names.map λ(n,k)=>if k==Ba&&outer.kind==B8&&outer.names.lookup n==U BA then(n,BA)else(n,k)}
def NB(sc:Ej):NI:=sc.names.filterMap λ(n,k)=>if k==NameKind.local&&n !=(".0":Str)then U n else Y
def N3(Γ:NI)(sc:Ej):NI:=(Γ.map λx=>if(NB sc).contains x then EG else x)++NB sc
def WN(sc:Ej)(Γ:NI)(scope:Ej):=
 (scope.names.all λ(n,k)=>scope.names.lookup n==U k&&(match k with
  |.local=>J
  |.free=>sc.names.lookup n==U BA||sc.names.lookup n==U Ba
  |.globalImplicit=>!Γ.contains n
  |_=>Am))&&(scope.names.lookup EG).isNone&&!Γ.contains (".0":Str)&&decide (NB scope).Nodup
abbrev isTup:AO->Bool
 |.Tuple .. =>J
 |_=>Am
def Ue(ik:Nat)(e:AO):=isTup e||ik==0||ik==3
def Wc:AO->Bool
 |.ListComp .. |.SetComp .. |.DictComp .. =>J
 |_=>Am
def WO:AO->AO->Bool
 |.Tuple ts _ _,.Tuple vs _ _=>(vs.all (foldedForSure 8)|| !vs.all (constantsAlone 8))&&decide (ts.filterMap nameOf).Nodup
 |_,_=>J
def O8:Option AO->AO
 |some e=>e
 |none=>.Constant .none 0 default
def RJ:AO->Bool
 |.Call (.Name f _) [] [] _=>f !=("super":Str)
 |_=>J
abbrev sliceOf:AO->Option (AO×AO×AO)
 |.Slice lo hi st _=>U (O8 lo,O8 hi,O8 st)
 |_=>Y
def Zg(op:MS)(a:E):E:=match op with
 |.Not=>.not a
 |op=>.un op a
def WQ(f:AO->Option E):Option AO->Option E
 |some a=>f a
 |none=>Y
def X6:List HB->Option (AO×AO×List AO)
 | [⟨t,i,cs,0⟩]=>U (t,i,cs)
 |_=>Y
def Th (rec : Ej → NI → AO → Option E) (sc : Ej) (Γ : NI) (elt : AO) (gs : List HB) (scope : Ej) : Option E := do
  let (tgt, iter, ifs) ← X6 gs
  if scope.kind == B8 && !scope.isGenerator && !scope.isCoroutine && WN sc Γ scope && Ue (Oh j sc iter).1 tgt then do
    let (tg, one) ← RI (Oj sc scope) (N3 Γ scope) tgt
    return .comp (NB scope).length (← rec (Oj sc scope) (N3 Γ scope) elt) tg one (Oh j sc iter).1 (← (Oh j sc iter).2.mapM (rec sc Γ)) (← ifs.mapM (rec (Oj sc scope) (N3 Γ scope)))
  else Y
def Yl(rec:AO->Option E)(sc:Ej)(f:AO)(args:List AO)(kw:List Keyword)(pos:Pos):Option E:=
 if decide (args.length<=20)&&kw.isEmpty then match f with
  |.Name x _=>do return ((<-(Ru j sc x).bind WM).e (<-args.mapM rec))
  |.Attribute o m apos=>if apos.endLine==pos.line&&RJ o then do return .sQ (<-rec o) (<-WL m) (<-args.mapM rec)else Y
  |_=>Y
 else Y
def WR(rec:AO->Option E)(v i:AO):Option E:=match sliceOf i with
 |some (lo,hi,st)=>do return .slc (<-rec v) (<-rec lo) (<-rec hi) (<-rec st)
 |none=>do return .sub (<-rec v) (<-rec i)
def PJ:Nat->Ej->NI->AO->Option E
 |0,_,_,_=>Y
 |k+1,sc,Γ,e=>match e with
  |.Constant c _ _=>(WI c).map JQ
  |.Name x _=>Vw j sc Γ x
  |.BinOp l op r _=>do return .bin op (<-PJ k sc Γ l) (<-PJ k sc Γ r)
  |.UnaryOp op a _=>do return Zg op (<-PJ k sc Γ a)
  |.BoolOp op l _=>do return .bop op (<-l.mapM (PJ k sc Γ))
  |.IfExp t a b _=>do return .j4 (<-PJ k sc Γ t) (<-PJ k sc Γ a) (<-PJ k sc Γ b)
  |.Compare a ops l _=>do return .cmp (<-PJ k sc Γ a) ops (<-l.mapM (PJ k sc Γ))
  |.List l _=>do return .list (<-l.mapM (PJ k sc Γ))
  |.Tuple l _ _=>if l.length<=100 then do return .tup (<-l.mapM (PJ k sc Γ))else Y
  |.Dict ks vs _=>if ks.length<=15/\ks.length=vs.length then do return .dict (<-ks.mapM (WQ (PJ k sc Γ))) (<-vs.mapM (PJ k sc Γ))else Y
  |.ListComp elt gs scope _=>Th j (PJ k) sc Γ elt gs scope
  |.Attribute o a _=>if RJ o then do return .attr (<-PJ k sc Γ o) (<-VT a)else Y
  |.Subscript v i _=>WR (PJ k sc Γ) v i
  |.Call f args kw pos=>Yl j (PJ k sc Γ) sc f args kw pos
  |_=>Y
def Xw:Nat->Ej->NI->AO->Option T
 |0,_,_,_=>Y
 |k+1,sc,Γ,e=>match e with
  |.Name x _=>(match sc.names.lookup x with
   |some .local|some .cell=>(slot Γ x).map Eg
   |_=>Y)
  |.Attribute o a _=>do return .attr (<-PJ j k sc Γ o) (<-VT a)
  |.Subscript o i _=>(match sliceOf i with
   |some _=>Y
   |none=>do return .sub (<-PJ j k sc Γ o) (<-PJ j k sc Γ i))
  |.Tuple l _ _=>do return Ln (<-l.mapM (Xw k sc Γ))
  |_=>Y
def X7(sc:Ej)(Γ:NI)(k:Nat)(ts:List AO)(e:AO):Option S:=match ts with
 | [t]=>if WO t e then do return S.asg (<-Xw j k sc Γ t) (<-PJ j k sc Γ e)else Y
 |_=>Y
def Ww : Nat → Ej → NI → Stmt → Option S
  | 0, _, _, _ => Y
  | k + 1, sc, Γ, s => match s with
    | .Expr e _ => if Wc e then Y else do return .expr (← PJ j k sc Γ e)
    | .Assign ts e _ => X7 j sc Γ k ts e
    | .Return e _ => do return .ret (← PJ j k sc Γ (O8 e))
    | .If t a b _ => do return .j4 (← PJ j k sc Γ t) (← a.mapM (Ww k sc Γ)) (← b.mapM (Ww k sc Γ))
    | .While t b j5 _ => if j5.isEmpty then do return .dN (← PJ j k sc Γ t) (← b.mapM (Ww k sc Γ)) else Y
    | .For t it b j5 _ => if j5.isEmpty && Ue (Oh j sc it).1 t then do
      return .XX (← Xw j k sc Γ t) (Oh j sc it).1 (← (Oh j sc it).2.mapM (PJ j k sc Γ)) (← b.mapM (Ww k sc Γ)) else Y
    | .Continue _ => U .cont
    | .Pass _ => U .pass
    | .Raise .. => U .raise
    | .Try b _ j5 fin _ => if j5.isEmpty && fin.isEmpty then do return .Yz (← b.mapM (Ww k sc Γ)) else Y
    | _ => Y
end
structure Fn where
 np:Nat
 ns:Nat
 body:List S
def PM(sc:Ej):NI:=sc.names.filterMap λ(n,k)=>if k==NameKind.local||k== .cell then U n else Y
abbrev bodyOf:FuncBody->Option (List Stmt)
 |.stmts b=>U b
 |_=>Y
def Xx(fd:HJ):=
 let p:=fd.params
 let Γ:=PM fd.scope
 p.posonlyargs.isEmpty&&p.vararg.isNone&&p.kwonlyargs.isEmpty&&p.kwarg.isNone&&fd.scope.kind==B8&&!fd.scope.isGenerator&&!fd.scope.isCoroutine
  &&(fd.scope.names.all λ(_,kd)=>kd !=Ba&&kd != .globalExplicit)&&Γ.take p.args.length==p.args.map (·.arg)&&fd.closure.isEmpty&&decide Γ.Nodup&&fd.globals==CU&&fd.builtins==JD
def YV (j : Str → OV) (fd : HJ) : Option Fn := do
  let b ← bodyOf fd.body
  if Xx fd then return ⟨fd.params.args.length, (PM fd.scope).length, ← b.mapM (Ww j 64 fd.scope (PM fd.scope))⟩ else Y
def Vy(o:Obj):Option HJ:=match o.data with
 |.func fd=>U fd
 |_=>Y
def Vz(o:Obj):Option Str:=match o.data with
 |.fields vs=>(match(vs[1]?:Option AM)with
  |some (.str q _)=>U q
  |_=>Y)
 |_=>Y
def X8(K:HW)(v:AM):Option Str:=match v with
 |.ref c=>(K.lookup c).bind Vz
 |_=>Y
def Ym(K:HW)(fd:HJ):=X8 K fd.code==U fd.qualname&&(PM fd.scope).all λz=>fd.scope.names.lookup z==U NameKind.local||fd.scope.names.lookup z==U .cell
abbrev dfl(K:HW)(v:AM):Option LVal:=match v with
 |.none=>U []
 |.ref T=>(K.lookup T).bind λo=>(Wb o).bind id
 |_=>Y
abbrev fnIn(K:HW)(fd:HJ):Option (Fn×LV):=if Ym K fd then(YV (WK K) fd).bind λfn=>((dfl K fd.defaults).bind λvs=>vs.mapM (toV K 8)).map λds=>(fn,ds)else Y
abbrev fnOf(K:HW)(a:AG):Option (Fn×LV):=((K.lookup a).bind Vy).bind (fnIn K)
abbrev attrOk(K:HW)(C:AG)(k:Nat):=plainGet K C EG&&(hasDictIn K C&&(findIn K (Ai C) (nm k)==U Y&&Ey k 22))
abbrev setOk(K:HW)(C:AG)(k:Nat):=findIn K (Ai C) "__setattr__"==U (U (AK "object.__setattr__"))&&(plainOver K C&&attrOk K C k)
def Ug(K:HW)(C:AG)(m:Nat)(f:AG):=plainGet K C EG&&(findIn K (Ai C) (mt m)==U (U (Ai f))&&isFn K (Ai f))
def Uh(K:HW)(C f:AG):=makesIn K C&&(findIn K (Ai C) "__init__"==U (U (Ai f))&&(isFn K (Ai f)&&typeIn K (Ai C)==U (An "type")))
abbrev Nb:E:=.loc 0
abbrev Nc:E:=.loc 1
abbrev Nk:E:=.loc 2
abbrev Nm:E:=.loc 3
abbrev NO:E:=.loc 4
abbrev NR:E:=.loc 5
abbrev OU:E:=.loc 6
abbrev Pp:E:=.loc 7
abbrev Tb:E:=.loc 8
abbrev SQ:E:=.loc 9
abbrev R5:E:=.loc 10
abbrev UQ:E:=.loc 11
abbrev SR:E:=.loc 12
abbrev WS:E:=.loc 13
abbrev SS:E:=.loc 14
abbrev WT:E:=.loc 15
abbrev Ui:E:=.loc 16
abbrev Yn:E:=.loc 17
abbrev Zh:E:=.loc 18
abbrev Tv0:T:=.nm 0
abbrev Ti:T:=.nm 1
abbrev Ov:T:=.nm 2
abbrev OA:T:=.nm 3
abbrev Py:T:=.nm 4
abbrev P9:T:=.nm 5
abbrev QF:T:=.nm 6
abbrev SU:T:=.nm 7
abbrev UH:T:=.nm 8
abbrev WU:T:=.nm 9
abbrev VA:T:=.nm 10
abbrev Xy:T:=.nm 11
abbrev VB:T:=.nm 12
abbrev Xz:T:=.nm 13
abbrev XA:T:=.nm 14
abbrev XB:T:=.nm 15
abbrev XC:T:=.nm 16
abbrev Zi:T:=.nm 17
abbrev NA:E:=.lit (.int 0)
abbrev Nz:E:=.lit (.int 1)
abbrev NC:E:=.lit .none
abbrev Ng(a:Int):E:=.lit (.int a)
abbrev Nj(b:M6):E:=.lit (.bytes b)
abbrev QE(c:Nat):E:=.sub (.lit (.bytes [c])) (.lit (.int 0))
abbrev Nx(k:Nat):E:=.attr (.loc 0) k
section
open PySem.Operator renaming Add->l,Sub->K,Mod->M,FloorDiv->Q,Mult->X
open PySem.CmpOp renaming Eq->e,NotEq->g,In->h,NotIn->nI,Lt->j,Gt->gt,LtE->p,GtE->P,Is->w,IsNot->D
open Tp.T renaming attr->q,sub->z,tup->N
open Tp.S renaming asg->A,j4->I,ret->R,expr->x,dN->wh,XX->fo
open Tp.V renaming int->i,bytes->y,str->r,bool->ob,tup->vt
open Tp.E renaming lit->k,bin->b,un->u,not->n,bop->o,j4->f,cmp->c,list->L,tup->t,dict->d,comp->C,attr->a,sub->s,slc->Z,call->F,blt->bl,sQ->m
def UR:Fn:=⟨1,1,[R (bl 9 [C 1 (f (c (bl 3 [Nc]) [j] [Ng 256]) (bl 3 [Nc]) (Ng 63)) [1] J 0 [Nb] []])]⟩
def PN:Fn:=⟨1,3,[A Ti (f (c Nb [P] [NA]) Nb (u .USub Nb)),A Ov (L [b l (Ng 48) (b M Nc (Ng 10))]),A Ti (b Q Nc (Ng 10)),wh (c Nc [gt] [NA]) [x (m Nk 0 [b l (Ng 48) (b M Nc (Ng 10))]),A Ti (b Q Nc (Ng 10))],I (c Nb [j] [NA]) [x (m Nk 0 [Ng 45])] [],R (bl 9 [Z Nk NC NC (u .USub Nz)])]⟩
def US:Fn:=⟨1,1,[I (c (Ng 48) [p,p] [Nb,Ng 57]) [R (b K Nb (Ng 48))] [],I (c (Ng 65) [p,p] [Nb,Ng 70]) [R (b K Nb (Ng 55))] [],I (c (Ng 97) [p,p] [Nb,Ng 102]) [R (b K Nb (Ng 87))] [],R NC]⟩
def R6:Fn:=⟨2,2,[R (o .And [c Nc [j] [bl 0 [Nb]],c (s Nb Nc) [h] [Nj [48,49,50,51,52,53,54,55,56,57]]])]⟩
def Tj:Fn:=⟨2,3,[A Ov NA,wh (F 97 [Nb,Nc]) [A Ov (b K (b l (b X Nk (Ng 10)) (s Nb Nc)) (Ng 48)),A Ti (b l Nc Nz)],R (t [Nk,Nc])]⟩
def ON:Fn:=⟨2,2,[A (q Nb 0) Nc,A (q Nb 1) NA,A (q Nb 2) (L []),A (q Nb 3) (bl 8 []),A (q Nb 4) (L [])]⟩
def Q5:Fn:=⟨2,2,[.raise]⟩
def Qy:Fn:=⟨1,1,[I (c (bl 0 [Nx 3]) [gt] [NA]) [x (m (Nx 2) 0 [t [k (r [116,101,120,116]),bl 9 [Nx 3]]]),A (q Nb 3) (bl 8 [])] []]⟩
def R7:Fn:=⟨2,2,[x (m Nb 16 []),x (m (Nx 2) 0 [Nc])]⟩
def Nw:Fn:=⟨1,1,[wh (c (Nx 1) [j] [bl 0 [Nx 0]]) [I (c (s (Nx 0) (Nx 1)) [g] [Ng 37]) [x (m (Nx 3) 0 [s (Nx 0) (Nx 1)]),A (q Nb 1) (b l (Nx 1) Nz)] [x (m Nb 30 [Nx 1])]],x (m Nb 16 []),I (c (Nx 4) [g] [L []]) [x (m Nb 2 [bl 0 [Nx 0]])] [],R (Nx 2)]⟩
def Oe:Fn:=⟨2,3,[I (c (b l Nc Nz) [P] [bl 0 [Nx 0]]) [x (m Nb 2 [Nc])] [],A Ov (s (Nx 0) (b l Nc Nz)),A (q Nb 1) (b l Nc (Ng 2)),I (c Nk [e] [Ng 37]) [x (m (Nx 3) 0 [Ng 37])] [I (c Nk [e] [QE 99]) [x (m Nb 3 [t [k (r [99,104,97,114])]])] [I (c Nk [e] [QE 108]) [x (m Nb 3 [t [k (r [108,101,110,103,116,104])]])] [I (c Nk [e] [QE 105]) [x (m Nb 3 [t [k (r [109,111,114,101])]])] [I (c Nk [h] [Nj [112,80,103]]) [x (m Nb 31 [Nc,Nk])] [I (c Nk [h] [Nj [39,123]]) [x (m Nb 32 [Nc,Nk])] [I (c Nk [h] [Nj [43,45,42,47,109,38,124,94,61,62,60,65,79]]) [x (m Nb 3 [t [k (r [116,119,111]),Nk]])] [I (c Nk [h] [Nj [33,126]]) [x (m Nb 3 [t [k (r [111,110,101]),Nk]])] [I (c Nk [h] [Nj [63,116,101,59]]) [x (m Nb 33 [Nc,Nk])] [x (m Nb 29 [Nc])]]]]]]]]]]⟩
def PO:Fn:=⟨3,4,[I (c (Nx 1) [P] [bl 0 [Nx 0]]) [x (m Nb 2 [Nc])] [],A OA (s (Nx 0) (Nx 1)),A (q Nb 1) (b l (Nx 1) Nz),I (c Nk [e] [QE 112]) [I (n (c (QE 49) [p,p] [Nm,QE 57])) [x (m Nb 2 [Nc])] [],x (m Nb 3 [t [k (r [112,97,114,97,109]),b K Nm (Ng 48)]])] [I (o .And [n (c (QE 97) [p,p] [Nm,QE 122]),n (c (QE 65) [p,p] [Nm,QE 90])]) [x (m Nb 2 [Nc])] [],x (m Nb 3 [t [f (c Nk [e] [QE 80]) (k (r [115,101,116])) (k (r [103,101,116])),Nm]])]]⟩
def Pg:Fn:=⟨3,5,[I (c Nk [e] [QE 39]) [I (c (Z (Nx 0) (b l (Nx 1) Nz) (b l (Nx 1) (Ng 2)) NC) [g] [Nj [39]]) [x (m Nb 2 [Nc])] [],x (m Nb 3 [t [k (r [112,117,115,104]),s (Nx 0) (Nx 1)]]),A (q Nb 1) (b l (Nx 1) (Ng 2)),R NC] [],A OA Nz,I (c (Z (Nx 0) (Nx 1) (b l (Nx 1) Nz) NC) [e] [Nj [45]]) [A OA (u .USub Nz),A (q Nb 1) (b l (Nx 1) Nz)] [],I (n (F 97 [Nx 0,Nx 1])) [x (m Nb 2 [Nc])] [],A (N [Py,q Nb 1]) (F 104 [Nx 0,Nx 1]),I (c (Z (Nx 0) (Nx 1) (b l (Nx 1) Nz) NC) [g] [Nj [125]]) [x (m Nb 2 [Nc])] [],A (q Nb 1) (b l (Nx 1) Nz),x (m Nb 3 [t [k (r [112,117,115,104]),b X Nm NO]])]⟩
def Pz:Fn:=⟨3,5,[x (m Nb 16 []),I (c Nk [e] [QE 63]) [x (m (Nx 4) 0 [L [NC,L []]]),R NC] [],I (c (Nx 4) [e] [L []]) [x (m Nb 2 [Nc])] [],A OA (s (Nx 4) (u .USub Nz)),I (c Nk [e] [QE 116]) [I (c (s Nm NA) [D] [NC]) [x (m Nb 2 [Nc])] [],A (z Nm NA) (bl 0 [Nx 2]),x (m (Nx 2) 0 [t [k (r [117,110,108,101,115,115]),NA]])] [I (c Nk [e] [QE 101]) [I (c (s Nm NA) [w] [NC]) [x (m Nb 2 [Nc])] [],x (m (s Nm Nz) 0 [bl 0 [Nx 2]]),x (m (Nx 2) 0 [t [k (r [106,117,109,112]),NA]]),A (z (Nx 2) (s Nm NA)) (t [k (r [117,110,108,101,115,115]),bl 0 [Nx 2]]),A (z Nm NA) NC] [I (c (s Nm NA) [D] [NC]) [A (z (Nx 2) (s Nm NA)) (t [k (r [117,110,108,101,115,115]),bl 0 [Nx 2]])] [],fo Py 0 [s Nm Nz] [A (z (Nx 2) NO) (t [k (r [106,117,109,112]),bl 0 [Nx 2]])],x (m (Nx 4) 6 [])]]]⟩
def PA:Fn:=⟨2,8,[A Ov (Nx 0),A OA (b l Nc Nz),A Py (Nj []),A P9 (c (Z Nk Nm (b l Nm Nz) NC) [e] [Nj [58]]),I NR [A OA (b l Nm Nz)] [],wh (o .And [c Nm [j] [bl 0 [Nk]],o .Or [c (s Nk Nm) [h] [Nj [35,32,48]],o .And [NR,c (s Nk Nm) [h] [Nj [45,43]]]]]) [A Py (b l NO (Z Nk Nm (b l Nm Nz) NC)),A OA (b l Nm Nz)],A (N [QF,OA]) (F 104 [Nk,Nm]),A SU NC,I (c (Z Nk Nm (b l Nm Nz) NC) [e] [Nj [46]]) [A (N [SU,OA]) (F 104 [Nk,b l Nm Nz]),A SU (bl 5 [Pp,Ng 10000])] [],I (o .Or [c Nm [P] [bl 0 [Nk]],c (s Nk Nm) [nI] [Nj [100,111,120,88,115]]]) [x (m Nb 2 [Nc])] [],A (q Nb 1) (b l Nm Nz),x (m Nb 3 [t [k (r [119,114,105,116,101]),s Nk Nm,NO,bl 5 [OU,Ng 10000],Pp]])]⟩
def SV:Fn:=⟨1,1,[R (m (F 184 [Nb]) 34 [])]⟩
def O4:Fn:=⟨3,6,[A OA (f Nk (Nj [48,49,50,51,52,53,54,55,56,57,65,66,67,68,69,70]) (Nj [48,49,50,51,52,53,54,55,56,57,97,98,99,100,101,102])),A Py (bl 8 []),A P9 Nb,wh (o .Or [c NR [gt] [NA],c (bl 0 [NO]) [e] [NA]]) [x (m NO 0 [s Nm (b M NR Nc)]),A P9 (b Q NR Nc)],R (bl 9 [Z NO NC NC (u .USub Nz)])]⟩
def Tn:Fn:=⟨5,6,[A P9 (b K (b K Nm (bl 0 [Nb])) (bl 0 [Nc])),I (c NR [p] [NA]) [R (b l Nb Nc)] [],I (c (Nj [45]) [h] [Nk]) [R (b l (b l Nb Nc) (b X (Nj [32]) NR))] [],I (o .And [c (Nj [48]) [h] [Nk],n NO]) [R (b l (b l Nb (b X (Nj [48]) NR)) Nc)] [],R (b l (b l (b X (Nj [32]) NR) Nb) Nc)]⟩
def O5:Fn:=⟨5,8,[I (c Nb [e] [QE 115]) [A P9 (f (c Nm [w] [NC]) NO (Z NO NC Nm NC)),R (F 209 [Nj [],NR,f (c (Nj [45]) [h] [Nc]) (Nj [45]) (Nj []),Nk,k (ob J)])] [],A QF (Nj []),I (c Nb [e] [QE 100]) [A SU (bl 2 [NO]),A P9 (F 202 [Pp,Ng 10,k (ob Am)]),I (c NO [j] [NA]) [A QF (Nj [45])] [I (c (Nj [43]) [h] [Nc]) [A QF (Nj [43])] [I (c (Nj [32]) [h] [Nc]) [A QF (Nj [32])] []]]] [A SU (f (c NO [j] [NA]) (b M NO (Ng 4294967296)) NO),A P9 (F 202 [Pp,f (c Nb [e] [QE 111]) (Ng 8) (Ng 16),c Nb [e] [QE 88]]),I (o .And [c (Nj [35]) [h] [Nc],c Pp [gt] [NA],c Nb [g] [QE 111]]) [A QF (b l (Nj [48]) (bl 9 [L [Nb]]))] []],I (c Nm [D] [NC]) [I (o .And [c Nm [e] [NA],c Pp [e] [NA]]) [A P9 (Nj [])] [],A P9 (b l (b X (Nj [48]) (b K Nm (bl 0 [NR]))) NR)] [],I (o .And [c Nb [e] [QE 111],c (Nj [35]) [h] [Nc],c (Z NR NC Nz NC) [g] [Nj [48]]]) [A QF (Nj [48])] [],R (F 209 [OU,NR,Nc,Nk,c Nm [D] [NC]])]⟩
def OO:Fn:=⟨1,1,[A (q Nb 5) (L [])]⟩
def RK:Fn:=⟨2,2,[I (bl 1 [Nc,k (.val (.type "int"))]) [A Ti (b K (b M (b l Nc (b Q (Ng 4294967296) (Ng 2))) (Ng 4294967296)) (b Q (Ng 4294967296) (Ng 2)))] [],x (m (Nx 5) 0 [Nc])]⟩
def R8:Fn:=⟨1,1,[R (f (c (Nx 5) [e] [L []]) NA (m (Nx 5) 6 []))]⟩
def PR:Fn:=⟨1,2,[A Ti (m Nb 6 []),R (f (bl 1 [Nc,k (.val (.type "int"))]) Nc NA)]⟩
def PS:Fn:=⟨1,2,[A Ti (m Nb 6 []),R (f (bl 1 [Nc,k (.val (.type "bytes"))]) Nc (Nj []))]⟩
def R9:Fn:=⟨2,3,[I (c Nc [e] [NA]) [R NA] [],A Ov (b Q (bl 2 [Nb]) (bl 2 [Nc])),R (f (c (c Nb [j] [NA]) [e] [c Nc [j] [NA]]) Nk (u .USub Nk))]⟩
def UT:Fn:=⟨3,3,[I (c Nb [e] [QE 43]) [R (b l Nc Nk)] [],I (c Nb [e] [QE 45]) [R (b K Nc Nk)] [],I (c Nb [e] [QE 42]) [R (b X Nc Nk)] [],I (c Nb [e] [QE 47]) [R (F 272 [Nc,Nk])] [],I (c Nb [e] [QE 109]) [R (f (c Nk [e] [NA]) NA (b K Nc (b X Nk (F 272 [Nc,Nk]))))] [],R (F 286 [Nb,Nc,Nk])]⟩
def Sa:Fn:=⟨3,3,[I (c Nb [e] [QE 38]) [R (b .BitAnd Nc Nk)] [],I (c Nb [e] [QE 124]) [R (b .BitOr Nc Nk)] [],I (c Nb [e] [QE 94]) [R (b .BitXor Nc Nk)] [],I (c Nb [e] [QE 61]) [R (f (c Nc [e] [Nk]) Nz NA)] [],I (c Nb [e] [QE 62]) [R (f (c Nc [gt] [Nk]) Nz NA)] [],I (c Nb [e] [QE 60]) [R (f (c Nc [j] [Nk]) Nz NA)] [],I (c Nb [e] [QE 65]) [R (f (o .And [c Nc [g] [NA],c Nk [g] [NA]]) Nz NA)] [],R (f (o .Or [c Nc [g] [NA],c Nk [g] [NA]]) Nz NA)]⟩
def O6:Fn:=⟨3,3,[A (q Nb 6) (b l (bl 12 [Nc]) (b X (L [NA]) (b K (Ng 9) (bl 0 [Nc])))),A (q Nb 7) (d [] []),A (q Nb 8) Nk,A (q Nb 9) (F 261 []),A (q Nb 10) (bl 8 [])]⟩
def Sb:Fn:=⟨2,2,[R (s (Nx 6) (b K Nc Nz))]⟩
def QG:Fn:=⟨2,2,[R (f (c Nc [P] [QE 97]) (Nx 7) (Nx 8))]⟩
def OZ:Fn:=⟨1,2,[fo Ti 3 [Ng 2] [I (bl 1 [s (Nx 6) Nc,k (.val (.type "int"))]) [A (z (Nx 6) Nc) (b l (s (Nx 6) Nc) Nz)] []]]⟩
def Sd:Fn:=⟨2,8,[A (N [Ov,OA,Py,P9,QF]) Nc,A SU (f (c Nm [e] [QE 115]) (m (Nx 9) 19 []) (m (Nx 9) 11 [])),x (m (Nx 10) 39 [F 216 [Nm,NO,NR,OU,Pp]])]⟩
def TR:Fn:=⟨2,4,[A Ov (s Nc NA),I (c Nk [e] [k (r [116,101,120,116])]) [x (m (Nx 10) 39 [s Nc Nz])] [I (c Nk [e] [k (r [99,104,97,114])]) [A OA (b M (m (Nx 9) 11 []) (Ng 256)),x (m (Nx 10) 0 [f (c Nm [e] [NA]) (Ng 128) Nm])] [I (c Nk [e] [k (r [119,114,105,116,101])]) [x (m Nb 25 [Nc])] [I (c Nk [e] [k (r [112,97,114,97,109])]) [x (m (Nx 9) 5 [m Nb 35 [s Nc Nz]])] [I (c Nk [e] [k (r [112,117,115,104])]) [x (m (Nx 9) 5 [s Nc Nz])] [I (c Nk [e] [k (r [115,101,116])]) [A (z (m Nb 18 [s Nc Nz]) (s Nc Nz)) (m (Nx 9) 6 [])] [I (c Nk [e] [k (r [103,101,116])]) [x (m (Nx 9) 5 [m (m Nb 18 [s Nc Nz]) 4 [s Nc Nz,NA]])] [I (c Nk [e] [k (r [108,101,110,103,116,104])]) [x (m (Nx 9) 5 [bl 0 [m (Nx 9) 19 []]])] [I (c Nk [e] [k (r [109,111,114,101])]) [x (m Nb 36 [])] [x (m Nb 28 [Nc])]]]]]]]]]]⟩
def RL:Fn:=⟨2,3,[A Ov (m (Nx 9) 11 []),I (c (s Nc NA) [e] [k (r [116,119,111])]) [x (m (Nx 9) 5 [F 279 [s Nc Nz,m (Nx 9) 11 [],Nk]])] [I (c (s Nc Nz) [e] [QE 33]) [x (m (Nx 9) 5 [f (c Nk [e] [NA]) Nz NA])] [x (m (Nx 9) 5 [u .Invert Nk])]]]⟩
def OH:Fn:=⟨2,4,[A Ov NA,wh (c Nk [j] [bl 0 [Nc]]) [A OA (s Nc Nk),A Ov (b l Nk Nz),I (c (s Nm NA) [e] [k (r [106,117,109,112])]) [A Ov (s Nm Nz)] [I (c (s Nm NA) [e] [k (r [117,110,108,101,115,115])]) [I (c (m (Nx 9) 11 []) [e] [NA]) [A Ov (s Nm Nz)] []] [x (m Nb 40 [Nm])]]],R (bl 9 [Nx 10])]⟩
def WV:Fn:=⟨3,3,[R (m (F 352 [Nc,f (c Nk [w] [NC]) (d [] []) Nk]) 27 [F 195 [Nb]])]⟩
def VC:Fn:=⟨2,7,[I (o .Or [c (Z Nb Nc (b l Nc (Ng 2)) NC) [g] [Nj [36,60]],n (F 97 [Nb,b l Nc (Ng 2)])]) [R NC] [],A (N [Ov,OA]) (F 104 [Nb,b l Nc (Ng 2)]),A Py (b X Nk (Ng 10)),I (o .And [c (Z Nb Nm (b l Nm Nz) NC) [e] [Nj [46]],F 97 [Nb,b l Nm Nz]]) [A Py (b K (b l NO (s Nb (b l Nm Nz))) (Ng 48)),A OA (b l Nm (Ng 2))] [],A P9 (k (ob Am)),A QF (k (ob Am)),wh (c (Z Nb Nm (b l Nm Nz) NC) [h] [t [Nj [42],Nj [47]]]) [I (c (Z Nb Nm (b l Nm Nz) NC) [e] [Nj [42]]) [A P9 (k (ob J))] [A QF (k (ob J))],A OA (b l Nm Nz)],I (c (Z Nb Nm (b l Nm Nz) NC) [g] [Nj [62]]) [R NC] [],R (t [NO,NR,OU,b l Nm Nz])]⟩
def UU:Fn:=⟨1,5,[A Ti (bl 8 []),A Ov (L []),A OA NA,wh (c Nm [j] [bl 0 [Nb]]) [A Py (F 371 [Nb,Nm]),I (c NO [w] [NC]) [x (m Nc 0 [s Nb Nm]),A OA (b l Nm Nz)] [x (m Nk 0 [t [bl 0 [Nc],s NO NA,s NO Nz,s NO (Ng 2)]]),A OA (s NO (Ng 3))]],R (t [bl 9 [Nc],Nk])]⟩
def Se:Fn:=⟨1,1,[R (s (F 378 [Nb]) NA)]⟩
def SW:Fn:=⟨2,2,[A (q Nb 11) Nc,A (q Nb 12) (d [] [])]⟩
def TS:Fn:=⟨2,3,[I (c Nc [h] [a (Nx 11) 16]) [R (s (a (Nx 11) 16) Nc)] [],A Ov (m (a (Nx 11) 17) 4 [Nc]),R (f (bl 1 [Nk,k (.val (.type "bytes"))]) Nk NC)]⟩
def VD:Fn:=⟨3,3,[R (c (m Nb 14 [Nc,Nk]) [D] [NC])]⟩
def UW:Fn:=⟨3,4,[A OA (t [Nc,bl 14 [Nk]]),I (c Nm [nI] [Nx 12]) [A (z (Nx 12) Nm) (F 452 [m Nb 26 [Nc],bl 12 [Nk]])] [],R (s (Nx 12) Nm)]⟩
def TU:Fn:=⟨3,4,[A OA (m (a (Nx 11) 15) 4 [Nc]),R (f (c Nm [w] [NC]) Nk Nm)]⟩
def Uj:Fn:=⟨2,2,[R (bl 7 [m (a (Nx 11) 14) 4 [Nc]])]⟩
def TV:Fn:=⟨2,2,[I (c Nb [w] [NC]) [R NC] [],.Yz [R (F 385 [f (c Nc [g] [L []]) (F 364 [Nb,Nc]) Nb])]]⟩
def SX:Fn:=⟨7,7,[A (q Nb 13) (bl 12 [Nc]),A (q Nb 14) (bl 10 [Nk]),A (q Nb 15) (bl 10 [Nm]),A (q Nb 16) (bl 10 [NO]),A (q Nb 17) (bl 10 [NR]),A (q Nb 18) (bl 12 [OU])]⟩
def Uk:Fn:=⟨1,1,[R (F 471 [Nb,d [] [],d [] [],d [] [],d [] []])]⟩
def Ri:Fn:=⟨1,5,[A (N [Ti,Ov]) (t [d [] [],NA]),fo OA 0 [m Nb 13 [k (r [32])]] [A Py (m Nm 21 [k (r [58])]),I (c NO [P] [NA]) [A Ov (bl 11 [Z Nm NC NO NC]),A OA (Z Nm (b l NO Nz) NC NC)] [],A (z Nc (F 76 [Nm])) Nk,A Ov (b l Nk Nz)],R Nc]⟩
def Rj:Fn:=⟨0,3,[A Tv0 (k (r [48,58,98,119,32,97,109,32,120,115,98,32,120,104,112,32,120,101,110,108,32,101,111,32,103,110,32,104,99,32,107,109,32,104,115,32,105,110,32,100,97,32,100,98,32,109,105,114,32,109,115,103,114,32,111,115,32,101,115,108,111,107,32,120,116,32,104,122,32,117,108,32,120,111,110,32,110,120,111,110,32,109,99,53,105,32,50,53,58,110,112,99])),A Tv0 (b l Nb (k (r [32,50,55,58,99,99,99,32,98,99,101,32,104,108,115]))),A Ti (k (r [48,58,99,111,108,115,32,105,116,32,108,105,110,101,115,32,108,109,32,120,109,99,32,112,98,32,118,116,32,119,115,108,32,49,51,58,99,111,108,111,114,115,32,112,97,105,114,115,32,110,99,118])),A Ov (k (r [48,58,99,98,116,32,98,101,108,32,99,114,32,99,115,114,32,116,98,99,32,99,108,101,97,114,32,101,108,32,101,100,32,104,112,97,32,99,109,100,99,104,32,99,117,112,32,99,117,100,49,32,104,111,109,101,32,99,105,118,105,115,32,99,117,98,49,32,109,114,99,117,112,32,99,110,111,114,109,32,99,117,102,49,32,108,108,32,99,117,117,49,32,99,118,118,105,115,32,100,99,104,49,32,100,108,49,32,50,53,58,115,109,97,99,115,32,98,108,105,110,107,32,98,111,108,100,32,115,109,99,117,112,32,115,109,100,99,32,100,105,109,32,115,109,105,114,32,105,110,118,105,115,32,112,114,111,116,32,114,101,118,32,115,109,115,111,32,115,109,117,108,32,101,99,104,32,114,109,97,99,115,32,115,103,114,48,32,114,109,99,117,112,32,114,109,100,99,32,114,109,105,114,32,114,109,115,111,32,114,109,117,108,32,102,108,97,115,104,32,52,56,58,105,115,49,32,105,115,50,32,105,115,51,32,53,50,58,105,99,104,49,32,105,108,49,32,53,53,58,107,98,115,32,53,57,58,107,100,99,104,49,32,54,49,58,107,99,117,100,49,32,54,53,58,107,102,48,32,107,102,49,32,107,102,49,48,32,107,102,50,32,107,102,51,32,107,102,52,32,107,102,53,32,107,102,54,32,107,102,55,32,107,102,56,32,107,102,57,32,107,104,111,109,101,32,107,105,99,104,49,32,55,57,58,107,99,117,98,49,32,56,49,58,107,110,112,32,107,112,112,32,107,99,117,102,49,32,56,55,58,107,99,117,117,49,32,114,109,107,120,32,115,109,107,120,32,49,48,51,58,110,101,108,32,49,48,53,58,100,99,104,32,100,108,32,99,117,100,32,105,99,104,32,105,110,100,110,32,105,108,32,99,117,98,32,99,117,102,32,114,105,110,32,99,117,117,32,49,50,49,58,114,101,112,32,114,115,49,32,114,115,50,32,49,50,54,58,114,99,32,118,112,97,32,115,99,32,105,110,100,32,114,105,32,115,103,114,32,104,116,115,32,49,51,52,58,104,116,32,49,52,54,58,97,99,115,99,32,49,52,56,58,107,99,98,116,32,49,53,49,58,115,109,97,109,32,114,109,97,109,32,49,53,53,58,101,110,97,99,115,32,49,54,52,58,107,101,110,100,32,50,49,54,58,107,102,49,49,32,107,102,49,50,32,50,54,57,58,101,108,49,32,50,57,55,58,111,112,32,111,99,32,105,110,105,116,99,32,51,49,49,58,115,105,116,109,32,51,50,49,58,114,105,116,109,32,51,53,53,58,107,109,111,117,115,32,51,53,57,58,115,101,116,97,102,32,115,101,116,97,98])),R (t [F 489 [Nb],F 489 [Nc],F 489 [Nk]])]⟩
def SY:Fn:=⟨1,1,[R (c (Ng 48) [p,p] [Nb,Ng 55])]⟩
def Rk:Fn:=⟨2,5,[A (N [Ov,OA,Py]) (t [L [],NA,NA]),wh (c NO [j] [bl 0 [Nb]]) [I (c (s Nb NO) [h] [t [Ng 92,Ng 94]]) [A Py (b l NO Nz)] [I (c (s Nb NO) [e] [Ng 44]) [x (m Nk 0 [Z Nb Nm NO NC]),A OA (b l NO Nz)] []],A Py (b l NO Nz)],I (c (m (Z Nb Nm NC NC) 15 [Nj [32,9,13]]) [g] [Nj []]) [.raise] [],R (C 1 (m NR 43 [Nj [32,9,13]]) [5] J 0 [Nk] [])]⟩
def Rv:Fn:=⟨0,1,[A Tv0 (d [Ng 69,Ng 101,Ng 110,Ng 108,Ng 114,Ng 116,Ng 98,Ng 102,Ng 115] [Ng 27,Ng 27,Ng 10,Ng 10,Ng 13,Ng 9,Ng 8,Ng 12,Ng 32]),x (m Nb 41 [d [Ng 94,Ng 92,Ng 44,Ng 58] [Ng 94,Ng 92,Ng 44,Ng 58]]),R Nb]⟩
def Rl:Fn:=⟨4,7,[I (c (b l Nc Nz) [P] [bl 0 [Nb]]) [.raise] [],A Py (s Nb (b l Nc Nz)),I (c (s Nb Nc) [e] [Ng 94]) [I (c NO [e] [Ng 63]) [R (t [Ng 127,b l Nc (Ng 2)])] [],I (o .And [n (c (Ng 64) [p,p] [NO,Ng 95]),n (c (Ng 97) [p,p] [NO,Ng 122])]) [.raise] [],R (t [f (c (b .BitAnd NO (Ng 31)) [g] [NA]) (b .BitAnd NO (Ng 31)) (Ng 128),b l Nc (Ng 2)])] [],I (n (F 503 [NO])) [I (c NO [nI] [Nm]) [.raise] [],R (t [s Nm NO,b l Nc (Ng 2)])] [],A (N [P9,QF]) (t [b l Nc Nz,NA]),wh (o .And [c NR [j] [bl 0 [Nb]],c NR [j] [b l Nc (Ng 4)],F 503 [s Nb NR]]) [A QF (b K (b l (b X OU (Ng 8)) (s Nb NR)) (Ng 48)),A P9 (b l NR Nz)],I (c OU [gt] [Ng 255]) [.raise] [],R (t [f (c OU [g] [NA]) OU (Ng 128),NR])]⟩
def Rm:Fn:=⟨2,6,[A (N [Ov,OA,Py]) (t [L [],NA,F 515 []]),wh (c Nm [j] [bl 0 [Nb]]) [I (c (s Nb Nm) [h] [t [Ng 92,Ng 94]]) [A (N [P9,OA]) (F 522 [Nb,Nm,Nc,NO]),x (m Nk 0 [NR])] [x (m Nk 0 [f (c (s Nb Nm) [g] [NA]) (s Nb Nm) (Ng 128)]),A OA (b l Nm Nz)]],R (bl 9 [Nk])]⟩
def Rn:Fn:=⟨2,7,[A (N [Ov,OA]) (t [Ng 10,Nb]),I (c (Z Nb NC (Ng 2) NC) [h] [t [Nj [48,120],Nj [48,88]]]) [A (N [Ov,OA]) (t [Ng 16,Z Nb (Ng 2) NC NC])] [I (o .And [c (bl 0 [Nb]) [gt] [Nz],c (s Nb NA) [e] [Ng 48]]) [A (N [Ov,OA]) (t [Ng 8,Z Nb Nz NC NC])] []],A Py NA,fo P9 0 [Nm] [A QF (F 90 [NR]),I (o .Or [c OU [w] [NC],c OU [P] [Nk]]) [.raise] [],A Py (b l (b X NO Nk) OU)],I (o .Or [c Nm [e] [Nj []],c NO [gt] [Ng 2147483647]]) [.raise] [],R NO]⟩
def Sz:Fn:=⟨2,3,[fo Ov 0 [Nb] [I (o .Or [n (c (Ng 33) [p,p] [Nk,Ng 126]),c Nk [h] [Nj [44,124,92,94]]]) [.raise] []],I (c Nb [e] [Nj []]) [.raise] [],R Nb]⟩
def RM:Fn:=⟨2,4,[fo (N [Ov,OA]) 1 [Nb] [I (c Nm [h] [Nj [35,61,64]]) [R (t [F 543 [Z Nb NC Nk NC,Nc],Z Nb Nk (b l Nk Nz) NC,Z Nb (b l Nk Nz) NC NC])] []],R (t [F 543 [m Nb 10 [Nj [32,9,13]],Nc],Nj [],Nj []])]⟩
def S2:Fn:=⟨5,7,[A P9 (L [Nx 14,Nx 15,Nx 16]),fo QF 3 [Ng 3] [I (c Nc [h] [s Nm OU]) [I (o .And [c Nk [D] [NC],c Nk [g] [OU]]) [.raise] [],R (s NR OU)] []],R (Nx 17)]⟩
def Qc:Fn:=⟨4,10,[I (o .Or [c (m Nc 10 [Nj [32,9,13]]) [e] [Nj []],c (Z Nc NC Nz NC) [e] [Nj [46]]]) [R NC] [],A (N [Py,P9,QF]) (F 550 [Nc,Nm]),I (o .And [c NO [e] [Nj [117,115,101]],c NR [e] [Nj [61]]]) [x (m (Nx 18) 0 [F 543 [m OU 10 [Nj [32,9,13]],Nm]]),R NC] [],A (N [SU,UH]) (t [NA,k (ob J)]),I (c NR [e] [Nj [35]]) [A (N [SU,UH]) (t [Nz,F 536 [m OU 10 [Nj [32,9,13]],Nm]])] [I (c NR [e] [Nj [61]]) [A (N [SU,UH]) (t [Ng 2,F 529 [OU,Nm]])] [I (c NR [e] [Nj [64]]) [A (N [SU,UH]) (t [NC,NC]),I (c (m OU 10 [Nj [32,9,13]]) [g] [Nj []]) [.raise] []] []]],A WU (F 557 [Nb,NO,Pp,Nk,Nm]),I (c NO [nI] [SQ]) [A (z SQ NO) Tb] []]⟩
def UX:Fn:=⟨2,3,[A Ov (m Nb 13 [Nj [124]]),I (c (C 1 Nm [3] J 0 [Nk] [c (m Nm 15 [Nj [32,9,13]]) [e] [Nj []]]) [g] [L []]) [.raise] [],R Nk]⟩
def SD:Fn:=⟨1,8,[A (N [Ti,Ov]) (t [L [],F 496 []]),fo (N [OA,Py]) 1 [m Nb 13 [Nj [10]]] [A P9 (b l Nm Nz),I (o .Or [c (m NO 15 [Nj [32,9,13]]) [e] [Nj []],c (Z NO NC Nz NC) [e] [Nj [35]]]) [.cont] [],A QF (F 508 [NO,NR]),I (c (Z NO NC Nz NC) [nI] [t [Nj [32],Nj [9]]]) [I (c OU [e] [L []]) [.raise] [],x (m Nc 0 [F 482 [F 569 [s OU NA,NR]]]),A QF (Z OU Nz NC NC)] [I (c Nc [e] [L []]) [.raise] []],fo SU 0 [OU] [x (F 564 [s Nc (u .USub Nz),Pp,Nk,NR])]],R Nc]⟩
def Rx:Fn:=⟨2,3,[I (c Nb [e] [Ng 27]) [R (Nj [92,69])] [],I (c Nb [h] [t [Ng 44,Ng 92,Ng 94]]) [R (bl 9 [L [Ng 92,Nb]])] [],I (o .And [c Nb [e] [Ng 32],Nc]) [R (Nj [92,115])] [],I (c Nb [e] [Ng 127]) [R (Nj [94,63])] [],I (o .Or [c Nb [gt] [Ng 127],c Nb [e] [NA]]) [A Ov (f (c Nb [g] [NA]) Nb (Ng 128)),R (bl 9 [L [Ng 92,b l (Ng 48) (b Q Nk (Ng 64)),b l (Ng 48) (b M (b Q Nk (Ng 8)) (Ng 8)),b l (Ng 48) (b M Nk (Ng 8))]])] [],R (f (c Nb [j] [Ng 32]) (bl 9 [L [Ng 94,b l Nb (Ng 64)]]) (bl 9 [L [Nb]]))]⟩
def QH:Fn:=⟨1,2,[A Ti (b K (bl 0 [Nb]) Nz),R (m (Nj []) 1 [C 2 (F 583 [Nm,c Nk [h] [t [NA,Nc]]]) [2,3] Am 1 [Nb] []])]⟩
def Q6:Fn:=⟨2,2,[I (c Nc [w] [NC]) [R (b l Nb (Nj [64]))] [],I (bl 1 [Nc,k (.val (.type "bool"))]) [R Nb] [],I (bl 1 [Nc,k (.val (.type "int"))]) [R (b l (b l Nb (Nj [35])) (F 83 [Nc]))] [],R (b l (b l Nb (Nj [61])) (F 588 [Nc]))]⟩
def Ow:Fn:=⟨1,4,[A Ti (L [b l (m (Nj [124]) 1 [Nx 13]) (Nj [44,10])]),fo Ov 0 [t [Nx 14,Nx 15,Nx 16,Nx 17]] [fo OA 0 [bl 6 [Nk]] [x (m Nc 0 [b l (b l (Nj [9]) (F 595 [Nm,s Nk Nm])) (Nj [44,10])])]],fo OA 0 [Nx 18] [x (m Nc 0 [b l (b l (Nj [9,117,115,101,61]) Nm) (Nj [44,10])])],R (m (Nj []) 1 [Nc])]⟩
def T6:Fn:=⟨2,4,[fo (N [Ov,OA]) 1 [Nb] [I (c Nc [h] [f (c (bl 0 [a Nm 13]) [e] [Nz]) (a Nm 13) (Z (a Nm 13) NC (u .USub Nz) NC)]) [R Nk] []],.raise]⟩
def PB:Fn:=⟨2,6,[A Ov (L [t [Nx 14,a Nc 14],t [Nx 15,a Nc 15],t [Nx 16,a Nc 16]]),fo (N [OA,Py]) 0 [b l Nk (L [t [Nx 17,a Nc 17]])] [fo P9 0 [NO] [I (c NR [nI] [Nm]) [A (z Nm NR) (s NO NR)] []]]]⟩
def Qd:Fn:=⟨1,3,[A Ti (L []),fo Ov 0 [t [Nx 14,Nx 15,Nx 16,Nx 17]] [x (m Nc 0 [bl 10 [C 1 (t [Nm,s Nk Nm]) [3] J 0 [Nk] [c (s Nk Nm) [D] [NC]]]])],R (F 471 [Nx 13,s Nc NA,s Nc Nz,s Nc (Ng 2),s Nc (Ng 3)])]⟩
def Ul:Fn:=⟨1,1,[R (F 471 [Nx 13,Nx 14,Nx 15,Nx 16,Nx 17])]⟩
def Ry:Fn:=⟨2,10,[A Ov (F 609 [Nb,Nc]),A (N [OA,Py,P9]) (t [d [] [],d [Nk] [k (ob J)],L [L [Nk,NA,F 628 [s Nb Nk]]]]),wh (c NR [g] [L []]) [A (N [QF,SU,UH]) (s NR (u .USub Nz)),I (c Pp [e] [bl 0 [a (s Nb OU) 18]]) [A (z Nm OU) (F 621 [Tb]),x (m NR 6 []),.cont] [],A WU (F 609 [Nb,s (a (s Nb OU) 18) Pp]),I (c SQ [h] [Nm]) [x (F 616 [Tb,s Nm SQ]),A (z (s NR (u .USub Nz)) Nz) (b l Pp Nz)] [I (c SQ [h] [NO]) [.raise] [A (z NO SQ) (k (ob J)),x (m NR 0 [L [SQ,NA,F 628 [s Nb SQ]]])]]],R (s Nm Nk)]⟩
def Qn:Fn:=⟨2,4,[A Ov (L []),fo OA 3 [Nc] [x (m Nk 0 [b .BitAnd Nb (Ng 255)]),A Tv0 (b .RShift Nb (Ng 8))],R (bl 9 [Nk])]⟩
def Qp:Fn:=⟨1,4,[A Ti NA,fo Ov 0 [Z Nb NC NC (u .USub Nz)] [A Ti (b l (b X Nc (Ng 256)) Nk)],A OA (b .LShift Nz (b X (Ng 8) (bl 0 [Nb]))),R (f (c (b X Nc (Ng 2)) [P] [Nm]) (b K Nc Nm) Nc)]⟩
def Sg:Fn:=⟨1,1,[R (f (c (b M (bl 0 [Nb]) (Ng 2)) [e] [Nz]) (b l Nb (Nj [0])) Nb)]⟩
def Qq:Fn:=⟨1,3,[A Ti (d [] []),fo Ov 0 [bl 6 [Nb]] [A (z Nc (s Nb Nk)) Nk],R Nc]⟩
def PC:Fn:=⟨1,1,[A (q Nb 19) (L []),A (q Nb 20) NA]⟩
def PD:Fn:=⟨2,3,[A Ov (Nx 20),x (m (Nx 19) 0 [b l (m Nc 42 [Nj [0],Nj [128]]) (Nj [0])]),A (q Nb 20) (b l (b l (Nx 20) (bl 0 [Nc])) Nz),I (c (Nx 20) [gt] [Ng 32767]) [.raise] [],R Nk]⟩
def Qe:Fn:=⟨1,1,[R (m (Nj []) 1 [Nx 19])]⟩
def Sh:Fn:=⟨1,1,[I (c Nb [w] [NC]) [R (bl 9 [L [Ng 254]])] [],R (f Nb (Nj [1]) (Nj [0]))]⟩
def To:Fn:=⟨3,3,[I (o .Or [c Nc [w] [NC],c Nc [nI] [Nb]]) [R (F 642 [Ng (-1),Nk])] [],I (c (s Nb Nc) [w] [NC]) [R (F 642 [Ng (-2),Nk])] [],R (F 642 [bl 5 [s Nb Nc,b K (b .LShift Nz (b K (b X (Ng 8) Nk) Nz)) Nz],Nk])]⟩
def Tq:Fn:=⟨3,3,[I (o .Or [c Nc [w] [NC],c Nc [nI] [Nb]]) [R (F 642 [Ng (-1),Ng 2])] [],I (c (s Nb Nc) [w] [NC]) [R (F 642 [Ng (-2),Ng 2])] [],R (F 642 [m Nk 20 [s Nb Nc],Ng 2])]⟩
def RN:Fn:=⟨2,5,[A Ov (u .USub Nz),fo OA 0 [Nb] [A Ov (bl 4 [Nk,s Nc Nm])],A Py (F 663 [Nc]),R (C 1 (m NO 4 [NR]) [5] J 3 [b l Nk Nz] [])]⟩
def Ro:Fn:=⟨2,10,[A (N [Ov,OA,Py]) (F 496 []),A P9 (t [F 724 [Nx 14,Nk],F 724 [Nx 15,Nm],F 724 [Nx 16,NO]]),A (N [QF,SU]) (t [b l (m (Nj [124]) 1 [Nx 13]) (Nj [0]),F 694 []]),A UH (C 1 (F 705 [f (c R5 [h] [Nx 14]) (s (Nx 14) R5) (k (ob Am))]) [10] J 0 [s NR NA] []),A WU (F 656 [b l OU (m (Nj []) 1 [Tb])]),A WU (b l SQ (m (Nj []) 1 [C 1 (F 712 [Nx 15,R5,Nc]) [10] J 0 [s NR Nz] []])),A WU (b l SQ (m (Nj []) 1 [C 1 (F 719 [Nx 16,R5,Pp]) [10] J 0 [s NR (Ng 2)] []])),R (t [L [bl 0 [OU],bl 0 [s NR NA],bl 0 [s NR Nz],bl 0 [s NR (Ng 2)],a Pp 20],b l SQ (m Pp 12 [])])]⟩
def O0:Fn:=⟨2,3,[A (q Nb 17) Nc,A (q Nb 14) (L []),A (q Nb 15) (L []),A (q Nb 16) (L []),fo Ov 0 [bl 6 [Nc]] [x (m Nb 3 [Nk])]]⟩
def S3:Fn:=⟨2,3,[A Ov (s (Nx 17) Nc),I (bl 1 [Nk,k (.val (.type "bytes"))]) [x (m (Nx 16) 0 [Nc])] [I (o .Or [c Nk [w] [NC],bl 1 [Nk,k (.val (.type "bool"))]]) [x (m (Nx 14) 0 [Nc])] [x (m (Nx 15) 0 [Nc])]]]⟩
def S4:Fn:=⟨1,1,[R (b l (b l (Nx 14) (Nx 15)) (Nx 16))]⟩
def Ph:Fn:=⟨2,9,[A (N [Ov,OA]) (t [F 694 [],F 694 []]),A Py (m (Nj []) 1 [C 1 (F 705 [s (Nx 17) SQ]) [9] J 0 [Nx 14] []]),A P9 (m (Nj []) 1 [C 1 (F 712 [Nx 17,SQ,Nc]) [9] J 0 [Nx 15] []]),A P9 (b l NR (m (Nj []) 1 [C 1 (F 719 [Nx 17,SQ,Nk]) [9] J 0 [Nx 16] []])),A P9 (b l NR (m (Nj []) 1 [C 1 (F 642 [m Nm 20 [SQ],Ng 2]) [9] J 0 [m Nb 24 []] []])),I (c (b l (a Nk 20) (a Nm 20)) [gt] [Ng 32767]) [.raise] [],A QF (b l (bl 0 [Nx 16]) (bl 0 [m Nb 24 []])),A SU (L [bl 0 [Nx 14],bl 0 [Nx 15],bl 0 [Nx 16],OU,b l (a Nk 20) (a Nm 20)]),A UH (m (Nj []) 1 [C 1 (F 642 [SQ,Ng 2]) [9] J 0 [Pp] []]),R (b l (b l (b l (b l Tb (F 656 [NO])) NR) (m Nk 12 [])) (m Nm 12 []))]⟩
def Rp:Fn:=⟨2,6,[A Ov (f Nc (Ng 4) (Ng 2)),A (N [OA,Py]) (F 729 [Nb,Nk]),A P9 (f Nc (Ng 542) (Ng 282)),A Py (b l (m (Nj []) 1 [C 1 (F 642 [OU,Ng 2]) [6] J 0 [b l (L [NR]) Nm] []]) NO),R (f (c (Nx 17) [e] [d [] []]) NO (b l (F 656 [NO]) (m (F 765 [Nx 17]) 12 [Nk])))]⟩
def PT:Fn:=⟨2,2,[A (q Nb 0) Nc,A (q Nb 1) NA]⟩
def Q7:Fn:=⟨2,2,[I (o .Or [c Nc [j] [NA],c (b l (Nx 1) Nc) [gt] [bl 0 [Nx 0]]]) [.raise] [],A (q Nb 1) (b l (Nx 1) Nc),R (Z (Nx 0) (b K (Nx 1) Nc) (Nx 1) NC)]⟩
def Qz:Fn:=⟨2,2,[R (F 649 [m Nb 8 [Nc]])]⟩
def QI:Fn:=⟨1,2,[A Ti (m Nb 7 [Ng 2]),I (c Nc [j] [NA]) [.raise] [],R Nc]⟩
def QJ:Fn:=⟨1,1,[I (o .And [c (b M (Nx 1) (Ng 2)) [e] [Nz],c (m Nb 8 [Nz]) [g] [Nj [0]]]) [.raise] []]⟩
def OC:Fn:=⟨2,4,[A Ov (L []),fo OA 0 [m Nb 8 [Nc]] [I (c Nm [nI] [t [NA,Nz,Ng 254]]) [.raise] [],x (m Nk 0 [f (c Nm [e] [Ng 254]) NC (c Nm [e] [Nz])])],R Nk]⟩
def OP:Fn:=⟨3,6,[A OA (L []),fo Py 3 [Nc] [A P9 (m Nb 7 [Nk]),I (c NR [j] [Ng (-2)]) [.raise] [],x (m Nm 0 [NR])],R Nm]⟩
def S5:Fn:=⟨3,4,[A OA (f (c Nc [j] [bl 0 [Nb]]) (m Nb 21 [Nj [0],Nc]) (u .USub Nz)),I (c Nm [j] [NA]) [.raise] [],R (Z Nb Nc Nm NC)]⟩
def Um:Fn:=⟨3,3,[I (o .And [c Nc [D] [NC],c Nk [g] [Ng (-1)]]) [A (z Nb Nc) (f (c Nk [e] [Ng (-2)]) NC Nk)] []]⟩
def QK:Fn:=⟨3,5,[fo (N [OA,Py]) 2 [Nc,Nk] [I (o .And [c Nm [D] [NC],c NO [g] [k (ob Am)]]) [A (z Nb Nm) NO] []]]⟩
def PU:Fn:=⟨5,8,[fo (N [P9,QF]) 2 [Nc,Nk] [A SU (f (c OU [j] [NA]) OU (F 845 [Nm,OU,NO])),x (F 852 [Nb,NR,Pp])]]⟩
def Tr:Fn:=⟨2,3,[A Ov (F 663 [Nb]),R (C 1 (m Nk 4 [Nm]) [3] J 3 [Nc] [])]⟩
def Un:Fn:=⟨2,2,[I (o .Or [c (Z Nb (u .USub Nz) NC NC) [g] [Nj [0]],c (Nj [0]) [h] [Z Nb NC (u .USub Nz) NC],c Nb [e] [Nj [0]]]) [.raise] [],R (m (Z Nb NC (u .USub Nz) NC) 13 [Nj [124]])]⟩
def Pt:Fn:=⟨2,16,[x (m Nb 17 []),A Ov (C 1 (m Nb 22 []) [16] J 3 [b Q (Ng 10) (Ng 2)] []),A OA (b l (b l (s Nk NA) (s Nk Nz)) (s Nk (Ng 2))),I (c (s Nk (Ng 3)) [g] [b l (s Nk (Ng 2)) Nm]) [.raise] [],A Py (m Nb 23 [s Nk NA]),x (m Nb 17 []),A P9 (m Nb 9 [s Nk Nz,Nc]),A QF (m Nb 9 [s Nk (Ng 2),Ng 2]),A SU (m Nb 9 [Nm,Ng 2]),A (N [UH,WU,VA]) (t [Nx 1,m Nb 8 [s Nk (Ng 4)],NA]),fo Xy 0 [OU] [I (c UQ [P] [NA]) [A VA (bl 4 [R5,b l (b l UQ (bl 0 [F 845 [SQ,UQ,Tb]])) Nz])] []],A VB (C 1 (f (c Ui [P] [NA]) (F 845 [SQ,b l R5 Ui,Tb]) NC) [16] J 0 [Pp] []),I (o .Or [c NC [h] [SR],c (bl 0 [bl 10 [C 1 (t [Ui,k (ob J)]) [16] J 0 [SR] []]]) [g] [Nm]]) [.raise] [],A XA (d [] []),x (F 859 [SS,Z SR NC (s Nk NA) NC,NO]),fo (N [Xz,XB]) 2 [Z SR (s Nk NA) NC NC,NR] [x (F 852 [SS,WS,WT])],x (F 866 [SS,Z SR (b l (s Nk NA) (s Nk Nz)) NC NC,OU,SQ,Tb]),R SS]⟩
def NK:Fn:=⟨1,17,[A Ti (F 834 [Nb]),A Ov (m Nc 7 [Ng 2]),I (c Nk [nI] [t [Ng 282,Ng 542]]) [.raise] [],A OA (f (c Nk [e] [Ng 542]) (Ng 4) (Ng 2)),A Py (C 1 (m Nc 22 []) [17] J 3 [b K (b Q (Ng 12) (Ng 2)) Nz] []),A P9 (F 878 [m Nc 8 [s NO NA],Ng 12]),A (N [QF,SU,UH]) (F 496 []),A WU (m Nc 23 [s NO Nz]),x (m Nc 17 []),A (N [VA,Xy]) (t [m Nc 9 [s NO (Ng 2),Nm],m Nc 9 [s NO (Ng 3),Ng 2]]),A (N [VB,Xz]) (t [a Nc 1,m Nc 8 [s NO (Ng 4)]]),A XA (F 471 [NR,d [] [],d [] [],d [] [],d [] []]),x (F 859 [a SS 14,F 871 [OU,s NO Nz],SQ]),fo (N [XB,XC]) 2 [F 871 [Pp,s NO (Ng 2)],R5] [x (F 852 [a SS 15,WT,Ui])],x (F 866 [a SS 16,F 871 [Tb,s NO (Ng 3)],UQ,WS,SR]),I (c (a Nc 1) [j] [bl 0 [Nb]]) [A (q SS 17) (F 883 [Nc,Nm])] [],I (c (a Nc 1) [j] [bl 0 [Nb]]) [.raise] [],R SS]⟩
def UY:Fn:=⟨2,3,[A (z Nb (k (r [116,117,114,110]))) (b l (s Nb (k (r [116,117,114,110]))) Nz),I (c (s Nb (k (r [99,101,108,108,115]))) [e] [L []]) [R (b M (b l (b X (s Nb (k (r [116,117,114,110]))) (Ng 5)) (b Q (s Nb (k (r [116,117,114,110]))) (Ng 3))) Nc)] [],A Ov (m (s Nb (k (r [99,101,108,108,115]))) 6 []),I (c Nk [P] [Ng 1000000]) [x (m (s Nb (k (r [99,101,108,108,115]))) 0 [b Q Nk Nc])] [],R (b M Nk Nc)]⟩
def UZ:Fn:=⟨2,2,[R (s Nc (F 915 [Nb,bl 0 [Nc]]))]⟩
def TX:Fn:=⟨1,1,[R (bl 9 [C 1 (bl 3 [Nc]) [1] J 0 [bl 13 [Nb]] []])]⟩
def Pu:Fn:=⟨2,9,[A Ov (F 915 [Nb,f (c Nc [gt] [NA]) (Ng 7) (Ng 4)]),I (c Nk [e] [NA]) [A OA (F 922 [Nb,k (vt [i 0,i 1,i 7,i 44,i 94,i 255,i (-5),i 3000000000,i 65536,i 9000000000])]),I (c Nm [h] [t [Ng 44,Ng 94]]) [R (t [b l (b l (Nj [37,39]) (bl 9 [L [Nm]])) (Nj [39]),k (r [110,117,109,98,101,114]),Nm])] [],R (t [b l (b l (Nj [37,123]) (F 927 [Nm])) (Nj [125]),k (r [110,117,109,98,101,114]),Nm])] [],I (o .Or [c Nk [e] [Nz],c Nk [e] [Ng 3]]) [A Py (F 915 [Nb,Ng 9]),R (t [b l (b l (Nj [37,112]) (F 927 [b l NO Nz])) (f (c Nk [e] [Ng 3]) (Nj [37,108]) (Nj [])),f (c Nk [e] [Nz]) (k (r [112,97,114,97,109])) (k (r [108,101,110,103,116,104])),NO])] [],I (c Nk [e] [Ng 2]) [A P9 (F 922 [Nb,t [Nj [97],Nj [98],Nj [65],Nj [90]]]),R (t [b l (Nj [37,103]) NR,k (r [118,97,114,105,97,98,108,101]),NR])] [],A QF (F 934 [Nb,b K Nc Nz]),I (c Nk [e] [Ng 6]) [A SU (F 922 [Nb,t [Nj [33],Nj [126]]]),R (t [b l (b l (s OU NA) (Nj [37])) Pp,k (r [111,110,101]),t [Pp,OU]])] [],A (N [UH,SU]) (t [F 934 [Nb,b K Nc Nz],F 922 [Nb,k (vt [y [43],y [45],y [42],y [47],y [109],y [38],y [124],y [94],y [61],y [62],y [60],y [65],y [79]])]]),R (t [b l (b l (b l (s OU NA) (s Tb NA)) (Nj [37])) Pp,k (r [116,119,111]),t [Pp,OU,Tb]])]⟩
def N6:Fn:=⟨2,17,[A Ov (F 915 [Nb,Ng 8]),I (c Nk [e] [NA]) [A OA (F 922 [Nb,k (vt [y [27,91],y [59],y [44],y [94],y [92],y [32],y [58],y [37],y [97,98],y [233],y [7],y [36,60,53,47,62],y [36,60,49,46,53,42,62],y [55],y [61,124]])]),R (t [f (c Nm [e] [Nj [37]]) (Nj [37,37]) Nm,k (r [116,101,120,116]),Nm])] [],I (c Nk [j] [Ng 4]) [A (N [Py,P9]) (t [F 934 [Nb,Ng 2],F 922 [Nb,k (vt [vt [y [100],y [],i 0,.none],vt [y [100],y [],i 4,.none],vt [y [100],y [48],i 5,.none],vt [y [100],y [43],i 0,.none],vt [y [100],y [32],i 0,.none],vt [y [100],y [45],i 4,.none],vt [y [100],y [],i 6,i 3],vt [y [120],y [35],i 0,.none],vt [y [88],y [],i 0,.none],vt [y [111],y [35],i 0,.none],vt [y [120],y [48],i 9,.none],vt [y [115],y [],i 0,.none],vt [y [115],y [],i 5,.none],vt [y [115],y [45],i 5,i 2]])]]),A (N [QF,SU,UH,WU]) NR,A VA (b l (b l (b l (Nj [37]) (f (c Pp [h] [t [Nj [45],Nj [43]]]) (Nj [58]) (Nj []))) Pp) (f (c Tb [gt] [NA]) (F 927 [Tb]) (Nj []))),R (t [b l (b l (b l (s NO NA) R5) (f (c SQ [w] [NC]) (Nj []) (b l (Nj [46]) (F 927 [SQ])))) OU,k (r [119,114,105,116,101]),t [NO,NR]])] [],I (c Nk [e] [Ng 4]) [A Py (F 934 [Nb,Nz]),R (t [b l (s NO NA) (Nj [37,99]),k (r [115,105,103,110]),NO])] [],I (c Nk [e] [Ng 5]) [A (N [Py,QF]) (t [F 934 [Nb,Nz],F 922 [Nb,t [Nj [97],Nj [98],Nj [65],Nj [90]]]]),R (t [b l (b l (s NO NA) (Nj [37,80])) OU,k (r [115,101,116]),t [OU,NO]])] [],I (o .Or [c Nk [e] [Ng 6],c Nc [e] [NA]]) [R (t [Nj [37,105],k (r [109,111,114,101]),NC])] [],A (N [Xy,VB]) (t [L [],Nj [37,63]]),fo Xz 3 [b l Nz (F 915 [Nb,Ng 2])] [A (N [XA,XB]) (t [F 934 [Nb,Nz],F 946 [Nb,b K Nc Nz,Ng 2]]),A VB (b l (b l (b l (b l SR (f (c WS [gt] [NA]) (Nj [37,101]) (Nj []))) (s SS NA)) (Nj [37,116])) (s WT NA)),x (m UQ 0 [t [SS,s WT Nz]])],A XC (t [Nj [],L []]),I (c (F 915 [Nb,Ng 2]) [e] [Nz]) [A XC (F 946 [Nb,b K Nc Nz,Ng 2]),A VB (b l (b l SR (Nj [37,101])) (s Ui NA))] [],R (t [b l SR (Nj [37,59]),k (r [105,102]),t [UQ,s Ui Nz]])]⟩
def O9:Fn:=⟨3,5,[A OA (L []),fo Py 3 [F 915 [Nb,b l Nk Nz]] [I (c (s Nb (k (r [108,101,102,116]))) [gt] [NA]) [A (z Nb (k (r [108,101,102,116]))) (b K (s Nb (k (r [108,101,102,116]))) Nz),x (m Nm 0 [F 941 [Nb,Nc]])] []],R (t [m (Nj []) 1 [C 1 (s NR NA) [5] J 0 [Nm] []],Nm])]⟩
def VE:Fn:=⟨1,1,[R (f (bl 1 [Nb,k (.val (.type "bytes"))]) Nb (b K (b M (b l Nb (Ng 2147483648)) (Ng 4294967296)) (Ng 2147483648)))]⟩
def Uo:Fn:=⟨1,1,[R (f (bl 1 [Nb,k (.val (.type "bytes"))]) NA Nb)]⟩
def S6:Fn:=⟨3,5,[I (c Nb [h] [t [Nj [47],Nj [109]]]) [I (c Nk [e] [NA]) [R NA] [],A OA (b X (b Q (bl 2 [Nc]) (bl 2 [Nk])) (f (c (c Nc [j] [NA]) [e] [c Nk [j] [NA]]) Nz (u .USub Nz))),R (f (c Nb [e] [Nj [47]]) Nm (b K Nc (b X Nm Nk)))] [],I (c Nb [h] [t [Nj [43],Nj [45],Nj [42]]]) [R (f (c Nb [e] [Nj [43]]) (b l Nc Nk) (f (c Nb [e] [Nj [45]]) (b K Nc Nk) (b X Nc Nk)))] [],I (c Nb [h] [t [Nj [38],Nj [124],Nj [94]]]) [R (f (c Nb [e] [Nj [38]]) (b .BitAnd Nc Nk) (f (c Nb [e] [Nj [124]]) (b .BitOr Nc Nk) (b .BitXor Nc Nk)))] [],I (c Nb [h] [t [Nj [65],Nj [79]]]) [A Py (b l (bl 11 [c Nc [g] [NA]]) (bl 11 [c Nk [g] [NA]])),R (bl 11 [c NO [gt] [f (c Nb [e] [Nj [65]]) Nz NA]])] [],R (bl 11 [f (c Nb [e] [Nj [61]]) (c Nc [e] [Nk]) (f (c Nb [e] [Nj [62]]) (c Nc [gt] [Nk]) (c Nc [j] [Nk]))])]⟩
def Up:Fn:=⟨2,6,[A (N [Ov,OA]) (t [s Nb Nz,s Nb (Ng 2)]),I (c Nk [e] [k (r [110,117,109,98,101,114])]) [R (F 953 [Nm])] [],I (c Nk [e] [k (r [112,97,114,97,109])]) [R (F 953 [s (s Nc (k (r [112,97,114,97,109,115]))) Nm])] [],I (c Nk [e] [k (r [108,101,110,103,116,104])]) [R (f (bl 1 [s (s Nc (k (r [112,97,114,97,109,115]))) Nm,k (.val (.type "bytes"))]) (bl 0 [s (s Nc (k (r [112,97,114,97,109,115]))) Nm]) NA)] [],I (c Nk [e] [k (r [118,97,114,105,97,98,108,101])]) [A Py (f (c Nm [h] [t [Nj [65],Nj [90]]]) (s Nc (k (r [107,101,112,116]))) (s Nc (k (r [111,119,110])))),R (m NO 4 [Nm,NA])] [],I (c Nk [e] [k (r [111,110,101])]) [A P9 (F 960 [F 974 [s Nm Nz,Nc]]),R (f (c (s Nm NA) [e] [Nj [33]]) (bl 11 [c NR [e] [NA]]) (b K (u .USub Nz) NR))] [],R (F 953 [F 967 [s Nm NA,F 960 [F 974 [s Nm Nz,Nc]],F 960 [F 974 [s Nm (Ng 2),Nc]]]])]⟩
def Pj:Fn:=⟨3,4,[A OA (Nj []),wh (c Nb [gt] [NA]) [A (N [OA,Tv0]) (t [b l (Z Nk (b M Nb Nc) (b l (b M Nb Nc) Nz) NC) Nm,b Q Nb Nc])],R (f (c Nm [g] [Nj []]) Nm (Nj [48]))]⟩
def QL:Fn:=⟨2,11,[A (N [Ov,OA,Py,P9]) Nc,A (N [QF,SU]) (t [Nj [],F 960 [Nb]]),I (c Nk [e] [Nj [115]]) [A UH (f (bl 1 [Nb,k (.val (.type "bytes"))]) Nb (Nj [])),A UH (f (c NR [w] [NC]) Tb (Z Tb NC NR NC))] [I (c Nk [e] [Nj [100]]) [A QF (f (c Pp [j] [NA]) (Nj [45]) (f (c Nm [h] [t [Nj [43],Nj [32]]]) Nm (Nj []))),A UH (F 927 [bl 2 [Pp]]),A UH (f (c NR [w] [NC]) Tb (b l (b X (Nj [48]) (b K NR (bl 0 [Tb]))) Tb))] [A WU (f (c Nk [e] [Nj [88]]) (Nj [48,49,50,51,52,53,54,55,56,57,65,66,67,68,69,70]) (Nj [48,49,50,51,52,53,54,55,56,57,97,98,99,100,101,102])),A UH (F 981 [b M Pp (Ng 4294967296),f (c Nk [e] [Nj [111]]) (Ng 8) (Ng 16),SQ]),I (o .And [c Nm [e] [Nj [35]],c Pp [g] [NA]]) [A QF (f (c Nk [e] [Nj [111]]) (Nj [48]) (b l (Nj [48]) Nk))] []]],A VA (b K (b K NO (bl 0 [OU])) (bl 0 [Tb])),I (c Nm [e] [Nj [48]]) [R (b l (b l OU (b X (Nj [48]) R5)) Tb)] [],R (f (c Nm [e] [Nj [45]]) (b l (b l OU Tb) (b X (Nj [32]) R5)) (b l (b l (b X (Nj [32]) R5) OU) Tb))]⟩
def QM:Fn:=⟨2,7,[A Ov (Nj []),fo (N [OA,Py,P9]) 0 [Nb] [I (c NO [e] [k (r [116,101,120,116])]) [A Ov (b l Nk NR)] [I (c NO [e] [k (r [119,114,105,116,101])]) [A Ov (b l Nk (F 988 [F 974 [s NR NA,Nc],s NR Nz]))] [I (c NO [e] [k (r [115,105,103,110])]) [A Ov (b l Nk (bl 9 [L [o .Or [b M (F 960 [F 974 [NR,Nc]]) (Ng 256),Ng 128]]]))] [I (c NO [e] [k (r [115,101,116])]) [A QF (f (c (s NR NA) [h] [t [Nj [65],Nj [90]]]) (s Nc (k (r [107,101,112,116]))) (s Nc (k (r [111,119,110])))),A (z OU (s NR NA)) (F 974 [s NR Nz,Nc])] [I (c NO [e] [k (r [109,111,114,101])]) [A (z Nc (k (r [112,97,114,97,109,115]))) (b l (C 1 (f (bl 1 [Pp,k (.val (.type "bytes"))]) Pp (b l Pp Nz)) [7] J 0 [Z (s Nc (k (r [112,97,114,97,109,115]))) NC (Ng 2) NC] []) (Z (s Nc (k (r [112,97,114,97,109,115]))) (Ng 2) NC NC))] [A Ov (b l Nk (F 1000 [NR,Nc]))]]]]]],R Nk]⟩
def Rq:Fn:=⟨2,4,[fo (N [Ov,OA]) 0 [s Nb NA] [I (c (F 960 [F 974 [Nk,Nc]]) [g] [NA]) [R (F 993 [Nm,Nc])] []],R (F 993 [s Nb Nz,Nc])]⟩
def U2:Fn:=⟨3,3,[R (F 993 [Nb,d [k (r [112,97,114,97,109,115]),k (r [111,119,110]),k (r [107,101,112,116])] [b l Nc (b X (L [NA]) (b K (Ng 9) (bl 0 [Nc]))),d [] [],Nk]])]⟩
def SE:Fn:=⟨1,7,[A (N [Ti,Ov]) (t [Nj [],NA]),wh (c Nk [j] [bl 0 [Nb]]) [A OA (f (c (Z Nb Nk (b l Nk (Ng 2)) NC) [e] [Nj [36,60]]) (m Nb 21 [Nj [62],Nk]) (u .USub Nz)),A Py (f (c Nm [P] [NA]) (m (Z Nb (b l Nk (Ng 2)) Nm NC) 10 [Nj [42,47]]) (Nj [])),A P9 (m NO 13 [Nj [46]]),A QF (o .Or [c (bl 0 [NR]) [e] [Nz],o .And [c (bl 0 [NR]) [e] [Ng 2],c (bl 0 [s NR Nz]) [e] [Nz]]]),I (o .And [c Nm [P] [NA],OU,c (C 1 Pp [7] J 0 [NR] [o .Or [c Pp [e] [Nj []],c (m Pp 15 [Nj [48,49,50,51,52,53,54,55,56,57]]) [g] [Nj []]]]) [e] [L []]]) [A Ov (b l Nm Nz)] [A (N [Ti,Ov]) (t [b l Nc (Z Nb Nk (b l Nk Nz) NC),b l Nk Nz])]],R Nc]⟩
def Si:Fn:=⟨5,7,[A P9 (bl 10 [C 1 Pp [7] J 0 [Nm] [c (s Pp NA) [g] [Nj [83,109,117,108,120]]]]),A QF (bl 10 [C 1 Pp [7] J 0 [Nm] [c (s Pp NA) [e] [Nj [83,109,117,108,120]]]]),R (F 471 [Nb,d [Nc] [k (ob J)],d [s Nk NA] [s Nk Nz],NR,OU,NO])]⟩
def U3:Fn:=⟨3,3,[I (c Nc [e] [Nz]) [R (t [s (F 576 [F 602 [Nb]]) NA,Nk])] [],I (c Nc [e] [Ng 2]) [R (t [F 888 [F 775 [Nb]],C 1 (bl 5 [Nm,Ng 32767]) [3] J 0 [Nk] []])] [],R (t [f (c Nc [e] [Ng 3]) (F 888 [F 775 [Nb,k (ob J)]]) Nb,Nk])]⟩
def RO:Fn:=⟨4,11,[A Py (F 441 [Nb]),fo P9 0 [k (vt [y [99,117,112],y [99,115,114],y [104,112,97],y [98,111,108,100],y [83,109,117,108,120]])] [A (N [QF,SU]) (t [NC,NC]),I (c NR [h] [Nc]) [A (N [UH,WU]) (s Nc NR),A (N [QF,SU]) (t [F 1012 [F 1007 [SQ,Nm,d [] []]],F 1012 [Tb]])] [],I (o .Or [c (m NO 14 [NR,Nm]) [g] [OU],c (m NO 14 [NR]) [g] [Pp],c (m NO 38 [NR,Nm]) [g] [c NR [h] [Nc]]]) [R (k (ob Am))] []],I (c (L [m NO 7 [Nj [99,111,108,115],Ng 77],m NO 7 [Nj [105,116],Ng 77],m NO 7 [Nj [108,105,110,101,115],Ng 77]]) [g] [b l Nk (L [Ng 77])]) [R (k (ob Am))] [],A VA (C 1 (m NO 37 [UQ]) [11] J 0 [t [Nj [97,109],Nj [98,119],Nj [120,111,110]]] []),R (o .And [c R5 [e] [L [k (ob J),k (ob J),k (ob Am)]],c (Nx 13) [e] [L [Nj [111,119,110],Nj [97,32,116,101,114,109,105,110,97,108,32,111,102,32,105,116,115,32,111,119,110]]]])]⟩
def PV:Fn:=⟨1,18,[A Ti (d [k (r [99,101,108,108,115]),k (r [116,117,114,110]),k (r [108,101,102,116])] [Z (C 1 (b M (bl 11 [Zh]) (b .Pow (Ng 10) (Ng 24))) [18] J 0 [Z Nb NC (Ng 60) NC] []) NC NC (u .USub Nz),NA,Ng 6]),A (N [Ov,OA]) (t [F 915 [Nc,Ng 5],L []]),fo Py 3 [Ng 5] [x (m Nm 0 [F 946 [Nc,Nz,Ng 2]])],A P9 (b l (Z (k (vt [y [99,117,112],y [99,115,114],y [104,112,97],y [98,111,108,100],y [83,109,117,108,120]])) Nk NC NC) (Z (k (vt [y [99,117,112],y [99,115,114],y [104,112,97],y [98,111,108,100],y [83,109,117,108,120]])) NC Nk NC)),A QF (C 1 (F 922 [Nc,k (vt [i 0,i 1,i (-1),i 8,i 255,i (-300),i 65536,i 2147483647,i (-2147483648),i 1000000000000,y [],y [97,98,99],y [120,37,121,44]])]) [18] J 3 [b l Nz (F 915 [Nc,Ng 9])] []),A SU (L [F 915 [Nc,Ng 100000],F 915 [Nc,Ng 9]]),A UH (L [t [s NR NA,s (s Nm NA) NA],t [s NR Nz,s (s Nm Nz) NA],t [s NR (Ng 2),NC]]),A WU (L [t [s NR Nz,s (s Nm (Ng 2)) NA],t [s NR (Ng 2),s (s Nm (Ng 3)) NA],t [s NR (Ng 3),s (s Nm (Ng 4)) NA]]),A VA (F 1017 [L [Nj [111,119,110],Nj [97,32,116,101,114,109,105,110,97,108,32,111,102,32,105,116,115,32,111,119,110]],Nj [97,109],t [Nj [99,111,108,115],s Pp NA],Tb,L [Nj [112,97,114,116]]]),A Xy (F 1017 [L [Nj [112,97,114,116],Nj [97,32,112,97,114,116]],Nj [98,119],t [Nj [105,116],s Pp Nz],SQ,L []]),A VB (F 635 [F 576 [b l (F 602 [R5]) (F 602 [UQ])],Nj [111,119,110]]),A OA (d [s NR NA,s NR Nz,s NR (Ng 3)] [s Nm NA,s Nm Nz,s Nm (Ng 4)]),fo Xz 0 [t [F 915 [Nc,Ng 4],b X (F 915 [Nc,Ng 3]) (Ng 2)]] [I (n (F 1027 [SR,Nm,Pp,OU])) [R (k (ob Am))] [],A (N [VB,SU]) (F 1022 [SR,f (c WS [e] [Ng 4]) (Ng 3) WS,Pp])],I (n (F 1027 [SR,Nm,Pp,OU])) [R (k (ob Am))] [],A (N [XA,XB]) (s Nm (s NR NA)),A (N [XC,Zi]) (t [d [] [],d [] []]),fo Py 3 [Ng 2] [I (c (F 364 [SS,OU,Ui]) [g] [F 1007 [WT,OU,Yn]]) [R (k (ob Am))] []],R (c (L [m Ui 4 [Ng 65,NA],m Ui 4 [Ng 90,NA]]) [e] [L [m Yn 4 [Nj [65],NA],m Yn 4 [Nj [90],NA]]])]⟩
end
def Pk:List (AG×Fn×LV):=[
 (76,UR,[]),
 (83,PN,[]),
 (90,US,[]),
 (97,R6,[]),
 (104,Tj,[]),
 (118,ON,[]),
 (125,Q5,[]),
 (132,Qy,[]),
 (139,R7,[]),
 (146,Nw,[]),
 (153,Oe,[]),
 (160,PO,[]),
 (167,Pg,[]),
 (174,Pz,[]),
 (181,PA,[]),
 (195,SV,[]),
 (202,O4,[]),
 (209,Tn,[]),
 (216,O5,[]),
 (230,OO,[]),
 (237,RK,[]),
 (244,R8,[]),
 (251,PR,[]),
 (258,PS,[]),
 (272,R9,[]),
 (279,UT,[]),
 (286,Sa,[]),
 (300,O6,[]),
 (307,Sb,[]),
 (314,QG,[]),
 (321,OZ,[]),
 (328,Sd,[]),
 (335,TR,[]),
 (342,RL,[]),
 (349,OH,[]),
 (364,WV,[.none]),
 (371,VC,[]),
 (378,UU,[]),
 (385,Se,[]),
 (399,SW,[]),
 (406,TS,[]),
 (415,VD,[(.tup [])]),
 (424,UW,[(.tup [])]),
 (431,TU,[]),
 (438,Uj,[]),
 (452,TV,[]),
 (468,SX,[(.tup [])]),
 (482,Uk,[]),
 (489,Ri,[]),
 (496,Rj,[]),
 (503,SY,[]),
 (508,Rk,[]),
 (515,Rv,[]),
 (522,Rl,[]),
 (529,Rm,[]),
 (536,Rn,[]),
 (543,Sz,[]),
 (550,RM,[]),
 (557,S2,[]),
 (564,Qc,[]),
 (569,UX,[]),
 (576,SD,[]),
 (583,Rx,[]),
 (588,QH,[]),
 (595,Q6,[]),
 (602,Ow,[]),
 (609,T6,[]),
 (616,PB,[]),
 (621,Qd,[]),
 (628,Ul,[]),
 (635,Ry,[]),
 (642,Qn,[]),
 (649,Qp,[]),
 (656,Sg,[]),
 (663,Qq,[]),
 (677,PC,[]),
 (684,PD,[]),
 (691,Qe,[]),
 (705,Sh,[]),
 (712,To,[]),
 (719,Tq,[]),
 (724,RN,[]),
 (729,Ro,[]),
 (743,O0,[]),
 (750,S3,[]),
 (757,S4,[]),
 (762,Ph,[]),
 (775,Rp,[(.bool Am)]),
 (789,PT,[]),
 (796,Q7,[]),
 (803,Qz,[]),
 (810,QI,[]),
 (817,QJ,[]),
 (824,OC,[]),
 (831,OP,[]),
 (845,S5,[]),
 (852,Um,[]),
 (859,QK,[]),
 (866,PU,[]),
 (871,Tr,[]),
 (878,Un,[]),
 (883,Pt,[]),
 (888,NK,[]),
 (915,UY,[]),
 (922,UZ,[]),
 (927,TX,[]),
 (934,Pu,[]),
 (941,N6,[]),
 (946,O9,[]),
 (953,VE,[]),
 (960,Uo,[]),
 (967,S6,[]),
 (974,Up,[]),
 (981,Pj,[]),
 (988,QL,[]),
 (993,QM,[]),
 (1000,Rq,[]),
 (1007,U2,[]),
 (1012,SE,[]),
 (1017,Si,[]),
 (1022,U3,[]),
 (1027,RO,[]),
 (1032,PV,[])]
def Ts:List (AG×Nat×AG):=[(184,2,125),(184,16,132),(184,3,139),(184,34,146),(184,30,153),(184,31,160),(184,32,167),(184,33,174),(184,29,181),(261,5,237),(261,6,244),(261,11,251),(261,19,258),(352,35,307),(352,18,314),(352,36,321),(352,25,328),(352,40,335),(352,28,342),(352,27,349),(441,26,406),(441,38,415),(441,14,424),(441,7,431),(441,37,438),(694,20,684),(694,12,691),(765,3,750),(765,24,757),(765,12,762),(834,8,796),(834,7,803),(834,22,810),(834,17,817),(834,23,824),(834,9,831)]
def Uq:List (AG×AG):=[(184,118),(261,230),(352,300),(441,399),(471,468),(694,677),(765,743),(834,789)]
def Tt:List (AG×Nat):=[(184,0),(184,1),(184,2),(184,3),(184,4),(261,5),(352,6),(352,7),(352,8),(352,9),(352,10),(441,11),(441,12),(471,13),(471,14),(471,15),(471,16),(471,17),(471,18),(694,19),(694,20),(765,17),(765,14),(765,15),(765,16),(834,0),(834,1)]
def VU(K:HW):List (AG×Fn×LV)->Prop
 | []=>True
 |t::r=>fnOf K t.1=U t.2/\VU K r
def Tu(K:HW):Bool:=Ts.all (λt=>Ug K t.1 t.2.1 t.2.2)&&(Uq.all (λt=>Uh K t.1 t.2)&&Tt.all λt=>attrOk K t.1 t.2&&setOk K t.1 t.2)
structure Facts (K:HW):Prop where
 fn:VU K Pk
 bo:Tu K=J
def aaQ(l:List (Str×AM))(x:Str):nsFind (l.map λp=>(⟨0,Cg p.1 default,p.2⟩:BY)).toArray x=l.lookup x:=by
 show((l.map λp=>(⟨0,Cg p.1 default,p.2⟩:BY)).toArray.find? λe=>e.key.isStr x).map (·.val)=_;rw[List.find?_toArray]
 induction l with
 |nil=>rfl
 |cons p l N=>
  rw[Cc,EB,D0]
  by_cases h:x=p.1
  rw[show(Cg p.1 default).isStr x=J from beq_iff_eq.mpr h.symm,beq_iff_eq.mpr h];rfl;rw[show(Cg p.1 default).isStr x=Am from beq_eq_false_iff_ne.mpr λe=>h e.symm,beq_eq_false_iff_ne.mpr h];exact N
abbrev dO(l:List (Str×AM)):Obj:={cls:=An "dict",data:=EY (l.map λp=>(⟨0,Cg p.1 default,p.2⟩:BY)).toArray 0}
abbrev h0:Heap:={objs:= #[dO (Manifest.builtinsNames.map λy=>(CM y.1,bootValue y.2 y.1)).reverse,dO [],dO [],dO []]}
def xc{h:Heap}{a:AG}(l:List (Str×AM))(e:h.get? a=U (dO l)):h.Ns a λx=>l.lookup x:=
 ⟨_,_,_,e,H,λe m=>by obtain⟨p,_,rfl⟩:=A0.mp (EV.mp m);exact⟨_,_,H⟩,aaQ l⟩
def ae9:Nonempty {B:Bx//B.Fx->Facts B.K}:=⟨{prog:=default,w:={draws:=λ_ _=>0,params:={strHash:=λ_=>0,shareClass:=λ_=>0,mergeTok:=id,idOf:=λ_=>0,idOfShared:=λ_ _=>0,followText:=λ_=>Am,idOfImm:=λ_=>0}},base:=h0,os:=default,gens:= #[],K:=[],mg:=_,mb:=_,jc:=λ_ _ e=>aa e,nsg:=xc [] H,nsb:=xc _ H,nolimit:=⟨_,xc [] H,H⟩,boot:=λ_ _=>H,Fx:=False},λZ=>Bw Z⟩
def Main(B:Bx):Prop:=∀xs:List Int,xs.length<=63->M8 B 17 1032 [.lst (xs.map .int)] (λZ=>Y) (λz Z=>z=.bool J)
def Bs:{B:Bx//B.Fx->Facts B.K}:= @Classical.epsilon _ ae9 λB=>¬Main B.1
def B:Bx:=Bs.1
theorem Wd.F(x:Wd B):Facts B.K:=Bs.2 x.ok.fx
def aaR(h:Main B)(N:Bx)(f:Facts N.K):Main N:=Classical.byContradiction λn=>Classical.epsilon_spec (p:=λB:{B:Bx//B.Fx->Facts B.K}=>¬Main B.1) ⟨⟨N,λZ=>f⟩,n⟩ h
@[reducible]nonrec def nats(b:List UInt8):M6:=b.map Br
def Nn{α:Type}[BEq α](c:α):List α->List α->List (List α)
 |cur,[]=>[cur]
 |cur,x::r=>if x==c then cur::Nn c [] r else Nn c (cur++[x]) r
def NY(c:Nat)(l:M6):Ni:=Nn c [] l
abbrev litS:S->M6
 |.asg _ (.lit (.str l))=>l
 |.asg _ (.bin _ _ (.lit (.str l)))=>l
 |_=>[]
def Yo(i k:Nat):M6:=((Rj.body.drop i).take k).flatMap litS
abbrev kS:M6:=Yo 3 1
abbrev ins(x:M6):Ni->Ni
 | []=>[x]
 |y::r=>cond (decide (y<x)) (y::ins x r) (x::y::r)
def NZ:Ni->Ni
 | []=>[]
 |x::r=>ins x (NZ r)
def Ur(v:AM):M6:=match v with
 |.bytes x _=>nats x.toList
 |_=>[]
def AllB(vs:LVal):Prop:=∀v∈vs,∃b t,v=AF b t
set_option backward.match.sparseCases true
abbrev nlt:List UInt8->List UInt8->Bool
 |_,[]=>Am
 | [],_::_=>J
 |x::a,y::b=>cond (Ey x.toNat y.toNat) J (cond (BU x.toNat y.toNat) (nlt a b) Am)
abbrev isLt:AM->Bool
 |.builtin id=>decide (id="bytes.__lt__")
 |_=>Am
def VF(f:AM)(l:LVal):Option Bool:=match isLt f,l with
 |true,[.bytes x _,.bytes y _]=>U (nlt x.toList y.toList)
 |_,_=>Y
def VV:Ll->Option AM->Option Bool
 |.call f ⟨l,[]⟩,Y=>VF f l
 |_,_=>Y
def TY{α:Type}(S:Lx):Sem α->Option α:=λm=>Sem.rec (motive:=λZ=>Option α) U (λZ=>Y) (λZ=>Y) (λZ=>Y)
 (λZ Z ih=>ih ()) (λZ Z Z=>Y) (λZ Z Z Z=>Y) (λZ Z Z Z Z=>Y) (λZ Z Z=>Y) (λZ Z Z=>Y) (λZ Z Z=>Y) (λZ Z Z=>Y) (λZ Z=>Y)
 (λZ ih=>ih S) (λZ Z Z Z=>Y) (λZ Z Z Z=>Y)
 (λc h Z Z Z ih=>Option.rec (motive:=λZ=>Option α) Y (λb=>ih (.ok (.ret (.bool b)))) (VV c h))
 (λZ Z Z=>Y) (λZ Z Z=>Y) (λZ Z Z=>Y) (λZ Z Z Z Z=>Y) (λZ Z Z Z Z=>Y) (λZ Z=>Y) (λZ Z Z=>Y) (λZ Z=>Y) (λZ Z Z Z Z Z=>Y) m
abbrev setB(S:Lx)(b:Bool):Lx:=⟨S.program,{S.params with followText:=λr=>cond (decide (r="special-get-raises")) b (S.params.followText r)}⟩
abbrev mkV:Ni->(Nat->Tok)->LVal
 | [],_=>[]
 |k::l,tok=>.bytes (k.map LH).toArray (tok 0)::mkV l λj=>tok (j+1)
def Yp:AM->Bool
 |.bytes _ _=>J
 |_=>Am
def WW(k:JO):Bool:=(sortPriv%PySem.Builtin.KeyKind.rec) (motive:=λZ=>Bool) Am J (λZ=>Am) k
abbrev chA(ks:Ni)(st:Ge):Bool:=(failedOf st).isNone&&((arrOf st).toList.all (λp=>Yp p.1&&Yp p.2)&&(decide ((arrOf st).toList.map (λp=>Ur p.1)=ks)&&decide ((arrOf st).toList.map (λp=>Ur p.2)=ks)))
abbrev chk(ks:Ni)(pd:List (Nat×Nat×Nat))(st:Ge):Bool:=(WW (PyProof.Rows.kindOf st)&&(decide (gallopOf st=7)&&decide ((pendingOf st).toList=pd)))&&chA ks st
abbrev stV(ks:Ni)(a b:Nat->Tok)(pd:List (Nat×Nat×Nat)):Ge:=Md oneType' ((mkV ks a).toArray.zip (mkV ks b).toArray) pd.toArray 7 Y
def Vp:Ni:=(NY 32 kS).map λw=>(NY 58 w).getLastD []
abbrev isY(n:Nat):ForInStep (Option Unit×Nat)->Bool
 |.yield (Y,k)=>BU k n
 |_=>Am
abbrev kw1:Ni:=NZ (Vp.take 56)++Vp.drop 56
abbrev kw2:Ni:=NZ (Vp.take 56)++NZ (Vp.drop 56)
abbrev fS:{p:(Ge->Nat->Option Unit×Nat->StateT Ge Sem (ForInStep (Option Unit×Nat)))×(Ge->Option Unit×Nat->StateT Ge Sem Unit)//sortRuns'=(get>>=λst=>forIn [:(arrOf st).size] (Y,0) (p.1 st)>>=p.2 st)}:=⟨(_,_),sortRuns'_eq⟩
abbrev Zt(a b:Nat->Tok):Ge:=stV Vp a b []
abbrev Zu(a b:Nat->Tok):Ge:=stV kw1 a b [(0,56,0)]
abbrev Zv(a b:Nat->Tok):Ge:=stV kw2 a b [(0,56,1),(56,55,0)]
section
variable(S:Lx)(a b c d:Nat->Tok)
abbrev kr1(k:Bool):Bool:=(TY (setB S k) ((fS.1.1 (Zt a b) 0 (Y,0)).run (Zt a b))).any λr=>isY 56 r.1&&chk kw1 [(0,56,0)] r.2
abbrev kr2(k:Bool):Bool:=(TY (setB S k) ((fS.1.1 (Zt a b) 1 (Y,56)).run (Zu c d))).any λr=>isY 111 r.1&&chk kw2 [(0,56,1),(56,55,0)] r.2
abbrev kr3(k:Bool):Bool:=(TY (setB S k) ((fS.1.2 (Zt a b) (Y,111)).run (Zv c d))).any λr=>chA (NZ Vp) r.2
set_option maxHeartbeats 0
def agf:kr1 S a b J=J:=by kernel_rfl
def agg:kr1 S a b Am=J:=by kernel_rfl
def agh:kr2 S a b c d J=J:=by kernel_rfl
def agi:kr2 S a b c d Am=J:=by kernel_rfl
def agj:kr3 S a b c d J=J:=by kernel_rfl
def agk:kr3 S a b c d Am=J:=by kernel_rfl
def afa:(arrOf (Zt a b)).size=111:=by kernel_rfl
end
set_option backward.match.sparseCases false
def Yq(ok:KI->Bool)(st:Hx->KI->Option (Hx×KI)):Nat->Hx->KI->Option Hx:= @Nat.rec (λZ=>Hx->KI->Option Hx) (λZ Z=>Y)
 (λZ ih s t=>match through t with
  |true=>U s
  |false=>match ok t with
   |false=>Y
   |true=>match st s t with
    |some r=>ih r.1 r.2
    |none=>Y)
def aaS{I:String->Option LA}{p:CZ}{w:Dy}{N:Nat}{R:Option AM}{n:Nat}{s s':Hx}{t:KI}(h:Yq (stepOk N R) (stepT (MP I) p w) n s t=U s'):
  topRun I p w N R n s.abs t=U s'.abs:=by
 induction n generalizing s t with
 |zero=>exact aa h
 |succ n Q=>
  dsimp only[topRun]
  change (match through t with|true=>_|false=>_)=_ at h
  cases X:through t with
  |true=>rw[X]at h;exact M7 (λx=>U (SharedT.abs x)) (Af h)
  |false=>
   rw[X]at h
   change (match stepOk N R t with|false=>_|true=>_)=_ at h
   cases C:stepOk N R t with
   |false=>rw[C]at h;exact aa h
   |true=>
    rw[C]at h
    change (match stepT (MP I) p w s t with|some r=>_|none=>_)=_ at h
    cases A:stepT (MP I) p w s t with
    |none=>rw[A]at h;exact aa h
    |some r=>rw[A]at h;rw[stepT_spec (s':=r.1) (t':=r.2) A];exact Q h
nonrec abbrev pw:CZ:=PySem.Challenge.pw_rh0237_01
def RP (p : CZ) : KI :=
  ⟨do let code ← PySem.W.Fast.tw17154629097778926822 p.main
      let frame ← PySem.W.Fast.tw12822647523644345616 code mainNs mainNs
      let _ ← run (.body (behindTheImports p) { scope := p.main.scope, locals := mainNs, globals := mainNs, cells := [], code, frame := U frame })
      ret .none,
   .builtin "claim.caller" {}, default, []⟩
def xd:topStub pw=RP pw:=by delta topStub RP;rw[PySem.W.Fast.te17154629097778926822,PySem.W.Fast.te12822647523644345616]
abbrev U4(w:Dy):Nat->Hx->KI->Option Hx:=
 Yq (PySem.W.Fast.tw6613529449190102663 11 (U (.ref 6))) (PySem.W.Fast.tw10156331382660048174 (PySem.W.Fast.tw11892475500146522536 PySem.W.Fast.tw14364793385576792824) pw w)
def aaT(w:Dy):U4 w=Yq (stepOk 11 (U (.ref 6))) (stepT (MP treeTable) pw w):=by delta U4;rw[PySem.W.Fast.te6613529449190102663,PySem.W.Fast.te10156331382660048174,PySem.W.Fast.te11892475500146522536,PySem.W.Fast.te14364793385576792824]
abbrev ofList:Nat->BT->List Obj->BT
 |_,t,[]=>t
 |n,t,o::l=>ofList (n+1) (t.ins n o) l
def Sq0(w:Dy)(os:OsState):Hx:=⟨ofList 0 .nil (D7 w.params).objs.toList,11,{},#[],boot_drawn,boot_toks,os⟩
def aaU(w:Dy)(os:OsState):(Sq0 w os).abs=⟨D7 w.params,#[],boot_drawn,boot_toks,os⟩:=by kernel_rfl
abbrev frs:Nat->List Obj->HW
 |_,[]=>[]
 |i,o::l=>match alive o with
  |some o'=>(i,o')::frs (i+1) l
  |none=>frs (i+1) l
def U5(h:Heap):HW:=frs 0 h.objs.toList
def xe{l:List Obj}{i a:Nat}{o:Obj}(h:(frs i l).lookup a=U o):∃j,a=i+j/\l[j]?.bind alive=U o:=by
 induction l generalizing i with
 |nil=>exact aa h
 |cons x l R=>
  have N:(frs (i+1) l).lookup a=U o->∃j,a=i+j/\(x::l)[j]?.bind alive=U o:=λq=>(R q).elim λj q=>⟨j+1,q.1.trans aS,q.2⟩;dsimp only[frs]at h
  cases e:alive x with
  |none=>rw[e]at h;exact N h
  |some y=>
   rw[e]at h
   change (match a==i with|true=>U y|false=>(frs (i+1) l).lookup a)=_ at h
   cases q:a==i with
   |true=>rw[q]at h;exact⟨0,N2 q,e.trans h⟩
   |false=>rw[q]at h;exact N h
def aaV(h:Heap):(U5 h).In h:=λa o q=>by
 obtain⟨j,rfl,N⟩:=xe q;obtain⟨x,e,R⟩:=DN.mp N;delta Heap.get?;rw[(by rw[A1,<-ED];exact e:h.objs[0+j]?=U x)];obtain⟨_,_,d,_⟩:=x
 cases d<;>exact R
def QN(l:List (AG×Fn×LV))(h:Heap):List (Option (Fn×LV)):=l.map λt=>fnOf (U5 h) t.1
def QO(l:List (AG×Fn×LV)):List (Option (Fn×LV)):=l.map λt=>U t.2
def pe{K:HW}:∀{l:List (AG×Fn×LV)},(l.map λt=>fnOf K t.1)=(l.map λt=>U t.2)->VU K l
 | [],_=>Oq
 |_::_,h=>⟨(BO h).1,pe (BO h).2⟩
def xf{h:Heap}(e:QN Pk h=QO Pk)(b:Tu (U5 h)=J):Facts (U5 h):=⟨pe e,b⟩
def mC{h:Heap}(n:Nat){l:List (AG×Fn×LV)}(a:QN (l.take n) h=QO (l.take n))(b:QN (l.drop n) h=QO (l.drop n)):QN l h=QO l:=by
 have e:QN (l.take n) h++QN (l.drop n) h=QO (l.take n)++QO (l.drop n):=by rw[a,b]
 delta QN QO at e⊢
 rwa [<-AS,<-AS,EH]at e
def Tv:CZ:={pw with main:={pw.main with body:=pw.main.body.drop 130}}
def QP:NI:=pw.boundNames.filter λn=>!(n==CM "law")
def Tw(w:Dy)(s:AZ):Bool:=staticsOk (H8 pw.main.body) (D7 w.params) s.heap&&namesBound pw s.heap&&gensDone s&&laidKept (D7 w.params) s.heap
def aaW{N:Nat}{Q:AZ->Bool}{C:Type}{X:AZ->C}{A:Dy->C}
  (o:opening pw=plainProg pw.main.scope.names) (hN:DA 600 N=J) (f:∀s,fenceModules? pw s=U s)
  (hb:∀w:Dy,((D7 w.params).isNs CU,(D7 w.params).objs.size,(D7 w.params).nsMap CU "__annotations__")=(J,11,U (.ref 6)))
  (h:∀w os,(U4 w N (Sq0 w os) (RP pw)).map (λs=>(Tw w s.abs,openSeen Tv QP (H8 pw.main.body) Q J s.abs,X s.abs))=U (J,openGood Tv QP,A w)):LeftO pw Tv QP Q X A N:=λw=>by
 obtain⟨⟨hp,y,d,k,os⟩,e,R⟩:=A4.mp (boot_open o hN f w);have e1:hp=D7 w.params:=M7 (λx=>x.1) R;have q:y= #[]:=M7 (λx=>x.2.1) R;have e3:d=boot_drawn:=M7 (λx=>x.2.2.1) R;have e4:k=boot_toks:=M7 (λx=>x.2.2.2) R;subst e1 q e3 e4;obtain⟨s,hr,I⟩:=A4.mp (h w os);have r:=aaS (congrFun (congrFun (congrFun (aaT w) N) (Sq0 w os)) (RP pw)▸hr);rw[aaU,<-xd]at r;have z:=hb w
 have t:topFrom treeTable pw w N ⟨D7 w.params,#[],boot_drawn,boot_toks,os⟩=U s.abs:=by delta topFrom;rw[(M7 (λx=>x.1) z:(D7 w.params).isNs CU=J),(M7 (λx=>x.2.1) z:(D7 w.params).objs.size=11),(M7 (λx=>x.2.2) z:(D7 w.params).nsMap CU "__annotations__"=U (.ref 6)),r];have e:Tw w s.abs=J:=M7 Az I;show(match Tw w s.abs with|true=>_|false=>_)=_;rw[e]
 delta openEnds;rw[e];show(topFrom treeTable pw w N _).map _=_;rw[t];exact M7 (λx=>U x.2) I
def pf{a b:Bool}(x:a=J)(y:b=J):(a&&b)=J:=by rw[x,y];rfl
def xg(N:Look)(n:Nat):∀l:List Stmt,noRoadLSs N (l.take n)=J->noRoadLSs N (l.drop n)=J->noRoadLSs N l=J:=by
 induction n with
 |zero=>exactλl Z h=>h
 |succ n R=>
  intro l h k
  cases l with
  |nil=>exact h
  |cons s r=>exact pf (Ah.mp h).1 (R r (Ah.mp h).2 k)
def mD(N:Look)(n:Nat)(l:List Stmt):Cw N (l.take n)=J->Cw N (l.drop n)=J->Cw N l=J:=by rw[<-PySem.W.Fast.te8326940854005059898];exact xg N n l
nonrec abbrev rw0:OpenLaw:=HK
abbrev lkQ:Look:=⟨!R.allR (Fast.tw5923862056798008813 pw.main.body) (Fast.tw3471404346716756564 Fast.tw17691160309236699985),Y,Am,Y,Am,Am,Am,Am,
 R.filterR (Fast.tw13343964577679436407 pw pw.main.body) [{cps:={toList:=[118,97,114,115]}},{cps:={toList:=[100,105,114]}},{cps:={toList:=[108,111,99,97,108,115]}}],Y⟩
abbrev lkL:Look:=⟨Am,Y,Am,Y,Am,Am,Am,Am,[],Y⟩
def afb:lkQ=lkL:=by kernel_rfl
def agl:Cw lkL (pw.main.body.take 50)=J:=by kernel_rfl
def agm:Cw lkL ((pw.main.body.drop 50).take 40)=J:=by kernel_rfl
def agn:Cw lkL ((pw.main.body.drop 50).drop 40)=J:=by kernel_rfl
def ago:Cw lkQ pw.main.body=J:=by rw[afb];exact mD lkL 50 _ agl (mD _ 40 _ agm agn)
def agp:Fast.tw17119622794617984870 pw pw.main.body (λZ n=>Fast.tw17868728402115742887 n)=J:=by kernel_rfl
def agq:Ih pw=J:=by
 delta Ih
 with_reducible refine pf (pf (pf ?_ ?_) ?_) agp
 rotate_right
 exact ago
 all_goals kernel_rfl
set_option maxHeartbeats 0 in
def ws:OpenLaw.wellSaid rw0=J:=by
 rw[PySem.W.Fast.te9446332074065402090];delta PySem.W.Fast.tw9446332074065402090 PySem.W.Fast.tw17960256430627541270 PySem.W.Fast.tw2436336058641802641
 repeat' (with_reducible refine pf ?_ ?_)
 exact agq
 all_goals kernel_rfl
def U6(s:AZ):Bool:=match s.heap.nsMap CU (CM "law")with
 |some (.ref a)=>BU a 1032
 |_=>Am
def agr:∀w os,(U4 w 7000 (Sq0 w os) (RP pw)).map (λs=>(Tw w s.abs,Fast.tw4187177175401517315 Tv QP (H8 pw.main.body) U6 J s.abs,Tu (U5 s.abs.heap)))=U (J,openGood Tv QP,J):=by intro w os;kernel_rfl
def ags:∀w os,(U4 w 7000 (Sq0 w os) (RP pw)).map (λs=>QN (Pk.take 50) s.abs.heap)=U (QO (Pk.take 50)):=by intro w os;kernel_rfl
def agt:∀w os,(U4 w 7000 (Sq0 w os) (RP pw)).map (λs=>QN ((Pk.drop 50).take 48) s.abs.heap)=U (QO ((Pk.drop 50).take 48)):=by intro w os;kernel_rfl
def agu:∀w os,(U4 w 7000 (Sq0 w os) (RP pw)).map (λs=>QN ((Pk.drop 50).drop 48) s.abs.heap)=U (QO ((Pk.drop 50).drop 48)):=by intro w os;kernel_rfl
structure pg (env:Env):Prop where
 kind:env.scope.kind=B8
 glob:env.globals=CU
 blt:env.builtins=JD
 cells:∀y c,env.cells.lookup y=U c->c≠env.locals
 inj:∀y z c,env.cells.lookup y=U c->env.cells.lookup z=U c->y=z
 has:∀y,env.kindOf y=U BA\/env.kindOf y=U Ba->∃c,env.cells.lookup y=U c
abbrev ownOf(env:Env)(a:AG):=a=env.locals\/∃y,env.cells.lookup y=U a
def NQ(x:St)(a:AG):=x.σ a=Y/\¬x.φ a
inductive Var (env:Env) (h:Heap) (y:Str) (v:AM):Prop
 |loc (m:Str->Option AM):env.kindOf y=U NameKind.local->h.Ns env.locals m->m y=U v->Var env h y v
 |cell (c:AG):env.kindOf y=U BA->env.cells.lookup y=U c->h.IsCell c (U v)->Var env h y v
 |free (c:AG):env.kindOf y=U Ba->env.cells.lookup y=U c->h.IsCell c (U v)->Var env h y v
open Var renaming cell->HY
structure Loc (x:Wd B) (env:Env) (Γ:NI) (ρ:NF):Prop where
 eo:pg env
 ns:∃m,x.sh.heap.Ns env.locals m
 bj:∀a,ownOf env a->NQ x.toSt a
 cells:∀y c,env.cells.lookup y=U c->∃v,x.sh.heap.IsCell c v
 len:ρ.length=Γ.length
 nd:∀(i j:Nat) y,Γ[i]?=U y->Γ[j]?=U y->env.kindOf y≠Y->i=j
 vars:∀(i:Nat) y z,Γ[i]?=U y->ρ[i]?=U (U z)->env.kindOf y≠Y->∃v,Var env x.sh.heap y v/\Rd x v z
section
variable{n:Nat}{α:Type}{x y:Wd B}{env:Env}{Γ:NI}{ρ:NF}{Q:KE}
def Loc.has(L:Loc x env Γ ρ)(a:AG)(h:ownOf env a):∃o,x.get? a=U o:=
 h.elim (λe=>L.ns.elim λZ q=>e▸q.imp λo q=>q.elim λZ q=>q.elim λZ q=>q.1) λh=>h.elim λZ e=>(L.cells _ _ e).elim λZ q=>q.imp λo q=>q.1
def LE.bj(l:LN x y)(h:NQ x.toSt a)(e:x.get? a=U o):y.get? a=U o/\NQ y.toSt a:=
 (l.1 a o (λq=>q) e h.1).imp_right λr=>⟨r.1,λq=>h.2 (r.2.mp q)⟩
def Loc.ns'(L:Loc x env Γ ρ)(l:LN x y){m:Str->Option AM}(h:x.sh.heap.Ns env.locals m):y.sh.heap.Ns env.locals m:=
 h.elim λo h=>h.elim λN h=>h.elim λR h=>⟨o,N,R,(l.bj (L.bj _ (Aw H)) h.1).1,h.2⟩
def Loc.xh(L:Loc x env Γ ρ)(l:LN x y)(N:env.cells.lookup z=U c)(h:x.sh.heap.IsCell c v):y.sh.heap.IsCell c v:=
 h.elim λo h=>⟨o,(l.bj (L.bj _ (AN ⟨z,N⟩)) h.1).1,h.2⟩
def Loc.le(L:Loc x env Γ ρ)(l:LN x y):Loc y env Γ ρ where
 eo:=L.eo
 ns:=L.ns.imp λZ h=>L.ns' l h
 bj:=λa h=>(L.has a h).elim λZ e=>(l.bj (L.bj a h) e).2
 cells:=λz c h=>(L.cells z c h).imp λZ q=>L.xh l h q
 len:=L.len
 nd:=L.nd
 vars:=λi z v N R I=>(L.vars i z v N R I).imp λu h=>⟨Var.casesOn h.1 (λm a b c=>.loc m a (L.ns' l b) c) (λc a b d=>HY c a b (L.xh l b d)) (λc a b d=>.free c a b (L.xh l b d)),h.2.le l⟩
def Wp.afc(L:Loc x env Γ ρ)(h:Wp n noOwn t P x):Wp n (ownOf env) t P x:=Wp.lift L.has h
def gx(h:slot Γ z=U i):Γ[i]?=U z:=by have N:=Ck.mp h;rw[AY N.1];exact M7 U<|N2 N.2.1
def mc(E:pg env)(h:env.kindOf z=U Ei):IJ env z=loadGlobal env z:=by
 delta IJ;dsimp only[Env.blockKind];rw[E.kind,h]
 rfl
set_option tactic.hygienic true in
def tO(h:WJ v=U z):Rd x v z:=by
 cases v<;>first| (cases h;done)|skip
 exact Af h▸aq.none;exact Af h▸aq.bool _;exact Af h▸aq.int _ _
 ·rename_i u t
  change (if _ then _ else _)=_ at h
  by_cases q:u.cps.size<=Nh
  rw[Nt q]at h;exact Af h▸aq.str _ _ _ H q;rw[Np q]at h;cases h
 rename_i u t
 change (if _ then _ else _)=_ at h
 by_cases q:u.size<=Nh
 rw[Nt q]at h;exact Af h▸aq.bytes _ _ _ H (by rw[Ak];exact q);rw[Np q]at h;cases h
def ph(hf:∀v z,f v=U z->Rd x v z)(vs:LVal):∀l,vs.mapM f=U l->Nq x vs l:=by
 induction vs with
 |nil=>exactλl e=>(Af e:[]=l)▸Nq.nil
 |cons v vs A=>intro l e;rw[GJ]at e;obtain⟨z,N,e⟩:=DN.mp e;obtain⟨I,R,e⟩:=DN.mp e;exact Af e▸Nq.cons (hf v z N) (A I R)
def kg[Decidable p]{vs:LVal}(h:(if p then U Y else Y)=U (U vs)):False:=by
 by_cases q:p
 rw[Nt q]at h;exact aa (Af h);rw[Np q]at h;exact aa h
set_option tactic.hygienic true in
def pj(h:Wb o=U (U vs)):o=Sv vs 0/\vs.length<=Nh:=by
 obtain⟨c,d,t,m⟩:=o
 cases c<;>first|exact aa h|skip
 cases d<;>first|exact(kg h).elim|skip
 cases t<;>first|exact(kg h).elim|skip
 rename_i c N n
 cases n<;>first|exact(kg h).elim|skip
 obtain⟨m⟩:=m
 cases m<;>first|exact(kg h).elim|skip
 change (if _ then _ else _)=_ at h
 by_cases q:(c=="tuple"&&decide (N.size<=Nh))=J
 rw[Nt q]at h;obtain⟨R,I⟩:=Ah.mp q;obtain rfl:=Af (Af h);obtain⟨N⟩:=N;exact⟨by rw[N2 R],Od I⟩;rw[Np q]at h;exact aa h
def xi(k:Nat):∀v z,toV B.K k v=U z->Rd x v z:=by
 induction k with
 |zero=>exactλv z h=>tO h
 |succ k X=>
  intro v z h
  cases v with
  |ref a=>
   obtain⟨o,q,h⟩:=DN.mp h;revert h
   cases e:Wb o with
   |none=>exactλh=>aa h
   |some r=>
    cases r with
    |none=>exactλh=>Af h▸.val _
    |some I=>intro h;obtain⟨l,A,rfl⟩:=A4.mp h;obtain⟨rfl,C⟩:=pj e;have R:=x.ok.base a _ (B.jc a _ q);have N:=ph X I l A;exact aq.tup a I 0 l R.2 R.1 (N.length▸C) N
  |_=>exact tO h
def adi(x:Wd B)(b:AG)(o:Obj)(e:B.base.get? b=U o):x.sh.heap.get? b=U o:=(x.ok.base b o e).2
def Wv.pk(E:pg env)(hk:env.kindOf z=U Ei)(h:WK B.K z=U v)(q:Q v x.σ):Wv n (IJ env z) Q x:=by
 rw[mc E hk]
 have hg:x.sh.heap.Ns env.globals B.mg:=E.glob▸B.nsg.keeps (adi x)
 have fin:∀u,Rd x u v->aP noOwn x (dS Q) u x.sh:=λu r=>.mk x H (LE.refl _) (.mk v r q)
 delta WK at h
 revert h
 cases e:nsIn B.K CU z with
 |none=>exact nofun
 |some r=>
  cases r with
  |some u=>exactλh A Z=>up (Calls.loadGlobal_global hg (mg_of B.jc B.nsg e) (fin u (xi _ _ _ h)))
  |none=>
   intro h A _
   change (if _ then _ else _)=_ at h
   cases hn:z==("__name__":Str)with
   |true=>rw[hn]at h;cases h
   |false=>
    rw[hn]at h
    obtain⟨u,hv,hb⟩:=DN.mp h
    refine up (Calls.loadGlobal_builtin hg (mg_none_of B.jc B.nsg e) (E.blt▸B.nsb.keeps (adi x)) ((B.boot z (ne_of_beq_false hn)).trans hv) (fin u ?_))
    cases u<;>first| (cases hb;done)|exact Af hb▸.val _
def Wv.aaX{i:Nat}(L:Loc x env Γ ρ)(R:Γ[i]?=U z)(h2:ρ[i]?=U (U v))(hk:env.kindOf z≠Y)(I:(z==("__classdict__":Str))=Am\/env.kindOf z≠U Ba)(q:Q v x.σ):Wv n (IJ env z) Q x:=by
 obtain⟨u,C,X⟩:=L.vars i z v R h2 hk;have N:aP noOwn x (dS Q) u x.sh:=.mk x H (LE.refl _) (.mk v X q);intro A _
 cases C with
 |loc m a b c=>exact up<|PySem.wpAny_loadName_local L.eo.kind a b c N
 |cell c a b d=>exact up (PySem.wpAny_loadName_cell L.eo.kind a b d N)
 |free c a b d=>exact up (PySem.wpAny_loadName_free L.eo.kind a b d N (I.elim id λq=>M9 a q))
variable{β:Type}{own:AG->Prop}{R:β->Wd B->Prop}{t:Sem α}{f:α->Sem β}{v:α}
def Wp.b6(h:∀A P,P v x.sh->wpAny B.M A t P PI x.sh)(k:Wp n own (f v) R x):Wp n own (t>>=f) R x:=λA N=>agY (h A _ (k A N))
def Wp.load{f:Obj->Sem β}(e:x.get? a=U o)(k:Wp n own (f o) R x):Wp n own (load a>>=f) R x:=Wp.b6 (λZ Z q=>Tp.up<|CY e q) k
def Wp.loadPart{f:Obj->Sem β}(e:x.get? a=U o)(k:Wp n own (f o) R x):Wp n own (loadPart a p>>=f) R x:=Wp.b6 (λZ Z q=>Tp.up<|HH e q) k
def Wp.mE(k:Wp n own (f v) R x):Wp n own (AJ v>>=f) R x:=k
def Wp.eqB(e:t=AJ v)(k:Wp n own (f v) R x):Wp n own (t>>=f) R x:=e▸k
abbrev Wd.toks(x:Wd B)(k:Nat):Wd B:={sh:={x.sh with toks:=k},φ:=x.φ,σ:=x.σ,ok:=⟨x.ok.base,λa o e=>by
 have:=x.ok.objs a o e;have st:Ou x.toSt ⟨{x.sh with toks:=k},x.φ,x.σ⟩:=λa o e s=>⟨e,s⟩
 cases o with
 |list=>exact this.imp λZ h=>h.imp λZ h=>⟨h.1,h.2.1,h.2.2.az st⟩
 |dict=>exact this.imp λZ h=>h.imp λZ h=>⟨h.1,h.2.1,h.2.2.1.az st,h.2.2.2⟩
 |rF=>exact this
 |inst=>exact this.imp λZ h=>h.imp λZ h=>h.imp λZ h=>⟨h.1,h.2.1,h.2.2.1,h.2.2.2.1.az st,h.2.2.2.2⟩
 |u6=>exact this,x.ok.QA,x.ok.os,x.ok.gens,x.ok.fx⟩}
def Wd.bL(k:Nat):LE own x.toSt (x.toks k).toSt:=⟨λZ Z Z e n=>⟨e,n,GF⟩,λZ Z h k=>⟨h,k⟩⟩
def Rd.toks{v:AM}{z:V}(h:Rd x v z):Rd (x.toks k) v z:=h.le (Wd.bL k)
def Wv.mkInt(q:Q (Ar i) x.σ):Wv n (mkInt i) Q x:=λZ Z=>up<|GU (.mk (x.toks _) H (Wd.bL _) (.mk _ (aq.int _ _) q))
def Wv.mkText(N:u.cps.size<=Nh)(q:Q (B9 u.cps.toList) x.σ):Wv n (mkText u) Q x:=λZ Z=>up<|Mi (.mk (x.toks _) H (Wd.bL _) (.mk _ (aq.str _ _ _ H N) q))
def Wv.mkTextBytes(e:u.toList.map Br=b)(N:b.length<=Nh)(q:Q (W b) x.σ):Wv n (mkTextBytes u) Q x:=
 λZ Z=>agY (up<|PySem.wpAny_fresh (agZ (.mk (x.toks _) H (Wd.bL _) (.mk _ (aq.bytes _ _ _ e N) q))))
def fP{f:AM}(h:∀a,f≠Ai a):Rh B f:=λn s=>by cases f<;>first|exact Wp.pure rfl|exact M9 rfl (h _)
def mG(h:B.base.get? a=U o)(A:o.cls=An c)(N:c="function"\/c="type"):Rh B (Ai a):=λn s=>by
 refine Wp.load (s.ok.base a o h).2 ?_;obtain⟨_,d,I,X⟩:=o
 cases A
 cases I<;>first|exact Wp.pure rfl|skip
 ·refine Wp.bind (P:=λZ y=>y=s) (Wp.loadPart (f:=λo=>D9 o.cls "__call__") (s.ok.base a _ h).2 ?_) λZ y Z e=>e▸Wp.pure H;rcases N with rfl|rfl
  ·exact Wp.of_eq (show D9 (An "function") "__call__"=pure (U (AK "function.__call__")) by rw[BJ,Bb];kernel_rfl)<|Wp.pure H
  ·exact Wp.of_eq PySem.F.lookup_type_call<|Wp.pure H
 rcases N with rfl|rfl<;>exact Wp.pure rfl
def ahF(h:args.all (λx=>!x.1)=J)(I:Wp n noOwn (Hw args) P x):
  Wp n noOwn (evalArgs fv J args []) (λa y=>P a.pos y/\a.kw=[]) x:=by
 cases args with
 |nil=>exact Wp.bind (f:=λN=>E7 (N++[]) (AJ (⟨N,[]⟩:Args):Sem Args)) I λN y Z q=>Wp.holding (Wp.pure ⟨q,H⟩)
 |cons a r=>
  obtain⟨b,t⟩:=a
  cases b
  cases r<;>exact Wp.bind (f:=λN=>E7 (N++[]) (AJ (⟨N,[]⟩:Args):Sem Args)) I λN y Z q=>Wp.holding (Wp.pure ⟨q,H⟩)
  cases h
def u9{args:List (Bool×Sem AM)}(h:args.all (λx=>!x.1)=J):args.any (·.1)=Am:=by exact G6.mpr λz N e=>A9<|aO (M7 not e)<|A3.mp h z N
def Wp.callWith{P:LVal->Wd B->Prop}
  (C:Rh B fv) (hp:args.all (λx=>!x.1)=J) (h:Wp n noOwn (Hw args) P x)
  (X:∀vs y,LN x y->P vs y->Wp n noOwn (call fv (first++vs) []) Pq y):Wp n noOwn (callWith pos fv first args []) Pq x:=by
 refine Wp.bind (Wp.holding (ahF hp h)) λa y l q=>Wp.ba<|Wp.bind (C n y) λkp z Z e=>?_
 subst e;obtain⟨vs,kw⟩:=a
 cases q.2
 have N:=X vs _ l q.1;rw[(by rw[u9 hp];rfl:(args.any (·.1)|| ([]:List (Option Str×Sem AM)).any (·.1.isNone))=Am)]
 have I:∀{t},Wp n noOwn t Pq z->Wp n noOwn (t>>=λr=>E7 [r] PySem.point>>=λZ=>AJ r) Pq z:=
  λA=>Wp.bind A λr y Z q=>Wp.skip (λZ Z q=>ag2 (Tp.up<|EE q)) (Wp.pure q)
 cases kp<;>dsimp only
 ·split
  ·exact I N
  ·exact I<|Wp.keep N
 ·split
  ·exact I N
  ·exact I<|Wp.keep N
 exact I N;exact I<|Wp.operate N
def ag0{N I:Type}{o:Option N}{f:N->Option I}{b:I}(h:o.bind f=U b):∃a,o=U a/\f a=U b:=DN.mp h
def ag5{N I:Type}{f:N->Option I}{m:List I}(h:([]:List N).mapM f=U m):m=[]:=(Af h).symm
def ag4{N I:Type}{f:N->Option I}{a:N}{l:List N}{m:List I}(h:(a::l).mapM f=U m):∃z zs,f a=U z/\l.mapM f=U zs/\m=z::zs:=by rw[GJ]at h;obtain⟨z,X,h⟩:=ag0 h;obtain⟨zs,A,h⟩:=ag0 h;exact⟨z,zs,X,A,(Af h).symm⟩
def kF{N I:Type}{f:N->Option I}:∀{l:List N} {m:List I},l.mapM f=U m->∀e∈l,∃z,f e=U z:=λ{l}=>by
 induction l with
 |nil=>exactλZ e h=>M9 h Ay
 |cons a l X=>
  intro m h e he;obtain⟨z,q,A,C,_⟩:=ag4 h;rcases AQ.mp he with he|he
  exact⟨z,he▸A⟩;exact X C e he
abbrev Gl:=WK B.K
end
inductive LQ (k:Nat) (Q:LV->M5->Prop) (vs:LVal) (y:Wd B):Prop
 |mk (zs:LV):zs.length=k->Nq y vs zs->Q zs y.σ->LQ k Q vs y
inductive DQ (Q:NW->M5->Prop) (ps:List (AM×AM)) (y:Wd B):Prop
 |mk (zs:NW):ps.length=zs.length->Nq y (ps.map (·.1)) (zs.map (·.1))->Nq y (ps.map (·.2)) (zs.map (·.2))->Q zs y.σ->DQ Q ps y
inductive TQ (Q:KE) (b:Bool) (y:Wd B):Prop
 |mk (z:V):Oz z=U b->Q z y.σ->TQ Q b y
structure aV:Prop where
 bin:∀{m op x y σ Q},Xr B (m+2) op x y σ Q->R3 B (m+2) op x y σ Q
 un:∀{m op x σ Q},UnS op x σ Q->UnW B (m+2) op x σ Q
 cmp:∀{m op x y σ Q},Xu B (m+2) op x y σ Q->OT B (m+2) op x y σ Q
 sub:∀{m x y σ Q},V9 B (m+2) x y σ Q->Rg B (m+2) x y σ Q
 blt:∀{m k l σ Q},Xv B (m+2) k l σ Q->Nr B (m+2) k l σ Q
 V8:∀{x:Wd B} {v z b A} {P:Bool->AZ->Prop},Rd x v z->Oz z=U b->P b x.sh->wpAny B.M A (JB v) P PI x.sh
abbrev WX(kt:Nat)(env:Env)(Γ:NI)(e:AO)(e':E):=PJ (Gl) kt env.scope Γ e=U e'
abbrev U7(kt:Nat)(env:Env)(Γ:NI)(l:List AO)(l':List E):=l.mapM (PJ (Gl) kt env.scope Γ)=U l'
def Qr(pos:Pos)(env:Env)(l:List AO):List (Bool×Sem AM):=LJ pos (l.map λe=>(Am,eval e env))
def Us(pos:Pos)(env:Env)(ks:List (Option AO))(vs:List AO):List (Sem AM×Sem AM):=
 ((ks.filterMap id).map λe=>eval e env).zip (vs.map λe=>(do let x<-eval e env;GV pos;pure x))
structure jd (n kv:Nat):Prop where
 e:∀{kt env Γ ρ e e' Q} {x:Wd B},WX kt env Γ e e'->Loc x env Γ ρ->O7 B n kv e' ρ x.σ Q->Wv (lv n) (eval e env) Q x
 es:∀{kt env Γ ρ l l' Q} {x:Wd B} {pos:Pos},U7 kt env Γ l l'->Loc x env Γ ρ->Rt B n kv l' ρ x.σ Q->Wp (lv n) noOwn (Hw (Qr pos env l)) (LQ l.length Q) x
 d:∀{kt env Γ ρ vs ks' vs' Q} {ks:List (Option AO)} {x:Wd B} {pos:Pos},ks.mapM (WQ (PJ (Gl) kt env.scope Γ))=U ks'->U7 kt env Γ vs vs'->Loc x env Γ ρ->vcD B n kv ks' vs' ρ x.σ Q->
  Wp (lv n) noOwn (IY (Us pos env ks vs)) (DQ Q) x
 bop:∀{kt env Γ ρ op l l' Q} {x:Wd B} {pos:Pos},U7 kt env Γ l l'->Loc x env Γ ρ->T5 B n kv op l' ρ x.σ Q->Wv (lv n) (boolOp pos op (IK l env)) Q x
 cmp:∀{kt env Γ ρ ops l l' Q v z} {x:Wd B} {pos:Pos},U7 kt env Γ l l'->Loc x env Γ ρ->Rd x v z->Sy B n kv z ops l' ρ x.σ Q->Wp (lv n) noOwn (compareChain pos v ops (IK l env)) (BQ B Q) x
 YA:∀{kt env Γ ρ ops l l' Q v z} {x:Wd B} {pos:Pos},U7 kt env Γ l l'->Loc x env Γ ρ->Rd x v z->Sy B n kv z ops l' ρ x.σ Q->Wp (lv n) noOwn (testChain pos v ops (IK l env)) (λb y=>Q b y.σ) x
 t:∀{kt env Γ ρ e e' Q} {x:Wd B},WX kt env Γ e e'->Loc x env Γ ρ->(∀z σ,Q z σ->∃b,Oz z=U b)->O7 B n kv e' ρ x.σ Q->Wp (lv n) noOwn (Lj e env (eval e env)) (TQ Q) x
 at_:∀{kt env Γ ρ op l l' Q} {x:Wd B},U7 kt env Γ l l'->Loc x env Γ ρ->(∀z σ,Q z σ->∃b,Oz z=U b)->T5 B n kv op l' ρ x.σ Q->Wp (lv n) noOwn (allTrue op l env) (TQ Q) x
section
variable{n kv kt:Nat}{x:Wd B}{env:Env}{Γ:NI}{ρ:NF}
def a8{Q:Bool->M5->Prop}(h:V8 z σ Q):∃b,Oz z=U b/\Q b σ:=by
 delta V8 at h
 cases e:Oz z with
 |none=>rw[e]at h;exact h.elim
 |some b=>rw[e]at h;exact⟨b,H,h⟩
def rI(h:Oz z=U b):Oz (tst b z)=U b:=by cases z<;>first|exact h|exact rfl
def xj(h:Oz z=U b)(r:Rd x v z):Rd x v (tst b z):=by cases z<;>first|exact r|exact Af h▸r
def aV.trB(N:aV){I:Type}{f:Bool->Sem I}{R:I->Wd B->Prop}(h:Rd x v z)(e:Oz z=U b)(k:Wp m noOwn (f b) R x):Wp m noOwn (holding vs (JB v)>>=f) R x:=
 Wp.b6 (λZ Z q=>ag2 (N.V8 h e q)) k
def adL(R:jd n kv){l:List AO}{Q:LV->M5->Prop}(h:U7 kt env Γ l l')(L:Loc x env Γ ρ)(N:Rt B n (kv+1) l' ρ x.σ Q):
  Wp (lv n) noOwn (Hw (Qr pos env l)) (LQ l.length Q) x:=by
 cases l with
 |nil=>cases ag5 h;exact Wp.pure (.mk [] H Nq.nil N)
 |cons e r=>
  obtain⟨z,I,C,h2,rfl⟩:=ag4 h
  exact Wp.bz (fv:=λv=>holding [v] (Hw (Qr pos env r))>>=λr=>AJ ([v]++r)) (R.e C L N) λv y A l hz q=>Wp.bind (Wp.holding (R.es h2 (L.le l) q)) λvs y2 l2 q=>LQ.casesOn q λI hl X q=>Wp.pure (.mk (A::I) (M7 (· +1) hl) (Nq.cons (hz.le l2) X) q)
def afd(C:jd n kv){ks:List (Option AO)}{R N:List E}{Q:NW->M5->Prop}(h:ks.mapM (WQ (PJ (Gl) kt env.scope Γ))=U R)(g:U7 kt env Γ vs N)(L:Loc x env Γ ρ)(I:vcD B n (kv+1) R N ρ x.σ Q):
  Wp (lv n) noOwn (IY (Us pos env ks vs)) (DQ Q) x:=by
 cases ks with
 |nil=>
  cases ag5 h
  cases vs with
  |nil=>cases ag5 g;exact Wp.pure (.mk [] H Nq.nil Nq.nil I)
  |cons v vs=>obtain⟨_,_,_,_,rfl⟩:=ag4 g;exact I.elim
 |cons k ks=>
  obtain⟨z,zs,h1,h2,rfl⟩:=ag4 h
  cases vs with
  |nil=>cases ag5 g;exact I.elim
  |cons v vs=>
   obtain⟨u,us,g1,g2,rfl⟩:=ag4 g
   cases k with
   |none=>cases h1
   |some k=>
    exact Wp.bz
     (C.e h1 L I) λa y za l ha q=>Wp.bz (Wp.holding (Wp.bz (C.e g1 (L.le l) q) λb y2 zb X A q=>Wp.ba (Wv.pure A q))) λb y2 zb X A q=>Wp.bind (Wp.holding (C.d h2 g2 (L.le (l.trans X)) q)) λps y3 l3 q=>DQ.casesOn q λzs hl s1 s2 q=>Wp.pure (.mk ((za,zb)::zs) (M7 (· +1) hl) (Nq.cons (ha.le (X.trans l3)) s1) (Nq.cons (A.le l3) s2) q)
def aaY(N:aV)(I:jd n kv){Q:KE}(h:U7 kt env Γ l l')(L:Loc x env Γ ρ)(R:T5 B n (kv+1) op l' ρ x.σ Q):
  Wv (lv n) (boolOp pos op (IK l env)) Q x:=by
 cases l with
 |nil=>cases ag5 h;exact R.elim
 |cons e r=>
  obtain⟨z,zs,X,A,rfl⟩:=ag4 h
  cases r with
  |nil=>cases ag5 A;exact I.e X L R
  |cons f r=>
   obtain⟨u,us,g1,g2,rfl⟩:=ag4 A;refine Wp.bz (I.e X L R) λv y z l C q=>Wp.ba ?_;obtain⟨b,e,q⟩:=a8 q;refine N.trB C e ?_;have go:=λq=>I.bop (op:=op) (Q:=Q) (pos:=pos) A (L.le l) q;have st:=λq:Q (tst b z) y.σ=>Wv.pure (n:=lv n) (xj e C) q
   cases op<;>cases b
   exact st q;exact go q;exact go q;exact st q
def adM(I:jd n kv){Q:KE}(h:U7 kt env Γ l l')(L:Loc x env Γ ρ)(hQ:∀z σ,Q z σ->∃b,Oz z=U b)(R:T5 B n (kv+1) op l' ρ x.σ Q):
  Wp (lv n) noOwn (allTrue op l env) (TQ Q) x:=by
 cases l with
 |nil=>cases ag5 h;exact R.elim
 |cons e r=>
  obtain⟨z,zs,X,A,rfl⟩:=ag4 h
  cases r with
  |nil=>
   cases ag5 A
   refine Wp.bind (I.t X L hQ R) λb y l q=>?_;have N:Wp (lv n) noOwn (AJ b) (TQ Q) y:=Wp.pure q
   cases op<;>cases b<;>exact N
  |cons f r=>
   obtain⟨u,us,g1,g2,rfl⟩:=ag4 A;refine Wp.bind (I.t X L (λz σ q=>(a8 q).imp λZ h=>h.1) R) λb y l q=>?_;obtain⟨z,e,q⟩:=q;obtain⟨b',e',q⟩:=a8 q;obtain rfl:=Af (aO e e');have go:=λq=>I.at_ (op:=op) (Q:=Q) A (L.le l) hQ q;have C:=λq:Q (tst b z) y.σ=>Wp.pure (n:=lv n) (own:=noOwn) (P:=TQ Q) (x:=y) (.mk _ (rI e) q)
   cases op<;>cases b
   exact C q;exact go q;exact go q;exact C q
def tP(N:aV)(ih:jd n kv){Q:Bool->M5->Prop}(h:U7 kt env Γ l l')(L:Loc x env Γ ρ)(hz:Rd x v z)(hv:Sy B n (kv+1) z ops l' ρ x.σ Q):
  Wp (lv n) noOwn (compareChain pos v ops (IK l env)) (BQ B Q) x/\Wp (lv n) noOwn (testChain pos v ops (IK l env)) (λb y=>Q b y.σ) x:=by
 cases l with
 |nil=>cases ag5 h;exact hv.elim
 |cons e r=>
  obtain⟨u,us,h1,h2,rfl⟩:=ag4 h
  cases ops with
  |nil=>exact hv.elim
  |cons op ops=>
   have A:∀{α} {f:AM->Sem α} {R:α->Wd B->Prop},(∀I y C,LN x y->Rd y I C->OT B (lv n) op z C y.σ (VS (Sy B n kv) C ops us ρ Q)->Wp (lv n) noOwn (f I) R y)->
     Wp (lv n) noOwn (holding [v] (eval e env)>>=λI=>GV pos>>=λZ=>f I) R x:=λk=>
    Wp.bz (Wp.holding (ih.e h1 L hv)) λI y C l X q=>Wp.ba (k I y C l X (N.cmp q))
   cases ops with
   |nil=>
    cases r with
    |nil=>
     cases ag5 h2
     exact⟨A λI y C l X q=>Wp.operate (q y v I H (hz.le l) X),
      A λI y C l X q=>Wp.bind (Wp.operate (q y v I H (hz.le l) X)) λc y2 Z q=>BQ.casesOn q λb e q=>e▸λZ Z=>ag2 λZ Z Z Z=>.mk y2 H (LE.refl _) q⟩
    |cons f r=>obtain⟨_,_,_,_,rfl⟩:=ag4 h2;exact⟨A λI y C l X q=>Wp.bind (Wp.holding (q y v I H (hz.le l) X)) λc y2 Z q=>BQ.casesOn q λZ Z q=>q.elim,A λI y C l X q=>Wp.bind (Wp.holding (q y v I H (hz.le l) X)) λc y2 Z q=>BQ.casesOn q λZ Z q=>q.elim⟩
   |cons o2 ops=>
    have tr:∀{α} {I} {y} {C} {g:AM->Bool->Sem α} {R:α->Wd B->Prop},LN x y->Rd y I C->OT B (lv n) op z C y.σ (VS (Sy B n kv) C (o2::ops) us ρ Q)->
      (∀b y2,LN y y2->VS (Sy B n kv) C (o2::ops) us ρ Q b y2.σ->Wp (lv n) noOwn (g (B0 b) b) R y2)->
      Wp (lv n) noOwn (holding [v,I] (KG op v I)>>=λc=>release [v,I] [c]>>=λZ=>holding [c,I] (JB c)>>=g c) R y:=λl X q k=>
     Wp.bind (Wp.holding (q _ v _ H (hz.le l) X)) λc y2 l2 q=>BQ.casesOn q λb e q=>e▸Wp.release (Wp.b6 (λZ Z q=>ag2 (N.V8 (aq.bool b) H q)) (k b y2 l2 q))
    cases r<;>exact⟨A λI y C l X q=>tr l X q λb y2 l2 q=>(match b,q with
      |false,q=>Wp.pure (.mk Am H q)
      |true,q=>ih.cmp h2 (L.le (l.trans l2)) (X.le l2) q),
     A λI y C l X q=>tr l X q λb y2 l2 q=>(match b,q with
      |false,q=>Wp.pure q
      |true,q=>ih.YA h2 (L.le (l.trans l2)) (X.le l2) q)⟩
variable{y:Wd B}{σ:M5}{Q:KE}{own:AG->Prop}
def M5.ag(a:AG)(o:O):(σ.set a o) a=U o:=Nt H
def M5.aA(o:O)(N:b≠a):(σ.set a o) b=σ b:=Np N
def M5.bu(a:AG):(σ.del a) a=Y:=Nt H
def M5.eX(N:b≠a):(σ.del a) b=σ b:=Np N
def M5.eY(h:σ a=Y):(σ.set a o).del a=σ:=by
 funext b
 by_cases q:b=a
 subst q;exact(M5.bu _).trans h.symm;exact(M5.eX q).trans<|M5.aA _ q
def M5.set_set:(σ.set a o).set a o'=σ.set a o':=by
 funext b
 by_cases q:b=a
 subst q;exact(M5.ag _ _).trans (M5.ag _ _).symm;exact(M5.aA _ q).trans<|(M5.aA _ q).trans (M5.aA _ q).symm
def SP.lt{x:St}(h:SP P x a o):∃N,x.get? a=U N:=by
 cases o with
 |list=>exact h.elim λZ h=>h.elim λZ h=>⟨_,h.1⟩
 |dict=>exact h.elim λZ h=>h.elim λZ h=>⟨_,h.1⟩
 |rF=>exact h.elim λZ h=>⟨_,h.1⟩
 |inst=>exact h.elim λZ h=>h.elim λZ h=>h.elim λZ h=>⟨_,h.1⟩
 |u6=>exact h
def SP.move{x y:St}(s:Ou x y)(r:SP P x a o)(N:∀R,x.get? a=U R->y.get? a=U R)
  (I:∀d,x.σ d=U (CK a)->(∀R,x.get? d=U R->y.get? d=U R)/\y.σ d=U (CK a)):SP P y a o:=by
 cases o with
 |list=>exact r.imp λZ h=>h.imp λZ h=>⟨N _ h.1,h.2.1,h.2.2.az s⟩
 |dict=>exact r.imp λZ h=>h.imp λZ h=>⟨N _ h.1,h.2.1,h.2.2.1.az s,h.2.2.2⟩
 |rF=>exact r.imp λZ h=>⟨N _ h.1,h.2⟩
 |inst=>exact r.imp λd h=>h.imp λZ h=>h.imp λZ h=>⟨N _ h.1,(I d h.2.2.1).1 _ h.2.1,(I d h.2.2.1).2,h.2.2.2.1.az s,h.2.2.2.2⟩
 |u6=>exact r.imp λZ h=>N _ h
structure du (x y:St) (T:AG->Prop):Prop where
 fz:∀a,T a->¬Fz x a
 u6:∀d b,T d->x.σ d=U (CK b)->T b
 same:∀a o,x.get? a=U o->¬T a->y.get? a=U o/\y.σ a=x.σ a/\(y.φ a↔x.φ a)
def du.az{x y:St}{T:AG->Prop}(h:du x y T):Ou x y:=λa o e f=>(h.same a o e λt=>h.fz a t f).imp_right λq=>⟨q.1.trans f.1,q.2.mpr f.2⟩
def du.ok{x y:St}{T:AG->Prop}(h:du x y T)(K:Ok B x)(hn:∀a o,T a\/x.get? a=Y->y.σ a=U o->SP B.P y a o)
  (hf:∀a,T a\/x.get? a=Y->y.φ a->y.σ a=Y/\∃o,y.get? a=U o) (os:y.sh.os=x.sh.os) (gens:y.sh.gens=x.sh.gens):Ok B y where
 fx:=K.fx
 base:=λb o e=>(K.base b o e).elim λf g=>(h.az b o g f).symm
 objs:=λa o e=>by
  by_cases t:T a\/x.get? a=Y
  exact hn a o t e;obtain⟨t,g⟩:=not_or.mp t
  cases q:x.get? a with
  |none=>exact M9 q g
  |some I=>have s:=h.same a I q t;refine(K.objs a o (s.2.1▸e)).move h.az (λN e=>(h.same a N e t).1) λd A=>?_;have R:¬T d:=λR=>t (h.u6 d a R A);obtain⟨od,X⟩:=(K.objs d _ A).lt;exact⟨λN e=>(h.same d N e R).1,(h.same d od X R).2.1.trans A⟩
 QA:=λa C=>by
  by_cases t:T a\/x.get? a=Y
  exact hf a t C;obtain⟨t,g⟩:=not_or.mp t
  cases q:x.get? a with
  |none=>exact M9 q g
  |some I=>have s:=h.same a I q t;exact⟨s.2.1.trans (K.QA a (s.2.2.mp C)).1,I,s.1⟩
 os:=os.trans K.os
 gens:=gens.trans K.gens
def du.le{x y:St}{T:AG->Prop}(h:du x y T)(N:∀a,T a->own a\/x.σ a≠Y)(R:∀a,own a->NQ x a->NQ y a):LE own x y:=
 ⟨λa o n e s=>(h.same a o e λt=>(N a t).elim n λq=>q s).imp_right λq=>⟨q.1.trans s,q.2⟩,λa n e s=>R a n ⟨e,s⟩⟩
def du.le0{x y:St}{T:AG->Prop}(h:du x y T)(N:∀a,T a->x.σ a≠Y):LE noOwn x y:=h.le (λa t=>AN (N a t)) λZ n=>n.elim
def aI(x:St):x.get? x.sz=Y:=by
 cases e:x.get? x.sz with
 |none=>rfl
 |some o=>exact M9 (BV e) (Fj _)
def Wd.aW(x:Wd B)(e:x.get? a=Y):x.σ a=Y:=by
 cases q:x.σ a with
 |none=>rfl
 |some o=>obtain⟨N,h⟩:=(x.ok.objs a o q).lt;exact nomatch h.symm.trans e
def Wd.cw(x:Wd B)(e:x.get? a=Y):¬x.φ a:=λq=>(x.ok.QA a q).2.elim λZ h=>nomatch h.symm.trans e
def QR(x:St)(ob:Obj)(t:Nat)(φ:AG->Prop)(σ:M5):St:=⟨{x.sh with heap:=x.sh.heap.push ob,toks:=t},φ,σ⟩
def bC{x:St}{N:Obj}{φ:AG->Prop}(h:N.isFreed=Am):(QR x N t φ σ).get? x.sz=U N:=BK _ h
def bU{x:St}{φ:AG->Prop}{σ:M5}(N:∀a,a≠x.sz->(φ a↔x.φ a))(R:∀a,a≠x.sz->σ a=x.σ a):du x (QR x I t φ σ) noOwn:=
 ⟨λZ h=>h.elim,λZ Z h=>h.elim,λa o e Z=>⟨Be _ e,R a (CQ (BV e)),N a (CQ (BV e))⟩⟩
def cx{x:Wd B}(h:noOwn a\/x.get? a=Y):x.get? a=Y:=h.elim (λq=>q.elim) id
def U8(φ:AG->Prop)(a:AG):AG->Prop:=λb=>φ b\/b=a
def eB{φ:AG->Prop}(h:b≠a):U8 φ a b↔φ b:=⟨λq=>q.elim id λq=>M9 q h,Aw⟩
abbrev Wd.push(x:Wd B)(ob:Obj)(t:Nat):Wd B:=⟨QR x.toSt ob t x.φ x.σ,(bU (λZ Z=>GF) λZ Z=>H).ok x.ok
 (λZ Z h e=>aa<|aO (x.aW (cx h)) e) (λZ h q=>M9 q (x.cw (cx h))) H H⟩
def Wd.gU(x:Wd B)(N:Obj)(t:Nat):LE noOwn x.toSt (x.push N t).toSt:=(bU (λZ Z=>GF) λZ Z=>H).le0 λZ h=>h.elim
def Wd.Sj(x:Wd B)(ob:Obj)(t:Nat)(hf:ob.isFreed=Am):Wd B:=⟨QR x.toSt ob t (U8 x.φ x.sz) x.σ,(bU (λZ=>eB) λZ Z=>H).ok x.ok
 (λZ Z h e=>aa<|aO (x.aW (cx h)) e) (λZ h q=>q.elim (λq=>M9 q (x.cw (cx h))) λe=>⟨x.aW (cx h),_,e▸bC hf⟩) H H⟩
def Wd.fQ(x:Wd B)(N:Obj)(t:Nat)(hf:N.isFreed=Am):LE noOwn x.toSt (x.Sj N t hf).toSt:=(bU (λZ=>eB) λZ Z=>H).le0 λZ h=>h.elim
def Wd.da(x:Wd B)(N:Obj)(t:Nat)(hf:N.isFreed=Am):(x.Sj N t hf).get? x.sz=U N/\Fz (x.Sj N t hf).toSt x.sz:=
 ⟨bC hf,x.aW (aI _),AN H⟩
def Wd.RQ(x:Wd B)(ob:Obj)(o:O)(t:Nat)(hr:SP B.P (QR x.toSt ob t x.φ (x.σ.set x.sz o)) x.sz o):Wd B:=⟨QR x.toSt ob t x.φ (x.σ.set x.sz o),
 (bU (λZ Z=>GF) λZ h=>M5.aA _ h).ok x.ok (λa o' h e=>by
  by_cases q:a=x.sz
  subst q;exact Af (aO (M5.ag _ _) e)▸hr;exact aa<|aO (x.aW (cx h)) (aO (M5.aA _ q) e)) (λZ h q=>M9 q (x.cw (cx h))) H H⟩
def dh(x:Wd B)(N:Obj)(o:O)(t:Nat):LE noOwn x.toSt (QR x.toSt N t x.φ (x.σ.set x.sz o)):=
 (bU (λZ Z=>GF) λZ h=>M5.aA _ h).le0 λZ h=>h.elim
def kh(x:Wd B):(x.sz==Ea)=Am:=by obtain⟨o,_,_,N,_⟩:=B.nsg;have:(3:Nat)<x.sz:=BV (x.ok.base _ _ N).2;exact beq_eq_false_iff_ne.mpr λz=>M9 this (by rw[show x.sz=1 from z];decide)
def bW{t:Nat}(h:Nq x vs l)(q:Sw x.σ (AA l) Q):aP noOwn x (dS Q) (Ai x.sz) {x.sh with heap:=x.sh.heap.push (OG vs 0),toks:=t}:=by
 rcases q.2 with r|r
 exact .mk (x.Sj (OG vs 0) t H) H (x.fQ _ _ _)<|.mk (BB l) (.lst _ vs 0 l (x.da _ _ _).1 (x.da _ _ _).2 q.1 (h.le (x.fQ _ t H))) r
 exact .mk (x.RQ (OG vs 0) (AA l) t ⟨vs,0,bC H,q.1,aE.az (dh x _ _ _).az h⟩) H (dh x _ _ _)<|.mk _ (aq.ref _)<|r _<|x.aW<|aI _
def rJ{t:Nat}(q:Sw x.σ (AE []) Q):aP noOwn x (dS Q) (Ai x.sz) {x.sh with heap:=x.sh.heap.push (Dt [] 0),toks:=t}:=by
 rcases q.2 with r|r
 exact .mk (x.Sj (Dt [] 0) t H) H (x.fQ _ _ _)<|.mk (B6 []) (.di _ [] 0 [] (x.da _ _ _).1 (x.da _ _ _).2 q.1 aU.nil (kh x)) r
 exact .mk (x.RQ (Dt [] 0) (AE []) t ⟨[],0,bC H,q.1,aU.nil,kh x⟩) H (dh x _ _ _)<|.mk _ (aq.ref _)<|r _<|x.aW<|aI _
def vb{u:Ot}{b:M6}{t:Nat}(e:u.toList.map Br=b)(N:b.length<=Nh)(q:∀a,x.σ a=Y->Q (Av a) (x.σ.set a (CF b))):
  aP noOwn x (dS Q) (Ai x.sz) {x.sh with heap:=x.sh.heap.push {cls:=An "bytearray",data:=B7 u 0},toks:=t}:=
 .mk (x.RQ {cls:=An "bytearray",data:=B7 u 0} (CF b) t ⟨u,bC H,e,N⟩) H (dh x _ _ _) (.mk _ (aq.ref _) (q _ (x.aW (aI _))))
def iu{l:LV}{t:Nat}(h:Nq x vs l)(N:l.length<=Nh)(q:Q (Bg l) x.σ):aP noOwn x (dS Q) (Ai x.sz) {x.sh with heap:=x.sh.heap.push (Sv vs 0),toks:=t}:=
 .mk (x.Sj (Sv vs 0) t H) H (x.fQ _ _ _) (.mk (Bg l) (.tup _ vs 0 l (x.da _ _ _).1 (x.da _ _ _).2 N (h.le (x.fQ _ t H))) q)
def cj{u:Ot}{b:M6}{t:Nat}(e:u.toList.map Br=b)(N:b.length<=Nh)(q:Q (W b) x.σ):aP noOwn x (dS Q) (AF u t') {x.sh with toks:=t}:=
 .mk (x.toks t) H (Wd.bL t) (.mk _ (aq.bytes _ _ _ e N) q)
def ahg{t:Nat}(q:Q (Ar i) x.σ):aP noOwn x (dS Q) (By i t') {x.sh with toks:=t}:=.mk (x.toks t) H (Wd.bL t) (.mk _ (aq.int _ _) q)
def Nq.arr{vs:LVal}{l:LV}(h:Nq x vs l)(N:l.length<=Nh):vs.toArray.size<=sizeLine:=by rw[EF];exact Aa (h.length▸N:vs.length<=16777216) ae
def Wv.newList(h:Nq x vs l)(q:Sw x.σ (AA l) Q):Wv n (newList vs) Q x:=λA Z=>by delta PySem.newList;exact ahb (bW h q)<|h.arr q.1
def Wv.newTuple{l:LV}(h:Nq x vs l)(N:l.length<=Nh)(q:Q (Bg l) x.σ):Wv n (newTuple vs) Q x:=λA Z=>by delta PySem.newTuple;exact ahb (iu h N q)<|h.arr N
def Wv.newDict(q:Sw x.σ (AE []) Q):Wv n newDict Q x:=λA Z=>by delta PySem.newDict;exact ahb (rJ q) (by size_fits)
def Wp.newFields{vs:LVal}{R:AM->Wd B->Prop}(I:vs.length<=100)
  (q:∀y,y.σ=x.σ->LN x y->y.get? x.sz=U {cls:=An N,data:=Df vs.toArray}->R (Ai x.sz) y):Wp n noOwn (newFields N vs) R x:=λA Z=>by
 delta PySem.newFields;refine ahb (.mk (x.push _ x.sh.toks) H (x.gU _ _) (q _ H (x.gU _ _) (bC H))) ?_;show vs.length<=Eu+2;rw[EF];exact Aa I ae
def O.Zj:O->AG
 |.u6 a=>a
 |_=>0
def QS(x:St)(h:Heap)(t:Nat)(a:AG)(o:O):St:=⟨{x.sh with heap:=h,toks:=t},x.φ,x.σ.set a o⟩
def fR{x:St}{h:Heap}{t:Nat}{a b:AG}{o o':O}(K:Ok B x)(R:x.σ a=U o)(hb:b=a\/x.σ b=U (CK a))(A:CJ b x.sh.heap h)(I:∀c,o≠CK c):
  du x (QS x h t a o') (λc=>c=a\/c=b) where
 fz:=λc N f=>by
  rcases N with rfl|rfl
  exact aa<|aO f.1 R
  rcases hb with rfl|hb
  exact aa<|aO f.1 R
  exact aa<|aO f.1 hb
 u6:=λd c X e=>by
  rcases X with rfl|rfl
  exact M9 (Af (aO R e))<|I c
  rcases hb with rfl|hb
  exact M9 (Af (aO R e))<|I c
  exact Aw<|M7 O.Zj<|Af<|aO e hb
 same:=λc C e N=>⟨(A.2 c λq=>N (AN q)).trans e,M5.aA _ λq=>N (Aw q),GF⟩
def xk{x:St}{h:Heap}{t:Nat}{a b:AG}{o o':O}(K:Ok B x)(N:x.σ a=U o)(hb:b=a\/x.σ b=U (CK a))(R:CJ b x.sh.heap h)(A:∀c,o≠CK c):LE noOwn x (QS x h t a o'):=
 (fR K N hb R A).le0 λc I q=>by
  rcases I with rfl|rfl
  exact aa<|aO q N
  rcases hb with rfl|hb
  exact aa<|aO q N
  exact aa<|aO q hb
def xl{x:St}{h:Heap}{t:Nat}{a b:AG}{o o':O}(K:Ok B x)(R:x.σ a=U o)(hb:b=a\/x.σ b=U (CK a))(X:CJ b x.sh.heap h)(hh:∀c,o≠CK c)
  (hr:Ou x (QS x h t a o')->SP B.P (QS x h t a o') a o') (ho:∃ob,h.get? b=U ob):Ok B (QS x h t a o'):=by
 have A:=fR (t:=t) (o':=o') K R hb X hh;refine A.ok K (λc C hc e=>?_) (λc hc q=>?_) H H
 ·by_cases N:c=a
  ·subst N;exact Af (aO (M5.ag _ _) e)▸hr A.az
  ·have I:=aO (M5.aA _ N) e;rcases hc with(hc|rfl)|hc
   ·exact M9 hc N
   ·rcases hb with rfl|hb
    ·exact M9 H N
    ·exact Af (aO hb I)▸ho
   ·obtain⟨_,g⟩:=(K.objs c C I).lt;exact nomatch g.symm.trans hc
 have f:=K.QA c q;rcases hc with(rfl|rfl)|hc
 exact aa<|aO f.1 R
 ·rcases hb with rfl|hb
  ·exact aa<|aO f.1 R
  ·exact aa<|aO f.1 hb
 exact f.2.elim λZ g=>nomatch g.symm.trans hc
def aP.upd(I:x.σ a=U o)(N:CJ a x.sh.heap h)(A:∀c,o≠CK c)
  (X:Ou x.toSt (QS x.toSt h t a o')->SP B.P (QS x.toSt h t a o') a o') (q:∀y,y.σ=x.σ.set a o'->LN x y->R r y):aP noOwn x R r {x.sh with heap:=h,toks:=t}:=
 .mk ⟨QS x.toSt h t a o',xl x.ok I (Aw H) N A X (X (fR x.ok I (Aw H) N A).az).lt⟩ H (xk x.ok I (Aw H) N A) (q _ H (xk x.ok I (Aw H) N A))
def VW(x:St)(a:AG):St:=⟨x.sh,U8 x.φ a,x.σ.del a⟩
def mH{x:St}{a:AG}{o:O}(R:x.σ a=U o)(A:∀c,o≠CK c):du x (VW x a) (· =a) where
 fz:=λc N f=>aa<|aO (N▸f.1:x.σ a=Y) R
 u6:=λd c I e=>M9 (Af (aO R (I▸e:x.σ a=U (CK c)))) (A c)
 same:=λc X e N=>⟨e,M5.eX N,eB N⟩
def adN{x:St}{a:AG}{o:O}(K:Ok B x)(I:x.σ a=U o)(X:∀c,o≠CK c):Ok B (VW x a):=by
 refine(mH I X).ok K (λc A N e=>?_) (λc N q=>?_) H H
 ·by_cases R:c=a
  ·subst R;exact aa<|aO (M5.bu _) e
  ·exact N.elim (λh=>M9 h R) λN=>(K.objs c A (aO (M5.eX R) e)).lt.elim λZ g=>nomatch g.symm.trans N
 by_cases R:c=a
 subst R;exact⟨M5.bu _,(K.objs c o I).lt⟩;exact N.elim (λh=>M9 h R) λN=>(K.QA c ((eB R).mp q)).2.elim λZ g=>nomatch g.symm.trans N
def dT{x:St}{a:AG}{o:O}(N:x.σ a=U o)(I:∀c,o≠CK c):LE noOwn x (VW x a):=(mH N I).le0 λc R q=>aa<|aO (R▸q:x.σ a=Y) N
def Wd.QA(x:Wd B){a:AG}{o:O}(ha:x.σ a=U o)(hh:∀c,o≠CK c):Wd B:=⟨VW x.toSt a,adN x.ok ha hh⟩
def OY(x:St)(a:AG)(o:O):St:=⟨x.sh,x.φ,x.σ.set a o⟩
def jG{x:St}{a:AG}{o:O}(p:NQ x a):du x (OY x a o) (· =a) where
 fz:=λc N f=>p.2 (N▸f.2)
 u6:=λd c R e=>aa<|aO p.1 (R▸e:x.σ a=U (CK c))
 same:=λc I e N=>⟨e,M5.aA _ N,GF⟩
def pn{x:St}{a:AG}{o:O}(K:Ok B x)(p:NQ x a)(X:Ou x (OY x a o)->SP B.P (OY x a o) a o):Ok B (OY x a o):=by
 have I:=jG (o:=o) p;refine I.ok K (λc A N e=>?_) (λc N q=>?_) H H
 ·by_cases R:c=a
  ·subst R;exact Af (aO (M5.ag _ _) e)▸X I.az
  ·exact N.elim (λh=>M9 h R) λN=>(K.objs c A (aO (M5.aA _ R) e)).lt.elim λZ g=>nomatch g.symm.trans N
 exact N.elim (λh=>M9 (h▸q) p.2) λN=>(K.QA c q).2.elim λZ g=>nomatch g.symm.trans N
def Wd.listAt(x:Wd B)(N:x.σ a=U (AA l)):∃vs n,x.get? a=U (OG vs n)/\l.length<=Nh/\Nq x vs l:=x.ok.objs a _ N
def Wd.dictAt(x:Wd B)(R:x.σ a=U (AE l)):∃N n,x.get? a=U (Dt N n)/\l.length<=Nh/\aU B.P x.toSt N l/\(a==Ea)=Am:=x.ok.objs a _ R
abbrev O.hd:O->Bool
 |.u6 _=>J
 |_=>Am
def dw{o:O}{c:AG}(h:o.hd=Am):o≠CK c:=λe=>Bh (aO h (M7 O.hd e))
def O.aB(c:AG):AA l≠CK c:=dw H
def O.bG(c:AG):AE l≠CK c:=dw H
def O.pq(c:AG):CF l≠CK c:=dw H
def O.kG(c:AG):BZ k l≠CK c:=dw H
def SF(σ:M5):V->Option LV
 |.lst l=>U l
 |.ref a=>match σ a with
  |some (.list l)=>U l
  |_=>Y
 |_=>Y
def VX(σ:M5):V->Option NW
 |.di l=>U l
 |.ref a=>match σ a with
  |some (.dict l)=>U l
  |_=>Y
 |_=>Y
inductive WY (x:Wd B) (l:LV) (v:AM):Prop
 |mk (a:AG) (vs:LVal) (n:Nat):v=Ai a->x.get? a=U (OG vs n)->l.length<=Nh->Nq x vs l->WY x l v
inductive vc (x:Wd B) (l:NW) (v:AM):Prop
 |mk (a:AG) (es:List BY) (n:Nat):v=Ai a->x.get? a=U (Dt es n)->l.length<=Nh->aU B.P x.toSt es l->(a==Ea)=Am->vc x l v
def ai(N:σ a=U (AA l)):SF σ (Av a)=U l:=by show(match σ a with|some (.list l)=>U l|_=>Y)=_;rw[N]
def ao(N:σ a=U (AE l)):VX σ (Av a)=U l:=by show(match σ a with|some (.dict l)=>U l|_=>Y)=_;rw[N]
set_option tactic.hygienic true in
def fT(R:Rd x v o)(h:SF x.σ o=U l):WY x l v:=by
 cases o<;>first| (cases h;done)|skip
 ·rename_i a
  change (match x.σ a with|some (.list l)=>U l|_=>Y)=_ at h
  cases e:x.σ a with
  |none=>rw[e]at h;cases h
  |some o=>
   rw[e]at h
   cases o<;>first| (cases h;done)|skip
   obtain⟨N,n,g,I,r⟩:=x.listAt e;exact Af h▸.mk a N n (aq.inv R) g I r
 exact Af h▸(aq.inv R).elim λa q=>q.elim λN q=>q.elim λn q=>.mk a N n q.1 q.2.1 q.2.2.2.1 q.2.2.2.2
set_option tactic.hygienic true in
def kH(R:Rd x v o)(h:VX x.σ o=U l):vc x l v:=by
 cases o<;>first| (cases h;done)|skip
 ·rename_i a
  change (match x.σ a with|some (.dict l)=>U l|_=>Y)=_ at h
  cases e:x.σ a with
  |none=>rw[e]at h;cases h
  |some o=>
   rw[e]at h
   cases o<;>first| (cases h;done)|skip
   obtain⟨N,n,g,I,r,s⟩:=x.dictAt e;exact Af h▸.mk a N n (aq.inv R) g I r s
 exact Af h▸(aq.inv R).elim λa q=>q.elim λN q=>q.elim λn q=>.mk a N n q.1 q.2.1 q.2.2.2.1 q.2.2.2.2.1 q.2.2.2.2.2
def eZ[BEq α][LawfulBEq α][DecidableEq α](a b:α):(a==b)=decide (a=b):=by grind
end
section
variable{prog:CZ}{w:Dy}
abbrev isBytes(k:M6):AM->Bool
 |.bytes b _=>b.toList.map Br==k
 |_=>Am
def ag6(h:isBytes k v=J):∃b t,v=AF b t/\b.toList.map Br=k:=by cases v<;>first| (cases h;done)|exact⟨_,_,rfl,N2 h⟩
def fa{E:O3}{s:AZ}{k:M6}{v:AM}{Q:Int->AZ->Prop}(R:isBytes k v=J)
  (h:Q (Dx (Qk w.params k)) {s with toks:=s.toks+1}):AB (model prog w) A (J7 v) Q E s:=by
 obtain⟨b,t,rfl,rfl⟩:=ag6 R;refine pyHash_slot H FB.slot_bytes_hash FB.entry_bytes_hash (FB.args_bytes_hash_1 _) (beq_builtin_none _) (Aw H) ?_;show AB _ _ (strHash ⟨b.map (·.toNat)⟩>>=λi=>(do ret (<-mkInt i))) _ _ s;delta strHash;refine Ab<|Ab<|Hq<|Aj<|Ab<|GU<|Aj ⟨_,_,H,?_⟩
 have N:(b.toList.map Br).toArray=b.map (·.toNat):=Hj.mp (Hi ..).symm;delta Qk at h;rw[N,(by rw[<-N];exact(List.isEmpty_toArray _).symm:(b.toList.map Br).isEmpty=(b.map (·.toNat)).isEmpty)]at h;exact h
def cU{E:O3}{s:AZ}{a b:M6}{u v:AM}{Q:Bool->AZ->Prop}(X:isBytes a u=J)(I:isBytes b v=J)
  (h:Q (decide (a=b)) s):AB (model prog w) A (J9 u v) Q E s:=by
 obtain⟨x,t,rfl,rfl⟩:=ag6 X;obtain⟨y,R,rfl,rfl⟩:=ag6 I;delta J9;show AB _ _ (if(AF x t==AF y R)=J then _ else _) Q E s
 by_cases N:(AF x t==AF y R)=J
 ·rw[Nt N];obtain rfl:x=y:=by have:=N2 N;injection this
  rw[N5 H]at h;exact Ab<|BD<|Aj h
 rw[Np N]
 have e:(x.toList==y.toList)=decide (x.toList.map Br=y.toList.map Br):=
  (eZ ..).trans (decide_eq_decide.mpr (MD (λZ Z e=>Jz.mp e)).symm)
 exact Ab<|eq_bytes<|Ce<|e▸h
abbrev bytesKind(prog:CZ)(w:Dy):KeyKind prog w M6 where
 is:=isBytes
 hash:=λk=>Dx (Qk w.params k)
 inj:=λv a b ha hb=>by obtain⟨x,t,rfl,e⟩:=ag6 ha;exact aO e<|N2 hb
 byValue:=λk v h=>by obtain⟨b,t,rfl,_⟩:=ag6 h;rfl
 pyHash:=fa
 eqBool:=cU
 «strs»:=λk x t v h=>by cases h
end
structure KV {α:Type} [DecidableEq α] (d:Nat) (knd:KeyKind B.prog B.w α) (dec:α->V):Prop where
 is:∀{x:Wd B} {v} {a:α},Rd x v (dec a)->knd.is a v=J
 hash:∀a,keyHash B.P (dec a)=knd.hash a
 eq:∀a b,Td (dec a) (dec b)=decide (a=b)
 kind:∀y,kindOf y=d->∃b,y=dec b
section
def xm:KV 1 (MO B.prog B.w) Ar where
 is:=λh=>Rd.l9 h (C:=λv=>(MO B.prog B.w).is _ v=J) λt=>Px _
 hash:=λa=>H
 eq:=λa b=>eZ ..
 kind:=λy h=>by cases y<;>first|exact⟨_,rfl⟩|cases h
def iw:KV 3 (bytesKind B.prog B.w) W where
 is:=λh=>Rd.dn h (C:=λv=>(bytesKind B.prog B.w).is _ v=J) λu t e Z=>by rw[<-e];exact Px _
 hash:=λa=>H
 eq:=λa b=>eZ ..
 kind:=λy h=>by cases y<;>first|exact⟨_,rfl⟩|cases h
def tQ{a b:Str}(h:a.cps.toList=b.cps.toList):a=b:=by cases a;cases b;exact M7 Str.mk (Hj.mp h)
def adO:KV 2 (PySem.strKind B.prog B.w) (λx:Str=>B9 x.cps.toList) where
 is:=λ{x v a} h=>Rd.u7 h (C:=λv=>(PySem.strKind B.prog B.w).is _ v=J) λu t e Z=>by rw[tQ e];exact Px _
 hash:=λa=>by show Qk B.P a.cps.toList=hashStr B.w a;delta Qk hashStr;rw[L5,Array.isEmpty_toList]
 eq:=λa b=>(eZ ..).trans (decide_eq_decide.mpr ⟨tQ,λe=>e▸H⟩)
 kind:=λy h=>by cases y<;>first|exact⟨⟨⟨_⟩⟩,rfl⟩|cases h
def RU(k:V)(m:NW):Option Nat:=m.findIdx? λe=>Td k e.1
def je(k:V)(e:V×V)(r:NW):RU k (e::r)=if Td k e.1 then U 0 else(RU k r).map (· +1):=C9
def aaZ(k:V)(m:NW):NH k m=(RU k m).bind λi=>m[i]?.map (·.2):=by
 induction m with
 |nil=>rfl
 |cons e r N=>
  rw[je];show(if Td k e.1 then U e.2 else NH k r)=_
  cases h:Td k e.1 with
  |true=>rfl
  |false=>exact N.trans (by show _=((RU k r).map (· +1)).bind _;cases RU k r<;>rfl)
def rK{e:V×V}{r:NW}(h:Td k e.1=J):NX k v (e::r)=(e.1,v)::r:=Nt h
def rL{e:V×V}{r:NW}(h:Td k e.1=Am):NX k v (e::r)=e::NX k v r:=Np (Bp.mp h)
def aa0(k v:V)(m:NW):NX k v m=match RU k m with
  |some i=>m.modify i λe=>(e.1,v)
  |none=>m++[(k,v)]:=by
 induction m with
 |nil=>rfl
 |cons e r N=>
  rw[je]
  cases h:Td k e.1 with
  |true=>exact rK h
  |false=>
   refine(rL h).trans ?_;rw[N]
   cases RU k r<;>rfl
def cm:(NX k v l).length<=l.length+1:=by
 induction l with
 |nil=>exact AH _
 |cons e r N=>
  cases h:Td k e.1 with
  |false=>exact Aa (Ap (M7 CH (rL h))) (AX N)
  |true=>exact Aa (Ap (M7 CH (rK h))) (B4 _)
def Keyed(n:Nat)(k:V)(l:NW):=
 ∀{x} {v} {d} {es} {m},Rd x v k->x.get? d=U (Dt es m)->aU B.P x.toSt es l->
  Wp n noOwn (J7 v) (λh y=>h=keyHash B.P k/\∃t,y=x.toks t) x/\Wp n noOwn (dictFind d v (keyHash B.P k)) (λr y=>r=RU k l/\y=x) x
def vd{x:Wd B}{I:Type}[DecidableEq I]{c:Nat}{knd:KeyKind B.prog B.w I}{dec:I->V}(kv:KV c knd dec){a:I}{N:List BY}{l:NW}(h:aU B.P x.toSt N l)(hl:Nf c l=J):
  (∀e∈N,∃b,knd.is b e.key=J/\e.hash=knd.hash b)/\N.findIdx? (λe=>knd.is a e.key)=RU (dec a) l:=by
 induction l generalizing N with
 |nil=>obtain rfl:=h.dQ;exact⟨λZ h=>M9 h Ay,H⟩
 |cons z l ih=>obtain⟨e,N,rfl,hk,y,hv,r⟩:=h.inv;obtain⟨X,C⟩:=Ah.mp hl;obtain⟨b,R⟩:=kv.kind z.1 (N2 X);obtain⟨h1,h2⟩:=ih r C;rw[R]at hk y;have Q:=kv.is hk;refine⟨λe' A=>(AQ.mp A).elim (λq=>q▸⟨b,Q,y.trans (kv.hash b)⟩) (h1 e'),?_⟩;rw[je,C9,h2,KeyKind.is_eq_decide Q a,R,kv.eq a b]
def kI{N:Type}[DecidableEq N]{c:Nat}{knd:KeyKind B.prog B.w N}{dec:N->V}(kv:KV c knd dec){a:N}{l:NW}(Q:Nf c l=J):Keyed n (dec a) l:=λ{x v d es m} hv ho hE=>by obtain⟨I,C⟩:=vd kv (a:=a) hE Q;have R:=kv.is hv;refine⟨λA Z=>up (knd.pyHash R (.mk (x.toks _) H (Wd.bL _) ⟨(kv.hash a).symm,_,H⟩)),λA Z=>?_⟩;rw[kv.hash a];exact ahx R ho H (λe X=>I e (Array.mem_toList_iff.mpr X|>λq=>q))<|.mk x H (LE.refl _) ⟨(by rw[<-C];exact List.findIdx?_toArray ..),H⟩
set_option tactic.hygienic true in
def fe{k:V}{l:NW}(R:kindOf k≠0/\kindOf k≠4)(N:Nf (kindOf k) l=J):Keyed n k l:=by
 cases k<;>first|exact M9 rfl R.1|exact M9 rfl R.2|skip
 exact kI xm N
 rename_i z;exact kI (a:=(⟨⟨z⟩⟩:Str)) adO N
 exact kI iw N
variable{n:Nat}{x y:Wd B}{Q:KE}
def aU.get{i:Nat}{z:V×V}(h:aU P s es l)(e:l[i]?=U z):∃e,es[i]?=U e/\aq P s e.key z.1/\e.hash=keyHash P z.1/\aq P s e.val z.2:=by
 induction l generalizing es i with
 |nil=>cases e
 |cons y l N=>
  obtain⟨u,R,rfl,a,b,c,r⟩:=h.inv
  cases i with
  |zero=>exact Af e▸⟨u,H,a,b,c⟩
  |succ i=>exact N (i:=i) r e
def aU.length(h:aU P s es l):es.length=l.length:=by
 induction l generalizing es with
 |nil=>exact h.dQ▸H
 |cons y l N=>obtain⟨_,_,rfl,_,_,_,r⟩:=h.inv;exact M7 (· +1) (N r)
def aU.modify(N:aq P s u z)(i:Nat)(h:aU P s es l):aU P s (es.modify i λe=>{e with val:=u}) (l.modify i λe=>(e.1,z)):=by
 induction l generalizing es i with
 |nil=>obtain rfl:=h.dQ;cases i<;>exact aU.nil
 |cons y l R=>
  obtain⟨_,_,rfl,a,b,c,r⟩:=h.inv
  cases i with
  |zero=>exact aU.cons a b N r
  |succ i=>exact aU.cons a b c (R i r)
def aU.append(R:aU P s N l2)(h:aU P s es l):aU P s (es++N) (l++l2):=by
 induction l generalizing es with
 |nil=>exact h.dQ▸R
 |cons y l I=>obtain⟨_,_,rfl,a,b,c,r⟩:=h.inv;exact aU.cons a b c (I r)
def WZ(y:Wd B)(o:OV)(r:Option AM):=match o with
 |none=>r=Y
 |some z=>∃v,r=U v/\Rd y v z
def Wp.dictGet{l:NW}{R:Option AM->Wd B->Prop}(C:x.get? d=U (Dt es m))(hE:aU B.P x.toSt es l)
  (hk:Rd x u k) (hy:Keyed n k l) (q:∀t r,WZ (x.toks t) (NH k l) r->R r (x.toks t)):Wp n noOwn (dictGet d u) R x:=by
 refine Wp.holding<|Wp.bind (hy hk C hE).1 λh y Z e=>?_
 obtain⟨rfl,t,rfl⟩:=e;have N:=hE.az (Wd.bL t).az;refine Wp.bind (hy (hk.toks (k:=t)) C N).2 λr y Z e=>?_;obtain⟨rfl,rfl⟩:=e;have hd:=aaZ k l
 cases X:RU k l with
 |none=>exact Wp.pure (q t Y (by rw[hd,X];rfl))
 |some i=>
  have I:=(Ck.mp X).1;obtain⟨e,he,_,_,hx⟩:=N.get (AY I);refine Wp.b6 (λA P r=>Tp.up<|Cu C H r)<|Wp.pure<|q t _ ?_
  rw[hd,X];show WZ (x.toks t) (l[i]?.map (·.2)) _;rw[AY I];exact⟨e.val,by rw[DC,he];rfl,hx⟩
def Wp.px(hd:x.σ d=U (AE l))(hk:Rd x u k)(hz:Rd x v z)(hy:Keyed n k l)
  (hlen:l.length<Nh) (q:∀y,y.σ=x.σ.set d (AE (NX k z l))->LN x y->R () y):Wp n noOwn (dictSetHashed d u (keyHash B.P k) v) R x:=by
 obtain⟨es,m,ho,hl,hE,C⟩:=x.dictAt hd;delta dictSetHashed;refine Wp.holding<|Wp.bind (hy hk ho hE).2 λr y Z e=>?_
 obtain⟨rfl,rfl⟩:=e;have N:=aa0 k z l
 have X:∀{h} {es'} {m'},CJ d y.sh.heap h->h.get? d=U (Dt es' m')->(NX k z l).length<=Nh->(∀w,Ou y.toSt w->aU B.P w es' (NX k z l))->
   aP noOwn y R () {y.sh with heap:=h}:=λhs he hl hE2=>
  aP.upd (t:=y.sh.toks) (o':=AE (NX k z l)) hd hs O.bG (λI=>⟨_,_,he,hl,hE2 _ I,C⟩) q
 cases hi:RU k l with
 |some i=>rw[hi]at N;refineλA Z=>agY (Tp.up<|BD (agY (ahB (hz:=by dict_keeps) ho H (Tp.up<|EE (X (es':=es.modify i λe=>{e with val:=v}) (m':=m) (Dd ..) ?_ (N▸?_) λy I=>N▸aU.modify (aq.az I hz) i (hE.az I))))));exact(Dz (h:=y.sh.heap) _ ho H).trans (M7 (λa=>U ({cls:=An "dict",data:=EY a m}:Obj)) (List.modify_toArray ..));exact Aa (Ap (List.length_modify ..)) hl
 |none=>
  rw[hi]at N
  have hsz:es.toArray.size<=sizeLine:=by rw[EF];exact Aa (hE.length▸hl:es.length<=16777216) ae
  refineλA Z=>agY (Tp.up<|BD (aho (hf:=by grows_one) (hz:=hsz) ho H (X (es':=es++[⟨keyHash B.P k,u,v⟩]) (m':=m+1) (Dd ..) ?_ (N▸?_) λy I=>N▸(aU.append (aU.cons (e:=⟨keyHash B.P k,u,v⟩) (aq.az I hk) H (aq.az I hz) aU.nil) (hE.az I)))));exact(Dz (h:=y.sh.heap) _ ho H).trans (M7 (λa=>U ({cls:=An "dict",data:=EY a (m+1)}:Obj)) (G1 ..));rw[Ad];exact hlen
def Wp.dictSet(A:x.σ d=U (AE l))(C:Rd x u k)(hz:Rd x v z)(I:Keyed n k l)
  (N:l.length<Nh) (q:∀y,y.σ=x.σ.set d (AE (NX k z l))->LN x y->R () y):Wp n noOwn (dictSet d u v) R x:=by
 obtain⟨es,m,ho,hl,hE,X⟩:=x.dictAt A;delta KD;refine Wp.holding<|Wp.bind (I C ho hE).1 λh y Z e=>?_
 obtain⟨rfl,t,rfl⟩:=e;exact Wp.px A C.toks hz.toks I N λy e l=>q y e<|(Wd.bL t).trans l
def eC(I:kindOf k=c):Nf c l=J->Nf c (NX k v l)=J:=by
 induction l with
 |nil=>intro Z;show(kindOf k==c&&J)=J;rw[I,Px];rfl
 |cons e r A=>
  intro h;obtain⟨R,N⟩:=Ah.mp h
  cases q:Td k e.1 with
  |false=>exact(M7 (Nf c) (rL q)).trans (Ah.mpr ⟨R,A N⟩)
  |true=>exact(M7 (Nf c) (rK q)).trans (Ah.mpr ⟨R,N⟩)
def Wp.fh(h0:c≠0/\c≠4){ps:List (AM×AM)}{xs acc:NW}{x:Wd B}(hd:x.σ d=U (AE acc))(h1:Nq x (ps.map (·.1)) (xs.map (·.1)))(h2:Nq x (ps.map (·.2)) (xs.map (·.2)))(X:ps.length=xs.length)
  (A:Nf c xs=J) (C:Nf c acc=J) (I:acc.length+xs.length<=Nh):
  Wp n noOwn (forIn ps Ip λp _=>(do KD d p.1 p.2;AJ (BX Ip):Sem (ForInStep PUnit))) (λZ y=>y.σ=x.σ.set d (AE (xs.foldl (λm e=>NX e.1 e.2 m) acc))) x:=by
 induction xs generalizing ps acc x with
 |nil=>
  obtain rfl:=Cy.mp X
  exact Wp.pure (funext λb=>by
   by_cases q:b=d
   subst q;exact hd.trans (M5.ag _ _).symm;exact(M5.aA _ q).symm)
 |cons z xs ih=>
  cases ps with
  |nil=>cases X
  |cons p ps=>
   obtain⟨_,_,e1,a1,b1⟩:=aE.inv h1;obtain⟨_,_,e2,a2,b2⟩:=aE.inv h2;obtain⟨rfl,rfl⟩:=BO e1;obtain⟨rfl,rfl⟩:=BO e2;obtain⟨N,A⟩:=Ah.mp A;have N:=N2 N;rw[Bn,<-Bf,BW]at I;rw[Cv]
   refine Wp.bind (Wp.bind (Wp.dictSet (R:=λZ y=>y.σ=x.σ.set d (AE (NX z.1 z.2 acc))) hd a1 a2 (fe (N▸h0) (N▸C)) (AP (AP (Bu _) (AD ..)) I) λy e Z=>e) λZ y l e=>Wp.pure (P:=λr w=>r=BX Ip/\w.σ=x.σ.set d (AE (NX z.1 z.2 acc))) ⟨H,e⟩) λr y l e=>?_
   obtain⟨rfl,e⟩:=e;refine Wp.mono (ih (e▸M5.ag _ _) (Nq.le b1 l) (Nq.le b2 l) (CV X) A (eC N C) (Aa (A7 cm _) I)) λZ w Z q=>?_;rw[q,e,M5.set_set];rfl
def Wv.xo(h0:ps≠[])(N:ps.length<=15)
  (hev:∀y,y.σ=x.σ->LN x y->Wp n noOwn (IY ps) (DQ R) y)
  (q:∀X σ,R X σ->keysOk X=J/\Sw σ (AE (Oa X)) Q):Wv n (dictDisplay (ps.map λp=>(U p.1,p.2))) Q x:=by
 rw[dictDisplay_pairs ps h0 (Al N ae)];intro A rm;refine agY ?_;delta subDict;refine agY<|up<|PySem.wpAny_alloc<|agY<|ag2 ?_
 rw[Nt N];have l0:=x.gU {cls:=An "dict",data:=EY #[]} x.sh.toks;refine agY (ag1 (aht (hev (x.push {cls:=An "dict",data:=EY #[]} x.sh.toks) H l0 A rm)) (λvs s₁ h₁=>?_) λZ Z e=>e);obtain⟨hvl,y,rfl,l1,zs,hl,r1,r2,hR⟩:=h₁;obtain⟨hk,hnew⟩:=q _ _ hR;have p:y.get? x.sz=U (Dt [] 0)/\NQ y.toSt x.sz:=l1.bj ⟨x.aW (aI _),x.cw (aI _)⟩ (bC H);have st:=(jG (o:=AE []) p.2).az
 let z:Wd B:=⟨OY y.toSt x.sz (AE []),pn y.ok p.2 λZ=>⟨[],0,p.1,Aq _,aU.nil,kh x⟩⟩
 obtain⟨c,hc,hh⟩:∃c,(c≠0/\c≠4)/\Nf c zs=J:=by
  cases zs with
  |nil=>exact⟨1,by decide,H⟩
  |cons e r=>obtain⟨h1,h2⟩:=Ah.mp hk;obtain⟨h1,h3⟩:=Ah.mp h1;exact⟨kindOf e.1,⟨bne_iff_ne.mp h1,bne_iff_ne.mp h3⟩,h2⟩
 have I:=Wp.fh (n:=n) (x:=z) hc (acc:=[]) (M5.ag _ _) (aE.az st r1) (aE.az st r2) hl hh H (by rw[B5,A1,<-hl,hvl];exact Aa N ae)
 refine ag2<|agY<|ag1 (I A rm) (λZ s₂ C=>?_) λZ Z e=>e
 obtain⟨w,rfl,l2,e⟩:=C;have e:w.σ=y.σ.set x.sz (AE (Oa zs)):=e.trans M5.set_set;have hw:w.σ x.sz=U (AE (Oa zs)):=e▸M5.ag _ _
 have le:LN x w:=⟨λb o Z g f=>by obtain⟨g0,f0,k0⟩:=l0.1 b o (λq=>q) g f;obtain⟨g1,f1,k1⟩:=l1.1 b o (λq=>q) g0 f0;obtain⟨g2,f2,k2⟩:=l2.1 b o (λq=>q) g1 ((M5.aA _ (CQ (BV g):b≠x.sz)).trans f1);exact⟨g2,f2,k2.trans (k1.trans k0)⟩,λZ h=>h.elim⟩
 refine agZ<|agZ<|agZ ?_
 rcases hnew.2 with hq|hq
 ·obtain⟨X,m,g,hl,hE,hs⟩:=w.dictAt hw;have fl:=dT hw O.bG;refine .mk (w.QA hw O.bG) H (le.trans fl)<|.mk (B6 (Oa zs)) (.di _ X m _ g ⟨M5.bu _,AN H⟩ hl (hE.az fl.az) hs) ?_
  show Q _ (w.σ.del _);rw[e,M5.eY p.2.1];exact hq
 exact .mk w H le<|.mk _ (aq.ref _)<|e▸hq _ p.2.1
variable{kv kt:Nat}{env:Env}{Γ:NI}{ρ:NF}
def OI:AO->Bool
 |.Starred .. =>Am
 |.Set .. =>Am
 |_=>J
def xp(h:WX kt env Γ e N):OI e=J:=by
 cases kt with
 |zero=>exact aa h
 |succ kt=>cases e<;>first|rfl|exact aa h
def xq(h:OI e=J):IH (e::r) env=(Am,eval e env)::IH r env:=by cases e<;>first|rfl|cases h
def rM(h:∀e∈l,OI e=J):IH l env=l.map λe=>(Am,eval e env):=by
 induction l with
 |nil=>rfl
 |cons e r R=>rw[xq (h e (As ..)),R λe N=>h e (Au _ N)];rfl
def cn(h:U7 kt env Γ l R):∀e∈l,OI e=J:=λe N=>(kF h e N).elim λZ=>xp
def rN(h:OI e=J):behindInMarks op e=Am:=by cases e<;>first|rfl|cases h
def mI(h:∀e∈l,OI e=J):∀ops ts,markedEach ops l ts=ts:=by
 induction l with
 |nil=>intro ops ts;cases ops with|nil=>rfl|cons o r=>cases r<;>rfl
 |cons e r I=>
  intro ops ts
  cases ops with
  |nil=>rfl
  |cons A ops=>
   cases ts with
   |nil=>cases ops<;>cases r<;>rfl
   |cons t ts=>
    have N:=M7 (t::·) ((I λe R=>h e (Au _ R)) ops ts)
    cases ops with
    |cons=>cases r<;>exact N
    |nil=>
     cases r with
     |cons=>exact N
     |nil=>
      cases ts with
      |cons=>exact N
      |nil=>show [markedBehindIn A e t]=[t];delta markedBehindIn;rw[rN (h e (As ..))]
set_option tactic.hygienic true in
def mJ(h:RJ o=J):attributeBase o a env t=t:=by
 cases o<;>first|rfl|skip
 rename_i f args kw p
 cases f<;>first|rfl|skip
 cases args<;>first|rfl|skip
 cases kw<;>first|rfl|skip
 rename_i id p'
 have h:(id !=("super":Str))=J:=h;exact Nt (by rw[h];rfl)
def xr(h:VT a=U k):nm k=a:=by obtain⟨N,e,_⟩:=Ck.mp h;show(Ub[k]?).getD _=a;rw[AY N];exact N2 e
def adP(h:WL a=U k):mt k=a:=by obtain⟨N,e,_⟩:=Ck.mp h;show(Uc[k]?).getD _=a;rw[AY N];exact N2 e
def Wp.letGo(h:Wp n own (f ()) R x):Wp n own (letTemporaryGo base o r>>=f) R x:=Wp.skip (λZ Z q=>Tp.up<|PySem.wpAny_letTemporaryGo q) h
set_option tactic.hygienic true in
def ahU(h:WI c=U z)(q:Q z x.σ):Wv n (constValue env c) Q x:=by
 cases c<;>first|exact aa h|skip
 exact Wv.pure aq.none<|Af h▸q
 exact Wv.pure (aq.bool _)<|Af h▸q
 exact Wv.mkInt<|Af h▸q
 ·rename_i u
  change (if _ then _ else _)=_ at h
  by_cases N:u.cps.size<=Nh
  rw[Nt N]at h;exact Wv.mkText N (Af h▸q);rw[Np N]at h;exact aa h
 rename_i u
 change (if _ then _ else _)=_ at h
 by_cases N:u.length<=Nh
 rw[Nt N]at h;exact Wv.mkTextBytes H (by rw[Ak];exact N) (Af h▸q);rw[Np N]at h;exact aa h
def xt(h:Vw (Gl) env.scope Γ z=U I)(L:Loc x env Γ ρ)(N:O7 B n (kv+1) I ρ x.σ Q):Wv (lv n) (if(z==("__debug__":Str))=J then debugConstant else IJ env z) Q x:=by
 delta Vw at h
 cases A:z==("__debug__":Str)with
 |true=>rw[A]at h;exact aa h
 |false=>
  rw[A]at h;show Wv (lv n) (IJ env z) Q x
  have loc:∀{k},env.kindOf z=U k->((z==("__classdict__":Str))=Am\/env.kindOf z≠U Ba)->(slot Γ z).map JP=U I->Wv (lv n) (IJ env z) Q x:=λ{k} hk R h=>by
   obtain⟨i,X,rfl⟩:=A4.mp h;have N:TP (ρ[i]?.getD Y) λv=>Q v x.σ:=N
   cases e:ρ[i]? with
   |none=>rw[e]at N;exact N.elim
   |some r=>
    cases r with
    |none=>rw[e]at N;exact N.elim
    |some v=>rw[e]at N;exact Wv.aaX L (gx X) e (λq=>aa (aO q hk)) R N
  change (match env.kindOf z with|some .local|some .cell=>_|some .free=>_|some .globalImplicit=>_|_=>Y)=_ at h
  cases e:env.kindOf z with
  |none=>rw[e]at h;exact aa h
  |some k=>
   rw[e]at h
   cases k<;>first|exact aa h|skip
   exact loc e (AN (by rw[e];exactλq=>K4 (Af q))) h;exact loc e (AN (by rw[e];exactλq=>K4 (Af q))) h
   ·change (if _ then _ else _)=_ at h
    cases R:z==("__classdict__":Str)with
    |true=>rw[R]at h;exact aa h
    |false=>rw[R]at h;exact loc e (Aw R) h
   obtain⟨v,C,rfl⟩:=A4.mp h;exact Wv.pk L.eo e C N
def adQ(N:aV){I:V->V->M5->Prop}(ha:Wv (lv n) (eval a env) Qa x)(hb:∀z (y:Wd B),LN x y->Qa z y.σ->Wv (lv n) (eval b env) (I z) y)
  (q:∀z R σ,I z R σ->Xr B (lv n) op z R σ Q):Wv (lv n) (eval (.BinOp a op b p) env) Q x:=
 Wp.bz ha λv y z l X h=>Wp.bz (hb z y l h).holding λu A R l' hu C=>Wp.ba (N.bin (q z R _ C) A v u H (X.le l') hu)
def afe(N:aV)(I:Wv (lv n) (eval a env) Qa x)(q:∀z σ,Qa z σ->UnS op z σ Q):Wv (lv n) (eval (.UnaryOp op a p) env) Q x:=
 Wp.bz I λv y z l R h=>Wp.ba (Wp.holding (N.un (q z _ h) y v H R))
def adR(N:aV)(I:Wv (lv n) (eval a env) Qa x)(q:∀z σ,Qa z σ->V8 z σ λb σ=>Q (Bm (!b)) σ):Wv (lv n) (eval (.UnaryOp .Not a p) env) Q x:=
 Wp.bz (fv:=λv=>GV p>>=λZ=>holding [v] (holding [v] (JB v>>=λb=>(AJ (B0 (!b)):Sem AM)))) I λv y z l R h=>Wp.ba (Wp.holding (Wp.holding ((a8 (q z _ h)).elim λb h=>Wp.b6 (v:=b) (λZ Z q=>N.V8 R h.1 q) (Wv.pure (aq.bool _) h.2))))
def adS(N:Wp (lv n) noOwn (Lj t env (eval t env)) (TQ Qt) x)
  (k:∀z (y:Wd B),LN x y->Qt z y.σ->V8 z y.σ λc Z=>br c (Wv (lv n) (eval a env) Q y) (Wv (lv n) (eval b env) Q y)):Wv (lv n) (eval (.IfExp t a b p) env) Q x:=
 Wp.bind N λc y l q=>TQ.casesOn q λz e q=>(a8 (k z y l q)).elim λR h=>by
  obtain rfl:=Af (aO e h.1)
  cases c
  exact h.2;exact h.2
def aa1(N:RJ o=J)(I:VT a=U k)(A:Wv (lv n) (eval o env) Qo x)(q:∀z σ,Qo z σ->Tf B (lv n) z k σ Q):Wv (lv n) (eval (Kp o a p) env) Q x:=
 Wp.bz ((mJ N).symm▸A) λv y z l R h=>Wp.ba (Wp.bind (Wp.holding (xr I▸q z _ h y v H R)) λr w l q=>Wp.letGo (Wp.pure q))
def rO(h:sliceOf i=Y)(v u:AM):subscripted i Am v u=operate [v,u] (IX v u):=by cases i<;>first|rfl|cases h
def adT(N:aV){I:V->V->M5->Prop}(C:sliceOf i=Y)(ho:Wv (lv n) (eval o env) Qo x)(X:∀z (y:Wd B),LN x y->Qo z y.σ->Wv (lv n) (eval i env) (I z) y)
  (q:∀z R σ,I z R σ->V9 B (lv n) z R σ Q):Wv (lv n) (eval (Hk o i p) env) Q x:=
 Wp.bz ho λv y z l hv h=>
  Wp.bz (X z y l h).holding λu A R l' hu h'=>Wp.ba (Wp.bind (N.sub (q z R _ h') A v u H (hv.le l') hu) λb w Z h=>by obtain⟨rfl,h⟩:=h;exact Wp.bind (rO C v u▸Wp.operate h) λr w l q=>Wp.letGo (Wp.pure q))
def rP{i A X C:AO}(h:sliceOf i=U (A,X,C)):∃I R N p,i=.Slice I R N p/\A=O8 I/\X=O8 R/\C=O8 N:=by
 cases i<;>first|exact aa h|skip
 exact⟨_,_,_,_,H,((M7 (·.1) (Af h)).symm),((M7 (·.2.1) (Af h)).symm),((M7 (·.2.2) (Af h)).symm)⟩
def rQ(h:Wp (lv n) noOwn (eval (O8 a) env) R x):Wp (lv n) noOwn (KZ (evalOpt a env)) R x:=by cases a<;>exact h
def adU {o i R I N : AO} {p : Pos} {Qo : KE} {Ql : V → V → M5 → Prop} {Qh : V → V → V → M5 → Prop} {Qs : V → V → V → V → M5 → Prop} (hs : sliceOf i = U (R, I, N)) (ho : Wv (lv n) (eval o env) Qo x)
    (hl : ∀ z (y : Wd B), LN x y → Qo z y.σ → Wv (lv n) (eval R env) (Ql z) y) (hh : ∀ z a (y : Wd B), LN x y → Ql z a y.σ → Wv (lv n) (eval I env) (Qh z a) y) (ht : ∀ z a b (y : Wd B), LN x y → Qh z a b y.σ → Wv (lv n) (eval N env) (Qs z a b) y)
    (q : ∀ z a b c σ, Qs z a b c σ → R4 B (lv n) z a b c σ Q) : Wv (lv n) (eval (Hk o i p) env) Q x := by
  obtain ⟨R, I, N, sp, rfl, rfl, rfl, rfl⟩ := rP hs
  exact Wp.bz (fv := fun x => do
      let y ← holding [x] (do
        let l ← KZ (evalOpt R env)
        let u ← holding [l] (KZ (evalOpt I env))
        let t ← holding [l, u] (KZ (evalOpt N env))
        newFields "slice" [l, u, t])
      GV p; let r ← subscripted (.Slice R I N sp) (← FD x) x y; letTemporaryGo o x r; pure r) ho fun v y z l hv h =>
    Wp.bind (Wp.holding (Wp.bz (rQ (hl z y l h)) fun vl y1 A l1 X h => Wp.bz (Wp.holding (rQ (hh z A y1 (l.trans l1) h))) fun vh y2 zh l2 hvh h => Wp.bz (Wp.holding (rQ (ht z A zh y2 ((l.trans l1).trans l2) h))) fun vt y3 zt C hvt h =>
      q z A zh zt _ h y3 v vl vh vt H (((hv.le l1).le l2).le C) ((X.le l2).le C) (hvh.le C) hvt)) fun sl y4 Z h => Wp.ba (Wp.bind h fun b w Z h => by
        obtain ⟨rfl, h⟩ := h
        cases N <;> exact Wp.bind (Wp.operate h) fun r w l q => Wp.letGo (Wp.pure q))
def fj(pos:Pos)(l:List AO):(Qr pos env l).all (λz=>!z.1)=J:=by delta Qr LJ;rw[Jd,Jd];exact A3.mpr λZ Z=>H
def eD(h:∀e∈l,OI e=J):LJ pos (IH l env)=Qr pos env l:=M7 (LJ pos) (rM h)
def aa2(hp:∀e∈l,OI e=J)(h:Wp (lv n) noOwn (Hw (Qr p env l)) (LQ l.length R) x)(q:∀zs σ,R zs σ->Sw σ (AA zs) Q):Wv (lv n) (eval (.List l p) env) Q x:=
 Wp.ba (Wp.bind ((eD hp).symm▸h) λN y l h=>LQ.casesOn h λzs Z r h=>Wv.newList r (q zs _ h))
def adV(N:l.length<=100)(hp:∀e∈l,OI e=J)(h:Wp (lv n) noOwn (Hw (Qr p env l)) (LQ l.length R) x)(q:∀zs σ,R zs σ->Q (Bg zs) σ):Wv (lv n) (eval (Ib l k p) env) Q x:=
 Wp.ba (Wp.bind ((eD hp).symm▸h) λI y l h=>LQ.casesOn h λzs e r h=>Wv.newTuple r (e▸Aa N ae) (q zs _ h))
def aa3(I:Rh B fv)(hf:Wv (lv n) (eval (Dl f p) env) (λz σ=>z=Gj fv/\σ=x.σ) x)(hp:∀e∈args,OI e=J)
  (h:∀y,LN x y->y.σ=x.σ->Wp (lv n) noOwn (Hw (Qr pos env args)) (LQ args.length R) y) (q:∀zs σ,R zs σ->Ny B (lv n) fv zs σ Q):Wv (lv n) (eval (F0 (Dl f p) args [] pos) env) Q x:=
 Wp.bz (fv:=λf=>callWith pos f [] (LJ pos (IH args env)) []) hf λv y z l N e=>by obtain⟨rfl,e⟩:=e;obtain rfl:v=fv:=aq.inv N;rw[eD hp];exact Wp.callWith I (fj pos args) (h y l e) λA w Z h=>LQ.casesOn h λzs Z r h=>q zs _ h w A H r
def ve(h:args.length<=20):methodCallForm (args.length+0) (Qr pos env args) []=J:=by delta methodCallForm;rw[fj];exact N5<|Al h ae
def T4.call(N:aV)(hf:g.Is f)(q:T4 B n g zs x.σ Q)(r:Nq x vs zs):Wv (lv n) (call f vs []) Q x:=by
 cases g with
 |fn a=>subst hf;exact Wp.up (AD ..) (q x vs H r)
 |bl k=>exact N.blt q f hf x vs H r
def aa4(N:aV){R:V->Goes->LV->M5->Prop}(C:RJ o=J)(hm:WL m=U k)(hl:args.length<=20)(A:(I.endLine==pos.line)=J)(hp:∀e∈args,OI e=J)
  (ho:Wv (lv n) (eval o env) Qo x) (hq:∀z σ,Qo z σ->∃P,MethW B (lv n) z k σ P/\∀g y,P g->LN x y->y.σ=σ->Wp (lv n) noOwn (Hw (Qr pos env args)) (LQ args.length (R z g)) y)
  (q:∀z g zs σ,R z g zs σ->T4 B n g (z::zs) σ Q):Wv (lv n) (eval (F0 (Kp o m I) args [] pos) env) Q x:=
 Wp.bz (fv:=λov=>do GV I.atName;methodCall o m I pos env ov (args.length+0) (LJ pos (IH args env)) []) (Wp.of_eq (mJ C) ho) λv y z l X h=>Wp.ba (by
  obtain⟨P,⟨g,f,hf,hk,hP,hg⟩,h⟩:=hq z _ h;rw[eD hp];delta methodCall;rw[ve hl];refine Wp.bind (Wp.holding (adP hm▸hg y v _ H X)) λr w Z e=>?_;obtain⟨rfl,rfl⟩:=e
  have A:methodCallPos J o env I pos=pure pos:=by delta methodCallPos;rw[A];rfl
  refine Wp.eqB A (Wp.callWith hk (fj pos args) (h g w hP l H) λvs w2 l2 h=>LQ.casesOn h λzs Z r h=>T4.call N hf (q z g zs _ h) (Nq.cons (X.le l2) r)))
end
def Ut(n kv:Nat):=∀{kt env Γ ρ elt gs scope p e' Q} {x:Wd B},Th (Gl) (PJ (Gl) kt) env.scope Γ elt gs scope=U e'->Loc x env Γ ρ->O7 B n (kv+1) e' ρ x.σ Q->Wv (lv n) (eval (CE elt gs scope p) env) Q x
section
variable{n kv kt:Nat}{x y:Wd B}{env:Env}{Γ:NI}{ρ:NF}{Q:KE}
def adW[Decidable p]{a b:V}(h:(if p then U a else Y)=U b):a=b:=by
 by_cases q:p
 rw[Nt q]at h;exact Af h;rw[Np q]at h;exact aa h
def xu(h:WJ v=U (Gj f)):False:=by cases v<;>first|exact aa h|exact V.noConfusion (Af h)|exact V.noConfusion (adW h)
def tR(h:(if(c=="function"||c=="type")=J then U Y else Y)=U (Y:Option LVal)):∃d,An c=An d/\(d="function"\/d="type"):=by
 by_cases q:(c=="function"||c=="type")=J
 exact⟨c,H,(Cb.mp q).imp N2 N2⟩;rw[Np q]at h;exact aa h
def aa5(h:Wb o=U Y):∃c,o.cls=An c/\(c="function"\/c="type"):=by
 obtain⟨c,d,t,m⟩:=o
 cases c<;>first|exact aa h|skip
 cases d<;>first|exact tR h|skip
 cases t<;>first|exact tR h|skip
 case seq=>
  cases epoch<;>first|exact tR h|skip
  obtain⟨m⟩:=m
  cases m<;>first|exact tR h|skip
  change (if _ then _ else _)=_ at h
  by_cases q:(name=="tuple"&&decide (items.size<=Nh))=J
  ·rw[Nt q]at h;exact aa (Af h).symm
  ·rw[Np q]at h;exact aa h
def aa6{K:HW}{k:Nat}{v:AM}(h:∀a,v≠Ai a):toV K (k+1) v=WJ v:=by cases v<;>first|rfl|exact M9 rfl (h _)
def aa7{k:Nat}{v f:AM}(h:toV B.K (k+1) v=U (Gj f)):Rh B f:=by
 by_cases q:∃a,v=Ai a
 ·obtain⟨a,rfl⟩:=q;obtain⟨o,I,h⟩:=ag0 (h:Jj (B.K.lookup a) _=_)
  cases e:Wb o with
  |none=>rw[e]at h;exact aa h
  |some r=>
   rw[e]at h
   cases r with
   |none=>obtain⟨c,N,R⟩:=aa5 e;exact V.noConfusion (Af h) λq=>q▸mG (B.jc _ o I) N R
   |some A=>obtain⟨l,_,h⟩:=A4.mp h;exact V.noConfusion h
 exact(xu (aO (aa6 λa e=>q ⟨a,e⟩) h)).elim
def vg(h:Gl z=U (Gj f)):Rh B f:=by
 delta Gl WK at h
 cases e:nsIn B.K CU z with
 |none=>rw[e]at h;exact aa h
 |some r=>
  rw[e]at h
  cases r with
  |some u=>exact aa7 h
  |none=>
   change (if _ then Y else _)=_ at h
   by_cases q:(z=="__name__")=J
   rw[Nt q]at h;exact aa h;rw[Np q]at h;obtain⟨u,Z,h⟩:=ag0 h;refine fP λa e=>?_;subst e
   cases u<;>first|exact aa h| (cases h)
def pz(h:Ru (Gl) env.scope z=U f):(z==("__debug__":Str))=Am/\env.kindOf z=U Ei/\Gl z=U (Gj f):=by
 delta Ru at h
 cases N:z==("__debug__":Str)with
 |true=>rw[N]at h;exact aa h
 |false=>
  rw[N]at h
  change (match env.kindOf z with|some .globalImplicit=>_|_=>Y)=_ at h
  cases e:env.kindOf z with
  |none=>rw[e]at h;exact aa h
  |some k=>
   rw[e]at h
   cases k<;>first|exact aa h|skip
   obtain⟨v,R,h⟩:=ag0 h
   cases v<;>first|exact aa h|exact⟨rfl,rfl,Af h▸R⟩
def tS(h:Ru (Gl) env.scope z=U f)(L:Loc x env Γ ρ):Wv (lv n) (eval (Dl z p) env) (λv σ=>v=Gj f/\σ=x.σ) x:=by obtain⟨R,N,I⟩:=pz h;refine Wp.ba ?_;rw[R];exact Wv.pk L.eo N I ⟨H,H⟩
def aa8(h:WM f=U g):g.Is f:=by
 have I:(Pe.findIdx? (· ==f)).map Ec=U g->g.Is f:=λh=>by obtain⟨i,N,rfl⟩:=A4.mp h;obtain⟨R,e,_⟩:=Ck.mp N;show Pe[i]?=U f;rw[AY R];exact M7 U (N2 e)
 cases f<;>first|exact Af h▸rfl|exact I h
def rR{q:Type}{f:Sem AM->q}{ks:List (Option AO)}{vs:List AO}(h:ks.mapM (WQ (PJ (Gl) kt env.scope Γ))=U N)(R:ks.length=vs.length):
  (evalEachOpt ks env).zip ((IK vs env).map f)=(((ks.filterMap id).map λe=>eval e env).zip (vs.map λe=>f (eval e env))).map (λp=>(U p.1,p.2))/\(ks.filterMap id).length=ks.length:=by
 induction ks generalizing vs N with
 |nil=>cases vs with|nil=>exact⟨H,H⟩|cons=>cases R
 |cons k ks X=>
  obtain⟨z,zs,A,h2,rfl⟩:=ag4 h
  cases vs with
  |nil=>cases R
  |cons v vs=>
   cases k with
   |none=>exact aa A
   |some k=>obtain⟨I,C⟩:=X h2 (CV R);exact⟨M7 ((U (eval k env),f (eval v env))::·) I,M7 (· +1) C⟩
def aa9{vs:List AO}{R:NW->M5->Prop}(h:ks.mapM (WQ (PJ (Gl) kt env.scope Γ))=U X)(N:ks.length<=15/\ks.length=vs.length)
  (hd:∀y,y.σ=x.σ->LN x y->Wp (lv n) noOwn (IY (Us p env ks vs)) (DQ R) y) (h0:ks=[]->R [] x.σ) (q:∀zs σ,R zs σ->keysOk zs=J/\Sw σ (AE (Oa zs)) Q):Wv (lv n) (eval (.Dict ks vs p) env) Q x:=by
 refine Wp.ba ?_;obtain⟨C,A⟩:=rR h N.2;rw[C]
 cases ks with
 |nil=>exact Wv.newDict (q [] _ (h0 H)).2
 |cons k ks=>have I:(Us p env (k::ks) vs).length=(k::ks).length:=(List.length_zip ..).trans (by rw[Ak,Ak,A,<-N.2,Nat.min_self]);exact Wv.xo (λe=>Gx (aO (M7 CH e) I)) (I▸N.1) hd q
def pb{N:Type}{c:Prop}[Decidable c]{a:Option N}{b:N}(h:(if c then a else Y)=U b):c/\a=U b:=by
 by_cases q:c
 rw[Nt q]at h;exact⟨q,h⟩;rw[Np q]at h;exact aa h
set_option tactic.hygienic true in
def adj(N:aV)(ih:jd n kv)(hc:Ut n kv)(h:WX kt env Γ e e')(L:Loc x env Γ ρ)(hv:O7 B n (kv+1) e' ρ x.σ Q):Wv (lv n) (eval e env) Q x:=by
 cases kt with
 |zero=>exact aa h
 |succ kt=>
  cases e<;>first|exact aa h|skip
  case Constant c k p=>obtain⟨z,h1,rfl⟩:=A4.mp h;exact ahU h1 hv
  case Name z p=>exact Wp.ba (xt h L hv)
  case BinOp a op b p=>
   obtain⟨a',h1,h⟩:=ag0 h
   obtain⟨b',h2,h⟩:=ag0 h
   obtain rfl:=Af h
   exact adQ N (ih.e h1 L hv) (λz y l q=>ih.e h2 (L.le l) q) λZ Z Z q=>q
  case UnaryOp op a p=>
   obtain⟨a',h1,h⟩:=ag0 h
   obtain rfl:=Af h
   cases op
   case Not=>exact adR N (ih.e h1 L hv) λZ Z q=>q
   all_goals exact afe N (ih.e h1 L hv) λZ Z q=>q
  case BoolOp op l p=>
   obtain⟨l',h1,h⟩:=ag0 h
   obtain rfl:=Af h
   exact ih.bop h1 L hv
  case IfExp t a b p=>
   obtain⟨t',h1,h⟩:=ag0 h
   obtain⟨a',h2,h⟩:=ag0 h
   obtain⟨b',h3,h⟩:=ag0 h
   obtain rfl:=Af h
   refine adS (ih.t h1 L (λz σ q=>(a8 q).imp λZ h=>h.1) hv) λz y l q=>?_
   obtain⟨c,e,q⟩:=a8 q
   show V8 z y.σ _
   delta V8
   rw[e]
   exact aF (λe=>ih.e h2 (L.le l) (agd q e)) λe=>ih.e h3 (L.le l) (age q e)
  case Compare a ops l p=>
   obtain⟨a',h1,h⟩:=ag0 h
   obtain⟨l',h2,h⟩:=ag0 h
   obtain rfl:=Af h
   exact Wp.bz (ih.e h1 L hv) λv y z l hz q=>by
    rw[mI (cn h2)]
    exact Wp.mono (ih.cmp h2 (L.le l) hz q) λr w Z q=>BQ.casesOn q λb e q=>.mk (Bm b) (e▸aq.bool b) q
  case List l p=>
   obtain⟨l',h1,h⟩:=ag0 h
   obtain rfl:=Af h
   exact aa2 (cn h1) (ih.es h1 L hv) λZ Z q=>q
  case Tuple l k p=>
   obtain⟨hl,h⟩:=pb h
   obtain⟨l',h1,h⟩:=ag0 h
   obtain rfl:=Af h
   exact adV hl (cn h1) (ih.es h1 L hv) λZ Z q=>q
  case Dict ks vs p=>
   obtain⟨hl,h⟩:=pb h
   obtain⟨ks',h1,h⟩:=ag0 h
   obtain⟨vs',h2,h⟩:=ag0 h
   obtain rfl:=Af h
   refine aa9 h1 hl (λy e l=>ih.d h1 h2 (L.le l) (e▸hv)) (λe=>?_) λZ Z q=>q
   subst e
   obtain rfl:=Cy.mp hl.2.symm
   cases ag5 h1
   cases ag5 h2
   cases kv with
   |zero=>exact Bw hv
   |succ kv=>exact hv
  case ListComp elt gs scope p=>exact hc h L hv
  case Attribute o a p=>
   obtain⟨hs,h⟩:=pb h
   obtain⟨o',h1,h⟩:=ag0 h
   obtain⟨k,h2,h⟩:=ag0 h
   obtain rfl:=Af h
   exact aa1 hs h2 (ih.e h1 L hv) λZ Z q=>q
  case Subscript o i p=>
   change WR (PJ (Gl) kt env.scope Γ) o i=_ at h
   delta WR at h
   cases hs:sliceOf i with
   |none=>
    rw[hs]at h
    obtain⟨o',h1,h⟩:=ag0 h
    obtain⟨i',h2,h⟩:=ag0 h
    obtain rfl:=Af h
    exact adT N hs (ih.e h1 L hv) (λz y l q=>ih.e h2 (L.le l) q) λZ Z Z q=>q
   |some t=>
    rw[hs]at h
    obtain⟨lo,hi,st⟩:=t
    obtain⟨o',h1,h⟩:=ag0 h
    obtain⟨lo',h2,h⟩:=ag0 h
    obtain⟨hi',h3,h⟩:=ag0 h
    obtain⟨st',h4,h⟩:=ag0 h
    obtain rfl:=Af h
    exact adU hs (ih.e h1 L hv) (λz y l q=>ih.e h2 (L.le l) q) (λz a y l q=>ih.e h3 (L.le l) q) (λz a b y l q=>ih.e h4 (L.le l) q) λZ Z Z Z Z q=>q
  case Call f args kw p=>
   obtain⟨hl0,h'⟩:=pb h
   clear h
   obtain⟨hl1,hk⟩:=Ah.mp hl0
   clear hl0
   have hl:=Od hl1
   clear hl1
   cases kw with
   |cons=>cases hk
   |nil=>
    cases f<;>first|exact aa h'|skip
    case Name z q=>
     obtain⟨g,h1,h⟩:=ag0 h'
     obtain⟨fv,h3,hg⟩:=ag0 h1
     obtain⟨l',h2,h⟩:=ag0 h
     obtain rfl:=Af h
     refine aa3 (vg (pz h3).2.2) (tS h3 L) (cn h2) (λy l e=>ih.es h2 (L.le l) (e▸?_)) λzs σ q s vs e r=>T4.call N (aa8 hg) (e▸q) r
     cases g<;>exact hv
    case Attribute o m apos=>
     obtain⟨hc,h⟩:=pb h'
     obtain⟨hp,hs⟩:=Ah.mp hc
     obtain⟨o',h1,h⟩:=ag0 h
     obtain⟨k,hm,h⟩:=ag0 h
     obtain⟨l',h2,h⟩:=ag0 h
     obtain rfl:=Af h
     exact aa4 N hs hm hl hp (cn h2) (ih.e h1 L hv) (λz σ q=>⟨_,q,λg y hP l e=>ih.es h2 (L.le l) (e▸hP)⟩) λZ Z Z Z q=>q
def jH (N : aV) {e : AO} {p : Pos} (X : ∀ z σ, Q z σ → ∃ b, Oz z = U b) (A : Wv (lv n) (eval e env) Q x) (I : Lj e env (eval e env) = (do let v ← eval e env; GV p; holding [v] (JB v))) : Wp (lv n) noOwn (Lj e env (eval e env)) (TQ Q) x :=
  Wp.of_eq I (Wp.bz A fun v y z l R q => Wp.ba ((X z _ q).elim fun b e => fun Z Z => ag2 (N.V8 R e (.mk y H (LE.refl _) (.mk z e q)))))
set_option tactic.hygienic true in
def aff(N:aV)(ih:jd n kv)(he:Wv (lv n) (eval e env) Q x)(h:WX kt env Γ e e')(L:Loc x env Γ ρ)(hQ:∀z σ,Q z σ->∃b,Oz z=U b)(hv:O7 B n (kv+1) e' ρ x.σ Q):Wp (lv n) noOwn (Lj e env (eval e env)) (TQ Q) x:=by
 cases kt with
 |zero=>exact aa h
 |succ kt=>
  cases e<;>first|exact jH N hQ he rfl|skip
  case UnaryOp op a p=>
   cases op<;>first|exact jH N hQ he rfl|skip
   obtain⟨a',h1,h⟩:=ag0 h
   obtain rfl:=Af h
   exact Wp.bind (ih.t h1 L (λz σ q=>(a8 q).imp λZ h=>h.1) hv) λb y l q=>TQ.casesOn q λz e q=>by
    obtain⟨b',e',q⟩:=a8 q
    obtain rfl:=Af (aO e e')
    exact Wp.pure (.mk _ H q)
  case BoolOp op l p=>
   obtain⟨l',h1,h⟩:=ag0 h
   obtain rfl:=Af h
   exact ih.at_ h1 L hQ hv
  case IfExp t a b p=>
   obtain⟨t',h1,h⟩:=ag0 h
   obtain⟨a',h2,h⟩:=ag0 h
   obtain⟨b',h3,h⟩:=ag0 h
   obtain rfl:=Af h
   exact Wp.bind (ih.t h1 L (λz σ q=>(a8 q).imp λZ h=>h.1) hv) λc y l q=>TQ.casesOn q λz e q=>by
    obtain⟨b',e',q⟩:=a8 q
    obtain rfl:=Af (aO e e')
    cases c
    ·exact ih.t h3 (L.le l) hQ q
    ·exact ih.t h2 (L.le l) hQ q
  case Compare a ops l p=>
   obtain⟨a',h1,h⟩:=ag0 h
   obtain⟨l',h2,h⟩:=ag0 h
   obtain rfl:=Af h
   exact Wp.bz (ih.e h1 L hv) λv y z l hz q=>by
    rw[mI (cn h2)]
    exact Wp.mono (ih.YA h2 (L.le l) hz q) λb w Z q=>.mk _ H q
def xv(N:aV)(R:jd n kv)(X:Ut n kv):jd n (kv+1) where
 e:=adj N R X
 es:=adL R
 d:=afd R
 bop:=aaY N R
 cmp:=λh L A I=>(tP N R h L A I).1
 YA:=λh L A I=>(tP N R h L A I).2
 t:=λh L C I=>aff N R (adj N R X h L I) h L C I
 at_:=adM R
def Q2(o:Option O):Option LV:=match o with
 |some (.list l)=>U l
 |_=>Y
abbrev partsOf(x:V)(σ:M5):Option LV:=match x with
 |.tup l=>U l
 |.lst l=>U l
 |.ref a=>Q2 (σ a)
 |_=>Y
def T7(N:NF->M5->Prop)(K:Kt):Kt:=⟨N,K.rt,N⟩
end
abbrev forL(body:NF->M5->Kt->Prop)(bind:V->NF->M5->(NF->M5->Prop)->Prop)(K:Kt):LV->NF->M5->Prop
 | [],ρ,σ=>K.nx ρ σ
 |x::xs,ρ,σ=>bind x ρ σ λρ σ=>body ρ σ (T7 (forL body bind K xs) K)
inductive XQ {α:Type} (env:Env) (Γ:NI) (R:α->NF->Wd B->Prop) (r:α) (y:Wd B):Prop
 |mk (ρ':NF):Loc y env Γ ρ'->R r ρ' y->XQ env Γ R r y
abbrev Wx{α:Type}(n:Nat)(env:Env)(Γ:NI)(t:Sem α)(R:α->NF->Wd B->Prop)(x:Wd B):=Wp n (ownOf env) t (XQ env Γ R) x
def VY(env:Env)(Γ:NI)(K:Kt)(fl:Flow)(y:Wd B):=match fl with
 |.next=>∃ρ',Loc y env Γ ρ'/\K.nx ρ' y.σ
 |.cont=>∃ρ',Loc y env Γ ρ'/\K.ct ρ' y.σ
 |.ret v=>dS K.rt v y
 |.brk=>False
section
variable(n:Nat)
def Og(t:E)(b:List S)(ρ:NF)(σ:M5)(K:Kt):=
 ∀k env Γ test body,PJ (Gl) k env.scope Γ test=U t->body.mapM (Ww (Gl) k env.scope Γ)=U b->
  ∀x,x.σ=σ->Loc x env Γ ρ->∀A,ef (lv n) A->codeAny B.M A (.whileLoop test body [] env) (λr s'=>match r with
   |.ok fl=>aP (ownOf env) x (VY env Γ K) fl s'
   |.error _=>False) x.sh
abbrev KR:=NF->M5->Prop
def YW(j:Nat)(x:V)(ρ:NF)(c:KR)(ov:V)(σ:M5):=RG B (lv n) ov j x σ (c ρ)
def Yr(x:V)(ρ:NF)(c:KR)(ov iv:V)(σ:M5):=RH B (lv n) ov iv x σ (c ρ)
def YX(k:Nat)(i:E)(x:V)(ρ:NF)(c:KR)(ov:V)(σ:M5):=O7 B n k i ρ σ (Yr n x ρ c ov)
abbrev asK(f:List T->LV->NF->M5->KR->Prop)(ts:List T)(xs:LV)(c:KR)(ρ:NF)(σ:M5):=f ts xs ρ σ c
def Zk(f:List T->LV->NF->M5->KR->Prop)(ts:List T)(ρ:NF)(σ:M5)(c:KR)(l:LV):Prop:=match BU l.length ts.length with
 |true=>f ts l ρ σ c
 |false=>False
mutual
noncomputable def O2:Nat->T->V->NF->M5->(NF->M5->Prop)->Prop
 |0,_,_,_,_,_=>False
 |k+1,t,x,ρ,σ,c=>match t with
  |.nm i=>c (NM ρ i x) σ
  |.attr o m=>O7 B n k o ρ σ (YW n m x ρ c)
  |.sub o i=>O7 B n k o ρ σ (YX n k i x ρ c)
  |.tup ts=>TP (partsOf x σ) (Zk (XD k) ts ρ σ c)
noncomputable def XD:Nat->List T->LV->NF->M5->(NF->M5->Prop)->Prop
 |0,_,_,_,_,_=>False
 |k+1,ts,xs,ρ,σ,c=>match ts,xs with
  | [],[]=>c ρ σ
  |t::ts,x::xs=>O2 k t x ρ σ (asK (XD k) ts xs c)
  |_,_=>False
end
def X9(ρ:NF)(c:KR)(_:V)(σ:M5):=c ρ σ
def Zl(f:V->NF->M5->KR->Prop)(ρ:NF)(c:KR)(x:V)(σ:M5):=f x ρ σ c
def Yb(body:NF->M5->Kt->Prop)(bind:V->NF->M5->KR->Prop)(ρ:NF)(K:Kt)(xs:LV)(σ:M5):=forL body bind K xs ρ σ
def YY(body:NF->M5->Kt->Prop)(bind:V->NF->M5->KR->Prop)(ik:Nat)(ρ:NF)(K:Kt)(vs:LV)(σ:M5):=R2 ik vs σ (Yb body bind ρ K)
def Nl(f:List S->NF->M5->Kt->Prop)(r:List S)(K:Kt):Kt:=match r with
 | []=>K
 |s::r=>⟨λρ σ=>f (s::r) ρ σ K,K.rt,K.ct⟩
mutual
noncomputable def We:Nat->S->NF->M5->Kt->Prop
 |0,_,_,_,_=>False
 |k+1,s,ρ,σ,K=>match s with
  |.expr e=>O7 B n k e ρ σ (X9 ρ K.nx)
  |.asg t e=>O7 B n k e ρ σ (Zl (O2 n k t) ρ K.nx)
  |.ret e=>O7 B n k e ρ σ K.rt
  |.j4 t a b=>O7 B n k t ρ σ (Vv (brK (Na k a ρ) (Na k b ρ) K))
  |.dN t b=>Og n t b ρ σ K
  |.XX t ik its b=>Rt B n k its ρ σ (YY (Na k b) (O2 n k t) ik ρ K)
  |.cont=>K.ct ρ σ
  |.pass=>K.nx ρ σ
  |.raise=>False
  |.Yz b=>Na k b ρ σ K
noncomputable def Na:Nat->List S->NF->M5->Kt->Prop
 |0,_,_,_,_=>False
 |k+1,l,ρ,σ,K=>match l with
  | []=>K.nx ρ σ
  |s::r=>We k s ρ σ (Nl (Na k) r K)
end
end
section
variable{n:Nat}{α β:Type}{x y:Wd B}{env:Env}{Γ:NI}{ρ:NF}{own:AG->Prop}
def Loc.az(L:Loc x env Γ ρ)(l:LE (ownOf env) x.toSt y.toSt):Ou x.toSt y.toSt:=λa o e f=>(l.1 a o (λq=>(L.bj a q).2 f.2) e f.1).imp_right λr=>⟨r.1,r.2.mpr f.2⟩
def Rd.leX(h:Rd x v z)(L:Loc x env Γ ρ)(l:LE (ownOf env) x.toSt y.toSt):Rd y v z:=aq.az (L.az l) h
def Nq.leX(h:Nq x v z)(L:Loc x env Γ ρ)(l:LE (ownOf env) x.toSt y.toSt):Nq y v z:=aE.az (L.az l) h
def Tx(x:St)(h:Heap)(t:Nat):St:=⟨{x.sh with heap:=h,toks:=t},x.φ,x.σ⟩
def kJ{x:St}{h:Heap}{T:AG->Prop}(p:∀a,T a->NQ x a)(N:∀a o,¬T a->x.get? a=U o->h.get? a=U o):du x (Tx x h t) T:=
 ⟨λa t f=>(p a t).2 f.2,λd Z t e=>aa ((p d t).1.symm.trans e),λa o e t=>⟨N a o t e,H,GF⟩⟩
def aba{T:AG->Prop}(p:∀a,T a->NQ x.toSt a)(N:∀a o,¬T a->x.get? a=U o->h.get? a=U o):Ok B (Tx x.toSt h t):=
 (kJ p N).ok x.ok (λa Z c e=>c.elim (λt=>aa ((p a t).1.symm.trans e)) λg=>aa (aO (x.aW g) e)) (λa c q=>c.elim (λt=>M9 q (p a t).2) λg=>M9 q (x.cw g)) H H
abbrev Wd.bj(x:Wd B){h:Heap}(t:Nat){T:AG->Prop}(p:∀a,T a->NQ x.toSt a)(hk:∀a o,¬T a->x.get? a=U o->h.get? a=U o):Wd B:=⟨Tx x.toSt h t,aba p hk⟩
def dx{x:St}{h:Heap}{T:AG->Prop}(p:∀a,T a->NQ x a)(N:∀a o,¬T a->x.get? a=U o->h.get? a=U o)(R:∀a,T a->own a):LE own x (Tx x h t):=
 (kJ p N).le (λa t=>Aw (R a t)) λZ Z q=>q
def kK(h:(NM ρ i z)[j]?=U r):(i=j/\r=U z)\/(i≠j/\ρ[j]?=U r):=by
 delta NM at h
 by_cases q:i=j
 ·subst q
  by_cases N:i<ρ.length
  rw[FO N]at h;exact Aw ⟨H,(Af h).symm⟩;rw[D4 (by rw[DS];exact Di N)]at h;exact aa h
 rw[List.getElem?_set_ne q]at h;exact AN ⟨q,h⟩
def Heap.Ns.uniq{h:Heap}{m m':Str->Option AM}(p:h.Ns a m)(q:h.Ns a m'):m=m':=by
 obtain⟨o,es,ep,C,R,_,e4⟩:=p;obtain⟨o',X,Q,I,A,_,N⟩:=q
 cases C.symm.trans I
 cases R.symm.trans A
 exact funext λz=>aO (e4 z)<|N z
def Wx.bindG(L:Loc x env Γ ρ)(hk:env.kindOf z=U NameKind.local\/env.kindOf z=U BA)(hi:slot Γ z=U i)(hv:Rd x v u)
  (ho:own env.locals) (ho2:∀c,env.kindOf z=U BA->env.cells.lookup z=U c->own c) (q:∀y,y.σ=x.σ->R () (NM ρ i u) y):Wp n own (Ka env z v) (XQ env Γ R) x:=λA Z=>by
 have hΓ:=gx hi;have hkn:env.kindOf z≠Y:=λe=>hk.elim (λh=>aa (aO e h)) λh=>aa (aO e h)
 have fin:∀{Q} {t} {c},ownOf env c->own c->CJ c x.sh.heap Q->(∃m,Q.Ns env.locals m)->(∀z d,env.cells.lookup z=U d->∃v,Q.IsCell d v)->Var env Q z v->
   (∀X u,X≠z->Var env x.sh.heap X u->Var env Q X u)->aP own x (XQ env Γ R) () {x.sh with heap:=Q,toks:=t}:=λ{Q t c} C hoc I hns N hz ho=>by
  have p:∀a,a=c->NQ x.toSt a:=λa e=>L.bj a (e▸C);have hk:∀a o,¬a=c->x.get? a=U o->Q.get? a=U o:=λa o n e=>(I.2 a n).trans e;have l:LE (ownOf env) x.toSt (x.bj t p hk).toSt:=dx p hk λa e=>e▸C;refine .mk (x.bj t p hk) H (dx p hk λa e=>e▸hoc)<|.mk (NM ρ i u) ⟨L.eo,hns,L.bj,N,(DS ..).trans L.len,L.nd,λj X r h1 h2 h3=>?_⟩<|q _ H
  rcases kK h2 with⟨rfl,e⟩|⟨hj,h2⟩
  obtain rfl:=Af (aO hΓ h1);obtain rfl:=Af e;exact⟨v,hz,hv.leX L l⟩;obtain⟨w,hw,hr⟩:=L.vars j X r h1 h2 h3;exact⟨w,ho X w (λe=>hj (L.nd i j z hΓ (e▸h1) hkn)) hw,hr.leX L l⟩
 refine ahD ?_;rcases hk with hk|hk
 ·obtain⟨m,hm⟩:=L.ns;refine ahm hk hm (λQ hn I=>?_) (by rw[L.eo.kind];rfl);refine fin (Aw H) ho I ⟨_,hn⟩ (λz d hz=>(L.cells z d hz).imp λZ c=>c.sameBut I (L.eo.cells z d hz)) (.loc _ hk hn (Nt H)) λX w hne hw=>?_
  cases hw with
  |loc m' a b c=>exact .loc _ a hn ((Np hne).trans (Heap.Ns.uniq hm b▸c))
  |cell d a b c=>exact HY d a b (c.sameBut I (L.eo.cells _ _ b))
  |free d a b c=>exact .free d a b (c.sameBut I (L.eo.cells _ _ b))
 obtain⟨c,C⟩:=L.eo.has z (Aw hk);obtain⟨v0,hv0⟩:=L.cells z c C;have hne:=L.eo.cells z c C;refine up<|PySem.wpAny_storeName_cell L.eo.kind hk C hv0 λQ N I=>fin (AN ⟨z,C⟩) (ho2 c hk C) I (L.ns.imp λZ q=>q.sameBut I hne.symm) (λX d hd=>?_) (HY c hk C N) λX w hz hw=>?_
 ·by_cases e:d=c
  ·exact⟨_,e▸N⟩
  ·exact(L.cells X d hd).imp λZ q=>q.sameBut I e
 cases hw with
 |loc m' a b d=>exact .loc _ a (b.sameBut I hne.symm) d
 |cell d a b f=>exact HY d a b (f.sameBut I λe=>hz (L.eo.inj X z c (e▸b) C))
 |free d a b f=>exact .free d a b (f.sameBut I λe=>hz (L.eo.inj X z c (e▸b) C))
def Wx.tT(L:Loc x env Γ ρ)(A:env.kindOf z=U NameKind.local\/env.kindOf z=U BA)(N:slot Γ z=U i)(I:Rd x v u)
  (q:∀y,y.σ=x.σ->R () (NM ρ i u) y):Wx n env Γ (Ka env z v) R x:=Wx.bindG L A N I (Aw H) (λc Z h=>AN ⟨z,h⟩) q
end
set_option backward.match.sparseCases true
section
variable{n kv kt:Nat}{x y:Wd B}{env:Env}{Γ:NI}{ρ:NF}{own:AG->Prop}
def vi{E:O3}{items:Array AM}(hne:t≠it)(n:Nat):∀i s Q,s.heap.IsListIter it t i->s.heap.IsList t items->i+n<=items.size->
  (∀h',h'.IsListIter it t (i+n)->CJ it s.heap h'->Q ((items.toList.drop i).take n) {s with heap:=h'})->wpAny B.M A (draw (Ai it) n) Q E s:=by
 induction n with
 |zero=>exactλi s Q X Z Z hQ=>agZ (hQ s.heap X (Heap.SameBut.refl ..))
 |succ n ih=>
  intro i s Q X ht hle hQ;have q:=AP (Bz (DJ n)) hle;refine agY<|up<|JA X ht (Kx q) λh₁ R N=>?_
  refine agY<|ag2<|ih (i+1) _ _ R (ht.extBut N.extBut hne) (BW i n 1▸hle) λh₂ I C=>agZ ?_
  have:=hQ h₂ (by rw[<-Bf,BW];exact I) (N.trans C);rw[(Cn q:items.toList.drop i=items[i]::items.toList.drop (i+1)),List.take_succ_cons]at this;exact this
def pA{E:O3}{s:AZ}{items:Array AM}{Q:LVal->AZ->Prop}(hh:A.handled=Y)(X:s.heap.IsList t items)
  (hQ:∀h',JG s.heap.objs.size s.heap h'->Q items.toList {s with heap:=h'}):wpAny B.M A (K0 (Ai t) items.size Y) Q E s:=by
 have C:t≠s.heap.objs.size:=X.elim λo h=>CQ (BV h.1);delta K0;refine agY ?_;delta notIterableAtAll;refine agY<|up<|Bj X.typeIs slot_list_iter.lookup<|agZ<|agY<|ag2<|up<|Hc X<|agY<|ag2<|vi C items.size 0 _ _ ⟨_,BK _ H,H,H⟩ (X.push _) (Ap (A1 _)) λh₁ R N=>?_
 rw[(C0 (AH _):Jx items.size (Ft 0 items.toList)=items.toList)];rw[Np (Fj _:¬items.toList.length<items.size)];exact agY<|ag2<|up<|JW hh R ((X.push _).extBut N.extBut C:h₁.IsList t items) (FA (Ap (A1 _).symm)) λq I=>agZ<|hQ q λb o hb e=>I b o hb<|N.extBut b o hb<|Be _ e
def rS{x:Wd B}{h:Heap}{t:Nat}(g:JG x.sz x.sh.heap h):∀a o,¬noOwn a->x.get? a=U o->h.get? a=U o:=λa o Z e=>g a o (CQ (BV e)) e
set_option tactic.hygienic true in
def Wp.unpack{l:LV}{R:LVal->Wd B->Prop}(hv:Rd x v z)(hp:partsOf z x.σ=U l)(q:∀vs y,y.σ=x.σ->LN x y->Nq y vs l->R vs y):Wp n noOwn (K0 v l.length Y) R x:=by
 have fin:∀{vs} {h},Nq x vs l->JG x.sz x.sh.heap h->aP noOwn x R vs {x.sh with heap:=h}:=λ{vs h} r g=>by
  have hk:=rS (t:=x.sh.toks) g
  have le:LE noOwn x.toSt (x.bj x.sh.toks (λZ q=>q.elim) hk).toSt:=dx (λZ q=>q.elim) hk λZ q=>q
  exact .mk (x.bj x.sh.toks (T:=noOwn) (λZ q=>q.elim) hk) H le (q _ _ H le (r.le le))
 have lst:∀{a} {vs} {m},v=Ai a->x.get? a=U (OG vs m)->Nq x vs l->Wp n noOwn (K0 v l.length Y) R x:=λ{a vs m} e ho r A rm=>by
  subst e
  rw[<-r.length,show vs.length=vs.toArray.size from H]
  exact pA rm.handled ⟨_,ho,H,m,H⟩ λh' he=>fin r he
 cases z<;>first|exact aa hp|skip
 case tup l'=>
  cases Af hp
  obtain⟨a,vs,m,rfl,ho,_,_,r⟩:=aq.inv hv
  refineλA rm=>?_
  rw[<-Nq.length (x:=x) r,show vs.length=vs.toArray.size from H]
  exact Tp.up<|PySem.wpAny_unpackItems_tuple rm.handled ⟨_,ho,H,m,H⟩ λh' he=>fin r he
 case lst l'=>
  cases Af hp
  obtain⟨a,vs,m,e,ho,_,_,r⟩:=aq.inv hv
  exact lst e ho r
 case ref a=>
  change Q2 (x.σ a)=_ at hp
  cases e:x.σ a with
  |none=>rw[e]at hp;exact aa hp
  |some o=>
   rw[e]at hp
   cases o<;>first|exact aa hp|skip
   cases Af hp
   obtain⟨vs,m,ho,_,r⟩:=x.listAt e
   exact lst (aq.inv hv) ho r
def Wp.pB{vs N:LVal}{R:Unit->Wd B->Prop}(q:R () x):Wp n own (Kz vs N) R x:=λZ Z=>gT (.mk x H (LE.refl _) q) _
def Wx.bind{I β:Type}{t:Sem I}{f:I->Sem β}{P:I->NF->Wd B->Prop}{R:β->NF->Wd B->Prop}(h:Wx n env Γ t P x)(k:∀r N y,LE (ownOf env) x.toSt y.toSt->Loc y env Γ N->P r N y->Wx n env Γ (f r) R y):Wx n env Γ (t>>=f) R x:=
 Wp.bind h λr y l q=>XQ.casesOn q λN L q=>k r N y l L q
def Wx.ofW{N:Type}{t:Sem N}{P:N->Wd B->Prop}{R:N->NF->Wd B->Prop}(L:Loc x env Γ ρ)(h:Wp n noOwn t P x)(k:∀r y,LN x y->P r y->R r ρ y):Wx n env Γ t R x:=
 Wp.afc L (Wp.mono h λr y l q=>.mk ρ (L.le l) (k r y l q))
abbrev plainT:AO->Bool
 |.Starred .. =>Am
 |_=>J
def ix{l:List AO}(h:∀e∈l,plainT e=J):Hd l env=l.map λe=>(Am,ES e env):=by
 induction l with
 |nil=>rfl
 |cons e r I=>
  have N:Hd (e::r) env=(Am,ES e env)::Hd r env:=by
   have:=h e (As ..)
   cases e<;>first|rfl|cases this
  rw[N,I λe R=>h e (Au _ R)];rfl
def jf(h:Xw (Gl) kt env.scope Γ e=U t):plainT e=J:=by
 cases kt with
 |zero=>exact aa h
 |succ kt=>cases e<;>first|rfl|exact aa h
def dU{N R:Type}{f:N->Option R}{l:List N}{m:List R}(h:l.mapM f=U m):m.length=l.length:=by
 induction l generalizing m with
 |nil=>cases ag5 h;rfl
 |cons a l I=>obtain⟨z,X,_,A,rfl⟩:=ag4 h;exact M7 (· +1) (I A)
def pE{Q:LV->Prop}(h:TP (partsOf z σ) Q):∃l,partsOf z σ=U l/\Q l:=by
 cases e:partsOf z σ with
 |none=>rw[e]at h;exact h.elim
 |some l=>rw[e]at h;exact⟨l,H,h⟩
def rT (o i : AO) (p : Pos) (env : Env) (v : AM) : ∃ I : AM → AM → LVal, ES (Hk o i p) env v = (do
    let N ← E7 [v] (eval o env)
    let R ← E7 [v, N] (eval i env)
    GV p
    E7 [v, N, R] (setItem N R v)
    Kz (I N R) []) := ⟨fun N R => match i with | .Slice _ _ Y _ => [R, v, N] | _ => [v, N, R], H⟩
def xw{p:Prop}(h:match BU a b with|true=>p|false=>False):a=b/\p:=by
 cases e:BU a b with
 |false=>rw[e]at h;exact h.elim
 |true=>rw[e]at h;exact⟨BE e,h⟩
structure Ys (n kv:Nat):Prop where
 a:∀{kt env Γ ρ t t' v z} {c:NF->M5->Prop} {x:Wd B},Xw (Gl) kt env.scope Γ t=U t'->Loc x env Γ ρ->Rd x v z->O2 n kv t' z ρ x.σ c->Wx (lv n) env Γ (ES t env v) (λZ ρ' y=>c ρ' y.σ) x
 as:∀{kt env Γ ρ ts ts' vs zs} {c:NF->M5->Prop} {x:Wd B},(List.mapM (Xw (Gl) kt env.scope Γ) ts)=U ts'->zs.length=ts.length->Loc x env Γ ρ->Nq x vs zs->XD n kv ts' zs ρ x.σ c->Wx (lv n) env Γ (En (ts.map λe=>ES e env) vs) (λZ ρ' y=>c ρ' y.σ) x
set_option tactic.hygienic true in
set_option backward.match.sparseCases false in
def afg (S : ∀ kv, jd n kv) (kv : Nat) : Ys n kv := by
  induction kv with
  | zero => exact ⟨fun Z Z Z h => Bw h, fun Z Z Z Z h => Bw h⟩
  | succ kv ih =>
    refine ⟨fun {kt env Γ ρ t t' v z c x} ht L hv h => ?_, fun {kt env Γ ρ ts ts' vs zs c x} ht hl L hv h => ?_⟩
    · cases kt with
      | zero => exact aa ht
      | succ kt =>
        cases t <;> first | exact aa ht | skip
        case Name id p =>
          have go : ∀ {k : Fw}, env.kindOf id = U k → (k = NameKind.local ∨ k = BA) → (slot Γ id).map Eg = U t' → Wx (lv n) env Γ (ES (Dl id p) env v) (fun Z ρ' y => c ρ' y.σ) x := fun {k} hk hc ht => by
            obtain ⟨i, hi, rfl⟩ := A4.mp ht
            exact Wp.ba (Wx.tT L (hc.imp (fun e => hk.trans (M7 U e)) fun e => hk.trans (M7 U e)) hi hv fun y e => e ▸ h)
          change (match env.kindOf id with | some .local | some .cell => _ | _ => Y) = _ at ht
          cases e : env.kindOf id with
          | none => rw [e] at ht; exact aa ht
          | some k =>
            rw [e] at ht
            cases k <;> first | exact aa ht | skip
            · exact go e (Aw H) ht
            · exact go e (AN H) ht
        case Attribute o a p =>
          obtain ⟨o', h1, ht⟩ := ag0 ht
          obtain ⟨m, h2, ht⟩ := ag0 ht
          obtain rfl := Af ht
          refine Wx.ofW L ?_ fun Z Z Z q => q
          exact Wp.bz (Wp.holding ((S kv).e h1 L h)) fun u y z l hu q =>
            Wp.ba (Wp.bind (Wp.holding (xr h2 ▸ q y u v H hu (hv.le l))) fun Z w Z q => Wp.pB q)
        case Subscript o i p =>
          obtain ⟨o', i', h1, h2, rfl⟩ : ∃ o' i', WX kt env Γ o o' ∧ WX kt env Γ i i' ∧ t' = .sub o' i' := by
            change (match sliceOf i with | some _ => Y | none => _) = _ at ht
            cases hs : sliceOf i with
            | some => rw [hs] at ht; exact aa ht
            | none =>
              rw [hs] at ht
              obtain ⟨o', h1, ht⟩ := ag0 ht
              obtain ⟨i', h2, ht⟩ := ag0 ht
              exact ⟨o', i', h1, h2, (Af ht).symm⟩
          refine Wx.ofW L ?_ fun Z Z Z q => q
          obtain ⟨rel, he⟩ := rT o i p env v
          rw [he]
          exact Wp.bz (Wp.holding ((S kv).e h1 L h)) fun u y z l hu q => Wp.bz (Wp.holding ((S kv).e h2 (L.le l) q)) fun u2 y2 z2 l2 hu2 q =>
            Wp.ba (Wp.bind (Wp.holding (q y2 u u2 v H (hu.le l2) hu2 ((hv.le l).le l2))) fun Z w Z q => Wp.pB q)
        case Tuple l k p =>
          obtain ⟨l', h1, ht⟩ := ag0 ht
          obtain rfl := Af ht
          obtain ⟨zs, hp, h⟩ := pE h
          obtain ⟨hl, h⟩ := xw h
          refine Wp.ba ?_
          delta PySem.unpack
          rw [ix (fun e he => (kF h1 e he).elim fun Z => jf : ∀ e ∈ l, plainT e = J)]
          have hst : (l.map fun e => (Am, ES e env)).findIdx? (·.1) = Y := GX.mpr fun y hy => by
            obtain ⟨e, _, rfl⟩ := A0.mp hy; rfl
          rw [hst, (by rw [Ak, hl, dU h1] : (l.map fun e => (Am, ES e env)).length = zs.length)]
          refine Wx.bind (Wp.holding (Wx.ofW (R := fun vs ρ' y => ρ' = ρ ∧ y.σ = x.σ ∧ Nq y vs zs) L (Wp.unpack (R := fun vs y => y.σ = x.σ ∧ Nq y vs zs) hv hp fun vs y e Z r => ⟨e, r⟩) fun Z Z Z q => ⟨H, q⟩)) fun vs ρ' y l' L' q => ?_
          obtain ⟨rfl, e, r⟩ := q
          rw [Bo]
          exact ih.as h1 (hl.trans (dU h1)) L' r (e ▸ h)
    · cases ts with
      | nil =>
        cases ag5 ht
        cases zs with
        | nil => exact hv.e0 (CL := fun vs => Wx (lv n) env Γ (En [] vs) _ x) (Wp.pure (.mk ρ L h))
        | cons => cases hl
      | cons t ts =>
        obtain ⟨t', ts', h1, h2, rfl⟩ := ag4 ht
        cases zs with
        | nil => cases hl
        | cons z zs =>
          exact hv.dp (CL := fun vs => Wx (lv n) env Γ (En ((t :: ts).map fun e => ES e env) vs) _ x) fun u us a b =>
            Wx.bind (Wp.holding (ih.a h1 L a h)) fun Z ρ' y l L' q => ih.as h2 (CV hl) L' (b.leX L l) q
end
set_option backward.match.sparseCases false
set_option backward.match.sparseCases true
section
variable{n:Nat}{x y:Wd B}{own:AG->Prop}
def Ou.refl(x:St):Ou x x:=λZ Z e f=>⟨e,f⟩
def Ou.trans{x y z:St}(h:Ou x y)(k:Ou y z):Ou x z:=λa o e f=>k a o (h a o e f).1 (h a o e f).2
def After(own:AG->Prop)(x y:St):=(∀a,own a->(∀o,x.get? a=U o->y.get? a=U o)/\NQ y a)/\Ou x y
def Xn(own:AG->Prop)(x:St):=∀a,own a->NQ x a/\∃o,x.get? a=U o
inductive gG (own:AG->Prop) (y:Wd B) (R:Wd B->Prop) (s:AZ):Prop
 |mk (z:Wd B):z.sh=s->z.σ=y.σ->LE own y.toSt z.toSt->R z->gG own y R s
def It(I:AG)(own:AG->Prop)(tg:AO->Prop):LV->Wd B->Prop
 | [],x=>Xn own x.toSt/\∀y,After own x.toSt y.toSt->∀A,A.handled=Y->∀E,wpAny B.M A (KA (Ai I)) (λr s=>r=Y/\gG own y (λZ=>True) s) E y.sh
 |u::l,x=>Xn own x.toSt/\∀y,After own x.toSt y.toSt->∀A,A.handled=Y->∀E,wpAny B.M A (KA (Ai I)) (λr s=>∃v,r=U v/\∀t,tg t->∀E,
   wpAny B.M A (FC t (Ai I) v) (λZ s=>gG own y (λz=>Rd z v u/\It I own tg l z) s) E s) E y.sh
def xx{N:Type}{own:AG->Prop}{y:Wd B}{R:Wd B->Prop}{t:Sem N}{A:CP}{E:O3}{s:AZ}{j:N->AZ->Prop}(h:wpAny B.M A t (λZ s=>gG own y R s) PI s)(k:∀r z,z.σ=y.σ->LE own y.toSt z.toSt->R z->j r z.sh):wpAny B.M A t j E s:=
 ag1 h (λr Z q=>gG.casesOn q λz e a b c=>e▸k r z a b c) λZ Z f=>f.elim
section
variable{I:AG}{own:AG->Prop}{tg:AO->Prop}{x y:Wd B}{A:CP}{E:O3}{j:Option AM->AZ->Prop}
def It.done(h:It I own tg [] x)(N:After own x.toSt y.toSt)(R:A.handled=Y)(k:∀z:Wd B,z.σ=y.σ->LE own y.toSt z.toSt->j Y z.sh):wpAny B.M A (KA (Ai I)) j E y.sh:=
 ag1 (h.2 y N A R E) (λr Z q=>gG.casesOn q.2 λz e a b Z=>q.1▸e▸k z a b) λZ Z f=>f
def It.step{u:V}{l:LV}(h:It I own tg (u::l) x)(N:After own x.toSt y.toSt)(R:A.handled=Y)
  (k:∀v s,(∀t,tg t->∀E,wpAny B.M A (FC t (Ai I) v) (λZ s=>gG own y (λz=>Rd z v u/\It I own tg l z) s) E s)->j (U v) s):wpAny B.M A (KA (Ai I)) j E y.sh:=
 ag1 (h.2 y N A R E) (λr s q=>q.elim λv q=>q.1▸k v s q.2) λZ Z f=>f
end
def It.has{I:AG}{N:AO->Prop}{l:LV}(h:It I own N l x):Xn own x.toSt:=by cases l<;>exact h.1
def VG(I:AG)(own:AG->Prop)(x:Wd B):=
 ∀y:Wd B,After own x.toSt y.toSt->∀A,A.handled=Y->∀Q (E:O3),Q (Ai I) y.sh->wpAny B.M A (Fo (Ai I)) Q E y.sh
def W0(T:String):=["enumerate","zip","dict_itemiterator","dict_reverseitemiterator","odict_iterator","itertools.zip_longest","itertools.pairwise"].contains T=Am
def pF {A : CP} {E : O3} {s : AZ} {I : AG} {o : Obj} {T : String} {t : AO} {v : AM} {Q : Unit → AZ → Prop} (q : s.heap.get? I = U o) (R : o.cls = An T)
    (C : W0 T) (h : Q () s) : wpAny B.M A (FC t (Ai I) v) Q E s := by
  have X : ∀ a, wpAny B.M A (do
      let o ← PySem.load I
      match o.cls, o.data with
      | .type n, .fields vs =>
        if (["enumerate", "zip", "dict_itemiterator", "dict_reverseitemiterator", "odict_iterator", "itertools.zip_longest", "itertools.pairwise"].contains n && vs[0]? == U (GP a)) = J then (do
          rule "for.unpacks-the-owned-tuple"
          updateField I 0 AL)
        else AJ ()
      | _, _ => AJ ()) Q E s := fun a => by
    refine agY (up <| CY q ?_)
    obtain ⟨_, d, N, sl⟩ := o
    cases R
    cases N <;> first | exact agZ h | skip
    show wpAny B.M A (if (_ && _) = J then _ else _) Q E s
    rw [show (["enumerate", "zip", "dict_itemiterator", "dict_reverseitemiterator", "odict_iterator", "itertools.zip_longest", "itertools.pairwise"].contains T) = Am from C]
    exact agZ h
  delta FC
  cases t <;> first | exact agZ h | skip
  all_goals cases v <;> first | exact agZ h | exact X _
def U9(x:St)(I:AG)(fp:List AG):=∀b∈fp,b=I\/∃o,x.get? b=U o/\Fz x b
def U9.keep{x y z:St}{I:AG}{fp:List AG}(f:U9 x I fp)(s:Ou x y)(a:After (· =I) y z):∀b∈fp,∀o,y.get? b=U o->z.get? b=U o:=λb X o e=>(f b X).elim (λq=>((a.1 b q).1 o e)) λ⟨N,R,A⟩=>(Af (aO e (s b N R A).1))▸(a.2 b N (s b N R A).1 (s b N R A).2).1
def After.ofX{x y:Wd B}{own:AG->Prop}(h:After own x.toSt y.toSt){hp:Heap}{t:Nat}(N:∀a o,¬own a->y.get? a=U o->hp.get? a=U o):gG own y (λz=>z.toSt=Tx y.toSt hp t) {y.sh with heap:=hp,toks:=t}:=
 .mk (y.bj t (λa q=>(h.1 a q).2) N) H H (dx (λa q=>(h.1 a q).2) N λZ q=>q) H
def It.walks{I:AG}{fp:List AG}{Pv:Nat->AM->Prop}{Q:Nat->Heap->Prop}{xs:LV}{N:Wd B}{T:String}(hT:W0 T)
  (hW:∀A,A.handled=Y->Walks B.prog B.w A I fp [I] xs.length Pv Q) (hP:∀i z v,xs[i]?=U z->Pv i v->Rd N v z) (hf:U9 N.toSt I fp) (hQ:∀i h,Q i h->∃o,h.get? I=U o/\o.cls=An T):
  ∀(k i:Nat) (x:Wd B),i+k=xs.length->Ou N.toSt x.toSt->NQ x.toSt I->Q i x.sh.heap->It I (· =I) (λZ=>True) (xs.drop i) x/\VG I (· =I) x:=λk=>by
 have X:∀i (x:Wd B),Ou N.toSt x.toSt->Q i x.sh.heap->VG I (· =I) x:=λi x st C y af A hA R E q=>up ((hW A hA).self i y.sh R E ((hW A hA).frame i _ _ C (hf.keep st af)) q)
 have has:∀i (x:Wd B),NQ x.toSt I->Q i x.sh.heap->Xn (· =I) x.toSt:=λi x p C a e=>e▸⟨p,(hQ i _ C).imp λZ h=>h.1⟩;have hk:∀{y:Wd B} {h':Heap},(∀b o,b∉[I]->y.sh.heap.get? b=U o->h'.get? b=U o)->∀a o,¬a=I->y.get? a=U o->h'.get? a=U o:=λhk a o n e=>hk a o (λq=>n (AV.mp q)) e
 induction k with
 |zero=>intro i x hi st p C;obtain rfl:i=xs.length:=hi;refine⟨?_,X _ x st C⟩;rw[Jy];exact⟨has _ x p C,λy af A hA E=>up ((hW A hA).done y.sh _ _ ((hW A hA).frame _ _ _ C (hf.keep st af)) λh' tk g=>⟨H,gG.casesOn (af.ofX (hk g)) λz a b c Z=>.mk z a b c Oq⟩)⟩
 |succ k ih=>
  intro i x hi st p C;have hlt:i<xs.length:=hi▸Bz (DJ k);refine⟨?_,X _ x st C⟩;rw[Cn hlt];refine⟨has _ x p C,λy af A hA E=>up ((hW A hA).item i y.sh _ _ hlt ((hW A hA).frame _ _ _ C (hf.keep st af)) λv h' tk hPv hq' g=>⟨v,H,λt Z E=>?_⟩)⟩;obtain⟨o,ho,hc⟩:=hQ _ _ hq';refine pF (s:={y.sh with heap:=h',toks:=tk}) ho hc hT<|gG.casesOn (af.ofX (t:=tk) (hk g)) λz a b c d=>?_
  have pI:=(af.1 I H).2;have st2:Ou N.toSt z.toSt:=(st.trans af.2).trans λb o e f=>(c.1 b o (λq=>pI.2 (q▸f.2)) e f.1).imp_right λr=>⟨r.1,r.2.mpr f.2⟩;refine .mk z a b c ⟨aq.az st2 (hP i _ v (AY hlt) hPv),(ih (i+1) z ((BW i 1 k).trans hi) st2 (c.2 I H pI.1 pI.2) (by rw[a];exact hq')).1⟩
inductive b7 (tg:AO->Prop) (x:St) (xs:LV) (r:AM) (y:Wd B):Prop
 |mk (I:AG) (own:AG->Prop):r=Ai I->(∀a o,own a->x.get? a=U o->x.σ a≠Y)->VG I own y->It I own tg xs y->b7 tg x xs r y
def b7.back{N:AO->Prop}{u v:St}{xs:LV}{r:AM}(l:LE noOwn u v)(i:b7 N v xs r y):b7 N u xs r y:=b7.casesOn i λI own e R s i=>.mk I own e (λa o q g h=>(l.1 a o (λq=>q) g h).elim λg h=>R a o q g h.1) s i
def rU{N:Obj}{t:Nat}{xs:LV}{fp:List AG}{Q:Nat->Heap->Prop}{X:Nat->AM->Prop}{T:String}{R:AM->Wd B->Prop}(hT:W0 T)
  (hW:∀A,A.handled=Y->Walks B.prog B.w A x.sz fp [x.sz] xs.length X Q) (hP:∀i z v,xs[i]?=U z->X i v->Rd x v z) (hf:U9 x.toSt x.sz fp)
  (hQ:∀i h,Q i h->∃o,h.get? x.sz=U o/\o.cls=An T) (h0:Q 0 (x.sh.heap.push N)) (q:∀y,y.σ=x.σ->b7 (λZ=>True) x.toSt xs (Ai x.sz) y->R (Ai x.sz) y):
  aP noOwn x R (Ai x.sz) {x.sh with heap:=x.sh.heap.push N,toks:=t}:=by
 have l:=x.gU N t;have I:=aI x.toSt;obtain⟨C,i2⟩:=It.walks hT hW hP hf hQ xs.length 0 (x.push N t) (A1 _) l.az ⟨x.aW I,x.cw I⟩ h0;exact .mk (x.push N t) H l (q _ H (.mk _ (· =x.sz) H (λa o e g=>aa (aO I ((e:a=x.sz)▸g))) i2 C))
def Nq.at{vs:LVal}{l:LV}{i:Nat}{z:V}{v:AM}(h:Nq x vs l)(I:l[i]?=U z)(R:vs.toArray[i]?=U v):Rd x v z:=by obtain⟨u,N,A⟩:=h.get I;exact Af (aO (DC ..) R|>λq=>aO N q)▸A
def tU{I a:AG}{o:Obj}(e:x.get? a=U o)(f:Fz x.toSt a):U9 x.toSt I [I,a]:=λb N=>(AQ.mp N).imp id λN=>by obtain rfl:=AV.mp N;exact⟨o,e,f⟩
def pG{I:AG}:U9 x.toSt I [I]:=λb N=>Aw (AV.mp N)
def mK{a:AG}{vs:LVal}{m:Nat}{l:LV}(N:x.get? a=U (OG vs m))(hf:Fz x.toSt a)(X:Nq x vs l){R:AM->Wd B->Prop}(q:∀r y,y.σ=x.σ->b7 (λZ=>True) x.toSt l r y->R r y):Wp n noOwn (Fo (Ai a)) R x:=λA Z=>
 up<|Hc ⟨_,N,H,m,H⟩ (rU (T:="list_iterator") (t:=x.sh.toks) (Q:=λi h=>h.IsListIter x.sz a i/\h.IsList a vs.toArray) H
  (λA C=>(X.length:vs.toArray.size=l.length)▸Walks.list C _ a (CQ (BV N)) vs.toArray) (λi z v h1 h2=>X.at h1 h2) (tU N hf)
  (λi h I=>I.1.elim λo g=>⟨o,g.1,g.2.1⟩) ⟨⟨_,BK _ H,H,H⟩,⟨_,Be _ N,H,m,H⟩⟩ (q _))
def ahQ{a:AG}{vs:LVal}{m:Nat}{l:LV}(N:x.get? a=U (Sv vs m))(hf:Fz x.toSt a)(X:Nq x vs l){R:AM->Wd B->Prop}(q:∀r y,y.σ=x.σ->b7 (λZ=>True) x.toSt l r y->R r y):Wp n noOwn (Fo (Ai a)) R x:=λA Z=>
 up<|PySem.wpAny_pyIter_tuple ⟨_,N,H,m,H⟩ (rU (T:="tuple_iterator") (t:=x.sh.toks) (Q:=λi h=>h.IsTupleIter x.sz a i/\h.IsTuple a vs.toArray) H
  (λA C=>(X.length:vs.toArray.size=l.length)▸Walks.tuple C _ a (CQ (BV N)) vs.toArray) (λi z v h1 h2=>X.at h1 h2) (tU N hf)
  (λi h I=>I.1.elim λo g=>⟨o,g.1,g.2.1⟩) ⟨⟨_,BK _ H,H,H⟩,⟨_,Be _ N,H,m,H⟩⟩ (q _))
def kL(b:Ot):b.size=(N9 (b.toList.map Br)).length:=by delta N9;rw[Ak,Ak];rfl
def tV{b:Ot}{i:Nat}{z:V}{c:UInt8}{u:Tok}(N:(N9 (b.toList.map Br))[i]?=U z)(R:b[i]?=U c):Rd x (By (c.toNat:Int) u) z:=by delta N9 at N;rw[BR,BR,ED,R]at N;exact Af N▸aq.int _ _
def rV{b:Ot}{t:Tok}{R:AM->Wd B->Prop}(q:∀r y,y.σ=x.σ->b7 (λZ=>True) x.toSt (N9 (b.toList.map Br)) r y->R r y):Wp n noOwn (Fo (AF b t)) R x:=λA Z=>
 up (JF (rU (T:="bytes_iterator") (t:=x.sh.toks) (Q:=λi h=>Fl h x.sz b t i) H
  (λA I=>kL b▸KBw.walks I _ b t) (λi z v X C=>C.elim λc h=>h.elim λu h=>h.2▸tV X h.1) pG (λi h N=>N.elim λo g=>⟨o,g.1,g.2.1⟩) ⟨_,BK _ H,H,H⟩ (q _)))
def pH{y:Str}{i:Nat}{z:V}{v:AM}(N:(chars y.cps.toList)[i]?=U z)(R:SignAt y i v):Rd x v z:=by obtain⟨c,u,I,rfl⟩:=R;delta chars at N;rw[BR,ED,I]at N;exact Af N▸aq.str _ _ _ H (show 1<=Nh by decide)
def xy{y:Str}{t:Tok}{R:AM->Wd B->Prop}(q:∀r w,w.σ=x.σ->b7 (λZ=>True) x.toSt (chars y.cps.toList) r w->R r w):Wp n noOwn (Fo (Cg y t)) R x:=λA Z=>by
 have N:y.cps.size=(chars y.cps.toList).length:=(Ak ..).symm
 cases ha:y.cps.all (· <128)with
 |true=>exact up<|PySem.wpAny_pyIter_ascii ha (rU (T:="str_ascii_iterator") (t:=x.sh.toks) (Q:=λi h=>h.IsStrIter x.sz "str_ascii_iterator" y t i) H (λA X=>N▸Walks.strAscii X _ y t)
   (λi z v C h2=>pH C h2) pG (λi h I=>I.elim λo g=>⟨o,g.1,g.2.1⟩) ⟨_,BK _ H,H,H⟩ (q _))
 |false=>exact up<|PySem.wpAny_pyIter_wide ha (rU (T:="str_iterator") (t:=x.sh.toks) (Q:=λi h=>h.IsStrIter x.sz "str_iterator" y t i) H (λA X=>N▸Walks.strWide X _ y t)
   (λi z v C h2=>pH C h2) pG (λi h I=>I.elim λo g=>⟨o,g.1,g.2.1⟩) ⟨_,BK _ H,H,H⟩ (q _))
end
set_option backward.match.sparseCases false
section
variable{n:Nat}{x y:Wd B}{own:AG->Prop}
def ahZ{N β:Type}{f:N->β}{l:List N}{b:β}{m:List β}(h:l.map f=b::m):∃a r,l=a::r/\f a=b/\r.map f=m:=by
 cases l with
 |nil=>cases h
 |cons a r=>exact⟨a,r,H,(BO h).1,(BO h).2⟩
def jI{N:List BY}{l:NW}{ks:Ni}(h:aU B.P x.toSt N l)(X:l.map (·.1)=ks.map W):
  ∃kvs:List (M6×AM),(∀e∈N,∃k,(bytesKind B.prog B.w).is k e.key=J/\e.hash=(bytesKind B.prog B.w).hash k)/\Pairs (bytesKind B.prog B.w) N kvs/\kvs.map (·.1)=ks/\∀(i:Nat) (k:M6) (v:AM),kvs[i]?=U (k,v)->k.length<=Nh:=by
 induction l generalizing N ks with
 |nil=>
  obtain rfl:=h.dQ
  cases ks with
  |nil=>exact⟨[],λZ h=>M9 h Ay,.nil,H,λi k v e=>aa e⟩
  |cons=>cases X
 |cons z l ih=>
  obtain⟨e,N,rfl,h1,h2,h3,r⟩:=h.inv;obtain⟨k,ks,rfl,A,e2⟩:=ahZ X.symm;obtain⟨kvs,a1,C,a3,a4⟩:=ih r e2.symm;have R:Rd x e.key (W k):=A▸h1;have I:=iw.is R;refine⟨(k,e.val)::kvs,λQ he=>(AQ.mp he).elim (λq=>q▸⟨k,I,h2.trans (M7 (keyHash B.P) A.symm)⟩) (a1 Q),.cons I H C,M7 (k::·) a3,λi k' v e=>?_⟩
  cases i with
  |zero=>cases e;exact(aq.inv R).elim λZ h=>h.elim λZ h=>h.2.2
  |succ i=>exact a4 i k' v e
def mL{l:NW}{ks:Ni}(I:x.get? a=U (Dt es m))(hf:Fz x.toSt a)(hs:aU B.P x.toSt es l)(hk:l.map (·.1)=ks.map W)(hn:ks.Nodup)(N:(a==Ea)=Am)
  {R:AM->Wd B->Prop} (q:∀r (w:Wd B),w.σ=x.σ->b7 (λZ=>True) x.toSt (l.map (·.1)) r w->R r w):Wp n noOwn (Fo (Ai a)) R x:=λA Z=>by
 obtain⟨kvs,a1,a2,C,a4⟩:=jI hs hk
 have hD:∀h:Heap,h.get? a=U (Dt es m)->h.DictAt (bytesKind B.prog B.w) a kvs m:=λh e=>⟨_,es.toArray,e,⟨H,H,H⟩,H,λe he=>a1 e (EV.mp he),a2,C▸hn⟩
 refine ahy (knd:=bytesKind B.prog B.w) (kvs:=kvs) (ep:=m) N (hD _ I) (rU (T:="dict_keyiterator") (t:=x.sh.toks) (Q:=λi h=>h.IsKeyIter x.sz a i kvs.length m/\h.DictAt (bytesKind B.prog B.w) a kvs m) H
  (λA hA=>by rw[<-(by rw[hk,<-C,Ak,Ak]:kvs.length=(l.map (·.1)).length)];exact Walks.dictKeys hA _ a (CQ (BV I)) kvs m) (λi z v h1 h2=>?_) (tU I hf) (λi h X=>X.1.elim λo g=>⟨o,g.1,g.2.1⟩) ⟨⟨_,BK _ H,H,H⟩,hD _ (Be _ I)⟩ (q _))
 obtain⟨k,u,e1,e2⟩:=h2
 have hz:z=W k:=by rw[hk,BR,<-C,BR,e1]at h1;exact(Af h1).symm
 obtain⟨b,t,rfl,hb⟩:=ag6 e2;exact hz▸aq.bytes b t k hb (a4 i k u e1)
def Wp.ghost{N:Type}{t:Sem N}{R:N->Wd B->Prop}(l:LN x y)(e:y.sh=x.sh)(h:Wp n noOwn t R y):Wp n noOwn t R x:=λA I=>ag1 (e▸h A I) (λr Z q=>aP.casesOn q λz a b c=>.mk z a (l.trans b) c) λZ Z y=>y
set_option tactic.hygienic true in
def afh{z:V}{P:LV->M5->Prop}(hv:Rd x v z)(hp:itemsOf z x.σ P):Wp n noOwn (Fo v) (λr y=>∃zs,P zs y.σ/\zs.length<=Nh/\b7 (λZ=>True) x.toSt zs r y) x:=by
 cases z<;>first|exact Bw hp|skip
 case tup l=>exact hv.xb (C:=λv=>Wp n noOwn (Fo v) _ x) λa vs m ho hf hl hs=>ahQ ho hf hs λr y e i=>⟨l,e▸hp,hl,i⟩
 case lst l=>exact hv.agc (C:=λv=>Wp n noOwn (Fo v) _ x) λa vs m ho hf hl hs=>mK ho hf hs λr y e i=>⟨l,e▸hp,hl,i⟩
 case di l=>
  obtain⟨⟨ks,h1,h2⟩,hp⟩:=hp
  obtain⟨a,es,m,rfl,ho,hf,hl,hs,hsys⟩:=aq.inv hv
  exact mL ho hf hs h1 h2 hsys λr y e i=>⟨_,e▸hp,(Ak ..).symm▸hl,i⟩
 case bytes l=>
  exact hv.dn (C:=λv=>Wp n noOwn (Fo v) _ x) λu t e hl=>by
   subst e
   exact rV λr y e i=>⟨_,e▸hp,Aa (Ap (Ak ..)) hl,i⟩
 case str l=>
  exact hv.u7 (C:=λv=>Wp n noOwn (Fo v) _ x) λu t e hl=>by
   subst e
   exact xy λr y e i=>⟨_,e▸hp,Aa (Ap (Ak ..)) hl,i⟩
 case ref a=>
  obtain rfl:v=Ai a:=aq.inv hv
  change Ta (x.σ a) (x.σ.del a) P at hp
  cases e:x.σ a with
  |none=>rw[e]at hp;exact hp.elim
  |some o=>
   rw[e]at hp
   cases o<;>first|exact Bw hp|skip
   case list l=>
    obtain⟨vs,m,ho,hl,hs⟩:=x.listAt e
    have fl:=dT e O.aB
    exact Wp.ghost (y:=x.QA e O.aB) fl H (mK (x:=x.QA e O.aB) ho ⟨M5.bu _,AN H⟩ (aE.az fl.az hs) λr y e i=>⟨l,e▸hp,hl,i.back fl⟩)
   case dict l=>
    obtain⟨⟨ks,h1,h2⟩,hp⟩:=hp
    obtain⟨es,m,ho,hl,hs,hsys⟩:=x.dictAt e
    have fl:=dT e O.bG
    exact Wp.ghost (y:=x.QA e O.bG) fl H (mL (x:=x.QA e O.bG) ho ⟨M5.bu _,AN H⟩ (hs.az fl.az) h1 h2 hsys λr y e i=>⟨_,e▸hp,(Ak ..).symm▸hl,i.back fl⟩)
def pJ{own:AG->Prop}{hp:Heap}{t:Nat}(N:∀a,own a->NQ y.toSt a)(hk:∀a o,¬own a->y.get? a=U o->hp.get? a=U o)(I:∀a,own a->a<y.sz)
  (Q:hp.get? y.sz=U {cls:=An "tuple",data:=El #[u,v]}) (hu:Rd y u A) (hv:Rd y v zv):
  gG own y (λz=>Rd z (Ai y.sz) (Bg [A,zv])/\z.sh.heap=hp/\Ou y.toSt z.toSt/\∀a,own a->NQ z.toSt a) {y.sh with heap:=hp,toks:=t}:=by
 have X:=aI y.toSt
 have R:du y.toSt ⟨{y.sh with heap:=hp,toks:=t},U8 y.φ y.sz,y.σ⟩ own:=
  ⟨λa q f=>(N a q).2 f.2,λd Z q e=>aa ((N d q).1.symm.trans e),λa o e q=>⟨hk a o q e,H,eB (CQ (BV e))⟩⟩
 have C:∀a,own a->NQ (⟨{y.sh with heap:=hp,toks:=t},U8 y.φ y.sz,y.σ⟩:St) a:=λa q=>⟨(N a q).1,λf=>f.elim (N a q).2 λe=>Fj _ (e▸I a q)⟩;refine .mk ⟨_,R.ok y.ok (λa Z c e=>c.elim (λq=>aa ((N a q).1.symm.trans e)) λg=>aa ((y.aW g).symm.trans e)) (λa c f=>?_) H H⟩ H H (R.le (λa q=>Aw q) λa q Z=>C a q) ⟨?_,H,R.az,C⟩
 ·rcases f with f|rfl
  ·exact c.elim (λq=>M9 f (N a q).2) λg=>M9 f<|y.cw g
  ·exact⟨y.aW X,_,Q⟩
 exact .tup _ [u,v] 0 [A,zv] Q ⟨y.aW X,AN H⟩ (show 2<=Nh by decide)<|aE.cons (aq.az R.az hu)<|aE.cons (aq.az R.az hv) aE.nil
def IsTup(t:AO):=∃elts k pos,t=Ib elts k pos
def It.enum{Pv:Nat->AM->Prop}{Q:Nat->Heap->Prop}{xs:LV}{X:Wd B}
  (hD:∀A:CP,A.handled=Y->Draws B.prog B.w A.in1 it fp xs.length Pv Q) (hP:∀i z v,xs[i]?=U z->Pv i v->Rd X v z) (hf:U9 X.toSt it fp) (hei:e≠it) (hef:e∉fp):
  ∀k i (x:Wd B),i+k=xs.length->Ou X.toSt x.toSt->(∀a,a=e\/a=it->NQ x.toSt a)->(∃N,IsEnum x.sh.heap e it i N)->Q i x.sh.heap->It e (λa=>a=e\/a=it) IsTup (Pf i (xs.drop i)) x:=λk=>by
 have aft:∀{x y:Wd B},After (λa=>a=e\/a=it) x.toSt y.toSt->After (· =it) x.toSt y.toSt:=λR=>⟨λa q=>R.1 a (AN q),R.2⟩
 have has:∀(i:Nat) (x:Wd B),(∀a,a=e\/a=it->NQ x.toSt a)->(∃N,IsEnum x.sh.heap e it i N)->Q i x.sh.heap->Xn (λa=>a=e\/a=it) x.toSt:=λi x p ⟨N,C⟩ hq a ha=>⟨p a ha,ha.elim (λq=>⟨_,q▸C⟩) λq=>q▸(hD {handled:=Y} H).live _ _ hq⟩
 induction k with
 |zero=>intro i x hi st p C hq;obtain rfl:i=xs.length:=hi;rw[Jy];refine⟨has _ x p C hq,λy R A hA E=>?_⟩;obtain⟨N,C⟩:=C;exact up<|PySem.wpAny_pyNext_enum_endD (hD A hA) ((R.1 e (Aw H)).1 _ C) ((hD A hA).frame _ _ _ hq (hf.keep st (aft R))) λh' hk=>⟨H,gG.casesOn (R.ofX λa o q e=>hk a o (λz=>q (AN z)) e) λz a b c Z=>.mk z a b c Oq⟩
 |succ k ih=>
  intro i x hi st p C hq;have hlt:i<xs.length:=hi▸Bz (DJ k);rw[Cn hlt];refine⟨has _ x p C hq,λy R A hA E=>?_⟩;obtain⟨N,C⟩:=C;have he':=(R.1 e (Aw H)).1 _ C;have hq':=(hD A hA).frame _ _ _ hq (hf.keep st (aft R));have helt:e<y.sz:=BV he';refine up<|PySem.wpAny_pyNext_enum_itemD (hD A hA) he' hq' hlt hei hef λu h' tk hPx ho hst₁ hT hsz hk=>⟨_,H,λt ht E=>?_⟩
  obtain⟨elts,kk,pos,rfl⟩:=ht;refine up<|PySem.wpAny_letOwnedTupleGo_enum ho λh'' he'' I=>?_
  refine gG.casesOn (pJ (λa q=>(R.1 a q).2) (λa o q e=>(I.2 a (λz=>q (Aw z))).trans (hk a o (λz=>q (Aw z)) (λz=>q (AN z)) e))
   (λa q=>q.elim (λz=>z▸helt) λz=>z▸((hD A hA).live _ _ hq').elim λZ g=>BV g) ((I.2 _ (CR helt)).trans hT) (aq.int i tk) (aq.az (st.trans R.2) (hP i _ u (AY hlt) hPx):Rd y u xs[i])) λz a b c d=>.mk z a b c ⟨d.1,?_⟩
  exact ih (i+1) z ((BW i 1 k).trans hi) ((st.trans R.2).trans d.2.2.1) d.2.2.2 ⟨u,d.2.1.symm▸he''⟩<|d.2.1.symm▸(hD A hA).frame _ _ _ hst₁ λb hb o y=>(I.2 b λz=>hef (z▸hb)).trans y
variable{prog:CZ}{w:Dy}{A:CP}{E:O3}{s:AZ}
def iy(N:Fl s.heap it b t i)(C:b[i]?=U c)
  (q:∀X,Fl X it b t (i+1)->CJ it s.heap X->Q (By (c.toNat:Int) s.toks) {s with heap:=X,toks:=s.toks+1}):
  AB (model prog w) A (Eo (Ai it)) Q E s:=by
 obtain⟨o,I,hc,R⟩:=id N;delta Eo
 refine Ab (Jr (name:=CM "__next__") (HE N) Iw
  (Fm Iw (HE N) KBw.entry_next ?_ (KBw.args_next _)))
 show AB _ _ (field (Ai it) 0>>=_) _ _ s;refine Ab<|Cd I R (x:=AF b t) H ?_
 show AB _ _ (if(AF b t==AL)=J then _ else _) _ _ s;rw[Np (Bh:¬((AF b t==AL)=J))];show AB _ _ (field (Ai it) 1>>=_) _ _ s;refine Ab<|Cd I R (x:=By i 0) H<|Ab<|AI (a:=b) H ?_
 simp only[EL,C];refine Ab<|LI I R (by simp)<|Ab<|GU<|Aj ⟨_,H,Aj (q _ ?_ (Dd ..))⟩
 exact⟨_,Dz _ I (Obj.isFreed_of_fields (MT R _)),(Obj.cls_mapFields ..).trans hc,by
  rw[MT R];simp[GP]⟩
def jg(C:A.handled=Y)(N:Fl s.heap it b t i)(q:b[i]?=Y)
  (hE:∀R e,JG it s.heap R->(∃o,R.get? e=U o/\o.cls=An "StopIteration")->E (Ai e) {s with heap:=R}):
  AB (model prog w) A (Eo (Ai it)) Q E s:=by
 obtain⟨o,X,hc,I⟩:=id N;delta Eo
 refine Ab (Jr (name:=CM "__next__") (HE N) Iw
  (Fm Iw (HE N) KBw.entry_next ?_ (KBw.args_next _)))
 show AB _ _ (field (Ai it) 0>>=_) _ _ s;refine Ab<|Cd X I (x:=AF b t) H ?_
 show AB _ _ (if(AF b t==AL)=J then _ else _) _ _ s;rw[Np (Bh:¬((AF b t==AL)=J))];show AB _ _ (field (Ai it) 1>>=_) _ _ s;refine Ab<|Cd X I (x:=By i 0) H<|Ab<|AI (a:=b) H ?_
 simp only[EL,q];refine Ab<|BD<|Ab<|LI X I (by simp) ?_
 show AB _ _ (newExc (An "StopIteration") []>>=_) _ _ _;refine Ab ?_;simp only[newExc,newTuple];refine Ab<|Cf ?_ (by size_fits)
 refine Ab (m:=firstArgMember _ _)<|AI (a:=AL) (by first|rfl| (simp only[firstArgMember];rfl)) ?_
 refine Cf ?_ (by size_fits);delta raiseNew;refine Ab<|PySem.wpAny_handled ?_
 first|rw[show A.in1.handled=Y from C]|rw[C]
 exact Ab<|Aj<|PySem.wpAny_throw<|hE _ _ (((Dd ..).extBut.push _).push _) ⟨_,BK _ H,H⟩
def rW(hh:A.handled=Y)(I:AG)(b:Ot)(t:Tok):
  Draws prog w A I [I] b.size (λi v=>∃c u,b[i]?=U c/\v=By (c.toNat:Int) u) (λi h=>Fl h I b t i) where
 live:=λZ Z N=>let⟨o,ho,_⟩:=N;⟨o,ho⟩
 frame:=λZ Z Z N hk=>let⟨o,ho,r⟩:=N;⟨o,hk I (by simp) o ho,r⟩
 item:=λi s Q E C N hQ=>by exact iy N (c:=b[i]) (by simp[C]) λq R X=>(hQ _ q (s.toks+1) ⟨_,_,by simp[C],H⟩ R X)
 done:=λs Q E N hE=>jg hh N (by simp) hE
def xA(h:∀c,Q c s):AB M A (AJ a) Q E s:=Aj (h a)
set_option maxHeartbeats 1000000 in
def fU(b:Ot)(t:Tok):
  Meets (Builtin.«enumerate.__new__» ⟨[An "enumerate",AF b t],[]⟩) (λZ R s=>
   R (CT (Cr (Ai (s.heap.push {cls:=An "bytes_iterator",data:=Df #[AF b t,By 0 0]}).objs.size)))
    {s with heap:=(s.heap.push {cls:=An "bytes_iterator",data:=Df #[AF b t,By 0 0]}).push {cls:=An "enumerate",data:=Df #[AL,B0 Am,Ai s.heap.objs.size,GP 0,AL,AL]}}):=
 GW λprog w A R s h=>by
  obtain⟨X,g,d,C,Q⟩:=s;have N:=sub_enumerate
  wp_walk
  refine PySem.wpAny_stack_any λI=>xA λc=>?_
  cases c
  ·wp_walk using JF
   exact⟨_,H,h⟩
  wp_walk using JF
  exact⟨_,H,h⟩
def fV
  (h:∀N,IsEnum N (s.heap.objs.size+1) s.heap.objs.size 0 AL->Fl N s.heap.objs.size b t 0->N.objs.size=s.heap.objs.size+2->
   (∀b o,s.heap.get? b=U o->N.get? b=U o)->Q (Ai (s.heap.objs.size+1)) {s with heap:=N}):
  AB (model prog w) A (call (An "enumerate") [AF b t]) Q E s:=by
 refine callType_new F.called_enumerate H (F.typeCall_enumerate_1 _) (F.newCall_enumerate_1 _) (λR=>F.args_object_init_2 R _) F.entry_enumerate_new
  (fU b t) ?_
 have I:(s.heap.push {cls:=An "bytes_iterator",data:=Df #[AF b t,By 0 0]}).objs.size=s.heap.objs.size+1:=GI ..;show _/\_;rw[I]
 have X:IsEnum ((s.heap.push {cls:=An "bytes_iterator",data:=Df #[AF b t,By 0 0]}).push
   {cls:=An "enumerate",data:=Df #[AL,B0 Am,Ai s.heap.objs.size,GP 0,AL,AL]}) (s.heap.objs.size+1) s.heap.objs.size 0 AL:=by
  have:=BK (s.heap.push {cls:=An "bytes_iterator",data:=Df #[AF b t,By 0 0]})
   (o:={cls:=An "enumerate",data:=Df #[AL,B0 Am,Ai s.heap.objs.size,GP 0,AL,AL]}) H
  rw[I]at this;exact this
 refine⟨⟨_,X,H⟩,h _ X ⟨_,Be _ (BK _ H),H,H⟩ (by rw[GI,I]) λb o y=>Be _ (Be _ y)⟩
end
section
variable{n:Nat}{x y:Wd B}{own:AG->Prop}
def xB(h:l=[]\/m=[]):TN l m=[]:=h.elim (λe=>by subst e;rfl) λe=>by subst e;cases l<;>rfl
def W2(z TI TO i1 i2:AG)(a:AG):=a=z\/a=TI\/a=TO\/a=i1\/a=i2
structure mM (h:Heap) (z TI TO i1 i2 l1 l2:AG) (i:Nat):Prop where
 z:IsZip h z TI TO AL
 ti:IsPair h TI (Ai i1) (Ai i2)
 to:∃a b,IsPair h TO a b
 i1:h.IsListIter i1 l1 i
 i2:h.IsListIter i2 l2 i
def mM.keep{h C:Heap}{z N R I A X l2:AG}{i:Nat}(s:mM h z N R I A X l2 i)(k:∀a,W2 z N R I A a->∀o,h.get? a=U o->C.get? a=U o):mM C z N R I A X l2 i:=
 ⟨k _ (Aw H) _ s.z,k _ (AN (Aw H)) _ s.ti,s.to.imp λZ q=>q.imp λZ q=>k _ (AN (AN (Aw H))) _ q,s.i1.at (k _ (AN (AN (AN (Aw H))))),s.i2.at (k _ (AN (AN (AN (AN H)))))⟩
def mM.ex{h:Heap}{z N I R A X l2:AG}{i:Nat}(s:mM h z N I R A X l2 i)(a:AG)(q:W2 z N I R A a):∃o,h.get? a=U o:=by
 rcases q with rfl|rfl|rfl|rfl|rfl
 exact⟨_,s.z⟩;exact⟨_,s.ti⟩;exact s.to.elim λZ q=>q.elim λZ q=>⟨_,q⟩;exact s.i1.imp λZ q=>q.1;exact s.i2.imp λZ q=>q.1
def It.zip(D:ZipApart z TI TO i1 i2 l1 l2){xs ys:LV}{R:Wd B}
  (ho1:R.get? l1=U (OG vs m1)) (hf1:Fz R.toSt l1) (hs1:Nq R vs xs) (ho2:R.get? l2=U (OG us m2)) (hf2:Fz R.toSt l2) (hs2:Nq R us ys):
  ∀k i x,i+k=min xs.length ys.length->Ou R.toSt x.toSt->(∀a,W2 z TI TO i1 i2 a->NQ x.toSt a)->mM x.sh.heap z TI TO i1 i2 l1 l2 i->It z (W2 z TI TO i1 i2) IsTup (TN (xs.drop i) (ys.drop i)) x:=λk=>by
 induction k with
 |zero=>
  intro i x hi st p hz;have C:xs.length<=i\/ys.length<=i:=(Jk xs.length ys.length).imp (λh=>Ap (aO (DU h) (Eq.symm hi))) λh=>Ap (aO (Ht h) (Eq.symm hi));rw[xB (C.imp (λh=>HA h) λh=>HA h)];refine⟨λa q=>⟨p a q,hz.ex a q⟩,λy Q A hA E=>?_⟩;have N:=hz.keep λa q=>(Q.1 a q).1;obtain⟨a,b,hTO⟩:=N.to;have e1:=(st.trans Q.2) l1 _ ho1 hf1;have e2:=(st.trans Q.2) l2 _ ho2 hf2
  refine up<|PySem.wpAny_pyNext_zip_end hA D N.z N.ti hTO N.i1 N.i2 ⟨_,e1.1,H,m1,H⟩ ⟨_,e2.1,H,m2,H⟩
   (C.imp (λh=>FA (hs1.length▸h:vs.length<=i)) λh=>FA (hs2.length▸h:us.length<=i)) λh' hk=>⟨H,?_⟩
  exact gG.casesOn (Q.ofX λa o q e=>hk a o (λz=>q (Aw z)) (λz=>q (AN (AN (Aw z)))) (λz=>q (AN (AN (AN (Aw z))))) (λz=>q (AN (AN (AN (AN z))))) e) λz a b c Z=>.mk z a b c Oq
 |succ k ih=>
  intro i x hi st p hz;have hle:i<min xs.length ys.length:=hi▸Bz (DJ k);have hlx:=AP hle (Gy ..);have hly:=AP hle (JT ..);rw[Cn hlx,Cn hly];refine⟨λa q=>⟨p a q,hz.ex a q⟩,λy Q A hA E=>?_⟩;have N:=hz.keep λa q=>(Q.1 a q).1;obtain⟨a,b,hTO⟩:=N.to;have X:=st.trans Q.2;obtain⟨u,hu,hsu⟩:=hs1.get (AY hlx);obtain⟨v,hv,hsv⟩:=hs2.get (AY hly)
  refine up<|PySem.wpAny_pyNext_zip_item D N.z N.ti hTO N.i1 N.i2 ⟨_,(X l1 _ ho1 hf1).1,H,m1,H⟩ ⟨_,(X l2 _ ho2 hf2).1,H,m2,H⟩ ((DC ..).trans hu) ((DC ..).trans hv)
   λh' a1 a2 a3 a4 a5 a6 hk=>⟨_,H,λt ht E=>?_⟩
  obtain⟨elts,kk,pos,rfl⟩:=ht;refine up<|PySem.wpAny_letOwnedTupleGo_zip a1 λh'' hz'' I=>?_
  refine gG.casesOn (pJ (λa q=>(Q.1 a q).2)
   (λa o q e=>(I.2 a (λz=>q (Aw z))).trans (hk a o (λz=>q (Aw z)) (λz=>q (AN (AN (Aw z)))) (λz=>q (AN (AN (AN (Aw z))))) (λz=>q (AN (AN (AN (AN z))))) e))
   (λa q=>(N.ex a q).elim λZ g=>BV g) ((I.2 _ (CR (BV N.z))).trans a5) (aq.az X hsu) (aq.az X hsv)) λw a b c d=>.mk w a b c ⟨d.1,?_⟩
  refine ih (i+1) w ((BW i 1 k).trans hi) (X.trans d.2.2.1) d.2.2.2<|d.2.1.symm▸⟨hz'',(I.2 _ D.TIz).trans (hk _ _ D.TIz D.TITO D.TIi1 D.TIi2 N.ti),⟨_,_,(I.2 _ D.TOz).trans a2⟩,a3.extBut I.extBut D.i1z,a4.extBut I.extBut D.i2z⟩
def Vb(n:Nat)(tg:AO->Prop)(h:St)(zs:LV)(r:AM)(y:Wd B):=Wp n noOwn (Fo r) (λr' w=>w.σ=y.σ/\b7 tg h zs r' w) y
def bA{h:Heap}(N:h.objs.size<=a):h.get? a=Y:=by
 cases e:h.get? a with
 |none=>rfl
 |some o=>exact M9 (BV e) (Fs.mpr N)
def iz(l:LV):∀k,(Pf k l).length=l.length:=by
 induction l with
 |nil=>exactλZ=>H
 |cons z l N=>exactλk=>M7 (· +1) (N (k+1))
def pK(l:LV):∀m,(TN l m).length<=l.length:=by
 induction l with
 |nil=>exactλZ=>Aq _
 |cons z l N=>exactλm=>by cases m with|nil=>exact Aq _|cons y m=>exact AX (N m)
def Wd.pL(x:Wd B)(h:x.sz<=a):NQ x.toSt a:=⟨x.aW (bA h),x.cw (bA h)⟩
def tW{R:AM->Wd B->Prop}{zs:LV}{Pv:Nat->AM->Prop}{Q:Nat->Heap->Prop}{X:Heap}(hD:∀A:CP,A.handled=Y->Draws B.prog B.w A.in1 x.sz fp zs.length Pv Q)(hP:∀i z v,zs[i]?=U z->Pv i v->Rd x v z)
  (hf:U9 x.toSt x.sz fp) (C:IsEnum X (x.sz+1) x.sz 0 AL) (hq:Q 0 X) (hk:∀b o,x.get? b=U o->X.get? b=U o)
  (q:∀y,y.σ=x.σ->Vb n IsTup x.toSt (Pf 0 zs) (Ai (x.sz+1)) y->R (Ai (x.sz+1)) y):aP noOwn x R (Ai (x.sz+1)) {x.sh with heap:=X}:=by
 have N:∀a o,¬noOwn a->x.get? a=U o->X.get? a=U o:=λa o Z e=>hk a o e;have l:LE noOwn x.toSt (x.bj x.sh.toks (λZ q=>q.elim) N).toSt:=dx (λZ q=>q.elim) N λZ q=>q;have I:∀a,a=x.sz+1\/a=x.sz->x.sz<=a:=λa q=>q.elim (λe=>e▸B4 _) λe=>e▸AH _;refine .mk (x.bj x.sh.toks (λZ q=>q.elim) N) H l<|q _ H λA rm=>up<|KY C<|.mk _ H (LE.refl _) ⟨H,.mk _ _ H (λa o q g=>aa (aO (bA (I a q)) g)) (λy af A hA R E q=>up<|KY ((af.1 _ (Aw H)).1 _ C) q) ?_⟩
 have:=It.enum hD hP hf (CR (Bu _)) (λhm=>(hf _ hm).elim (λq=>M9 q (CR (Bu _))) λ⟨o,e,_⟩=>M9 (BV e) (Fs.mpr (B4 _)))
  zs.length 0 (x.bj x.sh.toks (λZ q=>q.elim) N) (A1 _) l.az (λa q=>x.pL (I a q)) ⟨_,C⟩ hq
 exact this
set_option tactic.hygienic true in
def fW{P:LV->M5->Prop}(hv:Rd x v z)(hp:Te z x.σ P):∃(y:Wd B) (a:AG) (vs:LVal) (m:Nat) (l:LV),y.sh=x.sh/\LN x y/\v=Ai a/\y.get? a=U (OG vs m)/\Fz y.toSt a/\Nq y vs l/\l.length<=Nh/\P l y.σ:=by
 cases z<;>first|exact Bw hp|skip
 case lst l=>obtain⟨a,vs,m,rfl,ho,hf,hl,hs⟩:=aq.inv hv;exact⟨x,a,vs,m,l,H,LE.refl _,H,ho,hf,hs,hl,hp⟩
 case ref a=>
  change listAt (x.σ a) (x.σ.del a) P at hp
  cases e:x.σ a with
  |none=>rw[e]at hp;exact hp.elim
  |some o=>
   rw[e]at hp
   cases o<;>first|exact Bw hp|skip
   obtain⟨vs,m,ho,hl,hs⟩:=x.listAt e
   have fl:=dT e O.aB
   exact⟨x.QA e O.aB,a,vs,m,_,H,fl,aq.inv hv,ho,⟨M5.bu _,AN H⟩,aE.az fl.az hs,hl,hp⟩
def Vb.back(l:LE noOwn u v)(i:Vb n N v zs r y):Vb n N u zs r y:=Wp.mono i λZ Z Z q=>⟨q.1,q.2.back l⟩
abbrev ItP(n:Nat)(P:LV->M5->Prop)(tg:AO->Prop)(h:St)(r:AM)(y:Wd B):=∃zs,P zs y.σ/\zs.length<=Nh/\Vb n tg h zs r y
def vj(hv:Rd x v z)(hp:WG z x.σ λl σ=>P (Pf 0 l) σ):Wp n noOwn (call (An "enumerate") [v] []) (ItP n P IsTup x.toSt) x:=by
 have lst:Te z x.σ (λl σ=>P (Pf 0 l) σ)->Wp n noOwn (call (An "enumerate") [v] []) (ItP n P IsTup x.toSt) x:=λhp=>by
  obtain⟨w,a,vs,m,l,e,lw,rfl,R,hf,hs,I,hq⟩:=fW hv hp;refine Wp.ghost lw e λA rm=>up<|call_enumerate_list ⟨_,R,H,m,H⟩ λh' he N Z X=>?_
  exact tW (fp:=[w.sz,a])
   (λA hA=>(show vs.toArray.size=l.length from hs.length)▸Draws.list (A:=A.in1) hA _ a (CQ (BV R)) vs.toArray) (λi z v Q q=>hs.at Q q) (tU R hf) he ⟨N,_,X _ _ R,H,m,H⟩ X
   λy e2 i=>⟨_,e2▸hq,iz l 0▸I,i.back lw⟩
 cases z<;>first|exact lst hp|skip
 exact hv.dn (C:=λv=>Wp n noOwn (call (An "enumerate") [v] []) (ItP n P IsTup x.toSt) x) λu t e I=>by
  subst e;refineλA rm=>up (fV λh' he N Z X=>?_)
  exact tW (fp:=[x.sz])
   (λA hA=>kL u▸rW (A:=A.in1) hA _ u t) (λi z v Q q=>q.elim λc h=>h.elim λt h=>h.2▸tV Q h.1) pG he N X
   λy e2 i=>⟨_,e2▸hp,by rw[iz,<-kL];rw[Ak]at I;exact I,i⟩
def vk(N a b:Nat)(I:a<N)(A:b<N):ZipApart (N+4) (N+2) (N+3) N (N+1) a b:=by constructor<;>(intro h;have R:=h;lia)
def xC(hv:Rd x v z)(hu:Rd x u z2)(hp:Te z x.σ λl σ=>Te z2 σ λm σ=>P (TN l m) σ):Wp n noOwn (call (An "zip") [v,u] []) (ItP n P IsTup x.toSt) x:=by
  obtain⟨w1,a,vs,m1,l,e1,l1,rfl,ho1,hf1,hs1,hl,hp⟩:=fW hv hp
  obtain⟨w,b,us,m2,m,e2,l2,rfl,ho2,hf2,hs2,_,hq⟩:=fW (hu.le l1) hp
  have f1:=l2.az a _ ho1 hf1
  refine Wp.ghost (l1.trans l2) (e2.trans e1) λA rm=>up (call_zip_2 ⟨_,f1.1,H,m1,H⟩ ⟨_,ho2,H,m2,H⟩ λh' hz hTI hTO h1 h2 hsz hk=>?_)
  have hk':∀a o,¬noOwn a->w.get? a=U o->h'.get? a=U o:=λa o Z e=>hk a o e
  have le:LE noOwn w.toSt (w.bj w.sh.toks (λZ q=>q.elim) hk').toSt:=dx (λZ q=>q.elim) hk' λZ q=>q
  have hge:∀c,W2 (w.sz+4) (w.sz+2) (w.sz+3) w.sz (w.sz+1) c->w.sz<=c:=λc q=>by
    rcases q with rfl|rfl|rfl|rfl|rfl
    all_goals first|exact AD _ _|exact AH _
  exact .mk (w.bj w.sh.toks (λZ q=>q.elim) hk') H le ⟨_,hq,Aa (pK _ _) hl,λA rm=>up<|Lg hz (.mk _ H (LE.refl _) ⟨H,.mk _ _ H (λa o q g h=>aa (aO (bA (hge a q)) ((l1.trans l2).1 a o (λq=>q) g h).1)) (λy af A hA R E q=>up<|Lg ((af.1 _ (Aw H)).1 _ hz) q) (It.zip (vk _ a b (BV f1.1) (BV ho2)) f1.1 f1.2 (aE.az l2.az hs1) ho2 hf2 hs2 (min l.length m.length) 0 _ (A1 _) le.az (λa q=>w.pL (hge a q)) ⟨hz,hTI,⟨_,_,hTO⟩,h1,h2⟩)⟩)⟩
def kM(h0:0<=i):Gw 0 i 1=i:=by
 delta Gw;rw[Nt aG]
 split
 rw[Int.ediv_one];exact(Int.sub_add_cancel ..).trans (Int.sub_zero i);exact Int.le_antisymm h0<|CI.mp ‹_›
def pM(h0:0<=i)(N:i<=16777216):JZ 0 i 1=J:=by delta JZ;rw[kM h0];delta Builtin.Range.rangeFitsLong;simp only[AR,Bool.or_eq_true,decide_eq_true_eq];have g: -2^63<=i/\i<2^63:=⟨Bv aG h0,Ez N aG⟩;refine⟨⟨⟨⟨by decide,g⟩,by decide⟩,g⟩,AN ?_⟩;rw[Nt aG,Int.sub_self,Int.add_zero];simp only[AR,decide_eq_true_eq];exact g
def dy:(OS i).length=i.toNat:=(Ak ..).trans (FN ..)
def rX(q:Rd x v (Ar i))(hp:(0<=i/\i<=G Nh)/\P (OS i) x.σ):Wp n noOwn (call (An "range") [v] []) (ItP n P (λZ=>True) x.toSt) x:=by
 obtain⟨t,rfl⟩:=aq.inv q;obtain⟨⟨h0,N⟩,hq⟩:=hp;have I:=kM h0;have R:=Dv h0;refineλA rm=>up (call_range_1 (.mk (x.push {cls:=An "range",data:=Df #[By 0 x.sh.toks,By i t,By 1 (x.sh.toks+1)]} (x.sh.toks+1+1)) H (x.gU _ _) ⟨_,hq,?_,λA rm=>up<|PySem.wpAny_pyIter_range (IsRange.new _ _ _ _ _ _ _) (pM h0 N) ?_⟩));rw[dy];exact Bq.mp<|R.symm▸N
 refine rU (T:="range_iterator") (fp:=[_]) (t:=x.sh.toks+1+1) H
  (λA C=>by rw[dy];exact Walks.range C _ 0 1 i.toNat) (λk z v N h2=>?_) pG (λk h X=>⟨_,X,H⟩) ?_ λy e i=>⟨e,i.back (x.gU _ _)⟩
 ·obtain⟨t,rfl⟩:=h2
  unfold OS at N
  rw[BR]at N;obtain⟨j,Q,rfl⟩:=A4.mp N;obtain⟨hl,e⟩:=BI.mp Q;rw[List.getElem_range]at e;rw[show(0+(k:Int)*1)=G j by rw[J6,LY,e];rfl];exact aq.int _ _
 ·have:=BK (x.sh.heap.push {cls:=An "range",data:=Df #[By 0 x.sh.toks,By i t,By 1 (x.sh.toks+1)]})
   (o:={cls:=An "range_iterator",data:=Df #[GP 0,GP (Gw 0 i 1),GP 1]}) H
  rw[I]at this;show Heap.get? _ _=_;rw[I,R,show i-((0:Nat):Int)=i from Int.sub_zero i];exact this
abbrev Wf(n:Nat)(env:Env)(Γ:NI)(t:Sem Flow)(K:Kt)(x:Wd B):=Wp (lv n) (ownOf env) t (VY env Γ K) x
abbrev TrS(kt:Nat)(env:Env)(Γ:NI)(l:List Stmt)(l':List S):=l.mapM (Ww (Gl) kt env.scope Γ)=U l'
end
structure W3 (n kv:Nat):Prop where
 s:∀{kt env Γ ρ st st'} {K:Kt} {x:Wd B},Ww (Gl) kt env.scope Γ st=U st'->Loc x env Γ ρ->We n kv st' ρ x.σ K->Wf n env Γ (exec st env) K x
 ss:∀{kt env Γ ρ l l'} {K:Kt} {x:Wd B},TrS kt env Γ l l'->Loc x env Γ ρ->Na n kv l' ρ x.σ K->Wf n env Γ (execs l env) K x
def W4(n kv:Nat):=∀{kt env Γ ρ t it b p st'} {K:Kt} {x:Wd B},Ww (Gl) (kt+1) env.scope Γ (.For t it b [] p)=U st'->Loc x env Γ ρ->We n (kv+1) st' ρ x.σ K->Wf n env Γ (exec (.For t it b [] p) env) K x
def W5(n kv:Nat):=∀{kt env Γ ρ ts e p st'} {K:Kt} {x:Wd B},X7 (Gl) env.scope Γ kt ts e=U st'->Loc x env Γ ρ->We n (kv+1) st' ρ x.σ K->Wf n env Γ (exec (.Assign ts e p) env) K x
section
variable{n kv kt:Nat}{x y:Wd B}{env:Env}{Γ:NI}{ρ:NF}{K:Kt}
def Wf.pN(L:Loc x env Γ ρ)(h:Wp (lv n) noOwn t P x)(k:∀r y,LN x y->Loc y env Γ ρ->P r y->Wf n env Γ (f r) K y):Wf n env Γ (t>>=f) K x:=λA N=>agY (ag1 (h A N) (λr Z q=>aP.casesOn q λy e l p=>e▸ag1 (k r y l (L.le l) p A N) (λZ Z q=>aP.casesOn q λz e R p=>.mk z e ((l.own L.has).trans R) p) λZ Z y=>y) λZ Z y=>y)
def Wf.next(L:Loc x env Γ ρ)(h:K.nx ρ x.σ):Wf n env Γ (AJ EU) K x:=Wp.pure ⟨ρ,L,h⟩
def j6(L:Loc x env Γ ρ):interactive env=Am:=by delta interactive;rw[L.eo.kind];rfl
def adX(R:W3 n kv)(h:TrS kt env Γ l l')(L:Loc x env Γ ρ)(N:Na n (kv+1) l' ρ x.σ K):Wf n env Γ (execs l env) K x:=by
 cases l with
 |nil=>cases ag5 h;exact Wf.next L N
 |cons st r=>
  obtain⟨s',ss',X,A,rfl⟩:=ag4 h
  cases r with
  |nil=>
   cases ag5 A
   exact Wp.bind (R.s X L N) λI y l q=>by cases I<;>first|exact q.elim|exact Wp.pure q
  |cons t r=>
   obtain⟨_,_,_,_,rfl⟩:=ag4 A;refine Wp.bind (R.s X L N) λI y l q=>?_
   cases I with
   |next=>obtain⟨Q,C,q⟩:=q;exact R.ss A C q
   |brk=>exact q.elim
   |cont=>exact Wp.pure q
   |ret v=>exact Wp.pure q
def xD(S:jd n kv)(C:¬Wc e=J)(h:WX kt env Γ e R)(L:Loc x env Γ ρ)(I:O7 B n kv R ρ x.σ λZ σ=>K.nx ρ σ):Wf n env Γ (exec (.Expr e p) env) K x:=by
 have N:My e Y p.line env=AJ Am:=by cases e<;>first|rfl|exact M9 rfl C
 rw[arm_exec_Expr,j6 L,N];exact Wp.ba (f:=λZ=>do let v<-eval e env;dropValue e p v)<|Wf.pN L (S.e h L I) λv y l X q=>dS.casesOn q λz Z q=>λA Q=>up<|PySem.wpAny_dropValue<|.mk y H (LE.refl _) ⟨ρ,X,q⟩
def abb(S:jd n kv)(h:WX kt env Γ (O8 e) R)(L:Loc x env Γ ρ)(N:O7 B n kv R ρ x.σ K.rt):Wf n env Γ (exec (.Return e p) env) K x:=by
 cases e with
 |some e=>rw[exec_Return_some];exact Wp.ba<|Wf.pN L (S.e h L N) λv y l I q=>Wp.pure q
 |none=>rw[exec_Return_none];exact Wp.ba<|Wf.pN (f:=λv=>AJ (Cr v)) L (S.e h L N) λv y l I q=>Wp.pure q
set_option tactic.hygienic true in
def afi(S:∀kv,jd n kv)(hF:W4 n kv)(hA:W5 n kv)(ih:W3 n kv){st:Stmt}{st':Tp.S}(h:Ww (Gl) kt env.scope Γ st=U st')(L:Loc x env Γ ρ)(hv:We n (kv+1) st' ρ x.σ K):Wf n env Γ (exec st env) K x:=by
 cases kt with
 |zero=>exact aa h
 |succ kt=>
  cases st<;>first|exact aa h|skip
  case Expr e p=>
   change (if _ then Y else _)=_ at h
   by_cases hl:Wc e=J
   ·rw[Nt hl]at h;exact aa h
   ·rw[Np hl]at h
    obtain⟨e',h1,h⟩:=ag0 h
    obtain rfl:=Af h
    exact xD (S kv) hl h1 L hv
  case Pass p=>obtain rfl:=Af h;rw[arm_exec_Pass];exact Wp.ba (Wf.next L hv)
  case Continue p=>obtain rfl:=Af h;rw[arm_exec_Continue];exact Wp.ba (Wp.pure ⟨ρ,L,hv⟩)
  case Return e p=>
   obtain⟨e',h1,h⟩:=ag0 h
   obtain rfl:=Af h
   exact abb (S kv) h1 L hv
  case If t a b p=>
   obtain⟨t',h1,h⟩:=ag0 h
   obtain⟨a',h2,h⟩:=ag0 h
   obtain⟨b',h3,h⟩:=ag0 h
   obtain rfl:=Af h
   rw[exec_If]
   refine Wp.ba (Wf.pN L ((S kv).t h1 L (λz σ q=>(a8 q).imp λZ h=>h.1) hv) λc y l L' q=>TQ.casesOn q λz e q=>?_)
   obtain⟨c',e',q⟩:=a8 q
   obtain rfl:=Af (aO e e')
   cases c
   ·exact ih.ss h3 L' q
   ·exact ih.ss h2 L' q
  case While t b j5 p=>
   obtain⟨he,h⟩:=pb h
   obtain⟨t',h1,h⟩:=ag0 h
   obtain⟨b',h2,h⟩:=ag0 h
   obtain rfl:=Af h
   obtain rfl:=DE.mp he
   rw[exec_While]
   refine Wp.ba λA rm=>ahw (ag7 (MB A▸hv kt env Γ t b h1 h2 x H L A rm) λr s q=>?_) λx=>aa x
   cases r with
   |ok f=>exact q
   |error e=>exact q.elim
  case For t it b j5 p=>
   obtain rfl:=DE.mp (Ah.mp (pb h).1).1
   exact hF h L hv
  case Assign ts e p=>exact hA h L hv
  case Raise a b p=>obtain rfl:=Af h;exact Bw hv
  case Try b hs j5 fin p=>
   obtain⟨he,h⟩:=pb h
   obtain⟨h1,h2⟩:=Ah.mp he
   obtain rfl:=DE.mp h1
   obtain rfl:=DE.mp h2
   obtain⟨b',h1,h⟩:=ag0 h
   obtain rfl:=Af h
   rw[arm_exec_Try]
   refine Wp.ba λA rm=>?_
   delta tryStmt
   refine agY (ahu (ag1 (ih.ss h1 L hv A rm) (λfl s₁ q=>?_) λZ Z y=>y.elim))
   cases fl with
   |brk=>exact aP.casesOn q λZ Z Z q=>q.elim
   |_=>exact agZ q
def nA(I:Nat->AZ->Prop)
  (turn:∀n s,I n s->∀E,wpAny B.M A (KA it) (λr s₁=>match r with
   |none=>R (CT EU) s₁
   |some v=>∀E,wpAny B.M A (FC N it v) (λZ q=>wpAny B.M A (ES N env v) (λZ s₃=>wpAny B.M A (execs body env) (λf Q=>match f with
     |.next|.cont=>∃m,m<n/\I m Q
     |.brk=>R (CT EU) Q
     |.ret v=>R (CT (Cr v)) Q) PI s₃) PI q) E s₁) E s)
  (n:Nat) (h:I n s):codeAny B.M A (.forLoop N it body [] env) R s:=by
 refine ahv H I (λn s hI=>?_) n h H;show wpAny _ _ ((forTurn N it body [] env).onRaise (λx=>do IW x env;GO x)) _ _ s;refine ahi ?_;delta forTurn;refine agY<|up<|Dp<|agY<|ahe<|ag1 (turn n s hI PI) (λr s₁ h₁=>?_) λZ Z h'=>h'.elim
 cases r with
 |none=>exact agZ (AN ⟨H,ahH (agZ h₁:wpAny _ _ (AJ EU) _ _ _)⟩)
 |some v=>
  refine agY<|ag1 (h₁ _) (λZ q C=>agY (ag1 C (λZ q C=>agY (ag1 C (λf s₃ X=>?_) λZ Z h'=>h'.elim)) λZ Z h'=>h'.elim)) λZ Z h'=>h'
  cases f with
  |next=>exact agZ (Aw ⟨H,X⟩)
  |cont=>exact agZ (Aw ⟨H,X⟩)
  |brk=>exact agZ X
  |ret v=>exact agZ X
def Wy(ik:Nat)(t:AO):=ik=0\/ik=3\/IsTup t
def xE(h:Ue N t=J):Wy N t:=by
 delta Ue at h;rcases Cb.mp h with h|h
 ·rcases Cb.mp h with h|h
  ·cases t<;>first|exact .inr (.inr ⟨_,_,_,rfl⟩)|cases h
  ·exact Aw<|N2 h
 exact AN<|Aw<|N2 h
def It.ki(X:∀t,R t->tg t):∀{x},It I own tg xs x->It I own R xs x:=by
 induction xs with
 |nil=>exactλh=>h
 |cons z l ih=>exactλh=>⟨h.1,λy Q A C E=>ag1 (h.2 y Q A C E) (λr s q=>q.imp λv q=>⟨q.1,λt N E=>ag1 (q.2 t (X t N) E) (λZ s q=>gG.casesOn q λz a b c d=>.mk z a b c ⟨d.1,ih d.2⟩) λZ Z y=>y⟩) λZ Z y=>y⟩
def b7.ki(X:∀t,N t->A t)(i:b7 A h xs r y):b7 N h xs r y:=b7.casesOn i λI R e C s i=>.mk I R e C s (i.ki X)
def xF(h:Rt B n kv [e] ρ σ Q):∃k,k<=kv/\O7 B n k e ρ σ λx σ=>Q [x] σ:=by
 cases kv with
 |zero=>exact h.elim
 |succ k=>
  cases k with
  |zero=>exact Bw h
  |succ k=>exact⟨k+1,B4 _,h⟩
def Loc.other(L:Loc x env Γ ρ)(l:LE own x.toSt y.toSt)(N:∀a,own a->¬ownOf env a)(hp:∀a,own a->NQ x.toSt a):Loc y env Γ ρ where
 eo:=L.eo
 ns:=L.ns.imp λZ h=>h.elim λo h=>h.elim λR h=>h.elim λI h=>⟨o,R,I,(l.1 _ o (λq=>N _ q (Aw H)) h.1 (L.bj _ (Aw H)).1).1,h.2⟩
 bj:=λa h=>(L.has a h).elim λo e=>(l.1 a o (λq=>N _ q h) e (L.bj a h).1).2.imp_right λi q=>(L.bj a h).2 (i.mp q)
 cells:=λz c h=>(L.cells z c h).imp λZ q=>q.elim λo q=>⟨o,(l.1 c o (λq=>N _ q (AN ⟨z,h⟩)) q.1 (L.bj c (AN ⟨z,h⟩)).1).1,q.2⟩
 len:=L.len
 nd:=L.nd
 vars:=λi z v A X C=>(L.vars i z v A X C).imp λu h=>⟨Var.casesOn h.1
   (λm a b c=>.loc m a (b.elim λo h=>h.elim λR h=>h.elim λI h=>⟨o,R,I,(l.1 _ o (λq=>N _ q (Aw H)) h.1 (L.bj _ (Aw H)).1).1,h.2⟩) c)
   (λc a b d=>HY c a b (d.elim λo q=>⟨o,(l.1 c o (λq=>N _ q (AN ⟨z,b⟩)) q.1 (L.bj c (AN ⟨z,b⟩)).1).1,q.2⟩))
   (λc a b d=>.free c a b (d.elim λo q=>⟨o,(l.1 c o (λq=>N _ q (AN ⟨z,b⟩)) q.1 (L.bj c (AN ⟨z,b⟩)).1).1,q.2⟩)),aq.az (λa o e f=>(l.1 a o (λq=>(hp a q).2 f.2) e f.1).imp_right λr=>⟨r.1,r.2.mpr f.2⟩) h.2⟩
def LE.mono{own own':AG->Prop}{x y:St}(l:LE own x y)(N:∀a,own a->own' a)(hp:∀a,own' a->¬own a->∃o,x.get? a=U o):LE own' x y:=
 ⟨λa o n e s=>l.1 a o (λq=>n (N a q)) e s,λa h n f=>by
  by_cases q:own a
  exact l.2 a q n f;exact(hp a h q).elim λo e=>(l.1 a o q e n).2.imp_right λi z=>f (i.mp z)⟩
def LE.drop{own own':AG->Prop}{x y:St}(l:LE own x y)(R:∀a,own' a->own a)(N:∀a o,own a->¬own' a->x.get? a=U o->x.σ a≠Y):LE own' x y:=
 ⟨λa o n e s=>by
  by_cases q:own a
  exact M9 s<|N a o q n e
  exact l.1 a o q e s,λa h=>l.2 a (R a h)⟩
def It.after(h:It I own A xs x)(a:After own x.toSt y.toSt):It I own A xs y:=by
 have R:Xn own y.toSt:=λb q=>⟨(a.1 b q).2,(h.has b q).2.imp λo e=>(a.1 b q).1 o e⟩;have N:∀z:Wd B,After own y.toSt z.toSt->After own x.toSt z.toSt:=λz c=>⟨λb q=>⟨λo e=>(c.1 b q).1 o ((a.1 b q).1 o e),(c.1 b q).2⟩,a.2.trans c.2⟩
 cases xs with
 |nil=>exact⟨R,λz c=>h.2 z (N z c)⟩
 |cons u l=>exact⟨R,λz c=>h.2 z (N z c)⟩
def xG(ih:W3 n kv)(SA:Ys n kv)(ht:Xw (Gl) kt env.scope Γ t=U t')(hb:TrS kt env Γ b b')(htg:Wy ik t)
  {R:Wd B} (l₀:LN R x) (L₀:Loc R env Γ ρ) (L:Loc x env Γ ρ) (hr:b7 (Wy ik) R.toSt xs r x)
  (hv:forL (Na n kv b') (O2 n kv t') K xs ρ x.σ) {A:CP} (rm:ef (lv n) A):
  codeAny B.M A (.forLoop t r b [] env) (λr s'=>match r with
    |.ok fl=>aP (ownOf env) R (VY env Γ K) fl s'
    |.error _=>False) x.sh:=by
 obtain⟨I,C,rfl,hn,_,hI⟩:=hr;have disj:∀a,C a->¬ownOf env a:=λa q h=>(L₀.has a h).elim λo e=>hn a o q e (L₀.bj a h).1;have drop:∀{y},LE (λa=>ownOf env a\/C a) R.toSt y->LE (ownOf env) R.toSt y:=λl=>l.drop (λa h=>Aw h) λa o h k=>hn a o (h.resolve_left k);have wide2:∀{y} {z} {ρ},Loc y env Γ ρ->LE C y.toSt z->LE (λa=>ownOf env a\/C a) y.toSt z:=λL l=>l.mono (λa q=>AN q) λa q k=>L.has a (q.resolve_right k)
 refine nA (λm s=>∃y ρ' Q,y.sh=s/\LE (λa=>ownOf env a\/C a) R.toSt y.toSt/\Loc y env Γ ρ'/\It I C (Wy ik) Q y/\
   forL (Na n kv b') (O2 n kv t') K Q ρ' y.σ/\m=Q.length) ?_ xs.length ⟨x,ρ,xs,H,?_,L,hI,hv,H⟩
 ·rintro m _ ⟨y,ρ',Q,rfl,X,L',hI,hv,rfl⟩ E;have pr:=hI.has;have self:After C y.toSt y.toSt:=⟨λa q=>⟨λZ e=>e,(pr a q).1⟩,Ou.refl _⟩;have oth:∀{z},LE C y.toSt z.toSt->Loc z env Γ ρ':=λl=>L'.other l disj λa q=>(pr a q).1
  cases Q with
  |nil=>exact hI.done self rm.handled λz b c=>.mk z H (drop (X.trans (wide2 L' c))) ⟨ρ',oth c,b▸hv⟩
  |cons u Q=>
   refine hI.step self rm.handled λv s₁ q E=>xx (q t htg PI) λZ z b c d=>?_;have Lz:=oth c;have X₂:=X.trans (wide2 L' c);have N:=d.2.has;refine dq (SA.a ht Lz d.1 (b▸hv) A rm) λZ z3 l3 q=>XQ.casesOn q λρ3 L3 q3=>(dq (ih.ss hb L3 q3 A rm) λfl z4 l4 q=>?_);have l34:=l3.trans l4;have X₄:=X₂.trans ((λh l=>l.mono (λa q=>Aw q) λa q k=>(h a (q.resolve_left k)).2:∀{y z},Xn C y->LE (ownOf env) y z->LE (λa=>ownOf env a\/C a) y z) N l34);have af:After C z.toSt z4.toSt:=⟨λa q=>⟨λo e=>(l34.1 a o (disj a q) e (N a q).1.1).1,(N a q).2.elim λo e=>(l34.1 a o (disj a q) e (N a q).1.1).2.imp_right λi f=>(N a q).1.2 (i.mp f)⟩,Lz.az l34⟩
   cases fl with
   |next=>obtain⟨ρ4,L4,q⟩:=q;exact⟨Q.length,Bu _,z4,ρ4,Q,H,X₄,L4,d.2.after af,q,H⟩
   |cont=>obtain⟨ρ4,L4,q⟩:=q;exact⟨Q.length,Bu _,z4,ρ4,Q,H,X₄,L4,d.2.after af,q,H⟩
   |brk=>exact q.elim
   |ret v=>exact .mk z4 H (drop X₄) q
 ·exact⟨λa o Z e s=>l₀.1 a o (λq=>q) e s,λa q n f=>q.elim (λq=>(L₀.has a q).elim λo e=>(l₀.1 a o (λq=>q) e n).2.imp_right λi z=>f (i.mp z)) λq=>(hI.has a q).1⟩
def vm{args:List AO}{R:LV->M5->Prop}{P:AM->Wd B->Prop}(A:Rh B fv)(hf:Ru (Gl) env.scope f=U fv)(L:Loc x env Γ ρ)(hp:∀e∈args,OI e=J)
  (h:∀y,LN x y->y.σ=x.σ->Wp (lv n) noOwn (Hw (Qr pos env args)) (LQ args.length R) y) (q:∀vs zs y,LN x y->zs.length=args.length->Nq y vs zs->R zs y.σ->Wp (lv n) noOwn (call fv vs []) P y):Wp (lv n) noOwn (eval (F0 (Dl f p) args [] pos) env) P x:=
 Wp.bz (fv:=λf=>callWith pos f [] (LJ pos (IH args env)) []) (tS hf L) λv y z l N e=>by obtain⟨rfl,e⟩:=e;obtain rfl:v=fv:=aq.inv N;rw[eD hp];exact Wp.callWith A (fj pos args) (h y l e) λvs w I h=>LQ.casesOn h λzs e r h=>q vs zs w (l.trans I) e r h
def abc(h:Ud f k≠0):(f=An "enumerate"/\k=1/\Ud f k=1)\/(f=An "zip"/\k=2/\Ud f k=2)\/(f=An "range"/\k=1/\Ud f k=3):=by
 delta Ud at h⊢
 by_cases R:(f==An "enumerate"&&k==1)=J
 rw[Nt R];obtain⟨a,b⟩:=Ah.mp R;exact Aw ⟨N2 a,N2 b,H⟩;rw[Np R]at h⊢
 by_cases N:(f==An "zip"&&k==2)=J
 rw[Nt N];obtain⟨a,b⟩:=Ah.mp N;exact AN (Aw ⟨N2 a,N2 b,H⟩);rw[Np N]at h⊢
 by_cases I:(f==An "range"&&k==1)=J
 rw[Nt I];obtain⟨a,b⟩:=Ah.mp I;exact AN (AN ⟨N2 a,N2 b,H⟩);rw[Np I]at h;exact M9 H h
def adY{N:Type}{l:List N}(h:l.length=1):∃a,l=[a]:=by cases l with|nil=>cases h|cons a l=>exact⟨a,by rw[Cy.mp (CV h)]⟩
def agv{N:Type}{l:List N}(h:l.length=2):∃a b,l=[a,b]:=by cases l with|nil=>cases h|cons a l=>obtain⟨b,rfl⟩:=adY (CV h);exact⟨a,b,H⟩
set_option tactic.hygienic true in
def vn(h:Vx e=U (f,p,args,q)):e=F0 (Dl f p) args [] q:=by
 cases e<;>first|exact aa h|skip
 case Call g a k r=>
  cases g<;>first|exact aa h|skip
  cases k with
  |nil=>cases Af h;rfl
  |cons=>exact aa h
abbrev ItF(P:LV->M5->Prop)(ik:Nat)(h:St)(r:AM)(y:Wd B):=∃ys,P ys y.σ/\ys.length<=Nh/\b7 (Wy ik) h ys r y
def nB{P:LV->M5->Prop}{N:AO->Prop}{u:Wd B}(l:LN x u)(R:∀t,Wy A t->N t)(h:ItP (lv n) P N u.toSt v y):Wp (lv n) noOwn (Fo v) (ItF P A x.toSt) y:=
 h.elim λI h=>Wp.mono h.2.2 λr w Z q=>⟨I,q.1.symm▸h.1,h.2.1,(q.2.back l).ki R⟩
def jh(S:∀j,j<=kv->jd n j){P:LV->M5->Prop}(A:U7 kt env Γ [it] N)(L:Loc x env Γ ρ)(R:Rt B n kv N ρ x.σ λvs σ=>R2 0 vs σ P):
  Wp (lv n) noOwn (eval it env) (λv y=>Wp (lv n) noOwn (Fo v) (ItF P 0 x.toSt) y) x:=by
 obtain⟨e',C,Q,I,rfl⟩:=ag4 A
 cases ag5 I
 obtain⟨k,hk,R⟩:=xF R;exact Wp.mono ((S k hk).e Q L R) λv y l q=>dS.casesOn q λz X q=>Wp.mono (afh X q) λr w Z q=>q.imp λys q=>⟨q.1,q.2.1,(q.2.2.back l).ki λZ Z=>Oq⟩
def tg1(h:Wy 1 t):IsTup t:=h.elim (λe=>Gx e) λh=>h.elim (λe=>Gx (CV e)) id
def tg2(h:Wy 2 t):IsTup t:=h.elim (λe=>Gx e) λh=>h.elim (λe=>Gx (CV (CV e))) id
def gV:Rh B (An t):=fP λZ e=>nomatch e
def pO(S:∀j,j<=kv->jd n j){P:LV->M5->Prop}(N:U7 kt env Γ (Oh (Gl) env.scope it).2 C)(L:Loc x env Γ ρ)(I:Rt B n kv C ρ x.σ λvs σ=>R2 (Oh (Gl) env.scope it).1 vs σ P):
  Wp (lv n) noOwn (eval it env) (λv y=>Wp (lv n) noOwn (Fo v) (ItF P (Oh (Gl) env.scope it).1 x.toSt) y) x:=by
 delta Oh at N I⊢
 cases hc:Vx it with
 |none=>rw[hc]at N I;exact jh S N L I
 |some c=>
  obtain⟨f,p,R,q⟩:=c;rw[hc]at N I;obtain rfl:=vn hc;dsimp only at N I⊢
  cases hh:Ru (Gl) env.scope f with
  |none=>rw[hh]at N I;exact jh S N L I
  |some fv=>
   rw[hh]at N I;dsimp only at N I⊢
   by_cases h0:Ud fv R.length=0
   rw[Nt h0]at N I⊢;exact jh S N L I;rw[Np h0]at N I⊢;dsimp only at N I⊢
   have A:∀{P'} hk,(∀vs X y,LN x y->X.length=R.length->Nq y vs X->R2 (Ud fv R.length) X y.σ P->Wp (lv n) noOwn (call fv vs []) P' y)->Wp (lv n) noOwn (eval (F0 (Dl f p) R [] q) env) P' x:=
    λhk k=>vm hk hh L (cn N) (λy l e=>(S kv (AH _)).es N (L.le l) (e▸I)) k
   rcases abc h0 with⟨rfl,hl,e⟩|⟨rfl,hl,e⟩|⟨rfl,hl,e⟩
   rw[e]at A⊢;refine A gV λvs X y l Q r q=>?_;obtain⟨z,rfl⟩:=adY (Q.trans hl);exact r.e1 (CL:=λvs=>Wp (lv n) noOwn (call _ vs []) _ y) λu hu=>Wp.mono (vj hu q) λv w Z h=>nB l (λZ=>tg1) h;rw[e]at A⊢;refine A gV λvs X y l Q r q=>?_;obtain⟨z,z2,rfl⟩:=agv (Q.trans hl);exact r.e2 (CL:=λvs=>Wp (lv n) noOwn (call _ vs []) _ y) λu u2 hu hu2=>Wp.mono (xC hu hu2 q) λv w Z h=>nB l (λZ=>tg2) h;rw[e]at A⊢;refine A gV λvs X y l Q r q=>?_;obtain⟨z,rfl⟩:=adY (Q.trans hl);refine r.e1 (CL:=λvs=>Wp (lv n) noOwn (call _ vs []) _ y) λu hu=>?_
   cases z<;>first|exact Bw q|skip
   exact Wp.mono (rX hu q) λv w Z h=>nB l (λZ Z=>Oq) h
def iA(h:OI it=J)(v:AM):foldedSetIterable it env v=AJ v:=by cases it<;>first|rfl|cases h
def kO(R:U7 kt env Γ (Oh (Gl) env.scope it).2 N):OI it=J:=by
 cases it<;>first|rfl|skip
 all_goals exact cn R _ (AV.mpr H)
def abd(S:∀kv,jd n kv)(Q:W3 n kv):W4 n kv:=λ{kt env Γ ρ t it b p st' K x} h L hv=>by
 obtain⟨hk,h⟩:=pb h;obtain⟨t',C,h⟩:=ag0 h;obtain⟨R,I,h⟩:=ag0 h;obtain⟨b',h3,h⟩:=ag0 h;obtain rfl:=Af h;rw[exec_For];refine Wp.ba λA N=>agY<|dq (pO (λj Z=>S j) I L hv A N) λv y l q2=>?_
 rw[iA (kO I)];refine agY<|agZ<|agY<|up<|Dp<|agY<|ag2<|dq (q2 A N) λr z X q3=>?_
 obtain⟨ys,hP,_,hI⟩:=q3;refine ahw ?_ λx=>aa x;rw[MB];refine ag7 (xG Q (afg S kv) C h3 (xE (Ah.mp hk).2) (l.trans X) L (L.le (l.trans X)) hI hP N) λr s' q=>?_
 cases r with
 |ok fl=>exact q
 |error e=>exact q.elim
end
set_option backward.match.sparseCases true
section
variable{n kv kt:Nat}{x y:Wd B}{env:Env}{Γ:NI}{ρ:NF}{K:Kt}
def Vc(env:Env)(line:Nat):AO->Option Str
 |.Name id pos=>if(env.kindOf id==U NameKind.local&&pos.line==line)=J then U id else Y
 |_=>Y
def vo(h:Vc env N t=U z):∃p,t=Dl z p/\env.kindOf z=U NameKind.local:=by
 cases t<;>first|exact aa h|skip
 obtain⟨q,h⟩:=pb h;obtain rfl:=Af h;exact⟨_,H,N2 (Ah.mp q).1⟩
abbrev Bd:=Str×Nat×AM×V
abbrev fh(ρ:NF)(ps:List Bd):NF:=ps.foldl (λρ p=>NM ρ p.2.1 p.2.2.2) ρ
def XE(x:Wd B)(env:Env)(Γ:NI)(p:Bd):=slot Γ p.1=U p.2.1/\env.kindOf p.1=U NameKind.local/\Rd x p.2.2.1 p.2.2.2
set_option backward.match.sparseCases false in
def build{ts:List AO}{zs:LV}(Q:ts.mapM (Xw (Gl) kt env.scope Γ)=U R)(I:(ts.filterMap (Vc env N)).length=ts.length)(hz:zs.length=ts.length)(r:Nq x vs zs):
  ∃ps:List Bd,ts.filterMap (Vc env N)=ps.map (·.1)/\ts.filterMap nameOf=ps.map (·.1)/\R=ps.map (λp=>Eg p.2.1)/\vs=ps.map (·.2.2.1)/\zs=ps.map (·.2.2.2)/\∀p∈ps,XE x env Γ p:=by
 induction ts generalizing R vs zs with
 |nil=>
  cases ag5 Q
  obtain rfl:=Cy.mp hz;exact r.e0 (CL:=λvs=>∃ps:List Bd,[]=ps.map (·.1)/\[]=ps.map (·.1)/\[]=ps.map (λp=>Eg p.2.1)/\vs=ps.map (·.2.2.1)/\[]=ps.map (·.2.2.2)/\∀p∈ps,XE x env Γ p) ⟨[],H,H,H,H,H,λZ h=>M9 h Ay⟩
 |cons t ts ih=>
  obtain⟨t',R,A,h2,rfl⟩:=ag4 Q
  cases zs with
  |nil=>cases hz
  |cons z zs=>
   obtain⟨v,vs,rfl,r1,r2⟩:=aE.inv r;rw[Cj]at I⊢
   cases e:Vc env N t with
   |none=>rw[e]at I;have I:(ts.filterMap (Vc env N)).length=ts.length+1:=I;exact M9 (Le ..) (by rw[I];exact Nat.not_succ_le_self _)
   |some a=>
    rw[e]at I;obtain⟨ps,e1,e2,rfl,rfl,rfl,hp⟩:=ih h2 (CV I) (CV hz) r2;obtain⟨p,rfl,hk⟩:=vo e
    obtain⟨i,X,rfl⟩:∃i,slot Γ a=U i/\t'=Eg i:=by
     cases kt with
     |zero=>exact aa A
     |succ kt=>
      change (match env.kindOf a with|some .local|some .cell=>_|_=>Y)=_ at A
      rw[hk]at A;obtain⟨i,X,rfl⟩:=A4.mp A;exact⟨i,X,H⟩
    exact⟨(a,i,v,z)::ps,M7 (a::·) e1,M7 (a::·) e2,H,H,H,λp C=>(AQ.mp C).elim (λq=>q▸⟨X,hk,r1⟩) (hp p)⟩
def pP(i:Nat)(z:V){ps:List Bd}:∀{ρ},i∉ps.map (·.2.1)->fh (NM ρ i z) ps=NM (fh ρ ps) i z:=by
 induction ps with
 |nil=>exactλZ=>H
 |cons p ps ih=>intro ρ h;exact(M7 (fh · ps) (List.set_comm _ _ λe=>h (e▸As ..):NM (NM ρ i z) p.2.1 p.2.2.2=NM (NM ρ p.2.1 p.2.2.2) i z)).trans<|ih λq=>h<|Au _ q
def rY{ps:List Bd}:∀{ρ},(ps.map (·.2.1)).Nodup->fh ρ ps.reverse=fh ρ ps:=by
 induction ps with
 |nil=>exactλZ=>H
 |cons p ps I=>intro ρ h;obtain⟨R,N⟩:=Bc.mp h;rw[BF];exact(Dr ..).trans ((M7 (NM · p.2.1 p.2.2.2) (I N)).trans (pP _ _ R).symm)
def pQ{ps:List Bd}(hp:∀p∈ps,XE x env Γ p)(h:(ps.map (·.1)).Nodup):(ps.map (·.2.1)).Nodup:=by
 induction ps with
 |nil=>exact Cx
 |cons p ps X=>obtain⟨A,I⟩:=Bc.mp h;refine Bc.mpr ⟨λq=>A ?_,X (λp N=>hp p (Au _ N)) I⟩;obtain⟨R,N,e⟩:=A0.mp q;have b:=gx (hp R (Au _ N)).1;rw[e]at b;exact A0.mpr ⟨R,N,Af (aO b (gx (hp p (As ..)).1))⟩
def xH{c:NF->M5->Prop}{ps:List Bd}:∀{k} {ρ} {σ},XD n k (ps.map λp=>Eg p.2.1) (ps.map (·.2.2.2)) ρ σ c->c (fh ρ ps) σ:=by
 induction ps with
 |nil=>exactλ{k ρ σ} h=>by cases k with|zero=>exact Bw h|succ k=>exact h
 |cons p ps N=>
  intro k ρ σ h
  cases k with
  |zero=>exact Bw h
  |succ k=>
   cases k with
   |zero=>exact Bw h
   |succ k=>exact N h
def bindAll{ps:List Bd}:∀{x} {ρ},Loc x env Γ ρ->(∀p∈ps,XE x env Γ p)->Wx m env Γ (En (ps.map λp=>Ka env p.1) (ps.map (·.2.2.1))) (λZ N y=>N=fh ρ ps/\y.σ=x.σ) x:=by
 induction ps with
 |nil=>exactλ{x ρ} L _=>Wp.pure (.mk ρ L ⟨H,H⟩)
 |cons p ps ih=>intro x ρ L X;obtain⟨h1,h2,h3⟩:=X p (As ..);show Wx m env Γ (E7 (ps.map (·.2.2.1)) (Ka env p.1 p.2.2.1)>>=λZ=>En (ps.map λp=>Ka env p.1) (ps.map (·.2.2.1))) _ x;refine Wx.bind (Wp.holding (Wx.tT (R:=λZ N y=>N=NM ρ p.2.1 p.2.2.2/\y.σ=x.σ) L (Aw h2) h1 h3 λy e=>⟨H,e⟩)) λZ N y l L' q=>?_;obtain⟨rfl,e⟩:=q;refine Wp.mono (ih L' λC A=>(X C (Au _ A)).imp_right λq=>q.imp_right λr=>r.leX L l) λZ w Z q=>XQ.casesOn q λI Q q=>.mk I Q ⟨q.1,q.2.trans e⟩
def iB{N:Type}{c:Prop}[Decidable c]{t:Sem (Option N)}{C:Sem (Option N)->Prop}(h0:C (AJ Y))(h:¬c->C t):C (if c then AJ Y else t):=by
 by_cases q:c
 rw[Nt q];exact h0;rw[Np q];exact h q
def Yt(env:Env)(t:AO)(s:Sem (Option NI)):=s=AJ Y\/∃ts k p,t=Ib ts k p/\(ts.filterMap nameOf).Nodup/\∃line,(ts.filterMap (Vc env line)).length=ts.length/\s=AJ (U (ts.filterMap (Vc env line)))
set_option tactic.hygienic true in
def abe{t e:AO}(hl:∀l p,t≠.List l p)(hok:WO t e=J):Yt env t (Mk [t] e env):=by
 cases t<;>first|exact M9 rfl (hl _ _)|skip
 case Tuple ts c p=>
  cases e<;>first|exact .inl rfl|skip
  case Tuple vs c' p'=>
   obtain⟨h1,h2⟩:=Ah.mp hok
   refine iB (Aw H) λZ=>iB (Aw H) λZ=>iB (Aw H) λhn=>iB (Aw H) λhf=>?_
   have hca:vs.all (constantsAlone 8)=Am:=by
    rcases Cb.mp h1 with h|h
    ·exact M9 h hf
    ·exact BM _|>.mp h
   rw[hca]
   refine AN ⟨ts,c,p,H,Od h2,(ts.head?.map (·.pos.line)).getD 0,?_,?_⟩
   ·exact(bne_eq_false_iff_eq.mp (CX.mp (Bool.not_eq_true _|>.mp hn)).1)
   ·rfl
 all_goals exact Aw H
def Wf.tX{R:Type}{t:Sem R}{f:R->Sem Flow}{P:R->NF->Wd B->Prop}(h:Wx (lv n) env Γ t P x)(k:∀r N y,LE (ownOf env) x.toSt y.toSt->Loc y env Γ N->P r N y->Wf n env Γ (f r) K y):Wf n env Γ (t>>=f) K x:=
 Wp.bind h λr y l q=>XQ.casesOn q λN L q=>k r N y l L q
def xI(SA:∀kv,Ys n kv){z:V}(N:Xw (Gl) kt env.scope Γ t=U t')(hok:WO t e=J)(L:Loc x env Γ ρ)(hz:Rd x v z)(I:O2 n kv t' z ρ x.σ K.nx):
  Wf n env Γ (do assignStores env v (<-Mk [t] e env) ((Hd [t] env).map (·.2))) K x:=by
 have hnl:∀l p,t≠.List l p:=λl p e=>by
  subst e
  cases kt<;>exact aa N
 rcases abe hnl hok with he|⟨ts,k,p,rfl,hnd,X,hl,he⟩
 ·rw[he,(ix λe he=>(AV.mp he)▸jf N:Hd [t] env=[(Am,ES t env)])];exact Wf.tX (f:=λZ=>AJ EU) ((SA kv).a N L hz I) λZ A y l L' q=>Wf.next L' q
 rw[he]
 cases kt with
 |zero=>exact aa N
 |succ kt=>
  obtain⟨l',e1,N⟩:=ag0 N;obtain rfl:=Af N
  cases kv with
  |zero=>exact I.elim
  |succ kv=>
   obtain⟨zs,hp,I⟩:=pE I;obtain⟨hlz,I⟩:=xw I;have Q:=hlz.trans (dU e1);refine Wp.skip (λZ Z q=>up<|BD q) ?_;rw[(hl.trans Q.symm:(ts.filterMap (Vc env X)).length=zs.length)];refine Wf.tX (Wx.ofW (R:=λvs A y=>A=ρ/\y.σ=x.σ/\Nq y vs zs) L (Wp.unpack (R:=λvs y=>y.σ=x.σ/\Nq y vs zs) hz hp λvs y e Z r=>⟨e,r⟩) λZ Z Z q=>⟨H,q⟩) λvs A y l' L' q=>?_;obtain⟨rfl,e,r⟩:=q;obtain⟨ps,f1,f2,rfl,rfl,rfl,C⟩:=build e1 hl Q r;rw[f1,<-DZ,<-DZ,Bo];refine Wf.tX (bindAll L' λp hp=>C p (EW.mp hp)) λZ ρ2 y2 l2 L2 q=>?_;obtain⟨rfl,e2⟩:=q;refine Wf.next L2 ?_
   rw[rY (pQ C (f2▸hnd)),e2,e];exact xH I
end
set_option backward.match.sparseCases false
section
variable{n kv kt:Nat}{x y:Wd B}{env:Env}{Γ:NI}{ρ:NF}{K:Kt}
def Tz(n:Nat):=∀{kv kt env Γ ρ elt gs scope p e' Q} {u:AM->Sem Unit} {R:NF->M5->Prop} {x:Wd B},Th (Gl) (PJ (Gl) kt) env.scope Γ elt gs scope=U e'->Loc x env Γ ρ->O7 B n kv e' ρ x.σ Q->
 (∀v z y,Loc y env Γ ρ->Rd y v z->Q z y.σ->Wx (lv n) env Γ (u v) (λZ ρ' y=>R ρ' y.σ) y)->Wx (lv n) env Γ (evalThenUse (CE elt gs scope p) env u) (λZ ρ' y=>R ρ' y.σ) x
def vp(h:¬Wc e=J):My e (U t) N env=AJ Am:=by cases e<;>first|rfl|exact M9 rfl h
def xJ:∃b,My (CE R I scope p) (U t) N env=AJ b:=by cases t<;>exact⟨_,H⟩
def xK(A:Wc e=J)(h:WX kt env Γ e I):∃kt N R scope p,e=CE N R scope p/\Th (Gl) (PJ (Gl) kt) env.scope Γ N R scope=U I:=by
 cases kt with
 |zero=>exact aa h
 |succ kt=>cases e<;>first|exact aa h|exact A9 A|exact⟨kt,_,_,_,_,rfl,h⟩
def abf (S : ∀ kv, jd n kv) (hU : Tz n) : W5 n kv := fun {kt env Γ ρ ts e p st' K x} h L hv => by
  cases ts with
  | nil => exact aa h
  | cons t r =>
    cases r with
    | cons => exact aa h
    | nil =>
      obtain ⟨hok, h⟩ := pb h
      obtain ⟨t', C, h⟩ := ag0 h
      obtain ⟨e', h2, h⟩ := ag0 h
      obtain rfl := Af h
      have SA := afg S
      have N : Wf n env Γ (do let v ← eval e env; assignStores env v (← Mk [t] e env) ((Hd [t] env).map (·.2))) K x :=
        Wf.pN L ((S kv).e h2 L hv) fun v y l I q => dS.casesOn q fun z Q q => xI SA C hok I Q q
      refine Wp.of_eq (arm_exec_Assign [t] e p env) (Wp.ba ?_)
      show Wf n env Γ (My e (U t) p.line env >>= _) K x
      by_cases A : Wc e = J
      · obtain ⟨kt', elt, gs, X, p', rfl, h3⟩ := xK A h2
        obtain ⟨b, hs⟩ := xJ
        rw [hs]
        cases b
        · exact N
        · have hea : Hd [t] env = [(Am, ES t env)] := ix fun e he => (AV.mp he) ▸ jf C
          refine Wf.tX (f := fun Z => AJ EU) (hU (R := K.nx) h3 L hv fun v z y I Q q => ?_) fun Z ρ' y l I q => Wf.next I q
          rw [hea]
          exact (SA kv).a C I Q q
      · rw [vp A]; exact N
def RV(env:Env)(p:Str×Fw)(cs:List (Str×AG)):Sem (ForInStep (List (Str×AG))):=
 if(p.2==Ba)=J then(do let c<-cellOf env p.1;AJ (BX ((p.1,c)::cs)))else AJ (BX cs)
structure Cls (env:Env) (fr:Str->Prop) (l:List (Str×AG)):Prop where
 sub:∀z c,l.lookup z=U c->env.cells.lookup z=U c
 all:∀z,fr z->∃c,l.lookup z=U c
def rZ(l:List (Str×Fw)):∀{fr} {acc},(∀z,(z,Ba)∈l->∃c,env.cells.lookup z=U c)->Cls env fr acc->
  ∃I,forIn l acc (RV env)=AJ I/\Cls env (λz=>fr z\/(z,Ba)∈l) I:=by
 induction l with
 |nil=>exactλZ h=>⟨_,H,h.sub,λz q=>h.all z (q.resolve_right Ay)⟩
 |cons p r ih=>
  intro fr acc Q h2;obtain⟨z,k⟩:=p;rw[Cv]
  by_cases hk:k=Ba
  ·subst hk;obtain⟨c,hc⟩:=Q z (As ..)
   have e:RV env (z,Ba) acc=AJ (BX ((z,c)::acc)):=by show cellOf env z>>=_=_;rw[(by delta cellOf;rw[hc]:cellOf env z=AJ c)];rfl
   have R:∀u,G4 u ((z,c)::acc)=if(u==z)=J then U c else acc.lookup u:=λu=>by rw[D0];cases u==z<;>rfl
   obtain⟨I,C,X⟩:=ih (fr:=λu=>fr u\/u=z) (acc:=(z,c)::acc) (λu N=>Q u (Au _ N)) ⟨λu d A=>by
    rw[R]at A
    by_cases q:(u==z)=J
    rw[Nt q]at A;rw[N2 q];exact Af A▸hc
    rw[Np q]at A;exact h2.sub u d A,λu N=>by
    rw[R]
    by_cases q:(u==z)=J
    rw[Nt q];exact⟨c,H⟩;rw[Np q];exact h2.all u (N.resolve_right λe=>q (e▸Px u))⟩
   rw[e];exact⟨I,C,X.sub,λu N=>X.all u (N.elim (λq=>Aw (Aw q)) λq=>(AQ.mp q).elim (λq=>Aw (AN (M7 Az q))) AN)⟩
  have e:RV env (z,k) acc=AJ (BX acc):=Np λq=>hk (N2 q);obtain⟨I,C,X⟩:=ih (λu N=>Q u (Au _ N)) h2;rw[e];exact⟨I,C,X.sub,λu N=>X.all u (N.imp_right λq=>(AQ.mp q).elim (λq=>M9 (M7 FH q).symm hk) id)⟩
def Wg(env:Env)(z:Str)(k:Fw):Fw:=if(k==Ba&&env.scope.kind==B8&&env.kindOf z==U BA)=J then BA else k
def fX(env:Env)(N:List (Str×Fw))(z:Str):(N.map λ(n,k)=>if(k==Ba&&env.scope.kind==B8&&env.kindOf n==U BA)=J then(n,BA)else(n,k)).lookup z=(N.lookup z).map (Wg env z):=by
 induction N with
 |nil=>rfl
 |cons p r I=>
  obtain⟨u,k⟩:=p
  have e:(if(k==Ba&&env.scope.kind==B8&&env.kindOf u==U BA)=J then(u,BA)else(u,k))=(u,Wg env u k):=by delta Wg;exact(apply_ite (Prod.mk u) ..).symm
  show G4 z ((if(k==Ba&&env.scope.kind==B8&&env.kindOf u==U BA)=J then(u,BA)else(u,k))::_)=_;rw[e,D0,D0]
  cases R:z==u with
  |true=>rw[N2 R];rfl
  |false=>exact I
def ahl{N:List (Str×Fw)}(h:N.lookup z=U k):(z,k)∈N:=by
 induction N with
 |nil=>exact aa h
 |cons p r R=>
  rw[D0]at h
  cases q:z==p.1 with
  |true=>rw[q]at h;exact AQ.mpr (Aw (by rw[N2 q,<-Af h]))
  |false=>rw[q]at h;exact Au _ (R h)
inductive W6 (env:Env) (Γ:NI) (scope:Ej) (z:Str):Fw->Prop
 |loc:(z,NameKind.local)∈scope.names->W6 env Γ scope z NameKind.local
 |free:(z,Ba)∈scope.names->(env.kindOf z=U BA\/env.kindOf z=U Ba)->W6 env Γ scope z Ba
 |glob:z∉Γ->W6 env Γ scope z Ei
structure gW (env:Env) (Γ:NI) (scope:Ej):Prop where
 names:∀z k,(z,k)∈scope.names->scope.names.lookup z=U k/\W6 env Γ scope z k
 emp:scope.names.lookup EG=Y
 dot:(".0":Str)∉Γ
 nd:(NB scope).Nodup
def adZ(h:WN env.scope Γ scope=J):gW env Γ scope:=by
 obtain⟨h,X⟩:=Ah.mp h;obtain⟨h,A⟩:=Ah.mp h;obtain⟨I,R⟩:=Ah.mp h;refine⟨λz k N=>?_,Dw.mp R,λq=>?_,Od X⟩
 ·obtain⟨a,b⟩:=Ah.mp (A3.mp I (z,k) N);refine⟨N2 a,?_⟩
  cases k<;>first|exact .loc N|exact .free N ((Cb.mp b).imp N2 N2)|exact .glob (λq=>A9 (aO b (M7 not (Ci.mpr q))))|exact A9 b
 exact A9<|aO A<|M7 not<|Ci.mpr q
def kP:z∈NB scope↔(z,NameKind.local)∈scope.names/\z≠(".0":Str):=by refine List.mem_filterMap.trans ⟨λ⟨⟨u,k⟩,N,R⟩=>?_,λ⟨N,I⟩=>⟨(z,NameKind.local),N,Nt (Ah.mpr ⟨H,bne_iff_ne.mpr I⟩)⟩⟩;obtain⟨q,R⟩:=pb R;obtain rfl:=Af R;obtain⟨a,b⟩:=Ah.mp q;exact⟨N2 a▸N,bne_iff_ne.mp b⟩
variable{scope:Ej}{cl:List (Str×AG)}{C:AG}
def nC(L:Loc x env Γ ρ)(A:gW env Γ scope):∃cl,closureFor scope env=AJ cl/\Cls env (λz=>(z,Ba)∈scope.names) cl:=by
 obtain⟨cl,e,h⟩:=rZ scope.names (fr:=λZ=>False) (acc:=[]) (λz I=>by refine W6.casesOn (motive:=λk Z=>k=Ba->∃c,env.cells.lookup z=U c) (A.names z Ba I).2 (λZ e=>nomatch e) (λZ q Z=>L.eo.has z q) (λZ e=>nomatch e) H) ⟨λZ Z h=>aa h,λZ h=>h.elim⟩
 have N:closureFor scope env=(forIn scope.names ([]:List (Str×AG)) (RV env)>>=λR=>AJ R):=H;rw[N,e];exact⟨cl,H,h.sub,λz q=>h.all z (AN q)⟩
inductive Knd (env:Env) (Γ:NI) (scope:Ej) (z:Str):Fw->Prop
 |loc:(z,NameKind.local)∈scope.names->Knd env Γ scope z NameKind.local
 |cell:(z,Ba)∈scope.names->(env.kindOf z=U BA\/env.kindOf z=U Ba)->Knd env Γ scope z BA
 |free:(z,Ba)∈scope.names->(env.kindOf z=U BA\/env.kindOf z=U Ba)->Knd env Γ scope z Ba
 |glob:z∉Γ->Knd env Γ scope z Ei
def knd(R:gW env Γ scope)(h:(E8 scope cl C env).kindOf z=U k):Knd env Γ scope z k:=by
 obtain⟨j,N,rfl⟩:=A4.mp (aO (fX env scope.names z) h:(scope.names.lookup z).map (Wg env z)=U k);have f:=(R.names z j (ahl N)).2
 cases f with
 |loc a=>exact .loc a
 |free a b=>
  by_cases q:(Ba==Ba&&env.scope.kind==B8&&env.kindOf z==U BA)=J
  rw[show Wg env z Ba=BA from Nt q];exact .cell a b;rw[show Wg env z Ba=Ba from Np q];exact .free a b
 |glob a=>exact .glob a
inductive Slt (Γ:NI) (scope:Ej) (i:Nat) (z:Str):Prop
 |old:i<Γ.length->Γ[i]?=U z->z∉NB scope->Slt Γ scope i z
 |emp:z=EG->Slt Γ scope i z
 |new (j:Nat):i=Γ.length+j->(NB scope)[j]?=U z->Slt Γ scope i z
def dW(h:(N3 Γ scope)[i]?=U z):Slt Γ scope i z:=by
 delta N3 at h
 by_cases N:i<Γ.length
 ·rw[E3 (by rw[Ak];exact N),BR]at h;obtain⟨u,R,e⟩:=A4.mp h
  by_cases q:(NB scope).contains u=J
  rw[Nt q]at e;exact .emp e.symm;rw[Np q]at e;exact e▸.old N R λm=>q (Ci.mpr m)
 have N:=Di N;rw[CW (by rw[Ak];exact N),Ak]at h;exact .new _ (Jn N).symm h
def abg(L:Loc x env Γ ρ)(hc:gW env Γ scope)(X:scope.kind=B8)(N:Cls env (λz=>(z,Ba)∈scope.names) cl)
  (hns:x.sh.heap.Ns C m) (pC:NQ x.toSt C) (hC:¬ownOf env C):Loc x (E8 scope cl C env) (N3 Γ scope) (ρ++A8 (NB scope).length Y):=by
 have E:=L.eo
 have old:∀{z},z∈Γ->z∉NB scope->(E8 scope cl C env).kindOf z≠Y->
   (z,Ba)∈scope.names/\((E8 scope cl C env).kindOf z=U BA\/(E8 scope cl C env).kindOf z=U Ba)/\(env.kindOf z=U BA\/env.kindOf z=U Ba):=λ{z} hz hn hk=>by
  cases e:(E8 scope cl C env).kindOf z with
  |none=>exact M9 e hk
  |some k=>
   cases knd hc e with
   |loc a=>exact M9 (kP.mpr ⟨a,λq=>hc.dot (q▸hz)⟩) hn
   |cell a b=>exact⟨a,Aw H,b⟩
   |free a b=>exact⟨a,AN H,b⟩
   |glob a=>exact M9 hz a
 have R:∀{z},(E8 scope cl C env).kindOf z≠Y->z≠EG:=λ{z} hk e=>by subst e;exact hk<|(fX env scope.names _).trans (by rw[hc.emp];rfl)
 have knn:∀{z},(env.kindOf z=U BA\/env.kindOf z=U Ba)->env.kindOf z≠Y:=λh e=>h.elim (λq=>aa (aO e q)) λq=>aa (aO e q);refine⟨⟨X,E.glob,E.blt,λz c h e=>hC (AN ⟨z,(show c=C from e)▸N.sub z c h⟩),λu v c h1 A=>E.inj u v c (N.sub u c h1) (N.sub v c A),λz h=>?_⟩,⟨m,hns⟩,λa h=>?_,λz c h=>L.cells z c (N.sub z c h),?_,λi j z h1 A h3=>?_,λi z v h1 A h3=>?_⟩
 ·refine N.all z ?_;rcases h with h|h
  ·cases knd hc h with|cell a _=>exact a
  ·cases knd hc h with|free a _=>exact a
 exact h.elim (λe=>e▸pC) λ⟨z,h⟩=>L.bj a<|AN ⟨z,N.sub z a h⟩
 delta N3;rw[Ad,Ad,Ak,Cs,L.len]
 ·cases dW h1 with
  |emp e=>exact M9 e (R h3)
  |old _ I n1=>
   cases dW A with
   |emp e=>exact M9 e (R h3)
   |old _ g2 _=>exact L.nd i j z I g2 (knn (old (A6 I) n1 h3).2.2)
   |new _ _ e=>exact M9 (A6 e) n1
  |new k1 e1 I=>
   cases dW A with
   |emp e=>exact M9 e (R h3)
   |old _ _ n2=>exact M9 (A6 I) n2
   |new k2 e2 g2=>rw[e1,e2,(M0 ((BI.mp I).1) hc.nd).mp (I.trans g2.symm)]
 cases dW h1 with
 |emp e=>exact M9 e (R h3)
 |old hi I n1=>
  rw[E3 (by rw[L.len];exact hi)]at A;obtain⟨a,k1,k2⟩:=old (A6 I) n1 h3;obtain⟨u,hu,hr⟩:=L.vars i z v I A (knn k2);refine⟨u,?_,hr⟩;obtain⟨c',Q⟩:=N.all z a
  have go:∀{c},env.cells.lookup z=U c->x.sh.heap.IsCell c (U u)->Var (E8 scope cl C env) x.sh.heap z u:=λ{c} b d=>by obtain rfl:=Af (aO b (N.sub z c' Q));exact k1.elim (λk=>HY c k Q d) λk=>.free c k Q d
  cases hu with
  |loc m a b d=>exact k2.elim (λq=>nomatch a.symm.trans q) λq=>nomatch a.symm.trans q
  |cell c a b d=>exact go b d
  |free c a b d=>exact go b d
 |new j e g=>
  subst e
  rewrite[CW (by rw[L.len];exact AD ..),Lo]at A
  exact aa<|Af (pb A).2
end
section
variable{n kv kt:Nat}{x y:Wd B}{env:Env}{Γ:NI}{ρ ρ':NF}{K:Kt}{v:AM}{z:V}
abbrev RW(ifs:List AO)(env:Env)(b:Bool):Sem Bool:=forIn ifs b λc r=>if r=J then do let ok<-Lj c env (eval c env);AJ (BX ok)else AJ (BX r)
def md(I:Nat->AZ->Prop)
  (turn:∀n s,I n s->∀E,wpAny B.M A (KA it) (λr s₁=>match r with
   |none=>R (CT EU) s₁
   |some v=>∀E,wpAny B.M A (FC N it v) (λZ C=>wpAny B.M A (ES N env v) (λZ s₃=>wpAny B.M A (RW ifs env J) (λok Q=>
      if ok=J then wpAny B.M A (eval elt env) (λx s₅=>wpAny B.M A (call (AK "list.append") [acc,x]) (λZ s₆=>∃m,m<n/\I m s₆) PI s₅) PI Q
      else∃m,m<n/\I m Q) PI s₃) PI C) E s₁) E s)
  (n:Nat) (h:I n s):codeAny B.M A (.compLoop (CE elt [⟨N,iter,ifs,0⟩] scope pos) 0 it acc env) R s:=by
 refine ahK H I (λn s hI=>?_) n h H;show wpAny _ A ((compTurn (CE elt [⟨N,iter,ifs,0⟩] scope pos) 0 it acc env).onRaise (λx=>do IW x env;GO x)) _ _ s;refine ahi ?_;rw[compTurn_list];refine agY<|up<|Dp<|agY<|ag1 (turn n s hI PI) (λr s₁ h₁=>?_) λZ Z q=>q.elim
 cases r with
 |none=>exact agZ h₁
 |some v=>
  refine agY<|ag1 (h₁ PI) (λZ C X=>agY (ag1 X (λZ C X=>agY (ag1 X (λok s₃ h₃=>?_) λZ Z q=>q.elim)) λZ Z q=>q.elim)) λZ Z q=>q.elim
  cases ok with
  |false=>exact agZ ⟨H,h₃⟩
  |true=>exact agY (agY (ag1 h₃ (λx Q h₄=>agY (ag1 h₄ (λZ s₅ h₅=>agZ (agZ ⟨H,h₅⟩)) λZ Z q=>q.elim)) λZ Z q=>q.elim))
def r4(q:Q Am x):Wp n noOwn (RW N env Am) Q x:=by
 induction N with
 |nil=>exact Wp.pure q
 |cons c r R=>rw[RW,Cv];exact R
def pR(S:∀j,j<=M->jd n j)(hi:U7 kt env Γ I X):∀{k} {x},k<=M->Loc x env Γ ρ->Pr B n k X ρ x.σ Q->
  Wp (lv n) noOwn (RW I env J) (λok y=>Q ok y.σ) x:=by
 induction I generalizing X with
 |nil=>
  intro k x A L N
  cases ag5 hi
  cases k with
  |zero=>exact Bw N
  |succ k=>exact Wp.pure N
 |cons c r ih=>
  intro k x A L N;obtain⟨c',r',e1,e2,rfl⟩:=ag4 hi
  cases k with
  |zero=>exact Bw N
  |succ k=>
   rw[RW,Cv]
   refine Wp.bind (Wp.bind (R:=λC y=>∃b,C=BX b/\Loc y env Γ ρ/\brK (Pr B n k r' ρ) WH Q b y.σ)
    (Wp.mono ((S k (DR A)).t e1 L (λz σ q=>(a8 q).imp λZ h=>h.1) N) λb y l q=>TQ.casesOn q λz e q=>by obtain⟨b',e',q⟩:=a8 q;obtain rfl:=Af (aO e e');exact⟨L.le l,q⟩) λb y Z q=>Wp.pure ⟨b,H,q⟩) λC y Z q=>?_
   obtain⟨b,rfl,L',q⟩:=q
   cases b
   exact r4 q;exact ih e2 (DR A) L' q
abbrev Wh(env:Env)(a:AG):=a=env.locals
def W7(env:Env)(Γ:NI)(ρ':NF)(x:Wd B):Unit->Wd B->Prop:=XQ env Γ λZ ρ2 y=>ρ2=ρ'/\y.σ=x.σ
def jJ(h:Tg env.scope Γ e=U i):∃id p,e=Dl id p/\env.kindOf id=U NameKind.local/\slot Γ id=U i:=by
 obtain⟨id,N,h⟩:=ag0 h;obtain⟨R,I⟩:=pb h
 cases e<;>first|exact aa N|skip
 obtain rfl:=Af N;exact⟨_,_,H,N2 R,I⟩
def pS(h:Tg env.scope Γ e=U i)(L:Loc x env Γ ρ)(hz:Rd x v z):Wp n (Wh env) (ES e env v) (W7 env Γ (NM ρ i z) x) x:=by obtain⟨I,p,rfl,N,R⟩:=jJ h;exact Wp.ba<|Wx.bindG L (Aw N) R hz H (λZ q=>nomatch N.symm.trans q) λy e=>⟨H,e⟩
def afj(L:Loc x env Γ ρ)(l:LE (Wh env) x.toSt y.toSt):LE (ownOf env) x.toSt y.toSt:=
 ⟨λa o h e s=>l.1 a o (λq=>h (Aw q)) e s,λa h s f=>by
  by_cases q:a=env.locals
  exact l.2 a q s f;exact(L.has a h).elim λo e=>(l.1 a o q e s).2.imp_right λi z=>f (i.mp z)⟩
def r5{N:List AO}(h:N.mapM (Tg env.scope Γ)=U A):∀{x} {vs} {zs} {ρ},RE ρ A zs=U ρ'->Nq x vs zs->Loc x env Γ ρ->
  Wp n (Wh env) (En (N.map λe=>ES e env) vs) (W7 env Γ ρ' x) x:=by
 induction N generalizing A with
 |nil=>
  intro x vs zs ρ R r L
  cases ag5 h
  cases zs with
  |nil=>exact r.e0 (CL:=λvs=>Wp n (Wh env) (En [] vs) (W7 env Γ ρ' x) x) (Wp.pure (.mk ρ L ⟨Af R,H⟩))
  |cons=>exact aa R
 |cons e N ih=>
  intro x vs zs ρ R r L;obtain⟨i,tg',C,Q,rfl⟩:=ag4 h
  cases zs with
  |nil=>exact aa R
  |cons z zs=>
   exact r.dp (CL:=λvs=>Wp n (Wh env) (En ((e::N).map λe=>ES e env) vs) (W7 env Γ ρ' x) x) λu us a b=>
    Wp.bind (f:=λZ=>En (N.map λe=>ES e env) us) (Wp.holding (pS C L a)) λZ y l q=>XQ.casesOn q λρ2 X q=>by obtain⟨rfl,e⟩:=q;exact Wp.mono (ih Q R (b.leX L (afj L l)) X) λZ w Z q=>XQ.casesOn q λI L3 q=>.mk I L3 ⟨q.1,q.2.trans e⟩
def xM(h:Vt z=U zs):partsOf z σ=U zs:=by cases z<;>first|exact h|exact aa h
def pT(h:RE ρ N zs=U ρ'):zs.length=N.length:=by
 induction N generalizing ρ zs with
 |nil=>cases zs with|nil=>rfl|cons=>exact aa h
 |cons i N R=>cases zs with|nil=>exact aa h|cons z zs=>exact M7 (· +1) (R h)
set_option tactic.hygienic true in
def nD(ht:RI env.scope Γ t=U (tg,one))(hb:Vu ρ tg one z=U ρ')(hz:Rd x v z)(L:Loc x env Γ ρ):Wp n (Wh env) (ES t env v) (W7 env Γ ρ' x) x:=by
 cases t<;>first|exact aa ht|skip
 case Name id p=>
  obtain⟨i,hi,e⟩:=A4.mp ht
  cases e
  exact Af hb▸pS hi L hz
 case Tuple es c p=>
  obtain⟨l,hl,e⟩:=A4.mp ht
  cases e
  obtain⟨zs,hp,hb⟩:=ag0 (show(Vt z).bind (RE ρ tg)=U ρ' by clear hl;cases tg<;>exact hb)
  have hpl:∀e∈es,plainT e=J:=λe he=>(kF hl e he).elim λi h=>by
   obtain⟨id,p,rfl,_⟩:=jJ h;rfl
  refine Wp.ba ?_
  delta PySem.unpack
  rw[ix hpl]
  have hst:(es.map λe=>(Am,ES e env)).findIdx? (·.1)=Y:=GX.mpr λy hy=>by
   obtain⟨e,_,rfl⟩:=A0.mp hy;rfl
  rw[hst,(by rw[Ak,pT hb,dU hl]:(es.map λe=>(Am,ES e env)).length=zs.length),Bo]
  exact Wp.bind (Wp.lift (λa e=>L.has a (Aw e)) (Wp.holding (Wp.unpack (R:=λvs y=>(y.σ=x.σ/\Loc y env Γ ρ)/\Nq y vs zs) hz (xM hp) λvs y e l r=>⟨⟨e,L.le l⟩,r⟩))) λvs y l q=>(Wp.mono (r5 hl hb q.2 q.1.2) λZ w Z h=>XQ.casesOn h λρ3 L3 h=>.mk ρ3 L3 ⟨h.1,h.2.trans q.1.1⟩)
end
section
variable{n kv kt:Nat}{x y z:Wd B}{env:Env}{Γ:NI}{ρ:NF}{own o':AG->Prop}{C D I:AG}{vals:LVal}{vs:LV}
def LE.tY{x y:St}{a:AG}{o:Obj}(l:LE o' x y)(N:¬o' a)(p:NQ x a)(e:x.get? a=U o):y.get? a=U o/\NQ y a:=(l.1 a o N e p.1).imp_right λr=>⟨r.1,λq=>p.2 (r.2.mp q)⟩
def LE.mN{x y:St}(l:LE o' x y)(hp:∀a,o' a->NQ x a):Ou x y:=λa o e f=>(l.1 a o (λq=>(hp a q).2 f.2) e f.1).imp_right λr=>⟨r.1,r.2.mpr f.2⟩
def LE.kQ{x y:St}(l:LE o' x y)(N:∀a,own a->¬o' a)(hp:∀a,o' a->NQ x a)(h:Xn own x):After own x y:=
 ⟨λa q=>⟨λZ e=>(l.tY (N a q) (h a q).1 e).1,(h a q).2.elim λZ e=>(l.tY (N a q) (h a q).1 e).2⟩,l.mN hp⟩
abbrev SG(x:St)(C:AG):=∃m,x.sh.heap.Ns C m
def SG.keep{x y:St}(l:LE o' x y)(R:¬o' C)(p:NQ x C)(h:SG x C):SG y C/\NQ y C:=by obtain⟨m,o,N,A,e,r⟩:=h;obtain⟨a,b⟩:=l.tY R p e;exact⟨⟨m,o,N,A,a,r⟩,b⟩
abbrev Plain(x:St)(D:AG)(vals:LVal):=x.sh.heap.PlainList D vals.toArray
def Plain.keep{x y:St}(l:LE o' x y)(N:¬o' D)(p:NQ x D)(h:Plain x D vals):Plain y D vals/\NQ y D:=by obtain⟨m,e⟩:=h;obtain⟨a,b⟩:=l.tY N p e;exact⟨⟨m,a⟩,b⟩
structure Sep (env:Env) (C D:AG) (own:AG->Prop):Prop where
 cd:C≠D
 co:¬own C
 dO:¬own D
 ce:¬ownOf env C
 de:¬ownOf env D
 oe:∀a,own a->¬ownOf env a
def Tri(C D:AG)(own:AG->Prop)(a:AG):=a=C\/a=D\/own a
structure bO (env:Env) (Γ:NI) (ρ:NF) (C D:AG) (vals:LVal) (vs:LV) (x:Wd B):Prop where
 loc:Loc x env Γ ρ
 ns:SG x.toSt C
 c:NQ x.toSt C
 d:NQ x.toSt D
 pl:Plain x.toSt D vals
 rd:Nq x vals vs
def bO.le(N:bO env Γ ρ C D vals vs x)(l:LN x y):bO env Γ ρ C D vals vs y:=
 have a:=N.ns.keep l (λq=>q) N.c;have b:=Plain.keep l (λq=>q) N.d N.pl
 ⟨N.loc.le l,a.1,a.2,b.2,b.1,N.rd.le l⟩
def bO.it(N:bO env Γ ρ C D vals vs x)(s:Sep env C D own)(h:Xn own x.toSt)(l:LE own x.toSt y.toSt):bO env Γ ρ C D vals vs y:=
 have a:=N.ns.keep l s.co N.c;have b:=Plain.keep l s.dO N.d N.pl
 ⟨N.loc.other l s.oe λa q=>(h a q).1,a.1,a.2,b.2,b.1,aE.az (l.mN λa q=>(h a q).1) N.rd⟩
def cy{x:St}{C:AG}(p:NQ x C)(a:AG)(e:a=C):NQ x a:=e▸p
def bO.bind(N:bO env Γ ρ C D vals vs x)(s:Sep env C D own)(l:LE (· =C) x.toSt y.toSt)(R:SG y.toSt C):bO env Γ ρ C D vals vs y:=
 have p:=cy N.c;have b:=Plain.keep l (λe=>s.cd e.symm) N.d N.pl
 ⟨N.loc.other l (λa e=>(e:a=C)▸s.ce) p,R,⟨(l.2 C H N.c.1 N.c.2).1,(l.2 C H N.c.1 N.c.2).2⟩,b.2,b.1,aE.az (l.mN p) N.rd⟩
def bO.grow(N:bO env Γ ρ C D vals vs x)(s:Sep env C D own)(l:LE (· =D) x.toSt y.toSt)(A:Rd x v u)(hp:Plain y.toSt D (vals++[v])):bO env Γ ρ C D (vals++[v]) (vs++[u]) y:=
 have p:=cy N.d;have a:=N.ns.keep l s.cd N.c;have R:=l.mN p
 ⟨N.loc.other l (λa e=>(e:a=D)▸s.de) p,a.1,a.2,⟨(l.2 D H N.d.1 N.d.2).1,(l.2 D H N.d.1 N.d.2).2⟩,hp,Nq.append (aE.az R N.rd) (Nq.cons (aq.az R A) Nq.nil)⟩
def bO.ex(N:bO env Γ ρ C D vals vs x)(h:Xn own x.toSt)(a:AG)(t:Tri C D own a):∃o,x.get? a=U o:=
 t.elim (λe=>N.ns.elim λm q=>q.elim λo q=>q.elim λR q=>q.elim λA q=>⟨o,e▸q.1⟩) λt=>t.elim (λe=>N.pl.elim λm q=>⟨_,e▸q⟩) λq=>(h a q).2
inductive CompI (env:Env) (Γ:NI) (ρ:NF) (C D I:AG) (own:AG->Prop) (tg:AO->Prop) (F:V->M5->(OV->M5->Prop)->Prop) (R:LV->M5->Prop) (x:Wd B) (m:Nat) (s:AZ):Prop
 |mk (y:Wd B) (vals:LVal) (vs xs:LV):y.sh=s->bO env Γ ρ C D vals vs y->It I own tg xs y->LE (Tri C D own) x.toSt y.toSt->vs.length+xs.length<=Nh->Qm F xs y.σ (λws σ=>R (vs++ws) σ)->m=xs.length->CompI env Γ ρ C D I own tg F R x m s
inductive CompEnd (env:Env) (Γ:NI) (ρ:NF) (C D:AG) (own:AG->Prop) (R:LV->M5->Prop) (x:Wd B) (r:F7) (s:AZ):Prop
 |mk (y:Wd B) (vals:LVal) (vs:LV):r=CT EU->y.sh=s->bO env Γ ρ C D vals vs y->LE (Tri C D own) x.toSt y.toSt->vs.length<=Nh->R vs y.σ->CompEnd env Γ ρ C D own R x r s
def ji{N:Type}{o:Option N}{k:N->Prop}(h:TP o k):∃a,o=U a/\k a:=by
 cases o with
 |none=>exact Bw h
 |some a=>exact⟨a,H,h⟩
def vq(S:∀j,j<=k->jd n j){scope:Ej}{tgp:AO->Prop}{R:LV->M5->Prop}
  (hc:gW env Γ scope) (hkind:scope.kind=B8) (hcl:Cls env (λz=>(z,Ba)∈scope.names) cl)
  (ht:RI (E8 scope cl C env).scope (N3 Γ scope) target=U (tgl,one)) (he:WX kt (E8 scope cl C env) (N3 Γ scope) elt elt') (hi:U7 kt (E8 scope cl C env) (N3 Γ scope) ifs cs)
  (htg:tgp target) (s:Sep env C D own) {xs:LV} (H0:bO env Γ ρ C D [] [] x) (hI:It I own tgp xs x) (hl:xs.length<=Nh)
  (hF:Qm (UP (Pr B n k cs) (O7 B n k) elt' (ρ++A8 (NB scope).length Y) tgl one) xs x.σ R) {A:CP} (rm:ef (lv n) A):
  codeAny B.M A (.compLoop (CE elt [⟨target,iter,ifs,0⟩] scope pos) 0 (Ai I) (Ai D) (E8 scope cl C env)) (CompEnd env Γ ρ C D own R x) x.sh:=by
 refine md (CompI env Γ ρ C D I own tgp (UP (Pr B n k cs) (O7 B n k) elt' (ρ++A8 (NB scope).length Y) tgl one) R x) (λm s' N E=>?_) xs.length<|.mk x [] [] xs H H0 hI (LE.refl _) (by rw[B5,A1];exact hl) hF H
 obtain⟨y,vals,vs,Q,rfl,N,hI,X,hlen,hF,rfl⟩:=N;have pr:=hI.has;have self:After own y.toSt y.toSt:=⟨λa q=>⟨λZ e=>e,(pr a q).1⟩,Ou.refl _⟩
 cases Q with
 |nil=>exact hI.done self rm.handled λz b c=>.mk z vals vs H H (N.it s pr c) (X.trans (c.mono (λa q=>AN (AN q)) λa t Z=>N.ex pr a t)) hlen<|b▸(Ax vs)▸hF
 |cons u Q=>
  refine hI.step self rm.handled λv s₁ q E=>xx (q target htg PI) λZ z b c d=>?_;have H2:=N.it s pr c;have pr2:=d.2.has;have X2:=X.trans (c.mono (own':=Tri C D own) (λa q=>AN (AN q)) λa t Z=>N.ex pr a t);obtain⟨ρ',hb,hv⟩:=ji (hF:TP (Vu (ρ++A8 (NB scope).length Y) tgl one u) _);obtain⟨m,hm⟩:=H2.ns;refine dq (nD ht hb d.1 (abg H2.loc hc hkind hcl hm H2.c s.ce) A rm) λZ z3 l3 q=>XQ.casesOn q λρ3 L3 q3=>?_;obtain⟨rfl,e3⟩:=q3;have l3:LE (· =C) z.toSt z3.toSt:=l3;have H3:=H2.bind s l3 L3.ns;have I3:It I own tgp Q z3:=d.2.after (l3.kQ (λa q e=>s.co ((e:a=C)▸q)) (cy H2.c) pr2);have X3:=X2.trans (l3.mono (own':=Tri C D own) (λa q=>Aw q) λa t Z=>H2.ex pr2 a t);rw[<-b,<-e3]at hv;refine dq (pR S hi (AH _) L3 hv A rm) λok z4 l4 q4=>?_;have H4:=H3.le l4;have I4:It I own tgp Q z4:=I3.after (l4.kQ (λZ Z q=>q) (λZ q=>q.elim) I3.has);have X4:=X3.trans (l4.mono (own':=Tri C D own) (λZ q=>q.elim) λa t Z=>H3.ex I3.has a t)
  cases ok with
  |false=>exact⟨Q.length,Bu _,.mk z4 vals vs Q H H4 I4 X4 (DR hlen) q4 H⟩
  |true=>
   refine dq ((S k (AH _)).e he (L3.le l4) q4 A rm) λv5 z5 l5 q1=>dS.casesOn q1 λw hw q5=>?_;have H5:=H4.le l5;have I5:It I own tgp Q z5:=I4.after (l5.kQ (λZ Z q=>q) (λZ q=>q.elim) I4.has);refine ahf H5.pl (λh' hD6 hb6=>?_) (H5.rd.arr (Aa (AD ..) hlen):vals.toArray.size<=Eu);have hk6:∀a o,¬a=D->z5.get? a=U o->h'.get? a=U o:=λa o ne e=>(hb6.2 a ne).trans e;have p6:=cy H5.d;have l6:LE (· =D) z5.toSt (z5.bj z5.sh.toks p6 hk6).toSt:=dx p6 hk6 λZ e=>e
   refine⟨Q.length,Bu _,.mk (z5.bj z5.sh.toks p6 hk6) (vals++[v5]) (vs++[w]) Q H (H5.grow s l6 hw ((G1 vals v5)▸hD6:h'.PlainList D (vals++[v5]).toArray))
    (I5.after (l6.kQ (λa q e=>s.dO ((e:a=D)▸q)) p6 I5.has)) ((X4.trans (l5.mono (own':=Tri C D own) (λZ q=>q.elim) λa t Z=>H4.ex I4.has a t)).trans (l6.mono (λa q=>AN (Aw q)) λa t Z=>H5.ex I5.has a t)) ?_ ?_ H⟩
   ·rw[Ad,List.length_singleton,Bf,Bk 1];exact hlen
   ·exact(funext λws=>funext λσ=>M7 (R · σ) (Ag vs [w] ws))▸q5
variable{Q:KE}
inductive Handed (D:AG) (Q:KE) (y z:Wd B):Prop
 |mk (u:V):z.sh=y.sh->Rd z (Ai D) u->Q u z.σ->(∀a,a≠D->z.σ a=y.σ a/\(z.φ a↔y.φ a))->Handed D Q y z
def jj(p:NQ y.toSt D)(hD:Plain y.toSt D vals)(r:Nq y vals vs)(R:Sw y.σ (AA vs) Q):∃z,Handed D Q y z:=by
 obtain⟨k,e⟩:=hD;have K:=pn (o:=AA vs) y.ok p λs=>⟨vals,k,e,R.1,aE.az s r⟩;rcases R.2 with q|q
 have X:(Wd.mk (OY y.toSt D (AA vs)) K).σ D=U (AA vs):=M5.ag _ _;have N:(y.σ.set D (AA vs)).del D=y.σ:=M5.eY p.1;exact⟨(Wd.mk (OY y.toSt D (AA vs)) K).QA X O.aB,.mk (BB vs) H (aq.lst (x:=((Wd.mk (OY y.toSt D (AA vs)) K).QA X O.aB).toSt) D vals k vs e ⟨M5.bu _,AN H⟩ R.1 (aE.az (λa o e f=>⟨e,(congrFun N a).trans f.1,Aw f.2⟩:Ou y.toSt ((Wd.mk (OY y.toSt D (AA vs)) K).QA X O.aB).toSt) r)) (N.symm▸q:Q (BB vs) ((y.σ.set D (AA vs)).del D)) λa A=>⟨congrFun N a,eB A⟩⟩;exact⟨⟨OY y.toSt D (AA vs),K⟩,.mk (Av D) H (aq.ref D) (q D p.1) λa A=>⟨M5.aA _ A,GF⟩⟩
structure kR (C D:AG) (vals:LVal) (vs:LV) (Q:KE) (x y:Wd B):Prop where
 le:LN x y
 ns:SG y.toSt C
 c:NQ y.toSt C
 d:NQ y.toSt D
 cd:C≠D
 fc:∀o,x.get? C=U o->x.σ C≠Y
 fd:∀o,x.get? D=U o->x.σ D≠Y
 pl:Plain y.toSt D vals
 rd:Nq y vals vs
 nw:Sw y.σ (AA vs) Q
def vr(h:X6 N=U (t,i,A)):N=[⟨t,i,A,0⟩]:=by
 cases N with
 |nil=>exact aa h
 |cons g r=>
  obtain⟨X,q,R,a⟩:=g
  cases r with
  |cons=>rcases a with(_|_)|_<;>exact aa h
  |nil=>rcases a with(_|_)|_<;>first|exact aa h| (cases h;rfl)
def LE.tZ{T:AG->Prop}{x y z:St}(l:LE noOwn x y)(k:LE T y z)(N:∀a o,T a->x.get? a=U o->x.σ a≠Y):LE noOwn x z:=
 ⟨λa o Z e f=>(l.1 a o (λq=>q) e f).elim λg r=>(k.1 a o (λt=>N a o t e f) g r.1).imp_right λq=>⟨q.1,q.2.trans r.2⟩,λZ q=>q.elim⟩
def xN(S:∀j,j<=k->jd n j){ifs:List AO}{scope:Ej}
  (hc:gW env Γ scope) (hkind:scope.kind=B8) (hcl:Cls env (λz=>(z,Ba)∈scope.names) cl)
  (ht:RI (Oj env.scope scope) (N3 Γ scope) R=U (tgl,one)) (he:PJ (Gl) kt (Oj env.scope scope) (N3 Γ scope) elt=U elt') (hi:ifs.mapM (PJ (Gl) kt (Oj env.scope scope) (N3 Γ scope))=U cs)
  (htg:Wy ik R) (l:LN x y) (L:Loc x env Γ ρ) {xs:LV} (hI:b7 (Wy ik) x.toSt xs r y) (hl:xs.length<=Nh)
  (lz:LN y z) (hF:Qm (UP (Pr B n k cs) (O7 B n k) elt' (ρ++A8 (NB scope).length Y) tgl one) xs z.σ (VR Q))
  (gC:y.get? C=Y) (gD:y.get? D=Y) (hCD:C≠D) (pC:NQ z.toSt C) (pD:NQ z.toSt D) (hns:SG z.toSt C) (hpl:Plain z.toSt D []) (rm:ef (lv n) A) {RR:F7->AZ->Prop}
  (fin:∀vals vs w,kR C D vals vs Q x w->RR (CT EU) w.sh):
  codeAny B.M A (.compStart (CE elt [⟨R,iter,ifs,0⟩] scope pos) 0 r (Ai D) (E8 scope cl C env)) RR z.sh:=by
 obtain⟨I,own,rfl,hn,hself,hI⟩:=hI;have pr:=hI.has
 have nw:∀{a},y.get? a=Y->(∀o,x.get? a=U o->x.σ a≠Y)/\¬ownOf env a/\¬own a:=λ{a} g=>⟨λo e f=>aa (aO g (l.1 a o (λq=>q) e f).1),λq=>((L.le l).has a q).elim λo e=>aa (aO g e),λq=>(pr a q).2.elim λo e=>aa (aO g e)⟩
 have af:After own y.toSt z.toSt:=lz.kQ (λZ Z q=>q) (λZ q=>q.elim) pr
 have loop:=ag7 (vq (iter:=iter) (pos:=pos) S hc hkind hcl ht he hi htg (⟨hCD,(nw gC).2.2,(nw gD).2.2,(nw gC).2.1,(nw gD).2.1,λa q h=>(L.has a h).elim λo e=>hn a o q e (L.bj a h).1⟩:Sep env C D own) ⟨L.le (l.trans lz),hns,pC,pD,hpl,Nq.nil⟩ (hI.after af) hl hF rm) λr s₁ q=>CompEnd.casesOn (motive:=λZ=>RR r s₁) q λw vals vs e1 e2 N X hl hR=>by subst e1 e2;exact fin vals vs w ⟨(l.trans lz).tZ X λa o t e=>t.elim (λq=>q▸(nw gC).1 o (q▸e)) λt=>t.elim (λq=>q▸(nw gD).1 o (q▸e)) λt=>hn a o t e,N.ns,N.c,N.d,hCD,(nw gC).1,(nw gD).1,N.pl,N.rd,hR⟩
 exact ahk loop<|hself _ af A rm.handled _ _ loop
def Wd.grown(y:Wd B){h:Heap}{t:Nat}(N:∀b o,y.get? b=U o->h.get? b=U o):∃z:Wd B,z.sh={y.sh with heap:=h,toks:=t}/\z.σ=y.σ/\LN y z/\∀a,y.get? a=Y->NQ z.toSt a:=
 ⟨y.bj t (T:=noOwn) (λZ q=>q.elim) λb o Z e=>N b o e,H,H,dx (λZ q=>q.elim) (λb o Z e=>N b o e) λZ q=>q,λZ g=>⟨y.aW g,y.cw g⟩⟩
def r6(S:∀j,j<=k->jd n j){ifs:List AO}{scope:Ej}
  (hc:gW env Γ scope) (R:scope.kind=B8) (hcl:Cls env (λz=>(z,Ba)∈scope.names) cl)
  (ht:RI (Oj env.scope scope) (N3 Γ scope) N=U (tgl,one)) (he:PJ (Gl) kt (Oj env.scope scope) (N3 Γ scope) elt=U elt') (hi:ifs.mapM (PJ (Gl) kt (Oj env.scope scope) (N3 Γ scope))=U cs)
  (htg:Wy ik N) (l:LN x y) (L:Loc x env Γ ρ) {xs:LV} (hI:b7 (Wy ik) x.toSt xs r y) (hl:xs.length<=Nh)
  (hF:Qm (UP (Pr B n k cs) (O7 B n k) elt' (ρ++A8 (NB scope).length Y) tgl one) xs y.σ (VR Q)) (rm:ef (lv n) A) {E:O3} {RR:AM->AG->F7->AZ->Prop}
  (fin:∀C D vals vs (z:Wd B),kR C D vals vs Q x z->RR (Ai D) C (CT EU) z.sh):
  wpAny B.M A (newList []) (λacc s₃=>wpAny B.M A (II scope env.globals cl [] env.qual Y AL (U env)) (λcenv s₄=>codeAny B.M A (.compStart (CE elt [⟨N,iter,ifs,0⟩] scope pos) 0 r acc {cenv with scope:=MM scope env}) (RR acc cenv.locals) s₄) E s₃) E y.sh:=by
 have hcell:∀y∈scope.names,y.2≠BA:=λy hy e=>by
  have f:=(hc.names y.1 y.2 hy).2;rw[e]at f
  cases f
 refine ahb (ahp hcell (λZ h=>nomatch h) (λq hns hsb=>?_) R) (by size_fits);dsimp only at hns hsb⊢;generalize hH:y.sh.heap.push {cls:=An "list",dict:=Y,data:=El ([]:LVal).toArray}=G at hns hsb⊢;have hC:G.objs.size=y.sz+1:=by rw[<-hH,GI]
 have X:∀{b o},b<G.objs.size->G.get? b=U o->q.get? b=U o:=λ{b o} hb e=>(hsb.2 b (CQ hb)).trans (Be _ e);obtain⟨z,e1,e2,lz,pv⟩:=y.grown (t:=y.sh.toks+([]:List (Str×AM)).length) λb o e=>X (hC▸C4 (BV e)) (hH▸Be _ e);have gC:y.get? G.objs.size=Y:=bA (by rw[hC];exact B4 _);have gD:y.get? y.sz=Y:=aI _;exact e1▸xN S hc R hcl ht he hi htg l L hI hl lz (e2▸hF) gC gD (by rw[hC];exact JS _) (pv _ gC) (pv _ gD) ⟨_,by rw[e1];exact hns⟩ ⟨0,by rw[e1];exact(X (hC▸Bu _) (hH▸BK _ H):q.get? y.sz=U (listOf ([]:LVal).toArray 0))⟩ rm λvals vs w=>fin _ _ vals vs w
def pU(S:∀j,j<=kv->jd n j){q:Option (AM->Sem Unit)}{QQ:O3}
  (h:Th (Gl) (PJ (Gl) kt) env.scope Γ elt gs scope=U e') (hv:O7 B n (kv+1) e' ρ x.σ Q) (L:Loc x env Γ ρ) (rm:ef (lv n) A) {E:O3}
  (fin:∀C D vals vs z,kR C D vals vs Q x z->compPost B.M A E q QQ (Ai D) C (CT EU) z.sh):
  wpAny B.M A (Mm (CE elt gs scope p) scope env (firstIterPos gs p) (newList []) (firstAsync gs) (firstIter gs env) q) QQ E x.sh:=by
 obtain⟨⟨t,iter,ifs⟩,h1,h⟩:=ag0 h;obtain rfl:=vr h1;obtain⟨X,h⟩:=pb h;obtain⟨X,hk⟩:=Ah.mp X;obtain⟨X,hok⟩:=Ah.mp X;have N:=N2 (Ah.mp (Ah.mp X).1).1;obtain⟨⟨tgl,one⟩,ht,h⟩:=ag0 h;obtain⟨elt',he,h⟩:=ag0 h;obtain⟨its',hi,h⟩:=ag0 h;obtain⟨cs,hcs,h⟩:=ag0 h;obtain rfl:=Af h;have hc:=adZ hok;obtain⟨cl,R,hcl⟩:=nC L hc;refine ahj H (λv=>iA (kO hi) v) R N (λu hu hl=>hl▸(hc.names u.1 u.2 hu).1)<|dq (pO S hi L hv A rm) λv y l q2=>dq (q2 A rm) λr z l2 q3=>?_
 obtain⟨ys,hF,hl,hI⟩:=q3;exact r6 S hc N hcl ht he hcs (xE hk) (l.trans l2) L hI hl hF rm fin
def afk(p:NQ y.toSt C)(A:CJ C y.sh.heap h):∃z:Wd B,z.sh={y.sh with heap:=h}/\z.σ=y.σ/\LE (· =C) y.toSt z.toSt:=
 have N:=cy p;have R:∀a o,¬a=C->y.get? a=U o->h.get? a=U o:=λa o n e=>(A.2 a n).trans e
 ⟨y.bj y.sh.toks N R,H,H,dx N R λZ q=>q⟩
def r7{Q:KE}(h:Handed D Q y z)(l:LN x y)(fd:∀o,x.get? D=U o->x.σ D≠Y):LN x z:=
 Handed.casesOn h λu e Z Z N=>⟨λa o Z g f=>by have R:a≠D:=λq=>fd o (q▸g) (q▸f);obtain⟨X,A,a3⟩:=l.1 a o (λq=>q) g f;exact⟨(M7 (λs:AZ=>s.heap.get? a) e).trans X,(N a R).1.trans A,(N a R).2.trans a3⟩,λZ q=>q.elim⟩
def xO(S:∀j,j<=kv->jd n j):Ut n kv:=λ{kt env Γ ρ elt gs scope p e' Q x} h L hv A rm=>by rw[eval_ListComp];refine pU S h hv L rm λC D vals vs y q=>⟨q.ns.choose,q.ns.choose_spec,λh' X=>?_⟩;obtain⟨z,e1,R,l⟩:=afk q.c X;have kD:=Plain.keep l (λe=>q.cd e.symm) q.d q.pl;obtain⟨w,N⟩:=jj kD.2 kD.1 (aE.az (l.mN (cy q.c)) q.rd) (R.symm▸q.nw);exact Handed.casesOn N λu e hu hq Z=>e1▸e▸.mk w H (r7 N (q.le.tZ l λa o e g=>(e:a=C)▸q.fc o ((e:a=C)▸g)) q.fd) (.mk u hu hq)
def pV(S:∀kv,jd n kv):Tz n:=λ{kv kt env Γ ρ elt gs scope p e' Q u R x} h L hv hu A rm=>by
 cases kv with
 |zero=>exact Bw hv
 |succ kv=>
  rw[arm_evalThenUse_ListComp];refine agY<|ag1 (pU (λj Z=>S j) h hv L rm λC D vals vs y q=>?_) (λZ s' q=>agZ q) λZ Z f=>f
  obtain⟨w,hw⟩:=jj q.d q.pl q.rd q.nw;have lw:=r7 hw q.le q.fd;refine Handed.casesOn hw λv e hv' hq N=>?_;show wpAny B.M A (u (Ai D)) _ _ y.sh;rw[<-e];refine dq (hu _ v w (L.le lw) hv' hq A rm) λZ w2 l2 q1=>XQ.casesOn q1 λρ2 L2 q5=>?_;have hCo:¬ownOf env C:=λt=>(L.has C t).elim λo e=>q.fc o e (L.bj C t).1;have pC:NQ w.toSt C:=⟨(N C q.cd).1.trans q.c.1,λt=>q.c.2 ((N C q.cd).2.mp t)⟩;have X:SG w.toSt C:=q.ns.imp λm t=>by rw[e];exact t
  obtain⟨n2,pC2⟩:=X.keep l2 hCo pC;refine⟨n2.choose,n2.choose_spec,λh' hb=>?_⟩;obtain⟨z,e1,e2,l3⟩:=afk pC2 hb;refine e1▸.mk z H ?_ (.mk ρ2 (L2.other l3 (λa t=>(t:a=C)▸hCo) (cy pC2)) (e2.symm▸q5));have a2:LE (λa=>ownOf env a\/a=C) w.toSt w2.toSt:=l2.mono (λZ t=>Aw t) λa t k=>t.elim (λt=>M9 t k) λt=>t▸(X.elim λm t=>t.elim λo t=>t.elim λZ t=>t.elim λZ t=>⟨o,t.1⟩:∃o,w.get? C=U o);have a3:LE (λa=>ownOf env a\/a=C) w2.toSt z.toSt:=l3.mono (λZ t=>AN t) λa t k=>t.elim (λt=>L2.has a t) λt=>t▸(n2.elim λm t=>t.elim λo t=>t.elim λZ t=>t.elim λZ t=>⟨o,t.1⟩:∃o,w2.get? C=U o);have a1:LE (λa=>ownOf env a\/a=C) x.toSt w.toSt:=⟨λa o Z g f=>lw.1 a o (λq=>q) g f,λa t f g=>t.elim (λt=>(lw.own L.has).2 a t f g) λt=>t▸pC⟩;exact((a1.trans a2).trans a3).drop (λZ t=>Aw t) λa o t k g=>t.elim (λt=>M9 t k) λt=>t▸q.fc o (t▸g)
def xP:jd n 0:=⟨λZ Z h=>Bw h,λZ Z h=>Bw h,λZ Z Z h=>Bw h,λZ Z h=>Bw h,λZ Z Z h=>Bw h,λZ Z Z h=>Bw h,λZ Z Z h=>Bw h,λZ Z Z h=>Bw h⟩
def xQ(N:aV)(kv:Nat):∀j,j<=kv->jd n j:=by
 induction kv with
 |zero=>exactλj h=>(Mo.mp h)▸xP
 |succ kv R=>exactλj h=>(Nat.le_succ_iff.mp h).elim (R j) λe=>e▸xv N (R kv (AH _)) (xO R)
def snd(N:aV)(kv:Nat):jd n kv:=xQ N kv kv (AH _)
def ad0(N:aV)(kv:Nat):W3 n kv:=by
 induction kv with
 |zero=>exact⟨λZ Z h=>Bw h,λZ Z h=>Bw h⟩
 |succ kv R=>exact⟨afi (snd N) (abd (snd N) R) (abf (snd N) (pV (snd N))) R,adX R⟩
variable{σ:M5}{K:Kt}{t:E}{b:List S}
def Zm(n:Nat)(t:E)(b:List S)(K:Kt)(ρ:NF)(σ:M5):=Og n t b ρ σ K
def YZ(n kv:Nat)(t:E)(b:List S)(ρ:NF)(σ:M5)(K:Kt):=Na n kv b ρ σ (T7 (Zm n t b K) K)
def Yu(n kv:Nat)(t:E)(b:List S)(K:Kt)(ρ:NF):KE:=Vv (brK (YZ n kv t b ρ) (λσ K'=>K'.nx ρ σ) K)
def r8(N:aV)(kv:Nat)(h:O7 B n kv t ρ σ (Yu n kv t b K ρ)):Og n t b ρ σ K:=λk env Γ test R h1 h2 x e L A rm=>by
 subst e;refine ahv H (λZ s'=>s'=x.sh) (λm s' hs=>?_) 0 H H;subst hs;show wpAny _ _ ((whileTurn test R [] env).onRaise (λx=>do IW x env;GO x)) _ _ x.sh;refine ahi ?_;delta whileTurn;refine agY<|dq ((snd N kv).t h1 L (λz σ q=>(a8 q).imp λZ h=>h.1) h A rm) λc y l q1=>TQ.casesOn q1 λz e q=>?_
 obtain⟨c',e',q⟩:=a8 q;obtain rfl:=Af (aO e e');have L1:=L.le l;have X:=l.own L.has
 cases c
 exact agY<|agZ<|agZ<|.mk y H X ⟨ρ,L1,q⟩
 refine agY (dq ((ad0 N kv).ss h2 L1 q A rm) λfl y2 l2 q2=>?_)
 have again:(∃ρ',Loc y2 env Γ ρ'/\Og n t b ρ' y2.σ K)->codeAny B.M A (.whileLoop test R [] env) (λr s'=>match r with
   |.ok fl=>aP (ownOf env) x (VY env Γ K) fl s'
   |.error _=>False) y2.sh:=λ⟨ρ',L',hw⟩=>ag7 (hw k env Γ test R h1 h2 y2 H L' A rm) λr s' q=>by
  cases r with
  |error e=>exact q.elim
  |ok fl=>exact aP.casesOn q λy3 a l3 q=>.mk y3 a ((X.trans l2).trans l3) q
 cases fl with
 |next=>exact agZ (AN ⟨H,again q2⟩)
 |cont=>exact agZ (AN ⟨H,again q2⟩)
 |brk=>exact q2.elim
 |ret v=>exact agZ (.mk y2 H (X.trans l2) q2)
def Oi{α:Type}(vals ds:List α)(N:Nat):Option (List α):=match BU vals.length N,ds with
 |true,_=>U vals
 |false,[d]=>(match BU (vals.length+1) N with
  |true=>U (vals++[d])
  |false=>Y)
 |_,_=>Y
def fk{A:Type}{vals ds full:List A}(h:Oi vals ds N=U full):(vals.length=N/\full=vals)\/∃d,ds=[d]/\vals.length+1=N/\full=vals++[d]:=by
 delta Oi at h
 cases e:BU vals.length N with
 |true=>rw[e]at h;exact Aw ⟨BE e,(Af h).symm⟩
 |false=>
  rw[e]at h
  cases ds with
  |nil=>exact aa h
  |cons d r=>
   cases r with
   |cons=>exact aa h
   |nil=>
    cases R:BU (vals.length+1) N with
    |true=>dsimp only at h;rw[R]at h;exact AN ⟨d,H,BE R,(Af h).symm⟩
    |false=>dsimp only at h;rw[R]at h;exact aa h
def jk{R:Type}{vals ds full:List R}(h:Oi vals ds N=U full):full.length=N:=by
 rcases fk h with⟨e,rfl⟩|⟨d,_,e,rfl⟩
 exact e;exact(Ad ..).trans e
def xR{R:Type}{vals ds:List R}(h:vals.length=N):Oi vals ds N=U vals:=by delta Oi;rw[h,show BU N N=J from Jl N]
def vu{R:Type}{vals:List R}{d:R}{N:Nat}(h:vals.length+1=N):Oi vals [d] N=U (vals++[d]):=by delta Oi;rw[h,show BU N N=J from Jl N,show BU vals.length N=Am from by rw[<-h];exact Bp.mpr λe=>CQ (Bu _) (BE e)]
end
def xS{x:Wd B}{args ds full:LV}{N:Nat}(r:Nq x vs args)(d:Nq x R ds)(h:Oi args ds N=U full):∃I,Oi vs R N=U I/\Nq x I full:=by
 rcases fk h with⟨e,rfl⟩|⟨z,rfl,e,rfl⟩
 exact⟨vs,xR (r.length.trans e),r⟩;exact d.e1 (CL:=λR=>∃I,Oi vs R N=U I/\Nq x I (args++[z])) λu a=>⟨_,vu ((M7 (· +1) r.length).trans e),r.append (Nq.cons a Nq.nil)⟩
def fm{nms:NI}{N:LVal}(R:nms.Nodup){j:Nat}{z:Str}(h:nms[j]?=U z):(nms.zip N).lookup z=N[j]?:=by
 induction nms generalizing N j with
 |nil=>exact aa h
 |cons y nms I=>
  cases N with
  |nil=>rfl
  |cons v N=>
   show G4 z ((y,v)::nms.zip N)=_;rw[D0];obtain⟨X,A⟩:=Bc.mp R
   cases j with
   |zero=>obtain rfl:=Af h;rw[Px];rfl
   |succ j=>have h:nms[j]?=U z:=h;rw[show(z==y)=Am from beq_eq_false_iff_ne.mpr λe=>X (e▸A6 h)];exact I A h
def eE{slots:List (Str×AM)}{nms:NI}{full:LVal}(N:full.length=nms.length)(h:∀(j:Nat) (z:Str),nms[j]?=U z->slots.lookup z=full[j]?):
  (nms.filterMap λn=>(slots.lookup n).map (n,·))=nms.zip full:=by
 induction nms generalizing full with
 |nil=>rfl
 |cons z nms R=>
  cases full with
  |nil=>cases N
  |cons v full=>rw[Cj,h 0 z H];exact M7 ((z,v)::·)<|R (CV N) λj y q=>h (j+1) y q
section
variable{M:K5}{A:CP}{E:O3}{s:AZ}
def vw{f:Str×AM->List (Str×AM)->Sem (ForInStep (List (Str×AM)))}(hf:∀p r,f p r=if(r.lookup p.1).isNone=J then AJ (BX (r++[p]))else AJ (BX r))
  {slots:List (Str×AM)} {L:List (Str×AM)} (h:∀p∈L,∃v,slots.lookup p.1=U v):forIn L slots f=AJ slots:=by
 induction L with
 |nil=>rfl
 |cons p L N=>obtain⟨v,e⟩:=h p (As ..);rw[Cv,hf,e];exact N λq R=>h q<|Au _ R
def mO{nms:NI}{N:LVal}(I:nms.Nodup)(k:Nat)(X:k<=N.length){z:Str}(h:z∈nms.take k):∃v,(nms.zip N).lookup z=U v:=by
 obtain⟨j,R⟩:=Ee h;rw[ME]at R
 by_cases q:j<k
 rw[Nt q]at R;exact⟨_,(fm I R).trans (AY (AP q X))⟩;rw[Np q]at R;exact aa R
def ahT{N:Type}{c:Prop}[Decidable c]{t e:Sem N}{Q:N->AZ->Prop}(R:¬c)(h:wpAny M A e Q E s):wpAny M A (if c then t else e) Q E s:=by rw[Np R];exact h
def xT{nms:NI}{R ds full:LVal}(hf:Oi R ds N=U full):R.length<=N/\N-(Ft (ds.length-N) ds).length<=R.length:=by
 rcases fk hf with⟨e,_⟩|⟨d,rfl,e,_⟩
 exact⟨Ap e,e▸GR ..⟩;subst e;exact⟨B4 _,Ap (by rw[show [d].length-(R.length+1)=0 from Mf (AX (Aq _))];rfl)⟩
def vx{nms:NI}{R ds full:LVal}{N:Nat}{f:Str×AM->List (Str×AM)->Sem (ForInStep (List (Str×AM)))}(y:∀p r,f p r=if(r.lookup p.1).isNone=J then AJ (BX (r++[p]))else AJ (BX r))
  (X:nms.Nodup) (I:nms.length=N) (hf:Oi R ds N=U full):∃slots,forIn ((nms.drop (N-(Ft (ds.length-N) ds).length)).zip (Ft (ds.length-N) ds)) (nms.zip R) f=AJ slots/\(nms.filterMap λn=>(slots.lookup n).map (n,·))=nms.zip full:=by
 have Q:=jk hf;rcases fk hf with⟨e,rfl⟩|⟨d,rfl,rfl,rfl⟩
 exact⟨_,vw y λp hp=>mO X N (Ap e.symm) (by rw[C0 (Ap I)];exact Mh (List.of_mem_zip hp).1),eE (Q.trans I.symm) λj z=>fm X⟩;have e0:[d].length-(R.length+1)=0:=Mf (AX (Aq _));rw[e0];have C:R.length<nms.length:=I▸Bu _
 have e1:nms.drop R.length=[nms[R.length]]:=by rw[Cn C,HA (Ap I)]
 show∃slots,forIn ((nms.drop R.length).zip [d]) (nms.zip R) f=_/\_;rw[e1];have hx:nms[R.length]?=U nms[R.length]:=AY C;refine⟨nms.zip R++[(nms[R.length],d)],?_,eE (Q.trans I.symm) λj z hj=>?_⟩;show forIn [(nms[R.length],d)] (nms.zip R) f=_;rw[Cv,y,((fm X hx).trans (D4 (AH _)):(nms.zip R).lookup nms[R.length]=Y)];rfl;rw[List.lookup_append,fm X hj]
 by_cases q:j<R.length
 rw[E3 q,AY q];rfl;have x:=(BI.mp hj).1;obtain rfl:j=R.length:=HG (Eh (by rw[Nat.succ_eq_add_one,<-I];exact x)) (Di q);rw[D4 (AH _),CW (AH _),FU];obtain rfl:=Af (aO hj hx);show(match nms[R.length]==nms[R.length]with|true=>U d|false=>Y)=_;rw[Px];rfl
def r9{R:HJ}{N ds full:LVal}{Q:List (Str×AM)->AZ->Prop}(h1:R.params.posonlyargs=[])(h2:R.params.vararg=Y)(h3:R.params.kwonlyargs=[])(h4:R.params.kwarg=Y)
  (C:(R.params.args.map (·.arg)).Nodup) (hd:∀Q':Option (Array AM)->AZ->Prop,(∀o,(o.getD #[]).toList=ds->Q' o s)->wpAny M A (Mz R.defaults) Q' E s)
  (hf:Oi N ds R.params.args.length=U full) (h:Q ((R.params.args.map (·.arg)).zip full) s):wpAny M A (bindArgs R ⟨N,[]⟩) Q E s:=by
 obtain⟨nm,qn,⟨po,X,va,ko,kd,kw,df⟩,bd,sc,gl,cl,dv,kdv,dc,pm,an,co,ct,bn⟩:=R;dsimp only at h1 h2 h3 h4 C hd hf h;subst h1 h2 h3 h4;have I:(X.map (·.arg)).length=X.length:=Ak ..;refine agY (m:=Mz dv)<|hd _ λo ho=>?_
 subst ho;have hc:=xT (nms:=X.map (·.arg)) hf;obtain⟨x,hs,hz⟩:=vx (f:=λp r=>if(r.lookup p.1).isNone=J then AJ (BX (r++[p]))else AJ (BX r)) (λZ Z=>H) C I hf;refine ahT (λq=>M9 (Od (Ah.mp q).1) (Fs.mpr (I.symm▸hc.1)))<|ahT (λq=>?_) ?_
 ·have y:(List.filter (λn=>(G4 n ((X.map (·.arg)).zip N)).isNone) ((X.map (·.arg)).take ((X.map (·.arg)).length-(Ft ((o.getD #[]).toList.length-(X.map (·.arg)).length) (o.getD #[]).toList).length)))=[]:=
   LD.mpr λz hz q=>(mO C _ (I.symm▸hc.2) hz).elim λv e=>by rw[e]at q;cases q
  exact A9<|aO (M7 (λl=>!List.isEmpty l) y) q
 exact agY (up<|AI (I.symm▸hs) (agZ (show Q ((X.map Arg.arg++[]).filterMap λn=>(x.lookup n).map (n,·)) s by rw[Ax,hz];exact h)))
def vy{k:Str->Option Fw}{b:List (Str×AM)}:∀{m},z∉b.map (·.1)->bindL k b m z=m z:=by
  induction b with
  |nil=>exactλZ=>H
  |cons p r ih=>
    intro m h
    show bindL k r (if k p.1=U NameKind.local then _ else m) z=_
    rw[ih (λq=>h (Au _ q))]
    by_cases q:k p.1=U NameKind.local
    ·rw[Nt q];exact Np λe:z=p.1=>h (AQ.mpr (Aw e))
    ·rw[Np q]
def vz{k:Str->Option Fw}{b:List (Str×AM)}:∀{m},z∉b.map (·.1)->bindC k b m z=m z:=by
  induction b with
  |nil=>exactλZ=>H
  |cons p r ih=>
    intro m h
    show bindC k r (if k p.1=U NameKind.local then m else _) z=_
    rw[ih (λq=>h (Au _ q))]
    by_cases q:k p.1=U NameKind.local
    ·rw[Nt q]
    ·rw[Np q];exact Np λe:z=p.1=>h (AQ.mpr (Aw e))
def xU{k:Str->Option Fw}{b:List (Str×AM)}:∀{m m'},(b.map (·.1)).Nodup->(z,v)∈b->(k z=U NameKind.local->bindL k b m z=U v)/\(k z≠U NameKind.local->bindC k b m' z=U v):=by
 induction b with
 |nil=>exactλZ h=>M9 h Ay
 |cons p r ih=>
  intro m m' hn h;obtain⟨h1,h2⟩:=Bc.mp hn;rcases AQ.mp h with h|h
  ·subst h;refine⟨λq=>(vy h1).trans ?_,λq=>(vz h1).trans ?_⟩
   ·rw[Nt q];exact Nt H
   ·rw[Np q];exact Nt H
  exact ih h2 h
def mP:∀{n} {acc},((∃c,acc.lookup z=U c)\/(z,BA)∈names)->∃R,(cellsFrom n names acc).lookup z=U R:=by
 induction names with
 |nil=>exactλh=>h.elim id λq=>M9 q Ay
 |cons p r N=>
  intro n acc h;obtain⟨y,k⟩:=p;dsimp only[cellsFrom]
  by_cases q:(k==BA)=J
  ·rw[Nt q];refine N ?_
   by_cases e:z=y
   exact Aw ⟨_,(λc e=>by rw[D0,e,Px]:∀c,z=y->G4 z ((y,c)::acc)=U c) _ e⟩;exact h.imp (λ⟨c,g⟩=>⟨c,((λc e=>by rw[D0,beq_eq_false_iff_ne.mpr e]:∀c,z≠y->G4 z ((y,c)::acc)=acc.lookup z) _ e).trans g⟩) λg=>(AQ.mp g).resolve_left λg=>e<|M7 Az g
  rw[Np q];exact N<|h.imp id λg=>(AQ.mp g).resolve_left λg=>q<|beq_iff_eq.mpr (M7 FH g).symm
variable{n:Nat}{s z:Wd B}{env:Env}{Γ nms:NI}{vals:LVal}{full:LV}{k:Nat}{s₁:AZ}
def xV(hz:z.sh=s₁)(N:InCallC s.sh env.locals (bindL env.kindOf (nms.zip vals) λZ=>Y) env.cells (bindC env.kindOf (nms.zip vals) λZ=>Y) s₁)(hl:vals.length=nms.length)(Q:nms.Nodup)
  (r:Nq s vals full) (lz:LN s z) (pv:∀a,s.get? a=Y->NQ z.toSt a) (hΓ:∀(i:Nat) x,nms[i]?=U x->Γ[i]?=U x) (X:Γ.Nodup) (hk:∀x∈Γ,env.kindOf x=U NameKind.local\/env.kindOf x=U BA)
  (C:full.length+k=Γ.length) (E:pg env):Loc z env Γ (full.map U++A8 k Y):=by
 subst hz;refine⟨E,⟨_,N.toInCall.ns⟩,λa h=>?_,λy c h=>⟨_,N.cell y c h⟩,by rw[Ad,Ak,Cs];exact C,λi j y I R Z=>?_,λi y v I R Z=>?_⟩;refine pv a<|bA<|h.elim (λe=>e▸N.toInCall.fresh) λ⟨y,g⟩=>Aa N.toInCall.fresh<|B3<|N.above y a<|mem_of_lookup g
 exact(M0 (BI.mp I).1 X).mp<|I.trans R.symm
 by_cases hi:i<full.length
 ·rw[E3 (by rw[Ak];exact hi),BR]at R;obtain⟨w,hw,e⟩:=A4.mp R;obtain rfl:=Af e;obtain⟨u,hu,hr⟩:=r.get hw
  have hx:nms[i]?=U y:=by have:=AY (l:=nms) (i:=i) (by rw[<-hl,r.length];exact hi);rw[this];exact aO (hΓ i _ this) I
  have hg:=xU (k:=env.kindOf) (m:=λZ=>Y) (m':=λZ=>Y) (by rw[List.map_fst_zip (Ap hl.symm)];exact Q) (A6 (List.getElem?_zip_eq_some.mpr ⟨hx,hu⟩):(y,u)∈nms.zip vals);refine⟨u,?_,hr.le lz⟩;rcases hk y (A6 I)with q|q
  exact .loc _ q N.toInCall.ns<|hg.1 q
  obtain⟨c,hc⟩:=E.has y (Aw q);exact HY c q hc<|(hg.2 λe=>nomatch q.symm.trans e)▸N.cell y c hc
 rw[CW (by rw[Ak];exact Di hi),Lo]at R;exact aa<|Af (pb R).2
end
section
variable{n kv:Nat}{x:Wd B}{σ:M5}{Q:KE}
abbrev RT(Q:KE):Kt:=⟨λZ σ=>Q A5 σ,Q,λZ Z=>False⟩
def Vd(x:Wd B)(Q:KE)(r:F7)(s:AZ):=match r with
 |.ok (.ret v)=>aP noOwn x (dS Q) v s
 |_=>False
def Vd.call(h:∀A,ef m A->codeAny B.M A (GC f ⟨vs,[]⟩) (Vd x Q) x.sh):Wv m (call f vs []) Q x:=λA R=>aha (ag7 (h A R) λr s q=>by
 cases r with
 |error e=>exact Bw q
 |ok N=>cases N<;>first|exact q|exact Bw q)
def sa{A:CP}(N:ef (3*(n+1)) A)(R:Env):ef (lv n) (A.deeper R):=
 ⟨N.handled,N.guards,by have:=N.depth;show A.depth+1+2*(3*n+2)<900;exact ax this aS,by have:=N.units;show A.units+3+24*(3*n+2)<9000;exact ax this aS⟩
def pW{o:Obj}(h:Vy o=U fd):o.data=.func fd:=by
 delta Vy at h;obtain⟨_,_,d,_⟩:=o
 cases d<;>first|exact aa h|exact M7 Data.func (Af h)
set_option tactic.hygienic true in
def pX{o:Obj}(h:Vz o=U q):∃vs t,o.data=Df vs/\vs[1]?=U (Cg q t):=by
 delta Vz at h;obtain⟨_,_,d,_⟩:=o
 cases d<;>first|exact aa h|skip
 rename_i vs
 dsimp only at h
 cases e:vs[1]? with
 |none=>rw[e]at h;exact aa h
 |some u=>rw[e]at h;cases u<;>first|exact aa h|exact⟨vs,_,rfl,e.trans (by rw[Af h])⟩
def sb(h:X8 B.K v=U q):x.sh.heap.CodeRec v q:=by
 cases v<;>first|exact aa h|skip
 obtain⟨o,A,h⟩:=ag0 h;obtain⟨R,t,N,I⟩:=pX h;exact⟨_,o,R,t,H,(x.ok.base _ _ (B.jc _ _ A)).2,N,I⟩
def xW{vs:LVal}(h:dfl B.K v=U vs)(R:vs.mapM (toV B.K 8)=U ds):
  Nq x vs ds/\∀A E N,(∀o,(o.getD #[]).toList=vs->N o x.sh)->wpAny B.M A (Mz v) N E x.sh:=by
 refine⟨ph (xi 8) vs ds R,λA E N q=>?_⟩
 cases v<;>first|exact aa h|skip
 obtain rfl:=Af h;exact agY<|agZ<|agZ<|q Y H
 obtain⟨o,X,h⟩:=ag0 h;obtain⟨r,I,h⟩:=ag0 h;obtain rfl:r=U vs:=h;obtain⟨rfl,_⟩:=pj I;exact up<|EM (x.ok.base _ _ (B.jc _ _ X)).2 H<|q _ H
structure Zn (fd:HJ) (fn:Fn) (b:List Stmt):Prop where
 po:fd.params.posonlyargs=[]
 va:fd.params.vararg=Y
 ko:fd.params.kwonlyargs=[]
 kw:fd.params.kwarg=Y
 kind:fd.scope.kind=B8
 gen:fd.scope.isGenerator=Am
 co:fd.scope.isCoroutine=Am
 free:∀p∈fd.scope.names,p.2≠Ba
 take:(PM fd.scope).take fd.params.args.length=fd.params.args.map (·.arg)
 clo:fd.closure=[]
 nd:(PM fd.scope).Nodup
 glob:fd.globals=CU
 blt:fd.builtins=JD
 body:fd.body=.stmts b
 np:fn.np=fd.params.args.length
 ns:fn.ns=(PM fd.scope).length
 tr:b.mapM (Ww (Gl) 64 fd.scope (PM fd.scope))=U fn.body
def agw(h:YV (Gl) fd=U fn):∃b,Zn fd fn b:=by
 obtain⟨b,hb,h⟩:=ag0 h;obtain⟨N,h⟩:=pb h;obtain⟨b',y,h⟩:=ag0 h;obtain rfl:=Af h;obtain⟨N,X⟩:=Ah.mp N;obtain⟨N,A⟩:=Ah.mp N;obtain⟨N,C⟩:=Ah.mp N;obtain⟨N,I⟩:=Ah.mp N;obtain⟨N,c9⟩:=Ah.mp N;obtain⟨N,c8⟩:=Ah.mp N;obtain⟨N,c7⟩:=Ah.mp N;obtain⟨N,c6⟩:=Ah.mp N;obtain⟨N,c5⟩:=Ah.mp N;obtain⟨N,c4⟩:=Ah.mp N;obtain⟨N,c3⟩:=Ah.mp N;obtain⟨c1,q⟩:=Ah.mp N
 refine⟨b,DE.mp c1,Dw.mp q,DE.mp c3,Dw.mp c4,N2 c5,BM _|>.mp c6,BM _|>.mp c7,
  λp hp e=>bne_iff_ne.mp (Ah.mp (A3.mp c8 p hp)).1 e,N2 c9,DE.mp I,Od C,N2 A,N2 X,?_,H,H,y⟩
 have:∀R,bodyOf R=U b->R=.stmts b:=λR h=>by cases R<;>first|exact aa h|exact M7 FuncBody.stmts (Af h)
 exact this _ hb
def VH(n:Nat)(ss:List S)(K:Kt)(ρ:NF)(σ:M5):=∀kt env Γ b x,TrS kt env Γ b ss->x.σ=σ->Loc x env Γ ρ->Wf n env Γ (execs b env) K x
def ad1(N:aV){K:Kt}(h:Na n kv ss ρ σ K):VH n ss K ρ σ:=λI R A b x t e L=>(ad0 N kv).ss t L (e▸h)
def ahG{fn:Fn}{args ds full:LV}(hf:fnOf B.K f=U (fn,ds))(I:Oi args ds fn.np=U full)
  (h:VH n fn.body (RT Q) (full.map U++A8 (fn.ns-fn.np) Y) x.σ) (hs:Nq x vs args) (rm:ef (3*(n+1)) A):codeAny B.M A (GC (Ai f) ⟨vs,[]⟩) (Vd x Q) x.sh:=by
 obtain⟨N,h1,h2⟩:=ag0 hf;obtain⟨o,ho,h1⟩:=ag0 h1;obtain⟨hok,h2⟩:=pb h2;obtain⟨fn',htr,h2⟩:=ag0 h2;obtain⟨ds',hd,e⟩:=A4.mp h2
 cases e
 obtain⟨dvs,hd1,hd2⟩:=ag0 hd;obtain⟨hcode,hΓk⟩:=Ah.mp hok;obtain⟨b,F⟩:=agw htr;obtain⟨hds,hseq⟩:=xW hd1 hd2;rw[F.np]at I h;rw[F.ns]at h;obtain⟨vf,hvf,hr⟩:=xS hs hds I;have hnm:(N.params.args.map (·.arg)).length=N.params.args.length:=Ak ..;have hnd:(N.params.args.map (·.arg)).Nodup:=F.take▸(List.take_sublist _ _).nodup F.nd
 have C:∀i z,(N.params.args.map (·.arg))[i]?=U z->(PM N.scope)[i]?=U z:=λi z e=>by
  rw[<-F.take,ME]at e
  by_cases q:i<N.params.args.length
  rw[Nt q]at e;exact e;rw[Np q]at e;exact aa e
 have hk:∀z∈PM N.scope,N.scope.names.lookup z=U NameKind.local\/N.scope.names.lookup z=U BA:=λz hz=>(Cb.mp (A3.mp hΓk z hz)).imp N2 N2;refine ahn (Al (AD ..) (BG rm.depth ae)) (x.ok.base _ _ (B.jc _ _ ho)).2 (pW h1) F.co F.gen F.body (sb (N2 hcode)) ?_;rw[F.clo];refine r9 F.po F.va F.ko F.kw hnd (λQ' q=>hseq _ _ Q' q) hvf<|up<|PySem.wpAny_newFunctionEnv_cells F.kind (λp hp=>?_) λR he s₁ ic=>?_
 obtain⟨i,hi⟩:=Ee (List.of_mem_zip hp).1;exact(hk p.1 (A6 (C i _ hi))).imp id λq=>⟨q,(mP (AN (ahl q))).elim λc hc=>by rw[hc];rfl⟩;obtain⟨h',tk,e1,keep⟩:=ic.done;obtain⟨z,ez,eσ,lz,pv⟩:=x.grown (t:=tk) keep;have hsc:R.scope=N.scope:=by rw[he];rfl
 have hkof:∀u,R.kindOf u=N.scope.names.lookup u:=λu=>by rw[he];rfl
 have E:pg R:=⟨hsc▸F.kind,by rw[he];exact F.glob,by rw[he];exact F.blt,λy c hc=>CR (ic.above y c (mem_of_lookup hc)),λu v c g1 g2=>name_of_addr ic.apart (mem_of_lookup g1) (mem_of_lookup g2),λu hu=>by
  rw[hkof]at hu;rcases hu with hu|hu
  rw[he];exact mP (AN (ahl hu));exact M9 H (F.free _ (ahl hu))⟩
 have hle:N.params.args.length<=(PM N.scope).length:=by have:=M7 CH F.take;rw[F6,hnm]at this;exact this▸JT ..
 have L:=xV (ez.trans e1.symm) ic ((jk hvf).trans hnm.symm:vf.length=(N.params.args.map (·.arg)).length) hnd hr lz pv C F.nd (λu hu=>by rw[hkof];exact hk u hu) (by rw[jk I];exact Jn hle) E;refine⟨B.nolimit.keeps λb o e=>by rw[e1];exact keep b o (x.ok.base b o e).2,ahL ?_⟩;rw[e1,<-ez];refine ag1 (h 64 R (PM N.scope) b z (show TrS 64 R (PM N.scope) b fn.body by delta TrS;rw[hsc];exact F.tr) eσ L (A.deeper R) (sa rm R)) (λfl s₂ q0=>aP.casesOn q0 λy a l q=>?_) λZ Z f=>f.elim
 have X:LN x y:=lz.tZ l λa o t e=>by exact aa<|aO (bA (t.elim (λt=>t▸ic.toInCall.fresh) λ⟨u,g⟩=>Aa ic.toInCall.fresh (B3 (ic.above u a (mem_of_lookup g))))) e
 cases fl with
 |next=>obtain⟨ρ',_,q⟩:=q;exact .mk y a X (.mk A5 aq.none q)
 |brk=>exact q.elim
 |cont=>exact q.elim λZ q=>q.2.elim
 |ret v=>exact .mk y a X q
def xX(N:aV){fn:Fn}{args ds full:LV}(hf:fnOf B.K f=U (fn,ds))(R:Oi args ds fn.np=U full)
  (h:Na n kv fn.body (full.map U++A8 (fn.ns-fn.np) Y) σ (RT Q)):M8 B (n+1) f args σ Q:=λx C e I=>Vd.call λA X=>ahG hf R (e▸ad1 N h) I X
def W8(k:Nat)(v:V):List (Nat×V)->List (Nat×V)
 | []=>[(k,v)]
 |p::r=>match BU k p.1 with
  |true=>(k,v)::r
  |false=>p::W8 k v r
def Uu(k:Nat):List (Nat×V)->OV
 | []=>Y
 |p::r=>match BU k p.1 with
  |true=>U p.2
  |false=>Uu k r
def VZ:V->Bool
 |.val v=>handedIn v
 |_=>J
def sd:∀a<22,∀b<22,nm a=nm b->a=b:=by decide+kernel
def pY:∀a<22,nm a≠EG:=by decide+kernel
def xY(R:k<22)(h:nm n=nm k):k=n:=by
 by_cases N:n<22
 exact(sd n N k R h).symm;exact M9 (aO h (show nm n=EG by delta nm;rw[D4 (Di N)];rfl))<|pY k R
variable{P:He}{x y:St}{l:List (Nat×V)}{k:Nat}{z:V}
def bh.ind{C:List BY->List (Nat×V)->Prop}(h0:C [] [])(I:∀R t u N n z l,aq P x u z->C N l->C (⟨R,Cg (nm n) t,u⟩::N) ((n,z)::l))(l:List (Nat×V)):∀{N},bh P x N l->C N l:=by
 induction l with
 |nil=>exactλh=>(bh.dQ h)▸h0
 |cons p l A=>exactλh=>(bh.inv h).elim λR h=>h.elim λt h=>h.elim λu h=>h.elim λX h=>h.1▸I R t u X p.1 p.2 l h.2.1 (A h.2.2)
def xZ:getL m (⟨N,Cg m t,u⟩::es)=U (U u):=by delta getL;rw[List.find?_cons_of_pos (p:=λe:BY=>e.key.isStr m) (a:=⟨N,Cg m t,u⟩) (l:=es) (Px m)]
def mR{m m':Str}{N:Int}{t:Tok}{u:AM}(h:m'≠m):getL m (⟨N,Cg m' t,u⟩::es)=getL m es:=by
 delta getL;rw[List.find?_cons_of_neg (p:=λe:BY=>e.key.isStr m) (a:=⟨N,Cg m' t,u⟩) (l:=es) (λq=>h (N2 q))]
 rfl
def vA(h:Uu k (p::l)=U v):(k=p.1/\p.2=v)\/(k≠p.1/\Uu k l=U v):=by
 dsimp only[Uu]at h
 cases e:BU k p.1 with
 |true=>rw[e]at h;exact Aw ⟨BE e,Af h⟩
 |false=>rw[e]at h;exact AN ⟨λq=>(by rw[q,Jl]at e;cases e),h⟩
def ya(I:k<22)(h:bh P x N l)(e:Uu k l=U v):∃u,getL (nm k) N=U (U u)/\aq P x u v:=
 bh.ind (C:=λN l=>Uu k l=U v->∃u,getL (nm k) N=U (U u)/\aq P x u v) (λh=>aa h) (λX t u N n z l r A h=>by
  rcases vA h with⟨rfl,rfl⟩|⟨R,h⟩
  exact⟨u,xZ,r⟩;rw[mR λq=>R (xY I q)];exact A h) l h e
def vB(h:bh P x N l)(R:l.all (λp=>nm p.1 !=m)=J):getL m N=U Y:=
 bh.ind (C:=λN l=>l.all (λp=>nm p.1 !=m)=J->getL m N=U Y) (λZ=>H) (λA t u N n z l Z I h=>by obtain⟨a,b⟩:=Ah.mp h;rw[mR (bne_iff_ne.mp a)];exact I b) l h R
def yb(hk:k<22)(A:aq P y u z)(h:bh P y es l):bh P y (putL (nm k) C (Cg (nm k) t) u es) (W8 k z l):=by
 induction l generalizing es with
 |nil=>exact(bh.dQ h)▸bh.cons A .nil
 |cons p l ih=>
  obtain⟨X,N,R,us,rfl,r1,I⟩:=bh.inv h;dsimp only[putL,W8]
  cases e:BU k p.1 with
  |true=>obtain rfl:=BE e;rw[Nt (show(MU X (Cg (nm p.1) N) R).key.isStr (nm p.1)=J from Px (nm p.1))];exact bh.cons A I
  |false=>rw[Np (show¬(MU X (Cg (nm p.1) N) R).key.isStr (nm k)=J fromλq:(nm p.1==nm k)=J=>by rw[xY hk (N2 q),Jl]at e;cases e)];exact bh.cons r1<|ih I
def pZ(name:Str)(R:Int)(I v:AM)(N:List BY):(putL name R I v N).length<=N.length+1:=by
 induction N with
 |nil=>exact AH _
 |cons e r A=>
  dsimp only[putL]
  by_cases q:e.key.isStr name=J
  rw[Nt q];exact B4 _;rw[Np q];exact AX A
def p3(N:aq P x v z)(R:VZ z=J):handedIn v=J:=by
 cases z with
 |none=>exact(aq.inv N:v=_)▸H
 |bool=>exact(aq.inv N:v=_)▸H
 |int=>exact(aq.inv N).elim λZ e=>e▸H
 |str=>exact(aq.inv N).elim λZ h=>h.elim λZ h=>h.1▸H
 |bytes=>exact(aq.inv N).elim λZ h=>h.elim λZ h=>h.1▸H
 |val=>exact(aq.inv N:v=_)▸R
 |ref=>exact(aq.inv N:v=_)▸H
 |tup=>exact(aq.inv N).elim λZ h=>h.elim λZ h=>h.elim λZ h=>h.1▸H
 |lst=>exact(aq.inv N).elim λZ h=>h.elim λZ h=>h.elim λZ h=>h.1▸H
 |di=>exact(aq.inv N).elim λZ h=>h.elim λZ h=>h.elim λZ h=>h.1▸H
 |ins=>exact(aq.inv N).elim λZ h=>h.elim λZ h=>h.elim λZ h=>h.elim λZ h=>h.1▸H
end
section
variable{n:Nat}{x:Wd B}{σ:M5}{Q:KE}{c f:AG}{l:List (Nat×V)}{k:Nat}{v:AM}{z o:V}
def Wd.jc(x:Wd B):B.K.In x.sh.heap:=λa o e=>(x.ok.base a o (B.jc a o e)).2
abbrev isI(σ:M5):V->Option (AG×List (Nat×V))
 |.ins c l=>U (c,l)
 |.ref a=>(σ a).bind λo=>match o with
  |.inst c l=>U (c,l)
  |_=>Y
 |_=>Y
inductive Yc (x:Wd B) (v:AM) (c:AG) (l:List (Nat×V)):Prop
 |mk (a d:AG) (es:List BY) (m:Nat):v=Ai a->x.get? a=U (Fi c d)->x.get? d=U (Dt es m)->bh B.P x.toSt es l->Yc x v c l
def yc{o:O}(h:(match o with|.inst c l=>U (c,l)|_=>Y)=U (c,l)):o=BZ c l:=by cases o<;>first|exact aa h| (cases h;rfl)
def adk(X:Rd x v o)(h:isI x.σ o=U (c,l)):Yc x v c l:=by
 cases o<;>first|exact aa h|skip
 obtain⟨o,C,h⟩:=ag0 h;obtain rfl:=yc h;obtain⟨d,I,m,N,R,_,A,_⟩:=x.ok.objs _ _ C;exact .mk _ d I m (aq.inv X) N R A
 cases h
 obtain⟨a,d,I,m,rfl,N,R,_,_,A⟩:=aq.inv X;exact .mk a d I m H N R A
def t4(h:σ a=U (BZ c l)):isI σ (Av a)=U (c,l):=by show Jj (σ a) _=_;rw[h];rfl
def yd(h:isI σ o=U (c,l))(N:attrOk B.K c k=J)(hx:Uu k l=U z)(hh:VZ z=J)(q:Q z σ):Tf B n o k σ Q:=λx v e hv=>by subst e;obtain⟨a,d,I,m,rfl,e1,X,C⟩:=adk hv h;obtain⟨y,N⟩:=Ah.mp N;obtain⟨h2,N⟩:=Ah.mp N;obtain⟨h3,hk⟩:=Ah.mp N;obtain⟨u,hg,R⟩:=ya (Ac hk) C hx;exactλA Z=>up (get_value x.jc (od:=U (Dt I m)) ⟨e1,H,H,X⟩ (plainGet_of y).1 (findObj_own h2 (N2 h3) H hg) (p3 R hh) (.mk (x.toks _) H (Wd.bL _) (.mk z (Rd.toks R) q)))
def ye(h:isFn B.K (Ai f)=J):Rh B (Ai f):=by obtain⟨o,e,e2⟩:=A4.mp (N2 h:typeIn B.K (Ai f)=_);exact mG (B.jc _ _ e) e2<|Aw H
def yf{R:Goes->Prop}(h:isI σ o=U (c,l))(N:Wd B->Ug B.K c m f=J)(hl:l.all (λp=>nm p.1 !=mt m)=J)(q:R (.fn f)):MethW B n o m σ R:=by refine⟨.fn f,Ai f,H,λm x=>ye (Ah.mp (Ah.mp (N x)).2).2 m x,q,λx v pl e hv A Z=>?_⟩;obtain⟨X,N⟩:=Ah.mp (N x);obtain⟨h2,h3⟩:=Ah.mp N;subst e;obtain⟨a,d,I,k,rfl,e1,C,y⟩:=adk hv h;exact up<|method_fn x.jc (od:=U (Dt I k)) ⟨e1,H,H,C⟩ (plainGet_of X).1 (plainGet_of X).2 (N2 h2) (N2 h3) (show(lookIn (mt m) (Dt I k)).map _=_ by rw[lookIn_dict,vB y hl];rfl)<|.mk x H (LE.refl _) ⟨H,H⟩
def aP.agx{A:Type}{R:A->Wd B->Prop}{r:A}{h:Heap}{t:Nat}{a d:AG}{N:List (Nat×V)}(C:x.σ a=U (BZ c l))(X:x.σ d=U (CK a))(I:CJ d x.sh.heap h)
  (hr:Ou x.toSt (QS x.toSt h t a (BZ c N))->SP B.P (QS x.toSt h t a (BZ c N)) a (BZ c N)) (ho:∃ob,h.get? d=U ob) (q:∀y,y.σ=x.σ.set a (BZ c N)->R r y):aP noOwn x R r {x.sh with heap:=h,toks:=t}:=
 .mk ⟨QS x.toSt h t a (BZ c N),xl x.ok C (AN X) I O.kG hr ho⟩ H (xk x.ok C (AN X) I O.kG) (q _ H)
def p5{a:AG}{Q:M5->Prop}(ha:σ a=U (BZ c l))(N:setOk B.K c k=J)(hl:l.length<=100)(q:Q (σ.set a (BZ c (W8 k z l)))):RG B n (Av a) k z σ Q:=λx v u e hv hu A Z=>by
 subst e;obtain rfl:v=Ai a:=aq.inv hv;obtain⟨h1,N⟩:=Ah.mp N;obtain⟨h2,N⟩:=Ah.mp N;obtain⟨_,N⟩:=Ah.mp N;obtain⟨h3,N⟩:=Ah.mp N;obtain⟨h4,hk⟩:=Ah.mp N;obtain⟨d,R,m,e1,e2,hd,hs,hz⟩:=x.ok.objs _ _ ha;have I:InstAt x.sh.heap a (Fi c d) c (U (Dt R m)):=⟨e1,H,H,e2⟩;refine up<|set_plain x.jc I (N2 h1)<|osa_open x.jc I h2 (by delta takerIn;rw[N2 h4];rfl:takerIn B.K c (nm k)=U Y) λb=>?_
 obtain⟨cd,hc,hd'⟩:=any_some h3;refine Ab<|Aj<|Ab<|Ab<|HH e1<|Ab<|Looks.here (looks_clsIn x.jc hc) ?_
 rw[hd'];refine Aj<|Ab<|Aj<|Ab ?_
 delta nsSet;refine Ab<|Ab<|Hq<|Aj<|Ab<|Mi<|Ab<|HH e2 ?_
 dsimp only;rw[aRefKeyMayBeTheName_at,(Hn.trans (bh.ind (C:=λR Z=>R.any (·.refKey)=Am) H (λZ Z Z Z Z Z Z Z ih=>ih) l hs):(R.toArray.any (·.refKey))=Am),GN];have hu':Obj.putName (nm k) (Gz B.w.params (nm k)) (Cg (nm k) (x.sh.toks+1)) u (Dt R m)=Dt (putL (nm k) (Gz B.w.params (nm k)) (Cg (nm k) (x.sh.toks+1)) u R) (putN (nm k) R m):=putName_dict _ _ _ _ _ _
 have X:(x.sh.heap.update d (Obj.putName (nm k) (Gz B.w.params (nm k)) (Cg (nm k) (x.sh.toks+1)) u)).get? d=U (Dt (putL (nm k) (Gz B.w.params (nm k)) (Cg (nm k) (x.sh.toks+1)) u R) (putN (nm k) R m)):=by rw[<-hu'];exact Dz _ e2 (by rw[hu'];rfl)
 have nda:a≠d:=λz=>by subst z;exact O.kG _ (Af (aO ha hd))
 refine PySem.wpAny_updatePart e2 (Ab (Lh X (pastItsLine_dict (by rw[I9,EF];exact Aa (Aa (pZ _ _ _ _ _) (AX ((bh.ind (C:=λR l=>R.length=l.length) H (λZ Z Z Z Z Z Z Z ih=>M7 (· +1) ih) l hs)▸hl)):(putL (nm k) (Gz B.w.params (nm k)) (Cg (nm k) (x.sh.toks+1)) u R).length<=101) ae)) (Aj ?_)));exact aP.agx ha hd (Dd x.sh.heap d _) (λst=>⟨d,_,_,(Ia _ _ _ _ nda).trans e1,X,(M5.aA _ nda.symm).trans hd,yb (Ac hk) (aq.az st hu) (bh.az st hs),hz⟩) ⟨_,X⟩ λy e=>e▸q
variable{prog:CZ}{w:Dy}{A:CP}{C:AG}{R:F7->AZ->Prop}{h:Heap}{g:Array GenState}{d:Drawn}{t:Nat}{os:OsState}
def ahV(N:Makes (model prog w) h C)(hi:Looks (model prog w) h (D9 (Ai C) "__init__") (U I))
  (hb:∀X,Looks (model prog w) h (bindSpecial I X) (I,[X])) (hne:(U I !=U (AK "object.__init__"))=J\/(rest=[]/\kw=[]))
  (hq:codeAny (model prog w) (A.under (Co "type.__call__" ⟨Ai C::rest,kw⟩)) (GC I ⟨Ai (h.objs.size+1)::rest,kw⟩) (InitBack (h.objs.size+1) R) ⟨(h.push FY).push (Fi C h.objs.size),g,d,t,os⟩):
  codeAny (model prog w) A (GC (Ai C) ⟨rest,kw⟩) R ⟨h,g,d,t,os⟩:=by
 have Y':=N;obtain⟨⟨oc,od,cd,sl,hC,e1,e2,e4⟩,y,base,X,top,call,q⟩:=N;refine ag3 ?_ H;show wpAny _ _ (callAny (Ai C) _) _ _ _;refine agY<|up<|CY hC ?_
 show wpAny _ _ (L8 (Ai C) _) _ _ _;delta L8;refine agY<|up<|call.at ?_
 dsimp only;rw[tc_bind];refine agY (agZ (agY (agZ (agZ (a:=Gv (GC (AK "type.__call__") ⟨Ai C::rest,kw⟩)) (Hv H ?_)))));refine ag9 (Iy _ aY) entry_typeCall aY<|up ?_
 with_reducible refine @check_slot (model prog w) A.in1 _ ⟨h,g,d,t,os⟩ "type.__call__" "type" "__call__" (Ai C) rest kw _ tc_kind tc_split q (tc_args _ _ _) ?_
 delta Builtin.«type.__call__»;refine eA H<|agY<|up<|(((Looks.ld hC).andThen .now).andThen .now:Looks (model prog w) h (mroOf (Ai C)) cd.mro).at (eA e4 (agY (up (y.at ?_))))
 refine agY<|agZ<|agY<|ag2<|aha<|upc<|new_K Y' hi hne ?_
 have k:∀b o,h.get? b=U o->((h.push FY).push (Fi C h.objs.size)).get? b=U o:=λb o e=>Be _ (Be _ e)
 have hx:((h.push FY).push (Fi C h.objs.size)).get? (h.objs.size+1)=U (Fi C h.objs.size):=by
  have:=BK (h.push FY) (o:=Fi C h.objs.size) H
  rwa [GI]at this
 have t1:Looks (model prog w) ((h.push FY).push (Fi C h.objs.size)) (GY (Ai (h.objs.size+1))) (Ai C):=(Looks.ld hx).andThen .now;refine agY<|up<|(t1.andThen (X.keeps k):Looks (model prog w) ((h.push FY).push (Fi C h.objs.size)) (HI (Ai (h.objs.size+1)) (Ai C)) J).at (eA H (agY (ag2 ?_)))
 delta Fh;refine agY (up ((t1.andThen (hi.keeps k):Looks (model prog w) ((h.push FY).push (Fi C h.objs.size)) (specialOf (Ai (h.objs.size+1)) "__init__") (U I)).at (ag2 (agY (up (((hb (Ai (h.objs.size+1))).keeps k).at ?_))))));refine agY<|aha<|ag7 hq λr s' z=>?_
 rcases r with e| (v|_|_|_)<;>first|exact z|exact z.elim|skip
 obtain⟨rfl,z⟩:=z;exact agZ<|agZ z
end
section
variable{n kv:Nat}{σ:M5}{Q:KE}{C f:AG}
def vC(a:AG)(vs:LVal):Ma (Co "type.__call__" ⟨Ai a::vs,[]⟩)=[]:=by kernel_rfl
def vD(a:AG)(vs:LVal):Code.weight (Co "type.__call__" ⟨Ai a::vs,[]⟩)=1:=by kernel_rfl
def yg(a:AM)(vs:LVal):Code.cUnits (Co "type.__call__" ⟨a::vs,[]⟩)=1:=by kernel_rfl
def vE{A:CP}(N:ef (3*(n+2)) A):ef (3*(n+1)) (A.under (Co "type.__call__" ⟨Ai C::vs,[]⟩)):=
 ⟨N.handled,(by show pushGuards (Ma (Co "type.__call__" ⟨Ai C::vs,[]⟩)) A.guards=U [];rw[vC,N.guards];rfl),by have:=N.depth;show A.depth+Code.weight _+2*_<900;rw[vD];exact ax this aS,by have:=N.units;show A.units+Code.cUnits _+24*_<9000;rw[yg];exact ax this aS⟩
def Pa(x:St)(C:AG):St:=⟨{x.sh with heap:=(x.sh.heap.push FY).push (Fi C x.sz)},x.φ,(x.σ.set x.sz (CK (x.sz+1))).set (x.sz+1) (BZ C [])⟩
def se(x:Wd B)(C:AG):Ok B (Pa x.toSt C)/\LE noOwn x.toSt (Pa x.toSt C):=by
 have I:(x.sh.heap.push FY).objs.size=x.sz+1:=GI ..;have gd:(Pa x.toSt C).get? x.sz=U emptyDict:=Be _ (BK _ H);have A:(Pa x.toSt C).σ x.sz=U (CK (x.sz+1)):=(M5.aA _ (CQ (Bu _))).trans (M5.ag _ _);have X:∀b,b≠x.sz+1->b≠x.sz->(Pa x.toSt C).σ b=x.σ b:=λb N R=>(M5.aA _ N).trans (M5.aA _ R);have y:du x.toSt (Pa x.toSt C) noOwn:=⟨λZ h=>h.elim,λZ Z h=>h.elim,λa o e Z=>⟨Be _ (Be _ e),X a (CQ (C4 (BV e))) (CQ (BV e)),GF⟩⟩;refine⟨y.ok x.ok (λa o h e=>?_) (λa h q=>M9 q (x.cw (cx h))) H H,y.le0 λZ h=>h.elim⟩
 by_cases N:a=x.sz+1
 subst N;exact Af (aO (M5.ag _ _:(Pa x.toSt C).σ (x.sz+1)=U (BZ C [])) e)▸⟨x.sz,[],0,(I▸BK (x.sh.heap.push FY) H:(Pa x.toSt C).get? (x.sz+1)=U (Fi C x.sz)),gd,A,.nil,H⟩
 by_cases R:a=x.sz
 subst R;exact Af (aO A e)▸⟨_,gd⟩;exact aa<|aO (x.aW (cx h))<|aO (X a N R) e
def ahM(N:aV){fn:Fn}(R:Uh B.K C f=J)(hf:fnOf B.K f=U (fn,ds))(I:∀a,Oi (Av a::args) ds fn.np=U (Av a::full))
  (h:∀a d,σ a=Y->σ d=Y->a=d+1->Na n kv fn.body ((Av a::full).map U++A8 (fn.ns-fn.np) Y) ((σ.set d (CK a)).set a (BZ C [])) (RT λr σ'=>r=A5/\Q (Av a) σ')):M8 B (n+2) C args σ Q:=λx vs e hs A rm=>by
 subst e;obtain⟨h1,R⟩:=Ah.mp R;obtain⟨h2,R⟩:=Ah.mp R;obtain⟨h3,_⟩:=Ah.mp R;refine aha<|ahV (makes_of x.jc h1) (looks_findIn x.jc (N2 h2)) (λX=>bind_fn x.jc X (N2 h3)) (Aw H) ?_
 obtain⟨K,l⟩:=se x C;have:=ahG (x:=⟨Pa x.toSt C,K⟩) hf (I _) (ad1 N (h (x.sz+1) x.sz (x.aW (bA (B4 _))) (x.aW (aI _)) H)) (Nq.cons (aq.ref _) (hs.le l)) (vE (C:=C) (vs:=vs) rm);refine ag7 this λr s' q=>?_
 cases r with
 |error e=>exact Bw q
 |ok fl=>
  cases fl<;>first|exact Bw q|skip
  exact aP.casesOn q λy a l2 q1=>dS.casesOn q1 λz hz q2=>by obtain⟨rfl,q3⟩:=q2;obtain rfl:_=AL:=aq.inv hz;exact⟨H,.mk y a (l.trans l2) (.mk _ (aq.ref _) q3)⟩
variable{c:Bool->M5->Prop}{a b:Int}{x y:M6}{u v:V}
abbrev XF(op:Hf)(a b r:Int):=∀A s t u Q,Q (By r s.toks) {s with toks:=s.toks+1}->AB B.M A (Kb op (By a t) (By b u)) Q PI s
def bP(h:XF op a b r)(q:Q (Ar r) σ):R3 B n op (Ar a) (Ar b) σ Q:=λs Z Z e I R=>I.l9 (C:=λv=>Wv n (operate [v,_] (Kb op v _)) Q s) λt=>R.l9 (C:=λu=>Wv n (operate [_,u] (Kb op _ u)) Q s) λN=>Wp.operate λA Z=>up (h A s.sh t N _ (ahg (e.symm▸q)))
def yh{i:Int}(h:i.natAbs<2^64):i.natAbs.log2<64\/i=0:=by
 by_cases q:i.natAbs=0
 exact AN<|M3.mp q
 exact Aw<|(Nat.log2_lt q).mpr h
set_option tactic.hygienic true in
def mT{i:Int}(h:i.natAbs<2^64):Kr i<=64:=by
 delta Kr
 split
 exact Aq _
 rename_i hx
 exact Nat.succ_le_of_lt<|(yh h).elim id λq=>M9 (show(i==0)=J by subst q;rfl) hx
def agy{i j:Int}(h:j.natAbs<2^64):Builtin.divisionGoesByPylong i j=Am:=PyProof.noPylong_of_log2 ((yh h).elim (λq=>BG q ae) λq=>q▸ae)
def afl(h:binI op a b σ Q):R3 B n op (Ar a) (Ar b) σ Q:=by
 cases op<;>first|exact Bw h|skip
 exact bP (λZ Z Z Z R q=>by with_reducible exact PyProof.Rows.add_int q) h;exact bP (λZ Z Z Z R q=>by with_reducible exact PyProof.Rows.sub_int q) h;obtain⟨I,N⟩:=(h:_/\_);exact bP (λZ Z Z Z R q=>by with_reducible exact PyProof.Rows.mul_int q (I.elim (λq=>IntMulOk.of_left (mT q)) λq=>IntMulOk.of_right (mT q))) N;obtain⟨I,N⟩:=(h:_/\_);exact bP (λZ Z Z Z R q=>by with_reducible exact PyProof.Rows.mod_int' I q) N;obtain⟨⟨rfl,rfl⟩,N⟩:=(h:(_/\_)/\_);exact bP (λZ Z Z Z R q=>PySem.AutoIntOps.pow_4 aG aG aG aG aY q) N;obtain⟨⟨I,N,A⟩,X⟩:=(h:(_/\_/\_)/\_);exact bP (λZ Z Z Z R q=>by with_reducible exact PyProof.Rows.lshift_int_small I N A q) X;obtain⟨I,N⟩:=(h:_/\_);exact bP (λZ Z Z Z R q=>by with_reducible exact PyProof.Rows.rshift_int I q) N;exact bP (λZ Z Z Z R q=>by with_reducible exact PyProof.Rows.or_int q) h;exact bP (λZ Z Z Z R q=>by with_reducible exact PyProof.Rows.xor_int q) h;exact bP (λZ Z Z Z R q=>by with_reducible exact PyProof.Rows.and_int q) h;obtain⟨⟨I,N⟩,A⟩:=(h:(_/\_)/\_);exact bP (λZ Z Z Z R q=>by with_reducible exact PyProof.Rows.floordiv_int I q (Aw (agy N))) A
def vF(I:x.length+y.length<=Nh)(q:Q (W (x++y)) σ):R3 B n Gi (W x) (W y) σ Q:=λs Z Z e hv hu=>
 hv.dn (C:=λv=>Wv n (operate [v,_] (Kb Gi v _)) Q s) λb t R m1=>hu.dn (C:=λu=>Wv n (operate [_,u] (Kb Gi _ u)) Q s) λb' X N m2=>Wp.operate λA Z=>by
  have h1:b.size=x.length:=by rw[<-R,Ak];rfl
  have h2:b'.size=y.length:=by rw[<-N,Ak];rfl
  with_reducible refine up (KBy.add_bytes (by rw[h1,h2];have:Nh=16777216:=H;exact ax (Ao I (Ap this)) aS) λX k=>?_)
  exact cj (by rw[Gr,AS,R,N]) (by rw[Ad];exact I)<|e▸q
def agz(h:UnS op u σ Q):UnW B n op u σ Q:=λs v e N=>by
 subst e
 cases op<;>cases u<;>first|exact Bw h|skip
 all_goals refine N.l9 (C:=λv=>Wv n (unaryOp _ v) Q s) λt A Z=>?_
 ·with_reducible refine up (PyProof.Rows.invert_int ?_)
  exact ahg h
 with_reducible refine up (PyProof.Rows.neg_int ?_)
 exact ahg h
abbrev N4(op:GD)(v u:AM)(r:Bool):=∀A s Q,Q (B0 r) s->AB B.M A (KG op v u) Q PI s
def cM(h:∀(s:Wd B) R N,Rd s R v->Rd s N u->N4 op R N r)(q:c r σ):OT B n op v u σ c:=λs R N e X I A Z=>up (h s R N X I A s.sh _ (.mk s H (LE.refl _) (.mk r H (e▸q))))
def jl(h:∀t u,N4 op (By a t) (By b u) r)(q:c r σ):OT B n op (Ar a) (Ar b) σ c:=
 cM (λs Z Z I R=>I.l9 (C:=λv=>N4 op v _ r) λt=>R.l9 (C:=λu=>N4 op _ u r) λN=>h t N) q
def afm(h:YE op a b σ c):OT B n op (Ar a) (Ar b) σ c:=by
 cases op<;>first|exact Bw h|skip
 exact jl (λZ Z Z Z N q=>PyProof.Rows.eq_int q) h;refine jl (λZ Z Z Z N q=>by with_reducible exact PyProof.Rows.ne_int q) (?_ :c (a !=b) σ);rw[show(a !=b)=decide (a≠b)from(decide_not ..).symm];exact h;exact jl (λZ Z Z Z N q=>by with_reducible exact PyProof.Rows.lt_int q) h;exact jl (λZ Z Z Z N q=>by with_reducible exact PyProof.Rows.le_int q) h;exact jl (λZ Z Z Z N q=>by with_reducible exact PyProof.Rows.gt_int q) h;exact jl (λZ Z Z Z N q=>by with_reducible exact PyProof.Rows.ge_int q) h
def mU{a b:Ot}(N:a.toList.map Br=x)(R:b.toList.map Br=y):(a.toList==b.toList)=(x==y):=by rw[HD,beq_iff_eq,beq_iff_eq,<-N,<-R];exact⟨λh=>M7 _ h,λh=>M7 Fy (Hj.mp ((MD (λZ Z e=>Jz.mp e)).mp h))⟩
def afn(h:Xs op x y σ c):OT B n op (W x) (W y) σ c:=by
 cases op<;>first|exact Bw h|skip
 all_goals refine cM (λs Z Z I X=>I.dn (C:=λv=>N4 _ v _ _) λb t R Z=>X.dn (C:=λu=>N4 _ _ u _) λb' t' N Z A s Q' q=>?_) h
 ·with_reducible refine PySem.W.eq_bytes ?_
  rw[mU R N];exact q
 with_reducible refine PySem.W.ne_bytes ?_
 rw[bne,mU R N];exact q
def afo(h:Xs op x y σ c):OT B n op (B9 x) (B9 y) σ c:=by
 cases op<;>first|exact Bw h|skip
 all_goals refine cM (λs Z Z I X=>I.u7 (C:=λv=>N4 _ v _ _) λb t R Z=>X.u7 (C:=λu=>N4 _ _ u _) λb' t' N Z A s Q' q=>?_) h
 ·with_reducible refine PyProof.Rows.eq_str ?_
  rw[<-Ji,R,N];exact q
 with_reducible refine PyProof.Rows.ne_str ?_
 rw[bne,<-Ji,R,N];exact q
def t5{s:Wd B}{R:AM}(I:Rd s R z)(h:Wu z=U d):(R=AL/\d=J)\/(R≠AL/\d=Am):=by
 have N:=aq.inv I
 cases z<;>first|exact aa h|skip
 exact Aw ⟨N,(Af h).symm⟩
 all_goals refine AN ⟨λe=>?_,(Af h).symm⟩;subst e
 exact nomatch N;exact N.elim λZ e=>nomatch e;exact N.elim λZ e=>e.elim λZ e=>nomatch e.1;exact N.elim λZ e=>e.elim λZ e=>nomatch e.1;exact nomatch N;exact N.elim λZ e=>e.elim λZ e=>e.elim λZ e=>nomatch e.1;exact N.elim λZ e=>e.elim λZ e=>e.elim λZ e=>nomatch e.1;exact N.elim λZ e=>e.elim λZ e=>e.elim λZ e=>nomatch e.1;exact N.elim λZ e=>e.elim λZ e=>e.elim λZ e=>e.elim λZ e=>nomatch e.1
def ad2(h:Wu z=U d)(q:c d σ):OT B n .Is z A5 σ c:=cM (λs Z Z I R=>R.mB (C:=λu=>N4 .Is _ u d) λA s' X q=>by
 rcases t5 I h with⟨rfl,rfl⟩|⟨N,rfl⟩
 with_reducible exact PyProof.Rows.is_none_none q
 with_reducible exact PyProof.Rows.is_none_ne N q) q
def vG(h:Wu z=U d)(q:c (!d) σ):OT B n .IsNot z A5 σ c:=cM (λs Z Z I R=>R.mB (C:=λu=>N4 .IsNot _ u (!d)) λA s' X q=>by
 rcases t5 I h with⟨rfl,rfl⟩|⟨N,rfl⟩
 exact PyProof.Rows.isnot_none_none q;exact PyProof.Rows.isnot_none_ne N q) q
set_option tactic.hygienic true in
def yi{s:Wd B}{v:AM}{z:V}{d:Bool}{A:CP}{P:Bool->AZ->Prop}(N:Rd s v z)(h:Oz z=U d)(q:P d s.sh):wpAny B.M A (JB v) P PI s.sh:=by
 cases z<;>first|exact aa h|skip
 exact N.mB (C:=λv=>wpAny B.M A (JB v) P PI s.sh)<|agZ (a:=Am)<|Af h▸q
 exact N.mA (C:=λv=>wpAny B.M A (JB v) P PI s.sh)<|agZ<|Af h▸q
 refine N.l9 (C:=λv=>wpAny B.M A (JB v) P PI s.sh) λt=>?_
 with_reducible refine up (PyProof.Rows.truthy_int ?_)
 rename_i i
 rw[show(i !=0)=decide (i≠0)from(decide_not ..).symm];exact Af h▸q
end
namespace Fa
def eF:Ii "bytes" "strip" "bytes.strip":=
 .of (owner:="bytes") (n:="strip") (by rw[BJ,Bb];kernel_rfl) aY aY aY (.inr aY) (by rw[CB];kernel_rfl)
def iC:DI table "bytes.strip"=U Builtin.«bytes.strip»:=by first|exact Cp (by kernel_rfl)|exact Cq (by kernel_rfl)
def jm:GY (AK "bytes.strip")=AJ (An "method_descriptor"):=by show Fc _=_;rw[C7];kernel_rfl
def dX:Ii "bytes" "lstrip" "bytes.lstrip":=
 .of (owner:="bytes") (n:="lstrip") (by rw[BJ,Bb];kernel_rfl) aY aY aY (.inr aY) (by rw[CB];kernel_rfl)
def gX:DI table "bytes.lstrip"=U Builtin.«bytes.lstrip»:=by first|exact Cp (by kernel_rfl)|exact Cq (by kernel_rfl)
def iD:GY (AK "bytes.lstrip")=AJ (An "method_descriptor"):=by show Fc _=_;rw[C7];kernel_rfl
def dY:Ii "bytes" "rstrip" "bytes.rstrip":=
 .of (owner:="bytes") (n:="rstrip") (by rw[BJ,Bb];kernel_rfl) aY aY aY (.inr aY) (by rw[CB];kernel_rfl)
def gY:DI table "bytes.rstrip"=U Builtin.«bytes.rstrip»:=by first|exact Cp (by kernel_rfl)|exact Cq (by kernel_rfl)
def iE:GY (AK "bytes.rstrip")=AJ (An "method_descriptor"):=by show Fc _=_;rw[C7];kernel_rfl
def eG:Ii "bytes" "split" "bytes.split":=
 .of (owner:="bytes") (n:="split") (by rw[BJ,Bb];kernel_rfl) aY aY aY (.inr aY) (by rw[CB];kernel_rfl)
def iF:DI table "bytes.split"=U Builtin.«bytes.split»:=by first|exact Cp (by kernel_rfl)|exact Cq (by kernel_rfl)
def jn:GY (AK "bytes.split")=AJ (An "method_descriptor"):=by show Fc _=_;rw[C7];kernel_rfl
def fF:Ii "bytes" "join" "bytes.join":=
 .of (owner:="bytes") (n:="join") (by rw[BJ,Bb];kernel_rfl) aY aY aY (.inr aY) (by rw[CB];kernel_rfl)
def jo:DI table "bytes.join"=U Builtin.«bytes.join»:=by first|exact Cp (by kernel_rfl)|exact Cq (by kernel_rfl)
def j7:GY (AK "bytes.join")=AJ (An "method_descriptor"):=by show Fc _=_;rw[C7];kernel_rfl
def fG:Ii "bytes" "find" "bytes.find":=
 .of (owner:="bytes") (n:="find") (by rw[BJ,Bb];kernel_rfl) aY aY aY (.inr aY) (by rw[CB];kernel_rfl)
def jq:DI table "bytes.find"=U Builtin.«bytes.find»:=by first|exact Cp (by kernel_rfl)|exact Cq (by kernel_rfl)
def j8:GY (AK "bytes.find")=AJ (An "method_descriptor"):=by show Fc _=_;rw[C7];kernel_rfl
def dz:Ii "bytes" "replace" "bytes.replace":=
 .of (owner:="bytes") (n:="replace") (by rw[BJ,Bb];kernel_rfl) aY aY aY (.inr aY) (by rw[CB];kernel_rfl)
def gH:DI table "bytes.replace"=U Builtin.«bytes.replace»:=by first|exact Cp (by kernel_rfl)|exact Cq (by kernel_rfl)
def gZ:GY (AK "bytes.replace")=AJ (An "method_descriptor"):=by show Fc _=_;rw[C7];kernel_rfl
def cD:Ii "bytearray" "append" "bytearray.append":=
 .of (owner:="bytearray") (n:="append") (by rw[BJ,Bb];kernel_rfl) aY aY aY (.inr aY) (by rw[CB];kernel_rfl)
def fq:DI table "bytearray.append"=U Builtin.«bytearray.append»:=by first|exact Cp (by kernel_rfl)|exact Cq (by kernel_rfl)
def fJ:GY (AK "bytearray.append")=AJ (An "method_descriptor"):=by show Fc _=_;rw[C7];kernel_rfl
def cE:Ii "bytearray" "extend" "bytearray.extend":=
 .of (owner:="bytearray") (n:="extend") (by rw[BJ,Bb];kernel_rfl) aY aY aY (.inr aY) (by rw[CB];kernel_rfl)
def fs:DI table "bytearray.extend"=U Builtin.«bytearray.extend»:=by first|exact Cp (by kernel_rfl)|exact Cq (by kernel_rfl)
def fK:GY (AK "bytearray.extend")=AJ (An "method_descriptor"):=by show Fc _=_;rw[C7];kernel_rfl
def fY:Ii "bytearray" "__len__" "bytearray.__len__":=
 .of (owner:="bytearray") (n:="__len__") (by rw[BJ,Bb];kernel_rfl) aY aY aY (.inl aY) (by rw[CB];kernel_rfl)
def fM:DI table "bytearray.__len__"=U Builtin.«bytearray.__len__»:=by first|exact Cp (by kernel_rfl)|exact Cq (by kernel_rfl)
def b8:Ii "bytearray" "__getitem__" "bytearray.__getitem__":=
 .of (owner:="bytearray") (n:="__getitem__") (by rw[BJ,Bb];kernel_rfl) aY aY aY (.inl aY) (by rw[CB];kernel_rfl)
def dR:DI table "bytearray.__getitem__"=U Builtin.«bytearray.__getitem__»:=by first|exact Cp (by kernel_rfl)|exact Cq (by kernel_rfl)
def fH:PlainAttrs "bytearray":=⟨⟨"bytearray.__getattribute__",by rw[BJ,Bb];kernel_rfl,by decide+kernel⟩,by rw[BJ,Bb];kernel_rfl⟩
def bH:Manifest.owners.lookup (String.ofList ['y','a','r','r','a','e','t','y','b'].reverse)=U Manifest.sig_bytearray:=by kernel_rfl
def g6(a b:AM):DM "bytes.strip" ⟨[a,b],[]⟩:=by delta DM;rw[Dc (id:="bytes.strip") (n:=['p','i','r','t','s']) (o:=['s','e','t','y','b']) (by kernel_rfl) Ep];kernel_rfl
def gJ(a b:AM):DM "bytes.lstrip" ⟨[a,b],[]⟩:=by delta DM;rw[Dc (id:="bytes.lstrip") (n:=['p','i','r','t','s','l']) (o:=['s','e','t','y','b']) (by kernel_rfl) Ep];kernel_rfl
def gK(a b:AM):DM "bytes.rstrip" ⟨[a,b],[]⟩:=by delta DM;rw[Dc (id:="bytes.rstrip") (n:=['p','i','r','t','s','r']) (o:=['s','e','t','y','b']) (by kernel_rfl) Ep];kernel_rfl
def g7(a b:AM):DM "bytes.split" ⟨[a,b],[]⟩:=by delta DM;rw[Dc (id:="bytes.split") (n:=['t','i','l','p','s']) (o:=['s','e','t','y','b']) (by kernel_rfl) Ep];kernel_rfl
def iG(a b:AM):DM "bytes.join" ⟨[a,b],[]⟩:=by delta DM;rw[Dc (id:="bytes.join") (n:=['n','i','o','j']) (o:=['s','e','t','y','b']) (by kernel_rfl) Ep];kernel_rfl
def iH(a b c:AM):DM "bytes.find" ⟨[a,b,c],[]⟩:=by delta DM;rw[Dc (id:="bytes.find") (n:=['d','n','i','f']) (o:=['s','e','t','y','b']) (by kernel_rfl) Ep];kernel_rfl
def fZ(a b c:AM):DM "bytes.replace" ⟨[a,b,c],[]⟩:=by delta DM;rw[Dc (id:="bytes.replace") (n:=['e','c','a','l','p','e','r']) (o:=['s','e','t','y','b']) (by kernel_rfl) Ep];kernel_rfl
def eH(a b:AM):DM "bytearray.append" ⟨[a,b],[]⟩:=by delta DM;rw[Dc (id:="bytearray.append") (n:=['d','n','e','p','p','a']) (o:=['y','a','r','r','a','e','t','y','b']) (by kernel_rfl) bH];kernel_rfl
def eI(a b:AM):DM "bytearray.extend" ⟨[a,b],[]⟩:=by delta DM;rw[Dc (id:="bytearray.extend") (n:=['d','n','e','t','x','e']) (o:=['y','a','r','r','a','e','t','y','b']) (by kernel_rfl) bH];kernel_rfl
def f6(a:AM):DM "bytearray.__len__" ⟨[a],[]⟩:=by delta DM;rw[Dc (id:="bytearray.__len__") (n:=['_','_','n','e','l','_','_']) (o:=['y','a','r','r','a','e','t','y','b']) (by kernel_rfl) bH];kernel_rfl
def eg(a b:AM):DM "bytearray.__getitem__" ⟨[a,b],[]⟩:=by delta DM;rw[Dc (id:="bytearray.__getitem__") (n:=['_','_','m','e','t','i','t','e','g','_','_']) (o:=['y','a','r','r','a','e','t','y','b']) (by kernel_rfl) bH];kernel_rfl
end Fa
section
variable{n:Nat}{σ:M5}{x:Wd B}{Q:KE}
def eJ{A:CP}(N:ef (n+1) A):ef n A.in1:=
 ⟨N.handled,N.guards,Al (AU (A2 2 (B4 n)) _) N.depth,Al (by rw[Bf];exact AU (by rw[FV,Bk];exact AU ae _) _) N.units⟩
def cF{T:String}{name:Str}{id:String}{b:LA}{N:AM}{rest:LVal}{R:AM->Wd B->Prop}(X:Ii T name id)(hT:x.sh.TypeIs N T)(hb:DI table id=U b)
  (hd:CO.contains id=Am) (ha:DM id ⟨N::rest,[]⟩) (h:Wp n noOwn (b ⟨N::rest,[]⟩) (λI y=>∃v,I=CN (Cr v)/\R v y) x):Wp (n+1) noOwn (call (AK id) (N::rest) []) R x:=λA rm=>by
 refine aha<|ag9 (Fu X.plain _) hb hd<|up<|X.check _ _ _ _ _ _ _ _ hT ha ?_
 rw[DH X.plain]
 exact ag1 (h A.in1 (eJ rm)) (λI s' q=>aP.casesOn q λy a l C=>by obtain⟨v,rfl,q2⟩:=C;exact .mk y a l q2) λZ Z f=>f.elim
inductive Ty (T:String) (x:Wd B) (v:AM):Prop
 |mk:x.sh.TypeIs v T->(∀a,v=Ai a->∃o,x.get? a=U o/\o.dict=Y)->Ty T x v
def Ty.is{T:String}{v:AM}(h:Ty T x v):x.sh.TypeIs v T:=Ty.casesOn h λa Z=>a
def Ty.at_{T:String}{a:AG}{o:Obj}(e:x.get? a=U o)(R:o.cls=An T)(N:o.dict=Y):Ty T x (Ai a):=.mk ⟨o,e,R⟩ λb q=>by cases q;exact⟨o,e,N⟩
def ag8(h:Rd x v (W b)):Ty "bytes" x v:=h.dn λZ Z Z Z=>.mk H λZ e=>nomatch e
def ahR(h:Rd x v (B9 b)):Ty "str" x v:=h.u7 λZ Z Z Z=>.mk H λZ e=>nomatch e
def ahq(h:Rd x v o)(e:SF x.σ o=U l):Ty "list" x v:=WY.casesOn (fT h e) λa N n e g Z Z=>e▸Ty.at_ g H H
def ahC(h:Rd x v o)(e:VX x.σ o=U l):Ty "dict" x v:=vc.casesOn (kH h e) λa N n e g Z Z Z=>e▸Ty.at_ g H H
def kU(h:Rd x v (Bg l)):Ty "tuple" x v:=h.xb λZ Z Z e Z Z Z=>Ty.at_ e H H
def kj(h:Rd x v (Av a))(e:x.σ a=U (CF b)):Ty "bytearray" x v:=h.ae8 ((x.ok.objs a _ e).elim λu q=>Ty.at_ q.1 H H)
def bD{o:V}{T:String}{m k:Nat}{id:String}{P:Goes->Prop}(y:PlainAttrs T)(slot:Ii T (mt m) id)(N:GY (AK id)=AJ (An "method_descriptor"))(hk:Pe[k]?=U (AK id))
  (I:∀s v,s.σ=σ->Rd s v o->Ty T s v) (q:P (Ec k)):MethW B n o m σ P:=
 ⟨Ec k,AK id,hk,fP (λZ e=>nomatch e),q,λs v pl e C A Z=>Ty.casesOn (I s v e C) λX R=>by
  have R:∀a,v=Ai a->∃o,s.sh.heap.get? a=U o/\o.dict=Y:=R
  with_reducible refine up (getMethod_builtin X y slot N R ?_)
  exact .mk s H (LE.refl _) ⟨H,H⟩⟩
variable{b:M6}{o:V}{l:LV}{d:NW}{a:AG}{P:Goes->Prop}
def ahr(q:P (Ec 15)):MethW B n (W b) 15 σ P:=bD DY Fa.eF Fa.jm H (λs v e N=>ag8 N) q
def ah0(q:P (Ec 16)):MethW B n (W b) 43 σ P:=bD DY Fa.dX Fa.iD H (λs v e N=>ag8 N) q
def ahh(q:P (Ec 17)):MethW B n (W b) 10 σ P:=bD DY Fa.dY Fa.iE H (λs v e N=>ag8 N) q
def ahz(q:P (Ec 18)):MethW B n (W b) 13 σ P:=bD DY Fa.eG Fa.jn H (λs v e N=>ag8 N) q
def ck(q:P (Ec 19)):MethW B n (W b) 1 σ P:=bD DY Fa.fF Fa.j7 H (λs v e N=>ag8 N) q
def ah1(q:P (Ec 20)):MethW B n (W b) 21 σ P:=bD DY Fa.fG Fa.j8 H (λs v e N=>ag8 N) q
def ahW(q:P (Ec 21)):MethW B n (W b) 42 σ P:=bD DY Fa.dz Fa.gZ H (λs v e N=>ag8 N) q
def yj(q:P (Ec 22)):MethW B n (B9 b) 13 σ P:=bD KO Fp PySem.F.type_str_split H (λs v e N=>ahR N) q
def abh(q:P (Ec 23)):MethW B n (B9 b) 21 σ P:=bD KO PySem.F.slot_str_find PySem.F.type_str_find H (λs v e N=>ahR N) q
def aK(h:SF σ o=U l)(q:P (Ec 24)):MethW B n o 0 σ P:=bD Kj PySem.F.slot_list_append PySem.F.type_list_append H (λs v e N=>ahq N (e▸h)) q
def p7(h:SF σ o=U l)(q:P (Ec 25)):MethW B n o 6 σ P:=bD Kj K7 PySem.F.type_list_pop H (λs v e N=>ahq N (e▸h)) q
def eK(h:VX σ o=U d)(q:P (Ec 26)):MethW B n o 4 σ P:=bD Kk K9 PySem.F.type_dict_get H (λs v e N=>ahC N (e▸h)) q
def yk(h:VX σ o=U d)(q:P (Ec 27)):MethW B n o 41 σ P:=bD Kk Ke PySem.F.type_dict_update H (λs v e N=>ahC N (e▸h)) q
def eM(h:σ a=U (CF b))(q:P (Ec 28)):MethW B n (Av a) 0 σ P:=bD Fa.fH Fa.cD Fa.fJ H (λs v e N=>kj N (e▸h)) q
def jr(h:σ a=U (CF b))(q:P (Ec 29)):MethW B n (Av a) 39 σ P:=bD Fa.fH Fa.cE Fa.fK H (λs v e N=>kj N (e▸h)) q
end
section
variable{n:Nat}{x y:Wd B}{σ:M5}{Q:KE}{vs:LVal}{l:LV}{z o:V}
def g8(h:k<=Nh):(k:Int)<2^63:=BN.mpr (Al h (show Nh<2^63 by decide))
def Nq.size(h:Nq x vs l):vs.toArray.size=l.length:=h.length
def Nq.kW{k:Nat}(h:Nq x vs l)(e:l[k]?=U z):∃v,vs.toArray[k]?=U v/\Rd x v z:=(h.get e).imp λv q=>⟨(DC ..).trans q.1,q.2⟩
def Nq.drop(h:Nq x vs l)(k:Nat):Nq x (vs.drop k) (l.drop k):=by
 induction k generalizing vs l with
 |zero=>exact h
 |succ k N=>cases l with
  |nil=>exact h.e0 (CL:=λvs=>Nq x (vs.drop (k+1)) []) Nq.nil
  |cons z l=>exact h.dp (CL:=λvs=>Nq x (vs.drop (k+1)) (l.drop k)) λZ Z Z r=>N r
def Nq.take(h:Nq x vs l)(k:Nat):Nq x (vs.take k) (l.take k):=by
 induction k generalizing vs l with
 |zero=>exact Nq.nil
 |succ k N=>cases l with
  |nil=>exact h.e0 (CL:=λvs=>Nq x (vs.take (k+1)) []) Nq.nil
  |cons z l=>exact h.dp (CL:=λvs=>Nq x (vs.take (k+1)) (z::l.take k)) λZ Z a r=>Nq.cons a (N r)
def Nq.set(N:Rd x u z)(k:Nat)(h:Nq x vs l):Nq x (vs.set k u) (l.set k z):=by
 induction l generalizing vs k with
 |nil=>exact h.e0 (CL:=λvs=>Nq x (vs.set k u) []) Nq.nil
 |cons y l R=>
  refine h.dp (CL:=λvs=>Nq x (vs.set k u) ((y::l).set k z)) λZ Z a r=>?_
  cases k with
  |zero=>exact Nq.cons N r
  |succ k=>exact Nq.cons a (R k r)
def Nq.reverse(h:Nq x vs l):Nq x vs.reverse l.reverse:=by
 induction l generalizing vs with
 |nil=>exact h.e0 (CL:=λvs=>Nq x vs.reverse []) Nq.nil
 |cons y l N=>refine h.dp (CL:=λvs=>Nq x vs.reverse (y::l).reverse) λZ Z a r=>?_;rw[BF,BF];exact Nq.append (N r) (Nq.cons a Nq.nil)
def NP{α:Type}(l:List α)(lo hi:Option Int):List α:=(l.drop (lo.elim 0 (HU l.length))).take (hi.elim l.length (HU l.length)-lo.elim 0 (HU l.length))
def iI{I:Type}(l:List I)(R N:Option Int):(NP l R N).length<=l.length:=Aa (HQ ..) (by rw[Cz];exact GR ..)
def vH{I β:Type}(f:I->β)(l:List I)(R N:Option Int):(NP l R N).map f=NP (l.map f) R N:=by delta NP;rw[Iq,Ld,Ak]
def Nq.pick(h:Nq x vs l)(R N:Option Int):Nq x (NP vs R N) (NP l R N):=by delta NP;rw[h.length];exact(h.drop _).take _
def TA:V->Option (Option Int)
 |.none=>U Y
 |.int i=>U (U i)
 |_=>Y
def cp(N:Rd x v z)(hp:TA z=U p):IsPart v p:=by
 cases z<;>first|exact aa hp|skip
 exact N.mB (C:=λv=>IsPart v p)<|Af hp▸.none
 exact N.l9 (C:=λv=>IsPart v p) λt=>Af hp▸.int _ _
def gip{T id:String}(N:x.sh.TypeIs v T)(I:D9 (An T) "__getitem__"=AJ (U (AK id))){R:Bool->Wd B->Prop}(q:R Am x):Wp n noOwn (FD v) R x:=by delta FD;exact Wp.b6 (λA P q=>by with_reducible exact up (Bj N I q))<|Wp.pure q
def iJ{T id:String}{name:Str}{args:LVal}{R:Option AM->Wd B->Prop}(I:x.sh.TypeIs N T)(slot:Ii T name id)(h:Wp n noOwn (call (AK id) (N::args) []) (λv y=>R (U v) y) x):Wp n noOwn (Fh N name args) R x:=by
 delta Fh;refine Wp.b6 (λA P q=>up (Bj I slot.lookup q))<|Wp.holding ?_
 rw[slot.bind];exact Wp.mE<|Wp.bind h λv y Z q=>Wp.pure q
def p8{T id:String}(N:x.sh.TypeIs v T)(I:seqItemTypes.contains T=Am)(slot:Ii T "__getitem__" id)(h:Wv n (call (AK id) [v,u] []) Q x):Wv n (IX v u) Q x:=by delta IX;exact Wp.holding<|Wp.b6 (λA P q=>up (wpAny_sequenceKey N I q))<|Wp.bind (iJ (R:=λr y=>∃v,r=U v/\dS Q v y) N slot (Wp.mono h λv y Z q=>⟨v,H,q⟩)) λr y Z q=>q.elim λv q=>q.1▸Wp.pure q.2
def p9{T id:String}{R:Unit->Wd B->Prop}(N:x.sh.TypeIs v T)(I:seqItemTypes.contains T=Am)(slot:Ii T "__setitem__" id)(h:Wp n noOwn (call (AK id) [v,u,w] []) (λZ y=>R () y) x):Wp n noOwn (setItem v u w) R x:=by delta setItem;exact Wp.holding<|Wp.b6 (λA P q=>up (wpAny_sequenceKey N I q))<|Wp.bind (iJ (R:=λr y=>∃v,r=U v/\R () y) N slot (Wp.mono h λv y Z q=>⟨v,H,q⟩)) λr y Z q=>q.elim λv q=>q.1▸Wp.pure q.2
def kl(N:Rd x v z)(q:Q z x.σ):aP noOwn x (dS Q) v x.sh:=.mk x H (LE.refl _) (.mk z N q)
def ah{i:Nat}(C:SF σ o=U l)(X:l[i]?=U z)(q:Q z σ):Rg B n o (Ar (G i)) σ Q:=λs v u e I hu=>by
 subst e;obtain⟨b,vs,m,rfl,e,N,hs⟩:=fT I C;obtain⟨t,rfl⟩:=aq.inv hu;obtain⟨w,R,hr⟩:=hs.kW X;refine gip ((ahq I C).is) EO.lookup ⟨H,λA Z=>?_⟩;have hL:s.sh.heap.IsList b vs.toArray:=⟨_,e,H,m,H⟩;have h0:0<=G i:=AW i;have hf:G i<2^63:=g8 (Aa (B3 ((BI.mp X).1)) N);have R:vs.toArray[(G i).toNat]?=U w:=R
 with_reducible refine up (wpAny_getItem_list hL h0 hf R ?_)
 exact kl hr q
def bE{i:Nat}(ho:SF σ o=U l)(h0:k<0)(X: -(l.length:Int)<=k)(hi:(k+l.length).toNat=i)(hx:l[i]?=U z)(q:Q z σ):Rg B n o (Ar k) σ Q:=λs v u e C hu=>by
 subst e;obtain⟨b,vs,m,rfl,e,R,I⟩:=fT C ho;obtain⟨t,rfl⟩:=aq.inv hu;subst hi;obtain⟨w,hw,hr⟩:=I.kW hx;have N:(vs.toArray.size:Int)=l.length:=M7 G I.size;refine gip ((ahq C ho).is) EO.lookup ⟨H,λA Z=>?_⟩;have hL:s.sh.heap.IsList b vs.toArray:=⟨_,e,H,m,H⟩
 with_reducible refine up (wpAny_getItem_list_neg hL h0 (by rw[N];exact X) (Bv (KX (FW (g8 R))) X) (by rw[N];exact hw) ?_)
 exact kl hr q
def abi{i:Nat}(hx:l[i]?=U z)(q:Q z σ):Rg B n (Bg l) (Ar (G i)) σ Q:=λs v u e C hu=>by
 subst e;obtain⟨b,vs,m,rfl,e,_,R,I⟩:=aq.inv C;obtain⟨t,rfl⟩:=aq.inv hu;have I:Nq s vs l:=I;obtain⟨w,hw,hr⟩:=I.kW hx;refine gip ((kU C).is) EI.lookup ⟨H,λA Z=>?_⟩;have N:=(BI.mp hx).1;have hf:G i<2^63:=g8 (Aa (B3 N) R);have X:0<=G i:=AW i;have hI:s.sh.heap.get? b=U {cls:=An "tuple",dict:=Y,data:=El vs.toArray m,slots:= #[]}:=e
 with_reducible refine up (PySem.P.getItem_tuple hI (Bv aG X: -(2^63)<=G i) hf ?_ hw ?_)
 ·have h1:G i<vs.toArray.size:=by rw[I.size];exact BN.mpr N
  delta seqIndex?;rw[Np (CI.mpr X)];exact Nt<|Ah.mpr ⟨N5 X,N5 h1⟩
 exact kl hr q
def vI(I:b[i]?=U c)(q:Q (Ar (G c)) σ):Rg B n (W b) (Ar (G i)) σ Q:=λs v u e X hu=>by
 subst e;obtain⟨R,t,rfl,e,m⟩:=aq.inv X;obtain⟨C,rfl⟩:=aq.inv hu;refine gip ((ag8 X).is) EK.lookup ⟨H,λA Z=>?_⟩;have N:R.toList.length=b.length:=by rw[<-e,Ak]
 have hg:((R.toList.getD i 0).toNat:Int)=c:=by rw[<-e,BR]at I;obtain⟨y,hy,e2⟩:=A4.mp I;rw[GK,hy];exact M7 G e2
 have:=PySem.W.getItem_bytes (prog:=B.prog) (w:=B.w) (A:=A) (E:=PI) (s:=s.sh) (l:=R.toList) (t:=t) (u:=C) (i:=i) (Q:=aP noOwn s (dS Q)) (by rw[N];have:Nh=16777216:=H;exact ax (Ao m (Ap this)) aS) (AW i) (by rw[N];exact BN.mpr ((BI.mp I).1))
  (by rw[EL,hg];exact ahg q)
 exact up this
end
section
open PySem.Builtin PySem.W.KBy
def kX(u:Ot):Bytes.sliced u ((u.size:Int)-1) (-1) (-1)=u.toList.reverse.toArray:=by delta Bytes.sliced;rw[krv_sliceRange,krv_range,List.filterMap_reverse,krv_all]
def kY(d:AG)(u:Ot)(a:AG)(Q:Tok):
  Meets («bytearray.__getitem__» ⟨[Ai d,Ai a],[]⟩) (λZ R s=>s.heap.get? d=U {cls:=An "bytearray",data:=B7 u 0}/\s.heap.IsSliceOf a AL AL (By (-1) Q)/\u.size<=Eu/\R (CT (Cr (Ai s.heap.objs.size))) {s with heap:=s.heap.push {cls:=An "bytearray",data:=B7 u.toList.reverse.toArray 0}}):=by
 refine GW λC w A R s hS=>?_;obtain⟨hb,⟨o,N,q,X⟩,I,h⟩:=hS;have y:s.TypeIs (Ai a) "slice":=⟨o,N,q⟩;show AB _ _ (Bytes.subscript? (Ai a)>>=λr=>_) _ _ s;refine Ab ?_;delta Bytes.subscript?;refine Ab<|Bj y slice_no_index<|Aj<|Ab<|C8 y ?_
 show AB _ _ (Bytes.sliceParts (Ai a)>>=λr=>_) _ _ s;refine Ab ?_;delta Bytes.sliceParts;refine Ab<|Cd (x:=By (-1) Q) N X H ?_
 kby_int
 refine Gn<|KH (show¬((GP (-1)==GP 0)=J) by decide) ?_
 refine Ab<|Cd (x:=AL) N X H ?_
 kby_none
 refine Ab<|Cd (x:=AL) N X H ?_
 kby_none
 refine Aj ?_;show AB _ _ (Bytes.payload (Ai d)>>=λr=>_) _ _ s;refine Ab ?_;delta Bytes.payload Bytes.payload?;refine Ab<|Ab<|CY hb<|Aj<|Aj<|Ab<|AI (sliceIndices_raw Y Y (U (-1)) u.size aG) ?_
 rw[krv_bounds];show AB _ _ (Bytes.newBytearray (Bytes.sliced u ((u.size:Int)-1) (-1) (-1))>>=_) _ _ s;rw[kX];delta Bytes.newBytearray;refine Ab<|Cf (Aj ⟨_,H,h⟩) ?_
 show u.toList.reverse.toArray.size<=Eu
 simpa using I
end
section
variable{n:Nat}{x y:Wd B}{σ:M5}{Q:KE}{vs:LVal}{l m:LV}{z o lo hi st:V}{b c:M6}{a:AG}{p q:Option Int}
def bc(h:k<=Nh):k<=sizeLine:=by rw[EF];exact Aa h ae
def si{T id:String}(X:∀(s:Wd B) v,s.σ=σ->Rd s v o->s.sh.TypeIs v T)(hl:D9 (An T) "__getitem__"=AJ (U (AK id)))
  (h:∀(s:Wd B) v sl l h t,s.σ=σ->Rd s v o->s.sh.heap.IsSliceOf sl l h t->Rd s l lo->Rd s h hi->Rd s t st->Wv n (IX v (Ai sl)) Q s):R4 B n o lo hi st σ Q:=λs v l h' t e R A C h3=>
 Wp.newFields (show 3<=100 by decide) λy N g I=>gip (X y v (N.trans e) (R.le g)) hl ⟨H,h y v _ _ _ _ (N.trans e) (R.le g) ⟨_,I,H,H⟩ (A.le g) (C.le g) (h3.le g)⟩
def cP(X:SF σ o=U l)(hp:TA lo=U p)(hq:TA hi=U q)(r:Sw σ (AA (NP l p q)) Q):R4 B n o lo hi A5 σ Q:=
 si (λs v e R=>(ahq R (e▸X)).is) EO.lookup λs v sl u1 u2 u3 e R hS h1 h2 h3 A Z=>by
  subst e;obtain⟨a,vs,m,rfl,e,N,I⟩:=fT R X;obtain rfl:u3=AL:=aq.inv h3;have C:s.sh.heap.IsList a vs.toArray:=⟨_,e,H,m,H⟩
  with_reducible refine up (Mj C hS (cp h1 hp) (cp h2 hq) .none (λh=>aa<|h) ?_ (I.arr N))
  rw[slicePick_plain];exact bW (I.pick p q) r
def iK(X:SF σ o=U l)(r:Sw σ (AA l.reverse) Q):R4 B n o A5 A5 (Ar (-1)) σ Q:=
 si (λs v e R=>(ahq R (e▸X)).is) EO.lookup λs v sl u1 C u3 e R hS h1 h2 h3 A Z=>by
  subst e;obtain⟨a,vs,m,rfl,e,N,I⟩:=fT R X;obtain rfl:u1=AL:=aq.inv h1;obtain rfl:C=AL:=aq.inv h2;have hL:s.sh.heap.IsList a vs.toArray:=⟨_,e,H,m,H⟩
  with_reducible refine up (Mj hL hS .none .none (cp h3 H) (λh=>nomatch h) ?_ (I.arr N))
  rw[krv_pick];exact bW I.reverse r
def aM(hp:TA lo=U p)(C:TA hi=U q)(r:Q (W (NP b p q)) σ):R4 B n (W b) lo hi A5 σ Q:=
 si (λs v e N=>(ag8 N).is) EK.lookup λs v sl u1 u2 R e N hS I h2 h3 A Z=>by
  subst e;obtain⟨u,t,rfl,e,m⟩:=aq.inv N;obtain rfl:R=AL:=aq.inv h3
  have X:(KBy.picked u p q).toList.map Br=NP b p q:=by
   rw[KBc.picked_eq,<-e,<-vH]
   rfl
  refine up<|HT (C5 _ _ _) H EK L9 (LL _ _) (KBc.meets_slice2 u t sl (cp I hp) (cp h2 C)) ⟨hS,?_,λt' k=>cj X (Aa (iI ..) m) r⟩
  exact bc<|Aa (KBc.size_picked_le u p q)<|(by rw[<-e,Ak];rfl:u.size=b.length)▸m
def nE(R:σ a=U (CF b))(r:∀d,σ d=Y->Q (Av d) (σ.set d (CF b.reverse))):R4 B n (Av a) A5 A5 (Ar (-1)) σ Q:=
 si (λs v e N=>(kj N (e▸R)).is) Fa.b8.lookup λs v sl C X u3 e N hS h1 h2 h3 A Z=>by
  subst e;obtain rfl:C=AL:=aq.inv h1;obtain rfl:X=AL:=aq.inv h2;obtain⟨I,rfl⟩:=aq.inv h3;obtain rfl:v=Ai a:=aq.inv N;obtain⟨u,e,q,m⟩:=s.ok.objs _ _ R;refine up<|HT ((kj N R).is) H Fa.b8 Fa.dR (Fa.eg _ _) (kY a u sl I) ⟨e,hS,bc ((by rw[<-q,Ak];rfl:u.size=b.length)▸m),?_⟩
  exact vb (by rw[<-q];exact DZ ..) (by rw[BH];exact m) r
def bf(h1:SF σ o=U l)(h2:SF σ z=U m)(hl:l.length+m.length<=Nh)(q:Sw σ (AA (l++m)) Q):R3 B n Gi o z σ Q:=λs v u e hv hu=>Wp.operate λA Z=>by
 subst e;obtain⟨a,vs,k,rfl,e,C,X⟩:=fT hv h1;obtain⟨b,us,k2,rfl,I,R,N⟩:=fT hu h2;have e:s.sh.heap.get? a=U {cls:=An "list",dict:=Y,data:=El vs.toArray k,slots:= #[]}:=e;have I:s.sh.heap.get? b=U {cls:=An "list",dict:=Y,data:=El us.toArray k2,slots:= #[]}:=I
 with_reducible refine up (PySem.P.add_list e I ?_ (by rw[X.size,N.size];exact bc hl))
 rw[Mt];exact bW (X.append N) q
def qa(hl:l.length+m.length<=Nh)(q:Q (Bg (l++m)) σ):R3 B n Gi (Bg l) (Bg m) σ Q:=λs v u e hv hu=>Wp.operate λA Z=>by
 subst e;have ha:=(kU hv).is;have hb:=(kU hu).is;obtain⟨a,vs,k,rfl,e,f,hlen,X⟩:=aq.inv hv;obtain⟨b,I,k2,rfl,C,f2,hlen2,N⟩:=aq.inv hu;have X:Nq s vs l:=X;have N:Nq s I m:=N;have tk:∀{w} {z} {t},Rd s w z->Q z s.σ->aP noOwn s (dS Q) w {s.sh with toks:=t}:=λ{w z t} r q=>.mk (s.toks t) H (Wd.bL t) (.mk z (r.toks) q)
 cases vs with
 |nil=>have R:l=[]:=Cy.mp X.length.symm;subst R;exact up<|Ml ha hb noFill_tuple_add seq_tuple_add KJ Km (Kf _ _) (AutoSeq1.tuple___add___tuple_tuple_0 a _ k b I.toArray k2 H) ⟨e,C,tk hu q⟩
 |cons v0 vs=>
  cases I with
  |nil=>have R:m=[]:=Cy.mp N.length.symm;subst R;rw[Ax]at q;exact up<|Ml ha hb noFill_tuple_add seq_tuple_add KJ Km (Kf _ _) (AutoSeq1.tuple___add___tuple_tuple_1 a (v0::vs).toArray k b _ k2 Bh H) ⟨e,C,tk hv q⟩
  |cons u0 I=>
   have e:s.sh.heap.get? a=U {cls:=An "tuple",dict:=Y,data:=El (v0::vs).toArray k,slots:= #[]}:=e;have C:s.sh.heap.get? b=U {cls:=An "tuple",dict:=Y,data:=El (u0::I).toArray k2,slots:= #[]}:=C;have n1:¬(v0::vs).toArray.isEmpty=J:=Bh;have n2:¬(u0::I).toArray.isEmpty=J:=Bh
   with_reducible refine up (PySem.P.add_tuple e C n1 n2 ?_ (by rw[X.size,N.size];exact bc hl))
   rw[Mt];exact iu (X.append N) (by rw[Ad];exact hl) q
def mf{i:Int}(hb:b≠[])(h0: -1048576<=i)(X:i<=1048576)(C:b.length<=16)(q:Q (W (A8 i.toNat b).flatten) σ):R3 B n .Mult (W b) (Ar i) σ Q:=λs v u e hv hu=>Wp.operate λA Z=>by
 subst e;obtain⟨⟨R⟩,t,rfl,N,m⟩:=aq.inv hv;obtain⟨t2,rfl⟩:=aq.inv hu;have N:R.map Br=b:=N;have I:R≠[]:=λz=>by subst z;exact hb N.symm
 with_reducible refine up (bytes_mul_any I h0 X (by exact ax (Ao C (Ap (by rw[<-N,Ak]:R.length=b.length))) aS) λt' k=>?_)
 refine cj (by rw[<-N,Mp,List.map_flatten,IC]) ?_ q;rw[List.length_flatten,IC,List.sum_replicate_nat];exact Nat.mul_le_mul (E4.mpr X:i.toNat<=1048576) C
def yl(d:AG)(b:Ot):Meets (Builtin.«bytearray.__len__» ⟨[Ai d],[]⟩) (λZ R s=>s.heap.get? d=U {cls:=An "bytearray",data:=B7 b 0}/\R (CT (Cr (By b.size s.toks))) {s with toks:=s.toks+1}):=
 GW λN w A R s h=>by obtain⟨X,g,I,C,os⟩:=s;obtain⟨hl,h⟩:=h;wp_walk;exact⟨_,H,h⟩
def ym(d:AG)(C:(d==Ea)=Am)(I:List BY)(m:Nat):Meets (Builtin.«dict.__len__» ⟨[Ai d],[]⟩) (λZ R s=>s.heap.get? d=U (Dt I m)/\R (CT (Cr (By I.length s.toks))) {s with toks:=s.toks+1}):=
 GW λN w A R s ⟨X,h⟩=>by
  show AB _ _ (dictSize d>>=_) _ _ s;delta dictSize;refine Ab<|Ab<|Cu X H<|Aj ?_
  show AB _ _ (Builtin.Dict.pendingCount d>>=_) _ _ s;refine Ab<|wpAny_pendingCount_other C<|Lr ?_
  simpa using h
variable{k:V}{d:NW}
def W9(σ:M5):V->Option Nat
 |.ref a=>(σ a).bind λo=>match o with
  |.list l=>U l.length
  |.dict l=>U l.length
  |.rF l=>U l.length
  |_=>Y
 |z=>Wa z
def ad3{k:Nat}(h:k<=Nh):¬G k<0/\¬G k≥2^63:=⟨CI.mpr (AW k),IU.mpr (g8 h)⟩
def aE.snoc(N:aq P s u z)(h:aE P s vs l):aE P s (vs++[u]) (l++[z]):=by
 induction l generalizing vs with
 |nil=>obtain rfl:=aE.dQ h;exact aE.cons N aE.nil
 |cons y l R=>obtain⟨_,_,rfl,a,r⟩:=aE.inv h;exact aE.cons a (R r)
def aE.setAt(N:aq P s u z)(k:Nat)(h:aE P s vs l):aE P s (vs.set k u) (l.set k z):=by
 induction l generalizing vs k with
 |nil=>exact(aE.dQ h)▸aE.nil
 |cons y l R=>
  obtain⟨_,_,rfl,a,r⟩:=aE.inv h
  cases k with
  |zero=>exact aE.cons N r
  |succ k=>exact aE.cons a (R k r)
abbrev Ve(x:Wd B)(v:AM)(k:Nat):=∀A P,(∀t t',P (By (G k) t') {x.sh with toks:=t})->wpAny B.M A (call (AK "len") [v] []) P PI x.sh
def ahN(h:WY x l v):Ve x v l.length:=λA P q=>by
 obtain⟨a,vs,m,rfl,e,N,R⟩:=h;have I:x.sh.heap.IsList a vs.toArray:=⟨_,e,H,m,H⟩
 with_reducible refine up (PySem.Calls.call_len_list I (by rw[R.size];exact g8 N:(vs.toArray.size:Int)<2^63) ?_)
 rw[R.size];exact q _ _
def ahO(h:vc x d v):Ve x v d.length:=λA P q=>by
 obtain⟨a,I,m,rfl,e,N,hE,R⟩:=h;have C:x.sh.TypeIs (Ai a) "dict":=⟨_,e,H⟩;have X:(I.length:Int)=G d.length:=M7 G hE.length;have e:x.sh.heap.get? a=U (Dt I m):=e
 with_reducible refine up (call_len_meets C PySem.F.slot_dict_len PySem.F.entry_dict_len (PySem.F.args_dict_len_1 _) (ym a R I m) (ad3 N).1 (ad3 N).2 (λQ' hq=>⟨e,?_⟩) (q _ _))
 rw[X];exact hq
def yn(h:x.σ a=U (CF b)):Ve x (Ai a) b.length:=λA P q=>by
 obtain⟨u,e,X,N⟩:=x.ok.objs _ _ h;have R:(u.size:Int)=G b.length:=by rw[<-X,Ak];rfl
 have e:x.sh.heap.get? a=U {cls:=An "bytearray",data:=B7 u 0}:=e;have I:x.sh.TypeIs (Ai a) "bytearray":=⟨_,e,H⟩
 with_reducible refine up (call_len_meets I Fa.fY Fa.fM (Fa.f6 _) (yl a u) (CI.mpr (AW u.size)) (by rw[R];exact(ad3 N).2) (λQ' C=>⟨e,C⟩) ?_)
 rw[R];exact q _ _
def abj{k:Nat}(R:Rd x v o)(h:Wa o=U k):Ve x v k:=by
 cases o<;>first|exact aa h|skip
 all_goals obtain rfl:=Af h
 ·refine R.dn (C:=λv=>Ve x v _) λu t e m A P q=>?_;have hb:u.size=_:=aO (Ak ..) (M7 CH e);have I:u.size<=1099511627776:=by rw[hb];exact Aa m ae
  with_reducible refine up (PySem.W.len_bytes I ?_)
  rw[hb];exact q _ _
 ·refine R.xb (C:=λv=>Ve x v _) λa vs m e Z N X A P q=>?_;have I:¬(vs.toArray.size:Int)≥2^63:=by rw[X.size];exact IU.mpr (g8 N)
  have e:x.sh.heap.get? a=U {cls:=An "tuple",dict:=Y,data:=El vs.toArray m,slots:= #[]}:=e
  with_reducible refine up (PySem.P.len_tuple e I ?_)
  rw[X.size];exact q _ _
 exact ahN<|fT R H
 exact ahO<|kH R H
def ad4{k:Nat}(N:Rd x v o)(h:W9 x.σ o=U k):Ve x v k:=by
 cases o<;>first|exact abj N h|skip
 obtain⟨I,R,h⟩:=ag0 h
 cases I<;>first|exact aa h|skip
 all_goals obtain rfl:=Af h
 exact ahN<|fT N<|ai R
 exact ahO<|kH N<|ao R
 exact N.ae8 (C:=λv=>Ve x v _)<|yn R
def cQ{R:AM->Wd B->Prop}(N:Nq x vs [o])(h:∀v,Rd x v o->Wp n noOwn (call f [v] []) R x):Wp n noOwn (call f vs []) R x:=N.e1 (CL:=λvs=>Wp n noOwn (call f vs []) R x) h
def call2{R:AM->Wd B->Prop}(N:Nq x vs [o,z])(h:∀v u,Rd x v o->Rd x u z->Wp n noOwn (call f [v,u] []) R x):Wp n noOwn (call f vs []) R x:=N.e2 (CL:=λvs=>Wp n noOwn (call f vs []) R x) h
def yo{R:AM->Wd B->Prop}(N:Nq x vs [o,z,k])(h:∀v u w,Rd x v o->Rd x u z->Rd x w k->Wp n noOwn (call f [v,u,w] []) R x):Wp n noOwn (call f vs []) R x:=N.e3 (CL:=λvs=>Wp n noOwn (call f vs []) R x) h
def aQ{k:Nat}{f:AM}{args:LV}(N:Pe[k]?=U f)(h:Ny B n f args σ Q):Nr B n k args σ Q:=λg e=>(Af (aO N e))▸h
def b9{k:Nat}(h:W9 σ o=U k)(q:Q (Ar (G k)) σ):Nr B n 0 [o] σ Q:=aQ H λs vs e N=>cQ N λv R A Z=>by subst e;exact ad4 R h A _ λt I=>.mk (s.toks t) H (Wd.bL t)<|.mk _ (aq.int _ _) q
def av(X:σ a=U (AA l))(hl:l.length<Nh)(q:Q A5 (σ.set a (AA (l++[z])))):Nr B n 24 [Av a,z] σ Q:=aQ H λs vs e R=>call2 R λv u hv hu A Z=>by
 subst e;obtain rfl:v=Ai a:=aq.inv hv;obtain⟨vs,m,e,N,R⟩:=s.listAt X;refine ahf ⟨m,e⟩ (λh' hp hb=>hp.elim λI C=>?_)<|R.arr N
 exact aP.upd (o':=AA (l++[z])) X hb O.aB (λst=>⟨vs++[u],I,((G1 vs u)▸C:h'.get? a=U (listOf (vs++[u]).toArray I)),by rw[Ad];exact hl,aE.snoc (aq.az st hu) (aE.az st R)⟩) λy e l=>.mk A5 aq.none<|e▸q
def f7(ha:σ a=U (AA (l++[z])))(q:Q z (σ.set a (AA l))):Nr B n 25 [Av a] σ Q:=aQ H λs vs e X=>cQ X λv hv A Z=>by
 subst e;obtain rfl:v=Ai a:=aq.inv hv;obtain⟨vs,m,e,I,X⟩:=s.listAt ha;have R:vs.length=l.length+1:=X.length.trans (Ad ..);obtain⟨y,hy,hr⟩:=X.kW (by rw[CW (AH _),FU];rfl);have C:vs.toArray.size-1=l.length:=by rw[show vs.toArray.size=l.length+1 from R];rfl
 refine up (E9 K7 (⟨_,e,H⟩:s.sh.TypeIs (Ai a) "list") PySem.F.entry_list_pop (PySem.F.args_list_pop_1 _) (PySem.MeetsSeq.list_pop_last a vs.toArray m y (by rw[C];exact hy) (X.arr I)) ⟨e,?_⟩);rw[C]
 have N:∃m',IM (λxs=>xs.eraseIdxIfInBounds l.length) (listOf vs.toArray m)=listOf (vs.take l.length).toArray m':=by
  have:vs.toArray.eraseIdxIfInBounds l.length=(vs.take l.length).toArray:=by rw[Array.eraseIdxIfInBounds,dif_pos (by rw[show vs.toArray.size=l.length+1 from R];exact Bu _:l.length<vs.toArray.size),List.eraseIdx_toArray,List.eraseIdx_eq_take_drop_succ,Ds (Ap R),Ax]
  refine⟨if(vs.take l.length).toArray.size==vs.toArray.size then m else m+1,?_⟩;rw[<-this];rfl
 obtain⟨m',N⟩:=N
 have e2:(s.sh.heap.update a (IM λxs=>xs.eraseIdxIfInBounds l.length)).get? a=U (listOf (vs.take l.length).toArray m'):=by rw[<-N];exact Dz _ e (by rw[N];rfl)
 exact aP.upd (o':=AA l) ha (Dd s.sh.heap a _) O.aB (λst=>⟨vs.take l.length,m',e2,Aa (B4 _) (show l.length+1<=Nh by rw[<-R,X.length];exact I),aE.az st (by have:=X.take l.length;rwa [List.take_left']at this;rfl:Nq s (vs.take l.length) l)⟩) λy e lw=>.mk z (hr.le lw)<|e▸q
def nF{k:Int}{Q:M5->Prop}(ha:σ a=U (AA l))(h0:0<=k)(hi:k=G i)(hx:i<l.length)(q:Q (σ.set a (AA (l.set i z)))):RH B (n+1) (Av a) (Ar k) z σ Q:=λs v u w e hv hu hw=>by
 subst e;obtain rfl:v=Ai a:=aq.inv hv;obtain⟨t,rfl⟩:=aq.inv hu;obtain⟨vs,m,e,X,hs⟩:=s.listAt ha;have hT:s.sh.TypeIs (Ai a) "list":=⟨_,e,H⟩;have h1:k<2^63:=hi▸g8 (Aa (B3 hx) X);refine p9 hT H JX<|cF JX hT PySem.F.entry_list_setitem aY (PySem.F.args_list_setitem_3 _ _ _) λA Z=>up ?_
 show AB _ _ (Builtin.List.listSubscript? (By k t)>>=_) _ _ s.sh;refine Ab<|wpAny_listSubscript_int (fitsIndex_of h0 h1) ?_
 clear h0 h1;subst hi;show AB _ _ ((seqItemAt a i>>=λr=>AJ (r.map (i,·)))>>=_) _ _ s.sh;refine Ab<|Ab<|PySem.wpAny_seqItemAt e H<|Aj ?_
 rw[((DC ..).trans (AY _):vs.toArray[i]?=U (vs[i]'(hs.length▸hx)))];show AB _ _ (setSeqItemAt a i w>>=_) _ _ s.sh
 have N:∃C,IM (·.setIfInBounds i w) (listOf vs.toArray m)=listOf (vs.set i w).toArray C:=⟨_,by
  show listOf (vs.toArray.setIfInBounds i w) _=_;rw[List.setIfInBounds_toArray]⟩
 obtain⟨C,N⟩:=N
 have e2:(s.sh.heap.update a (IM (·.setIfInBounds i w))).get? a=U (listOf (vs.set i w).toArray C):=by rw[<-N];exact Dz _ e (by rw[N];rfl)
 have I:=aP.upd (x:=s) (R:=λI y=>∃v,I=CN (Cr v)/\Q y.σ) (r:=CN (Cr AL)) (t:=s.sh.toks) (o':=AA (l.set i z)) ha (Dd s.sh.heap a (IM (·.setIfInBounds i w))) O.aB (λst=>⟨vs.set i w,C,e2,by rw[DS];exact X,aE.setAt (aq.az st hw) i (aE.az st hs)⟩) λy e Z=>⟨AL,H,e▸q⟩;refine Ab<|PySem.wpAny_setSeqItemAt e H ?_
 first
  |exact Aj I
  |exact Ab (Aj (Aj I))
def bB{Q:M5->Prop}(R:σ a=U (AA l))(N:i<l.length)(q:Q (σ.set a (AA (l.set i z)))):RH B (n+1) (Av a) (Ar (G i)) z σ Q:=nF R (AW i) H N q
end
section
variable{n:Nat}{x y:Wd B}{σ:M5}{Q:KE}{c:Bool->M5->Prop}{z o k:V}{a:AG}{d:NW}
def sk(d:AG)(u:AM):Ki "__getitem__" ⟨[Ai d,u],[]⟩=AJ (d,u):=by kernel_rfl
def sq(d:AG)(u:AM):Ki "__contains__" ⟨[Ai d,u],[]⟩=AJ (d,u):=by kernel_rfl
def abk(d:AG)(u:AM):F4 "get" ⟨[Ai d,u],[]⟩=AJ (d,u,Y):=by kernel_rfl
def abl(d:AG)(u y:AM):F4 "get" ⟨[Ai d,u,y],[]⟩=AJ (d,u,U y):=by kernel_rfl
def g9{T id:String}{R:Bool->Wd B->Prop}(N:x.sh.TypeIs v T)(slot:Ii T "__contains__" id)(h:Wp n noOwn (call (AK id) [v,u] []) (λr y=>∃b,r=B0 b/\R b y) x):Wp n noOwn (Dn v u) R x:=by delta Dn;refine Wp.holding ?_;rw[stdlibNamesSay?_of_typeIs N];refine Wp.b6 (λA P q=>up (Bj N slot.lookup q)) ?_;show Wp n noOwn (if(U (AK id)==U AL)=J then _ else _) R x;rw[Np (by simp:¬((U (AK id)==U AL)=J))];delta callSpecialUnlessNone?;refine Wp.bind (P:=λr y=>∃b,r=U (B0 b)/\R b y) ?_ λr y Z q=>?_;refine Wp.b6 (λA P q=>up (Bj N slot.lookup q)) (Wp.holding ?_);rw[slot.bind];refine Wp.mE ?_;show Wp n noOwn (if(AK id==AL)=J then _ else _) _ x;rw[Np (by simp:¬((AK id==AL)=J))];exact Wp.bind h λr y Z q=>q.elim λb q=>Wp.pure ⟨b,M7 U q.1,q.2⟩;obtain⟨b,rfl,q⟩:=q;exactλA Z=>yi (s:=y) (z:=Bm b) (aq.bool b) H (.mk y H (LE.refl _) q)
def qb{R:Bool->Wd B->Prop}(N:vc x d v)(hk:Rd x u k)(hy:Keyed n k d)(q:∀t,R (NH k d).isSome (x.toks t)):Wp (n+1) noOwn (Dn v u) R x:=by
 obtain⟨a,es,m,rfl,e,hl,hE,I⟩:=N;have X:x.sh.TypeIs (Ai a) "dict":=⟨_,e,H⟩;refine g9 X JI<|cF JI X PySem.F.entry_dict_contains aY (PySem.F.args_dict_contains_2 _ _) ?_
 delta Builtin.«dict.__contains__»;rw[sq];refine Wp.mE<|Wp.bind (Wp.dictGet (R:=λr y=>∃t,y=x.toks t/\WZ y (NH k d) r) e hE hk hy λt r h=>⟨t,H,h⟩) λr y Z h=>?_
 obtain⟨t,rfl,A⟩:=h;have q:=q t
 cases C:NH k d with
 |none=>rw[C]at A q;obtain rfl:r=Y:=A;refine Wp.bind (t:=I2 a u) (P:=λr y=>r=Y/\y=x.toks t) ?_ λr y Z h=>?_;delta I2;rw[I];exact Wp.pure ⟨H,H⟩;obtain⟨rfl,rfl⟩:=h;exact Wp.pure ⟨_,H,_,H,q⟩
 |some w=>rw[C]at A q;obtain⟨y,rfl,_⟩:=A;exact Wp.pure ⟨_,H,_,H,q⟩
def jt(h:Wp n noOwn (Dn u v) (λr y=>r=b/\y.σ=x.σ) x)(q:c b x.σ):Wp n noOwn (KG .In v u) (BQ B c) x:=
 show Wp n noOwn (Dn u v>>=λb=>AJ (B0 b)) _ x from Wp.bind h λr y Z e=>Wp.pure (.mk b (M7 B0 e.1) (e.2▸q))
def fu(h:Wp n noOwn (Dn u v) (λr y=>r=b/\y.σ=x.σ) x)(q:c (!b) x.σ):Wp n noOwn (KG LO v u) (BQ B c) x:=
 show Wp n noOwn (Dn u v>>=λb=>AJ (B0 (!b))) _ x from Wp.bind h λr y Z e=>Wp.pure (.mk (!b) (M7 (λb=>B0 (!b)) e.1) (e.2▸q))
def aX(A:VX σ o=U d)(N:Keyed n k d)(q:c (NH k d).isSome σ):OT B (n+1) .In k o σ c:=λs v u e I R=>by subst e;exact jt (qb (kH R A) I N λt=>⟨H,H⟩) q
def aN(A:VX σ o=U d)(N:Keyed n k d)(q:c (!(NH k d).isSome) σ):OT B (n+1) LO k o σ c:=λs v u e I R=>by subst e;exact fu (qb (kH R A) I N λt=>⟨H,H⟩) q
def nG(a b c:AM):slotArgs "__setitem__" 2 ⟨[a,b,c],[]⟩=AJ (a,[b,c]):=by kernel_rfl
def jK{R:Unit->Wd B->Prop}(I:x.sh.TypeIs N "dict")
  (X:(["clear","keys","values","items","popitem","__reversed__","__iter__","__repr__","pop","setdefault","update","__init__","__setitem__","__delitem__","__ior__"]:List String).contains name=J) (q:R () x):Wp n noOwn (Je name ⟨N::rest,[]⟩) R x:=by
 delta Je;rw[Nt X];refine Wp.b6 (λA P q=>up (C8 I q)) ?_;show Wp n noOwn (if(An "dict" !=An "dict")=J then _ else _) R x;rw[Np (λq=>bne_iff_ne.mp q H)];exact Wp.pure q
def au(ho:VX σ o=U d)(X:Keyed n k d)(hx:NH k d=U z)(q:Q z σ):Rg B (n+1) o k σ Q:=λs v u e C hu=>by
 subst e;obtain⟨a,es,m,rfl,e,hl,hE,A⟩:=kH C ho;have N:s.sh.TypeIs (Ai a) "dict":=⟨_,e,H⟩;refine gip N GB.lookup ⟨H,p8 N H GB (cF GB N PySem.F.entry_dict_getitem aY (PySem.F.args_dict_getitem_2 _ _) ?_)⟩;delta Builtin.«dict.__getitem__»;rw[sk];refine Wp.mE<|Wp.bind (Wp.dictGet (R:=λr y=>y.σ=s.σ/\WZ y (NH k d) r) e hE hu X λt r h=>⟨H,h⟩) λr y Z h=>?_
 obtain⟨e,I⟩:=h;rw[hx]at I;obtain⟨w,rfl,hw⟩:=I;exact Wp.pure ⟨_,H,.mk z hw (e▸q)⟩
def aJ{Q:M5->Prop}(X:σ a=U (AE d))(C:Keyed n k d)(N:d.length<Nh)(q:Q (σ.set a (AE (NX k z d)))):RH B (n+1) (Av a) k z σ Q:=λs v u w e A hu hw=>by
 subst e;obtain rfl:v=Ai a:=aq.inv A;have I:=(ahC A (ao X)).is;refine p9 I H JY<|cF JY I PySem.F.entry_dict_setitem aY (PySem.F.args_dict_setitem_3 _ _ _) ?_
 delta Builtin.«dict.__setitem__»;refine Wp.bind (P:=λZ y=>y=s) (jK I aY H) λZ y Z e=>?_;subst e;show Wp n noOwn (if(([]:List (Str×AM)).isEmpty&&([Ai a,u,w]:LVal).length !=3)=J then _ else _) _ y;rw[Np (λq=>nomatch q)];refine Wp.bind (t:=slotArgs "__setitem__" 2 ⟨[Ai a,u,w],[]⟩) (P:=λr z=>r=(Ai a,[u,w])/\z=y) (by rw[nG];exact Wp.pure ⟨H,H⟩) λr z Z e=>?_;obtain⟨rfl,rfl⟩:=e;exact Wp.mE<|Wp.bind (Wp.dictSet X hu hw C N (R:=λZ y=>Q y.σ) λy e Z=>e▸q) λZ y Z q=>Wp.pure ⟨_,H,q⟩
def qc{df:Option AM}(N:vc x d v)(hk:Rd x u k)(hy:Keyed n k d)(hka:∀a,F4 "get" ⟨Ai a::u::rest,[]⟩=AJ (a,u,df))(I:∀a,DM "dict.get" ⟨Ai a::u::rest,[]⟩)
  (C:df.getD AL=dv) (hz:Rd x dv z) (q:Q ((NH k d).getD z) x.σ):Wv (n+1) (call (AK "dict.get") (v::u::rest) []) Q x:=by
 obtain⟨a,es,m,rfl,e,hl,hE,A⟩:=N;refine cF K9 (⟨_,e,H⟩:x.sh.TypeIs (Ai a) "dict") PySem.F.entry_dict_get aY (I a) ?_;delta Builtin.«dict.get»;rw[hka];refine Wp.mE<|Wp.bind (Wp.dictGet (R:=λr y=>∃t,y=x.toks t/\WZ y (NH k d) r) e hE hk hy λt r h=>⟨t,H,h⟩) λr y Z h=>?_
 obtain⟨t,rfl,X⟩:=h
 cases hd:NH k d with
 |none=>rw[hd]at X q;obtain rfl:r=Y:=X;subst C;refine Wp.bind (t:=Kh a u) (P:=λr y=>r=Y/\y=x.toks t) ?_ λr y Z h=>?_;delta Kh;rw[A];exact Wp.pure ⟨H,H⟩;obtain⟨rfl,rfl⟩:=h;exact Wp.pure ⟨_,H,.mk z hz.toks q⟩
 |some w=>rw[hd]at X q;obtain⟨y,rfl,hw⟩:=X;exact Wp.pure ⟨_,H,.mk w hw q⟩
def eN(X:VX σ o=U d)(N:Keyed n k d)(q:Q ((NH k d).getD A5) σ):Nr B (n+1) 26 [o,k] σ Q:=aQ H λs C e I=>call2 I λv u A R=>by subst e;exact qc (kH A X) R N (λa=>abk a u) (λa=>PySem.F.args_dict_get_2 _ _) H aq.none q
def cG(C:VX σ o=U d)(R:Keyed n k d)(q:Q ((NH k d).getD z) σ):Nr B (n+1) 26 [o,k,z] σ Q:=aQ H λs vs e A=>yo A λv u w N I X=>by subst e;exact qc (kH N C) I R (λa=>abl a u w) (λa=>PySem.F.args_dict_get_3 _ _ _) H X q
def Ob(c l:M6):=l.dropWhile (c.contains ·)
def NL(c l:M6):=(l.reverse.dropWhile (c.contains ·)).reverse
def Pm(c l:M6):=NL c (Ob c l)
def SH(c:Nat)(l:M6)(k:Nat):Int:=match(l.drop k).findIdx? (· ==c)with
 |some i=>(k+i:Nat)
 |none=> -1
def NJ(sep:M6):Ni->M6
 | []=>[]
 |p::r=>p++(r.map (sep++·)).flatten
def nH{x y:UInt8}:(x.toNat==y.toNat)=(x==y):=by rw[HD,beq_iff_eq,beq_iff_eq];exact⟨λh=>Jz.mp h,λh=>by rw[h]⟩
def cN(c:List UInt8)(x:UInt8):(nats c).contains x.toNat=c.contains x:=by
 induction c with
 |nil=>rfl
 |cons y c N=>simp only[nats,Cc,ID,nH];rw[<-N]
def cz(c l:List UInt8):nats (l.dropWhile c.contains)=(nats l).dropWhile ((nats c).contains ·):=by
 induction l with
 |nil=>rfl
 |cons x l N=>
  cases h:c.contains x with
  |true=>exact(M7 nats (Kv h)).trans (N.trans (Kv ((cN c x).trans h)).symm)
  |false=>exact(M7 nats (Kw (Bp.mp h))).trans (Kw (Bp.mp ((cN c x).trans h))).symm
def fw{R:Type}[BEq R]{c x:R}{N r:List R}(h:(x==c)=J):Nn c N (x::r)=N::Nn c [] r:=Nt h
def dA{R:Type}[BEq R]{c x:R}{N r:List R}(h:(x==c)=Am):Nn c N (x::r)=Nn c (N++[x]) r:=Np (Bp.mp h)
def mh(c:UInt8)(l:List UInt8):∀N,(Nn c N l).map nats=Nn c.toNat (nats N) (nats l):=by
 induction l with
 |nil=>exactλZ=>H
 |cons x l R=>
  intro N
  cases h:x==c with
  |true=>exact(M7 (CC nats) (fw h)).trans ((M7 (nats N::·) (R [])).trans (fw (nH.trans h)).symm)
  |false=>exact(M7 (CC nats) (dA h)).trans ((R _).trans ((M7 (λu=>Nn c.toNat u (nats l)) AS).trans (dA (nH.trans h)).symm))
end
section
open PySem.Builtin
abbrev idxs(c:UInt8):List UInt8->Nat->M6
 | [],_=>[]
 |x::r,k=>if x==c then k::idxs c r (k+1)else idxs c r (k+1)
def jL(b:Ot)(i:Nat)(c:UInt8):(b.extract i (i+1)== #[c])=(b.toList[i]?==U c):=by
 rw[HD,beq_iff_eq,beq_iff_eq,<-Hj];simp only[Gg,List.extract_eq_take_drop,Hu];rw[show b.toList.drop i=b.toList.drop i from H]
 cases h:b.toList.drop i with
 |nil=>
  have:b.toList.length<=i:=by simpa using h
  simp[D4 this]
 |cons x r=>simp[(by rw[<-List.head?_drop,h];rfl:b.toList[i]?=U x)]
def nJ(h:(x==c)=J):idxs c (x::r) k=k::idxs c r (k+1):=Nt h
def kZ(h:(x==c)=Am):idxs c (x::r) k=idxs c r (k+1):=Np (Bp.mp h)
def ahJ{b l:List UInt8}(N:b.drop k=x::l):k<b.length/\b.drop (k+1)=l/\b[k]?=U x:=
 ⟨JU (λh=>nomatch (Ds h).symm.trans N),HR.symm.trans (M7 (Ft 1) N),List.head?_drop.symm.trans (M7 List.head? N)⟩
def ad5(b:Ot)(c:UInt8)(N:M6×Nat->Nat->M6×Nat)
  (y:N=λacc i=>if i≥acc.2&&b.extract i (i+1)== #[c]then(i::acc.1,i+1)else acc) (m:Nat):∀k acc,acc.2<=k->k+m=b.size->
  ((Gm k m).foldl N acc).1=(idxs c (b.toList.drop k) k).reverse++acc.1:=by
 induction m with
 |zero=>exactλk acc Z I=>(Ds (Ap I.symm))▸H
 |succ m X=>
  intro k acc C I;have Q:=MX (Bz (DJ m)) I;have R:=(Hh k m).trans I
  have A:N acc k=if b.toList[k]==c then(k::acc.1,k+1)else acc:=by rw[y];refine M7 (λu:Bool=>if u then(k::acc.1,k+1)else acc) ?_;rw[N5 C,jL,AY Q];rfl
  rw[Hl,DT,Cn Q,A]
  cases h:b.toList[k]==c with
  |false=>rw[kZ h];exact X (k+1) acc (CA C) R
  |true=>rw[nJ h,BF,Ag];exact X (k+1) _ (AH _) R
def t6(b:Ot)(c:UInt8):Bytes.occurrences b #[c] 0 b.size=idxs c b.toList 0:=by
 delta Bytes.occurrences
 have e:(D3 (b.size+1-(0+(#[c]:Ot).size))).map (· +0)=Gm 0 b.size:=by rw[(by simp:b.size+1-(0+(#[c]:Ot).size)=b.size)];simp[Mg]
 simp only[e];have:=ad5 b c _ H b.size 0 ([],0) (AH _) aS;simp only[List.drop_zero,Ax]at this;have N:(#[c]:Ot).size=1:=H;simp only[N];rw[this,Dg]
def sr(b:Ot)(c:UInt8)(l:List UInt8):∀k j N,b.toList.drop k=l->j<=k->k<=b.size->
  ((let r:=(idxs c l k).foldl (λ(x:Array Ot×Nat) p=>(x.1.push (b.extract x.2 p),p+1)) (N,j);(r.1.push (b.extract r.2 b.size)).toList)).map Fy
   =N.toList.map Fy++Nn c (b.extract j k).toList l:=by
 induction l with
 |nil=>intro k j N X A Q;obtain rfl:k=b.size:=HG Q (DK.mp X);refine(M7 (CC Fy) IV).trans AS
 |cons x l C=>
  intro k j N X A Q;obtain⟨R,I,y⟩:=ahJ X
  cases h:x==c with
  |false=>
   rw[kZ h,dA h];refine(C (k+1) j N I (CA A) R).trans<|M7 (λu=>_++Nn c u l) ?_
   rw[Gg,Gg];show(b.toList.drop j).take (k+1-j)=(b.toList.drop j).take (k-j)++[x];rw[Nat.succ_sub A,List.take_add_one,MF,MC A,y];rfl
  |true=>rw[nJ h,fw h];refine(C (k+1) (k+1) _ I (AH _) R).trans ?_;rw[(by rw[Gg];show(b.toList.drop _).take (k+1-(k+1))=[];rw[FU];rfl:(b.extract (k+1) (k+1)).toList=[]),IV,AS,Ag];rfl
def jM(b:Ot)(c:UInt8):(Bytes.between b 1 (idxs c b.toList 0)).map Fy=Nn c [] b.toList:=by have:=sr b c b.toList 0 0 #[] H (AH _) (Aq _);simp only[List.map_nil,List.nil_append]at this;rw[show(b.extract 0 0).toList=[] by simp]at this;exact this
def nK(c:UInt8)(l:List UInt8):∀k N,idxs c l k=[]->Nn c N l=[N++l]:=by
 induction l with
 |nil=>exactλZ N q=>M7 (λu=>[u]) (Ax N).symm
 |cons x l I=>
  intro k N h
  cases R:x==c with
  |false=>exact(dA R).trans ((I (k+1) _ (aO (kZ R) h)).trans (M7 (λu=>[u]) (Ag N [x] l)))
  |true=>exact nomatch (nJ R).symm.trans h
def yp(c:UInt8)(l:List UInt8):∀k,(nats l).contains c.toNat=Am->idxs c l k=[]:=by
 induction l with
 |nil=>exactλZ q=>H
 |cons x l I=>intro k h;obtain⟨N,R⟩:=CX.mp (aO ID h);exact(kZ (Bp.mpr λe=>Bp.mp N (beq_iff_eq.mpr (M7 Br (N2 e).symm)))).trans<|I (k+1) R
def abm(b:Ot)(c:UInt8)(l:List UInt8):∀k,b.toList.drop k=l->
  ((Gm k l.length).find? λi=>b.extract i (i+1)== #[c])=(l.findIdx? (· ==c)).map (k+·):=by
 induction l with
 |nil=>exactλZ q=>H
 |cons x l X=>
  intro k A;obtain⟨I,N,R⟩:=ahJ A;rw[Bn,Hl,EB,jL,R,C9,Option.some_beq_some]
  cases x==c with
  |true=>rfl
  |false=>refine(X (k+1) N).trans ?_;show _=Fg (k+·) (Fg (· +1) _);rw[Option.map_map];exact M7 (λf=>Fg f _)<|funext λi=>Hh k i
def qd(b:Ot)(c:UInt8)(k:Nat)(N:k<b.size):Bytes.find? b #[c] k b.size=((b.toList.drop k).findIdx? (· ==c)).map (k+·):=by
 delta Bytes.find?
 have e:(D3 (b.size+1-(k+(#[c]:Ot).size))).map (· +k)=Gm k (b.toList.drop k).length:=by rw[(by simp:b.size+1-(k+(#[c]:Ot).size)=(b.toList.drop k).length),Mg,Lc];simp only[Lc,Bo];congr 1;funext i;simp;lia
 rw[e];exact abm b c _ k H
def nL(c:UInt8)(l:List UInt8):(nats l).findIdx? (· ==c.toNat)=l.findIdx? (· ==c):=by
 induction l with
 |nil=>rfl
 |cons x l N=>show(x.toNat::nats l).findIdx? _=_;rw[C9,C9,N,nH]
end
section
variable{prog:CZ}{w:Dy}
def qe{E:O3}{R:Except AM Int->AZ->Prop}(h:R (CT i) s):AB (model prog w) A (asIndex (By i t)).attempt R E s:=
 HS (AI (a:=i) H h)
def k4:D9 (An "bytes") "__index__"=AJ Y:=by rw[BJ,Bb];kernel_rfl
def mi{A:CP}{E:O3}{s:AZ}{R:Except AM Int->AZ->Prop}(X:A.handled=Y)(h:∀N I e,Heap.NewExc s.heap N e "TypeError"->R (Hp (Ai e)) {s with heap:=N,toks:=I}):
  AB (model prog w) A (asIndex (AF u t)).attempt R E s:=by
 refine HS ?_;delta asIndex;refine Ab (AI (a:=Y) H (Ab (m:=Fh (AF u t) (CM "__index__")) ?_));delta Fh;refine Ab (Bj (T:="bytes") H k4 (Aj (Ab (AI (a:="bytes") H ?_))));exact wpAny_raiseErrorMade plainExc_TypeError X h aY
variable{n:Nat}{x y:Wd B}{σ:M5}{Q:KE}{c:Bool->M5->Prop}{z o k:V}{b:M6}
def nM{u:Ot}(e:u.toList.map Br=b){i:Nat}(N:i<256):u.contains i.toUInt8=b.contains i:=by have h:=cN u.toList i.toUInt8;have R:i.toUInt8.toNat=i:=Hr N;rw[R,show nats u.toList=b from e]at h;rw[h];exact(LW (l:=u.toList)).symm▸H
def fy{u:Ot}(e:u.toList.map Br=[i]):∃d,u= #[d]/\d.toNat=i:=by
 obtain⟨l⟩:=u
 cases l with
 |nil=>cases e
 |cons d r=>
  obtain⟨N,R⟩:=BO e
  cases r with
  |nil=>exact⟨d,H,N⟩
  |cons=>cases R
def ahX{u:Ot}{d:UInt8}(e:u.toList.map Br=b):(Hg u #[d] 0 u.size).isSome=b.contains d.toNat:=by
 by_cases N:u.size=0
 ·have h0:=Cy.mp N;rw[<-e,h0];delta Hg;rw[show u.size+1-(0+(#[d]:Ot).size)=0 by rw[N];rfl]
  rfl
 rw[qd u d 0 (GS N),Option.isSome_map,List.findIdx?_isSome,List.drop_zero,<-e,cN,List.contains_eq_any_beq];exact M7 (λf=>u.toList.any f)<|funext λy=>Bool.beq_comm ..
def vJ(I:Rd x v (W b))(C:Rd x u (Ar (G i)))(R:i<256):Wp (n+1) noOwn (Dn v u) (λr y=>r=b.contains i/\y.σ=x.σ) x:=by
 have N:=(ag8 I).is;obtain⟨q,t,rfl,e,m⟩:=aq.inv I;obtain⟨X,rfl⟩:=aq.inv C;refine g9 N FZ<|cF FZ N LK aY (Lw _ _) λA rm=>up ?_
 delta Builtin.«bytes.__contains__»;refine Ab<|AI (a:=(AF q t,[By (G i) X])) H<|Ab (m:=EJ _ _ _) ?_
 delta EJ;refine Ab<|qe ?_
 rw[Gh];refine Ab<|Aj<|Cm (CX.mpr ⟨N8 (CI.mpr (AW i)),N8 (CI.mpr (Bq.mpr (Eh R)))⟩)<|Aj ?_
 exact Aj<|.mk (x.toks _) H (Wd.bL _) ⟨_,H,_,H,nM e R,H⟩
def vK(R:Rd x v (W b))(hu:Rd x u (W [i])):Wp (n+1) noOwn (Dn v u) (λr y=>r=b.contains i/\y.σ=x.σ) x:=by
 have I:=(ag8 R).is;obtain⟨q,t,rfl,e,m⟩:=aq.inv R;obtain⟨c',X,rfl,N,m2⟩:=aq.inv hu;obtain⟨d,rfl,rfl⟩:=fy N;refine g9 I FZ<|cF FZ I LK aY (Lw _ _) λA rm=>up ?_
 delta Builtin.«bytes.__contains__»;refine Ab<|AI (a:=(AF q t,[AF #[d] X])) H<|Ab (m:=EJ _ _ _) ?_
 delta EJ;refine Ab<|mi rm.handled λh' tk ex C=>?_
 rw[Gh];refine Ab<|Aj ?_
 rw[Gh];refine Ab<|Aj<|Ab<|BD<|Aj ?_
 obtain⟨z,e1,N,l,_⟩:=x.grown (h:=h') (t:=tk) λa o e=>C.1 a o e;exact Aj<|.mk z e1 l ⟨_,H,_,H,ahX e,N⟩
set_option tactic.hygienic true in
def yq(h:XY op z b σ c):OT B (n+1) op z (W b) σ c:=λs v u e I R=>by
 subst e;have C:∀{i},z=Ar (G i)->i<256->Wp (n+1) noOwn (Dn u v) (λr y=>r=b.contains i/\y.σ=s.σ) s:=λe q=>vJ R (e▸I) q;have N:∀{i},z=W [i]->Wp (n+1) noOwn (Dn u v) (λr y=>r=b.contains i/\y.σ=s.σ) s:=λe=>vK R (e▸I)
 cases op<;>first|exact Bw h|skip
 all_goals
  cases z<;>first|exact Bw h|skip
  ·rename_i i
   cases i with
   |ofNat i=>
    obtain⟨A,X⟩:=(h:_/\_)
    first|exact jt (C rfl A) X|exact fu (C rfl A) X
   |negSucc=>exact Bw h
  rename_i l
  cases l with
  |nil=>exact Bw h
  |cons i r=>
   cases r with
   |cons=>exact Bw h
   |nil=>first|exact jt (N rfl) h|exact fu (N rfl) h
def cA{N β:Type}{p:Option N}{q:Option β}{f:N->β->Prop}{r C:Prop}(h:two p q f r)(I:∀a b,p=U a->q=U b->f a b->C)(R:r->C):C:=by
 cases p with
 |none=>exact R h
 |some a=>cases q with
  |none=>exact R h
  |some b=>exact I a b H H h
def k7(h:asI z=U i):z=Ar i:=by cases z<;>first|exact aa h|exact M7 Ar (Af h)
def hV(h:Wt z=U b):z=W b:=by cases z<;>first|exact aa h|exact M7 W (Af h)
def su(h:asS z=U b):z=B9 b:=by cases z<;>first|exact aa h|exact M7 B9 (Af h)
def ad6(h:asT z=U l):z=Bg l:=by cases z<;>first|exact aa h|exact M7 Bg (Af h)
set_option tactic.hygienic true in
def qf(h:asNat z=U i):z=Ar (G i):=by
 cases z<;>first|exact aa h|skip
 rename_i j
 cases j<;>first|exact aa h|exact M7 (λi=>Ar (G i)) (Af h)
def iL(h:Wu z=U J):z=A5:=by cases z<;>first|rfl|exact aa h|exact A9 (Af h)
def yr{y:Option M6}{f:M6->Prop}{r C:Prop}(h:inS op y f r)(R:∀b,y=U b->f b->C)(N:r->C):C:=by
 cases op<;>first|exact N h|skip
 all_goals
  cases y with
  |none=>exact N h
  |some b=>exact R b H h
def yt{op:GD}{nx R:Option Bool}{f:Bool->Prop}{r C:Prop}(h:isS op nx R f r)(q:∀b,op=.Is->nx=U b->R=U J->f b->C)(X:∀b,op=.IsNot->nx=U b->R=U J->f (!b)->C)(N:r->C):C:=by
 cases op<;>first|exact N h|skip
 ·exact cA h (λb d I A h=>by
   cases d with
   |true=>exact q b H I A h
   |false=>exact N h) N
 exact cA h (λb d I A h=>by
  cases d with
  |true=>exact X b H I A h
  |false=>exact N h) N
def afp(h:YD op b I σ Q):R3 B n op (W b) (W I) σ Q:=by
 cases op<;>first|exact Bw h|skip
 obtain⟨R,N⟩:=(h:_/\_);exact vF R N
def vL{op:Hf}(h:Xr B n op z o σ Q):R3 B n op z o σ Q:=
 cA h (λa b N R h=>k7 N▸k7 R▸afl h) λh=>cA h (λa b N R h=>hV N▸hV R▸afp h) id
def vM{op:GD}(h:Xu B (n+1) op z o σ c):OT B (n+1) op z o σ c:=
 cA h (λa b N R h=>k7 N▸k7 R▸afm h) λh=>yt h (λb e N R h=>e▸iL R▸ad2 N h) (λb e N R h=>e▸iL R▸vG N h) λh=>cA h (λa b N R h=>su N▸su R▸afo h) λh=>yr h (λb e h=>hV e▸yq h) λh=>cA h (λa b N R h=>hV N▸hV R▸afn h) id
def vN(h:V9 B n z o σ Q):Rg B n z o σ Q:=
 cA h (λl k N R h=>(ji h).elim λw q=>ad6 N▸qf R▸abi q.1 q.2) λh=>cA h (λl k N R h=>(ji h).elim λw q=>hV N▸qf R▸vI q.1 q.2) id
def yu(h:Wa o=U j):W9 σ o=U j:=by cases o<;>first|exact h|exact aa h
def vO{k:Nat}{l:LV}(h:Xv B n k l σ Q):Nr B n k l σ Q:=by
 cases k with
 |succ=>exact h
 |zero=>
  cases l with
  |nil=>exact h
  |cons o r=>
   cases r with
   |cons=>exact h
   |nil=>
    change (match Wa o with|some j=>Q (Ar (G j)) σ|none=>Nr B n 0 [o] σ Q)at h
    cases e:Wa o with
    |none=>rw[e]at h;exact h
    |some j=>rw[e]at h;exact b9 (yu e) h
def gy:aV:=⟨vL,agz,vM,vN,vO,yi⟩
end
open PySem PySem.W PyProof.Rows PySem.Calls PySem.MeetsSeq
abbrev asO:V->Option Bool
 |.bool b=>U b
 |_=>Y
def Wz(x y:V):Option Bool:=match x with
 |.int a=>(asI y).map (a==·)
 |.bytes a=>(match Wu y with
  |some J=>U Am
  |_=>(Wt y).map (a==·))
 |.str a=>(asS y).map (a==·)
 |.bool a=>(asO y).map (a==·)
 |.none=>(match Wu y with
  |some J=>U J
  |_=>Y)
 |_=>Y
def RX(x y:V):=(Wz x y).getD Am
def RY:LV->LV->Bool
 | [],[]=>J
 |x::r,y::q=>RX x y&&RY r q
 |_,_=>Am
def Vf:LV->LV->Bool
 |x::r,y::q=>(Wz x y).isSome&&Vf r q
 |_,_=>J
section
variable{prog:CZ}{w:Dy}{A:CP}{E:O3}{s:AZ}
def j9(b:Ot)(t:Tok):Gives (Builtin.«bytes.__eq__» ⟨[AF b t,AL],[]⟩) (.val (Eb)):=
 F8 λM A E s Q h=>by obtain⟨R,g,d,I,X⟩:=s;have N:=JH;wp_walk;exact⟨_,H,h⟩
def ka(b:Ot)(t:Tok):Gives (Builtin.«NoneType.__eq__» ⟨[AL,AF b t],[]⟩) (.val (Eb)):=
 F8 λM A E s Q h=>by obtain⟨N,g,d,R,I⟩:=s;wp_walk;exact⟨_,H,h⟩
def mj{Q:O3}(h:Q (B0 Am) s):AB (model prog w) A (richCompare EN (AF b t) AL) Q E s:=
 E5 (k:=Am) (λN=>C5 N b t) (λZ=>H) aG JH Hy I0 H
  (Fb Hy (C5 s b t) Js (IZ _ _) (j9 b t)
   ⟨H,Fb I0 H PySem.F.entry_NoneType_eq (PySem.F.args_NoneType_eq_2 _ _) (ka b t) ⟨H,h⟩⟩)
def qg(d b:AG)(N:List BY)(k C:Nat)(y:(d==Ea)=Am)(Q:(b==Ea)=Am):Meets (Builtin.«dict.__eq__» ⟨[Ai d,Ai b],[]⟩)
  (λZ R s=>s.heap.get? d=U (Dt N k)/\s.heap.get? b=U (Dt [] C)/\R (CT (Cr (B0 N.isEmpty))) s):=
 GW λprog w A R s h=>by
  obtain⟨hp,g,dr,tk,os⟩:=s;obtain⟨I,X,h⟩:=h;have f1:=K6;have q:d≠sysModules:=by simpa using y
  have hbs:b≠sysModules:=by simpa using Q
  cases N with
  |nil=>
   wp_walk using(Cu I H),(Cu X H),(FX I H)
   refine AI (a:=((Y:Option Bool),())) (by with_unfolding_all rfl) ?_
   wp_walk
   exact⟨_,H,h⟩
  |cons x N=>
   wp_walk using(Cu I H),(Cu X H),(FX I H)
   exact⟨_,H,h⟩
def QT:AM->AM->Bool
 |.int a _,.int b _=>a==b
 |.bytes a _,.bytes b _=>a.toList.map Br==b.toList.map Br
 |.str a _,.str b _=>a.cps.toList==b.cps.toList
 |.bool a,.bool b=>a==b
 |.none,.none=>J
 |_,_=>Am
variable{n:Nat}{x:Wd B}{σ:M5}{c:Bool->M5->Prop}{z o:V}{v u:AM}{r:Bool}{l m:LV}{vs us:LVal}{d:NW}
def ad7(h:asO z=U b):z=Bm b:=by cases z<;>first|exact aa h|exact M7 Bm (Af h)
set_option tactic.hygienic true in
def eqV(I:Rd x v z)(R:Rd x u o)(N:Wz z o=U r):EqGives v u r/\QT v u=r:=by
 cases z<;>first|exact aa N|skip
 ·obtain rfl:v=AL:=aq.inv I
  change (match Wu o with|some J=>U J|_=>Y)=_ at N
  cases e:Wu o with
  |none=>rw[e]at N;exact aa N
  |some b=>
   rw[e]at N
   cases b with
   |false=>exact aa N
   |true=>rw[iL e]at R;obtain rfl:u=AL:=aq.inv R;obtain rfl:=Af N;exact⟨λprog w A E s Q h=>C1 (Ab (BD (Aj h))),H⟩
 ·rename_i a
  obtain⟨b,e,rfl⟩:=A4.mp N;rw[ad7 e]at R;obtain rfl:v=B0 a:=aq.inv I;obtain rfl:u=B0 b:=aq.inv R;refine⟨λprog w A E s Q h=>?_,H⟩
  cases a<;>cases b
  exact Ab<|BD<|Aj h
  exact Ab<|G8<|Ce h
  exact Ab<|G8<|Ce h
  exact Ab<|BD<|Aj h
 obtain⟨b,e,rfl⟩:=A4.mp N;rw[k7 e]at R;obtain⟨t,rfl⟩:=aq.inv I;obtain⟨C,rfl⟩:=aq.inv R;exact⟨EqGives.int _ _ _ _,H⟩;obtain⟨b,e,rfl⟩:=A4.mp N;rw[su e]at R;obtain⟨_,t,rfl,rfl,_⟩:=aq.inv I;obtain⟨_,C,rfl,rfl,_⟩:=aq.inv R;exact⟨SeqRoads2.EqGives.str _ _ _ _,H⟩
 rename_i a0
 change (match Wu o with|some J=>U Am|_=>(Wt o).map (a0==·))=_ at N
 have go:(Wt o).map (a0==·)=U r->EqGives v u r/\QT v u=r:=λN=>by
  obtain⟨b,e,rfl⟩:=A4.mp N;rw[hV e]at R;obtain⟨a',t,rfl,X,_⟩:=aq.inv I;obtain⟨b',C,rfl,y,_⟩:=aq.inv R;refine⟨λprog w A E s Q h=>cU (a:=a0) (b:=b) (by delta isBytes;simpa using X) (by delta isBytes;simpa using y) ?_,by rw[<-X,<-y];rfl⟩
  have:decide (a0=b)=(a0==b):=by
   by_cases q:a0=b
   rw[N5 q,beq_iff_eq.mpr q];rw[N8 q,beq_eq_false_iff_ne.mpr q]
  rw[this];exact h
 cases e:Wu o with
 |none=>rw[e]at N;exact go N
 |some b=>
  rw[e]at N
  cases b with
  |false=>exact go N
  |true=>rw[iL e]at R;obtain rfl:u=AL:=aq.inv R;obtain⟨a',t,rfl,X,_⟩:=aq.inv I;obtain rfl:=Af N;exact⟨λprog w A E s Q h=>C1 (Ab (mj (Ce h))),H⟩
def nN(hu:Rd x u o)(R:Nq x vs l)(ha:(l.all λz=>(Wz z o).isSome)=J):(vs.any λv=>QT v u)=(l.any λz=>RX z o)/\∀v∈vs,EqGives v u (QT v u):=by
 induction l generalizing vs with
 |nil=>exact R.e0 (CL:=λvs=>(vs.any λv=>QT v u)=Am/\∀v∈vs,EqGives v u (QT v u)) ⟨H,λZ h=>M9 h Ay⟩
 |cons z l q=>
  obtain⟨C,X⟩:=Ah.mp ha;obtain⟨r,I⟩:=DD.mp C;refine R.dp (CL:=λvs=>(vs.any λv=>QT v u)=((z::l).any λz=>RX z o)/\∀v∈vs,EqGives v u (QT v u)) λv vs y hr=>?_;obtain⟨e1,N⟩:=eqV y hu I;obtain⟨Q,i2⟩:=q hr X;refine⟨?_,λw hw=>?_⟩;rw[Ir,Ir,Q,N];delta RX;rw[I];rfl;rcases AQ.mp hw with rfl|hw
  rw[N];exact e1;exact i2 w hw
def abn(I:Nq x vs l)(h2:Nq x us m)(N:l.length=m.length)(ho:Vf l m=J):∃e,(D3 vs.length).all e=RY l m/\∀j v u,vs[j]?=U v->us[j]?=U u->EqGives v u (e j):=by
 induction l generalizing m vs us with
 |nil=>
  cases m with
  |cons=>cases N
  |nil=>exact I.e0 (CL:=λvs=>∃e,(D3 vs.length).all e=J/\∀j v u,vs[j]?=U v->us[j]?=U u->EqGives v u (e j)) ⟨λZ=>J,H,λZ Z Z e=>aa e⟩
 |cons z l ih=>
  cases m with
  |nil=>cases N
  |cons o m=>
   obtain⟨q,Q⟩:=Ah.mp ho;obtain⟨r,R⟩:=DD.mp q;obtain⟨v,vs,rfl,hv,hr⟩:=aE.inv I;obtain⟨u,us,rfl,hu,hq⟩:=aE.inv h2;obtain⟨e,y,i2⟩:=ih hr hq (CV N) Q;refine⟨λj=>match j with|0=>r|j+1=>e j,?_,λj w w' C X=>?_⟩;rw[Bn,List.range_succ_eq_map,List.all_cons,Jd];show(r&&(D3 vs.length).all e)=(RX z o&&RY l m);rw[y];delta RX;rw[R];rfl
   cases j with
   |zero=>exact Af C▸Af X▸(eqV hv hu R).1
   |succ j=>exact i2 j w w' C X
def yv(h:l.length≠m.length):RY l m=Am:=by
 induction l generalizing m with
 |nil=>cases m with|nil=>exact M9 H h|cons=>rfl
 |cons z l N=>cases m with
  |nil=>rfl
  |cons o m=>show(RX z o&&RY l m)=Am;rw[N λe=>h (M7 (· +1) e),GN]
def dB{A:CP}(N:ef n A):A.units<cLine:=Al (AD ..) (BG N.units ae)
def bq{t:Nat}(q:c b x.σ):aP noOwn x (BQ B c) (B0 b) {x.sh with toks:=t}:=.mk (x.toks t) H (Wd.bL t) (.mk b H q)
def aj(h:(l.all λy=>(Wz y z).isSome)=J)(q:c (l.any λy=>RX y z) σ):OT B n .In z (Bg l) σ c:=λs v u e C Q A rm=>by
 subst e;obtain⟨a,vs,m,rfl,e,f,N,I⟩:=aq.inv Q;obtain⟨X,h2⟩:=nN C (x:=s) I h;refine up<|SeqAt.in_tupleAt (λy=>QT y v) (⟨_,e,H,m,H⟩:s.sh.heap.IsTuple a vs.toArray) (λy R=>(h2 y (EV.mp R)).at _ _) ?_
 rw[Hn,X];exact bq q
def cO(h:(l.all λy=>(Wz y z).isSome)=J)(q:c (!l.any λy=>RX y z) σ):OT B n LO z (Bg l) σ c:=λs v u e C Q A rm=>by
 subst e;obtain⟨a,vs,m,rfl,e,f,N,I⟩:=aq.inv Q;obtain⟨X,h2⟩:=nN C (x:=s) I h;refine up<|SeqAt.notIn_tupleAt (λy=>QT y v) (⟨_,e,H,m,H⟩:s.sh.heap.IsTuple a vs.toArray) (λy R=>(h2 y (EV.mp R)).at _ _) ?_
 rw[Hn,X];exact bq q
def jN(ho:SF σ o=U l)(h:(l.all λy=>(Wz y z).isSome)=J)(q:c (l.any λy=>RX y z) σ):OT B n .In z o σ c:=λs v u e C Q A rm=>by
 subst e;obtain⟨a,vs,m,rfl,e,N,I⟩:=fT Q ho;obtain⟨X,h2⟩:=nN C I h;refine up<|SeqAt.in_listAt (λy=>QT y v) (⟨_,e,H,m,H⟩:s.sh.heap.IsList a vs.toArray) (λy R=>(h2 y (EV.mp R)).at _ _) ?_
 rw[Hn,X];exact bq q
def bJ(C:op=EN\/op=Er)(h1:SF σ o=U l)(h2:SF σ z=U m)(h:l.length=m.length->Vf l m=J)(q:c (match op with|.Eq=>RY l m|_=>!RY l m) σ):OT B n op o z σ c:=λs v u e hv hu A rm=>by
 subst e;obtain⟨a,vs,k,rfl,e,hlen,hs⟩:=fT hv h1;obtain⟨b,us,k2,rfl,e2,hlen2,N⟩:=fT hu h2;have hL:s.sh.heap.IsList a vs.toArray:=⟨_,e,H,k,H⟩;have R:s.sh.heap.IsList b us.toArray:=⟨_,e2,H,k2,H⟩
 by_cases I:l.length=m.length
 ·obtain⟨f,y,f2⟩:=abn hs N I (h I);have g:∀j X (Q:j<us.toArray.size),EqGives vs.toArray[j] us.toArray[j] (f j):=λj X Q=>f2 j _ _ (AY _) (AY _);have y:(D3 vs.toArray.size).all f=RY l m:=y;rcases C with rfl|rfl
  ·exact up<|SeqAt.eq_listAt (e:=f) hL R (by rw[hs.size,N.size,I]) (dB rm) (λj X Q=>(g j X Q).at _ _) (by rw[y];exact bq q)
  ·exact up<|SeqAt.RcNeAt.lists (e:=f) hL R (by rw[hs.size,N.size,I]) (dB rm) (λj X Q=>(g j X Q).at _ _) _ _ _ _ (by rw[y];exact bq q)
 have hn:(vs.toArray.size==us.toArray.size)=Am:=by rw[hs.size,N.size];exact beq_eq_false_iff_ne.mpr I
 rw[yv I]at q;rcases C with rfl|rfl
 exact up<|SeqAt.eq_list_lengthsAt hL R (by exact bne_iff_ne.mpr (ne_of_beq_false hn)) (dB rm)<|bq q
 exact up<|SeqAt.RcNeAt.lists_lengths hL R (by exact bne_iff_ne.mpr (ne_of_beq_false hn)) (dB rm) _ _ _ _<|bq q
def mV:Vf l []=J:=by cases l<;>rfl
def qh:RY l []=l.isEmpty:=by cases l<;>rfl
def bQ(R:SF σ o=U l)(N:SF σ z=U [])(q:c l.isEmpty σ):OT B n EN o z σ c:=bJ (Aw H) R N (λZ=>mV) (by show c (RY l []) σ;rw[qh];exact q)
def bF(R:SF σ o=U l)(N:SF σ z=U [])(q:c (!l.isEmpty) σ):OT B n Er o z σ c:=bJ (AN H) R N (λZ=>mV) (by show c (!RY l []) σ;rw[qh];exact q)
def qi(q:c Am σ):OT B n Er A5 A5 σ c:=cM (λs Z Z R N=>R.mB (C:=λv=>N4 Er v _ Am) (N.mB (C:=λu=>N4 Er _ u Am) λA s Q q=>EqNone.ne_none_none q)) q
def kb(h1:VX σ o=U d)(h2:VX σ z=U [])(q:c d.isEmpty σ):OT B n EN o z σ c:=λs v u e hv hu A rm=>by
 subst e;obtain⟨a,X,m,rfl,e,hl,Q,R⟩:=kH hv h1;obtain⟨b,y,m2,rfl,C,hl2,I,N⟩:=kH hu h2;obtain rfl:=aU.dQ I
 have he:X.isEmpty=d.isEmpty:=by
  cases d with
  |nil=>rw[aU.dQ Q];rfl
  |cons=>obtain⟨_,_,rfl,_⟩:=aU.inv Q;rfl
 exact up (PySem.richCompare_meets_room (op:=EN) (⟨_,e,H⟩:s.sh.TypeIs (Ai a) "dict") (⟨_,C,H⟩:s.sh.TypeIs (Ai b) "dict") PySem.F.slot_dict_eq PySem.F.entry_dict_eq (PySem.F.args_dict_eq_2 _ _) (qg a b X m m2 R N) ⟨e,C,⟨λx=>(nomatch x),he▸.mk s H (LE.refl _) (.mk _ H q)⟩⟩ (dB rm))
end
section
open PySem.Builtin
variable{prog:CZ}{w:Dy}{A:CP}{E:O3}{s:AZ}{c l:List UInt8}{left right:Bool}
def Qf(left:Bool)(c l:List UInt8):List UInt8:=if left=J then l.dropWhile c.contains else l
def OJ(left right:Bool)(c l:List UInt8):List UInt8:=(Qf right c (Qf left c l).reverse).reverse
def abo{N:Type}(p:N->Bool)(l:List N):(l.dropWhile p).length<=l.length:=(LG (l:=l) p).length_le
def sv{N:Type}{p:N->Bool}{l:List N}(h:l.length<=(l.dropWhile p).length):l.dropWhile p=l:=(LG (l:=l) p).eq_of_length_le h
def ju:(Qf left c l).length<=l.length:=by
 cases left
 exact AH _;exact abo _ _
def iM(h:l.length<=(Qf left c l).length):Qf left c l=l:=by
 cases left
 rfl
 exact sv h
def t7:(OJ left right c l).length<=l.length:=by delta OJ;rw[BH];exact Aa ju (by rw[BH];exact ju)
def sx(h:(OJ left right c l).length=l.length):OJ left right c l=l:=by delta OJ at h⊢;rw[BH]at h;have N:=iM (left:=right) (c:=c) (l:=(Qf left c l).reverse) (h▸(by rw[BH];exact ju:(Qf left c l).reverse.length<=l.length));rw[N,BH]at h;rw[N,Dg];exact iM<|Ap h.symm
def bX{id:String}{b:Ot}{t:Tok}{Q:Ot->AZ->Prop}(h:Q b s):AB (model prog w) A (Bytes.bytesLike id (AF b t)) Q E s:=by delta Bytes.bytesLike;rw[Gh];exact Ab<|Aj<|Aj h
def yw{name:String}{b c:Ot}{t N:Tok}{R:Fin->AZ->Prop}(X:selfAndSome s!"{Bytes.Kind.bytes.name}.{name}" name 0 1 ⟨[AF b t,AF c N],[]⟩=AJ (AF b t,[AF c N]))(C:b.size<=Nh)
  (h:∀t' k,R (CN (Cr (AF (OJ left right c.toList b.toList).toArray t'))) {s with toks:=k}):AB (model prog w) A (Bytes.stripM Dj name left right ⟨[AF b t,AF c N],[]⟩) R E s:=by
 delta Bytes.stripM;refine Ab<|AI X ?_
 dsimp only;refine Ab<|bX<|Ab<|Aj<|Ab<|AI (a:=b) H ?_
 have Q:(if right=J then(GL c.contains (if left=J then GL c.contains b.toList else b.toList).reverse).reverse else if left=J then GL c.contains b.toList else b.toList)=OJ left right c.toList b.toList:=by
  delta OJ Qf;rw[show c.contains=c.toList.contains from funext λx=>LW (l:=c.toList)▸H]
  cases right
  exact(Dg _).symm
  rfl
 rw[Q]
 by_cases I:((OJ left right c.toList b.toList).length==b.size)=J
 ·rw[Nt I];refine Ab<|BD<|Ab<|AI (a:=AF b t) H<|Aj ?_
  have:=h t s.toks;rw[(sx (N2 I):OJ left right c.toList b.toList=b.toList)]at this;exact this
 rw[Np I];exact Ab<|EX (Aj (h _ _))<|bc<|Aa (t7:(OJ left right c.toList b.toList).length<=b.size) C
end
section
variable{n:Nat}{x:Wd B}{σ:M5}{Q:KE}{b c:M6}{v u:AM}
def Uv(left right:Bool)(c b:M6):=if right=J then NL c (if left=J then Ob c b else b)else if left=J then Ob c b else b
def vP(left right:Bool)(c l:List UInt8):nats (OJ left right c l)=Uv left right (nats c) (nats l):=by
 delta OJ Uv Qf NL Ob;have N:∀m,nats m.reverse=(nats m).reverse:=λm=>DZ
 cases left<;>cases right
 rw[Np Bh,Np Bh,Np Bh,Np Bh,Dg];rw[Nt H,Np Bh,Nt H,Np Bh,N,cz,N];rw[Np Bh,Nt H,Np Bh,Nt H,Dg,cz];rw[Nt H,Nt H,Nt H,Nt H,N,cz,N,cz]
def dC{N:Ot}(e:N.toList.map Br=b):N.size=b.length:=by rw[<-e,Ak];rfl
def jv{f:LA}(hf:∀a,f a=Builtin.Bytes.stripM Dj name left right a)(hs:∀b c t N,selfAndSome s!"{Builtin.Bytes.Kind.bytes.name}.{name}" name 0 1 ⟨[AF b t,AF c N],[]⟩=AJ (AF b t,[AF c N]))
  (hv:Rd x v (W b)) (hu:Rd x u (W c)) (q:Q (W (Uv left right c b)) x.σ):Wp n noOwn (f ⟨[v,u],[]⟩) (λR y=>∃r,R=CN (Cr r)/\dS Q r y) x:=λA Z=>by
 obtain⟨b',t,rfl,e,m⟩:=aq.inv hv;obtain⟨X,N,rfl,e2,m2⟩:=aq.inv hu;rw[hf];refine up<|yw (hs _ _ _ _) (by rw[dC e];exact m) λC k=>?_
 have I:(OJ left right X.toList b'.toList).map Br=Uv left right c b:=by rw[<-e,<-e2];exact vP ..
 refine .mk (x.toks k) H (Wd.bL k) ⟨_,H,.mk _ (aq.bytes _ C _ I ?_) q⟩;rw[<-I,Ak];exact Aa t7<|Aa (Ap (dC e)) m
def cH(q:Q (W (Pm c b)) σ):Nr B (n+1) 15 [W b,W c] σ Q:=aQ H λs A e I=>call2 I λv u N R=>by subst e;exact cF Fa.eF (ag8 N).is Fa.iC aY (Fa.g6 _ _) (jv (name:="strip") (left:=J) (right:=J) (λZ=>H) (λZ Z Z Z=>H) N R q)
def qj(q:Q (W (Ob c b)) σ):Nr B (n+1) 16 [W b,W c] σ Q:=aQ H λs A e I=>call2 I λv u N R=>by subst e;exact cF Fa.dX (ag8 N).is Fa.gX aY (Fa.gJ _ _) (jv (name:="lstrip") (left:=J) (right:=Am) (λZ=>H) (λZ Z Z Z=>H) N R q)
def bR(q:Q (W (NL c b)) σ):Nr B (n+1) 17 [W b,W c] σ Q:=aQ H λs A e I=>call2 I λv u N R=>by subst e;exact cF Fa.dY (ag8 N).is Fa.gY aY (Fa.gK _ _) (jv (name:="rstrip") (left:=Am) (right:=J) (λZ=>H) (λZ Z Z Z=>H) N R q)
def mW(q:Q (Ar (SH k b i)) σ):Nr B (n+1) 20 [W b,W [k],Ar (G i)] σ Q:=aQ H λs vs e hs=>yo hs λv u y hv hu hy=>by
 subst e;obtain⟨N,t,rfl,e,m⟩:=aq.inv hv;obtain⟨c',C,rfl,e2,m2⟩:=aq.inv hu;obtain⟨t3,rfl⟩:=aq.inv hy;obtain⟨c,rfl,hc⟩:=fy e2;refine cF Fa.fG ((ag8 hv).is) Fa.jq aY (Fa.iH _ _ _) λA rm=>up ?_;show AB _ _ (Jv Dj "find" Am Am _) _ _ _;delta Jv Builtin.Bytes.searchArgs;refine Ab<|Ab<|AI (a:=(AF N t,[AF #[c] C,By i t3])) H<|Ab (m:=JN (U (By i t3))) ?_
 delta JN;refine Ab (Bj (T:="int") (FQ _ _ _) KN.lookup (Gn (KH (Bh:¬(Option.isNone (U _)=J)) ?_)));refine Ab<|AI (a:=(i:Int)) H<|Aj<|Ab (m:=(AJ Y:Sem (Option Int)))<|Aj ?_
 show AB _ _ (DP _ (AF #[c] C)>>=_) _ _ _;rw[Gh];refine Ab<|Aj<|Ab<|Aj<|Ab<|AI (a:=N) H ?_
 have hw:JL N.size (U (i:Int)) Y=((i:Int),(N.size:Int)):=by delta JL;have X:¬((i:Int)<0):=CI.mpr (AW i);simp only[Option.getD_some,Option.getD_none,X,(CI.mpr (AW _):¬((N.size:Int)<0)),if_false];rw[Int.min_self]
 rw[hw];refine Aj ?_
 have R:∀r,r=SH k b i->AB B.M A (retInt r) (aP noOwn s λR y=>∃r,R=CN (Cr r)/\dS Q r y) PI s.sh:=λr hr=>by subst hr;exact Ab<|GU<|Aj<|.mk (s.toks _) H (Wd.bL _) ⟨_,H,.mk _ (aq.int _ _) q⟩
 by_cases I:i<N.size
 ·have X:¬((N.size:Int)-i<((#[c]:Ot).size:Int)):=by exact CI.mpr<|Int.sub_pos_of_lt<|BN.mpr I
  rw[Np X];show AB _ _ (match(Hg N #[c] (i:Int).toNat (N.size:Int).toNat)with|some i=>_|none=>_) _ _ _;rw[EL,EL,qd N c i I]
  have hf:((N.toList.drop i).findIdx? (· ==c))=((b.drop i).findIdx? (· ==k)):=by rw[<-nL,<-hc,<-e,<-Ld]
  rw[hf];have hd:SH k b i=match(b.drop i).findIdx? (· ==k)with|some j=>((i+j:Nat):Int)|none=> -1:=H
  cases hq:(b.drop i).findIdx? (· ==k)with
  |none=>exact Ab (BD (R _ (by rw[hd,hq])))
  |some j=>exact R _ (by rw[hd,hq])
 have X:((N.size:Int)-i<((#[c]:Ot).size:Int)):=by exact Int.lt_add_one_of_le<|Int.sub_nonpos_of_le<|Bq.mpr<|Fs.mp I
 rw[Nt X];refine Ab<|BD<|R _ ?_
 delta SH;rw[DK.mpr ((dC e)▸Di I)]
 rfl
def nO{k:Nat}(h:b.contains k=Am)(q:Q (W b) σ):Nr B (n+1) 21 [W b,W [k],W c] σ Q:=aQ H λs vs e hs=>yo hs λv u y I hu hy=>by
 subst e;obtain⟨N,t,rfl,e,m⟩:=aq.inv I;obtain⟨c',X,rfl,C,m2⟩:=aq.inv hu;obtain⟨d',t3,rfl,e3,m3⟩:=aq.inv hy;obtain⟨R,rfl,hc⟩:=fy C;refine cF Fa.dz ((ag8 I).is) Fa.gH aY (Fa.fZ _ _ _) λA rm=>up ?_;show AB _ _ (Jf Dj _) _ _ _;delta Jf;refine Ab<|AI (a:=(AF N t,[AF #[R] X,AF d' t3])) H ?_
 refine Ab<|bX<|Ab<|bX ?_
 refine Ab<|Aj<|Ab<|bX<|Ab<|bX<|Ab<|AI (a:=N) H ?_
 have h1:(if(#[R]:Ot).isEmpty=J then D3 (N.size+1)else IA N #[R] 0 N.size)=[]:=by rw[t6,(yp R _ 0 (by show(N.toList.map Br).contains R.toNat=Am;rw[e,hc];exact h):idxs R N.toList 0=[])];rfl
 rw[h1];refine Gn<|KBc.ite_yes (by simp)<|Ab<|BD<|Ab<|AI (a:=AF N t) H ?_
 exact Aj<|.mk s H (LE.refl _) ⟨_,H,.mk _ (aq.bytes N t b e m) q⟩
end
section
variable{M:K5}{A:CP}{E:O3}{s:AZ}
def vQ(h:guardsOf l=[]):∀x∈l,x.1.isGuard=Am:=λx N=>Bp.mpr (LD.mp h x.1 (Ca N))
def iN{c:Prop}[Decidable c]{f:c->Bool}{g:¬c->Bool}(R:c->False)(N:∀h,g h=Am):dite c f g=Am:=by rw[dif_neg R];exact N _
set_option tactic.hygienic true in
def f9{Q:Bool->AZ->Prop}(hgd:A.guards=U [])(h:Q Am s):wpAny M A (Jh self) Q E s:=by
 intro Γ p i j
 delta Jh
 rw[Sem.wp_bind']
 delta stack
 rw[Sem.wp_stack]
 have hg:=List.append_eq_nil_iff.mp (i.2.2.2.1 [] hgd)
 have h1:Γ.code.isGuard=Am:=by
  cases e:Γ.code.isGuard with
  |false=>rfl
  |true=>
   have:=hg.1
   unfold Ma at this
   rw[Nt e]at this
   cases this
 have key:∀f,(∀x,x.1.isGuard=Am->dec x.1=Am->f x=Am)->Sem.wp M Γ (AJ (((Γ.code,p)::Γ.below).any f):Sem Bool) (λa Z s'=>Q a s') (λe Z s'=>E e s') p s:=λf hf=>by
  have:((Γ.code,p)::Γ.below).any f=Am:=G6.mpr λx hx=>by
   rw[(AQ.mp hx).elim (λe=>e▸hf _ h1 j.1) λhx=>hf x (vQ hg.2 x hx) (j.2 x hx)]
   exact Bh
  rw[this]
  exact h
 refine key _ λx g d=>?_
 obtain⟨c,q⟩:=x
 cases c<;>first|rfl|skip
 rename_i id args
 have no:∀{s},guardIds.contains s=J->¬id=s:=λhs e=>by subst e;exact A9 (aO hs g)
 delta Mb
 refine iN (no aY) λZ=>iN (no aY) λZ=>iN (no aY) λZ=>iN (no aY) λZ=>iN (no aY) λZ=>?_
 obtain⟨pos,kw⟩:=args
 cases pos with
 |nil=>rfl
 |cons v r=>exact(M7 (Builtin.Bytes.sameRef v self&&·) d).trans (GN _)
end
section
variable{n:Nat}{x:Wd B}{σ:M5}{Q:KE}{a:AG}{b c:M6}
def hZ{f:Ot->Ot}{R:Unit->AZ->Prop}(C:x.σ a=U (CF b))(e:x.sh.heap.get? a=U {cls:=An "bytearray",data:=B7 u 0})(hf:(f u).toList.map Br=c)(X:c.length<=Nh)
  (q:∀y:Wd B,y.σ=x.σ.set a (CF c)->LN x y->R () y.sh):AB B.M A (EC (Ai a) f) R PI x.sh:=by
 delta EC updateBytearray;refine Ab<|CY e<|Ab<|PySem.wpAny_update e ?_
 have I:=Dz (Obj.mapBytearray f) e H;exact Lh I (Np (Fs.mpr ((dC hf:(f u).size=c.length)▸bc X)))<|aP.casesOn (aP.upd (R:=λ_ y=>y.σ=x.σ.set a (CF c)/\LN x y) (r:=()) (t:=x.sh.toks) (o':=CF c) C (Dd x.sh.heap a (Obj.mapBytearray f)) O.pq (λZ=>⟨f u,I,hf,X⟩) λy e l=>⟨e,l⟩) λy e Z N=>e▸q y N.1 N.2
def dZ{A:CP}{u:Ot}{R:Unit->AZ->Prop}(N:A.guards=U [])(e:x.sh.heap.get? a=U {cls:=An "bytearray",data:=B7 u 0})(q:R () x.sh):wpAny B.M A (Gb (Ai a)) R PI x.sh:=by
 delta Gb;refine agY ?_;delta orM;refine agY<|f9 N ?_
 show wpAny _ _ (EP (Ai a)>>=λn=>AJ (decide (n>0))) _ _ x.sh;refine agY<|up ?_
 delta EP;exact Ab<|CY e<|Aj<|agZ<|agZ q
def nP(R:Rd x v (Av a))(N:x.σ a=U (CF b)):v=Ai a/\x.sh.TypeIs (Ai a) "bytearray"/\∃u,x.sh.heap.get? a=U {cls:=An "bytearray",data:=B7 u 0}/\u.toList.map Br=b:=by obtain rfl:v=Ai a:=aq.inv R;obtain⟨u,e,I,_⟩:=x.ok.objs _ _ N;exact⟨H,⟨_,e,H⟩,u,e,I⟩
def qk{y:Wd B}(l:LN x y)(q:Q A5 y.σ):wpAny B.M A (ret AL) (aP noOwn x λN y=>∃v,N=CN (Cr v)/\dS Q v y) PI y.sh:=agZ (.mk y H l ⟨AL,H,.mk A5 aq.none q⟩)
def bY(R:σ a=U (CF b))(hl:b.length<Nh)(N:i<256)(q:Q A5 (σ.set a (CF (b++[i])))):Nr B (n+1) 28 [Av a,Ar (G i)] σ Q:=aQ H λs vs e X=>call2 X λv u C hu=>by
 subst e;obtain⟨rfl,hT,I,e,hb⟩:=nP C R;obtain⟨t,rfl⟩:=aq.inv hu;refine cF Fa.cD hT Fa.fq aY (Fa.eH _ _) λA rm=>?_;delta Builtin.«bytearray.append»;refine agY<|up<|AI H<|agY<|up ?_
 delta Builtin.Bytes.byteValue;refine Ab<|AI H<|Cm (CX.mpr ⟨N8 (CI.mpr (AW i)),N8 (CI.mpr (Bq.mpr (Eh N)))⟩)<|Aj ?_
 refine agY<|dZ rm.guards e<|agY<|up<|hZ R e ?_ ?_ λy e l=>qk l<|e▸q
 show((I.push (i:Int).toNat.toUInt8).toList).map Br=_;rw[EL,IV,AS,hb];exact M7 (b++[·])<|Hr N
 rw[Ad];exact hl
def iO{E:O3}{id:String}{b:Ot}{t:Tok}{R:Option (Ot×Option AM)->AZ->Prop}(h:R (U (b,Y)) s):AB (model prog w) A (HL id (AF b t) 0) R E s:=by
 delta HL Builtin.Bytes.takeBuffer?;rw[KBy.special_eq KBy.look_buffer,KBy.own_buffer];refine Ab<|HS<|Ab<|Aj<|Ab<|Aj ?_
 rw[Np aG];refine Ab<|Aj ?_
 show AB _ _ (DP id (AF b t) (0==Io)>>=_) _ _ _;rw[show((0:Int)==Io)=Am from H,Gh];exact Ab<|Aj<|Aj<|Aj h
def fA(X:σ a=U (CF b))(hl:b.length+c.length<=Nh)(q:Q A5 (σ.set a (CF (b++c)))):Nr B (n+1) 29 [Av a,W c] σ Q:=aQ H λs vs e hs=>call2 hs λv u hv hu=>by
 subst e;obtain⟨rfl,hT,u',e,hb⟩:=nP hv X;obtain⟨I,t,rfl,C,m2⟩:=aq.inv hu;refine cF Fa.cE hT Fa.fs aY (Fa.eI _ _) λA rm=>?_;delta Builtin.«bytearray.extend»;refine agY<|up<|AI H ?_
 dsimp only;rw[KBy.special_eq KBy.look_buffer];refine agY<|agZ ?_
 rw[Nt (H:(U (AK "bytes.__buffer__")).isSome=J)];refine agY<|up<|BD<|agY<|up ?_
 delta Jw Jg;refine Ab<|Ab<|CY e<|Aj<|Aj<|agY<|up<|iO ?_
 dsimp only;rw[Nt (H:(Y:Option AM).isNone=J)]
 have N:wpAny B.M A (EC (Ai a) (· ++I)>>=λZ=>ret AL) (aP noOwn s λN y=>∃v,N=CN (Cr v)/\dS Q v y) PI s.sh:=
  agY (up (hZ X e (by rw[Gr,AS,hb,C]:(u'++I).toList.map Br=b++c) (by rw[Ad];exact hl) λy e l=>qk l (e▸q)))
 show wpAny _ _ (if(!I.isEmpty)=J then Gb (Ai a)>>=λZ=>_ else _) _ _ s.sh
 by_cases R:(!I.isEmpty)=J
 rw[Nt R];exact agY<|dZ rm.guards e N
 rw[Np R];exact N
end
set_option backward.match.sparseCases true
namespace Fa
def ql:D9 (An "bytearray") "__bytes__"=AJ Y:=by rw[BJ,Bb];kernel_rfl
def qm:D9 (An "bytearray") "__index__"=AJ Y:=by rw[BJ,Bb];kernel_rfl
def jw:D9 (An "bytearray") "__buffer__"=AJ (U (AK "bytearray.__buffer__")):=by rw[BJ,Bb];kernel_rfl
def sy:D9 (An "bytearray") "__release_buffer__"=AJ (U (AK "bytearray.__release_buffer__")):=by rw[BJ,Bb];kernel_rfl
def sA:mroOf (An "bytearray")=AJ [An "bytearray",An "object"]:=by rw[mroOf_type];kernel_rfl
def ad8:D9 (An "bytearray") "__new__"=AJ (U (AK "bytearray.__new__")):=by rw[BJ,Bb];kernel_rfl
def nQ:DI table "bytearray.__new__"=U Builtin.«list.__new__»:=entryFor_alias (id':="list.__new__") (by kernel_rfl) (by first|rfl|decide+kernel) aY (by kernel_rfl)
def nR:isSubtype (An "bytearray") (An "bytearray")=AJ J:=by rw[CB];kernel_rfl
def mm:DI table "bytearray.__init__"=U Builtin.«bytearray.__init__»:=by first|exact Cp (by kernel_rfl)|exact Cq (by kernel_rfl)
def bZ:Ii "bytearray" "__init__" "bytearray.__init__":=
 .of (owner:="bytearray") (n:="__init__") (by rw[BJ,Bb];kernel_rfl) aY aY aY (by first|exact .inl aY|exact .inr aY) (by rw[CB];kernel_rfl)
def fN(a:AM):DM "bytearray.__init__" ⟨[a],[]⟩:=by delta DM;rw[Dc (id:="bytearray.__init__") (n:=['_','_','t','i','n','i','_','_']) (o:=['y','a','r','r','a','e','t','y','b']) (by kernel_rfl) bH];kernel_rfl
def eO:TypeCalled "bytearray" "bytearray.__new__" "bytearray.__init__":=
 ⟨by decide+kernel,by decide+kernel,⟨_,_,sA⟩,madeBy_type sA ad8 aY,by decide+kernel,nR,bZ⟩
def qo:checkTypeCall "bytearray" ⟨[],[]⟩=AJ ():=by kernel_rfl
def sC:Gu "bytearray.__new__" ⟨[An "bytearray"],[]⟩=AJ ():=by kernel_rfl
def abp:Builtin.Bytes.bindOptional "bytearray.__init__" "bytearray" ["source","encoding","errors"] [] []=AJ [Y,Y,Y]:=by kernel_rfl
def yx:("bytearray.__new__".splitOn ".__new__").headD ""="bytearray":=M7 (·.headD "") split_bytearray
end Fa
section
variable{prog:CZ}{w:Dy}{A:CP}{E:O3}{s:AZ}
def yy{name:String}{id:String}{Q:Bool->AZ->Prop}(N:s.TypeIs v "bytearray")(X:D9 (An "bytearray") (name:Str)=AJ (U (AK id)))(I:id.endsWith ("."++name)=J)(R:id.dropRight (name.length+1)="bytearray")(h:Q J s):
  AB (model prog w) A (I7 v name) Q E s:=by
 delta I7;refine Ab<|Bj N X ?_
 dsimp only;rw[I,R];exact Dm N Fa.nR h
def gM{Q:Bool->AZ->Prop}(N:s.TypeIs v "bytearray")(h:Q Am s):AB (model prog w) A (Gq v) Q E s:=by delta Gq;exact Ab<|yy N Fa.sy aY aY<|Aj h
def mn{id:String}{full:Bool}{a:AG}{u:Ot}{Q:Option Ot->AZ->Prop}(e:s.heap.get? a=U {cls:=An "bytearray",data:=B7 u 0})(h:Q (U u) s):AB (model prog w) A (DP id (Ai a) full) Q E s:=by
 have N:s.TypeIs (Ai a) "bytearray":=⟨_,e,H⟩;delta DP;refine Ab<|Bj N Fa.jw<|Ab<|yy N Fa.jw aY aY ?_
 refine Cm H<|Ab<|Bj N Fa.jw ?_
 show AB _ _ (Gq (Ai a)>>=_) _ _ _;refine Ab<|gM N<|Cm H<|Ab ?_
 delta Jw Jg;exact Ab<|Ab<|CY e<|Aj<|Aj<|Aj h
def sD{a:AG}{u:Ot}{Q:O3}(e:s.heap.get? a=U {cls:=An "bytearray",data:=B7 u 0})(hz:u.size<=Eu)(N:∀t k,Q (AF u t) {s with toks:=k}):
  H9 (model prog w) A (GC (AK "bytes.__new__") ⟨[An "bytes",Ai a],[]⟩) (wants Q E) s:=by
 refine Ls ?_;show AB _ A.in1 (do Gu "bytes.__new__" ⟨[An "bytes",Ai a],[]⟩;again (Co "bytes.__new__" ⟨[An "bytes",Ai a],[]⟩)) _ _ s;refine Ab<|AI (PySem.F.bm_newCall _)<|Aj ⟨Fu Mn _,PySem.codeAny_builtin PySem.F.bm_entry ?_⟩
 rw[DH Mn _];have R:s.TypeIs (Ai a) "bytearray":=⟨_,e,H⟩;delta Builtin.«bytes.__new__»;refine Ab<|AI (a:=J) H<|Cm H<|Ab<|AI PySem.F.bm_sub ?_
 refine Cm H<|Ab<|AI (PySem.F.bm_bind _)<|Ab<|AI (a:=()) H ?_
 refine Ab<|AI (a:=()) H<|Cm H<|Ab<|Bj R Fa.ql ?_
 refine Ab<|Ab ?_
 show AB _ _ (load a>>=_) _ _ _;refine Ab<|CY e<|Aj<|Aj ?_
 refine Cm H<|Ab<|Bj R Fa.qm<|FR H ?_
 first
  |show AB _ _ (DP "bytes.__new__" (.ref a) J>>=_) _ _ _
  | (refine Ab ?_;show AB _ _ (DP "bytes.__new__" (.ref a) J>>=_) _ _ _)
 refine Ab<|mn e<|Ab<|BD<|Ab<|EX ?_ hz
 show AB _ _ (if(An "bytes"==An "bytes")=J then _ else _) _ _ _;refine FR H ?_
 first
  |exact Aj (N _ _)
  |exact Ab (Aj (Aj (N _ _)))
  |exact Aj (Aj (N _ _))
end
def nS{s:AZ}{R:F7->AZ->Prop}(h:R (CT (Cr (Ai s.heap.objs.size))) {s with heap:=s.heap.push {cls:=An "bytearray",data:=B7 #[] 0}}):
  H9 (model prog w) A (GC (AK "bytearray.__new__") ⟨[An "bytearray"],[]⟩) R s:=by
 refine Ls ?_;show AB _ A.in1 (do Gu "bytearray.__new__" ⟨[An "bytearray"],[]⟩;again (Co "bytearray.__new__" ⟨[An "bytearray"],[]⟩)) _ _ s;refine Ab<|AI Fa.sC<|Aj ⟨Fu Fa.eO.plain _,codeAny_builtin_stack Fa.nQ H λp N=>?_⟩
 rw[DH Fa.eO.plain _];dsimp only;rw[Fa.yx];refine Ab<|AI (a:=J) H<|Cm H<|Ab<|AI Fa.nR ?_
 refine Cm H ?_;show AB _ _ (AJ (B7 #[])>>=_) _ _ _;exact Ab<|Aj<|FR aY<|Ab<|Cf (Aj h) (by size_fits)
def qp{w:Dy}{A:CP}{E:O3}{s:AZ}{k:AG}{Q:Option AM->AZ->Prop}(I:A.guards=U [])(R:s.heap.get? k=U {cls:=An "bytearray",data:=B7 #[] 0})
  (h:wpAny (model prog w) A.in1 (EC (Ai k) (λZ=> #[])) (λZ s'=>Q (U AL) s') E s):wpAny (model prog w) A (Fh (Ai k) "__init__") Q E s:=by
 have N:s.TypeIs (Ai k) "bytearray":=⟨_,R,H⟩;delta Fh;refine agY<|up<|Bj N Fa.bZ.lookup<|ag2 ?_
 rw[Fa.bZ.bind];refine agY<|agZ<|agY<|aha<|ag9 (Fu Fa.bZ.plain _) Fa.mm aY<|up<|Fa.bZ.check _ _ _ _ _ _ _ _ N (Fa.fN _) ?_
 rw[DH Fa.bZ.plain];delta Builtin.«bytearray.__init__»;refine agY<|up<|gM N<|eA H<|agY<|up<|AI Fa.abp ?_
 dsimp only;refine agY<|up<|AI (a:=()) H<|agY<|up<|AI (a:=()) H ?_
 refine agY (m:=orM _ _) ?_;delta orM;refine agY<|f9 I ?_
 show wpAny _ _ (EP (Ai k)>>=λn=>AJ (decide (n>0))) _ _ _;refine agY<|up ?_
 delta EP;refine Ab<|CY R<|Aj<|agZ ?_
 rw[Np aG];exact agY<|ag1 h (λZ s' q=>agZ (a:=CN (Cr AL)) (agZ q)) λZ Z f=>f
section
variable{n:Nat}{x:Wd B}{σ:M5}{Q:KE}{a:AG}{b c:M6}{o:V}{vs:LVal}
def cf(C:σ a=U (CF b))(q:Q (W b) σ):Nr B n 9 [Av a] σ Q:=aQ H λs vs e y=>cQ y λv hv A rm=>by
 subst e;obtain⟨rfl,hT,u,e,X⟩:=nP hv C;obtain⟨_,_,_,m⟩:=s.ok.objs _ _ C
 refine up (callType_codes (Q₁:=λI N=>N.TypeIs I "bytes"/\aP noOwn s (dS Q) I N) Ij (PySem.F.bm_typeCall _) PySem.F.entry_object_init
  (sD e (by rw[dC X];exact bc m) λt k=>⟨C5 _ _ _,cj X m q⟩) λI N R=>?_)
 exact⟨R.1,PySem.F.args_object_init_2 I _,object_init_meets Ij.init.lookup Ij.made H B.prog B.w A.in1 _ N ⟨R.1,H,R.2⟩⟩
def abq(h:Nq x vs (N9 b)):IntsAre vs (b.map G):=by
 induction b generalizing vs with
 |nil=>exact h.e0 (CL:=λvs=>IntsAre vs []) .nil
 |cons c b I=>exact h.dp (CL:=λvs=>IntsAre vs ((c::b).map G)) λv vs N R=>(N.l9 (C:=λv=>IntsAre (v::vs) ((c::b).map G)) λt=>.cons _ t (I R))
def nT(h:∀x∈b,x<256):(byteArr (b.map G)).toList.map Br=b:=by delta byteArr;rw[Mp,Bo,Bo];exact(Ie λy N=>(Hr (h y N):_=id y)).trans<|HP b
def aH(ho:SF σ o=U (N9 b))(h:∀x∈b,x<256)(q:Q (W b) σ):Nr B n 9 [o] σ Q:=aQ H λs vs e R=>cQ R λv hv A rm=>by
 subst e;obtain⟨a,vs,k,rfl,e,N,R⟩:=fT hv ho;refine up<|PySem.call_bytes_ints (ns:=b.map G) (⟨_,e,H,k,H⟩:s.sh.heap.IsList a vs.toArray) (abq R) (λm I=>?_) (R.arr N) rm.handled λh' t k hk=>?_
 obtain⟨y,C,rfl⟩:=A0.mp I;exact⟨AW _,BN.mpr (h y C)⟩;obtain⟨z,e1,X,l,_⟩:=s.grown (h:=h') (t:=k) hk;exact .mk z e1 l<|.mk _ (aq.bytes _ t b (nT h) (Aa (Ap (Ak ..).symm) N:b.length<=Nh))<|X▸q
def eP(q:∀a,σ a=Y->Q (Av a) (σ.set a (CF []))):Nr B n 8 [] σ Q:=aQ H λs vs e X A C=>by
 subst e;obtain rfl:=aE.dQ X;have N:(QR s.toSt {cls:=An "bytearray",data:=B7 #[] 0} s.sh.toks s.φ (s.σ.set s.sz (CF []))).get? s.sz=U {cls:=An "bytearray",data:=B7 #[] 0}:=bC H
 have R:wpAny B.M A.in1.in1 (EC (Ai s.sz) (λZ=> #[])) (λZ I=>aP noOwn s (dS Q) (Ai s.sz) I) PI {s.sh with heap:=s.sh.heap.push {cls:=An "bytearray",data:=B7 #[] 0}}:=
  up (hZ (x:=s.RQ {cls:=An "bytearray",data:=B7 #[] 0} (CF []) s.sh.toks ⟨#[],N,H,Aq _⟩) (M5.ag _ _) N (c:=[]) H (Aq _) λy e l=> .mk y H ((dh s _ _ _).trans l) (.mk _ (aq.ref _) (e▸(show Q _ ((s.σ.set _ _).set _ _) by rw[M5.set_set];exact q _ (s.aW (aI _))))))
 refine aha<|ag3 ?_ H
 show wpAny _ _ (callAny (An "bytearray") _) _ _ _;refine agZ (a:=Gv (Co "type.__call__" ⟨[An "bytearray"],[]⟩)) ⟨Iy _ aY,ahd Kl ?_ aY⟩;rw[Mc (weight_type_call_type "bytearray" [] []) H];delta Builtin.«type.__call__»;refine eA Fa.eO.notType<|eA Fa.eO.canCreate<|agY<|up<|AI Fa.qo ?_
 refine agY<|up<|AI Fa.sA<|eA H<|agY<|up<|AI Fa.eO.made ?_
 refine agY<|agZ<|agY<|ag2<|aha<|upc<|nS<|agY<|up<|Dm ⟨_,N,H⟩ Fa.nR ?_
 exact eA H<|agY<|ag2<|qp C.guards N<|ag1 R (λZ I q=>eA H (agZ (a:=CN (Cr _)) q)) λZ Z f=>f
end
set_option backward.match.sparseCases false
def nU{R:Type}[BEq R](c:R)(l:List R):∀N p,p∈Nn c N l->p.length<=N.length+l.length:=by
 induction l with
 |nil=>exactλN p h=>Ap (M7 CH (AV.mp h))
 |cons x l I=>
  intro N p h
  cases e:x==c with
  |true=>
   rcases AQ.mp (fw e▸h)with h|h
   exact h▸AD _ _;exact Aa (I [] p h)<|Aa (Ap (A1 _))<|Aa (B4 _)<|Bl _ _
  |false=>exact Aa (I _ p (dA e▸h)) (Ap ((M7 (· +l.length) Ad).trans (BW N.length 1 l.length)))
def yz(c:UInt8)(l:List UInt8):∀k,(idxs c l k).length<=l.length:=by
 induction l with
 |nil=>exactλZ=>AH _
 |cons x l N=>
  intro k
  cases e:x==c with
  |true=>rw[nJ e];exact AX (N (k+1))
  |false=>rw[kZ e];exact CA (N (k+1))
inductive d4:LVal->List (List UInt8)->Prop
 |nil:d4 [] []
 |cons {p:Ot} {t:Tok} {vs:LVal} {ps:List (List UInt8)}:d4 vs ps->d4 (AF p t::vs) (p.toList::ps)
def vR{M:K5}{A:CP}{E:O3}{ps:List Ot}:∀{s} {Q},(∀p∈ps,p.size<=Eu)->(∀vs k,d4 vs (ps.map Fy)->Q vs {s with toks:=k})->AB M A (ps.mapM mkBytes) Q E s:=by
 induction ps with
 |nil=>exactλ{s} {Q} Z h=>(List.mapM_nil (m:=Sem))▸Aj (h [] s.toks .nil)
 |cons p ps I=>intro s Q N h;rw[GJ];exact Ab<|EX (Ab (I (λq X=>N q (Au _ X)) λvs k R=>Aj (h _ k (.cons R))))<|N p As
section
variable{prog:CZ}{w:Dy}
def vS(R:Ot)(ps:List Ot):nats (Fq R ps).toList=NJ (nats R.toList) (ps.map λp=>nats p.toList):=by
 delta Fq
 have X:∀(ps:List Ot) (k:Nat) (N:Ot),0<k->nats ((ps.zipIdx k).foldl (λN (x:Ot×Nat)=>(if x.2>0 then N++R else N)++x.1) N).toList=nats N.toList++((ps.map λp=>nats p.toList).map (nats R.toList++·)).flatten:=by
  intro ps
  induction ps with
  |nil=>intro k N _;simp
  |cons p ps A=>intro k N I;rw[List.zipIdx_cons,DT,A (k+1) _ aS];simp[nats,I]
 cases ps with
 |nil=>rfl
 |cons p ps=>rw[List.zipIdx_cons,DT];have:=X ps 1 ((if 0>0 then#[]++R else#[])++p) ae;simp only[NJ,Cc];rw[show(0:Nat)+1=1 from H,this];simp[nats]
def qq(N:Nat):∀(ps:List Ot) (k:Nat),ps.foldl (· +·.size) k=k+(ps.map Array.size).sum
 | [],k=>by simp
 |p::ps,k=>by rw[DT,qq N ps];simp;lia
def vT(N:M6):∀ps:Ni,(NJ N ps).length=N.length*(ps.length-1)+(ps.map CH).sum
 | []=>by simp[NJ]
 |p::ps=>by
  have:∀ps:Ni,((ps.map (N++·)).flatten).length=N.length*ps.length+(ps.map CH).sum:=by
   intro ps
   induction ps with
   |nil=>simp
   |cons q ps R=>simp only[Cc,Jb,Ad,R,Bn,List.sum_cons,FV];lia
  simp only[NJ,Ad,this,Bn,Nat.add_sub_cancel,Cc,List.sum_cons]
  lia
def nW{E:O3}{Q:Unit->AZ->Prop}(h:Q () s):∀N:List (AM×Option AM),(∀x∈N,x.2=Y)->AB (model prog w) A (Builtin.Bytes.joinLetGo N keep) Q E s:=λN=>by
 induction N with
 |nil=>exactλZ=>Aj h
 |cons p r X=>obtain⟨x,u⟩:=p;intro R;obtain rfl:u=Y:=R (x,u) As;exact Ab<|PySem.wpAny_letGo<|X λy I=>R y<|Au _ I
variable{n:Nat}{x:Wd B}{σ:M5}{Q:KE}{b c:M6}{o:V}{vs:LVal}
def d4.sim{ps:List (List UInt8)}(h:d4 vs ps)(N:∀p∈ps,p.length<=Nh):Nq x vs ((ps.map nats).map W):=by
 induction h with
 |nil=>exact Nq.nil
 |cons r I=>exact Nq.cons (aq.bytes _ _ _ H (by rw[Ak];exact N _ (As ..))) (I λp R=>N p (Au _ R))
def d4.of{ps:Ni}(h:Nq x vs (ps.map W)):∃us:List (Ot×Tok),vs=us.map (λu=>AF u.1 u.2)/\ps=us.map λu=>nats u.1.toList:=by
 induction ps generalizing vs with
 |nil=>exact h.e0 (CL:=λvs=>∃us:List (Ot×Tok),vs=us.map (λu=>AF u.1 u.2)/\[]=us.map λu=>nats u.1.toList) ⟨[],H,H⟩
 |cons p ps I=>obtain⟨v,vs,rfl,R,N⟩:=aE.inv h;obtain⟨us,rfl,rfl⟩:=I N;obtain⟨u,t,rfl,e,_⟩:=aq.inv R;exact⟨(u,t)::us,H,M7 (· ::_) e.symm⟩
def eQ(h:aP noOwn x (dS Q) v s):aP noOwn x (λN y=>∃r,N=CN (Cr r)/\dS Q r y) (CN (Cr v)) s:=aP.casesOn h λy e l q=>.mk y e l ⟨v,H,q⟩
def dD(q:Sw σ (AA ((NY k b).map W)) Q):Nr B (n+1) 18 [W b,W [k]] σ Q:=aQ H λs vs e hs=>call2 hs λv u I hu=>by
 subst e;obtain⟨N,t,rfl,e,m⟩:=aq.inv I;obtain⟨c',t2,rfl,e2,m2⟩:=aq.inv hu;obtain⟨c,rfl,hc⟩:=fy e2;have X:NY k b=(Nn c [] N.toList).map nats:=by rw[mh,hc,<-e];rfl
 refine cF Fa.eG ((ag8 I).is) Fa.iF (by decide+kernel) (Fa.g7 _ _) λA rm=>up ?_;show AB _ _ (JM Dj "split" Am _) _ _ _;delta JM;refine Ab<|AI (a:=[U (AF #[c] t2),Y]) (by kernel_rfl) ?_
 dsimp only;refine Ab<|Aj<|Ab<|AI (a:=N) H ?_
 skip;refine Ab<|bX<|Cm H ?_
 simp only[IF,if_false];have hsz:N.toList.length=b.length:=dC e
 have hpl:((IA N #[c] 0 N.size).take (if(-1:Int)<0 then N.size+1 else(-1:Int).toNat))=idxs c N.toList 0:=by rw[t6,Nt aG,C0];exact Aa (yz c N.toList 0)<|B4 N.size
 rw[hpl];have C:∀p∈Nn c [] N.toList,p.length<=Nh:=λp hp=>Aa (nU c _ _ p hp) (by rw[B5,A1,hsz];exact m)
 by_cases y:(idxs c N.toList 0).isEmpty=J
 ·rw[Nt y];refine Ab<|BD<|Ab<|AI (a:=AF N t) H<|Ab ?_
  delta newList;refine Cf (Aj ?_) (bc (show 1<=Nh by decide):sizeOk (El #[AF N t]));rw[(by rw[X,nK c _ 0 [] (DE.mp y),<-e];rfl:NY k b=[b])]at q;exact eQ<|bW (vs:=[AF N t]) (l:=[W b]) (Nq.cons I Nq.nil) q
 rw[Np y];refine Ab<|vR (λp hp=>?_) λvs k2 I=>?_
 exact bc<|C p.toList (by rw[<-jM];exact Ca hp)
 have h2:=jM N c;rw[h2]at I;have R:Nq s vs ((NY k b).map W):=by rw[X];exact I.sim C
 delta newList;exact Ab<|Cf (Aj (eQ (bW R q)))<|R.arr q.1
def sE{β:Type}{E:O3}{f:Nat->β->Sem (ForInStep β)}{R:β->AZ->Prop}(Z:Nat->β)
  (I:∀i,i<N->AB M A (f i (Z i)) (λr s'=>r=BX (Z (i+1))/\s'=s) E s) (X:R (Z N) s) (k:Nat):∀i,i+k=N->AB M A (forIn (Gm i k) (Z i) f) R E s:=by
 induction k with
 |zero=>exactλi e=>Aj ((show i=N from e)▸X)
 |succ k C=>
  intro i e;rw[Hl,Cv];refine Ab<|MK (I i (MX (Bz (DJ k)) e)) (λr s' q=>?_) λZ Z h=>h
  obtain⟨rfl,rfl⟩:=q;exact C (i+1)<|(Hh i k).trans e
def sF{β:Type}{E:O3}{f:Nat->β->Sem (ForInStep β)}{R:β->AZ->Prop}(Z:Nat->β){z:β}{N n:Nat}(e:Z 0=z)(C:n=N)
  (I:∀i,i<N->AB M A (f i (Z i)) (λr s'=>r=BX (Z (i+1))/\s'=s) E s) (X:R (Z N) s):AB M A (forIn (⟨0,n,1,Nat.one_pos⟩:Lq) z f) R E s:=by
 rw[GG];subst C e;rw[show(⟨0,n,1,Nat.one_pos⟩:Lq).size=n from by simp[IG]];exact sE Z I X n 0<|A1 n
def vU{N:Type}{l:List (Ot×Tok)}{A:AM->N}{R:N}{P:N->Prop}(I:l.length≠1)(h:P R):P (match(l.map λu=>AF u.1 u.2).toArray with| #[x]=>A x|_=>R):=by
 cases l with
 |nil=>exact h
 |cons u r=>cases r with
  |nil=>exact M9 H I
  |cons=>exact h
def ad9(us:List (Ot×Tok)):∃Z:Nat->Array Ot×List (AM×Option AM),Z 0=(#[],[])/\(∀i h,((Z i).1.push (us[i]).1,(Z i).2++[((AF (us[i]).1 (us[i]).2,Y):AM×Option AM)])=Z (i+1))/\
  (∀i,∀x∈(Z i).2,x.2=Y/\x.1.onHeap=Am)/\(Z us.length).1=(us.map Az).toArray:=by
 refine⟨λi=>(((us.take i).map Az).toArray,(us.take i).map λu=>((AF u.1 u.2,Y):AM×Option AM)),H,λi h=>?_,λi x m=>?_,?_⟩
 ·refine Prod.ext ?_ ?_
  ·show((us.take i).map Az).toArray.push _=((us.take (i+1)).map Az).toArray;rw[FJ h,AS,G1];rfl
  ·show(us.take i).map _++_=(us.take (i+1)).map _;rw[FJ h,AS];rfl
 obtain⟨u,Z,e⟩:=A0.mp m;exact e▸⟨H,H⟩;show((us.take us.length).map Az).toArray=_;rw[List.take_length]
def a7{ps:Ni}(ho:SF σ o=U (ps.map W))(C:(NJ b ps).length<=Nh)(q:Q (W (NJ b ps)) σ):Nr B (n+1) 19 [W b,o] σ Q:=aQ H λs vs e hs=>call2 hs λv u hv hu=>by
 subst e;obtain⟨a,ws,m,rfl,e,hlen,hws⟩:=fT hu ho;obtain⟨y,t,rfl,e1,m1⟩:=aq.inv hv;obtain⟨N,rfl,rfl⟩:=d4.of hws;have hlim:Nh=16777216:=H;refine cF Fa.fF ((ag8 hv).is) Fa.jo aY (Fa.iG _ _) λA rm=>up ?_;show AB _ _ (J0 Dj _) _ _ _;delta J0;refine Ab<|AI (a:=(AF y t,Ai a)) H ?_
 have I:∀{A} {E} {R} t,R (U (N.map λu=>AF u.1 u.2).toArray) {s.sh with toks:=t}->AB B.M A (Mz (Ai a)) R E {s.sh with toks:=t}:=λt h=>EM (s:={s.sh with toks:=t}) e H h;refine FR H<|Ab (m:=I8 (Ai a)) ?_
 delta I8;refine Ab (C8 (⟨_,e,H⟩:s.sh.TypeIs (Ai a) "list") ?_);skip;refine FR H<|Aj<|Ab<|I s.sh.toks ?_
 refine FR H ?_;have hsz:((N.map λu=>AF u.1 u.2).toArray).size=N.length:=by simp
 by_cases h1:N.length=1
 ·obtain⟨u,rfl⟩:∃u,N=[u]:=by
   match N,h1 with
   | [u],_=>exact⟨u,H⟩
  refine Ab (AI (a:=An "bytes") H (FR H (Ab (BD ?_))));have hj:NJ b ([u].map λu=>nats u.1.toList)=nats u.1.toList:=Ax _;rw[hj]at q C;exact Aj<|eQ<|cj H C q
 refine vU (P:=λt=>AB _ _ t _ _ _) h1 ?_;obtain⟨Z,z0,z1,z2,z3⟩:=ad9 N;have hx:∀k h,((N.map λu=>AF u.1 u.2).toArray).getD k AL=AF (N[k]).1 (N[k]).2:=λk h=>by simp[h]
 generalize((N.map λu=>AF u.1 u.2).toArray)=items at I hsz hx⊢;refine Ab<|sF Z z0 hsz (λk hk=>?_) ?_
 refine Ab (I s.sh.toks (Cm ((Bool.false_or _).trans (G6.mpr λx m=>Bp.mp ((z2 k) x m).2)) (Ab (C1 ?_))));rw[hx k hk];exact iO<|Ab<|I s.sh.toks<|Cm (bne_self_eq_false' ..)<|Aj ⟨M7 BX (z1 k hk),H⟩
 have X:nats (Fq y (Z N.length).1.toList).toList=NJ b (N.map λu=>nats u.1.toList):=by rw[z3,vS,show nats y.toList=b from e1,Bo];rfl
 have htot:Builtin.Bytes.tooLong ((Z N.length).1.foldl (· +·.size) (y.size*((Z N.length).1.size-1)))=Am:=by
  rw[z3];refine KBy.tooLong_not ?_;rw[List.foldl_toArray,qq 0];rw[vT]at C;simp only[Ak,Bo,I9]at C⊢;rw[(dC e1)]
  have:(N.map (Array.size∘Az)).sum=(N.map (CH∘λu=>nats u.1.toList)).sum:=by congr 1;apply Ie;intro u Z;simp
  rw[this,<-hlim];exact C
 refine Ab (AI (a:=y) H (Cm htot (Ab (EX (Ab (C1 (EE
  (Ab (nW (Aj (eQ (cj X C q))) _ λx hx=>(z2 _ x hx).1))))) (by rw[EF];exact(Aa (Ap (aO (Ak (f:=Br)) (M7 CH X))) C:(Fq y (Z N.length).1.toList).size<=Nh))))))
variable{z:V}{l:LV}{i j:Int}{p:Bool}
def cR{t:Nat}(N:Rd x v z)(q:Q z x.σ):aP noOwn x (dS Q) v {x.sh with toks:=t}:=.mk (x.toks t) H (Wd.bL t) (.mk z N.toks q)
def fB{t:Nat}{N:Heap}(X:∀b o,x.sh.heap.get? b=U o->N.get? b=U o)(R:∀y:Wd B,Rd y v z)(q:Q z x.σ):aP noOwn x (dS Q) v {x.sh with heap:=N,toks:=t}:=by obtain⟨y,I,A,l,_⟩:=x.grown (t:=t) X;exact .mk y I l<|.mk z (R y)<|A▸q
def cV{T:String}{r:Bool}(q:Q (Bm r) σ)(h:∀(s:Wd B) v,Rd s v o->∀A R,(∀N,R (B0 r) {s.sh with toks:=N})->wpAny B.M A (call (AK "isinstance") [v,An T] []) R PI s.sh):Nr B n 1 [o,Gj (An T)] σ Q:=aQ H λs vs e I=>call2 I λv u X C A Z=>by subst e;obtain rfl:u=An T:=aq.inv C;exact h s v X A _ λN=>cR (aq.bool r) q
def iP(q:Q (Bm J) σ):Nr B n 1 [Ar i,Gj (An "int")] σ Q:=cV q λs v I A R q=>by obtain⟨t,rfl⟩:=aq.inv I;exact up (HV kitx_int s.jc Oq (show JE B.K (An "int") (An "int")=U J by kernel_rfl) (by intro e;cases e) λN=>q N)
def yA(q:Q (Bm Am) σ):Nr B n 1 [Ar i,Gj (An "bool")] σ Q:=cV q λs v I A R q=>by obtain⟨t,rfl⟩:=aq.inv I;exact up (HV kitx_int s.jc Oq (show JE B.K (An "int") (An "bool")=U Am by kernel_rfl) (by intro e;cases e) λN=>q N)
def dE(q:Q (Bm Am) σ):Nr B n 1 [Ar i,Gj (An "bytes")] σ Q:=cV q λs v I A R q=>by obtain⟨t,rfl⟩:=aq.inv I;exact up (HV kitx_int s.jc Oq (show JE B.K (An "int") (An "bytes")=U Am by kernel_rfl) (by intro e;cases e) λN=>q N)
def vV(q:Q (Bm J) σ):Nr B n 1 [Bm p,Gj (An "bool")] σ Q:=cV q λs v I A R q=>by obtain rfl:v=B0 p:=aq.inv I;exact up (HV kitx_bool s.jc Oq (show JE B.K (An "bool") (An "bool")=U J by kernel_rfl) (by intro e;cases e) λN=>q N)
def vW(q:Q (Bm Am) σ):Nr B n 1 [Bm p,Gj (An "bytes")] σ Q:=cV q λs v I A R q=>by obtain rfl:v=B0 p:=aq.inv I;exact up (HV kitx_bool s.jc Oq (show JE B.K (An "bool") (An "bytes")=U Am by kernel_rfl) (by intro e;cases e) λN=>q N)
def cq(q:Q (Bm J) σ):Nr B n 1 [W b,Gj (An "bytes")] σ Q:=cV q λs v I A R q=>by obtain⟨X,t,rfl,_,_⟩:=aq.inv I;exact up (HV kitx_bytes s.jc Oq (show JE B.K (An "bytes") (An "bytes")=U J by kernel_rfl) (by intro e;cases e) λN=>q N)
def gc(q:Q (Bm Am) σ):Nr B n 1 [W b,Gj (An "int")] σ Q:=cV q λs v I A R q=>by obtain⟨X,t,rfl,_,_⟩:=aq.inv I;exact up (HV kitx_bytes s.jc Oq (show JE B.K (An "bytes") (An "int")=U Am by kernel_rfl) (by intro e;cases e) λN=>q N)
def vX(q:Q (Bm Am) σ):Nr B n 1 [W b,Gj (An "bool")] σ Q:=cV q λs v I A R q=>by obtain⟨X,t,rfl,_,_⟩:=aq.inv I;exact up (HV kitx_bytes s.jc Oq (show JE B.K (An "bytes") (An "bool")=U Am by kernel_rfl) (by intro e;cases e) λN=>q N)
def yB(q:Q (Bm Am) σ):Nr B n 1 [A5,Gj (An "bytes")] σ Q:=cV q λs v I A R q=>by obtain rfl:v=AL:=aq.inv I;exact up (HV kitx_none s.jc Oq (show JE B.K (An "NoneType") (An "bytes")=U Am by kernel_rfl) (by intro e;cases e) λN=>q N)
def yC(q:Q (Ar (if i<0 then-i else i)) σ):Nr B n 2 [Ar i] σ Q:=aQ H λs vs e N=>cQ N λv R A Z=>by subst e;obtain⟨t,rfl⟩:=aq.inv R;exact up<|PyProof.Rows.call_abs_int λu I=>ahg q
def k8(q:Q (Ar (G k)) σ):Nr B n 3 [B9 [k]] σ Q:=aQ H λs vs e R=>cQ R λv I A Z=>by subst e;obtain⟨⟨⟨N⟩⟩,t,rfl,e,m⟩:=aq.inv I;obtain rfl:N=[k]:=e;exact up<|PySem.P.ord_of_char<|ahg q
def bk(q:Q (Ar (if p then 1 else 0)) σ):Nr B n 11 [Bm p] σ Q:=aQ H λs vs e N=>cQ N λv R A Z=>by subst e;obtain rfl:v=B0 p:=aq.inv R;exact up<|PySem.call_int_bool<|ahg q
def sG(q:Q (Ar i) σ):Nr B n 11 [Ar i] σ Q:=aQ H λs vs e N=>cQ N λv R A Z=>by subst e;obtain⟨t,rfl⟩:=aq.inv R;exact up<|PySem.call_int_int<|cR (aq.int _ _) q
def sH{x:M6}(R:J8 ⟨x.toArray⟩=U i)(C:x.length<=640)(q:Q (Ar i) σ):Nr B n 11 [B9 x] σ Q:=aQ H λs vs e I=>cQ I λv X A Z=>by subst e;obtain⟨⟨⟨N⟩⟩,t,rfl,e,m⟩:=aq.inv X;obtain rfl:N=x:=e;exact up<|KIN.call_text R (by simpa [Str.length]using C)<|ahg q
def qs(q:Q (Bm p) σ):Nr B n 7 [Bm p] σ Q:=aQ H λs vs e N=>cQ N λv R A Z=>by subst e;obtain rfl:v=B0 p:=aq.inv R;exact up<|PySem.call_bool_bool<|cR (aq.bool _) q
def qt(q:Q (Bm Am) σ):Nr B n 7 [A5] σ Q:=aQ H λs vs e N=>cQ N λv R A Z=>by subst e;obtain rfl:v=AL:=aq.inv R;exact up<|PySem.call_bool_none<|cR (aq.bool _) q
def Sk(i:Int):=(CM (toString i)).cps.toList
def sJ(N:i.natAbs.log2<1920)(I:(Sk i).length<=Nh)(q:Q (B9 (Sk i)) σ):Nr B n 13 [Ar i] σ Q:=aQ H λs vs e R=>cQ R λv X A Z=>by subst e;obtain⟨t,rfl⟩:=aq.inv X;exact up<|PySem.P.str_of_int N<|cR (aq.str _ _ _ H I) q
def qv(q:Q (Ar (max i j)) σ):Nr B n 4 [Ar i,Ar j] σ Q:=aQ H λs vs e R=>call2 R λv u I C A X=>by
 subst e;obtain⟨t,rfl⟩:=aq.inv I;obtain⟨y,rfl⟩:=aq.inv C;refine up<|PySem.max_two_ints X.handled λh' tk N=>?_
 by_cases h:j>i
 rw[Nt h];rw[show max i j=j from Int.max_eq_right (FW h)]at q;exact fB N (λZ=>aq.int _ _) q;rw[Np h];rw[show max i j=i from Int.max_eq_left (CI.mp h)]at q;exact fB N (λZ=>aq.int _ _) q
def eS(q:Q (Ar (min i j)) σ):Nr B n 5 [Ar i,Ar j] σ Q:=aQ H λs vs e R=>call2 R λv u I C A X=>by
 subst e;obtain⟨t,rfl⟩:=aq.inv I;obtain⟨y,rfl⟩:=aq.inv C;refine up<|PySem.min_two_ints X.handled λh' tk N=>?_
 by_cases h:j<i
 rw[Nt h];rw[show min i j=j from Int.min_eq_right (FW h)]at q;exact fB N (λZ=>aq.int _ _) q;rw[Np h];rw[show min i j=i from Int.min_eq_left (CI.mp h)]at q;exact fB N (λZ=>aq.int _ _) q
def Vg(σ:M5):V->Option LV
 |.tup l=>U l
 |z=>SF σ z
variable{A:CP}{s:AZ}
def jO{T y N:String}{Bi:LA}{args:LVal}{Q Q₁:O3}(q:TypeCalled T y N)(hct:checkTypeCall T ⟨args,[]⟩=AJ ())(entryI:DI table N=U Bi)(hd:CO.contains N=Am)
  (hnew:H9 (model prog w) A.in1 (GC (AK y) ⟨An T::args,[]⟩) (wants Q₁ PI) s)
  (hnext:∀X C,Q₁ X C->C.TypeIs X T/\DM N ⟨X::args,[]⟩/\
   wpAny (model prog w) A.in1.in1 (Bi ⟨X::args,[]⟩)
    (λfin s'=>match fin with|.done f=>wants (λr I=>r=AL/\Q X I) PI (CT f) s'|.again c'=>c'.quiet=J/\codeAny (model prog w) A.in1 c' (wants (λr I=>r=AL/\Q X I) PI) s')
    (λe s'=>wants (λr I=>r=AL/\Q X I) PI (Hp e) s') C):
  wpAny (model prog w) A (call (An T) args []) Q PI s:=by
 obtain⟨c,tl,hmro⟩:=q.mro;refine aha<|ag3 ?_ H
 show wpAny _ _ (callAny (An T) _) _ _ _;refine agZ (a:=Gv (Co "type.__call__" ⟨An T::args,[]⟩)) ⟨Iy _ aY,ahd Kl ?_ aY⟩;rw[Mc (weight_type_call_type T args []) H];delta Builtin.«type.__call__»;refine eA q.notType<|eA q.canCreate<|agY<|up<|AI hct ?_
 refine agY<|up<|AI hmro<|eA H<|agY<|up<|AI q.made ?_
 refine agY<|agZ<|agY<|ag2<|aha<|upc<|PySem.codeAny_mono hnew λr C hr=>?_
 cases r with
 |error e=>exact hr.elim
 |ok fl=>
 cases fl with
 |ret v=>
  obtain⟨hT,hok,hq⟩:=hnext _ _ hr;refine agY<|up<|Dm hT q.sub<|eA H<|agY<|ag2 ?_
  delta Fh;refine agY<|up<|Bj hT q.init.lookup<|ag2 ?_
  rw[q.init.bind];refine agY<|agZ<|agY<|aha<|ag7 (R:=wants (λr I=>r=AL/\Q v I) PI) (ag9 (Fu q.init.plain _) entryI hd (up (q.init.check _ _ _ _ _ _ _ _ hT hok ?_))) λr s' z=>?_
  rw[DH q.init.plain];exact hq
  cases r with
  |error e=>exact z.elim
  |ok fl=>
   cases fl with
   |ret v'=>obtain⟨rfl,z⟩:=z;exact agZ<|agZ z
   |_=>exact z.elim
 |_=>exact hr.elim
end
section
variable{n:Nat}{x:Wd B}{σ:M5}{Q:KE}{o z:V}{l:LV}{vs:LVal}
def jP{t m:Nat}{N:Heap}(hk:∀b o,x.sh.heap.get? b=U o->N.get? b=U o)(h0:x.get? d=Y)(hd:N.get? d=U (listOf vs.toArray m))(hs:Nq x vs l)(q:Sw x.σ (AA l) Q):aP noOwn x (dS Q) (Ai d) {x.sh with heap:=N,toks:=t}:=by obtain⟨y,A,C,R,pv⟩:=x.grown (h:=N) (t:=t) hk;obtain⟨z,I⟩:=jj (y:=y) (D:=d) (pv d h0) ⟨m,by rw[A];exact hd⟩ (hs.le R) (C.symm▸q);exact Handed.casesOn I λu e hu hq X=>A▸e▸.mk z H (r7 I R λo e=>aa (aO h0 e)) (.mk u hu hq)
def vY{h N:Heap}(R:∀b o,h.get? b=U o->N.get? b=U o):h.get? N.objs.size=Y:=by
 cases e:h.get? N.objs.size with
 |none=>rfl
 |some o=>exact M9 (BV (R _ _ e)) (Fj _)
def sL{t:Nat}{N:Heap}(hk:∀b o,x.sh.heap.get? b=U o->N.get? b=U o)(A:Nq x vs l)(C:l.length<=Nh)(q:Q (Bg l) x.σ):aP noOwn x (dS Q) (Ai N.objs.size) {x.sh with heap:=N.push (Sv vs 0),toks:=t}:=by
 obtain⟨y,X,I,R,_⟩:=x.grown (h:=N) (t:=t) hk;have:=iu (x:=y) (t:=t) (Q:=Q) (A.le R) C (I.symm▸q)
 change aP noOwn y (dS Q) (Ai y.sh.heap.objs.size) _ at this
 rw[X]at this;exact aP.casesOn this λz e l q=>.mk z e (R.trans l) q
inductive Yv (x:Wd B) (l:LV) (v:AM):Prop
 |mk (a:AG) (T:String) (vs:LVal) (m:Nat):v=Ai a->(T="list"\/T="tuple")->x.get? a=U {cls:=An T,data:=El vs.toArray m}->l.length<=Nh->Nq x vs l->Yv x l v
def agA(I:Rd x v o)(A:Vg x.σ o=U l):Yv x l v:=by
 have C:SF x.σ o=U l->Yv x l v:=λh=>WY.casesOn (fT I h) λa vs m e g X R=>.mk a "list" vs m e (Aw H) g X R
 cases o<;>first|exact C A|skip
 obtain rfl:=Af A;obtain⟨a,vs,m,rfl,e,f,N,R⟩:=aq.inv I;exact .mk a "tuple" vs m H (AN H) e N R
def jx(ho:Vg σ o=U l)(q:Sw σ (AA l) Q):Nr B n 12 [o] σ Q:=aQ H λs vs e R=>cQ R λv I A Z=>by subst e;obtain⟨a,T,vs,m,rfl,X,e,N,R⟩:=agA I ho;exact up<|call_list_seq a X e H H (λh' c' y C=>jP (t:=s.sh.toks) y (aI _) C R q)<|R.arr N
def k9(X:Vg σ o=U l)(q:Q (Bg l) σ):Nr B n 14 [o] σ Q:=aQ H λs vs e R=>cQ R λv I A Z=>by
 subst e
 have go:SF s.σ o=U l->wpAny B.M A (call (An "tuple") [v] []) (aP noOwn s (dS Q)) PI s.sh:=λh=>by obtain⟨a,vs,m,rfl,e,N,R⟩:=fT I h;have C:s.sh.heap.IsList a vs.toArray:=⟨_,e,H,m,H⟩;exact up<|call_tuple_list C (λh' y=>sL (t:=s.sh.toks) y R N q)<|R.arr N
 cases o<;>first|exact go X|skip
 obtain rfl:=Af X;obtain⟨a,vs,m,rfl,e,f,N,R⟩:=aq.inv I;exact up<|call_tuple_same (items:=vs.toArray) (⟨_,e,H,m,H⟩:s.sh.heap.IsTuple a vs.toArray)<|cR (t:=s.sh.toks) I q
variable{a:AG}{d:NW}
def Wp.mX{N:Type}{own:AG->Prop}{c:Prop}[Decidable c]{t e:Sem N}{P:N->Wd B->Prop}(R:¬c)(h:Wp n own e P x):Wp n own (if c then t else e) P x:=by rw[Np R];exact h
def places{f:Nat->PUnit->Sem (ForInStep PUnit)}(I:Nat->Wd B->Prop)(hf:∀i y,i<N->I i y->Wp n noOwn (f i ⟨⟩) (λr z=>r=BX ⟨⟩/\I (i+1) z) y)(k:Nat):∀i x,i+k=N->I i x->Wp n noOwn (forIn (Gm i k) Ip f) (λZ z=>I N z) x:=by
 induction k with
 |zero=>exactλi x h R=>(h:i=N)▸Wp.pure R
 |succ k A=>intro i x h R;rw[Hl,Cv];exact Wp.bind (hf i x (h▸Bz (DJ k)) R) λr y Z e=>e.1▸A (i+1) y ((BW i 1 k).trans h) e.2
def OW(d acc:NW):=d.foldl (λm e=>NX e.1 e.2 m) acc
def qw:OW (d++[e]) acc=NX e.1 e.2 (OW d acc):=Dr ..
def mu(d:NW):∀acc,(OW d acc).length<=acc.length+d.length:=by
 induction d with
 |nil=>exactλZ=>AH _
 |cons e d N=>exactλacc=>Aa (N (NX e.1 e.2 acc)) (by rw[Bn,<-Bf,BW];exact A7 cm _)
def sM(h:Nf c d=J):∀{acc},Nf c acc=J->Nf c (OW d acc)=J:=by
 induction d with
 |nil=>exactλh=>h
 |cons e d I=>obtain⟨R,N⟩:=Ah.mp h;exactλg=>I N (eC (N2 R) g)
def t8(h:Nf c d=J)(N:e∈d):kindOf e.1=c:=N2 (A3.mp h e N)
def aC(h0:c≠0/\c≠4)(N:kindOf k=c)(h:Nf c d=J):Keyed n k d:=fe (N.symm▸h0) (N.symm▸h)
def vZ{R:List BY}(I:c≠0/\c≠4)(h:aU B.P x.toSt R d)(q:Nf c d=J):(R.all λe=>(MN e.key).isSome)=J:=by
 induction d generalizing R with
 |nil=>exact(aU.dQ h)▸H
 |cons e d y=>
  obtain⟨u,us,rfl,N,_,_,r⟩:=aU.inv h;obtain⟨X,h2⟩:=Ah.mp q;have A:=N2 X;refine Ah.mpr ⟨?_,y r h2⟩;obtain⟨k,v⟩:=e;have N:Rd x u.key k:=N
  cases k<;>first|exact M9 A.symm I.1|exact M9 A.symm I.2|skip
  exact N.l9 (C:=λu=>(MN u).isSome=J) λZ=>H;exact N.u7 (C:=λu=>(MN u).isSome=J) λZ Z Z Z=>H;exact N.dn (C:=λu=>(MN u).isSome=J) λZ Z Z Z=>H
def qx{id:String}{D S:AG}{I:List BY}{m c:Nat}{acc:NW}(hD:x.σ D=U (AE acc))(hS:x.get? S=U (Dt I m))(X:Fz x.toSt S)(hE:aU B.P x.toSt I d)(hsys:(S==Ea)=Am)
  (h0:c≠0/\c≠4) (h1:Nf c d=J) (h2:Nf c acc=J) (h8:d.length<=8) (hlen:acc.length+d.length<=Nh):
  Wp n noOwn (Ju id D S) (λZ y=>y.σ=x.σ.set D (AE (OW d acc))) x:=by
 have hne:¬(D==S)=J:=λz=>by rw[N2 z,X.1]at hD;cases hD
 have hln:=hE.length;delta Ju;refine Wp.mX hne<|Wp.bind (P:=λZ y=>y=x) ?_ λZ y Z e=>?_
 delta Builtin.Dict.showsAll;exact Wp.mX (λz=>by rw[hsys]at z;cases z)<|Wp.pure H
 subst e;refine Wp.b6 (v:=I.toArray) (λA P q=>up<|Cu hS H q) ?_
 have C:(decide (I.toArray.size<=8)&&I.toArray.all λe=>(MN e.key).isSome)=J:=
  Ah.mpr ⟨N5 (hln▸h8:I.length<=8),by rw[List.all_toArray];exact vZ h0 hE h1⟩
 refine Wp.mX (λz=>by rw[C]at z;cases z)<|Wp.b6 (v:=m) (λA P q=>up (FX hS H q))<|Wp.b6 (v:=I.toArray) (λA P q=>up<|Cu hS H q) ?_
 rw[GG]
 have hsz:IG [:I.toArray.size]=d.length:=by show(I.toArray.size-0+1-1)/1=_;rw[Nat.div_one];exact hln
 rw[hsz];show Wp n noOwn (forIn (Gm 0 d.length) Ip _>>=_) _ y;refine Wp.bind (places (λi z=>z.σ=y.σ.set D (AE (OW (d.take i) acc))/\LN y z) (N:=d.length) (λi z hi hI=>?_) d.length 0 y (A1 _) ⟨?_,LE.refl _⟩) λZ z Z e=>?_
 ·obtain⟨hσ,lz⟩:=hI;obtain⟨e,he,hk,hh,hv⟩:=(hE.az lz.az).get (AY hi);refine Wp.b6 (v:=I.toArray) (λA P q=>up<|Cu ((lz.1 S _ (λq=>q) hS X.1).1:z.get? S=U (Dt I m)) H q) ?_;rw[((DC ..).trans he:I.toArray[i]?=U e)];dsimp only;rw[hh];have hl':(OW (d.take i) acc).length<Nh:=Al (mu ..) (AP (Fd (by rw[F6];exact Al (Gy ..) hi) _) hlen);refine Wp.bind (Wp.holding (Wp.px (R:=λZ w=>w.σ=z.σ.set D (AE (NX (d[i]).1 (d[i]).2 (OW (d.take i) acc)))/\LN z w) (by rw[hσ];exact M5.ag _ _) hk hv (aC h0 (t8 h1 (Hm hi)) (sM (A3.mpr λe he=>A3.mp h1 e (HO he):Nf c (d.take i)=J) h2)) hl' λw e l=>⟨e,l⟩)) λZ w Z e=>?_;obtain⟨e1,l1⟩:=e;have lw:=lz.trans l1;refine Wp.b6 (v:=m) (λA P q=>up (FX (lw.1 S _ (λq=>q) hS X.1).1 H q))<|Wp.mX (λz=>by rw[bne_self_eq_false]at z;cases z)<|Wp.pure ⟨H,?_,lw⟩
  rw[e1,hσ,M5.set_set,FJ hi,qw]
 ·funext b
  by_cases q:b=D
  subst q;rw[M5.ag,hD];rfl;rw[M5.aA _ q]
 rw[List.take_length]at e;exact Wp.pure e.1
def qy{y:Wd B}(h0:x.σ D=Y)(e:y.σ=x.σ.set D (AE d))(l:LN x y)(q:Sw x.σ (AE d) Q):aP noOwn x (dS Q) (Ai D) y.sh:=by
 have R:y.σ D=U (AE d):=by rw[e];exact M5.ag _ _
 rcases q.2 with r|r
 obtain⟨I,m,C,A,X,N⟩:=y.dictAt R;have lf:=dT R O.bG;exact .mk (y.QA R O.bG) H (l.trans lf)<|.mk (B6 d) (aq.di (x:=(y.QA R O.bG).toSt) D I m d C ⟨M5.bu _,AN H⟩ A (X.az lf.az) N) (show Q (B6 d) (y.σ.del D) by rw[(by rw[e];exact M5.eY h0:y.σ.del D=x.σ)];exact r)
 exact .mk y H l<|.mk (Av D) (aq.ref D)<|e▸r D h0
def la{R:AG×LVal->Wd B->Prop}(N:x.sh.TypeIs (Ai D) "dict")
  (I:(["clear","keys","values","items","popitem","__reversed__","__iter__","__repr__","pop","setdefault","update","__init__","__setitem__","__delitem__","__ior__"]:List String).contains name=J) (q:R (D,rest) x):Wp n noOwn (I1 name ⟨Ai D::rest,[]⟩) R x:=by
 delta I1;exact Wp.bind (P:=λZ y=>y=x) (jK N I H) λZ y Z e=>e▸Wp.pure q
def t9{id:String}{D:AG}{v:AM}{c:Nat}{acc:NW}(C:x.σ D=U (AE acc))(hv:Rd x v (B6 d))(h0:c≠0/\c≠4)(h1:Nf c d=J)(h2:Nf c acc=J)(h8:d.length<=8)(R:acc.length+d.length<=Nh):
  Wp n noOwn (ET id D v [] AL) (λr y=>r=CN (Cr AL)/\y.σ=x.σ.set D (AE (OW d acc))) x:=by
 obtain⟨S,es,m,rfl,e,f,hl,hE,N⟩:=aq.inv hv;have X:x.sh.TypeIs (Ai S) "dict":=⟨_,e,H⟩;delta ET;refine Wp.b6 (v:=An "dict") (λA P q=>up (C8 X q))<|Wp.mX aG<|Wp.bind (t:=Ks id D (Ai S)) (P:=λZ y=>y.σ=x.σ.set D (AE (OW d acc))) ?_ λZ y Z e=>?_
 ·delta Ks;refine Wp.bind (t:=IP (Ai S)) (P:=λr y=>r=J/\y=x) ?_ λr y Z I=>?_
  ·delta IP;exact Wp.b6 (v:=J) (λA P q=>up (Dm X K6 q)) (Wp.mX aG (Wp.b6 (v:=U (AK "dict.__iter__")) (λA P q=>up (Bj X PySem.F.slot_dict_iter.lookup q)) (Wp.pure ⟨Px _,H⟩)))
  ·obtain⟨rfl,rfl⟩:=I;exact Wp.eqB (v:=S) H<|qx C e f hE N h0 h1 h2 h8 R
 refine Wp.bind (t:=I6 D []) (P:=λZ z=>z=y) (Wp.pure (r:=()) H) λZ z Z I=>?_;subst I;exact Wp.pure ⟨H,e⟩
def ua(h:keysOk d=J):∃c,(c≠0/\c≠4)/\Nf c d=J:=by
 cases d with
 |nil=>exact⟨1,⟨by decide,by decide⟩,H⟩
 |cons e r=>obtain⟨N,R⟩:=Ah.mp h;obtain⟨h0,N⟩:=Ah.mp N;exact⟨_,⟨bne_iff_ne.mp h0,bne_iff_ne.mp N⟩,R⟩
def qz{m:NW}{c:Nat}(A:σ a=U (AE m))(h0:c≠0/\c≠4)(h1:Nf c d=J)(h2:Nf c m=J)(X:d.length<=8)(N:m.length+d.length<=Nh)(q:Q A5 (σ.set a (AE (OW d m)))):
  Nr B (n+1) 27 [Av a,B6 d] σ Q:=aQ H λs vs e C=>call2 C λv u R hu=>by
 subst e;have I:=(ahC R (ao A)).is;obtain rfl:v=Ai a:=aq.inv R;refine cF Ke I PySem.F.entry_dict_update aY (PySem.F.args_dict_update_2 _ _) ?_;delta Builtin.«dict.update»;refine Wp.bind (P:=λr y=>r=(a,[u])/\y=s) (la I H ⟨H,H⟩) λr y Z e=>?_;obtain⟨rfl,rfl⟩:=e;exact Wp.mono (t9 A hu h0 h1 h2 X N) λr z Z e=>⟨_,e.1,.mk A5 aq.none (e.2▸q)⟩
def Wd.newD(x:Wd B):∃y:Wd B,y.sh={x.sh with heap:=x.sh.heap.push {cls:=An "dict",data:=EY #[]}}/\y.σ=x.σ.set x.sz (AE [])/\LN x y/\y.sh.TypeIs (Ai x.sz) "dict":=
 have N:=bC H
 ⟨x.RQ (Dt [] 0) (AE []) x.sh.toks ⟨[],0,N,Aq _,aU.nil,kh x⟩,H,H,dh x _ _ _,⟨_,N,H⟩⟩
def qA(hk:keysOk d=J)(h8:d.length<=8)(q:Sw σ (AE (Oa d)) Q):Nr B (n+1) 10 [B6 d] σ Q:=aQ H λs vs e hs=>cQ hs λv hv A C=>by
 subst e;obtain⟨c,h0,h1⟩:=ua hk;obtain⟨y,ey,X,ly,hT⟩:=s.newD;refine jO (Q₁:=λR N=>R=Ai s.sz/\N={s.sh with heap:=s.sh.heap.push {cls:=An "dict",data:=EY #[]}}) KP (JJ _) Ko aY (kt_code_dict_new _ ⟨H,H⟩) λR N e=>?_;obtain⟨rfl,rfl⟩:=e;rw[<-ey];refine⟨hT,Kg _ _,?_⟩
 have I:Wp n noOwn (Builtin.«dict.__init__» ⟨[Ai s.sz,v],[]⟩) (λr z=>r=CN (Cr AL)/\z.σ=y.σ.set s.sz (AE (Oa d))) y:=by delta Builtin.«dict.__init__»;refine Wp.bind (P:=λr z=>r=(s.sz,[v])/\z=y) (la hT H ⟨H,H⟩) λr z Z e=>?_;obtain⟨rfl,rfl⟩:=e;exact t9 (by rw[X];exact M5.ag _ _) (hv.le ly) h0 h1 H h8<|Aa (Ap (A1 _))<|Aa h8 ae
 refine dq (I A.in1.in1 (⟨C.handled,C.guards,(eJ C).depth,by have:=C.units;show A.units+1+1+24*n<9000;exact ax this aS⟩)) λr z l q2=>?_;obtain⟨rfl,e2⟩:=q2;exact⟨H,qy (s.aW (aI _)) (by rw[e2,X,M5.set_set]) (ly.trans l) q⟩
end
set_option maxHeartbeats 1000000 in
def v8{A:CP}{E:O3}{s:AZ}{Q:Option AM->AZ->Prop}
  (C:s.heap.get? a=U (listOf xs k)) (q:A.handled=Y) (h:∀R I,(∀b o,s.heap.get? b=U o->R.get? b=U o)->Q Y {s with heap:=R,toks:=I}):
  AB (model prog w) A (getAttr? (Ai a) "keys") Q E s:=by
 obtain⟨x,g,d,I,os⟩:=s;have y:∀X,(⟨x,g,d,X,os⟩:AZ).TypeIs (Ai a) "list":=λZ=>⟨_,C,H⟩;have f1:=sub_AttributeError;have f3:=FT.lookup;have f4:=FT.bind (Ai a);have f5:=am_list_getattr_none
 repeat (any_goals (first|assumption|exact y _| ((with_reducible refine_lift show AB _ _ (call (AK "list.__getattribute__") _ _) _ _ _ from ?_);refine E9 FT (y _) am_entry_list_getattribute (PySem.F.args_list_getattribute_2 _ _) (meets_getattribute_miss_list a xs k #[] "keys" _ (by rw[BJ,Bb];kernel_rfl:D9 (.type "list") "keys"=AJ Y) (by decide+kernel:(["__module__","__name__","__qualname__","__doc__","__annotations__"]:NI).contains ("keys":Str)=Am) (by rw[EF];decide+kernel:("keys":Str).length+100<=Eu)) ⟨C,q,λR I e N=>?_⟩)|wp_step))
 obtain⟨t',u',he⟩:=N.there;show AB _ _ (getattributeRaised _ _ _ _ _ _ _) _ _ _;delta getattributeRaised
 repeat (any_goals (first|assumption|wp_step))
 exact h _ _ N.keeps
def fC:plainId "dict.update.loop"=J:=by decide+kernel
def lg:DI table "dict.update.loop"=U Builtin.«dict.update.loop»:=by first|exact Cq (by kernel_rfl)|exact Cp (by kernel_rfl)
section
variable{n:Nat}{x:Wd B}{σ:M5}{Q:KE}{d:NW}
def OD(e:V×V):=Bg [e.1,e.2]
inductive km (I:AG) (x:Wd B) (τ:M5) (r:F7) (s:AZ):Prop
 |mk (y:Wd B):r=CT (Cr AL)->y.sh=s->y.σ=τ->LE (· =I) x.toSt y.toSt->km I x τ r s
def sN{xs:NW}(h0:c≠0/\c≠4)(h1:Nf c xs=J)(rm:ef (n+1) A)(k:Nat):∀i x acc z tk,i+k=xs.length->x.σ D=U (AE acc)->Nf c acc=J->acc.length+k<=Nh->
  x.get? L=U (OG vs m)->Fz x.toSt L->Nq x vs (xs.map OD)->x.sh.heap.IsListIter I L i->NQ x.toSt I->
  codeAny B.M A (Co "dict.update.loop" ⟨[Ai D,Ai I,By z tk,AL],[]⟩) (km I x (x.σ.set D (AE (OW (xs.drop i) acc)))) x.sh:=by
 induction k with
 |zero=>
  intro i x acc z tk hik hD ha C hL hfz hs hit hI;refine ahd lg ?_ aY;rw[DH fC _];have hLs:x.sh.heap.IsList L vs.toArray:=⟨_,hL,H,m,H⟩;show wpAny _ A.in1 (KA (Ai I)>>=_) _ _ x.sh;refine agY<|up<|JW rm.handled hit hLs (FA (Ap (by rw[hs.size,Ak];exact hik.symm:vs.toArray.size=i))) λh' he=>?_
  have pp:=cy hI;have hk:=λa o ne e=>he a o ne e;refine agY (m:=I6 D [])<|agZ (a:=())<|agZ (a:=CN (Cr AL))<|.mk (x.bj x.sh.toks pp hk) H H ?_<|dx pp hk λZ q=>q
  rw[show xs.drop i=[]from DK.mpr (Ap hik.symm)]
  funext b
  by_cases q:b=D
  subst q;exact hD.trans (M5.ag _ _).symm;exact(M5.aA _ q).symm
 |succ k ih=>
  intro i x acc z tk hik hD ha C hL hfz hs hit hI;refine ahd lg ?_ aY;rw[DH fC _];have hi:i<xs.length:=hik▸Bz (DJ k);obtain⟨v,hv,hsv⟩:=hs.kW (k:=i) (z:=OD xs[i]) (by rw[BR,AY hi];rfl);have hIL:L≠I:=λe=>hI.2 (e▸hfz.2);show wpAny _ A.in1 (KA (Ai I)>>=_) _ _ x.sh;refine agY<|up<|JA hit (⟨_,hL,H,m,H⟩:x.sh.heap.IsList L vs.toArray) hv λh' N hb=>?_
  have pp:=cy hI;have hk:∀a o,¬a=I->x.get? a=U o->h'.get? a=U o:=λa o ne e=>(hb.2 a ne).trans e;obtain⟨y,ey,eσ,ly⟩:∃y,y.sh={x.sh with heap:=h'}/\y.σ=x.σ/\LE (· =I) x.toSt y.toSt:=⟨x.bj x.sh.toks pp hk,H,H,dx pp hk λZ q=>q⟩;have st:=ly.mN pp;rcases aq.inv (aq.az st hsv)with⟨T,us,q,rfl,e,f,hl,X⟩
  obtain⟨kv,us,rfl,hk1,X⟩:=aE.inv X;obtain⟨vv,us,rfl,hv1,X⟩:=aE.inv X;obtain rfl:=aE.dQ X;have e:=e;have gL:=(st L _ hL hfz).1;have fL:=(st L _ hL hfz).2;have N:y.sh.heap.IsListIter I L (i+1):=by rw[ey];exact N
  rw[<-ey];dsimp only;refine agY<|ag2<|agY (m:=tryCatch _ _)<|up<|PySem.wpAny_tryCatch ?_
  delta Builtin.Dict.pairItems;refine Ab (C8 (⟨_,e,H⟩:y.sh.TypeIs (Ai T) "tuple") ?_);rw[Nt H];refine Ab<|EM e H<|Aj ?_
  have hkk:=t8 h1 (Hm hi);show wpAny _ _ (holding [kv,vv] (KD D kv vv)) _ _ _;refine ag2<|dq ((Wp.dictSet (n:=n) (x:=y) (R:=λZ w=>w.σ=y.σ.set D (AE (NX (xs[i]).1 (xs[i]).2 acc))/\LN y w) (eσ▸hD) hk1 hv1 (aC h0 hkk ha) (AP (Bz (DJ k)) C) λw e l=>⟨e,l⟩) A.in1 (eJ rm)) λZ w Z q1=>?_
  obtain⟨w1,lw⟩:=q1;refine agZ (a:=Gv (Co "dict.update.loop" ⟨[Ai D,Ai I,GP (z+1),AL],[]⟩)) ⟨Fu fC _,?_⟩;obtain⟨oI,hoI,hc1,hc2⟩:=N;have gI:=lw.bj (ly.2 I H hI.1 hI.2:NQ y.toSt I) hoI
  have rec_:=ih (i+1) w (NX (xs[i]).1 (xs[i]).2 acc) (z+1) 0 ((BW i 1 k).trans hik) (by rw[w1];exact M5.ag _ _) (eC hkk ha)
   (Aa (A7 cm k) (by rw[Bf,Bk 1];exact C)) (lw.az L _ gL fL).1 (lw.az L _ gL fL).2 (Nq.le (aE.az st hs) lw) ⟨oI,gI.1,hc1,hc2⟩ gI.2
  refine ag7 rec_ λr s₃ q=>km.casesOn q λu e1 e2 e3 l3=>.mk u e1 e2 ?_<|(ly.trans (lw.own λa e=>(e:a=I)▸⟨oI,hoI⟩)).trans l3
  rw[e3,w1,M5.set_set,eσ,Cn hi]
  rfl
variable{ps:LV}
def d5(hp:ps=d.map OD)(hk:keysOk d=J)(hl:d.length<=Nh)(q:Sw σ (AE (Oa d)) Q):Nr B (n+2) 10 [BB ps] σ Q:=aQ H λs vs e hs=>cQ hs λv hv A rm=>by
 subst e hp;obtain⟨c,h0,h1⟩:=ua hk;obtain⟨L,us,m,rfl,eL,fL,hlen,hus⟩:=aq.inv hv;obtain⟨y,ey,eσ,ly,hT⟩:=s.newD;refine jO (Q₁:=λobj C=>obj=Ai s.sh.heap.objs.size/\C={s.sh with heap:=s.sh.heap.push {cls:=An "dict",data:=EY #[]}}) KP (JJ _) Ko aY (kt_code_dict_new _ ⟨H,H⟩) λobj C e=>?_;obtain⟨rfl,rfl⟩:=e;rw[<-ey];refine⟨hT,Kg _ _,?_⟩;have s0:s.σ s.sh.heap.objs.size=Y:=s.aW (aI _);have hD:y.σ s.sh.heap.objs.size=U (AE []):=by rw[eσ];exact M5.ag _ _
 have hss:y.σ.set s.sh.heap.objs.size (AE (Oa d))=s.σ.set s.sh.heap.objs.size (AE (Oa d)):=by rw[eσ,M5.set_set]
 change y.sh.TypeIs (Ai s.sh.heap.objs.size) "dict" at hT
 generalize s.sh.heap.objs.size=D at hT hD hss s0⊢;have rm1:=eJ (eJ rm);have gL:y.sh.heap.get? L=U (OG us m):=(ly.az L _ eL fL).1;have hLT:y.sh.TypeIs (Ai L) "list":=⟨_,gL,H⟩;delta Builtin.«dict.__init__»;refine agY (dq (la (n:=n) (name:="__init__") (rest:=[Ai L]) (R:=λr z=>r=(D,[Ai L])/\z=y) hT H ⟨H,H⟩ A.in1.in1 rm1) λr z Z q1=>?_);obtain⟨rfl,rfl⟩:=q1;show wpAny _ _ (ET "dict.__init__" D (Ai L) [] AL) _ _ _;delta ET;refine agY<|up<|C8 hLT ?_
 rw[Nt H];refine agY<|up<|v8 gL rm.handled λh2 tk2 hk2=>?_
 rw[Nt (H:(Y:Option AM).isNone=J)];refine agY<|up<|BD ?_
 obtain⟨N,e2,σ2,l2,_⟩:=z.grown (h:=h2) (t:=tk2) hk2;rw[<-e2];have gL2:N.sh.heap.get? L=U (OG us m):=((ly.trans l2).az L _ eL fL).1;refine agY<|up<|Hc (items:=us.toArray) ⟨_,gL2,H,m,H⟩ ?_
 have l3:=N.gU {cls:=An "list_iterator",data:=Df #[Ai L,By 0 0]} N.sh.toks;have X:=(ly.trans l2).trans l3;have g0:=aI N.toSt;refine agZ (a:=Gv (Co "dict.update.loop" ⟨[Ai D,Ai N.sh.heap.objs.size,GP 0,AL],[]⟩)) ⟨Fu fC _,?_⟩
 have loop:=sN (n:=n) (D:=D) (I:=N.sh.heap.objs.size) (xs:=d) h0 h1 (A:=A.in1) (eJ rm) d.length 0 (N.push {cls:=An "list_iterator",data:=Df #[Ai L,By 0 0]} N.sh.toks) [] 0 0 (A1 _) ((σ2.symm▸hD:N.σ D=U (AE []))) H ((A1 _).symm▸hl)
  (X.az L _ eL fL).1 (X.az L _ eL fL).2 (Nq.le (x:=s) hus X) ⟨_,BK _ H,H,H⟩ ⟨N.aW g0,N.cw g0⟩
 refine ag7 loop λr s' q=>km.casesOn q λw e1 e3 e4 l4=>?_;subst e1 e3;refine⟨H,qy s0 (e4.trans ?_) (X.tZ l4 λa o e g=>?_) ‹Sw s.σ (.dict (Oa d)) Q›⟩;show N.σ.set D (AE (OW (d.drop 0) []))=_;rw[σ2];exact hss;have e:a=N.sh.heap.objs.size:=e;subst e;intro f;exact aa<|aO g0 ((ly.trans l2).1 _ o (λq=>q) g f).1
@[reducible]nonrec def toS(x:M6):Str:=⟨x.toArray⟩
def PE(x y:M6):Ni:=(GH (toS x) (toS y)).map λz=>z.cps.toList
def Yd(x y:M6):Int:=(Txt.find (toS x) (toS y):Int)
def TB(x:M6)(p q:Option Int):M6:=(Txt.slice (toS x) p q).cps.toList
variable{w:Wd B}{l:LV}{o:V}{x y:M6}{i:Int}{vs:LVal}
def cI(N:Rd w v (B9 x)):∃t,v=Cg (toS x) t/\x.length<=Nh:=by obtain⟨⟨⟨z⟩⟩,t,rfl,e,m⟩:=aq.inv N;obtain rfl:z=x:=e;exact⟨t,H,m⟩
def qB(zs:NI):∀k,(∀z∈zs,z.cps.toList.length<=Nh)->Nq w (strsFrom k zs) ((zs.map λz=>z.cps.toList).map B9):=by
 induction zs with
 |nil=>exactλZ Z=>Nq.nil
 |cons z zs I=>exactλk N=>Nq.cons (aq.str z k _ H (N z (As ..))) (I (k+1) λy R=>N y (Au _ R))
def qC(hy:y≠[])(hp:∀z∈PE x y,z.length<=Nh)(q:Sw σ (AA ((PE x y).map B9)) Q):Nr B n 22 [B9 x,B9 y] σ Q:=aQ H λs vs e hs=>call2 hs λv u hv hu A Z=>by
 subst e;obtain⟨t,rfl,hx⟩:=cI hv;obtain⟨t2,rfl,hy2⟩:=cI hu
 have X:((toS y).length==0)=Am:=by
  cases y with
  |nil=>exact M9 H hy
  |cons=>rfl
 have I:GH (toS x) (toS y)=[toS x]->∀{t'},aP noOwn s (dS Q) (Ai s.sz) {s.sh with heap:=s.sh.heap.push (OG [Cg (toS x) t] 0),toks:=t'}:=λe t'=>by delta PE at q;rw[e]at q;exact bW (Nq.cons (aq.str _ _ _ H hx) Nq.nil) q
 cases N:(decide ((toS x).length<(toS y).length)||decide (Kq (toS x)<Kq (toS y)))
 ·cases C:(Jt (toS x) (toS y) 0 (toS x).length ((toS x).length+1)).isEmpty
  ·have e:GH (toS x) (toS y)=Builtin.Str.partsBetween (toS x) (Jt (toS x) (toS y) 0 (toS x).length ((toS x).length+1)) (toS y).length:=by delta GH;rw[N,C];rfl
   have R:=q.1;dsimp only[PE]at q hp R;rw[e]at q hp R;have R:_<=Nh:=R;rw[Ak,Ak]at R;exact up<|E9 Fp (typeIs_str _ _ _) GZ (GQ _ _) (meets_str_split_sep (toS x) (toS y) t t2 N X C (bc hx:(toS x).length<=Eu) (bc R))<|bW (qB _ _ λz hz=>hp _ (Ca hz)) q
  ·exact up<|E9 Fp (typeIs_str _ _ _) GZ (GQ _ _) (meets_str_split_not_found (toS x) (toS y) t t2 N X C)<|I (by delta GH;rw[N,C];rfl) (t':=s.sh.toks)
 exact up<|E9 Fp (typeIs_str _ _ _) GZ (GQ _ _) (meets_str_split_cannot_occur (toS x) (toS y) t t2 N)<|I (by delta GH;rw[N];rfl) (t':=s.sh.toks)
def sO(q:Q (Ar (Yd x y)) σ):Nr B n 23 [B9 x,B9 y] σ Q:=aQ H λs vs e R=>call2 R λv u I X A Z=>by subst e;obtain⟨t,rfl,hx⟩:=cI I;obtain⟨C,rfl,N⟩:=cI X;exact up<|SC.find<|ahg q
def qD(N:x.length+y.length<=Nh)(q:Q (B9 (x++y)) σ):R3 B n Gi (B9 x) (B9 y) σ Q:=λs v u e I X=>Wp.operate λA Z=>by
 subst e;obtain⟨t,rfl,hx⟩:=cI I;obtain⟨C,rfl,R⟩:=cI X;refine up<|PyProof.Rows.add_str (λt' tk=>?_)<|bc N
 exact cR (aq.str _ _ _ (by show((toS x).cps++(toS y).cps).toList=_;rw[Gr]) (by rw[Ad];exact N)) q
variable{lo hi:V}{p q:Option Int}
def ub(hp:TA lo=U p)(hq:TA hi=U q)(r:Q (B9 (TB x p q)) σ):R4 B n (B9 x) lo hi A5 σ Q:=
 si (λs v e hv=>(ahR hv).is) PySem.F.slot_str_getitem.lookup λs v sl u1 u2 u3 e hv hS h1 h2 h3 A Z=>by
  subst e;obtain⟨t,rfl,hx⟩:=cI hv;obtain rfl:u3=AL:=aq.inv h3;have N:(Txt.slice (toS x) p q).length<=Nh:=Aa (Txt.slice_le (toS x) p q) hx
  have X:∀l u,l.map (·.1)=p->u.map (·.1)=q->s.sh.heap.IsSlice sl l u Y->AB B.M A (IX (Cg (toS x) t) (Ai sl)) (aP noOwn s (dS Q)) PI s.sh:=λl u e1 e2 hI=>by subst e1 e2;exact wpAny_getItem_str_slice hI H<|post_val_or_str ⟨bc N,λt' k=>cR (aq.str _ _ _ H N) r⟩
  obtain⟨o,C,I,hd⟩:=hS;refine up ?_
  cases cp h1 hp with
  |none=>cases cp h2 hq with
   |none=>exact X Y Y H H ⟨o,C,I,hd⟩
   |int i R=>exact X Y (U (i,R)) H H ⟨o,C,I,hd⟩
  |int i R=>cases cp h2 hq with
   |none=>exact X (U (i,R)) Y H H ⟨o,C,I,hd⟩
   |int j t2=>exact X (U (i,R)) (U (j,t2)) H H ⟨o,C,I,hd⟩
def yD(vs:LVal):∀k,(A8 k vs.toArray).foldl (λI R=>I++R) #[]=(A8 k vs).flatten.toArray:=by
 have X:∀k N,(A8 k vs.toArray).foldl (λI R=>I++R) N.toArray=(N++(A8 k vs).flatten).toArray:=by
  intro k
  induction k with
  |zero=>intro N;simp
  |succ k A=>
   intro N;rw[Ic,DT];have:N.toArray++vs.toArray=(N++vs).toArray:=by simp
   rw[this,A (N++vs)];simp[Ic]
 intro k;have:=X k []
 simpa using this
def abr(N:Nq w vs l)(k:Nat):Nq w (A8 k vs).flatten (A8 k l).flatten:=by
 induction k with
 |zero=>exact Nq.nil
 |succ k R=>exact Nq.append N R
def iQ(ho:SF σ o=U l)(C:l≠[])(h0: -1048576<=i)(h1:i<=1048576)(h2:l.length<=16)(q:Sw σ (AA (A8 i.toNat l).flatten) Q):R3 B n .Mult o (Ar i) σ Q:=λs v u e hv hu=>Wp.operate λA Z=>by
 subst e;obtain⟨a,vs,m,rfl,e,hlen,I⟩:=fT hv ho;obtain⟨t,rfl⟩:=aq.inv hu
 have N:vs.toArray.size*i.toNat<=16777216:=by rw[I.size];exact Nat.mul_le_mul h2 (E4.mpr h1)
 have hf:Iz i=J:=by simp only[Iz,AR,decide_eq_true_eq];exact⟨Bv aG h0,Ez h1 aG⟩
 have X:s.sh.TypeIs (Ai a) "list":=⟨_,e,H⟩
 refine up (wpAny_binaryOp_repeat_ref (T:="list") (U:="int") H X (λs'=>FQ s' i t) noFill_list_mul PySem.F.fills_int_mul K8 repeat_list KN.lookup
  (E9 K8 (FQ _ i t) PySem.F.entry_int_rmul (PySem.F.args_int_rmul_2 _ _) (int___rmul___int_list i t a vs.toArray m) ⟨e,H,X,?_⟩))
 refine E9 PySem.F.slot_list_mul X PySem.F.entry_list_mul (PySem.F.args_list_mul_2 _ _) (AutoListH.list___mul___list_int_3 a vs.toArray m i t (by rw[hf];decide) (Fs.mpr (Aa N ae)) (by rw[show Builtin.List.listTooLong (vs.toArray.size*i.toNat)=decide (vs.toArray.size*i.toNat>Eu)from H,EF,decide_eq_true_eq];exactλh'=>DO 0 (ax (Ao h' N) aS))) ⟨e,?_⟩
 have R:vs.toArray.isEmpty=Am:=by
  cases vs with
  |nil=>exact M9 (Cy.mp I.length.symm) C
  |cons=>rfl
 rw[R];simp only[IF,if_false];rw[yD];exact bW (t:=s.sh.toks) (abr I _) q
end
section
variable{prog:CZ}{w:Dy}{A:CP}{E:O3}{s:AZ}
def iR {a n : Nat} {u : Tok} {Q : Int × Int × Nat → AZ → Prop} (hs : s.heap.IsSliceOf sl AL (By a u) AL) (ha : a ≤ n) (h : Q (0, 1, a) s) :
    AB (model prog w) A (Es (Ai sl) (AJ (n : Int))) Q E s := by
  obtain ⟨os, hos, hcs, hds⟩ := id hs
  delta Es Builtin.Slice.sliceFields
  refine Ab (Ab (Cd hos hds (x := AL) H (Ab (Cd hos hds (x := By a u) H (Ab (Cd hos hds (x := AL) H (Aj (Ab (slicePart_none ?_)))))))))
  show AB _ _ (if ((1 : Int) == 0) = J then _ else _) _ _ s
  rw [Np aG]
  refine Ab (slicePart_none (Ab (slicePart_int (Ab (Aj ?_)))))
  have e1 : Ga Y (U (a : Int)) 1 (n : Int) = (0, (a : Int)) := by
    delta Ga
    simp only [(by grind : ¬ ((1 : Int) < 0)), (by grind : ¬ ((a : Int) < 0)), if_false]
    congr 1
    grind
  show AB _ _ (match Ga Y (U (a : Int)) 1 (n : Int) with | (lo, hi) => AJ (lo, (1 : Int), F9 lo hi 1)) _ _ s
  rw [e1]
  show AB _ _ (AJ ((0 : Int), (1 : Int), F9 0 (a : Int) 1)) _ _ s
  rw [show F9 0 (a : Int) 1 = a from (places_from 0 a (Aq _))]
  exact Aj h
def v9{items:Array AM}{m a k:Nat}{R:PySem.Fin->AZ->Prop}(ht:s.heap.get? t=U {cls:=An "tuple",data:=El items m})(hT:s.TypeIs (Ai sl) "slice")
  (y:∀{Q:Int×Int×Nat->AZ->Prop},Q ((a:Int),1,k) s->AB (model prog w) A (Es (Ai sl) (AJ (items.size:Int))) Q E s) (C:a+k<=items.size) (hz:items.size<=Eu)
  (h1:k=items.size->R (CN (Cr (Ai t))) s) (q:R (CN (Cr (Ai s.heap.objs.size))) {s with heap:=s.heap.push {cls:=An "tuple",data:=El ((items.toList.drop a).take k).toArray}}):
  AB (model prog w) A (Builtin.«tuple.__getitem__» ⟨[Ai t,Ai sl],[]⟩) R E s:=by
 show AB _ _ (Ik (Ai t)>>=_) _ _ s;refine Ab<|Hb ht H<|Ab<|C8 hT ?_
 rw[Nt H];refine Ab<|y ?_
 dsimp only
 have N:((D3 k).filterMap λ(j:Nat)=>items[((a:Int)+(j:Int)*1).toNat]?).toArray=((items.toList.drop a).take k).toArray:=by
  have e:(λ(j:Nat)=>items[((a:Int)+(j:Int)*1).toNat]?)=λj=>items[a+j]?:=by
   funext j
   have:((a:Int)+(j:Int)*1).toNat=a+j:=M7 (λz:Int=>((a:Int)+z).toNat) (J6 j);rw[this]
  rw[e];have:=pick_run items a k;rw[List.filterMap_map]at this;rw[(H:((λx=>items[x]?)∘λx=>a+x)=λj=>items[a+j]?)]at this;rw[this]
 by_cases X:((a:Int)==0&&(1:Int)==1&&k==items.size)=J
 ·rw[Nt X];have hk:k=items.size:=by simp only[AR,beq_iff_eq]at X;exact X.2
  refine Ab (m:=Im (Ai t)) ?_;delta Im;refine Ab (C8 (⟨_,ht,H⟩:s.TypeIs (Ai t) "tuple") (Aj ?_));rw[Nt H];refine Ab<|BD ?_
  first
   |exact Aj (h1 hk)
   |exact Ab (Aj (Aj (h1 hk)))
 rw[Np X,N]
 have I:sizeOk (El ((items.toList.drop a).take k).toArray):=by show((items.toList.drop a).take k).toArray.size<=Eu;rw[I9,F6,Cz,Gs];exact Aa (Gy ..)<|Aa (Aa (Bl k a) C) hz
 first
  |exact Ab (m:=Gp _) (Cf (Aj q) I)
  |exact Ab (m:=Gp _) (Cf (Ab (Aj (Aj q))) I)
  |exact Ab (Ab (m:=Gp _) (Cf (Aj (Aj q)) I))
end
section
variable{n:Nat}{σ:M5}{Q:KE}{l:LV}{lo hi:V}
def uc(X:a+k<=l.length)
  (x:∀(s:Wd B) C q y,s.sh.heap.IsSliceOf C q y AL->Rd s q lo->Rd s y hi->∀A R,R ((a:Int),1,k) s.sh->AB B.M A (Es (Ai C) (AJ (l.length:Int))) R PI s.sh)
  (r:Q (Bg ((l.drop a).take k)) σ):R4 B (n+1) (Bg l) lo hi A5 σ Q:=
 si (λs v e I=>(kU I).is) EI.lookup λs v C q y u3 e I hS h1 h2 h3=>by
  subst e;have hT:=(kU I).is;obtain⟨t,vs,m,rfl,e,f,hl,N⟩:=aq.inv I;have N:Nq s vs l:=N;obtain rfl:u3=AL:=aq.inv h3;refine p8 hT H EI<|cF EI hT PySem.F.entry_tuple_getitem aY (PySem.F.args_tuple_getitem_2 _ _) λA rm=>up ?_
  refine v9 (items:=vs.toArray) (a:=a) (k:=k) e (by obtain⟨o,ho,hc,_⟩:=hS;exact⟨o,ho,hc⟩:s.sh.TypeIs (.ref C) "slice") (λh=>by rw[N.size];exact x s C q y hS h1 h2 _ _ h) (by rw[N.size];exact X) (N.arr hl) (λhk=>?_) ?_;rw[N.size]at hk;have ha:a=0:=Mo.mp (KU (Aa X (Ap (aO hk (A1 k).symm))));subst ha hk;rw[(C0 (AH _):(l.drop 0).take l.length=l)]at r;exact eQ<|kl I r
  exact eQ<|iu (t:=s.sh.toks) ((N.drop a).take k) (Aa (HQ ..) (Aa (Ap Cz) (Aa (GR ..) hl))) r
def nX(hi:i<=l.length)(r:Q (Bg (l.drop i)) σ):R4 B (n+1) (Bg l) (Ar (G i)) A5 A5 σ Q:=
 uc (a:=i) (k:=l.length-i) (Ap (Jn hi)) (λs q y N X C I A R h=>by obtain⟨t,rfl⟩:=aq.inv C;obtain rfl:N=AL:=aq.inv I;exact sliceApplied_from X hi h) (by rw[C0 (Ap Cz)];exact r)
def nY{i:Nat}(hi:i<=l.length)(r:Q (Bg (l.take i)) σ):R4 B (n+1) (Bg l) A5 (Ar (G i)) A5 σ Q:=
 uc (a:=0) (k:=i) (by rw[A1];exact hi) (λs q N y I X C A R h=>by obtain⟨t,rfl⟩:=aq.inv C;obtain rfl:N=AL:=aq.inv X;exact iR I hi h) r
end
inductive WA (x:Wd B) (τ:M5) (R:Wd B->Prop):Prop
 |mk (y:Wd B):y.sh=x.sh->y.σ=τ->LN x y->R y->WA x τ R
def OK(σ τ:M5):=∀x,x.σ=σ->WA x τ λZ=>True
def NN(σ τ:M5)(u z:V):=∀x v,x.σ=σ->Rd x v u->WA x τ λy=>Rd y v z
section
variable{n:Nat}{σ τ υ:M5}{u z w:V}{Q:KE}{a:AG}
def OK.refl:OK σ σ:=λx e=>.mk x H e (LE.refl _) Oq
def OK.trans(g:OK σ τ)(k:OK τ υ):OK σ υ:=λx e=>WA.casesOn (g x e) λy a b l Z=>WA.casesOn (k y b) λR N b2 I Z=>.mk R (N.trans a) b2 (l.trans I) Oq
def OK.v(g:OK σ τ):NN σ τ u u:=λx v e h=>WA.casesOn (g x e) λy a b l Z=>.mk y a b l (h.le l)
def NN.trans(g:NN σ τ u z)(k:NN τ υ z w):NN σ υ u w:=λx v e h=>WA.casesOn (g x v e h) λy a b l I=>WA.casesOn (k y v b I) λR N b2 X A=>.mk R (N.trans a) b2 (l.trans X) A
def NN.step(g:NN σ τ (Av a) z):OK σ τ:=λx e=>WA.casesOn (g x (Ai a) e (aq.ref a)) λy a b l Z=>.mk y a b l Oq
def OK.drop(N:σ a=U o)(R:∀c,o≠CK c):OK σ (σ.del a):=λx e=>by subst e;exact .mk (x.QA N R) H H (dT N R) Oq
def NN.lst(N:σ a=U (AA l)):NN σ (σ.del a) (Av a) (BB l):=λx v e I=>by subst e;obtain rfl:v=Ai a:=aq.inv I;obtain⟨R,m,g,A,r⟩:=x.listAt N;have lf:=dT N O.aB;exact .mk (x.QA N O.aB) H H lf<|aq.lst (x:=(x.QA N O.aB).toSt) a R m l g ⟨M5.bu a,AN H⟩ A<|r.le (y:=x.QA N O.aB) lf
def NN.di(N:σ a=U (AE l)):NN σ (σ.del a) (Av a) (B6 l):=λx v e X=>by subst e;obtain rfl:v=Ai a:=aq.inv X;obtain⟨R,m,g,A,C,I⟩:=x.dictAt N;have lf:=dT N O.bG;exact .mk (x.QA N O.bG) H H lf<|aq.di (x:=(x.QA N O.bG).toSt) a R m l g ⟨M5.bu a,AN H⟩ A (C.az lf.az) I
def Ny.post(c:Ny B n f args σ λu τ=>∃z υ,NN τ υ u z/\Q z υ):Ny B n f args σ Q:=λx vs e I=>λA X=>ag1 (c x vs e I A X) (λv s' q=>aP.casesOn q λy a l q=>dS.casesOn q λu hu q=>q.elim λz q=>q.elim λυ q=>WA.casesOn (q.1 y v H hu) λR N b2 l2 C=>.mk R (N.trans a) (l.trans l2) (.mk z C (b2.symm▸q.2))) λZ Z f=>f
def Ny.pre(g:OK σ τ)(c:Ny B n f args τ Q):Ny B n f args σ Q:=λx C e I=>λA X=>WA.casesOn (g x e) λy a b l Z=>ag1 (a▸c y C b (I.le l) A X) (λv s' q=>aP.casesOn q λR N l2 q=>.mk R N (l.trans l2) q) λZ Z f=>f
def Ny.mono{N:KE}(h:Ny B n f args σ Q)(k:∀u τ,Q u τ->N u τ):Ny B n f args σ N:=λx I e R=>Wv.mono (h x I e R) k
abbrev fnT(a:AG):List (AG×Fn×LV)->Option (Fn×LV)
 | []=>Y
 |t::r=>match BU a t.1 with
  |true=>U t.2
  |false=>fnT a r
end
def kn{K:HW}{a:AG}{f:Fn×LV}:∀{l},VU K l->fnT a l=U f->fnOf K a=U f:=λ{l}=>by
 induction l with
 |nil=>exactλZ h=>aa h
 |cons t r ih=>
  intro h e
  dsimp only[fnT]at e
  cases e1:BU a t.1 with
  |true=>rw[e1]at e;exact(BE e1)▸h.1.trans e
  |false=>rw[e1]at e;exact ih h.2 e
variable{n:Nat}{σ τ:M5}{Q:KE}
def Sl(C:AG)(m:Nat)(f:AG):List (AG×Nat×AG)->Bool
 | []=>Am
 |t::r=>(BU C t.1&&(BU m t.2.1&&BU f t.2.2))||Sl C m f r
def Qg(C:AG)(m:Nat):List (AG×Nat)->Bool
 | []=>Am
 |t::r=>(BU C t.1&&BU m t.2)||Qg C m r
def sP{p:AG×Nat×AG->Bool}{C:AG}{m:Nat}{f:AG}:∀{l},l.all p=J->Sl C m f l=J->p (C,m,f)=J:=λ{l}=>by
 induction l with
 |nil=>exactλZ h=>A9 h
 |cons t r A=>
  intro h e;obtain⟨I,y⟩:=Ah.mp h;rcases Cb.mp e with e|e
  obtain⟨X,e⟩:=Ah.mp e;obtain⟨N,R⟩:=Ah.mp e;obtain rfl:=BE X;obtain rfl:=BE N;obtain rfl:=BE R;exact I;exact A y e
def lj{p:AG×Nat->Bool}{C:AG}{m:Nat}:∀{l},l.all p=J->Qg C m l=J->p (C,m)=J:=λ{l}=>by
 induction l with
 |nil=>exactλZ h=>A9 h
 |cons t r X=>
  intro h e;obtain⟨A,I⟩:=Ah.mp h;rcases Cb.mp e with e|e
  obtain⟨N,R⟩:=Ah.mp e;obtain rfl:=BE N;obtain rfl:=BE R;exact A;exact X I e
section
variable{K:HW}(F:Facts K){C f:AG}{m:Nat}
include F
def Facts.sQ(h:Sl C m f Ts=J):Ug K C m f=J:=sP (p:=λt=>Ug K t.1 t.2.1 t.2.2) (Ah.mp F.bo).1 h
def Facts.make(h:Qg C f Uq=J):Uh K C f=J:=lj (p:=λt=>Uh K t.1 t.2) (Ah.mp (Ah.mp F.bo).2).1 h
def Facts.attr(h:Qg C m Tt=J):attrOk K C m=J/\setOk K C m=J:=Ah.mp (lj (p:=λt=>attrOk K t.1 t.2&&setOk K t.1 t.2) (Ah.mp (Ah.mp F.bo).2).2 h)
end
section
variable{c:Bool}{X M:Prop}
def ay{f:AG}{fn:Fn}{args ds full:LV}(hf:fnT f Pk=U (fn,ds))(N:Oi args ds fn.np=U full)
  (h:Na n 64 fn.body (full.map U++A8 (fn.ns-fn.np) Y) σ (RT Q)):M8 B (n+1) f args σ Q:=λx=>xX gy (kn x.F.fn hf) N h x
def dN{t:E}{b:List S}{K:Kt}{N:NF}(h:O7 B n 64 t N σ (Yu n 64 t b K N)):Og n t b N σ K:=r8 gy 64 h
def tt(h:c=J)(x:X):br c X M:=by subst h;exact x
def ff(h:c=Am)(y:M):br c X M:=by subst h;exact y
def PF:List S->E
 |.dN t _::_=>t
 |_=>JQ A5
def Pn:List S->List S
 |.dN _ b::_=>b
 |_=>[]
def nZ{a:AG}{f:M6}(h:σ a=U (CF f)):W9 σ (Av a)=U f.length:=by show Jj (σ a) _=_;rw[h];rfl
def aL{k:Nat}{s:S}{r:List S}{K:Kt}{N:NF}(h:We n k s N σ (Nl (Na n k) r K)):(Nl (Na n (k+1)) (s::r) K).nx N σ:=h
def rG{j k:Nat}{s:S}{r:List S}{K:Kt}{N:NF}(h:We n k s N σ (Nl (Na n k) r K)):Na n (j+1) [] N σ (Nl (Na n (k+1)) (s::r) K):=h
def fst{k:Nat}{s:S}{r:List S}{K:Kt}{N:NF}(h:We n k s N σ (Nl (Na n k) r K)):Na n (k+1) (s::r) N σ K:=h
def wb{F N:M5->Kt->Prop}{K:Kt}(h:N σ K):Vv (brK F N K) (tst Am (Bm c)) σ:=h
def ttb{F N:M5->Kt->Prop}{K:Kt}(h:F σ K):Vv (brK F N K) (tst J (Bm c)) σ:=h
def M5.yE{a b:AG}{o o' p:O}(h:a≠b):((σ.set a o).set b p).set a o'=(σ.set a o').set b p:=by
 funext c
 by_cases q:c=a
 subst q;exact(M5.ag _ _).trans ((M5.aA _ h).trans (M5.ag _ _)).symm;refine(M5.aA _ q).trans ?_
 by_cases N:c=b
 subst N;exact(M5.ag _ _).trans (M5.ag _ _).symm;exact(M5.aA _ N).trans<|(M5.aA _ q).trans ((M5.aA _ N).trans (M5.aA _ q)).symm
def OK.unset{a:AG}{o:O}(h:σ a=Y)(N:∀c,o≠CK c):OK (σ.set a o) σ:=by
 have:=OK.drop (M5.ag (σ:=σ) a o) N
 rwa [M5.eY h]at this
def bb{β:Type}{f:β->V}{g:β->OV}{F:V->M5->(OV->M5->Prop)->Prop}{k:KL}:∀(l:List β),(∀x∈l,∀c:OV->M5->Prop,c (g x) σ->F (f x) σ c)->k (l.filterMap g) σ->Qm F (l.map f) σ k:=λl=>by
 induction l generalizing k with
 |nil=>exactλZ q=>q
 |cons x r R=>exactλh q=>h x (As ..) _ (R (λy N=>h y (Au _ N)) (by
   rw[Cj]at q
   cases e:g x with
   |none=>rw[e]at q;exact q
   |some v=>rw[e]at q;exact q))
def Sn(o:M6):=∀c∈o,c<256
def M8.agB{f:AG}{args:LV}(h:(∀b,W b∈args->Sn b/\b.length<=Nh)->M8 B n f args σ Q):M8 B n f args σ Q:=λs y e N=>h (λb A=>by obtain⟨k,q⟩:=Ee A;obtain⟨v,_,R⟩:=N.get q;exact R.dn (C:=λZ=>Sn b/\b.length<=Nh) λu t e m=>⟨λc I=>by subst e;obtain⟨d,_,rfl⟩:=A0.mp I;exact d.toNat_lt,m⟩) s y e N
def M8.yF{f:AG}{b:M6}{r:LV}(h:Sn b->b.length<=Nh->M8 B n f (W b::r) σ Q):M8 B n f (W b::r) σ Q:=.agB λk=>h (k b (As ..)).1 (k b (As ..)).2
def aD{N:Type}{o r:List N}{a:Nat}{c:N}(h:o.drop a=c::r):o[a]?=U c:=by have:=MF (xs:=o) (i:=a) (j:=0);rw[h]at this;exact this.symm
def aw{N:Type}{o r:List N}{a:Nat}{c:N}(h:o.drop a=c::r):o.drop (a+1)=r:=by rw[<-HR,h];rfl
def qE{N:Type}{o r:List N}{a:Nat}{c:N}(h:o.drop a=c::r):a<o.length:=(BI.mp (aD h)).1
def bS{N:Type}{o r:List N}{a:Nat}{c:N}(h:o.drop a=c::r):decide (G a<G o.length)=J:=N5 (BN.mpr (qE h))
def gf{N:Type}{o:List N}{a:Nat}(h:o.drop a=[]):decide (G a<G o.length)=Am:=N8 λq=>E2 (BN.mp q) (DK.mp h)
def Sn.dr{o r:M6}{a c:Nat}(h:Sn o)(e:o.drop a=c::r):c<256:=h c (A6 (aD e))
def ak{N:Type}{o:Option N}{x:N}{k:N->Prop}(h:o=U x)(q:k x):TP o k:=h▸q
def eU{N:Type}(l:List N)(a k:Nat):NP l (U (G a)) (U (G (a+k)))=(l.drop a).take k:=by
 show(l.drop (HU l.length (a:Nat))).take (HU l.length ((a+k:Nat):Int)-HU l.length (a:Nat))=_;rw[JC,JC];rcases Jk a l.length with h|h
 ·rw[DU h];rcases Jk (a+k) l.length with h2|h2
  ·rw[DU h2,Hu]
  ·rw[Ht h2,C0 (Ap (Cz ..)),C0 ((Cz ..).symm▸Nat.sub_le_iff_le_add'.mpr h2)]
 rw[Ht h,Ds (AH _),Ds h,List.take_nil,List.take_nil]
def bg{N:Type}{o l:List N}{a:Nat}(h:o.drop a=l)(k:Nat):o.drop (a+k)=l.drop k:=by rw[<-HR,h]
variable{o l:M6}{a:Nat}
def bM(h:o.drop a=l)(k:Nat)(q:Q (W (l.take k)) σ):R4 B n (W o) (Ar (G a)) (Ar (G (a+k))) A5 σ Q:=aM H H (by rw[eU,h];exact q)
def Po(c:Nat):=([48,49,50,51,52,53,54,55,56,57]:M6).contains c
end
abbrev dig:M6->Bool
 | []=>Am
 |c::_=>Po c
def N0:Int->M6->Int×M6
 |v,[]=>(v,[])
 |v,c::r=>match Po c with
  |true=>N0 (v*10+G c-48) r
  |false=>(v,c::r)
def n0{v:Int}{c:Nat}{r:M6}(h:Po c=J):N0 v (c::r)=N0 (v*10+G c-48) r:=by show(match Po c with|true=>_|false=>_)=_;rw[h]
def n4{v:Int}{c:Nat}{r:M6}(h:Po c=Am):N0 v (c::r)=(v,c::r):=by show(match Po c with|true=>_|false=>_)=_;rw[h]
section
variable{o l:M6}{a:Nat}
def cS(N:Sn o)(h:o.drop a=l)(q:Q (Bm (dig l)) σ):M8 B (n+1) 97 [W o,Ar (G a)] σ Q:=by
 refine ay H H ?_
 cases l with
 |nil=>exact ff (gf h) q
 |cons c r=>exact tt (bS h) (ak (aD h) ⟨N.dr h,q⟩)
end
def Keeps(σ τ:M5):=∀b o,σ b=U o->τ b=U o
def Keeps.refl:Keeps σ σ:=λZ Z h=>h
def Keeps.trans(h:Keeps σ τ)(k:Keeps τ υ):Keeps σ υ:=λb o e=>k b o (h b o e)
def Keeps.set{σ τ:M5}(h:Keeps σ τ)(e:σ a=Y):Keeps σ (τ.set a o):=λb N q=>(M5.aA _ λR=>aa<|aO (R▸e) q).trans (h b N q)
def Keeps.new{σ τ:M5}(h:Keeps σ τ)(e:τ a=Y):Keeps σ (τ.set a o):=h.trans (Keeps.refl.set e)
def Keeps.none{σ τ:M5}(h:Keeps σ τ)(e:τ a=Y):σ a=Y:=by
 cases q:σ a with
 |none=>rfl
 |some o=>exact aa<|aO e (h a o q)
def Qu(x:St)(τ:M5):St:=⟨x.sh,λb=>x.φ b\/(x.σ b≠Y/\τ b=Y),τ⟩
def ll{x:Wd B}(h:Keeps τ x.σ):LE noOwn x.toSt (Qu x.toSt τ):=⟨λa o Z e s=>⟨e,h.none s,λq=>q.elim id λq=>M9 s q.1,Aw⟩,λZ q=>q.elim⟩
def sR{x:Wd B}(h:Keeps τ x.σ)(hh:∀a c l,τ a=U (BZ c l)->∃d,a=d+1/\τ d=U (CK a)):Ok B (Qu x.toSt τ):=by
 have I:=(ll h).az;refine⟨λb o e=>(x.ok.base b o e).elim λf g=>(I b o g f).symm,λa o e=>?_,λa q=>?_,x.ok.os,x.ok.gens,x.ok.fx⟩
 ·have r:=x.ok.objs a o (h a o e)
  cases o with
  |list l=>obtain⟨vs,n,R,N,X⟩:=r;exact⟨vs,n,R,N,aE.az I X⟩
  |dict l=>obtain⟨A,n,R,N,X,C⟩:=r;exact⟨A,n,R,N,aU.az I X,C⟩
  |rF l=>exact r
  |inst c l=>obtain⟨d,A,n,R,N,_,C,y⟩:=r;obtain⟨d',e6,e7⟩:=hh a c l e;obtain rfl:=CV (aO y e6);exact⟨d,A,n,R,N,e7,bh.az I C,y⟩
  |u6 b=>exact r
 rcases q with q|q
 exact(x.ok.QA a q).imp_left λe=>h.none e
 cases e:x.σ a with
 |none=>exact M9 e q.1
 |some o=>exact⟨q.2,(x.ok.objs a o e).lt⟩
inductive Out (σ τ:M5) (Q:KE) (z:V):Prop
 |val:Q z σ->Out σ τ Q z
 |lst (a:AG) (l:LV):z=Av a->σ a=Y->τ a=U (AA l)->Q (BB l) σ->Out σ τ Q z
def Ny.out(c:Ny B n f args σ λz τ=>Keeps σ τ/\Out σ τ Q z):Ny B n f args σ Q:=λx C e hs A rm=>by
 subst e;refine ag1 (c x C H hs A rm) (λv s' q=>aP.casesOn q λy a l q=>dS.casesOn q λz hz q=>?_) λZ Z f=>f;have N:=ll q.1
 have I:=sR q.1 λa c m e=>by obtain⟨d,_,_,_,_,X,_,R⟩:=x.ok.objs a _ e;exact⟨d,R,X⟩
 refine Out.casesOn q.2 (λh=>.mk ⟨Qu y.toSt x.σ,I⟩ a (l.trans N) (.mk z (hz.le N) h)) λb m X R e3 h=>.mk ⟨Qu y.toSt x.σ,I⟩ a (l.trans N)<|.mk _ ?_ h
 subst X;obtain⟨C,k,g,hl,r⟩:=y.listAt e3;obtain rfl:v=Ai b:=aq.inv hz;exact aq.lst (x:=Qu y.toSt x.σ) b C k m g ⟨R,AN ⟨λq=>(aa<|aO q e3),R⟩⟩ hl<|r.le (y:=⟨Qu y.toSt x.σ,I⟩) N
def Ny.cut(c:Ny B n f args σ λz τ=>Keeps σ τ/\Q z σ):Ny B n f args σ Q:=Ny.out (c.mono λZ Z q=>⟨q.1,.val q.2⟩)
section
variable{o l:M6}{a:Nat}
def gz(R:Sn o)(h:o.drop a=l)(q:∀p,o.drop p=(N0 0 l).2->Q (Bg [Ar (N0 0 l).1,Ar (G p)]) σ):M8 B (n+2) 104 [W o,Ar (G a)] σ Q:=by
 refine ay H H (have N:∀K,∀l v a,(∀p,o.drop p=(N0 v l).2->K.nx [U (W o),U (Ar (G p)),U (Ar (N0 v l).1)] σ)->o.drop a=l->Og (n+1) _ _ [U (W o),U (Ar (G a)),U (Ar v)] σ K:=?_;N _ l 0 a q h);intro K l
 induction l with
 |nil=>exactλv a q h=>dN (cS R h (q a h))
 |cons c r I=>exactλv a q h=>dN (cS R h (aF (λe=>⟨AN ae,ak (aD h) (I _ (a+1) (n0 e▸q) (aw h))⟩) λe=>(n4 e▸q) a h))
abbrev isStar(l:M6):=[W [42],W [47]].any λy=>RX y (W (l.take 1))
def QU:M6->M6
 | []=>[]
 |c::r=>match isStar (c::r)with
  |true=>QU r
  |false=>c::r
def VI(l:M6):Option M6:=match l.take 1 !=[62]with
 |true=>Y
 |false=>U (l.drop 1)
def QV(l:M6):M6:=match l.take 1==[46],dig (l.drop 1)with
 |true,J=>l.drop 2
 |_,_=>l
def n5{l:M6}(h:(l.take 1==[46])=Am):QV l=l:=by delta QV;rw[h]
def sS{l:M6}(h:(l.take 1==[46])=J)(e:dig (l.drop 1)=Am):QV l=l:=by delta QV;rw[h,e]
def ud{l:M6}(h:(l.take 1==[46])=J)(e:dig (l.drop 1)=J):QV l=l.drop 2:=by delta QV;rw[h,e]
def T8(l:M6):Option M6:=match l.take 2 !=[36,60],dig (l.drop 2)with
 |false,J=>VI (QU (QV (N0 0 (l.drop 2)).2))
 |_,_=>Y
def n6(h:isStar (c::r)=J):QU (c::r)=QU r:=by show(match isStar (c::r)with|true=>_|false=>_)=_;rw[h]
def ue(h:isStar (c::r)=Am):QU (c::r)=c::r:=by show(match isStar (c::r)with|true=>_|false=>_)=_;rw[h]
end
def lq(h:dig l=J):∃c r,l=c::r:=by
 cases l with
 |nil=>cases h
 |cons c r=>exact⟨c,r,H⟩
section
variable{o l:M6}{a:Nat}
def qF(ho:Sn o)(h:o.drop a=l)(X:T8 l=Y->Q A5 σ)(y:∀r t e k p,T8 l=U r->o.drop p=r->Q (Bg [Ar t,Bm e,Bm k,Ar (G p)]) σ):M8 B (n+3) 371 [W o,Ar (G a)] σ Q:=by
 refine ay H H<|bM h 2 ?_
 delta T8 at X y;refine aF (λe=>X (by rw[e])) λe=>?_;rw[e]at X y;refine cS ho (bg h 2) ?_
 cases e2:dig (l.drop 2)with
 |false=>rw[e2]at X;exact X H
 |true=>
 rw[e2]at X y;refine gz ho (bg h 2) λp I=>⟨AN (Ac H),bM I 1 ?_⟩;generalize hK:Nl _ _ _=K
 have R:∀t p m,o.drop p=m->(VI (QU m)=Y->Q A5 σ)->(∀r t e k p,VI (QU m)=U r->o.drop p=r->Q (Bg [Ar t,Bm e,Bm k,Ar (G p)]) σ)->
  K.nx [U (W o),U (Ar (G a)),U (Ar (N0 0 (l.drop 2)).1),U (Ar (G p)),U (Ar t),Y,Y] σ:=by
  subst hK;intro t p m I r0 r1;refine have N:∀K,∀m e k p,o.drop p=m->(∀e k p,o.drop p=QU m->K.nx [U (W o),U (Ar (G a)),U (Ar (N0 0 (l.drop 2)).1),U (Ar (G p)),U (Ar t),U (Bm e),U (Bm k)] σ)->Og (n+2) _ _ [U (W o),U (Ar (G a)),U (Ar (N0 0 (l.drop 2)).1),U (Ar (G p)),U (Ar t),U (Bm e),U (Bm k)] σ K:=?_;N _ m Am Am p I λe k p I=>?_
  ·intro K m
   induction m with
   |nil=>exactλe k p I q=>dN (bM I 1 (aj H (q e k p I)))
   |cons c r ih=>refineλe k p I q=>dN (bM I 1 (aj H (aF (λx=>?_) λx=>q e k p (I.trans (ue x).symm))));rw[n6 x]at q;exact bM I 1<|aF (λZ=>ih J k _ (aw I) q) λZ=>ih e J _ (aw I) q
  refine bM I 1 ?_;delta VI at r0 r1;refine aF (λA=>r0 (by rw[A])) λA=>r1 _ t e k _ (by rw[A])<|bg I 1
 refine aF (λC=>?_) λC=>?_
 ·refine cS ho (bg I 1) (aF (λA=>?_) λA=>?_)
  ·obtain⟨c,r,x⟩:=lq A;exact ak (aD ((bg I 1).trans x))<|R _ _ _ (bg I 2) (ud C A▸X)<|ud C A▸y
  ·exact R _ _ _ I (sS C A▸X)<|sS C A▸y
 exact wb<|R _ _ _ I (n5 C▸X)<|n5 C▸y
def Wi(D:M6):=∀c∈D,Po c=J
def Sts(S:M6):=∀c∈S,isStar [c]=J
def n7{p:Nat->Prop}:∀c∈([]:M6),p c:=λZ h=>M9 h Ay
end
def yG:∀l v,∃D,l=D++(N0 v l).2/\Wi D/\(dig l=J->D≠[]):=λl=>by
 induction l with
 |nil=>exactλv=>⟨[],H,n7,λh=>A9 h⟩
 |cons c r I=>
  intro v
  cases e:Po c with
  |true=>obtain⟨D,R,N,_⟩:=I (v*10+G c-48);exact⟨c::D,M7 (c::·) (n0 e▸R),Ae.mpr ⟨e,N⟩,λZ=>Dh _ _⟩
  |false=>exact⟨[],M7 FH (n4 e).symm,n7,λh=>A9 (aO e h)⟩
def wc(l:M6):∃S,l=S++QU l/\Sts S:=by
 induction l with
 |nil=>exact⟨[],H,n7⟩
 |cons c r I=>
  cases e:isStar (c::r)with
  |true=>obtain⟨S,R,N⟩:=I;exact⟨c::S,M7 (c::·) (n6 e▸R),Ae.mpr ⟨e,N⟩⟩
  |false=>exact⟨[],(ue e).symm,n7⟩
def ahs{l m:M6}(h:l.take k=m):l=m++l.drop k:=h▸(EH k l).symm
def Ten(f:M6):=f=[]\/∃c,f=[46,c]/\Po c=J
def we(l:M6):∃f,l=f++QV l/\Ten f:=by
 cases e:l.take 1==[46]with
 |false=>exact⟨[],(n5 e).symm,Aw H⟩
 |true=>
  cases N:dig (l.drop 1)with
  |false=>exact⟨[],(sS e N).symm,Aw H⟩
  |true=>have h:=ahs (N2 e);obtain⟨c,r,R⟩:=lq N;rw[R]at h N;subst h;exact⟨[46,c],M7 (46::c::·) (ud (l:=46::c::r) H N).symm,AN ⟨c,H,N⟩⟩
def abt(h:VI l=U r):l=62::r:=by
 delta VI at h
 cases e:l.take 1 !=[62]with
 |true=>rw[e]at h;exact aa h
 |false=>rw[e]at h;exact(ahs (bne_eq_false_iff_eq.mp e)).trans (M7 (62::·) (Af h))
inductive Delay:M6->Prop
 |mk {D f S:M6}:D≠[]->Wi D->Ten f->Sts S->Delay (D++(f++S))
def kq(h:T8 l=U r):∃w,l=36::60::(w++62::r)/\Delay w:=by
 delta T8 at h
 cases e:l.take 2 !=[36,60]with
 |true=>rw[e]at h;exact aa h
 |false=>
  rw[e]at h
  cases N:dig (l.drop 2)with
  |false=>rw[N]at h;exact aa h
  |true=>rw[N]at h;obtain⟨D,C,X,y⟩:=yG (l.drop 2) 0;obtain⟨f,I,R⟩:=we (N0 0 (l.drop 2)).2;obtain⟨S,A,q⟩:=wc (QV (N0 0 (l.drop 2)).2);refine⟨D++(f++S),?_,.mk (y N) X R q⟩;rw[Ag,Ag,<-abt h,<-A,<-I,<-C];exact ahs<|bne_eq_false_iff_eq.mp e
def n8{l r:M6}(h:T8 l=U r):r.length<l.length:=by obtain⟨w,rfl,_⟩:=kq h;rw[Bn,Bn,Ad,Bn];exact AP (Bu _)<|Aa (Bl _ _)<|AD _ 2
inductive fO:M6->M6->Prop
 |nil:fO [] []
 |del {l r b:M6}:T8 l=U r->fO r b->fO l b
 |one {c:Nat} {r b:M6}:T8 (c::r)=Y->fO r b->fO (c::r) (c::b)
section
variable{o b:M6}{a:Nat}
def wg(hb:fO o b)(q:∀z,Q (Bg [W b,z]) σ):M8 B (n+4) 378 [W o] σ Q:=.yF λho hl=>by
 refine Ny.post<|ay H H<|eP λA hA=>⟨Aq _,AN λD hD=>?_⟩
 have X:A≠D:=λe=>by subst e;cases(M5.ag _ _).symm.trans hD
 have I:=λf d=>(M5.aA (σ:=σ.set A (CF f)) (AA d) X).trans (M5.ag _ _);refine have N:∀K,∀l b,fO l b->∀f d a x,o.drop a=l->f.length+l.length<=Nh->d.length+l.length<=Nh->(∀d a x,K.nx [U (W o),U (Av A),U (Av D),a,x] ((σ.set A (CF (f++b))).set D (AA d)))->Og (n+3) _ _ [U (W o),U (Av A),U (Av D),U (Ar (G a)),x] ((σ.set A (CF f)).set D (AA d)) K:=?_;N _ o b hb [] [] 0 Y H ((A1 _).symm▸hl) ((A1 _).symm▸hl) λd a x=>?_
 ·intro K l b hb
  induction hb with
  |nil=>exactλf d a x R Z Z q=>dN (ff (gf R) (f.append_nil▸q d _ x))
  |del e _ ih=>
   intro f d a x R h1 h2 q;obtain⟨w,e2,_⟩:=kq e;refine dN<|tt (bS (R.trans e2))<|qF ho R (λC=>aa (aO C e)) λr' t y k p C hp=>?_
   obtain rfl:=Af (aO e C);have:=n8 e;refine aK (ai (M5.ag _ _))<|b9 (nZ (I _ _))<|av (M5.ag _ _) (AP (Bz (Nat.zero_lt_of_lt this)) h2) ?_
   rw[M5.set_set];exact ih _ _ p _ hp (Aa (AU (B3 this) _) h1) (Aa (by rw[Ad,Bf];exact AU ((Bk 1 _).symm▸this) _) h2) q
  |one e _ ih=>
   intro f d a x R h1 h2 q;refine dN<|tt (bS R)<|qF ho R (λZ=>eM (I _ _) (ak (aD R) (bY (I _ _) (AP (Bz (Bt _)) h1) (ho.dr R) ?_))) λr' t y k p C hp=>aa<|aO e C
   rw[M5.yE X];exact ih _ _ (a+1) _ (aw R) (by rw[Ad,Bf];exact(Bk 1 _).symm▸h1) (DR h2) λd a x=>by rw[Ag];exact q d a x
 refine cf (I _ _) ⟨_,_,OK.v ((OK.unset ((M5.aA _ X.symm).trans (aO (M5.aA _ X.symm) hD)) O.aB).trans (OK.unset hA O.pq)),q _⟩
def lr(N:fO o b)(q:Q (W b) σ):M8 B (n+5) 385 [W o] σ Q:=ay H H (wg N λZ=>q)
def iS(c:Nat):isStar [c]=([42,47]:M6).contains c:=by show((42==c&&J)|| ((47==c&&J)||Am))=(c==42|| (c==47||Am));rw[Ha,Ha,Mx (a:=42),Mx (a:=47)]
def ia(h:Po c=J)(e:Po d=Am):c≠d:=λq=>by subst q;exact A9 (aO h e)
def qG(h:Po c=J):([42,47]:M6).contains c=Am:=by show(c==42|| (c==47||Am))=Am;rw[TM (ia h (d:=42) H),TM (ia h (d:=47) H)];rfl
def lx{c N S:M6}(A:c.contains d=Am)(I:∀x∈S,c.contains x=J):NL c (N++d::S)=N++[d]:=by delta NL;rw[Mq,BF,Ag,J5 λx R=>I x (EW.mp R)];show(GL _ (d::N.reverse)).reverse=_;rw[Ek,A];show(d::N.reverse).reverse=_;rw[BF,Dg]
def d6(c w:M6):∃S,w=NL c w++S/\∀x∈S,c.contains x=J:=by refine⟨(w.reverse.takeWhile (c.contains ·)).reverse,?_,λx N=>A3.mp MG x (EW.mp N)⟩;delta NL;rw[<-Mq,Jo,Dg]
def mY:∀(D N:M6),(∀x∈D,x≠c)->Nn c N (D++r)=Nn c (N++D) r:=λD=>by
 induction D with
 |nil=>exactλN Z=>by rw[Ax];rfl
 |cons x D I=>intro N h;show(if x==c then N::Nn c [] (D++r)else Nn c (N++[x]) (D++r))=_;rw[TM (h x (As ..)),Np Bh,I _ λy R=>h y (Au _ R),Ag];rfl
def qH:∀(l N:M6),Nn c N l≠[]:=λl=>by
 induction l with
 |nil=>exactλZ=>Dh _ _
 |cons x l R=>
  intro N;show(if x==c then _ else _)≠_
  cases x==c
  exact R _;exact Dh _ _
def mZ:∀l cur {p:M6},Nn c cur l=[p]->cur++l=p:=λl=>by
 induction l with
 |nil=>exactλcur p h=>(Ax cur).trans (BO h).1
 |cons x l ih=>
  intro cur p h
  change (if x==c then _ else _)=_ at h
  cases e:x==c with
  |true=>rw[e]at h;exact M9 (BO h).2 (qH _ _)
  |false=>rw[e]at h;exact aO (Ag cur [x] l) (ih _ h)
def wi:∀l cur {p q:M6},Nn c cur l=[p,q]->cur++l=p++c::q:=λl=>by
 induction l with
 |nil=>exactλcur p q h=>nomatch (BO h).2
 |cons x l ih=>
  intro cur p q h
  change (if x==c then _ else _)=_ at h
  cases e:x==c with
  |true=>
   rw[e]at h
   obtain⟨h1,h2⟩:=BO (h:cur::Nn c [] l=[p,q])
   rw[N2 e,<-mZ l [] h2,h1];rfl
  |false=>rw[e]at h;exact aO (Ag cur [x] l) (ih _ h)
def wj{c p:M6}(h:∀x∈p,c.contains x=J):Pm c p=[]:=by have:=J5 (l₂:=[]) h;rw[Ax]at this;delta Pm Ob;rw[this];rfl
def ahY{c p:M6}(h:Pm c p=[]):∀x∈p,c.contains x=J:=by
 have e:Ob c p=[]:=by
  obtain⟨S,e,R⟩:=d6 c (Ob c p);rw[show NL c (Ob c p)=[]from h]at e;have N:=List.head?_dropWhile_not (c.contains ·) p;rw[show p.dropWhile _=S from e]at N
  cases S with
  |nil=>exact e
  |cons x r=>exact A9 (aO (R x (As ..)) N)
 have:=Jo (p:=(c.contains ·)) (l:=p);rw[show p.dropWhile _=[]from e,Ax]at this;exact A3.mp<|this▸MG
def DG:=[48,49,50,51,52,53,54,55,56,57]
abbrev isNum:Ni->Bool
 | [_]=>J
 | [_,q]=>decide (G q.length=1)
 |_=>Am
def Uw(p:M6):=p==[]||Pm DG p !=[]
abbrev okP(ps:Ni):=isNum ps&&!ps.any Uw
def OL(w:M6):=NY 46 (NL [42,47] w)
def n9:Uw p=Am↔p≠[]/\Wi p:=by constructor;intro h;obtain⟨R,N⟩:=CX.mp h;exact⟨λe=>by subst e;exact A9 R,ahY (bne_eq_false_iff_eq.mp N)⟩;intro h;exact CX.mpr ⟨TM h.1,bne_eq_false_iff_eq.mpr (wj h.2)⟩
def uf{S:M6}(h:Sts S):∀x∈S,([42,47]:M6).contains x=J:=λx N=>iS x▸h x N
def snoc{D:M6}(h:D≠[]):∃N d,D=N++[d]:=⟨_,_,(List.dropLast_concat_getLast h).symm⟩
def qI{D S:M6}(h:D≠[])(R:Wi D)(A:Sts S):OL (D++S)=[D]:=by obtain⟨N,d,rfl⟩:=snoc h;delta OL;rw[Ag];show NY 46 (NL _ (N++d::S))=_;rw[lx (qG (R d (DB _ (As ..)))) (uf A)];have:=mY (r:=[]) (N++[d]) [] λx I=>ia (R x I) (d:=46) H;rw[Ax]at this;exact this
def sT{D S:M6}{c:Nat}(I:Wi D)(N:Po c=J)(A:Sts S):OL (D++(46::c::S))=[D,[c]]:=by delta OL;rw[show D++(46::c::S)=(D++[46])++c::S from(Ag D [46] _).symm,lx (qG N) (uf A),Ag];delta NY;rw[mY D [] λx R=>ia (I x R) (d:=46) H];show D::(if c==46 then _ else [[c]])=_;rw[TM (ia N (d:=46) H)];rfl
set_option tactic.hygienic true in
def yH(h:Delay w):okP (OL w)=J:=by
 obtain⟨R,N,C,I⟩:=h
 rename_i D f S
 rcases C with rfl|⟨c,rfl,A⟩
 rw[show D++([]++S)=D++S from H,qI R N I];show(J&&!(Uw D||Am))=J;rw[n9.mpr ⟨R,N⟩];rfl;rw[show D++([46,c]++S)=D++(46::c::S)from H,sT N A I];show(J&&!(Uw D|| (Uw [c]||Am)))=J;rw[n9.mpr ⟨R,N⟩,n9.mpr ⟨Dh _ _,λx X=>AV.mp X▸A⟩];rfl
def yI(h:okP (OL w)=J):Delay w:=by
 obtain⟨A,X⟩:=Ah.mp h;have X:=G6.mp (BM _|>.mp X);have C:=λp N=>n9.mp (Bp.mpr (X p N));obtain⟨S,e,I⟩:=d6 [42,47] w;have I:=λx y=>(iS x).trans (I x y)
 cases R:OL w with
 |nil=>exact M9 R (qH _ _)
 |cons p r=>
  rw[R]at C A;have N:=C p (As ..)
  cases r with
  |nil=>have:=mZ _ [] R;rw[e,show NL [42,47] w=p from this];exact .mk (f:=[]) N.1 N.2 (Aw H) I
  |cons q r=>
   cases r with
   |cons=>exact A9 A
   |nil=>have hq:=C q (Au _ (As ..));obtain⟨c,rfl⟩:=List.length_eq_one_iff.mp (BP (Od A));have:=wi _ [] R;rw[e,show NL [42,47] w=p++[46,c]from this,Ag];exact .mk N.1 N.2 (AN ⟨c,H,hq.2 c (As ..)⟩) I
def yJ:∀S,Sts S->QU (S++62::r)=62::r:=λS=>by
 induction S with
 |nil=>exactλZ=>H
 |cons c S R=>exactλh=>(n6 (r:=S++62::r) (h c (As ..))).trans (R λx N=>h x (Au _ N))
def yK(R:dig r=Am):∀D v,Wi D->(N0 v (D++r)).2=r:=λD=>by
 induction D with
 |nil=>exactλv Z=>(by cases r with|nil=>rfl|cons c r=>exact M7 FH (n4 R))
 |cons c D I=>exactλv h=>(M7 FH (n0 (h c (As ..)))).trans (I _ λx N=>h x (Au _ N))
def yL(h:isStar [c]=J):Po c=Am/\(c==46)=Am:=by
 rcases Cb.mp (aO (iS c) h)with h|h
 obtain rfl:=N2 h;exact⟨H,H⟩;obtain rfl:=N2 (aO (Gf _) h);exact⟨H,H⟩
set_option tactic.hygienic true in
def aea(h:Delay w):T8 (36::60::(w++62::r))=U r:=by
 obtain⟨y,I,C,A⟩:=h
 rename_i D f S
 have N:dig (S++62::r)=Am/\(Jx 1 (S++62::r)==[46])=Am:=by
  cases S with
  |nil=>exact⟨H,H⟩
  |cons c S=>exact(yL (A c (As ..))).imp_right λe=>show(c==46&&J)=Am by rw[e];rfl
 have R:dig (f++(S++62::r))=Am/\QV (f++(S++62::r))=S++62::r:=by
  rcases C with rfl|⟨c,rfl,q⟩
  exact⟨N.1,n5 N.2⟩;exact⟨H,ud (l:=46::c::(S++62::r)) H q⟩
 rw[Ag,Ag]
 have X:dig (D++(f++(S++62::r)))=J:=by
  cases D with
  |nil=>exact M9 H y
  |cons c D=>exact I c (As ..)
 delta T8;rw[show(Jx 2 (36::60::(D++(f++(S++62::r)))) !=[36,60])=Am from H,show dig (Ft 2 (36::60::(D++(f++(S++62::r)))))=J from X];show VI (QU (QV (N0 0 (D++_)).2))=U r;rw[yK R.1 D 0 I,R.2,yJ S A];rfl
def lA(h:Delay w):∀x∈w,(x==62)=Am:=by
 obtain⟨C,R,I,A⟩:=h;intro x hx;have N:∀{c},Po c=J->(c==62)=Am:=λh=>TM (ia h H);rcases BC.mp hx with hx|hx
 exact N<|R x hx
 rcases BC.mp hx with hx|hx
 ·rcases I with rfl|⟨c,rfl,X⟩
  ·exact M9 hx Ay
  ·rcases AQ.mp hx with rfl|hx
   ·rfl
   ·exact N<|AV.mp hx▸X
 rcases Cb.mp (aO (iS x) (A x hx))with h|h
 obtain rfl:=N2 h;rfl;obtain rfl:=N2 (aO (Gf _) h);rfl
def yM{w r:M6}(h:∀x∈w,(x==62)=Am):(w++62::r).findIdx? (· ==62)=U w.length:=by
 induction w with
 |nil=>rfl
 |cons c w R=>show(c::(w++62::r)).findIdx? _=_;rw[C9,h c (As ..),R λx N=>h x (Au _ N)];rfl
def qJ{m:M6}{j:Nat}(h:m.findIdx? (· ==62)=U j):∃w r,m=w++62::r/\w.length=j:=by obtain⟨N,e,_⟩:=Ck.mp h;exact⟨m.take j,m.drop (j+1),by rw[<-N2 e,<-Cn N,EH],List.length_take_of_le (B3 N)⟩
def abu{o m:M6}{a:Nat}(h:o.drop a=36::60::m):SH 62 o a=match m.findIdx? (· ==62)with
  |some j=>G (a+2+j)
  |none=> -1:=by
 delta SH;rw[h,C9,C9]
 cases m.findIdx? (· ==62)with
 |none=>rfl
 |some j=>exact M7 G (BW a j 2▸H)
def aeb{l:M6}(h:(l.take 2==[36,60])=Am):T8 l=Y:=by delta T8;rw[show(l.take 2 !=[36,60])=J from M7 (!·) h]
def qK{c:Nat}:∀l N,(Nn c N l).length<=l.length+1:=λl=>by
 induction l with
 |nil=>exactλZ=>AH _
 |cons x l R=>
  intro N;show(if x==c then _ else _:Ni).length<=_
  cases x==c
  exact CA<|R _
  exact AX<|R _
def sU(w:M6):(OL w).length<=w.length+1:=by
 obtain⟨S,e,_⟩:=d6 [42,47] w;refine Aa (qK _ _)<|AX ?_
 have:=M7 CH e;rw[Ad]at this;exact this▸AD _ _
def VJ(p:M6):OV:=match Uw p with
 |true=>U (W p)
 |false=>Y
def m4:∀ps:Ni,(ps.filterMap VJ).isEmpty=!ps.any Uw:=λps=>by
 induction ps with
 |nil=>rfl
 |cons p r N=>
  cases h:Uw p with
  |true=>rw[Cj,show VJ p=U (W p) by delta VJ;rw[h],Ir,h];rfl
  |false=>rw[Cj,show VJ p=Y by delta VJ;rw[h],Ir,h];exact N
abbrev bareBody:=Pn (SE.body.drop 1)
def yN{M:Kt}{ps:Ni}{o f a e w x:OV}(T:M.nx [o,f,a,e,w,U (BB (ps.map W)),U (Bm (isNum ps))] σ):We n 60 (bareBody[3]?.getD .pass) [o,f,a,e,w,U (BB (ps.map W)),x] σ M:=
 match ps,T with
 | [],T=>T
 | [_],T=>T
 | [p,q],T=>ah (l:=[W p,W q]) H H T
 |_::_::_::_,T=>T
def m5{K:Kt}{f r:M6}{c:Nat}{x y z x5:OV}(hlo:o.length<=Nh)(A:o.drop a=c::r)(hl:f.length<Nh)
  (q1:∀I p x y z w,T8 (c::r)=U I->o.drop p=I->K.nx [U (W o),U (W f),U (Ar (G p)),x,y,z,w] σ)
  (q2:T8 (c::r)=Y->∀x y z w,K.nx [U (W o),U (W (f++[c])),U (Ar (G (a+1))),x,y,z,w] σ):
  Na n 64 bareBody [U (W o),U (W f),U (Ar (G a)),x,y,z,x5] σ K:=by
 refine bM A 2 ?_;generalize C:Nl _ _ _=M
 have N:T8 (c::r)=Y->M.nx [U (W o),U (W f),U (Ar (G a)),U (Ar (-1)),y,z,x5] σ:=λe=>by subst C;refine ahz<|dD ⟨Ac H,Aw (bM A 1 ⟨hl,q2 e _ _ _ _⟩)⟩
 refine aF (λe=>?_) λe=>N<|aeb e
 obtain⟨m,e⟩:∃m,c::r=36::60::m:=⟨_,ahs (N2 e)⟩;rw[e]at A;refine ah1<|mW ?_
 rw[abu A]
 cases e2:m.findIdx? (· ==62)with
 |none=>
  cases e3:T8 (c::r)with
  |none=>exact N e3
  |some I=>
   obtain⟨w,e4,hw⟩:=kq e3
   cases(aO (yM (lA hw)) (M7 _ (BO (BO (aO e4 e)).2).2)).trans e2
 |some j=>
  obtain⟨w,I,rfl,rfl⟩:=qJ e2
  have hw:((OL w).map W).length<=Nh:=by
   rw[Ak];refine Aa (sU w)<|Aa ?_ hlo
   have:=M7 CH A;rw[Cz,Bn,Bn,Ad]at this;exact Aa (Aa (AU (Bl 1 _) _) (AD _ 2))<|this▸GR _ _
  subst C;refine bM (bg A 2) w.length ?_;rw[show Jx w.length (Ft 2 (36::60::(w++62::I)))=w from HN];refine ahh<|bR<|ahz<|dD ⟨hw,Aw ?_⟩
  generalize C:Nl _ _ _=M
  have T:M.nx [U (W o),U (W f),U (Ar (G a)),U (Ar (G (a+2+w.length))),U (W (NL [42,47] w)),U (BB ((OL w).map W)),x5] σ:=by
   subst C;refine aL ?_;generalize C:Nl _ _ _=M
   have T:M.nx [U (W o),U (W f),U (Ar (G a)),U (Ar (G (a+2+w.length))),U (W (NL [42,47] w)),U (BB ((OL w).map W)),U (Bm (isNum (OL w)))] σ:=by
    subst C
    have no:okP (OL w)=Am->T8 (c::r)=Y:=λh=>by
     cases e3:T8 (c::r)with
     |none=>rfl
     |some r2=>obtain⟨v,e4,hv⟩:=kq e3;have X:=(BO (BO (aO e4 e)).2).2;have R:=Af (aO (yM (lA hv)) ((M7 (List.findIdx? (· ==62)) X).trans e2));rw[(List.append_inj X R).1]at hv;exact A9<|aO (yH hv) h
    refine aF (λX=>?_) λX=>wb<|bM (A.trans e.symm) 1 ⟨hl,q2 (no (by delta okP;rw[X];rfl)) _ _ _ _⟩
    refine bb (g:=VJ) _ (λp Z c q=>?_) ?_
    ·unfold VJ Uw at q
     refine aF (λR=>by rw[R]at q;exact q) λR=>ahr<|cH<|aF (λe7=>?_) λe7=>?_
     rw[R,show(Pm DG p !=[])=J from e7]at q;exact q;rw[R,show(Pm DG p !=[])=Am from e7]at q;exact q
    refine⟨Aa (Le _ _) ((Ak ..)▸hw),Aw ⟨Aq _,Aw (bQ H H (aF (λR=>?_) λR=>?_))⟩⟩;refine q1 I _ _ _ _ _ ((λh=>e▸aea (yI h):okP (OL w)=J->T8 (c::r)=U I) (by delta okP;rw[X,<-m4];exact R)) ((bg (bg (bg A 2) w.length) 1).trans ?_);rw[show Ft w.length (Ft 2 (36::60::(w++62::I)))=62::I from FP];rfl;exact bM (A.trans e.symm) 1 ⟨hl,q2 (no (by delta okP;rw[X,<-m4];exact R)) _ _ _ _⟩
   exact yN T
  exact T
def ug(X:fO o b)(q:Q (W b) σ):M8 B (n+1) 1012 [W o] σ Q:=.yF λho hl=>by
 refine ay H H (have N:∀K,∀l b,fO l b->∀f a x y z w,o.drop a=l->f.length+l.length<=Nh->(∀a x y z w,K.nx [U (W o),U (W (f++b)),a,x,y,z,w] σ)->Og n _ _ [U (W o),U (W f),U (Ar (G a)),x,y,z,w] σ K:=?_;N _ o b X [] 0 _ _ _ _ H ((A1 _).symm▸hl) λa x y z w=>q);intro K l b X
 induction X with
 |nil=>exactλf a x y z w R Z q=>dN (ff (gf R) (f.append_nil▸q _ x y z w))
 |del e _ C=>
  intro f a x y z w R I q;have h2:=n8 e;obtain⟨c,l,rfl⟩:=List.exists_cons_of_length_pos (Nat.zero_lt_of_lt h2);refine dN<|tt (bS R)<|m5 hl R (AP (Bz (Bt _)) I) (λr' p x y z w A hp=>?_) λA=>aa<|aO A e
  obtain rfl:=Af (aO e A);exact C f p x y z w hp (Aa (AU (B3 h2) _) I) q
 |one e _ C=>intro f a x y z w R I q;exact dN<|tt (bS R) (m5 hl R (AP (Bz (Bt _)) I) (λr' p x y z w A hp=>aa (aO e A)) λZ x y z w=>C _ (a+1) x y z w (aw R) (by rw[Ad,Bf];exact(Bk 1 _).symm▸I) λa x y z w=>by rw[Ag];exact q a x y z w)
end
def uh(l:M6):∃b,fO l b:=by
 have N:∀k l,l.length<=k->∃b,fO l b:=λk=>by
  induction k with
  |zero=>exactλl h=>⟨[],Cy.mp (Mo.mp h)▸.nil⟩
  |succ k R=>
   intro l h
   cases e:T8 l with
   |some r=>exact(R r (Eh (AP (n8 e) h))).imp λb q=>.del e q
   |none=>
    cases l with
    |nil=>exact⟨[],.nil⟩
    |cons c r=>exact(R r (Ew h)).elim λb q=>⟨c::b,.one e q⟩
 exact N _ l<|AH _
abbrev sgn:Bool->M6
 |true=>[48,49,50,51,52,53,54,55,56,57,65,66,67,68,69,70]
 |false=>[48,49,50,51,52,53,54,55,56,57,97,98,99,100,101,102]
abbrev sg(g:Bool)(d:Nat):=(sgn g)[d]?.getD 0
def sV:∀g,∀d<16,(sgn g)[d]?=U (sg g d)/\sg g d<256:=by decide
def Rz(b:Nat):Nat->M6->Prop
 |m,[]=>m=0
 |m,d::r=>0<m/\d=m%b/\Rz b (m/b) r
def OE(g:Bool)(l:M6):=(l.map (sg g)).reverse
section
variable{a b:Nat}
def lB(h:0<b)(q:Q (Ar (G (a%b))) σ):binI .Mod (G a) (G b) σ Q:=⟨λe=>CR h (BP e),(Int.ofNat_fmod a b)▸q⟩
def m6(h:0<b)(N:b<2^64)(q:Q (Ar (G (a/b))) σ):binI LM (G a) (G b) σ Q:=⟨⟨λe=>CR h (BP e),N⟩,(Int.ofNat_fdiv a b)▸q⟩
def agC{f:M6}(R:f.length<Nh)(N:i<256)(q:Q A5 (σ.set A (CF (f++[i])))):Nr B (n+1) 28 [Av A,Ar (G i)] (σ.set A (CF f)) Q:=bY (M5.ag _ _) R N (by rw[M5.set_set];exact q)
def Xa(m b:Nat)(g:Bool)(A:AG)(y:OV):NF:=[U (Ar (G m)),U (Ar (G b)),U (Bm g),U (W (sgn g)),U (Av A),y]
def Xb:=O4.body.drop 3
def m7{f:M6}{K:Kt}(R:0<b)(N:b<=16)(I:f.length<Nh)
  (q:K.nx (Xa m b g A (U (Ar (G (x/b))))) (σ.set A (CF (f++[sg g (x%b)])))):Na n 64 (Pn Xb) (Xa m b g A (U (Ar (G x)))) (σ.set A (CF f)) K:=by
 have h:=sV g _ (AP (De x R) N);exact eM (M5.ag _ _)<|lB R<|ak h.1<|agC I h.2<|m6 R (Al N ae) q
def wk{K:Kt}(hb:0<b)(R:b<=16)(ds:M6):∀x f,Rz b x ds->decide (G f.length=0)=Am->f.length+ds.length<=Nh->(∀y,K.nx (Xa m b g A y) (σ.set A (CF (f++ds.map (sg g)))))->Og n (PF Xb) (Pn Xb) (Xa m b g A (U (Ar (G x)))) (σ.set A (CF f)) K:=by
 induction ds with
 |nil=>intro x f N X _ q;obtain rfl:x=0:=N;exact dN<|b9 (nZ (M5.ag _ _))<|ff X<|(Ax f)▸q (U (Ar (G 0)))
 |cons d ds ih=>intro x f N _ I q;obtain⟨C,rfl,h2⟩:=N;exact dN<|tt (N5 (BN.mpr C))<|ttb<|m7 hb R (AP (Bz (Bt _)) I) (ih _ _ h2 (by rw[Ad];rfl) (by rw[Ad,Bf];exact(Bk 1 _).symm▸I) λy=>by rw[Ag];exact q y)
def ib{r:M6}(I:0<b)(N:b<=16)(hd:Rz b (m/b) r)(hl:r.length<Nh)(q:Q (W (OE g (m%b::r))) σ):M8 B (n+1) 202 [Ar (G m),Ar (G b),Bm g] σ Q:=by
 refine Ny.cut<|ay H H<|fst ?_
 generalize hK:Nl _ _ _=K
 have R:K.nx [U (Ar (G m)),U (Ar (G b)),U (Bm g),U (W (sgn g)),Y,Y] σ:=by
  subst hK;refine eP λA C=>?_
  have X:Yu n 64 (PF Xb) (Pn Xb) (Nl (Na n 60) (O4.body.drop 4) (RT λz τ=>Keeps σ τ/\Q z σ)) (Xa m b g A (U (Ar (G m)))) (Bm J) (σ.set A (CF [])):=by
   refine m7 I N ae<|wk I N r _ _ hd H (by rw[Ad];exact(Bk 1 _).symm▸hl) λy=>?_
   exact nE (M5.ag _ _) λD x=>cf (M5.ag _ _) ⟨(Keeps.refl.set C).new x,q⟩
  exact dN<|aF (λZ=>X) λZ=>b9 (nZ (M5.ag _ _)) X
 cases g<;>exact R
def Ux(w:Nat)(h b:M6):Int:=G w-G h.length-G b.length
def T9(c w:Nat)(h b:M6):=A8 (Ux w h b).toNat c
abbrev pad(h b fl:M6)(w:Nat)(hp:Bool):M6:=match fl.contains 45,fl.contains 48,hp with
 |true,_,_=>h++b++T9 32 w h b
 |false,J,Am=>h++T9 48 w h b++b
 |_,_,_=>T9 32 w h b++h++b
end
def ui(e:Ux w h b<=0):T9 c w h b=[]:=by delta T9;rw[Int.toNat_of_nonpos e];rfl
def abv(e:Ux w h b<=0):pad h b fl w hp=h++b:=by
 delta pad;rw[ui e,ui e,Ax,Ax]
 cases fl.contains 45<;>cases fl.contains 48<;>cases hp<;>rfl
def oa:Ux w h b<=w:=Bv (Ef _ (AW _)) (Ef _ (AW _))
def iT:(T9 c w h b).length<=w:=by delta T9;rw[Cs];exact E4.mpr oa
def wm{i:Int}(h0: -1048576<=i)(N:i<=1048576)(q:Q (.bytes (A8 i.toNat c)) σ):R3 B n .Mult (.bytes [c]) (.int i) σ Q:=mf (Dh _ _) h0 N ae (by rw[Ja];exact q)
def m8{h b R:M6}(I:h.length+b.length<=20000)(y:w<=20000)(q:Q (.bytes (pad h b R w hp)) σ):M8 B (n+1) 209 [.bytes h,.bytes b,.bytes R,.int (.ofNat w),.bool hp] σ Q:=by
 refine ay H H ?_;have h0:20000+20000<=Nh:=Ac H;have X:∀{c},(h++b).length+(T9 c w h b).length<=Nh:=by rw[Ad];exact Aa (Ao I (Aa iT y)) h0
 have h2:∀{c},(T9 c w h b).length+h.length<=Nh:=Aa (Ao (Aa iT y) (Aa (AD ..) I)) h0;have m:=λc (Q:KE) (e:¬Ux w h b<=0) (q:Q (.bytes (T9 c w h b)) σ)=>wm (n:=lv n) (Q:=Q) (i:=Ux w h b) (c:=c) (Bv aG (FW (IU.mp e))) (Bv oa (Bv (Bq.mpr y) aG)) q;refine aF (λe=>⟨Aa I ae,abv (Od e)▸q⟩) λe=>?_;have e:=Pd e;delta pad at q;refine aF (λC=>?_) λC=>rG ?_;rw[show R.contains 45=J from C]at q;exact⟨Aa I ae,m 32 _ e ⟨X,q⟩⟩;rw[show R.contains 45=Am from C]at q;generalize x:Nl _ _ _=K
 have N:Q (.bytes (T9 32 w h b++h++b)) σ->K.nx [U (.bytes h),U (.bytes b),U (.bytes R),U (.int (.ofNat w)),U (.bool hp),U (.int (Ux w h b))] σ:=λq=>by subst x;exact m 32 _ e ⟨h2,by rw[Ad,Bf,<-Ad,Bk];exact X,q⟩
 refine aF (λA=>?_) λA=>?_
 ·rw[show R.contains 48=J from A]at q
  cases hp with
  |true=>exact N q
  |false=>subst x;exact m 48 _ e ⟨Bk ..▸h2,by rw[Ad,BW,<-Ad];exact X,q⟩
 rw[show R.contains 48=Am from A]at q;exact wb<|N q
def Q8:Option Nat->V
 |none=>A5
 |some k=>Ar (G k)
def Xo(p:Option Nat)(b:M6):=match p with
 |none=>b
 |some k=>A8 (G k-G b.length).toNat 48++b
def QB(lt:Nat)(fl b h:M6):M6:=match decide (G lt=G 111),fl.contains 35,b.take 1 !=[48]with
 |true,J,J=>[48]
 |_,_,_=>h
def afq(e:decide (G lt=G 111)=Am):QB lt fl b h=h:=by delta QB;rw[e]
def afr{N b h:M6}(e:N.contains 35=Am):QB lt N b h=h:=by delta QB;rw[e];cases decide (G lt=G 111)<;>rfl
def afs{N b h:M6}(e:(b.take 1 !=[48])=Am):QB lt N b h=h:=by delta QB;rw[e];cases decide (G lt=G 111)<;>cases N.contains 35<;>rfl
def UI(i:Int)(fl:M6):M6:=match decide (i<0),fl.contains 43,fl.contains 32 with
 |true,_,_=>[45]
 |false,J,_=>[43]
 |false,Am,J=>[32]
 |_,_,_=>[]
abbrev wrT(n:Nat)(Q:KE):Kt:=Nl (Na n 61) (O5.body.drop 3) (RT Q)
def dj{i:Int}(q:Q (Ar (G i.natAbs)) σ):Nr B n 2 [Ar i] σ Q:=yC (by
 by_cases h:i<0
 ·rw[Nt h,<-Int.ofNat_natAbs_of_nonpos (FW h)];exact q
 ·rw[Np h,<-Int.natAbs_of_nonneg (CI.mp h)];exact q)
def a9{N:Type}(l:List N)(p:Nat):NP l Y (U (G p))=l.take p:=by have:=eU l 0 p;rw[A1]at this;exact this
abbrev wrU(n:Nat)(Q:KE):Kt:=Nl (Na n 60) (O5.body.drop 4) (RT Q)
abbrev wrR(lt:Nat)(fl:M6)(w:Nat)(p:Option Nat)(z:OV)(b h:M6)(m:OV):NF:=[U (Ar (G lt)),U (W fl),U (Ar (G w)),U (Q8 p),z,U (W b),U (W h),m]
def aec{R b h:M6}{p:Option Nat}(y:b.length<=3000)(A:h.length<=2)(hw:w<=20000)(q:Q (W (pad (QB lt R b h) b R w p.isSome)) σ):(wrU (n+1) Q).nx (wrR lt R w p z b h m) σ:=by
 refine aL ?_;generalize x:Nl _ _ _=K
 have N:∀I,QB lt R b h=I->I.length<=2->K.nx (wrR lt R w p z b I m) σ:=λI e A=>by
  subst x;have hs:I.length+b.length<=20000:=Aa (Ao A y) ae;rw[e]at q
  cases p<;>exact m8 hs hw q
 refine aF (λe=>aF (λX=>aM (p:=Y) (q:=U (G 1)) H H ?_) λX=>wb (N h (afr X) A)) λe=>wb<|N h (afq e) A
 rw[a9];refine aF (λC=>N [48] ?_ ae) λC=>N h (afs C) A;delta QB;rw[e,show R.contains 35=J from X,show(b.take 1 !=[48])=J from C]
def uj{R b h:M6}{p:Option Nat}(hp:∀k,p=U k->decide (G k=0)=Am/\k<=1000)(I:b.length<=1000)(y:h.length<=2)(x:w<=20000)
  (q:Q (W (pad (QB lt R (Xo p b) h) (Xo p b) R w p.isSome)) σ):(wrT (n+1) Q).nx (wrR lt R w p z b h m) σ:=by
 refine aL ?_;generalize C:Nl _ _ _=K;have N:∀b,b.length<=3000->Q (W (pad (QB lt R b h) b R w p.isSome)) σ->K.nx (wrR lt R w p z b h m) σ:=λb I q=>C▸aec I y x q
 cases p with
 |none=>exact N b (Aa I ae) q
 |some k=>
  have A:=hp k H;refine ff A.1 ?_
  have X:(A8 (G k-G b.length).toNat 48).length<=1000:=by rw[Cs];exact E4.mpr (Bv (Ef _ (AW _)) (Bq.mpr A.2))
  refine wm (Bv ?_ (Iu (Bq.mpr I) _)) (Bv (Ef _ (AW _)) (Bv (Bq.mpr A.2) aG)) ⟨Aa (Ao X I) ae,N _ (by rw[Ad];exact Aa (Ao X I) ae) q⟩;exact Bv aG<|Mu (AW k) 1000
def afu(e:decide (i<0)=J):UI i fl=[45]:=by delta UI;rw[e]
def agD{N:M6}(e:decide (i<0)=Am)(R:N.contains 43=J):UI i N=[43]:=by delta UI;rw[e,R]
def agE{N:M6}(e:decide (i<0)=Am)(I:N.contains 43=Am)(R:N.contains 32=J):UI i N=[32]:=by delta UI;rw[e,I,R]
def agF{N:M6}(e:decide (i<0)=Am)(I:N.contains 43=Am)(R:N.contains 32=Am):UI i N=[]:=by delta UI;rw[e,I,R]
def lC{l:M6}:(OE g l).length=l.length:=by delta OE;rw[BH,Ak]
def QC(i:Int):=(i%4294967296).toNat
def Vq(lt:Nat)(fl:M6)(m:Nat):M6:=match fl.contains 35,decide ((0:Int)<G m),decide (G lt≠G 111)with
 |true,J,J=>[48,lt]
 |_,_,_=>[]
section
variable{fl r:M6}{w:Nat}{p:Option Nat}{i:Int}
def agG(hp:∀k,p=U k->decide (G k=0)=Am/\k<=1000)(x:w<=20000)(C:Rz 10 (i.natAbs/10) r)(A:r.length<1000)
  (q:Q (W (pad (UI i fl) (Xo p (OE Am (i.natAbs%10::r))) fl w p.isSome)) σ):M8 B (n+2) 216 [Ar (G 100),W fl,Ar (G w),Q8 p,Ar i] σ Q:=by
 refine ay H H<|fst<|rG (j:=61)<|aL ?_
 generalize X:Nl _ _ _=K
 have N:∀h,UI i fl=h->h.length<=2->K.nx (wrR 100 fl w p (U (Ar i)) (OE Am (i.natAbs%10::r)) h (U (Ar (G i.natAbs)))) σ:=λh e y=>by subst X;exact uj hp (by rw[lC];exact A) y x (by show Q (W (pad h _ fl w _)) σ;exact e▸q)
 refine dj<|ib (b:=10) ae ae C (BG A ae)<|aF (λe=>N _ (afu e) ae) λe=>(aF (λR=>N _ (agD e R) ae) λR=>?_)
 exact aF (λI=>N _ (agE e R I) ae) λI=>(N _ (agF e R I) ae)
end
structure Hs (τ:M5) (L:Ox) (σ:M5):Prop where
 k:Keeps τ σ
 h:∀e∈L,σ e.1=U e.2/\τ e.1=Y
 nd:(L.map Az).Nodup
section
variable{L L':Ox}{a:AG}{o o':O}
def Hs.nil:Hs τ [] τ:=⟨Keeps.refl,no_memE,Cx⟩
where no_memE:∀e∈([]:Ox),τ e.1=U e.2/\τ e.1=Y:=λZ h=>M9 h Ay
def Hs.at(h:Hs τ L σ)(i:Nat)(e:L[i]?=U (a,o)):σ a=U o:=(h.h _ (A6 e)).1
def Hs.sub(h:Hs τ L σ)(s:List.Sublist L' L):Hs τ L' σ:=⟨h.k,λe q=>h.h e (s.subset q),(s.map _).nodup h.nd⟩
def Hs.perm(h:Hs τ L σ)(s:List.Perm L L'):Hs τ L' σ:=⟨h.k,λe q=>h.h e (s.mem_iff.mpr q),((s.map _).nodup_iff).mp h.nd⟩
def Hs.new(h:Hs τ L σ)(e:σ a=Y):Hs τ ((a,o)::L) (σ.set a o):=⟨h.k.new e,λp q=>by
  rcases AQ.mp q with rfl|q
  exact⟨M5.ag _ _,h.k.none e⟩;exact⟨(M5.aA _ λn=>aa<|aO (n▸e) (h.h p q).1).trans (h.h p q).1,(h.h p q).2⟩,Bc.mpr ⟨λq=>(A0.mp q).elim λp q=>aa (aO e ((q.2:p.1=a)▸(h.h p q.1).1)),h.nd⟩⟩
def Hs.agH(h:Hs τ ((a,o)::L) σ)(o':O):Hs τ ((a,o')::L) (σ.set a o'):=⟨h.k.set (h.h _ (As ..)).2,λp q=>by
  rcases AQ.mp q with rfl|q
  exact⟨M5.ag _ _,(h.h _ (As ..)).2⟩;exact⟨(M5.aA _ λn=>(Bc.mp h.nd).1 (A0.mpr ⟨p,q,n⟩)).trans (h.h p (Au _ q)).1,(h.h p (Au _ q)).2⟩,h.nd⟩
def Hs.upd(h:Hs τ L σ)(i:Nat)(e:L[i]?=U (a,o))(o':O):Hs τ (L.set i (a,o')) (σ.set a o'):=by
 induction L generalizing i with
 |nil=>exact aa e
 |cons p L I=>
  cases i with
  |zero=>obtain rfl:=Af e;exact h.agH o'
  |succ i=>
   have q:=I (h.sub (Et ..)) i e;have n:p.1≠a:=λn=>(Bc.mp h.nd).1 (n▸Ca (f:=Az) (A6 (l:=L) e));have R:=h.h p (As ..);refine⟨q.k,λx m=>?_,Bc.mpr ⟨λm=>(Bc.mp h.nd).1 ?_,q.nd⟩⟩
   ·rcases AQ.mp m with rfl|m
    ·exact⟨(M5.aA _ n).trans R.1,R.2⟩
    ·exact q.h x m
   obtain⟨x,m,N⟩:=A0.mp m;rcases List.mem_or_eq_of_mem_set m with m|rfl
   exact N▸Ca m;exact M9 N.symm n
def V0(a b:Nat):=(BU a 5&&BU b 9)|| (BU a 0&&BU b 12)|| (BU a 21&&BU b 14)|| (BU a 14&&BU b 23)
end
def adl:∀a<22,∀b<44,V0 a b=Am->(nm a !=mt b)=J:=by decide+kernel
section
variable{c r f:AG}{l:List (Nat×V)}{k:Nat}{z:V}{R:Goes->Prop}
def aZ(h:σ r=U (BZ c l))(I:Qg c k Tt=J)(N:Uu k l=U z)(A:VZ z=J)(q:Q z σ):Tf B n (Av r) k σ Q:=λx=>yd (t4 h) (x.F.attr I).1 N A q x
def gN{Q:M5->Prop}(h:σ r=U (BZ c l))(N:Qg c k Tt=J)(I:DA l.length 100=J)(q:Q (σ.set r (BZ c (W8 k z l)))):RG B n (Av r) k z σ Q:=λx=>p5 h (x.F.attr N).2 (Ac I) q x
def bx(h:σ r=U (BZ c l))(N:Sl c k f Ts=J)(X:(l.all λp=>Ey p.1 22&&!V0 p.1 k)=J)(C:Ey k 44=J)(q:R (.fn f)):MethW B n (Av r) k σ R:=
 yf (t4 h) (λx=>x.F.sQ N) (A3.mpr λp m=>by obtain⟨A,I⟩:=Ah.mp (A3.mp X p m);exact adl _ (Ac A) _ (Ac C) (BM _▸I)) q
end
section
variable{kv:Nat}{ρ:NF}{K:Kt}{ss:List S}
def yO (N : aV) : ∀ (kv : Nat) (ss : List S) {ρ : NF} {σ : M5}, Na n kv ss ρ σ ⟨VH n (s2 :: r2) K, K.rt, K.ct⟩ → VH n (ss ++ s2 :: r2) K ρ σ := fun kv => by
  induction kv with
  | zero => exact fun _ {_ _} h => Bw h
  | succ kv ih =>
    intro ss ρ σ h
    cases ss with
    | nil => exact h
    | cons s r =>
      intro kt env Γ b x ht e L
      subst e
      cases b with
      | nil => exact M9 (ag5 ht) (Dh _ _)
      | cons st b =>
        obtain ⟨s', ss', h1, h2, e⟩ := ag4 ht
        obtain ⟨rfl, rfl⟩ := BO e
        cases b with
        | nil => exact M9 (ag5 h2) (List.append_ne_nil_of_right_ne_nil _ (Dh _ _))
        | cons t b =>
          refine Wp.bind (t := exec st env) ((ad0 N kv).s h1 L h) fun fl y l q => ?_
          cases fl with
          | next =>
            obtain ⟨ρ', L', q⟩ := q
            cases r with
            | nil => exact q kt env Γ (t :: b) y h2 H L'
            | cons s3 r3 => exact ih _ q kt env Γ (t :: b) y h2 H L'
          | brk => exact q.elim
          | cont => cases r <;> exact Wp.pure q
          | ret v => cases r <;> exact Wp.pure q
def yP(hj:ρ[j]?=U (U (Av a)))(R:σ a=U (AA l))(h:VH n ss K (NM ρ j (BB l)) (σ.del a)):VH n ss K ρ σ:=λkt I Γ b x t e L=>by
 subst e;have lf:=dT R O.aB;have N:Loc (x.QA R O.aB) I Γ ρ:=L.le lf;refineλA rm=>ag1 (h kt I Γ b (x.QA R O.aB) t H ⟨N.eo,N.ns,N.bj,N.cells,(DS ..).trans N.len,N.nd,λi y z C X h3=>?_⟩ A rm) (λr s q=>aP.casesOn q λz e l p=>.mk z e ((lf.own L.has).trans l) p) λZ Z f=>f;rcases kK X with⟨rfl,e⟩|⟨_,X⟩
 obtain⟨v,hv,hr⟩:=L.vars j y _ C hj h3;obtain rfl:v=Ai a:=aq.inv hr;obtain rfl:=Af e;obtain⟨vs,m,g,hl,r⟩:=x.listAt R;exact⟨Ai a,hv,aq.lst (x:=(x.QA R O.aB).toSt) a vs m l g ⟨M5.bu a,AN H⟩ hl (r.le (y:=x.QA R O.aB) lf)⟩;exact N.vars i y z C X h3
variable{L:Ox}{a:AG×O}
def Hs.back(h:Hs τ (a::b::c::L) σ):Hs τ (b::c::a::L) σ:=h.perm ((CS ..).trans (.cons _ (CS ..)))
def Hs.del(h:Hs τ L σ)(i:Nat):Hs τ (L.eraseIdx i) σ:=h.sub (List.eraseIdx_sublist ..)
end
def cls{fn:Fn}(A:Qg C f Uq=J)(hf:fnT f Pk=U (fn,ds))(N:∀a,Oi (Av a::args) ds fn.np=U (Av a::full))
  (h:∀a d,σ a=Y->Keeps σ ((σ.set d (CK a)).set a (BZ C []))->Na n 64 fn.body ((Av a::full).map U++A8 (fn.ns-fn.np) Y) ((σ.set d (CK a)).set a (BZ C [])) (RT λr R=>r=A5/\Q (Av a) R)):M8 B (n+2) C args σ Q:=
 λx=>ahM gy (x.F.make A) (kn x.F.fn hf) N (λa d I X e=>h a d I ((Keeps.refl.set X).new ((M5.aA _ (by rw[e];exact JS d)).trans I))) x
abbrev Zw(o:M6)(a:Nat)(A T P:AG):=BZ 184 [(0,W o),(1,Ar (G a)),(2,Av A),(3,Av T),(4,Av P)]
inductive RS (τ:M5) (r P:AG) (o:M6) (a:Nat) (R:LV) (t:M6) (X:Ox) (σ:M5):Prop
 |mk (A T:AG):Hs τ ((r,Zw o a A T P)::(A,AA R)::(T,CF t)::X) σ->RS τ r P o a R t X σ
abbrev flush(R:LV)(t:M6):=match t with
 | []=>R
 |c::t=>R++[Bg [B9 [116,101,120,116],W (c::t)]]
def eV{R:LV}{t:M6}:(flush R t).length<=R.length+t.length:=by
 cases t with
 |nil=>exact AH _
 |cons=>delta flush;rw[Ad];exact AU (AX (Aq _)) _
section
variable{r P:AG}{o t:M6}{a:Nat}{R:LV}{X:Ox}
def cu(h:RS τ r P o a R t X σ)(I:R.length+t.length<Nh)(q:∀σ,RS τ r P o a (flush R t) [] X σ->Q A5 σ):M8 B (n+1) 132 [Av r] σ Q:=by
 obtain⟨A,T,h⟩:=h;refine ay H H<|aZ (h.at 0 H) H H H<|b9 (nZ (h.at 2 H)) ?_
 cases t with
 |nil=>exact q _ ⟨A,T,h⟩
 |cons c t=>
  refine tt (N5 (BN.mpr (Bt _)))<|aZ (h.at 0 H) H H H<|aK (ai (h.at 1 H))<|aZ (h.at 0 H) H H H<|cf (h.at 2 H)<|av (h.at 1 H) (Al (AD ..) I) ?_
  have h:=h.upd 1 H (AA (flush R (c::t)));refine eP λD N=>?_;have h:=h.new (o:=CF []) N;exact gN (h.at 1 H) H H<|q _ ⟨A,D,((h.upd 1 H (Zw o a A D P)).del 3).back⟩
def dF(h:RS τ r P o a R t X σ)(N:R.length+t.length<Nh)(q:∀σ,RS τ r P o a (flush R t++[z]) [] X σ->Q A5 σ):M8 B (n+2) 139 [Av r,z] σ Q:=by
 have I:=h;obtain⟨A,T,h⟩:=h;refine ay H H<|bx (h.at 0 H) H H H<|cu I N λσ h=>?_
 obtain⟨A,T,h⟩:=h;exact aZ (h.at 0 H) H H H<|aK (ai (h.at 1 H))<|av (h.at 1 H) (Al eV N)<|q _ ⟨A,T,h.upd 1 H _⟩
def RS.at_{Q:M5->Prop}(h:RS τ r P o a R t X σ)(N:Nat)(q:∀σ,RS τ r P o N R t X σ->Q σ):RG B n (Av r) 1 (Ar (G N)) σ Q:=by obtain⟨A,T,h⟩:=h;exact gN (h.at 0 H) H H<|q _ ⟨A,T,h.upd 0 H (Zw o N A T P)⟩
def RS.oc(h:RS τ r P o a R t X σ)(q:Q (W o) σ):Tf B n (Av r) 0 σ Q:=RS.casesOn h λA T h=>aZ (h.at 0 H) H H H q
def RS.pl(h:RS τ r P o a R t X σ)(q:Q (Ar (G a)) σ):Tf B n (Av r) 1 σ Q:=RS.casesOn h λA T h=>aZ (h.at 0 H) H H H q
def RS.m(h:RS τ r P o a R t X σ){N:Goes->Prop}(C:Sl 184 k f Ts=J)(I:(Ey k 44&&[0,1,2,3,4].all λp=>Ey p 22&&!V0 p k)=J)(q:N (.fn f)):MethW B n (Av r) k σ N:=
 RS.casesOn h λA T h=>bx (h.at 0 H) C (Ah.mp I).2 (Ah.mp I).1 q
abbrev Zx(w:M6)(l:LV):=Bg (B9 w::l)
abbrev So:=[112,97,114,97,109]
abbrev SI:=[112,117,115,104]
abbrev Wj:=[115,101,116]
abbrev Xc:=[103,101,116]
def Vh(c:Nat):=(decide ((97:Int)<=G c)&&decide (G c<=122))|| (decide ((65:Int)<=G c)&&decide (G c<=90))
variable{l:M6}{b:V}
def og{N:Type}{o r:List N}{c:N}(h:o.drop a=c::r):decide (G o.length<=G a)=Am:=N8 λq=>E2 (qE h) (Bq.mp q)
def sW{k:Nat}(h:RS τ r P o a R t X σ)(N:o.drop a=(k+48)::l)(C:(decide ((49:Int)<=G (k+48))&&decide (G (k+48)<=57))=J)(y:R.length+t.length<Nh)
  (q:∀σ,RS τ r P o (a+1) (flush R t++[Zx So [Ar (G k)]]) [] X σ->Q A5 σ):M8 B (n+3) 160 [Av r,b,Ar (G 112)] σ Q:=by
 obtain⟨A,I⟩:=Ah.mp C;exact ay H H (h.pl (h.oc (ff (og N) (h.oc (h.pl (ak (aD N) (h.pl (h.at_ (a+1) λσ h=>tt A (ff (M7 (!·) I) (h.m H H (dF h y ((D6 (G k) 48).symm▸q))))))))))))
def lD{c x:Nat}(h:RS τ r P o a R t X σ)(C:o.drop a=c::l)(N:Vh c=J)(hx:decide (G x=G 112)=Am)(y:R.length+t.length<Nh)
  (q:∀σ,RS τ r P o (a+1) (flush R t++[Zx (match decide (G x=G 80)with|true=>Wj|false=>Xc) [Ar (G c)]]) [] X σ->Q A5 σ):M8 B (n+3) 160 [Av r,b,Ar (G x)] σ Q:=by
 refine ay H H<|h.pl<|h.oc<|ff (og C)<|h.oc<|h.pl<|ak (aD C)<|h.pl<|h.at_ (a+1) λσ h=>ff hx<|fst ?_
 generalize hK:Nl (Na (n+2) 58) _ _=K
 have L:K.nx [U (Av r),U b,U (Ar (G x)),U (Ar (G c))] σ:=by
  subst hK;refine h.m (f:=139) H H ?_
  cases e:decide (G x=G 80)with
  |true=>rw[e]at q;exact tt e (dF h y q)
  |false=>rw[e]at q;exact ff e (dF h y q)
 have M:∀{d},(decide ((97:Int)<=G c)&&decide (G c<=122))=d->d=Am->decide ((65:Int)<=G c)=J/\(!decide (G c<=90))=Am:=λe e'=>by delta Vh at N;rw[e,e',Bool.false_or]at N;exact⟨(Ah.mp N).1,M7 (!·) (Ah.mp N).2⟩
 refine aF (λA=>aF (λI=>?_) λI=>wb L) λA=>?_;have M:=M (M7 (_&&·) ((BM _).mp I)) (GN _);exact tt M.1<|ff M.2 L
 have M:=M (M7 (· &&_) A) (Bool.false_and _);exact tt M.1<|ff M.2 L
variable{m:M6}
def sX(h:RS τ r P o a R t X σ)(N:o.drop a=c::39::l)(I:R.length+t.length<Nh)
  (q:∀σ,RS τ r P o (a+2) (flush R t++[Zx SI [Ar (G c)]]) [] X σ->Q A5 σ):M8 B (n+3) 167 [Av r,b,Ar (G 39)] σ Q:=
 ay H H (h.oc (h.pl (h.pl (bM (aw N) 1 (h.m H H (h.oc (h.pl (ak (aD N) (dF h I λσ h=>h.pl (h.at_ (a+2) q))))))))))
def sY{S:M6}(C:Sn o)(h:RS τ r P o a R t X σ)(N:o.drop a=S++m)(hS:S=[]\/S=[45])(I:dig m=J)(hr:(N0 0 m).2=125::l)(hR:R.length+t.length<Nh)
  (q:∀p σ,o.drop p=l->RS τ r P o p (flush R t++[Zx SI [Ar ((match S with| []=>1|_=> -1)*(N0 0 m).1)]]) [] X σ->Q A5 σ):M8 B (n+3) 167 [Av r,b,Ar (G 123)] σ Q:=by
 refine ay H H<|fst<|rG (j:=61)<|aL<|h.oc<|h.pl<|h.pl<|bM N 1 ?_
 generalize x:Nl (Na (n+2) 61) _ _=K
 have T:∀s a σ,s.natAbs<2^64->o.drop a=m->RS τ r P o a R t X σ->(∀p σ,o.drop p=l->RS τ r P o p (flush R t++[Zx SI [Ar (s*(N0 0 m).1)]]) [] X σ->Q A5 σ)->K.nx [U (Av r),U b,U (Ar (G 123)),U (Ar s),Y] σ:=by subst x;intro s a σ y N h q;refine h.oc (h.pl (cS C N (ff (M7 (!·) I) (h.oc (h.pl (gz C N λp A=>h.at_ p λσ h=>?_))))));rw[hr]at A;exact h.oc<|h.pl<|h.pl<|bM A 1<|h.pl<|h.at_ (p+1) λσ h=>h.m (k:=3) (f:=139) H H<|⟨Aw y,(dF h hR λσ h=>q _ _ (aw A) h)⟩
 rcases hS with rfl|rfl
 obtain⟨c,m,rfl⟩:=lq I;exact ff (TM λe=>ia I H (BO e).1:([c]==[45])=Am)<|T 1 a σ ae N h q
 exact h.pl<|h.at_ (a+1) λσ h=>T (-1) (a+1) σ ae (aw N) h q
def TZ(s:Bool)(c:Nat):=([35,32,48]:M6).contains c|| (s&&([45,43]:M6).contains c)
end
def Ol(s:Bool):M6->M6×M6
 | []=>([],[])
 |c::l=>match TZ s c with
  |true=>(c::(Ol s l).1,(Ol s l).2)
  |false=>([],c::l)
def aed(h:TZ s c=J):Ol s (c::l)=(c::(Ol s l).1,(Ol s l).2):=by show(match TZ s c with|true=>_|false=>_)=_;rw[h]
def aee(h:TZ s c=Am):Ol s (c::l)=([],c::l):=by show(match TZ s c with|true=>_|false=>_)=_;rw[h]
def TC(l:M6):V×M6:=match l.take 1==[46]with
 |true=>(Ar (min (N0 0 (l.drop 1)).1 10000),(N0 0 (l.drop 1)).2)
 |false=>(A5,l)
def afv{l:M6}(h:(l.take 1==[46])=J):TC l=(Ar (min (N0 0 (l.drop 1)).1 10000),(N0 0 (l.drop 1)).2):=by delta TC;rw[h]
def afw{l:M6}(h:(l.take 1==[46])=Am):TC l=(A5,l):=by delta TC;rw[h]
abbrev Uy:=[119,114,105,116,101]
abbrev colon(s:Bool)(l:M6):=match s with
 |true=>l.drop 1
 |false=>l
inductive Wtr:M6->V->M6->Prop
 |mk {l l2 l3 l' fl:M6} {s:Bool} {w:Int} {p:V} {c:Nat}:(l.take 1==[58])=s->Ol s (colon s l)=(fl,l2)->N0 0 l2=(w,l3)->TC l3=(p,c::l')->([100,111,120,88,115]:M6).contains c=J->
  Wtr l (Zx Uy [Ar (G c),W fl,Ar (min w 10000),p]) l'
section
variable{r P:AG}{o t l m:M6}{a:Nat}{R:LV}{X:Ox}{b:Nat}{z:V}
set_option tactic.hygienic true in
def wo(ho:Sn o)(hl:o.length<=Nh)(h:RS τ r P o a R t X σ)(hd:o.drop (b+1)=l)(hw:Wtr l z m)(hR:R.length+t.length<Nh)
  (q:∀p σ,o.drop p=m->RS τ r P o p (flush R t++[z]) [] X σ->Q A5 σ):M8 B (n+3) 181 [Av r,Ar (G b)] σ Q:=by
 obtain⟨hs,hf,hn,C,hc⟩:=hw
 rename_i l2 l3 A s w p c
 refine ay H H<|h.oc<|bM hd 1<|fst ?_
 generalize hK:Nl (Na (n+2) 59) _ _=K;rw[hs]
 have T:∀a,o.drop a=colon s l->K.nx [U (Av r),U (Ar (G b)),U (W o),U (Ar (G a)),U (W []),U (Bm s),Y,Y] σ:=by
  subst hK;intro a I;refine have N:∀K,∀l A a,o.drop a=l->A.length+l.length<=Nh->(∀p,o.drop p=(Ol s l).2->K.nx [U (Av r),U (Ar (G b)),U (W o),U (Ar (G p)),U (W (A++(Ol s l).1)),U (Bm s),Y,Y] σ)->Og (n+2) _ _ [U (Av r),U (Ar (G b)),U (W o),U (Ar (G a)),U (W A),U (Bm s),Y,Y] σ K:=?_;N _ _ [] a I ?_ λp0 x=>?_
  ·intro K l
   induction l with
   |nil=>exactλA a I Z q=>dN (ff (gf I) (by have:=q a I;rwa [show A++(Ol s []).1=A from Ax A]at this))
   |cons c r ih=>
    intro A a I hl q;have B1:=Aa (AU (AX (Aq _)) _) hl;have B2:(A++[c]).length+r.length<=Nh:=by rw[Ad,Bf];exact(Bk 1 _).symm▸hl
    have q1:TZ s c=J->∀p,o.drop p=(Ol s r).2->K.nx [U (Av _),U (Ar (G b)),U (W o),U (Ar (G p)),U (W (A++[c]++(Ol s r).1)),U (Bm s),Y,Y] σ:=λe=>by rw[aed e]at q;rw[Ag];exact q
    have q2:TZ s c=Am->K.nx [U (Av _),U (Ar (G b)),U (W o),U (Ar (G a)),U (W A),U (Bm s),Y,Y] σ:=λe=>by rw[aee e]at q;have:=q a I;rwa [Ax]at this
    refine dN<|tt (bS I)<|ak (aD I) ⟨ho.dr I,aF (λe1=>ttb ?_) λe1=>?_⟩
    exact bM I 1 ⟨B1,ih _ _ (aw I) B2 (q1 (M7 (· ||_) e1))⟩;exact aF (λe0=>ak (aD I) ⟨ho.dr I,aF (λe2=>bM I 1 ⟨B1,ih _ _ (aw I) B2 (q1 (by delta TZ;rw[e1,e0,e2];rfl))⟩) λe2=>q2 (by delta TZ;rw[e1,e0,e2];rfl)⟩) λe0=>q2 (by delta TZ;rw[e1,e0];rfl)
  rw[B5,A1,<-I,Cz];exact Aa (GR ..) hl;rw[hf]at x;refine gz ho x λp1 x=>?_;rw[hn]at x⊢;refine bM x 1 ?_;generalize hK:Nl (Na (n+2) 55) _ _=K
  have y:∀a,o.drop a=c::m->K.nx [U (Av r),U (Ar (G b)),U (W o),U (Ar (G a)),U (W (Ol s (colon s l)).1),U (Bm s),U (Ar w),U p] σ:=by subst hK;intro a I;refine ff (og I) (ak (aD I) ⟨ho.dr I,ff (M7 (!·) hc) (h.at_ (a+1) λσ h=>h.m H H (ak (aD I) (eS (dF h hR λσ h=>?_))))⟩);rw[hf]at h;exact q _ _ (aw I) h
  refine aF (λe=>?_) λe=>?_;rw[afv e]at C;refine gz ho (bg x 1) λp2 hp2=>eS ?_;obtain⟨rfl,h2⟩:=D8 C;rw[h2]at hp2;exact y _ hp2;rw[afw e]at C;obtain⟨rfl,rfl⟩:=D8 C;exact y _ x
 cases s with
 |true=>exact T _ (bg hd 1)
 |false=>exact T _ hd
abbrev TF:=[117,110,108,101,115,115]
abbrev QW:=[106,117,109,112]
abbrev Zy(k:Nat):=Ar (G k)
abbrev NG(a:AG):=U (Av a)
abbrev N1(b:M6):=U (W b)
abbrev NT(k:Nat):=U (Zy k)
abbrev Q3(i:Int):=U (Ar i)
abbrev Qv(l:LV):=U (BB l)
abbrev RC(d:NW):=U (B6 d)
abbrev X0(P:AG):Ox:=[(P,AA [])]
abbrev X1(P X M:AG)(x:V)(js:LV):Ox:=[(P,AA [Av X]),(X,AA [x,Av M]),(M,AA js)]
end
def Sp(N:Nat):M6->LV->LV
 | [],R=>R
 |j::js,R=>Sp N js (R.set j (Zx QW [Zy N]))
def lE{σ:M5}{l:LV}(h:σ a=U (AA l)):W9 σ (Av a)=U l.length:=by show Jj (σ a) _=_;rw[h];rfl
def Hs.afx{τ σ:M5}(h:Hs τ ((a,o)::L) σ):Hs τ L (σ.del a):=by exact⟨λb x e=>(M5.eX λq=>aa<|aO (q▸((h.h _ (As ..)).2)) e).trans (h.k b x e),λe m=>⟨(M5.eX λq=>(Bc.mp h.nd).1 (A0.mpr ⟨e,m,q⟩)).trans (h.h e (Au _ m)).1,(h.h e (Au _ m)).2⟩,(Bc.mp h.nd).2⟩
def sZ{N:Type}{x:N}{L:List N}:∀{i},L[i]?=U x->L.Perm (x::L.eraseIdx i):=by
 induction L with
 |nil=>exactλh=>aa h
 |cons y L R=>
  intro i h
  cases i with
  |zero=>obtain rfl:=Af h;exact .refl _
  |succ i=>exact(List.Perm.cons y (R h)).trans (CS ..)
def Hs.agI{τ σ:M5}{L:Ox}{o:O}(h:Hs τ L σ)(i:Nat)(e:L[i]?=U (a,o)):Hs τ (L.eraseIdx i) (σ.del a):=(h.perm (sZ e)).afx
def abw{σ:M5}{P:LV->M5->Prop}(h:σ a=U (AA l))(q:P l (σ.del a)):itemsOf (Av a) σ P:=by show Ta (σ a) _ _;rw[h];exact q
def XG(x:Option Nat)(z:V)(R:LV):=match x with
 |none=>R
 |some k=>R.set k z
abbrev optN(x:Option Nat):=match x with
 |none=>A5
 |some k=>Zy k
def qL{R:LV}:(XG x z R).length=R.length:=by cases x with|none=>rfl|some k=>exact DS ..
section
variable{r P X M:AG}{o t l m:M6}{a:Nat}{R:LV}{b x:V}{js:LV}
def lF{O:V}{l:LV}{z:V}(N:SF σ O=U (l++[z]))(q:Q z σ):Rg B n O (Ar (-1)) σ Q:=by have e:(((l++[z]).length:Nat):Int)=(l.length:Int)+1:=M7 G (Ad ..);refine bE (i:=l.length) N aG (by rw[e];exact KX (G7 (AW _))) (by rw[e,L0,Int.add_assoc];rfl) ?_ q;rw[CW (AH _),FU];rfl
def abx(h:RS τ r P o a R t (X0 P) σ)(C:R.length+t.length<Nh)(q:∀X M σ,RS τ r P o a (flush R t) [] (X1 P X M A5 []) σ->Q A5 σ):M8 B (n+2) 174 [Av r,b,Ar 63] σ Q:=
 ay H H (h.m (k:=16) (f:=132) H H (cu h C λσ h=>RS.casesOn h λA T h=>aZ (h.at 0 H) H H H (aK (ai (h.at 3 H))
  ⟨Aq _,AN λM N=>⟨Ac H,AN λX I=>av (((h.new N).new I).at 5 H) ae (q X M _ ⟨A,T,(((h.new N).new I).upd 5 H (AA [Av X])).perm (C6 (l₁:=[_,_]) (l₂:=[_,_,_,_]))⟩)⟩⟩)))
def aby(h:RS τ r P o a R t (X1 P X M A5 js) σ)(N:R.length+t.length<Nh)(q:∀σ,RS τ r P o a (flush R t++[Zx TF [Ar 0]]) [] (X1 P X M (Zy (flush R t).length) js) σ->Q A5 σ):M8 B (n+2) 174 [Av r,b,Ar 116] σ Q:=
 ay H H (h.m H H (cu h N λσ h=>RS.casesOn h λA T h=>aZ (h.at 0 H) H H H ⟨Aq _,Aw (bQ (ai (h.at 3 H)) H (aZ (h.at 0 H) H H H
  (lF (l:=[]) (ai (h.at 3 H)) (ah (i:=0) (ai (h.at 4 H)) H (aZ (h.at 0 H) H H H (b9 (lE (h.at 1 H)) (bB (i:=0) (h.at 4 H) (Bt _) (by have h:=h.upd 4 H (AA [Zy (flush R t).length,Av M]);exact aZ (h.at 0 H) H H H (aK (ai (h.at 1 H)) (av (h.at 1 H) (Al eV N) (q _ ⟨A,T,h.upd 1 H _⟩)))))))))))⟩))
def abz{k:Nat}(h:RS τ r P o a R t (X1 P X M (Zy k) js) σ)(N:R.length+t.length<Nh)(I:js.length<Nh)(C:k<(flush R t++[Zx QW [Ar 0]]).length)
  (q:∀σ,RS τ r P o a ((flush R t++[Zx QW [Ar 0]]).set k (Zx TF [Zy (flush R t++[Zx QW [Ar 0]]).length])) [] (X1 P X M A5 (js++[Zy (flush R t).length])) σ->Q A5 σ):M8 B (n+2) 174 [Av r,b,Ar 101] σ Q:=
 ay H H (h.m H H (cu h N λσ h=>RS.casesOn h λA T h=>aZ (h.at 0 H) H H H ⟨Aq _,Aw (bQ (ai (h.at 3 H)) H (aZ (h.at 0 H) H H H
  (lF (l:=[]) (ai (h.at 3 H)) (ah (i:=0) (ai (h.at 4 H)) H (ah (i:=1) (ai (h.at 4 H)) H (aK (ai (h.at 5 H)) (aZ (h.at 0 H) H H H (b9 (lE (h.at 1 H)) (av (h.at 5 H) I (by
   have h:=h.upd 5 H (AA (js++[Zy (flush R t).length]));refine aZ (h.at 0 H) H H H<|aK (ai (h.at 1 H))<|av (h.at 1 H) (Al eV N) ?_
   have h:=h.upd 1 H (AA (flush R t++[Zx QW [Ar 0]]));refine aZ (h.at 0 H) H H H<|b9 (lE (h.at 1 H))<|aZ (h.at 0 H) H H H<|ah (ai (h.at 4 H)) H<|bB (h.at 1 H) C ?_
   have h:=h.upd 1 H (AA ((flush R t++[Zx QW [Ar 0]]).set k (Zx TF [Zy (flush R t++[Zx QW [Ar 0]]).length])));exact bB (h.at 4 H) (Bt _) (q _ ⟨A,T,h.upd 4 H (AA [A5,Av M])⟩)))))))))))⟩))
def abA{x:Option Nat}{I:M6}(h:RS τ r P o a R t (X1 P X M (optN x) (I.map Zy)) σ)(hR:R.length+t.length<Nh)(hx:∀k,x=U k->k<(flush R t).length)(C:∀k∈I,k<(flush R t).length)
  (q:∀σ,RS τ r P o a (Sp (flush R t).length I (XG x (Zx TF [Zy (flush R t).length]) (flush R t))) [] (X0 P) σ->Q A5 σ):M8 B (n+2) 174 [Av r,b,Ar 59] σ Q:=by
 refine ay H H (h.m H H (cu h hR λσ h=>RS.casesOn h λA T h=>aZ (h.at 0 H) H H H ⟨Aq _,Aw (bQ (ai (h.at 3 H)) H (aZ (h.at 0 H) H H H
  (lF (l:=[]) (ai (h.at 3 H)) (ah (i:=0) (ai (h.at 4 H)) H ?_))))⟩))
 generalize hK:Nl (Na (n+1) 55) _ _=K
 have T:∀σ,Hs τ ((r,Zw o a A T P)::(A,AA (XG x (Zx TF [Zy (flush R t).length]) (flush R t)))::(T,CF [])::X1 P X M (optN x) (I.map Zy)) σ->K.nx [U (Av r),U b,U (Ar 59),U (Av X),Y] σ:=by
  subst hK;intro σ h;refine ah (ai (h.at 4 H)) H<|abw (h.at 5 H) ?_
  have h:=h.agI 5 H
  refine have N:∀K I S y σ,Hs τ ((r,Zw o a A T P)::(A,AA S)::(T,CF [])::(X1 P X M (optN x) []).take 2) σ->S.length=(flush R t).length->(∀k∈I,k<(flush R t).length)->
   (∀y σ,Hs τ ((r,Zw o a A T P)::(A,AA (Sp (flush R t).length I S))::(T,CF [])::(X1 P X M (optN x) []).take 2) σ->K.nx [U (Av r),U b,U (Ar 59),U (Av X),y] σ)->forL _ _ K (I.map Zy) [U (Av r),U b,U (Ar 59),U (Av X),y] σ:=?_;N _ I _ Y _ h qL C λy σ h=>?_
  ·intro K I
   induction I with
   |nil=>exactλR y σ h Z Z q=>q y σ h
   |cons i I ih=>
    intro R y σ h e C q;refine aZ (h.at 0 H) H H H<|b9 (lE (h.at 1 H))<|aZ (h.at 0 H) H H H<|bB (h.at 1 H) (e▸C i (As ..)) ?_
    rw[e];exact ih _ _ _ (h.upd 1 H _) ((DS ..).trans e) (λk m=>C k (Au _ m)) q
  ·exact aZ (h.at 0 H) H H H<|p7 (ai (h.at 3 H))<|f7 (h.at 3 H)<|q _ ⟨A,T,((h.upd 3 H (AA [])).del 4)⟩
 cases x with
 |none=>exact T _ h
 |some k=>exact aZ (h.at 0 H) H H H (b9 (lE (h.at 1 H)) (aZ (h.at 0 H) H H H (ah (ai (h.at 4 H)) H (bB (h.at 1 H) (hx k H) (T _ (h.upd 1 H _))))))
abbrev XH:=[116,119,111]
abbrev Xd:=[111,110,101]
abbrev Xe:=[99,104,97,114]
abbrev XI:=[108,101,110,103,116,104]
abbrev V1:=[109,111,114,101]
def Ua(c:Nat):List Bool:=[decide (G c=37),decide (G c=99),decide (G c=108),decide (G c=105),([112,80,103]:M6).contains c,([39,123]:M6).contains c,
 ([43,45,42,47,109,38,124,94,61,62,60,65,79]:M6).contains c,([33,126]:M6).contains c,([63,116,101,59]:M6).contains c]
end
inductive Item:M6->V->M6->Prop
 |chr {l:M6}:Item (99::l) (Zx Xe []) l
 |len {l:M6}:Item (108::l) (Zx XI []) l
 |more {l:M6}:Item (105::l) (Zx V1 []) l
 |par {l:M6} {k:Nat}:(decide ((49:Int)<=G (k+48))&&decide (G (k+48)<=57))=J->Item (112::(k+48)::l) (Zx So [Zy k]) l
 |set {l:M6} {c:Nat}:Vh c=J->Item (80::c::l) (Zx Wj [Zy c]) l
 |get {l:M6} {c:Nat}:Vh c=J->Item (103::c::l) (Zx Xc [Zy c]) l
 |Vr {l:M6} {c:Nat}:Item (39::c::39::l) (Zx SI [Zy c]) l
 |num {l m S:M6}:(S=[]\/S=[45])->dig m=J->(N0 0 m).2=125::l->Item (123::(S++m)) (Zx SI [Ar ((match S with| []=>1|_=> -1)*(N0 0 m).1)]) l
 |two {l:M6} {c:Nat}:(Ua c).take 7=[Am,Am,Am,Am,Am,Am,J]->Item (c::l) (Zx XH [Zy c]) l
 |one {l:M6} {c:Nat}:(Ua c).take 8=[Am,Am,Am,Am,Am,Am,Am,J]->Item (c::l) (Zx Xd [Zy c]) l
 |wr {l l':M6} {c:Nat} {z:V}:Ua c=[Am,Am,Am,Am,Am,Am,Am,Am,Am]->Wtr (c::l) z l'->Item (c::l) z l'
section
variable{r P:AG}{o t l l':M6}{a b:Nat}{R:LV}{X:Ox}{z:V}
def cJ(h:RS τ r P o a R t X σ)(N:o.drop (b+1)=c::l){K:Kt}
  (q:∀σ,RS τ r P o (b+2) R t X σ->Na (n+1) 61 (Oe.body.drop 3) [NG r,NT b,NT c] σ K):Na (n+1) 64 Oe.body [NG r,NT b,Y] σ K:=
 h.oc (ff (og N) (h.oc (ak (aD N) (h.at_ (b+2) q))))
def aef(C:Sn o)(hl:o.length<=Nh)(h:RS τ r P o a R t X σ)(N:o.drop (b+1)=l)(hi:Item l z l')(A:R.length+t.length<Nh)
  (q:∀p σ,o.drop p=l'->RS τ r P o p (flush R t++[z]) [] X σ->Q A5 σ):M8 B (n+4) 153 [Av r,Zy b] σ Q:=by
 refine ay H H ?_
 cases hi with
 |chr=>exact cJ h N λσ h=>h.m H H (dF h A λσ h=>q _ _ (bg N 1) h)
 |len=>exact cJ h N λσ h=>h.m H H (dF h A λσ h=>q _ _ (bg N 1) h)
 |more=>exact cJ h N λσ h=>h.m H H (dF h A λσ h=>q _ _ (bg N 1) h)
 |par y=>exact cJ h N λσ h=>⟨Ac H,h.m H H (sW h (bg N 1) y A λσ h=>q _ _ (bg N 2) h)⟩
 |set y=>exact cJ h N λσ h=>⟨Ac H,h.m H H (lD h (bg N 1) y H A λσ h=>q _ _ (bg N 2) h)⟩
 |get y=>exact cJ h N λσ h=>⟨Ac H,h.m H H (lD h (bg N 1) y H A λσ h=>q _ _ (bg N 2) h)⟩
 |Vr=>exact cJ h N λσ h=>⟨Ac H,⟨Ac H,h.m H H (sX h (bg N 1) A λσ h=>q _ _ (bg N 3) h)⟩⟩
 |num hS x hr=>exact cJ h N λσ h=>⟨Ac H,⟨Ac H,h.m H H (sY C h (bg N 1) hS x hr A q)⟩⟩
 |two I=>have u:=C.dr N;exact cJ h N λσ h=>ff (M7 (CD · 0 J) I) (ff (M7 (CD · 1 J) I) (ff (M7 (CD · 2 J) I) (ff (M7 (CD · 3 J) I) ⟨u,ff (M7 (CD · 4 J) I) ⟨u,ff (M7 (CD · 5 J) I) ⟨u,tt (M7 (CD · 6 J) I) (h.m H H (dF h A λσ h=>q _ _ (bg N 1) h))⟩⟩⟩)))
 |one I=>have u:=C.dr N;exact cJ h N λσ h=>ff (M7 (CD · 0 J) I) (ff (M7 (CD · 1 J) I) (ff (M7 (CD · 2 J) I) (ff (M7 (CD · 3 J) I) ⟨u,ff (M7 (CD · 4 J) I) ⟨u,ff (M7 (CD · 5 J) I) ⟨u,ff (M7 (CD · 6 J) I) ⟨u,tt (M7 (CD · 7 J) I) (h.m H H (dF h A λσ h=>q _ _ (bg N 1) h))⟩⟩⟩⟩)))
 |wr I hw=>have u:=C.dr N;exact cJ h N λσ h=>ff (M7 (CD · 0 J) I) (ff (M7 (CD · 1 J) I) (ff (M7 (CD · 2 J) I) (ff (M7 (CD · 3 J) I) ⟨u,ff (M7 (CD · 4 J) I) ⟨u,ff (M7 (CD · 5 J) I) ⟨u,ff (M7 (CD · 6 J) I) ⟨u,ff (M7 (CD · 7 J) I) ⟨u,ff (M7 (CD · 8 J) I) (h.m H H (wo C hl h N hw A q))⟩⟩⟩⟩⟩)))
def wt(h:RS τ r P o a R t X σ)(I:o.drop (b+1)=37::l)(N:t.length<Nh)(q:∀σ,RS τ r P o (b+2) R (t++[37]) X σ->Q A5 σ):M8 B (n+4) 153 [Av r,Zy b] σ Q:=
 ay H H (cJ h I λσ h=>RS.casesOn h λA T h=>aZ (h.at 0 H) H H H (eM (h.at 2 H) (bY (h.at 2 H) N ae (q _ ⟨A,T,h.upd 2 H _⟩))))
def wu(hc:c∈[63,116,101,59])(h:RS τ r P o a R t X σ)(N:o.drop (b+1)=c::l)(q:∀σ,RS τ r P o (b+2) R t X σ->M8 B (n+3) 174 [Av r,Zy b,Zy c] σ λZ=>Q A5):M8 B (n+4) 153 [Av r,Zy b] σ Q:=by
 refine ay H H<|cJ h N ?_
 rcases AQ.mp hc with rfl|hc
 exactλσ h=>⟨Ac H,⟨Ac H,⟨Ac H,⟨Ac H,⟨Ac H,h.m H H (q σ h)⟩⟩⟩⟩⟩;rcases AQ.mp hc with rfl|hc
 exactλσ h=>⟨Ac H,⟨Ac H,⟨Ac H,⟨Ac H,⟨Ac H,h.m H H (q σ h)⟩⟩⟩⟩⟩;rcases AQ.mp hc with rfl|hc
 exactλσ h=>⟨Ac H,⟨Ac H,⟨Ac H,⟨Ac H,⟨Ac H,h.m H H (q σ h)⟩⟩⟩⟩⟩;obtain rfl:=AV.mp hc;exactλσ h=>⟨Ac H,⟨Ac H,⟨Ac H,⟨Ac H,⟨Ac H,h.m H H (q σ h)⟩⟩⟩⟩⟩
abbrev Zz:=Zx TF [Ar 0]
abbrev ZA:=Zx QW [Ar 0]
def XOf(P:AG)(f:Option (Option Nat×M6))(X:Ox):=match f with
 |none=>X=X0 P
 |some f=>∃N M,X=X1 P N M (optN f.1) (f.2.map Zy)
end
def yQ:∀I R,(Sp N I R).length=R.length:=λI=>by
 induction I with
 |nil=>exactλZ=>H
 |cons j I A=>exactλR=>(A _).trans (DS ..)
def bd(h:a+b+2*l<Nh)(I:c<=a+b+1)(N:R<l):c+2*R<Nh:=Al (Aa (A7 I _) (by rw[Bf];exact AU (Aa (Bk 1 _▸B4 _) (A2 2 N)) _)) h
def bd0(h:a+b+2*l<Nh):a+b<Nh:=Al (AD ..) h
def fl1{R:LV}{t:M6}(y:V):(flush R t++[y]).length<=R.length+t.length+1:=by rw[Ad];exact A7 eV 1
structure dP where
 n:Nat
 τ:M5
 r:AG
 P:AG
 o:M6
 ho:Sn o
 hl:o.length<=Nh
 K:Kt
def dP.W(c:dP)(l:M6)(R:LV)(t:M6)(f:Option (Option Nat×M6)):=∀a X σ,c.o.drop a=l->XOf c.P f X->RS c.τ c.r c.P c.o a R t X σ->R.length+t.length+2*l.length<Nh->
 Og (c.n+4) (PF Nw.body) (Pn Nw.body) [NG c.r] σ c.K
section
variable{c:dP}{l t:M6}{R:LV}{f:Option (Option Nat×M6)}{js:M6}
def dP.on(N:c.o.drop a=37::l)(h:RS c.τ c.r c.P c.o a R t X σ)
  (q:M8 B (c.n+4) 153 [Av c.r,Zy a] σ λZ σ=>Og (c.n+4) (PF Nw.body) (Pn Nw.body) [NG c.r] σ c.K):Og (c.n+4) (PF Nw.body) (Pn Nw.body) [NG c.r] σ c.K:=
 dN (h.pl (h.oc (tt (bS N) (h.oc (h.pl (ak (aD N) (h.m H H (h.pl q))))))))
def dP.nil(q:∀a σ,RS c.τ c.r c.P c.o a R t (X0 c.P) σ->R.length+t.length<Nh->c.K.nx [NG c.r] σ):c.W [] R t Y:=λa X σ A I h N=>by obtain rfl:X=X0 c.P:=I;exact dN<|h.pl<|h.oc<|ff (gf A)<|q _ _ h<|bd0 N
def dP.chr(C:decide (G x≠37)=J)(q:c.W l R (t++[x]) f):c.W (x::l) R t f:=λa X σ N y h I=>by
 refine dN<|h.pl<|h.oc<|tt (bS N)<|h.oc<|h.pl<|ak (aD N)<|tt C<|RS.casesOn h λA T h=>aZ (h.at 0 H) H H H<|eM (h.at 2 H)<|aZ (h.at 0 H) H H H<|aZ (h.at 0 H) H H H<|ak (aD N)<|bY (h.at 2 H) (Al (Bl ..) (bd0 I)) (c.ho.dr N) ?_
 have h:RS c.τ c.r c.P c.o a R (t++[x]) X _:=⟨A,T,h.upd 2 H _⟩;exact h.pl (h.at_ (a+1) λσ h=>q _ X σ (aw N) y h (bd I (Ap (M7 (_+·) (Ad ..))) (Bu _)))
def dP.pc(q:c.W l R (t++[37]) f):c.W (37::37::l) R t f:=λa X σ N A h I=>dP.on N h (wt h (aw N) (Al (Bl ..) (bd0 I)) λσ h=>q _ X σ (bg N 2) A h (bd I (Ap (M7 (_+·) (Ad ..))) (C4 (Bu _))))
def dP.it{w:M6}(A:Item w y l)(hl:l.length<w.length)(q:c.W l (flush R t++[y]) [] f):c.W (37::w) R t f:=λa X σ I C h N=>dP.on I h (aef c.ho c.hl h (aw I) A (bd0 N) λp σ x h=>q _ X σ x C h (bd N (fl1 _) (C4 hl)))
def dP.br{I:LV}(hx:x∈[63,116,101,59])(hR:I.length<=R.length+t.length+1)(q:c.W l I [] f')
  (N:∀b X Q σ,RS c.τ c.r c.P c.o (b+2) R t X σ->XOf c.P f X->R.length+t.length<Nh->(∀X σ,XOf c.P f' X->RS c.τ c.r c.P c.o (b+2) I [] X σ->Q A5 σ)->M8 B (c.n+3) 174 [Av c.r,Zy b,Zy x] σ Q):c.W (37::x::l) R t f:=λa X σ C A h y=>
 dP.on C h (wu hx h (aw C) λσ h=>N a X _ σ h A (bd0 y) λX σ A h=>q _ X σ (bg C 2) A h (bd y hR (C4 (Bu _))))
def dP.qu(q:c.W l (flush R t) [] (U (Y,[]))):c.W (37::63::l) R t Y:=dP.br aG (CA eV) q λb X Q σ h A I k=>by obtain rfl:X=X0 c.P:=A;exact abx h I λN M σ h=>k _ σ ⟨N,M,H⟩ h
def dP.th(q:c.W l (flush R t++[Zz]) [] (U (U (flush R t).length,js))):c.W (37::116::l) R t (U (Y,js)):=dP.br aG (fl1 _) q λb X Q σ h A I k=>by obtain⟨N,M,rfl⟩:=A;exact aby h I λσ h=>k _ σ ⟨N,M,H⟩ h
def dP.el(y:k<(flush R t++[ZA]).length)(A:js.length<100)(q:c.W l ((flush R t++[ZA]).set k (Zx TF [Zy (flush R t++[ZA]).length])) [] (U (Y,js++[(flush R t).length]))):c.W (37::101::l) R t (U (U k,js)):=
 dP.br aG (by rw[DS];exact fl1 _) q λb X Q σ h C I q=>by
 obtain⟨N,M,rfl⟩:=C;exact abz h I (by rw[Ak];exact BG A ae) y λσ h=>q _ σ ⟨N,M,by rw[AS];rfl⟩ h
def dP.fi(I:∀k,x=U k->k<(flush R t).length)(C:∀k∈js,k<(flush R t).length)(q:c.W l (Sp (flush R t).length js (XG x (Zx TF [Zy (flush R t).length]) (flush R t))) [] Y):c.W (37::59::l) R t (U (x,js)):=
 dP.br aG (by rw[yQ,qL];exact CA eV) q λb X Q σ h y A q=>by
 obtain⟨N,M,rfl⟩:=y;exact abA h A I C λσ h=>q _ σ H h
end
section
variable{r P:AG}{o:M6}{z:LV}
def s6(C:Sn o)(X:o.length<=Nh)(hz:2*o.length<Nh)(h:RS τ r P o 0 [] [] (X0 P) σ)(I:∀c:dP,c.o=o->(∀R t,flush R t=z->c.W [] R t Y)->c.W o [] [] Y)
  (q:∀A σ,τ A=Y->Keeps τ σ->σ A=U (AA z)->Q (Av A) σ):M8 B (n+5) 146 [Av r] σ Q:=
 ay H H (I ⟨n,τ,r,P,o,C,X,Nl (Na (n+4) 63) (Nw.body.drop 1) (RT Q)⟩ H (λR t e=>dP.nil λa σ h N=>by exact h.m (k:=16) (f:=132) H H (cu h N λσ h=>RS.casesOn h λA T h=>aZ (h.at 0 H) H H H ⟨Aq _,Aw (bF (ai (h.at 3 H)) H (aZ (h.at 0 H) H H H (q A _ (h.h _ (A6 (i:=1) H)).2 h.k (e▸h.at 1 H))))⟩)) 0 _ σ H H h ((A1 (2*o.length)).symm▸hz))
end
def Hs.ini{τ σ:M5}(h:Keeps τ (σ.set a o))(e:τ a=Y):Hs τ [(a,o)] (σ.set a o):=⟨h,λp q=>by obtain rfl:=AV.mp q;exact⟨M5.ag _ _,e⟩,Bc.mpr ⟨Ay,Cx⟩⟩
def Hs.rev{L:Ox}(h:Hs τ L σ):Hs τ L.reverse σ:=h.perm (MY _).symm
section
variable{r P:AG}{o:M6}{z:LV}
def yR(hz:2*o.length<Nh)(y:∀c:dP,c.o=o->(∀R t,flush R t=z->c.W [] R t Y)->c.W o [] [] Y)(q:Q (BB z) σ):M8 B (n+6) 195 [W o] σ Q:=M8.yF λho hl=>by
 refine Ny.out<|ay H H<|cls (f:=118) (fn:=ON) (ds:=[]) (full:=[W o]) H H (λZ=>H) λr d x I=>?_
 have h:=Hs.ini I x;refine gN (h.at 0 H) H H ?_;have h:=h.upd 0 H (BZ 184 [(0,W o)]);refine gN (h.at 0 H) H H ⟨Aq _,AN λA N=>?_⟩;have h:=(h.upd 0 H (BZ 184 [(0,W o),(1,Zy 0)])).new (o:=AA []) N;refine gN (h.at 1 H) H H<|eP λT X=>?_
 have h:=(h.upd 1 H (BZ 184 [(0,W o),(1,Zy 0),(2,Av A)])).new (o:=CF []) X;refine gN (h.at 2 H) H H ⟨Aq _,AN λP C=>?_⟩;have h:=(h.upd 2 H (BZ 184 [(0,W o),(1,Zy 0),(2,Av A),(3,Av T)])).new (o:=AA []) C;refine gN (h.at 3 H) H H ⟨H,?_⟩;have h:RS σ r P o 0 [] [] (X0 P) _:=⟨A,T,(h.upd 3 H (Zw o 0 A T P)).rev⟩;exact h.m (k:=34) (f:=146) H H<|s6 ho hl hz h y λA τ N I e=>⟨I,.lst A z H N e q⟩
set_option genCtorIdx true in
inductive Va where
 |i (n:Int)
 |b (l:M6)
abbrev Va.v:Va->V
 |.i n=>Ar n
 |.b l=>W l
abbrev led(i:Int):Int:=(i+2147483648).fmod 4294967296-2147483648
abbrev Va.led:Va->Va
 |.i n=>.i (Tp.led n)
 |.b l=>.b l
abbrev Va.num:Va->Int
 |.i n=>n
 |.b _=>0
abbrev Va.oct:Va->M6
 |.i _=>[]
 |.b l=>l
variable{p sl:AG}{L:Ox}{i j:Nat}{v:Va}{s:LV}
def cW(h:Hs τ L σ)(R:L[i]?=U (p,BZ 261 [(5,Av sl)]))(N:L[j]?=U (sl,AA s))(I:s.length<Nh)(q:∀σ,Hs τ (L.set j (sl,AA (s++[v.led.v]))) σ->Q A5 σ):M8 B (n+1) 237 [Av p,v.v] σ Q:=by
 refine ay H H ?_;have T:∀z,z=v.led.v->We n 62 (.expr (.sQ (.attr (JP 0) 5) 0 [JP 1])) [NG p,U z] σ (RT Q):=λz e=>e▸aZ (h.at i R) H H H (aK (ai (h.at j N)) (av (h.at j N) I (q _ (h.upd j N _))))
 cases v with
 |i n=>exact iP ⟨⟨by decide,Ac H⟩,⟨by decide,⟨⟨by decide,Ac H⟩,T _ H⟩⟩⟩
 |b l=>exact gc (T _ H)
def oh(h:Hs τ L σ)(R:L[i]?=U (p,BZ 261 [(5,Av sl)]))(N:L[j]?=U (sl,AA (s++[v.v])))(q:∀σ,Hs τ (L.set j (sl,AA s)) σ->Q v.v σ):M8 B (n+1) 244 [Av p] σ Q:=
 ay H H (aZ (h.at i R) H H H ⟨Aq _,Aw (bQ (ai (h.at j N)) H (ff (by cases s<;>rfl) (aZ (h.at i R) H H H (p7 (ai (h.at j N)) (f7 (h.at j N) (q _ (h.upd j N _)))))))⟩)
def dH(h:Hs τ L σ)(N:L[i]?=U (p,BZ 261 [(5,Av sl)]))(R:L[j]?=U (sl,AA (s++[v.v])))(q:∀σ,Hs τ (L.set j (sl,AA s)) σ->Q (Ar v.num) σ):M8 B (n+2) 251 [Av p] σ Q:=
 ay H H (bx (h.at i N) H H H (oh h N R λσ h=>by
  cases v with
  |i n=>exact iP (q _ h)
  |b l=>exact gc (q _ h)))
def qM(h:Hs τ L σ)(N:L[i]?=U (p,BZ 261 [(5,Av sl)]))(R:L[j]?=U (sl,AA (s++[v.v])))(q:∀σ,Hs τ (L.set j (sl,AA s)) σ->Q (W v.oct) σ):M8 B (n+2) 258 [Av p] σ Q:=
 ay H H (bx (h.at i N) H H H (oh h N R λσ h=>by
  cases v with
  |i n=>exact dE (q _ h)
  |b l=>exact cq (q _ h)))
abbrev b2(p:Bool):Int:=if p then 1 else 0
def Vr(a b:Int):Int:=match decide (b=0)with
 |true=>0
 |false=>match decide (a<0)==decide (b<0)with
  |true=>(G a.natAbs).fdiv (G b.natAbs)
  |false=> -(G a.natAbs).fdiv (G b.natAbs)
abbrev rem(a b:Int):Int:=match decide (b=0)with
 |true=>0
 |false=>a-b*Vr a b
def adm(h:decide (b=0)=J):Vr a b=0:=by delta Vr;rw[h]
def adn{a b:Int}(h:decide (b=0)=Am)(e:(decide (a<0)==decide (b<0))=J):Vr a b=(G a.natAbs).fdiv (G b.natAbs):=by delta Vr;rw[h,e]
def ado{a b:Int}(h:decide (b=0)=Am)(e:(decide (a<0)==decide (b<0))=Am):Vr a b= -(G a.natAbs).fdiv (G b.natAbs):=by delta Vr;rw[h,e]
def adp(h:decide (b=0)=J):rem a b=0:=by delta rem;rw[h]
def adq(h:decide (b=0)=Am):rem a b=a-b*Vr a b:=by delta rem;rw[h]
abbrev ops:List (Nat×(Int->Int->Int)):=[(43,(· +·)),(45,(· -·)),(42,(· *·)),(47,Vr),(109,rem),(38,JK),(124,Builtin.bitOr),(94,MV),(61,λa b=>b2 (decide (a=b))),(62,λa b=>b2 (decide (b<a))),(60,λa b=>b2 (decide (a<b))),
 (65,λa b=>b2 (decide (a≠0)&&decide (b≠0))),(79,λa b=>b2 (decide (a≠0)||decide (b≠0)))]
end
section
variable{c:Bool->M5->Prop}{p q:Bool}{a b:Int}
def yS(h:c (p==q) σ):OT B n EN (Bm p) (Bm q) σ c:=cM (λs Z Z R N=>R.mA (C:=λv=>N4 EN v _ (p==q)) (N.mA (C:=λu=>N4 EN _ u (p==q)) λA s Q q=>G8 q)) h
def yT(h:Q (Ar (b2 p)) σ):br p (Q (Ar 1) σ) (Q (Ar 0) σ):=by cases p<;>exact h
def aeg(h:Q (Ar (b2 (p&&q))) σ):br p (br q (Q (Ar 1) σ) (Q (Ar 0) σ)) (Q (Ar 0) σ):=by cases p<;>cases q<;>exact h
def afy(h:Q (Ar (b2 (p||q))) σ):br p (Q (Ar 1) σ) (br q (Q (Ar 1) σ) (Q (Ar 0) σ)):=by cases p<;>cases q<;>exact h
def yU(h:decide (b=0)=Am):(G b.natAbs:Int)≠0:=λe=>Pd h (M3.mp (BP e))
def yV(R:b.natAbs<2^64)(q:Q (.int (Vr a b)) σ):M8 B (n+1) 272 [.int a,.int b] σ Q:=by
 refine ay H H<|aF (λe=>(adm e▸q:Q (Ar 0) σ)) λe=>?_
 exact dj<|dj ⟨⟨yU e,R⟩,yS (aF (λN=>adn e N▸q) λN=>(by rw[ado e N]at q;exact q))⟩
def aeh(N:b.natAbs<2^64):∀s∈ops,Q (.int (s.2 a b)) σ->M8 B (n+2) 279 [Zy s.1,.int a,.int b] σ Q:=by refine Ae.mpr ⟨λq=>ay H H q,Ae.mpr ⟨λq=>ay H H q,?_⟩⟩;refine Ae.mpr ⟨λq=>ay H H ⟨.inr N,q⟩,Ae.mpr ⟨λq=>ay H H (yV N q),?_⟩⟩;refine Ae.mpr ⟨λq=>ay H H (aF (λe=>?_) λe=>yV N ⟨.inl N,?_⟩),?_⟩;exact(adp e▸q:Q (Ar 0) σ);exact Eq.mp (M7 (λi=>Q (.int i) σ) (adq e)) q;refine Ae.mpr ⟨λq=>ay H H (ay H H q),Ae.mpr ⟨λq=>ay H H (ay H H q),?_⟩⟩;refine Ae.mpr ⟨λq=>ay H H (ay H H q),Ae.mpr ⟨λq=>ay H H (ay H H (yT q)),?_⟩⟩;refine Ae.mpr ⟨λq=>ay H H (ay H H (yT q)),Ae.mpr ⟨λq=>ay H H (ay H H (yT q)),?_⟩⟩;exact Ae.mpr ⟨λq=>ay H H (ay H H (aeg q)),Ae.mpr ⟨λq=>ay H H (ay H H (afy q)),λZ h=>M9 h Ay⟩⟩
end
section
variable{a b:Int}{v:Va}
def aei(e:i=j)(h:Q (Ar i) σ):Q (Ar j) σ:=e▸h
def abB(h:Q (Ar (b2 (p&&q))) σ):Q (Ar (if decide ((1:Int)<(if p then 1 else 0)+(if q then 1 else 0))then 1 else 0)) σ:=by cases p<;>cases q<;>exact h
def aej(h:Q (Ar (b2 (p||q))) σ):Q (Ar (if decide ((0:Int)<(if p then 1 else 0)+(if q then 1 else 0))then 1 else 0)) σ:=by cases p<;>cases q<;>exact h
def qN(R:b.natAbs<2^64)(e:decide (b=0)=Am){K:Kt}(q:K.nx [N1 [s],Q3 a,Q3 b,Q3 (Vr a b),Y] σ):
  We n 60 (S.asg (Eg 3) (.bin .Mult (.bin LM (.blt 2 [JP 1]) (.blt 2 [JP 2])) (.j4 (.cmp (.cmp (JP 1) [.Lt] [JQ (Ar 0)]) [EN] [.cmp (JP 2) [.Lt] [JQ (Ar 0)]]) (JQ (Ar 1)) (.un .USub (JQ (Ar 1)))))) [N1 [s],Q3 a,Q3 b,Y,Y] σ K:=
 dj (dj ⟨⟨yU e,R⟩,yS (aF (λN=>⟨AN ae,by rw[J6,<-adn e N];exact q⟩) λN=>⟨AN ae,by rw[show-(1:Int)= -1 from H,Int.mul_neg,J6,<-ado e N];exact q⟩)⟩)
def s7(q:Q v.led.v σ):M8 B (n+1) 953 [v.v] σ Q:=by
 refine ay H H ?_
 cases v with
 |i n=>exact dE ⟨by decide,q⟩
 |b l=>exact cq q
def cT(q:Q (Ar v.num) σ):M8 B (n+1) 960 [v.v] σ Q:=by
 refine ay H H ?_
 cases v with
 |i n=>exact dE q
 |b l=>exact cq q
def qO(N:b.natAbs<2^64):∀s∈ops,Q (Ar (s.2 a b)) σ->M8 B (n+1) 967 [W [s.1],Ar a,Ar b] σ Q:=by
 refine Ae.mpr ⟨λq=>ay H H ?_,?_⟩;exact aj H<|aj H q
 refine Ae.mpr ⟨λq=>ay H H ?_,?_⟩;exact aj H<|aj H q
 refine Ae.mpr ⟨λq=>ay H H ?_,?_⟩;exact aj H<|aj H ⟨AN N,q⟩
 refine Ae.mpr ⟨λq=>ay H H ?_,?_⟩;exact aj H<|aF (λe=>aei (adm e) q) λe=>qN N e q
 refine Ae.mpr ⟨λq=>ay H H ?_,?_⟩;exact aj H (aF (λe=>aei (adp e) q) λe=>qN N e ⟨AN N,(aei ((adq e).trans (M7 (a-·) (LZ b _))) q:Q (Ar (a-Vr a b*b)) σ)⟩);refine Ae.mpr ⟨λq=>ay H H ?_,?_⟩;exact aj H<|aj H<|aj H q
 refine Ae.mpr ⟨λq=>ay H H ?_,?_⟩;exact aj H<|aj H<|aj H q
 refine Ae.mpr ⟨λq=>ay H H ?_,?_⟩;exact aj H<|aj H<|aj H q
 refine Ae.mpr ⟨λq=>ay H H ?_,?_⟩;refine aj H (aj H (aj H (aj H ?_)));exact bk q;refine Ae.mpr ⟨λq=>ay H H ?_,?_⟩;refine aj H (aj H (aj H (aj H ?_)));exact bk q;refine Ae.mpr ⟨λq=>ay H H ?_,?_⟩;refine aj H (aj H (aj H (aj H ?_)));exact bk q;refine Ae.mpr ⟨λq=>ay H H ?_,?_⟩;refine aj H (aj H (aj H (aj H ?_)));exact bk<|bk<|bk<|abB q
 refine Ae.mpr ⟨λq=>ay H H ?_,λZ h=>M9 h Ay⟩;refine aj H (aj H (aj H (aj H ?_)));exact bk<|bk<|bk<|aej q
abbrev QD:=List (Nat×Va)
def Q9(c:Nat):QD->Option Va
 | []=>Y
 |e::r=>if c==e.1 then U e.2 else Q9 c r
def T1(c:Nat)(v:Va):QD->QD
 | []=>[(c,v)]
 |e::r=>if c==e.1 then(e.1,v)::r else e::T1 c v r
abbrev dG(g:Nat->V)(d:QD):=d.map λe=>(g e.1,e.2.v)
abbrev bV(c:Nat):=W [c]
end
structure Gk (g:Nat->V) (k:Nat):Prop where
 eq:∀a b,Td (g a) (g b)=(a==b)
 kd:∀a,kindOf (g a)=k
 ok:k≠0/\k≠4
def wx(a b:Nat):(G a==G b)=(a==b):=by
 by_cases h:a=b
 subst h;exact(Px _).trans (Px _).symm;exact(TM λe=>h (BP e)).trans (TM h).symm
def lG : Gk Zy 1 := ⟨wx, fun Z => H, by decide⟩
def oi:Gk bV 3:=⟨λa b=>Ha _,λZ=>H,by decide⟩
section
variable{g:Nat->V}{k c:Nat}(K:Gk g k){v:Va}{n:Nat}
include K
def lH:∀{d},NH (g c) (dG g d)=(Q9 c d).map Va.v:=λ{d}=>by
 induction d with
 |nil=>rfl
 |cons e d N=>
  show(if Td (g c) (g e.1)=J then U e.2.v else NH (g c) (dG g d))=(if(c==e.1)=J then U e.2 else Q9 c d).map Va.v;rw[K.eq,N]
  cases c==e.1<;>rfl
def oj:∀{d},NX (g c) v.v (dG g d)=dG g (T1 c v d):=λ{d}=>by
 induction d with
 |nil=>rfl
 |cons e d N=>
  show(if Td (g c) (g e.1)=J then(g e.1,v.v)::dG g d else(g e.1,e.2.v)::NX (g c) v.v (dG g d))=dG g (if(c==e.1)=J then(e.1,v)::d else e::T1 c v d);rw[K.eq,N]
  cases c==e.1<;>rfl
def dI:Keyed n (g c) (dG g d):=fe ((K.kd c).symm▸K.ok) (A3.mpr λx m=>by obtain⟨e,_,rfl⟩:=A0.mp m;exact beq_iff_eq.mpr ((K.kd e.1).trans (K.kd c).symm))
end
def om{g:Nat->V}{d:QD}:(dG g d).length=d.length:=Ak ..
structure Mch where
 m:AG
 pa:AG
 ow:AG
 s:AG
 st:AG
 sl:AG
 fo:AG
structure Xp where
 p:List Va
 o:QD
 k:QD
 s:LV
 f:M6
abbrev Mch.L(c:Mch)(x:Xp):Ox:=[(c.m,BZ 352 [(6,Av c.pa),(7,Av c.ow),(8,Av c.s),(9,Av c.st),(10,Av c.fo)]),(c.pa,AA (x.p.map Va.v)),(c.ow,AE (dG Zy x.o)),(c.s,AE (dG Zy x.k)),(c.st,BZ 261 [(5,Av c.sl)]),(c.sl,AA x.s),(c.fo,CF x.f)]
structure DoX where
 n:Nat
 τ:M5
 c:Mch
def DoX.D(d:DoX)(z:V)(x x':Xp):=∀Q σ,Hs d.τ (d.c.L x) σ->(∀σ,Hs d.τ (d.c.L x') σ->Q A5 σ)->M8 B (d.n+4) 335 [Av d.c.m,z] σ Q
abbrev chN(v:Va):=(v.num%256).toNat
def oo(v:Va):v.num.fmod 256=G (chN v)/\chN v<256:=by have h:=DW v.num (b:=256) aG;exact⟨(D5 _ aG).trans (Dv h).symm,(Jp h).mpr (EA _ aG)⟩
abbrev chO(v:Va):Nat:=match decide (G (chN v)=0)with
 |true=>128
 |false=>chN v
def ads(e:decide (G (chN v)=0)=J):chO v=128:=by delta chO;rw[e]
def adt(e:decide (G (chN v)=0)=Am):chO v=chN v:=by delta chO;rw[e]
section
variable(d:DoX){p:List Va}{o k:QD}{s:LV}{f:M6}{v u:Va}{x x':Xp}
def s8{Q:KE}{O z:V}{l:LV}{j:Int}(e:j=G i)(R:SF σ O=U l)(N:l[i]?=U z)(q:Q z σ):Rg B n O (Ar j) σ Q:=e▸ah R N q
def DoX.text{t:M6}(hf:f.length+t.length<=Nh):d.D (Zx [116,101,120,116] [W t]) ⟨p,o,k,s,f⟩ ⟨p,o,k,s,f++t⟩:=λQ σ h q=>ay H H (aZ (h.at 0 H) H H H (jr (h.at 6 H) (fA (h.at 6 H) hf (q _ (h.upd 6 H _)))))
def DoX.char(hf:f.length<Nh):d.D (Zx Xe []) ⟨p,o,k,s++[v.v],f⟩ ⟨p,o,k,s,f++[chO v]⟩:=λQ σ h q=>by
 refine ay H H<|aZ (h.at 0 H) H H H<|bx (h.at 4 H) H H H<|dH h (i:=4) (j:=5) H H λσ h=>⟨by decide,?_⟩
 rw[(oo v).1];refine aZ (h.at 0 H) H H H<|eM (h.at 6 H)<|aF (λe=>?_) λe=>?_
 rw[ads e]at q;exact bY (h.at 6 H) hf ae (q _ (h.upd 6 H _));rw[adt e]at q;exact bY (h.at 6 H) hf (oo v).2 (q _ (h.upd 6 H _))
def DoX.param{i:Nat}(R:p[i]?=U v)(N:s.length<Nh):d.D (Zx So [Zy (i+1)]) ⟨p,o,k,s,f⟩ ⟨p,o,k,s++[v.led.v],f⟩:=λQ σ h q=>by exact ay H H<|aZ (h.at 0 H) H H H<|bx (h.at 4 H) H H H<|bx (h.at 0 H) (f:=307) H H H<|ay H H<|aZ (h.at 0 H) H H H<|s8 (D6 (G i) 1) (ai (h.at 1 H)) ((BR ..).trans (M7 (Fg Va.v) R))<|cW h (i:=4) (j:=5) H H N λσ h=>q _ h
def DoX.push(N:s.length<Nh):d.D (Zx SI [v.v]) ⟨p,o,k,s,f⟩ ⟨p,o,k,s++[v.led.v],f⟩:=λQ σ h q=>ay H H (aZ (h.at 0 H) H H H (bx (h.at 4 H) H H H (cW h (i:=4) (j:=5) H H N λσ h=>q _ h)))
def DoX.len(N:s.length<Nh):d.D (Zx XI []) ⟨p,o,k,s++[v.v],f⟩ ⟨p,o,k,s++[(Va.i (G v.oct.length)).led.v],f⟩:=λQ σ h q=>
 ay H H (aZ (h.at 0 H) H H H (bx (h.at 4 H) H H H (aZ (h.at 0 H) H H H (bx (h.at 4 H) H H H (qM h (i:=4) (j:=5) H H λσ h=>cW (v:=.i (G v.oct.length)) h (i:=4) (j:=5) H H N λσ h=>q _ h)))))
end
abbrev Va.inc:Va->Va
 |.i n=>.i (n+1)
 |.b l=>.b l
def Om:List S->List S
 |.XX _ _ _ b::_=>b
 |_=>[]
def s9{o:Option Va}:(o.map Va.v).getD (Ar 0)=(o.getD (.i 0)).v:=by cases o<;>rfl
section
variable{n:Nat}{σ τ:M5}{Q:KE}(d:DoX){p:List Va}{o k:QD}{s:LV}{f:M6}{v u:Va}{x:Xp}{c:Nat}{z:V}{R:Goes->Prop}
def DoX.yW(h:Hs d.τ (d.c.L x) σ)(N:decide ((97:Int)<=G c)=J)(q:Q (Av d.c.ow) σ):M8 B (n+1) 314 [Av d.c.m,Zy c] σ Q:=ay H H (tt N (aZ (h.at 0 H) H H H q))
def DoX.yX(h:Hs d.τ (d.c.L x) σ)(N:decide ((97:Int)<=G c)=Am)(q:Q (Av d.c.s) σ):M8 B (n+1) 314 [Av d.c.m,Zy c] σ Q:=ay H H (ff N (aZ (h.at 0 H) H H H q))
def DoX.afz(N:decide ((97:Int)<=G c)=J)(I:o.length<Nh):d.D (Zx Wj [Zy c]) ⟨p,o,k,s++[v.v],f⟩ ⟨p,T1 c v o,k,s,f⟩:=λQ σ h q=>by
 refine ay H H<|aZ (h.at 0 H) H H H<|bx (h.at 4 H) H H H<|oh h (i:=4) (j:=5) H H λσ (h:Hs d.τ (d.c.L ⟨p,o,k,s,f⟩) σ)=>bx (h.at 0 H) H H H<|d.yW h N<|aJ (h.at 2 H) (dI lG) (Al (Ap om) I) ?_
 rw[oj lG];exact q _<|h.upd 2 H _
def DoX.afA(N:decide ((97:Int)<=G c)=Am)(I:k.length<Nh):d.D (Zx Wj [Zy c]) ⟨p,o,k,s++[v.v],f⟩ ⟨p,o,T1 c v k,s,f⟩:=λQ σ h q=>by
 refine ay H H<|aZ (h.at 0 H) H H H<|bx (h.at 4 H) H H H<|oh h (i:=4) (j:=5) H H λσ (h:Hs d.τ (d.c.L ⟨p,o,k,s,f⟩) σ)=>bx (h.at 0 H) H H H<|d.yX h N<|aJ (h.at 3 H) (dI lG) (Al (Ap om) I) ?_
 rw[oj lG];exact q _<|h.upd 3 H _
def DoX.afB(I:decide ((97:Int)<=G c)=J)(N:s.length<Nh):d.D (Zx Xc [Zy c]) ⟨p,o,k,s,f⟩ ⟨p,o,k,s++[((Q9 c o).getD (.i 0)).led.v],f⟩:=λQ σ h q=>by
 refine ay H H<|aZ (h.at 0 H) H H H<|bx (h.at 4 H) (f:=237) H H H<|bx (h.at 0 H) H H H<|d.yW h I<|eK (ao (h.at 2 H))<|cG (ao (h.at 2 H)) (dI lG) ?_
 rw[lH lG,s9];exact cW h (i:=4) (j:=5) H H N λσ h=>q _ h
def DoX.afC(I:decide ((97:Int)<=G c)=Am)(N:s.length<Nh):d.D (Zx Xc [Zy c]) ⟨p,o,k,s,f⟩ ⟨p,o,k,s++[((Q9 c k).getD (.i 0)).led.v],f⟩:=λQ σ h q=>by
 refine ay H H<|aZ (h.at 0 H) H H H<|bx (h.at 4 H) (f:=237) H H H<|bx (h.at 0 H) H H H<|d.yX h I<|eK (ao (h.at 3 H))<|cG (ao (h.at 3 H)) (dI lG) ?_
 rw[lH lG,s9];exact cW h (i:=4) (j:=5) H H N λσ h=>q _ h
def DoX.two{g:Nat×(Int->Int->Int)}(A:g∈ops)(I:v.num.natAbs<2^64)(N:s.length<Nh):d.D (Zx XH [Zy g.1]) ⟨p,o,k,s++[u.v]++[v.v],f⟩ ⟨p,o,k,s++[(Va.i (g.2 u.num v.num)).led.v],f⟩:=λQ σ h q=>
 ay H H (bx (h.at 0 H) (k:=28) (f:=342) H H H (ay H H (aZ (h.at 0 H) H H H (bx (h.at 4 H) (k:=11) (f:=251) H H H (dH h (i:=4) (j:=5) H H λσ (h:Hs d.τ (d.c.L ⟨p,o,k,s++[u.v],f⟩) σ)=>
  aZ (h.at 0 H) H H H (bx (h.at 4 H) (k:=5) (f:=237) H H H (aZ (h.at 0 H) H H H (bx (h.at 4 H) (k:=11) (f:=251) H H H (dH h (i:=4) (j:=5) H H λσ (h:Hs d.τ (d.c.L ⟨p,o,k,s,f⟩) σ)=>aeh I g A (cW (v:=.i (g.2 u.num v.num)) h (i:=4) (j:=5) H H N λσ h=>q _ h))))))))))
def DoX.one(N:s.length<Nh):d.D (Zx Xd [Zy 33]) ⟨p,o,k,s++[v.v],f⟩ ⟨p,o,k,s++[(Va.i (b2 (decide (v.num=0)))).led.v],f⟩:=λQ σ h q=>by
 refine ay H H (bx (h.at 0 H) (k:=28) (f:=342) H H H (ay H H (aZ (h.at 0 H) H H H (bx (h.at 4 H) (k:=11) (f:=251) H H H (dH h (i:=4) (j:=5) H H λσ (h:Hs d.τ (d.c.L ⟨p,o,k,s,f⟩) σ)=>aZ (h.at 0 H) H H H (bx (h.at 4 H) (k:=5) (f:=237) H H H ?_))))))
 exact aF (λe=>cW (v:=.i 1) h (i:=4) (j:=5) H H N λσ h=>by rw[show decide (v.num=0)=J from e]at q;exact q _ h) λe=>cW (v:=.i 0) h (i:=4) (j:=5) H H N λσ h=>by rw[show decide (v.num=0)=Am from e]at q;exact q _ h
def DoX.inv(N:s.length<Nh):d.D (Zx Xd [Zy 126]) ⟨p,o,k,s++[v.v],f⟩ ⟨p,o,k,s++[(Va.i (HC v.num)).led.v],f⟩:=λQ σ h q=>
 ay H H (bx (h.at 0 H) (k:=28) (f:=342) H H H (ay H H (aZ (h.at 0 H) H H H (bx (h.at 4 H) (k:=11) (f:=251) H H H (dH h (i:=4) (j:=5) H H λσ (h:Hs d.τ (d.c.L ⟨p,o,k,s,f⟩) σ)=>aZ (h.at 0 H) H H H (bx (h.at 4 H) (k:=5) (f:=237) H H H (cW (v:=.i (HC v.num)) h (i:=4) (j:=5) H H N λσ h=>q _ h)))))))
def DoX.more{a b:Va}:d.D (Zx V1 []) ⟨a::b::r,o,k,s,f⟩ ⟨a.inc::b.inc::r,o,k,s,f⟩:=λQ σ h q=>by
 refine ay H H<|bx (h.at 0 H) (f:=321) H H H<|ay H H ⟨by decide,?_⟩
 generalize N:RT (X9 _ _)=K
 have T:∀a σ,Hs d.τ (d.c.L ⟨a::b::r,o,k,s,f⟩) σ->(∀σ,Hs d.τ (d.c.L ⟨a::b.inc::r,o,k,s,f⟩) σ->Q A5 σ)->forL (Na (d.n+2) 62 (Om OZ.body)) (O2 (d.n+2) 62 (Eg 1)) K [Zy 1] [NG d.c.m,NT 0] σ:=λa σ h q=>by
  refine aZ (h.at 0 H) H H H<|ah (ai (h.at 1 H)) H ?_
  subst N
  cases b with
  |i n=>exact iP (aZ (h.at 0 H) H H H (ah (ai (h.at 1 H)) H (aZ (h.at 0 H) H H H (bB (h.at 1 H) (EZ (Bt _)) (q _ (h.upd 1 H _))))))
  |b l=>exact gc (q _ h)
 refine aZ (h.at 0 H) H H H<|ah (ai (h.at 1 H)) H ?_
 cases a with
 |i n=>exact iP (aZ (h.at 0 H) H H H (ah (ai (h.at 1 H)) H (aZ (h.at 0 H) H H H (bB (h.at 1 H) (Bt _) (T (.i (n+1)) _ (h.upd 1 H _) q)))))
 |b l=>exact gc (T (.b l) _ h q)
end
def agJ{N:M6}(e:N.contains 35=Am):Vq lt N m=[]:=by delta Vq;rw[e]
def agK{N:M6}(e:N.contains 35=J)(R:decide ((0:Int)<G m)=Am):Vq lt N m=[]:=by delta Vq;rw[e,R]
def agL{N:M6}(e:N.contains 35=J)(I:decide ((0:Int)<G m)=J)(R:decide (G lt≠G 111)=Am):Vq lt N m=[]:=by delta Vq;rw[e,I,R]
def agM{N:M6}(e:N.contains 35=J)(I:decide ((0:Int)<G m)=J)(R:decide (G lt≠G 111)=J):Vq lt N m=[48,lt]:=by delta Vq;rw[e,I,R]
section
def loc{Q:KE}(h:ρ[i]?.getD Y=U v)(q:Q v σ):O7 B n (k+1) (JP i) ρ σ Q:=ak h q
variable{fl r:M6}{w lt m b:Nat}{i:Int}
def agN(h1:decide (G lt=G 115)=Am)(h2:decide (G lt=G 100)=Am)(C:lt<256)(I:(match decide (G lt=G 111)with|true=>8|false=>16)=b)
  (hr:Rz b (m/b) r) (hl:r.length<1000) (hi:decide (i<0)=J->i.fmod 4294967296=G m) (A:decide (i<0)=Am->i=G m) (hw:w<=20000)
  (q:Q (W (pad (QB lt fl (OE (decide (G lt=G 88)) (m%b::r)) (Vq lt fl m)) (OE (decide (G lt=G 88)) (m%b::r)) fl w Am)) σ):M8 B (n+2) 216 [Zy lt,W fl,Zy w,A5,Ar i] σ Q:=by
 refine ay H H<|fst<|ff h1<|aL<|aL<|ff h2<|fst ?_
 generalize hK:Nl (Na (n+1) 59) _ _=K
 have T:∀j,j=G m->K.nx [NT lt,N1 fl,NT w,U A5,Q3 i,Y,N1 [],Q3 j] σ:=by
  subst hK;intro j ej;subst ej
  have N:∀h,Vq lt fl m=h->h.length<=2->(wrT (n+1) Q).nx (wrR lt fl w Y (Q3 i) (OE (decide (G lt=G 88)) (m%b::r)) h (NT m)) σ:=λh e hh=>uj (λZ e=>aa e) (by rw[lC];exact hl) hh hw (e▸q)
  refine aL ?_;generalize hK2:Nl (Na (n+1) 58) _ _=K2
  have X:K2.nx [NT lt,N1 fl,NT w,U A5,Q3 i,U (W (OE (decide (G lt=G 88)) (m%b::r))),N1 [],NT m] σ:=by subst hK2;exact aF (λe=>aF (λR=>aF (λy=>⟨Ac H,Aw (aH H (λx hx=>AV.mp hx▸C) ⟨Ac H,N [48,lt] (agM e R y) (AH 2)⟩)⟩) λy=>N [] (agL e R y) ae) λR=>wb (N [] (agK e R) ae)) λe=>wb<|N [] (agJ e) ae
  cases e:decide (G lt=G 111)with
  |true=>rw[e]at I;obtain rfl:b=8:=I.symm;exact tt e (ib ae ae hr (BG hl ae) X)
  |false=>rw[e]at I;obtain rfl:b=16:=I.symm;exact ff e (ib ae ae hr (BG hl ae) X)
 refine aF (λe=>⟨by decide,?_⟩) λe=>?_;have:=T _ (hi e);exact this;exact loc H<|T _<|A e
def Vi(p:Option Nat)(b:M6):=match p with
 |none=>b
 |some k=>b.take k
abbrev dash(fl:M6):M6:=match fl.contains 45 with
 |true=>[45]
 |false=>[]
def oq{b:M6}:(Vi p b).length<=b.length:=by
 cases p with
 |none=>exact AH _
 |some k=>exact HQ ..
variable{b:M6}{p:Option Nat}
def agO(A:b.length<=10000)(X:w<=20000)(q:Q (W (pad [] (Vi p b) (dash fl) w J)) σ):M8 B (n+2) 216 [Zy 115,W fl,Zy w,Q8 p,W b] σ Q:=by
 have N:∀d,dash fl=d->M8 B (n+1) 209 [W [],W (Vi p b),W d,Zy w,Bm J] σ Q:=λd e=>m8 (by rw[B5,A1];exact Aa oq (Aa A ae)) X (e▸q);have I:=λe:fl.contains 45=J=>N [45] (by delta dash;rw[e]);have R:=λe:fl.contains 45=Am=>N [] (by delta dash;rw[e]);refine ay H H ?_
 cases p with
 |none=>exact aF I R
 |some k=>refine aM H H ?_;rw[a9];exact aF I R
end
abbrev dg(b:Nat):Nat->Nat->M6
 |0,_=>[]
 |k+1,m=>match BU m 0 with
  |true=>[]
  |false=>m%b::dg b k (m/b)
def d7(R:2<=b):∀k m,m<2^k->Rz b m (dg b k m)/\(dg b k m).length<=k:=λk=>by
 induction k with
 |zero=>exactλm h=>⟨Nat.lt_one_iff.mp h,AH _⟩
 |succ k I=>
  intro m h;have e:dg b (k+1) m=match BU m 0 with|true=>[]|false=>m%b::dg b k (m/b):=H
  cases q:BU m 0 with
  |true=>rw[e,q];exact⟨BE q,Aq _⟩
  |false=>rw[e,q];have N:=I (m/b) (HZ (AP h (by rw[Nat.pow_succ,Nat.mul_comm];exact Nat.mul_le_mul_right _ R)));exact⟨⟨GS (LP q),H,N.1⟩,AX N.2⟩
def QX(g:Bool)(b m:Nat):=OE g (m%b::dg b 40 (m/b))
structure Wri where
 c:Nat
 fl:M6
 w:Nat
 p:Option Nat
def Sq:List Wri:=[⟨100,[],0,Y⟩,⟨100,[],4,Y⟩,⟨100,[48],5,Y⟩,⟨100,[43],0,Y⟩,⟨100,[32],0,Y⟩,⟨100,[45],4,Y⟩,⟨100,[],6,U 3⟩,⟨120,[35],0,Y⟩,⟨88,[],0,Y⟩,⟨111,[35],0,Y⟩,⟨120,[48],9,Y⟩,⟨115,[],0,Y⟩,⟨115,[],5,Y⟩,⟨115,[45],5,U 2⟩]
abbrev Wri.g(x:Wri):=decide (G x.c=G 88)
abbrev Wri.bs(x:Wri):Nat:=match decide (G x.c=G 111)with
 |true=>8
 |false=>16
abbrev Wri.out(x:Wri)(v:Va):M6:=match decide (G x.c=G 115),decide (G x.c=G 100)with
 |true,_=>pad [] (Vi x.p v.oct) (dash x.fl) x.w J
 |false,J=>pad (UI v.num x.fl) (Xo x.p (QX Am 10 v.num.natAbs)) x.fl x.w x.p.isSome
 |false,Am=>pad (QB x.c x.fl (QX x.g x.bs (QC v.num)) (Vq x.c x.fl (QC v.num))) (QX x.g x.bs (QC v.num)) x.fl x.w Am
def Va.Rr:Va->Prop
 |.i n=> -2147483648<=n/\n<2147483648
 |.b l=>l.length<=100
def Va.Rr.num{v:Va}(h:v.Rr): -2147483648<=v.num/\v.num<2147483648:=by
 cases v with
 |i n=>exact h
 |b l=>exact(by decide:(-2147483648:Int)<=0/\(0:Int)<2147483648)
def Va.Rr.oct{v:Va}(h:v.Rr):v.oct.length<=100:=by
 cases v with
 |i n=>exact Aq _
 |b l=>exact h
def Va.Rr.abs{v:Va}(h:v.Rr):v.num.natAbs<=2147483648:=by have h:=h.num;revert h;cases v.num with
 |ofNat n=>exactλh=>E4.mpr (FW h.2)
 |negSucc n=>exactλh=>E4.mpr (Int.neg_le_of_neg_le h.1)
def ot(i:Int):QC i<4294967296:=(Jp (DW _ aG)).mpr (EA _ aG)
def uk(i:Int):i.fmod 4294967296=G (QC i):=(D5 _ aG).trans (Dv (DW _ aG)).symm
def Va.Rr.pos{v:Va}(h:v.Rr)(e:decide (v.num<0)=Am):v.num=G (QC v.num):=by rw[show QC v.num=v.num.toNat from M7 Int.toNat (G9 (CI.mp (Pd e)) (Int.lt_trans h.num.2 aG))];exact(Dv (CI.mp (Pd e))).symm
abbrev wOk(x:Wri):=DA x.w 100&&(Ey x.c 256&&((match x.p with|none=>J|some k=>!decide (G k=0)&&DA k 100)&&(x.c==115|| (x.c==100||x.p.isNone))))
structure WOk (x:Wri):Prop where
 w:x.w<=100
 c:x.c<256
 p:∀k,x.p=U k->decide (G k=0)=Am/\k<=100
 k:x.c=115\/x.c=100\/x.p=Y
def ou(h:x∈Sq):WOk x:=by obtain⟨I,h⟩:=Ah.mp ((A3.mp (by decide+kernel:Sq.all wOk=J)) x h);obtain⟨R,h⟩:=Ah.mp h;obtain⟨N,A⟩:=Ah.mp h;refine⟨Ac I,Ac R,λk e=>?_,(Cb.mp A).imp N2 λh=>(Cb.mp h).imp N2 Dw.mp⟩;rw[e]at N;obtain⟨a,b⟩:=Ah.mp N;exact⟨(BM _).mp a,Ac b⟩
section
variable{x:Wri}{v:Va}
def abC(h:WOk x)(e:decide (G x.c=G 115)=J)(N:v.Rr)(q:Q (W (x.out v)) σ):M8 B (n+2) 216 [Zy x.c,W x.fl,Zy x.w,Q8 x.p,W v.oct] σ Q:=by obtain⟨c,R,w,p⟩:=x;obtain rfl:c=115:=BP (Od e);exact agO (Aa N.oct ae) (Aa h.w ae) q
def abD(h:WOk x)(e:decide (G x.c=G 115)=Am)(R:v.Rr)(q:Q (W (x.out v)) σ):M8 B (n+2) 216 [Zy x.c,W x.fl,Zy x.w,Q8 x.p,Ar v.num] σ Q:=by
 obtain⟨c,X,w,p⟩:=x;have I:w<=20000:=Aa h.w ae;have D:=λ{b m:Nat} (C:2<=b) (A:m<4294967296)=>d7 C 40 (m/b) (Al (DV ..) (BG A ae));delta Wri.out at q;rw[e]at q
 cases N:decide (G c=G 100)with
 |true=>rw[N]at q;obtain rfl:c=100:=BP (Od N);have d:=D (b:=10) (m:=v.num.natAbs) ae (Al R.abs ae);exact agG (λk q=>(h.p k q).imp_right λq=>Aa q ae) I d.1 (Al d.2 ae) q
 |false=>rw[N]at q;obtain rfl:p=Y:=(h.k.resolve_left λq=>Pd e (M7 G q)).resolve_left λq=>Pd N (M7 G q);have d:=D (by delta Wri.bs;cases decide (G c=G 111)<;>decide:2<=Wri.bs ⟨c,X,w,Y⟩) (ot v.num);exact agN e N h.c H d.1 (Al d.2 ae) (λZ=>uk _) R.pos I q
end
section
variable(d:DoX){p:List Va}{o k:QD}{s:LV}{f:M6}{v:Va}{x:Wri}
def DoX.write(N:x∈Sq)(R:v.Rr)(hf:f.length+(x.out v).length<=Nh):d.D (Zx Uy [Zy x.c,W x.fl,Zy x.w,Q8 x.p]) ⟨p,o,k,s++[v.v],f⟩ ⟨p,o,k,s,f++x.out v⟩:=λQ σ h q=>by
 have N:=ou N;refine ay H H<|bx (h.at 0 H) (f:=328) H H H<|ay H H ?_
 cases e:decide (G x.c=G 115)with
 |true=>exact tt e (aZ (h.at 0 H) H H H (bx (h.at 4 H) H H H (qM h (i:=4) (j:=5) H H λσ (h:Hs d.τ (d.c.L ⟨p,o,k,s,f⟩) σ)=>aZ (h.at 0 H) H H H (jr (h.at 6 H) (abC N e R (fA (h.at 6 H) hf (q _ (h.upd 6 H _))))))))
 |false=>exact ff e (aZ (h.at 0 H) H H H (bx (h.at 4 H) H H H (dH h (i:=4) (j:=5) H H λσ (h:Hs d.τ (d.c.L ⟨p,o,k,s,f⟩) σ)=>aZ (h.at 0 H) H H H (jr (h.at 6 H) (abD N e R (fA (h.at 6 H) hf (q _ (h.upd 6 H _))))))))
end
def yY:∀d<16,(Nat.digitChar d).toNat=sg Am d:=by decide
def abE(N:2<=b):∀r {m},Rz b m r->r.length<=m:=λr=>by
 induction r with
 |nil=>exactλZ=>Aq _
 |cons d r R=>exactλh=>Al (R h.2.2) (Nat.div_lt_self h.1 N)
def wy:∀r {m N} {ds},Rz 10 (m/10) r->r.length<N->(JR 10 N m ds).map MI=OE Am (m%10::r)++ds.map MI:=λr=>by
 induction r with
 |nil=>
  intro m N ds h R
  cases N with
  |zero=>exact M9 R (HF _)
  |succ k=>have h:=h;dsimp only[JR];rw[Nt h,Cc,yY _ (BG (De m ae) ae)];rfl
 |cons d r X=>
  intro m N ds h R
  cases N with
  |zero=>exact M9 R (HF _)
  |succ k=>obtain⟨A,rfl,I⟩:=h;dsimp only[JR];rw[Np (CR A),X I (LR R),Cc,yY _ (BG (De m ae) ae)];delta OE;rw[Cc,Cc,Cc,BF,BF,BF,Ag,Ag,Ag];rfl
def ofS(x:String):(CM x).cps.toList=x.toList.map MI:=by rw[Str.ofString_eq_byList];rfl
def yZ(h:Rz 10 (n/10) r):Sk (G n)=OE Am (n%10::r):=by delta Sk;rw[ofS,show(toString (G n)).toList=Nat.toDigits 10 n from Lp,<-Ax (OE Am (n%10::r))];exact wy r h<|Nat.lt_succ_of_le<|Aa (abE ae r h)<|DV ..
def y0(h:n<1099511627776):Sk (G n)=QX Am 10 n:=yZ (d7 ae 40 (n/10) (Al (DV ..) h)).1
def cX(g:Bool)(b m:Nat)(R:2<=b)(N:m<1099511627776):(QX g b m).length<=41:=by delta QX;rw[lC];exact AX (d7 R 40 (m/b) (Al (DV ..) N)).2
def qP(R:0<b)(N:b<=16):∀r {m},Rz b (m/b) r->∀c∈OE g (m%b::r),c<256:=λr=>by
 delta OE
 induction r with
 |nil=>exactλ{m} _ c h=>by rw[AV.mp h];exact(sV g _ (AP (De m R) N)).2
 |cons d r X=>
  intro m h c I;obtain⟨_,rfl,A⟩:=h;rw[Cc,BF]at I;rcases BC.mp I with q|q
  exact X A c q;rw[AV.mp q];exact(sV g _ (AP (De m R) N)).2
section
variable{i:Int}
def gO(R:i.natAbs.log2<1920)(N:(Sk i).length<=1000)(I:∀c∈Sk i,c<256)(q:Q (W (Sk i)) σ):M8 B (n+1) 927 [Ar i] σ Q:=by
 refine ay H H<|sJ R (Aa N ae)<|bb (g:=λc=>NT c) (Sk i) (λc Z k q=>k8 q) ?_
 rw[show(Sk i).filterMap (λc=>NT c)=N9 (Sk i)from F3▸H];exact⟨Aa (Ap (Ak ..)) (Aa N ae),Aw (aH H I q)⟩
def cB(h:m<1099511627776)(q:Q (W (QX Am 10 m)) σ):M8 B (n+1) 927 [Zy m] σ Q:=by
 have e:=y0 h;refine gO ?_ (by rw[e];exact Aa (cX _ _ _ ae h) ae) (by rw[e];exact qP ae ae _ (d7 ae 40 (m/10) (Al (DV ..) h)).1)<|e▸q
 by_cases q:m=0
 subst q;decide;exact(Nat.log2_lt q).mpr<|AP h ae
def abF:∀g,∀k<16,((sgn g).drop k).take 1=[sg g k]:=by decide
def oy:([c]==[d])=decide (G c=G d):=by
 by_cases h:c=d
 subst h;rw[Px,N5 H];rw[TM λe=>h (BO e).1,N8 λe=>h (BP e)]
abbrev lp(h b fl:M6)(w:Nat):M6:=match fl==[48],fl==[45]with
 |true,_=>h++T9 48 w h b++b
 |false,J=>h++b++T9 32 w h b
 |false,Am=>T9 32 w h b++h++b
variable{h b fl:M6}{w m:Nat}{g:Bool}
def oz(N:h.length<=2)(R:b.length<=1000)(x:w<=100)(q:Q (W (lp h b fl w)) σ):
  (Nl (Na n 61) (QL.body.drop 3) (RT Q)).nx [v0,v1,v2,N1 fl,NT w,v5,N1 h,v7,N1 b,y,Y] σ:=by
 have I:∀{c},(T9 c w h b).length<=100:=Aa iT x;have A: -1048576<=Ux w h b:=Bv (by decide:(-1048576:Int)<=0-2-1000) (KW (KW (AW w) (Bq.mpr N)) (Bq.mpr R));have C:Ux w h b<=1048576:=Bv oa (Bv (Bq.mpr x) aG);have b2:∀{c},(T9 c w h b).length+h.length<=Nh:=Aa (Ao I N) ae;have b3:∀{c},(h++T9 c w h b).length+b.length<=Nh:=λ{c}=>by rw[Ad];exact Aa (Ao (Ao N I) R) ae
 have b4:∀{c},(T9 c w h b++h).length+b.length<=Nh:=λ{c}=>by rw[Ad];exact Aa (Ao (Ao I N) R) ae
 have b5:∀{c},(h++b).length+(T9 c w h b).length<=Nh:=λ{c}=>by rw[Ad];exact Aa (Ao (Ao N R) I) ae
 delta lp at q;refine aL<|fst<|aF (λe=>?_) λe=>rG<|aF (λX=>?_) λX=>?_
 rw[show(fl==[48])=J from e]at q;exact wm A C ⟨Bk _ h.length▸b2,b3,q⟩;rw[show(fl==[48])=Am from e,show(fl==[45])=J from X]at q;exact⟨(Aa (Ao N R) ae:h.length+b.length<=Nh),wm A C ⟨b5,q⟩⟩;rw[show(fl==[48])=Am from e,show(fl==[45])=Am from X]at q;exact wm A C ⟨b2,b4,q⟩
def jQ{r:M6}(A:0<w)(I:w<=16)(C:Rz w (m/w) r)(X:r.length<=1000)(q:Q (W (OE g (m%w::r))) σ):M8 B (n+1) 981 [Zy m,Zy w,W (sgn g)] σ Q:=by
 refine ay H H (have N:∀K,∀R m f,Rz w m R->f.length+R.length<=Nh->K.nx [NT 0,NT w,N1 (sgn g),U (W ((R.map (sg g)).reverse++f))] σ->Og n (PF (Pj.body.drop 1)) (Pn (Pj.body.drop 1)) [NT m,NT w,N1 (sgn g),N1 f] σ K:=?_;?_)
 ·intro K R
  induction R with
  |nil=>intro m f y _ q;obtain rfl:m=0:=y;exact dN q
  |cons d R ih=>
   intro m f y X q;obtain⟨x,rfl,h2⟩:=y;refine dN<|tt (N5 (BN.mpr x))<|lB A<|lB A<|aM (q:=U (G (m%w+1))) H H ?_
   rw[eU,abF g _ (AP (De m A) I)];refine⟨Aa (Bk 1 f.length▸AU (AX (Aq _)) _) X,m6 A (Al I ae) (ih (m/w) ([sg g (m%w)]++f) h2 ?_ ?_)⟩;rw[Ad,Bk [_].length,Bf];exact Bk 1 R.length▸X;rw[Cc,BF,Ag]at q;exact q
 cases e:BU m 0 with
 |true=>
  obtain rfl:=BE e;rw[Nat.zero_div]at C;obtain rfl:r=[]:=by cases r with|nil=>rfl|cons d r=>exact M9 C.1 (Fj 0)
  rw[Nat.zero_mod]at q;exact N _ [] 0 [] H ae (by cases g<;>exact q)
 |false=>
  refine N _ (m%w::r) m [] ⟨GS (LP e),H,C⟩ (Aa (Ap (A1 _)) (Aa (AX X) ae)) ?_;rw[Ax];refine tt ?_ q;rw[Cc,BF]
  cases(CC (sg g) r).reverse<;>rfl
end
def wz(I:0<b)(N:b<=16):∀r {m},Rz b (m/b) r->0<m->∃d t,OE g (m%b::r)=sg g d::t/\0<d/\d<16:=λr=>by
 delta OE
 induction r with
 |nil=>intro m h R;have e:=Hr ((Nat.div_eq_zero_iff_lt I).mp h);exact⟨m%b,[],H,e.symm▸R,AP (De m I) N⟩
 |cons d r X=>intro m h R;obtain⟨A,rfl,C⟩:=h;obtain⟨d,t,e,y⟩:=X C A;exact⟨d,t++[sg g (m%b)],by rw[Cc,BF,e];rfl,y⟩
def afD:∀g,∀d<16,0<d->(sg g d==48)=Am:=by decide
def y9(R:2<=b)(N:b<=16)(I:m<4294967296):((QX g b m).take 1 !=[48])=decide ((0:Int)<G m):=by
 by_cases h:0<m
 obtain⟨d,t,e,X,A⟩:=wz (g:=g) (AP ae R) N _ (d7 R 40 (m/b) (Al (DV ..) (BG I ae))).1 h;rw[show QX g b m=sg g d::t from e,show decide ((0:Int)<G m)=J from N5 (BN.mpr h)];show(!(sg g d==48&&J))=J;rw[afD g d A X];rfl;obtain rfl:=Nat.eq_zero_of_not_pos h;rw[(by delta QX;rw[Nat.zero_mod,Nat.zero_div];cases g<;>rfl:QX g b 0=[48])];rfl
abbrev wFl(x:Wri):=[45,48,43,32,35].all λc=>x.fl.contains c==(x.fl==[c])
def abG:∀x∈Sq,(wFl x&&!(x.fl==[48]&&(x.c==115||x.p.isSome)))=J:=A3.mp (by decide+kernel:(Sq.all λx=>wFl x&&!(x.fl==[48]&&(x.c==115||x.p.isSome)))=J)
def aek{h b N:M6}(I:N.contains 45=(N==[45]))(A:N.contains 48=(N==[48]))(R:(N==[48]&&hp)=Am):pad h b N w hp=lp h b N w:=by
 delta pad lp;rw[I,A]
 cases e:N==[48]with
 |false=>cases N==[45]<;>rfl
 |true=>rw[e]at R;obtain rfl:hp=Am:=R;rw[N2 e];rfl
def ael{N:M6}(A:N.contains 43=(N==[43]))(I:N.contains 32=(N==[32]))(h:decide (i<0)=Am):UI i N=match([43]==N|| ([32]==N||Am))with|true=>N|false=>[]:=by
 delta UI;rw[h,A,I,Mx (a:=[43]),Mx (a:=[32])]
 cases e:N==[43]with
 |true=>exact(N2 e).symm
 |false=>
  cases R:N==[32]with
  |true=>exact(N2 R).symm
  |false=>rfl
def zc:(UI i fl).length<=2:=by
 delta UI
 cases decide (i<0)<;>cases fl.contains 43<;>cases fl.contains 32<;>decide
def zd{v:Va}(h:v.Rr):decide (v.num≠0)=decide ((0:Int)<G (QC v.num)):=by
 have h:=h.num;refine decide_eq_decide.mpr ⟨λe=>BN.mpr (GS λN=>e ?_),λe N=>?_⟩;have:=Dv (DW v.num (b:=4294967296) aG);rw[show(v.num%4294967296).toNat=0 from N]at this;exact Int.eq_zero_of_dvd_of_natAbs_lt_natAbs (Int.dvd_of_emod_eq_zero this.symm)<|Al (Va.Rr.abs ‹_›) ae
 rw[N]at e;exact M9 e aG
def aem{N:M6}(h:N.contains 35=(N==[35]))(A:2<=b)(R:b<=16)(I:m<4294967296):QB c N (QX g b m) (Vq c N m)=match N==[35],decide ((0:Int)<G m),decide (G c=G 111)with
  |true,J,J=>[48]
  |true,J,Am=>[48,c]
  |_,_,_=>[]:=by
 delta QB Vq;rw[y9 A R I,h,show decide (G c≠G 111)=!decide (G c=G 111)from decide_not ..]
 cases N==[35]<;>cases decide ((0:Int)<G m)<;>cases decide (G c=G 111)<;>rfl
section
variable{x:Wri}{v:Va}
def S7(x:Wri):=Bg [W [x.c],W x.fl,Zy x.w,Q8 x.p]
def lI(hx:x∈Sq)(hv:v.Rr)(q:Q (.bytes (x.out v)) σ):M8 B (n+2) 988 [v.v,S7 x] σ Q:=by
 have ok:=ou hx;obtain⟨hf,hn⟩:=Ah.mp (abG x hx);have hf:=λc hc=>N2 (A3.mp hf c hc);have h5:=hf 45 aG;obtain⟨c,R,w,p⟩:=x;have hn:=(BM _).mp hn
 have pd:∀{h b} {hp},((c==115||p.isSome)=Am->hp=Am)->pad h b R w hp=lp h b R w:=λk=>aek h5 (hf 48 aG) (by
  cases e:R==[48]with
  |false=>rfl
  |true=>rw[show((R==[48])&&_)=_ from M7 (· &&_) e]at hn;exact k hn)
 delta Wri.out at q;refine ay H H<|cT<|fst ?_
 generalize hK:Nl (Na (n+1) 61) _ _=K
 cases e:decide (G c=G 115)with
 |true=>
  rw[e]at q;obtain rfl:c=115:=BP (Od e)
  have q:Q (.bytes (lp [] (Vi p v.oct) R w)) σ:=by
   have y:pad [] (Vi p v.oct) (dash R) w J=lp [] (Vi p v.oct) R w:=by
    delta lp dash;rw[h5,(aO (Ha _) hn:(R==[48])=Am)]
    cases e:R==[45]<;>rfl
   exact y▸q
  have T:K.nx [U v.v,U (S7 ⟨115,R,w,p⟩),U (.bytes [115]),U (.bytes R),NT w,U (Q8 p),U (.bytes []),U (.int v.num),U (.bytes (Vi p v.oct)),Y,Y] σ:=hK▸oz (Aq _) (Aa oq (Aa hv.oct ae)) ok.w q
  have N:∀b,v.oct=b->Na (n+1) 59 [.asg (.nm 8) (.j4 (.cmp (.loc 5) [.Is] [.lit .none]) (.loc 8) (.slc (.loc 8) (.lit .none) (.loc 5) (.lit .none)))] [U v.v,U (S7 ⟨115,R,w,p⟩),U (.bytes [115]),U (.bytes R),NT w,U (Q8 p),U (.bytes []),U (.int v.num),U (.bytes b),Y,Y] σ K:=λb eb=>by
   subst eb
   cases p with
   |none=>exact T
   |some k=>exact aM (p:=Y) (q:=U (.ofNat k)) H H (by rw[a9];exact T)
  cases v with
  |i n=>exact dE (N _ H)
  |b l=>exact cq (N _ H)
 |false=>
  rw[e]at q;refine ff (oy.trans e) ?_
  cases y:decide (G c=G 100)with
  |true=>
   rw[y]at q;refine tt (oy.trans y)<|fst ?_
   generalize hK2:Nl (Na (n+1) 57) _ _=K2;obtain rfl:c=100:=BP (Od y);have q:=(pd (h:=UI v.num R) (b:=Xo p (QX Am 10 v.num.natAbs)) (hp:=p.isSome) λh=>h)▸q;have hm:v.num.natAbs<1099511627776:=Al hv.abs ae;have hl:=cX Am 10 _ ae hm
   have N:∀h,UI v.num R=h->h.length<=2->K2.nx [U v.v,U (S7 ⟨100,R,w,p⟩),U (.bytes [100]),U (.bytes R),NT w,U (Q8 p),U (.bytes h),U (.int v.num),Y,Y,Y] σ:=λh eh hh=>by
    subst eh hK2
    have T:∀b,b.length<=1000->b=Xo p (QX Am 10 v.num.natAbs)->K.nx [U v.v,U (S7 ⟨100,R,w,p⟩),U (.bytes [100]),U (.bytes R),NT w,U (Q8 p),U (.bytes (UI v.num R)),U (.int v.num),U (.bytes b),Y,Y] σ:=λb hb eb=>by subst eb hK;exact oz hh hb ok.w q
    refine dj<|cB hm ?_
    cases p with
    |none=>exact T _ (Aa hl ae) H
    |some k=>
     have h0:G k-G (QX Am 10 v.num.natAbs).length<=100:=Bv (Ef _ (AW _)) (Bq.mpr (ok.p k H).2)
     have h1:(Xo (U k) (QX Am 10 v.num.natAbs)).length<=1000:=by delta Xo;rw[Ad,Cs];exact Aa (Ao (E4.mpr h0) hl) ae
     exact wm (Bv (by decide:(-1048576:Int)<=0-41) (KW (AW k) (Bq.mpr hl))) (Bv h0 aG) ⟨(Ad ..)▸Aa h1 ae,T _ h1 H⟩
   refine aF (λe3=>N [45] (afu e3) ae) λe3=>aj H ?_;have I:=ael (i:=v.num) (hf 43 aG) (hf 32 aG) e3;refine aF (λC=>?_) λC=>N [] (I.trans (by rw[show([43]==R|| ([32]==R||Am))=Am from C])) ae;have e6:=I.trans (by rw[show([43]==R|| ([32]==R||Am))=J from C]);exact loc H<|N R e6<|Aa (Ap (M7 CH e6.symm)) zc
  |false=>
   rw[y]at q;refine ff (oy.trans y)<|fst ?_
   generalize hK2:Nl (Na (n+1) 57) _ _=K2;have hp:p=Y:=(ok.k.resolve_left λq=>Pd e (M7 G q)).resolve_left λq=>Pd y (M7 G q);have hm:=ot v.num;have hb:2<=Wri.bs ⟨c,R,w,p⟩/\Wri.bs ⟨c,R,w,p⟩<=16:=by delta Wri.bs;cases decide (G c=G 111)<;>decide
   have hd:=d7 hb.1 40 (QC v.num/Wri.bs ⟨c,R,w,p⟩) (Al (DV ..) (BG hm ae));have q:=(pd (hp:=Am) λZ=>H)▸q;have I:=aem (c:=c) (g:=Wri.g ⟨c,R,w,p⟩) (hf 35 aG) hb.1 hb.2 hm
   have T:∀h,h.length<=2->QB c R (QX (Wri.g ⟨c,R,w,p⟩) (Wri.bs ⟨c,R,w,p⟩) (QC v.num)) (Vq c R (QC v.num))=h->K.nx [U v.v,U (S7 ⟨c,R,w,p⟩),U (.bytes [c]),U (.bytes R),NT w,U (Q8 p),U (.bytes h),U (.int v.num),U (.bytes (QX (Wri.g ⟨c,R,w,p⟩) (Wri.bs ⟨c,R,w,p⟩) (QC v.num))),U (.bytes (sgn (Wri.g ⟨c,R,w,p⟩))),Y] σ:=λh hh eh=>by subst hK eh;exact oz hh (Aa (cX (Wri.g ⟨c,R,w,p⟩) _ _ hb.1 (BG hm ae)) ae) ok.w q
   have N:K2.nx [U v.v,U (S7 ⟨c,R,w,p⟩),U (.bytes [c]),U (.bytes R),NT w,U (Q8 p),U (.bytes []),U (.int v.num),Y,U (.bytes (sgn (Wri.g ⟨c,R,w,p⟩))),Y] σ:=by
    subst hK2;refine aL ?_;generalize hK3:Nl (Na (n+1) 56) _ _=K3
    have X:K3.nx [U v.v,U (S7 ⟨c,R,w,p⟩),U (.bytes [c]),U (.bytes R),NT w,U (Q8 p),U (.bytes []),U (.int v.num),U (.bytes (QX (Wri.g ⟨c,R,w,p⟩) (Wri.bs ⟨c,R,w,p⟩) (QC v.num))),U (.bytes (sgn (Wri.g ⟨c,R,w,p⟩))),Y] σ:=by
     subst hK3;refine aF (λe6=>aF (λe7=>?_) λe7=>T [] ae (I.trans (by rw[show(R==[35])=J from e6,<-zd hv,e7]))) λe6=>wb<|T [] ae<|I.trans (by rw[show(R==[35])=Am from e6])
     have I:=I.trans (by rw[show(R==[35])=J from e6,<-zd hv,e7])
     cases A:decide (G c=G 111)with
     |true=>rw[A]at I;exact tt (oy.trans A) (T [48] ae I)
     |false=>rw[A]at I;exact ff (oy.trans A) ⟨Ac H,T [48,c] (AH 2) I⟩
    refine⟨by decide,?_⟩;rw[uk]
    cases A:decide (G c=G 111)with
    |true=>rw[show Wri.bs ⟨c,R,w,p⟩=8 from by delta Wri.bs;rw[A]]at X hd;exact tt (oy.trans A)<|jQ ae ae hd.1 (Aa hd.2 ae) X
    |false=>rw[show Wri.bs ⟨c,R,w,p⟩=16 from by delta Wri.bs;rw[A]]at X hd;exact ff (oy.trans A)<|jQ ae ae hd.1 (Aa hd.2 ae) X
   cases C:decide (G c=G 88)with
   |true=>rw[show Wri.g ⟨c,R,w,p⟩=J from C]at N;exact tt (oy.trans C) N
   |false=>rw[show Wri.g ⟨c,R,w,p⟩=Am from C]at N;exact ff (oy.trans C) N
end
inductive Ex where
 |num (i:Int) (t:M6)
 |par (k:Nat)
 |len (k:Nat)
 |var (c:Nat)
 |one (s:Nat) (a:Ex)
 |two (g:Nat×(Int->Int->Int)) (a b:Ex)
def Sr:List (Int×M6):=[(0,[123,48,125]),(1,[123,49,125]),(7,[123,55,125]),(44,[39,44,39]),(94,[39,94,39]),(255,[123,50,53,53,125]),(-5,[123,45,53,125]),(3000000000,[123,51,48,48,48,48,48,48,48,48,48,125]),(65536,[123,54,53,53,51,54,125]),(9000000000,[123,57,48,48,48,48,48,48,48,48,48,125])]
def SJ:=[97,98,65,90]
def Ex.Ok:Ex->Prop
 |.num i t=>(i,t)∈Sr
 |.par k=>k<9
 |.len k=>k<9
 |.var c=>c∈SJ
 |.one s a=>s∈[33,126]/\a.Ok
 |.two g a b=>g∈ops/\a.Ok/\b.Ok
abbrev Ex.txt:Ex->M6
 |.num _ t=>37::t
 |.par k=>[37,112,k+1+48]
 |.len k=>[37,112,k+1+48,37,108]
 |.var c=>[37,103,c]
 |.one s a=>a.txt++[37]++[s]
 |.two g a b=>a.txt++b.txt++[37]++[g.1]
def Ex.NS:Ex->LV
 |.num i _=>[Zx SI [Ar i]]
 |.par k=>[Zx So [Zy (k+1)]]
 |.len k=>[Zx So [Zy (k+1)],Zx XI []]
 |.var c=>[Zx Xc [Zy c]]
 |.one s a=>a.NS++[Zx Xd [Zy s]]
 |.two g a b=>a.NS++b.NS++[Zx XH [Zy g.1]]
def ze{w l:M6}(h:0<w.length):l.length<(w++l).length:=by rw[Ad];exact Nat.lt_add_of_pos_left h
def qQ(l:M6):∀e∈Sr,Item (e.2++l) (Zx SI [Ar e.1]) l/\0<e.2.length:=by have N:=λ(S m:M6) (A:S=[]\/S=[45]) (R:dig m=J) (I:(N0 0 m).2=125::l)=>Item.num A R I;refine Ae.mpr ⟨⟨N [] (48::125::l) (Aw H) H H,Bt _⟩,Ae.mpr ⟨⟨N [] (49::125::l) (Aw H) H H,Bt _⟩,?_⟩⟩;refine Ae.mpr ⟨⟨N [] (55::125::l) (Aw H) H H,Bt _⟩,Ae.mpr ⟨⟨.Vr,Bt _⟩,?_⟩⟩;refine Ae.mpr ⟨⟨.Vr,Bt _⟩,Ae.mpr ⟨⟨N [] (50::53::53::125::l) (Aw H) H H,Bt _⟩,?_⟩⟩;refine Ae.mpr ⟨⟨N [45] (53::125::l) (AN H) H H,Bt _⟩,Ae.mpr ⟨⟨N [] (51::48::48::48::48::48::48::48::48::48::125::l) (Aw H) H H,Bt _⟩,?_⟩⟩;exact Ae.mpr ⟨⟨N [] (54::53::53::51::54::125::l) (Aw H) H H,Bt _⟩,Ae.mpr ⟨⟨N [] (57::48::48::48::48::48::48::48::48::48::125::l) (Aw H) H H,Bt _⟩,λZ h=>M9 h Ay⟩⟩
def zf:∀k<9,(decide ((49:Int)<=G (k+1+48))&&decide (G (k+1+48)<=57))=J:=by decide
def zg:∀c∈SJ,Vh c=J:=by decide
def abH:∀s∈[33,126],(Ua s).take 8=[Am,Am,Am,Am,Am,Am,Am,J]:=by decide
def abI:∀g∈ops,(Ua g.1).take 7=[Am,Am,Am,Am,Am,Am,J]:=by decide
section
variable{c:dP}{f:Option (Option Nat×M6)}
def um:∀(e:Ex),e.Ok->∀{l t} {R:LV},c.W l (flush R t++e.NS) [] f->c.W (e.txt++l) R t f:=λe=>by
  induction e with
  |num i s=>exactλh {l t R} q=>dP.it (qQ l _ h).1 (ze (qQ l _ h).2) q
  |par k=>exactλh {l t R} q=>dP.it (.par (zf k h)) (C4 (Bu _)) q
  |len k=>exactλh {l t R} q=>dP.it (.par (zf k h)) (C4 (Bu _)) (dP.it .len (Bu _) (by show c.W l (flush R t++[_]++[_]) [] f;rw[Ag];exact q))
  |var x=>exactλh {l t R} q=>dP.it (.get (zg x h)) (C4 (Bu _)) q
  |one s a ih=>
      intro h l t R q
      dsimp only[Ex.txt]
      rw[Ag,Ag]
      refine ih h.2 (dP.it (.one (abH s h.1)) (Bu _) ?_)
      show c.W l (flush R t++a.NS++[_]) [] f
      rw[Ag];exact q
  |two g a b iha ihb=>
      intro h l t R q
      dsimp only[Ex.txt]
      rw[Ag,Ag,Ag]
      refine iha h.2.1 (ihb h.2.2 (dP.it (.two (abI g h.1)) (Bu _) ?_))
      show c.W l (flush R t++a.NS++b.NS++[_]) [] f
      rw[Ag,Ag,<-Ag a.NS];exact q
def oA(n:Int):(Va.i (led n)).Rr:=by have R:=DW (n+2147483648) (b:=4294967296) aG;have N:=EA (n+2147483648) (b:=4294967296) aG;show-2147483648<=led n/\led n<2147483648;delta led;rw[D5 _ aG];exact⟨Mu R _,Int.sub_lt_sub_right N _⟩
def lJ{n:Int}(h:(Va.i n).Rr):led n=n:=by obtain⟨R,N⟩: -2147483648<=n/\n<2147483648:=h;delta led;rw[D5 _ aG,G9 (Mw R 2147483648) (Mv N 2147483648)];exact D6 ..
def Va.lJ{v:Va}(h:v.Rr):v.led=v:=by
 cases v with
 |i n=>exact M7 Va.i (Tp.lJ h)
 |b l=>rfl
def Va.abJ{v:Va}:v.led.oct=v.oct:=by cases v<;>rfl
end
structure Mem where
 p:List Va
 o:QD
 k:QD
def Fits(d:QD):=∀e∈d,e.2.Rr
def aen(p:Bool):(Va.i (b2 p)).Rr:=by cases p<;>exact⟨by decide,by decide⟩
structure Mem.Ok (x:Mem):Prop where
 p:x.p.length=9
 b:∀v∈x.p,v.oct.length<=100
 o:Fits x.o
 k:Fits x.k
abbrev Mem.of(x:Mem)(c:Nat):QD:=match decide ((97:Int)<=G c)with
 |true=>x.o
 |false=>x.k
abbrev Mem.par(x:Mem)(k:Nat):Va:=x.p[k]?.getD (.i 0)
abbrev Ex.ev(x:Mem):Ex->Va
 |.num i _=>.i (led i)
 |.par k=>(x.par k).led
 |.len k=>.i (G (x.par k).oct.length)
 |.var c=>(Q9 c (x.of c)).getD (.i 0)
 |.one s a=>.i (match BU s 33 with|true=>b2 (decide ((a.ev x).num=0))|false=> -1-(a.ev x).num)
 |.two g a b=>.i (led (g.2 (a.ev x).num (b.ev x).num))
def zi:∀{d},Q9 c d=U v->∃e∈d,e.2=v:=λ{d}=>by
 induction d with
 |nil=>exactλh=>aa h
 |cons e d ih=>
  intro h
  change (if _ then U e.2 else Q9 c d)=_ at h
  cases q:c==e.1 with
  |true=>rw[q]at h;exact⟨e,As ..,Af h⟩
  |false=>rw[q]at h;obtain⟨e',m,r⟩:=ih h;exact⟨e',Au _ m,r⟩
def qR(h:Fits d):((Q9 c d).getD (.i 0)).Rr:=by
 cases e:Q9 c d with
 |none=>exact⟨by decide,by decide⟩
 |some v=>obtain⟨N,m,rfl⟩:=zi e;exact h N m
def qS{v:Va}(hv:v.Rr):∀{d},Fits d->Fits (T1 c v d):=λ{d}=>by
 induction d with
 |nil=>exactλZ e h=>AV.mp h▸hv
 |cons e d ih=>
  intro h x hx
  change x∈(if _ then _ else _)at hx
  obtain⟨h1,h2⟩:=Ae.mp h
  cases q:c==e.1 with
  |true=>rw[q]at hx;exact(Ae (p:=λe:Nat×Va=>e.2.Rr)).mpr ⟨hv,h2⟩ x hx
  |false=>rw[q]at hx;exact(Ae (p:=λe:Nat×Va=>e.2.Rr)).mpr ⟨h1,ih h2⟩ x hx
section
variable{x:Mem}(ok:x.Ok)
include ok
def Mem.Ok.of(c:Nat):Fits (x.of c):=by
 delta Mem.of
 cases decide ((97:Int)<=G c)
 exact ok.k;exact ok.o
def Mem.Ok.par{k:Nat}(N:k<9):x.p[k]?=U (x.par k)/\(x.par k).oct.length<=100:=by have h:=AY (ok.p▸N);have e:x.par k=x.p[k]'(ok.p▸N):=M7 (λo:Option Va=>o.getD (.i 0)) h;exact⟨h.trans (M7 U e.symm),e▸ok.b _ (Hm _)⟩
def Mem.Ok.ev:∀(e:Ex),e.Ok->(e.ev x).Rr:=λe=>by
 induction e with
 |num i t=>exactλZ=>oA i
 |par k=>
  intro h;have:=(ok.par h).2;show(x.par k).led.Rr
  cases e:x.par k with
  |i n=>exact oA n
  |b l=>rw[e]at this;exact this
 |len k=>exactλh=>⟨Bv aG (AW _),Ez (Bq.mpr (ok.par h).2) aG⟩
 |var c=>exactλZ=>qR (ok.of c)
 |one s a N=>
  intro h;have h:=(N h.2).num;show(Va.i (match BU s 33 with|true=>_|false=>_)).Rr
  cases BU s 33 with
  |true=>show(Va.i (b2 _)).Rr;exact aen _
  |false=>show-2147483648<= -1-(a.ev x).num/\ -1-(a.ev x).num<2147483648;grind
 |two g a b _ _=>exactλZ=>oA _
end
structure cc extends DoX where
 rows:LV
 K:Kt
@[reducible]nonrec def Mem.st(x:Mem)(s:LV)(f:M6):Xp:=⟨x.p,x.o,x.k,s,f⟩
def cc.W(c:cc)(x:Xp)(l:LV):=∀a y σ,c.rows.drop a=l->Hs c.τ (c.c.L x) σ->Og (c.n+4) (PF (OH.body.drop 1)) (Pn (OH.body.drop 1)) [NG c.c.m,Qv c.rows,NT a,y] σ c.K
section
variable{c:cc}{x x':Xp}{l:LV}{m:Mem}{s:LV}{f:M6}
def cc.nil(q:∀a y σ,Hs c.τ (c.c.L x) σ->c.K.nx [NG c.c.m,Qv c.rows,NT a,y] σ):c.W x []:=λa y σ N h=>dN (ff (gf N) (q a y σ h))
def cc.step(I:(w==QW)=Am)(R:(w==TF)=Am)(d:c.D (Zx w zs) x x')(q:c.W x' l):c.W x (Zx w zs::l):=λa y σ N h=>dN (tt (bS N) (ah H (aD N) (ff I (ff R (bx (h.at 0 H) H H H (d _ σ h λσ h=>q (a+1) _ σ (aw N) h))))))
def cc.afE(q:c.W x (c.rows.drop j)):c.W x (Zx QW [Zy j]::l):=λa y σ N h=>dN (tt (bS N) (ah H (aD N) (q j _ σ H h)))
def cc.rH{v:Va}(R:decide (v.num=0)=J->c.W (m.st s f) (c.rows.drop j))(I:decide (v.num=0)=Am->c.W (m.st s f) l):c.W (m.st (s++[v.v]) f) (Zx TF [Zy j]::l):=λa y σ N h=>
 dN (tt (bS N) (ah H (aD N) (aZ (h.at 0 H) H H H (bx (h.at 4 H) H H H (dH h (i:=4) (j:=5) H H λσ (h:Hs c.τ (c.c.L (m.st s f)) σ)=>aF (λe=>R e j _ σ H h) λe=>I e (a+1) _ σ (aw N) h)))))
abbrev Ex.sz:Ex->Nat
 |.one _ a=>a.sz+1
 |.two _ a b=>a.sz+b.sz+1
 |_=>1
def Ex.aeo(a:Ex):0<a.sz:=by cases a<;>exact Bt _
def jy (ok : m.Ok) : ∀ (e : Ex), e.Ok → ∀ {l s : LV}, s.length + e.sz < Nh → c.W (m.st (s ++ [(e.ev m).v]) f) l → c.W (m.st s f) (e.NS ++ l) := fun e => by
  induction e with
  | num i t => exact fun h {l s} hs q => cc.step H H (c.toDoX.push (v := .i i) (Du hs)) q
  | par k => exact fun h {l s} hs q => cc.step H H (c.toDoX.param (ok.par h).1 (Du hs)) q
  | len k =>
    intro h l s hs q
    refine cc.step H H (c.toDoX.param (ok.par h).1 (Du hs)) (cc.step H H (c.toDoX.len (Du hs)) ?_)
    rw [Va.abJ, show (Va.i (G (m.par k).oct.length)).led = _ from Va.lJ (Mem.Ok.ev ok (.len k) h)]
    exact q
  | var k =>
    intro h l s hs q
    have hf := qR (ok.of k) (c := k)
    change c.W (m.st (s ++ [((Q9 k (m.of k)).getD (.i 0)).v]) f) l at q
    rw [← Va.lJ hf] at q
    dsimp only [Mem.of] at q
    cases e : decide ((97 : Int) ≤ G k) with
    | true => rw [e] at q; exact cc.step H H (c.toDoX.afB e (Du hs)) q
    | false => rw [e] at q; exact cc.step H H (c.toDoX.afC e (Du hs)) q
  | one g a ih =>
    intro h l s hs q
    dsimp only [Ex.NS]
    rw [Ag]
    refine ih h.2 (Du hs) ?_
    rw [← Va.lJ (Mem.Ok.ev ok (Ex.one g a) h)] at q
    rcases AQ.mp h.1 with rfl | h1
    · exact cc.step H H (c.toDoX.one (Al (AD ..) hs)) q
    · obtain rfl := AV.mp h1
      exact cc.step H H (c.toDoX.inv (Al (AD ..) hs)) (by rw [show HC (a.ev m).num = -1 - (a.ev m).num from (M1 ..).trans ((L0 ..).trans (M1 ..).symm)]; exact q)
  | two g a b iha ihb =>
    intro h l s hs q
    dsimp only [Ex.NS]
    rw [Ag, Ag]
    change s.length + (a.sz + b.sz + 1) < Nh at hs
    refine iha h.2.1 (by exact ax hs aS) (ihb h.2.2 (by rw [Ad]; have := a.aeo; show s.length + 1 + b.sz < Nh; exact ax hs aS) ?_)
    exact cc.step H H (c.toDoX.two h.1 (Al (Mem.Ok.ev ok b h.2.2).abs ae) (Al (AD ..) hs)) q
end
inductive S0 where
 |text (t:M6)
 |Ws (e:Ex) (w:Wri)
 |sgn (e:Ex)
 |set (c:Nat) (e:Ex)
 |more
abbrev texts:=[[27,91],[59],[44],[94],[92],[32],[58],[37],[97,98],[233],[7],[36,60,53,47,62],[36,60,49,46,53,42,62],[55],[61,124]]
abbrev ttx(t:M6):M6:=match t==[37]with
 |true=>[37,37]
 |false=>t
abbrev sel(c:Bool)(a b:M6):=match c with
 |true=>a
 |false=>b
def XJ(x:Wri):=[37]++sel ([45]==x.fl|| ([43]==x.fl||Am)) [58] []++x.fl++sel (decide ((0:Int)<G x.w)) (QX Am 10 x.w) []++(match x.p with|none=>[]|some k=>[46]++QX Am 10 k)++[x.c]
def S0.Ok:S0->Prop
 |.text t=>t∈texts
 |.Ws e w=>e.Ok/\w∈Sq
 |.sgn e=>e.Ok
 |.set c e=>c∈SJ/\e.Ok
 |.more=>True
abbrev S0.txt:S0->M6
 |.text t=>ttx t
 |.Ws e w=>e.txt++XJ w
 |.sgn e=>e.txt++[37,99]
 |.set c e=>e.txt++[37,80]++[c]
 |.more=>[37,105]
abbrev Y0(x:Wri):=Zx Uy [Zy x.c,W x.fl,Zy x.w,Q8 x.p]
def S0.NS:S0->LV
 |.text _=>[]
 |.Ws e w=>e.NS++[Y0 w]
 |.sgn e=>e.NS++[Zx Xe []]
 |.set c e=>e.NS++[Zx Wj [Zy c]]
 |.more=>[Zx V1 []]
abbrev code:List S0->M6->LV
 | [],t=>flush [] t
 |.text u::r,t=>code r (t++u)
 |s::r,t=>flush [] t++(s.NS++code r [])
def Pb(l:List S0):=(l.map S0.txt).flatten
def dk:flush R t=R++flush [] t:=by cases t with|nil=>exact(Ax R).symm|cons=>rfl
def abK(l:M6):∀x∈Sq,Item ((XJ x).drop 1++l) (Y0 x) l:=by have N:=λ(k:Nat) (w:M6) (z:V) (R:Ua k=[Am,Am,Am,Am,Am,Am,Am,Am,Am]) (h:Wtr (k::w) z l)=>Item.wr R h;refine Ae.mpr ⟨N 100 l _ H (.mk H H H H H),Ae.mpr ⟨N 52 (100::l) _ H (.mk H H H H H),?_⟩⟩;refine Ae.mpr ⟨N 48 (53::100::l) _ H (.mk H H H H H),Ae.mpr ⟨N 58 (43::100::l) _ H (.mk H H H H H),?_⟩⟩;refine Ae.mpr ⟨N 32 (100::l) _ H (.mk H H H H H),Ae.mpr ⟨N 58 (45::52::100::l) _ H (.mk H H H H H),?_⟩⟩;refine Ae.mpr ⟨N 54 (46::51::100::l) _ H (.mk H H H H H),Ae.mpr ⟨N 35 (120::l) _ H (.mk H H H H H),?_⟩⟩;refine Ae.mpr ⟨N 88 l _ H (.mk H H H H H),Ae.mpr ⟨N 35 (111::l) _ H (.mk H H H H H),?_⟩⟩;refine Ae.mpr ⟨N 48 (57::120::l) _ H (.mk H H H H H),Ae.mpr ⟨N 115 l _ H (.mk H H H H H),?_⟩⟩;exact Ae.mpr ⟨N 53 (115::l) _ H (.mk H H H H H),Ae.mpr ⟨N 58 (45::53::46::50::115::l) _ H (.mk H H H H H),λZ h=>M9 h Ay⟩⟩
def aep:∀x∈Sq,XJ x=37::(XJ x).drop 1/\0<((XJ x).drop 1).length:=by decide+kernel
def qT:∀t∈texts,t=[37]\/(ttx t=t/\∀c∈t,decide (G c≠37)=J):=by decide+kernel
section
variable{c:dP}{f:Option (Option Nat×M6)}{l:M6}
def uo:∀u {R} {t},(∀x∈u,decide (G x≠37)=J)->c.W l R (t++u) f->c.W (u++l) R t f:=λu=>by
 induction u with
 |nil=>exactλ{R t} _ q=>(Ax t)▸q
 |cons x u N=>exactλ{R t} h q=>dP.chr (h x (As ..)) (N (λy m=>h y (Au _ m)) (by rw[Ag];exact q))
def S0.QY:S0->Bool
 |.text _=>J
 |_=>Am
def m9{s:S0}(h:s.QY=Am)(r:List S0)(t:M6):code (s::r) t=flush [] t++(s.NS++code r []):=by cases s<;>first|rfl|exact A9 h
def adu{s:S0}(h:s.QY=Am)(ok:s.Ok)(q:c.W l (flush R t++s.NS) [] f):c.W (s.txt++l) R t f:=by
 cases s with
 |text u=>exact A9 h
 |Ws e w=>delta S0.txt;rw[Ag];refine um e ok.1 ?_;obtain⟨I,N⟩:=aep w ok.2;rw[I];refine dP.it (abK l w ok.2) (ze N) ?_;show c.W l (flush R t++e.NS++[_]) [] f;rw[Ag];exact q
 |sgn e=>
  delta S0.txt;rw[Ag];refine um e ok<|dP.it .chr (Bu _) ?_
  show c.W l (flush R t++e.NS++[_]) [] f;rw[Ag];exact q
 |set k e=>
  delta S0.txt;rw[Ag,Ag];refine um e ok.2<|dP.it (.set (zg k ok.1)) (C4 (Bu _)) ?_
  show c.W l (flush R t++e.NS++[_]) [] f;rw[Ag];exact q
 |more=>exact dP.it .more (Bu _) q
set_option tactic.hygienic true in
def uq:∀ss {R} {t},(∀s∈ss,s.Ok)->(∀N t',flush N t'=R++code ss t->c.W l N t' f)->c.W (Pb ss++l) R t f:=λss=>by
 induction ss with
 |nil=>exactλ{R t} _ q=>q R t dk
 |cons s r I=>
  intro R t C q;obtain⟨X,A⟩:=Ae.mp C;rw[show Pb (s::r)=s.txt++Pb r from H,Ag]
  cases h:s.QY with
  |true=>
   cases s<;>first|exact A9 h|skip
   rename_i u
   rcases qT u X with rfl|⟨e,y⟩
   exact dP.pc<|I A q
   rw[show(S0.text u).txt=u from e];exact uo u y (I A q)
  |false=>
   refine adu h X<|I A λN t' e=>q N t'<|e.trans ?_
   rw[m9 h,dk,Ag,Ag]
abbrev Mem.put(x:Mem)(c:Nat)(v:Va):Mem:=match decide ((97:Int)<=G c)with
 |true=>⟨x.p,T1 c v x.o,x.k⟩
 |false=>⟨x.p,x.o,T1 c v x.k⟩
def Yw:List Va->List Va
 |a::b::r=>a.inc::b.inc::r
 |p=>p
end
abbrev S0.run(m:Mem):S0->Mem×M6
 |.text t=>(m,t)
 |.Ws e w=>(m,w.out (e.ev m))
 |.sgn e=>(m,[chO (e.ev m)])
 |.set c e=>(m.put c (e.ev m),[])
 |.more=>(⟨Yw m.p,m.o,m.k⟩,[])
abbrev runs:List S0->Mem->Mem×M6
 | [],m=>(m,[])
 |s::r,m=>((runs r (s.run m).1).1,(s.run m).2++(runs r (s.run m).1).2)
abbrev Mem.sz(x:Mem):=x.o.length+x.k.length
def qU:∀{d},(T1 c v d).length<=d.length+1:=λ{d}=>by
 induction d with
 |nil=>exact AH _
 |cons e d N=>
  show(if(c==e.1)=J then(e.1,v)::d else e::T1 c v d).length<=_
  cases c==e.1
  exact AX N;exact B4 _
def oB{h b N:M6}:(pad h b N w hp).length<=h.length+b.length+w:=by
 have:∀{c},(T9 c w h b).length<=w:=iT;delta pad
 cases N.contains 45<;>cases N.contains 48<;>cases hp<;>simp only[Ad]<;>first|exact AU this _| (have:=this (c:=32);have:=iT (c:=48) (w:=w) (h:=h) (b:=b);grind)
def abL{b:M6}(h:∀k,p=U k->k<=100):(Xo p b).length<=b.length+100:=by
 cases p with
 |none=>exact AD ..
 |some k=>delta Xo;rw[Ad,Cs,Bk];exact AU (E4.mpr (Bv (Ef _ (AW _)) (Bq.mpr (h k H)))) _
def abM{x:Wri}{v:Va}(h:WOk x)(I:v.Rr):(x.out v).length<=1000:=by
 have R:=h.w;delta Wri.out
 cases decide (G x.c=G 115)with
 |true=>exact Aa oB (Aa (Ao (Ao (Aq 0) (Aa oq I.oct)) R) ae)
 |false=>
  cases decide (G x.c=G 100)with
  |true=>have N:=cX Am 10 v.num.natAbs ae (Al I.abs ae);exact Aa oB<|Aa (Ao (Ao zc (Aa (abL λk e=>(h.p k e).2) (A7 N 100))) R) ae
  |false=>
   have N:=cX x.g x.bs (QC v.num) (by delta Wri.bs;cases decide (G x.c=G 111)<;>decide:2<=x.bs) (BG (ot _) ae)
   have A:(QB x.c x.fl (QX x.g x.bs (QC v.num)) (Vq x.c x.fl (QC v.num))).length<=2:=by
    delta QB Vq
    cases decide (G x.c=G 111)<;>cases x.fl.contains 35<;>cases(Jx 1 (QX x.g x.bs (QC v.num)) !=[48])<;>cases decide ((0:Int)<G (QC v.num))<;>cases decide (G x.c≠G 111)<;>exact Ac H
   exact Aa oB<|Aa (Ao (Ao A N) R) ae
def Va.ur{v:Va}:v.inc.oct=v.oct:=by cases v<;>rfl
def uw{p:List Va}(h:∀v∈p,v.oct.length<=100):(Yw p).length=p.length/\∀v∈Yw p,v.oct.length<=100:=by
 cases p with
 |nil=>exact⟨H,h⟩
 |cons a p=>
  cases p with
  |nil=>exact⟨H,h⟩
  |cons b r=>obtain⟨R,h⟩:=Ae.mp h;obtain⟨N,h⟩:=Ae.mp h;exact⟨H,Ae.mpr ⟨(by rw[Va.ur];exact R),Ae.mpr ⟨(by rw[Va.ur];exact N),h⟩⟩⟩
def Mem.Ok.put{m:Mem}(ok:m.Ok){v:Va}(N:v.Rr):(m.put c v).Ok/\(m.put c v).sz<=m.sz+1:=by
 delta Mem.put
 cases decide ((97:Int)<=G c)
 exact⟨⟨ok.p,ok.b,ok.o,qS N ok.k⟩,AU qU _⟩;exact⟨⟨ok.p,ok.b,qS N ok.o,ok.k⟩,Aa (A7 qU _) (Ap (BW ..))⟩
def S0.ei{m:Mem}(ok:m.Ok){s:S0}(h:s.Ok):(s.run m).1.Ok/\(s.run m).1.sz<=m.sz+1/\(s.run m).2.length<=1000:=by
 cases s with
 |text t=>exact⟨ok,B4 _,(by decide:∀t∈texts,t.length<=1000) t h⟩
 |Ws e w=>exact⟨ok,B4 _,abM (ou h.2) (ok.ev e h.1)⟩
 |sgn e=>exact⟨ok,B4 _,Ac H⟩
 |set c e=>exact⟨(ok.put (ok.ev e h.2)).1,(ok.put (ok.ev e h.2)).2,Aq _⟩
 |more=>exact⟨⟨(uw ok.b).1.trans ok.p,(uw ok.b).2,ok.o,ok.k⟩,B4 _,Aq _⟩
def oC:∀ss {m},m.Ok->(∀s∈ss,s.Ok)->(runs ss m).1.Ok/\(runs ss m).1.sz<=m.sz+ss.length/\(runs ss m).2.length<=1000*ss.length:=λss=>by
 induction ss with
 |nil=>exactλ{m} N _=>⟨N,AH _,AH _⟩
 |cons s r C=>intro m N h;obtain⟨X,x⟩:=Ae.mp h;obtain⟨A,I,q⟩:=s.ei N X;obtain⟨R,b2,y⟩:=C A x;refine⟨R,Aa b2 (Aa (A7 I _) (Ap ((Bf ..).trans (M7 (_+·) (Bk 1 _))))),?_⟩;show((s.run m).2++(runs r (s.run m).1).2).length<=1000*(r.length+1);rw[Ad,FV,Bk];exact Ao y q
section
variable{c:cc}{l:LV}{m:Mem}{f:M6}
def iU{x:Xp}{t:M6}(hf:f.length+t.length<=Nh)(q:c.W (m.st [] (f++t)) l):c.W (m.st [] f) (flush [] t++l):=by
 cases t with
 |nil=>exact(Ax f)▸q
 |cons x t=>exact cc.step H H (c.toDoX.text hf) q
def Ex.jz(e:Ex)(h:e.sz<=9):([]:LV).length+e.sz<Nh:=by rw[B5,A1];exact Al h ae
def S0.Sm:S0->Prop
 |.Ws e _=>e.sz<=9
 |.sgn e=>e.sz<=9
 |.set _ e=>e.sz<=9
 |_=>True
def adv(ok:m.Ok){s:S0}(h:s.Ok)(R:s.Sm)(A:s.QY=Am)(hz:m.sz<Nh)(hf:f.length+1000<=Nh)(q:c.W ((s.run m).1.st [] (f++(s.run m).2)) l):c.W (m.st [] f) (s.NS++l):=by
 have X:=(s.ei ok h).2.2
 cases s with
 |text u=>exact A9 A
 |Ws e w=>delta S0.NS;rw[Ag];exact jy ok e h.1 (e.jz R)<|cc.step H H (c.toDoX.write h.2 (ok.ev e h.1) (Aa (AU X _) hf)) q
 |sgn e=>delta S0.NS;rw[Ag];exact jy ok e h (e.jz R)<|cc.step H H (c.toDoX.char (AP (Bz ae) hf)) q
 |set k e=>
  delta S0.NS;rw[Ag];refine jy ok e h.2 (e.jz R) ?_;rw[show f++(S0.run m (S0.set k e)).2=f from Ax f]at q
  change c.W ((m.put k (e.ev m)).st [] f) l at q
  delta Mem.put at q
  cases N:decide ((97:Int)<=G k)with
  |true=>rw[N]at q;exact cc.step H H (c.toDoX.afz N (Al (AD ..) hz)) q
  |false=>rw[N]at q;exact cc.step H H (c.toDoX.afA N (Al (Bl ..) hz)) q
 |more=>
  rw[show f++(S0.run m S0.more).2=f from Ax f]at q;obtain⟨p,o,k⟩:=m;have I:p.length=9:=ok.p
  cases p with
  |nil=>exact nomatch I
  |cons a p=>
   cases p with
   |nil=>exact nomatch I
   |cons b r=>exact cc.step H H c.toDoX.more q
set_option tactic.hygienic true in
def abN:∀ss {m} {f t},m.Ok->(∀s∈ss,s.Ok/\s.Sm)->m.sz+ss.length<Nh->f.length+t.length+1000*ss.length<=Nh->c.W ((runs ss m).1.st [] (f++t++(runs ss m).2)) l->c.W (m.st [] f) (code ss t++l):=λss=>by
 induction ss with
 |nil=>exactλ{m f t} I _ _ A q=>iU (x:=m.st [] f) A (by rw[show(runs [] m).2=[]from H,Ax]at q;exact q)
 |cons s r ih=>
  intro m f t I h y A q;obtain⟨⟨C,h3⟩,h2⟩:=Ae.mp h;have N:f.length+t.length+(1000*r.length+1000)<=Nh:=A;obtain⟨a1,a2,X⟩:=s.ei I C;have R:(s.run m).1.sz+r.length<Nh:=Al (A7 a2 _) (by rw[Bf,Bk 1];exact y)
  cases e:s.QY with
  |true=>
   cases s<;>first|exact A9 e|skip
   rename_i u
   refine ih (t:=t++u) I h2 R ?_ (by rw[<-Ag,Ag];exact q);have X:u.length<=1000:=X;rw[Ad];exact ax (Ao N X) aS
  |false=>
   rw[m9 e,Ag,Ag];refine iU (x:=m.st [] f) (Aa (AD ..) A)<|adv I C h3 e (Al (AD ..) y) (by rw[Ad];exact ax N aS)<|ih (t:=[]) a1 h2 R ?_ ?_
   simp only[Ad,B5];exact ax (Ao N X) aS;rw[Ax,Ag];exact q
end
inductive Ch where
 |last (e:Ex) (B:List S0)
 |j5 (e:Ex) (B b:List S0)
 |more (e:Ex) (B:List S0) (r:Ch)
open Ch renaming more->Me
def Uz(B:List S0):=∀s∈B,s.Ok/\s.Sm
def Ch.Ok:Ch->Prop
 |.last e B=>e.Ok/\e.sz<=9/\Uz B
 |.j5 e B b=>e.Ok/\e.sz<=9/\Uz B/\Uz b
 |.more e B r=>e.Ok/\e.sz<=9/\Uz B/\r.Ok
abbrev Ch.nn:Ch->Nat
 |.more _ _ r=>r.nn+1
 |_=>1
abbrev Ch.txt:Ch->M6
 |.last e B=>e.txt++(37::116::Pb B)
 |.j5 e B b=>e.txt++(37::116::(Pb B++(37::101::Pb b)))
 |.more e B r=>e.txt++(37::116::(Pb B++(37::101::r.txt)))
@[reducible]nonrec def rH(k:Nat):=Zx TF [Zy k]
@[reducible]nonrec def jmp(k:Nat):=Zx QW [Zy k]
def Ch.NS(E:Nat):Ch->Nat->LV
 |.last e B,N=>e.NS++(rH (N+(e.NS.length+((code B []).length+1)))::code B [])
 |.j5 e B b,N=>e.NS++(rH (N+(e.NS.length+((code B []).length+1+1)))::(code B []++(jmp E::code b [])))
 |.more e B r,N=>e.NS++(rH (N+(e.NS.length+((code B []).length+1+1)))::(code B []++(jmp E::r.NS E (N+(e.NS.length+((code B []).length+1+1))))))
def Ch.T2:Ch->Nat
 |.last e B=>e.NS.length+((code B []).length+1)
 |.j5 e B b=>e.NS.length+((code B []).length+1+1)+(code b []).length
 |.more e B r=>e.NS.length+((code B []).length+1+1)+r.T2
def Ch.ux{E:Nat}:∀(R:Ch) {N:Nat},(R.NS E N).length=R.T2:=λR=>by
 induction R with
 |last e B=>exactλ{N}=>Ad ..
 |j5 e B b=>
  intro N;refine(Ad ..).trans ((M7 (e.NS.length+·) (M7 (· +1) (Ad ..))).trans ?_);show e.NS.length+((code B []).length+((code b []).length+1)+1)=e.NS.length+((code B []).length+1+1)+(code b []).length
  lia
 |more e B r I=>intro N;refine(Ad ..).trans ((M7 (e.NS.length+·) (M7 (· +1) (Ad ..))).trans ?_);show e.NS.length+((code B []).length+((r.NS E _).length+1)+1)=e.NS.length+((code B []).length+1+1)+r.T2;rw[I];lia
def iV{E:Nat}{S:LV}:∀N {R},(∀j∈N,j<R.length)->Sp E N (R++S)=Sp E N R++S:=λN=>by
 induction N with
 |nil=>exactλZ=>H
 |cons j N I=>intro R h;obtain⟨X,A⟩:=Ae.mp h;show Sp E N ((R++S).set j _)=_;rw[List.set_append_left _ _ X];exact I λk m=>by rw[DS];exact A k m
def wA{E j:Nat}:∀N {R},Sp E (N++[j]) R=(Sp E N R).set j (jmp E):=λN=>by
 induction N with
 |nil=>exact H
 |cons k N I=>exact I
def oD{N:Type}{A C:List N}{x y:N}:(A++x::C).set A.length y=A++y::C:=by rw[List.set_append_right _ _ (AH _),FU];rfl
structure Jm (js:M6) (A:Nat->LV):Prop where
 j:∀E,Sp E js (A 0)=A E
 lt:∀j∈js,j<(A 0).length
 len:∀E,(A E).length=(A 0).length
def Jm.app{A:Nat->LV}(h:Jm N A)(S:LV):Jm N (λE=>A E++S):=⟨λE=>(iV N h.lt).trans (M7 (· ++S) (h.j E)),λj m=>by rw[Ad];exact AP (h.lt j m) (AD ..),λE=>by rw[Ad,Ad,h.len]⟩
def Jm.jmp{A:Nat->LV}(h:Jm N A):Jm (N++[(A 0).length]) (λE=>A E++[Tp.jmp E]):=by
 refine⟨λE=>?_,λj m=>?_,λE=>by rw[Ad,Ad,h.len];rfl⟩;rw[wA,iV N h.lt,h.j,<-h.len E,oD];rw[Ad];rcases BC.mp m with m|m
 exact C4<|h.lt j m
 rw[AV.mp m];exact Bu _
section
variable{c:dP}{l:M6}
def Uz.ok{B:List S0}(h:Uz B):∀s∈B,s.Ok:=λs m=>(h s m).1
def uy{e:Ex}{B:List S0}{A:LV}{N:M6}(I:e.Ok)(X:Uz B)(q:∀R t,flush R t=A++e.NS++Zz::code B []->c.W l R t (U (U (A++e.NS).length,N))):c.W (e.txt++(37::116::(Pb B++l))) A [] (U (Y,N)):=
 um e I (dP.th (uq B X.ok λR t h=>q R t (h.trans (Ag ..))))
abbrev VK(N:Nat)(e:Ex)(B:List S0):=N+(e.NS.length+((code B []).length+1+1))
abbrev VL(A:Nat->LV)(e:Ex)(B:List S0)(E:Nat):=A E++(e.NS++rH (VK (A 0).length e B)::code B [])++[jmp E]
def zj{e:Ex}{B:List S0}{A:Nat->LV}{I:M6}(he:e.Ok)(hB:Uz B)(h:Jm I A)(y:I.length<100)(q:∀N,N.length=I.length+1->Jm N (VL A e B)->c.W l (VL A e B 0) [] (U (Y,N))):c.W (e.txt++(37::116::(Pb B++(37::101::l)))) (A 0) [] (U (Y,I)):=by
 refine uy he hB λR t X=>?_
 have C:(flush R t++[ZA]).length=VK (A 0).length e B:=by rw[X,Ad,Ad,Ad,Bn,Bf (A 0).length,Bf (A 0).length,Bf e.NS.length];rfl
 refine dP.el ?_ y ?_;rw[X,Ag _ _ [ZA],Ad (as:=A 0++e.NS)];exact Bz (DJ _);rw[C,X,Ag _ _ [ZA],Em,oD];have:=q (I++[(A 0++(e.NS++rH (VK (A 0).length e B)::code B [])).length]) (Ad ..) (h.app _).jmp
 have x:A 0++e.NS++rH (VK (A 0).length e B)::(code B []++[ZA])=VL A e B 0:=by rw[<-Em,<-Ag,Ag (A 0)];rfl
 have e4:(A 0++e.NS++Zz::code B []).length=(A 0++(e.NS++rH (VK (A 0).length e B)::code B [])).length:=by rw[<-Ag,Ad,Ad (bs:=rH _::_)];rfl
 rw[x,e4];exact this
def qV{A:Nat->LV}{B:List S0}:(VL A e B 0).length=VK (A 0).length e B:=by rw[Ad,Ad,Ad,Bn,Bf (A 0).length,Bf e.NS.length];rfl
def afF : ∀ (ch : Ch), ch.Ok → ∀ {A} {js : M6}, Jm js A → js.length + ch.nn ≤ 50 → c.W l (A ((A 0).length + ch.T2) ++ ch.NS ((A 0).length + ch.T2) (A 0).length) [] Y → c.W (ch.txt ++ 37 :: 59 :: l) (A 0) [] (U (Y, js)) := fun ch => by
  have L : ∀ {A C D} {x : V}, (A ++ C ++ x :: D).length = A.length + (C.length + (D.length + 1)) := fun {A C D x} => by rw [Ad, Ad, Bn, Bf]
  have K : ∀ {A C D} {x : V}, (A ++ C).length < (A ++ C ++ x :: D).length := fun {A C D x} => by rw [Ad (as := A ++ C)]; exact Bz (DJ _)
  induction ch with
  | last e B =>
    intro ok A js h hn q
    delta Ch.txt
    rw [Ag]
    refine uy ok.1 ok.2.2 fun R t e1 => (dP.fi (fun k ek => ?_) (fun k m => ?_) ?_)
    · obtain rfl := Af ek; rw [e1]; exact K
    · rw [e1, L]; exact AP (h.lt k m) (AD ..)
    · rw [e1, L]
      show c.W l (Sp _ js ((A 0 ++ e.NS ++ Zz :: code B []).set (A 0 ++ e.NS).length _)) [] Y
      rw [oD, Ag, iV js h.lt, h.j]
      exact q
  | j5 e B b =>
    intro ok A js h hn q
    delta Ch.txt
    rw [Ag]
    show c.W (e.txt ++ (37 :: 116 :: (Pb B ++ (37 :: 101 :: Pb b) ++ 37 :: 59 :: l))) _ _ _
    rw [Ag]
    refine zj ok.1 ok.2.2.1 h (Al (Aa (AD ..) hn) ae) fun js' Z h' => uq b ok.2.2.2.ok fun R t e1 => (dP.fi (fun k ek => aa ek) (fun k m => ?_) ?_)
    · rw [e1, Ad]; exact AP (h'.lt k m) (AD ..)
    · rw [(by rw [e1, Ad, qV, Bf]; rfl : (flush R t).length = (A 0).length + (Ch.j5 e B b).T2), e1]
      show c.W l (Sp _ js' (VL A e B 0 ++ code b [])) [] Y
      rw [iV js' h'.lt, h'.j]
      delta VL
      rw [Ag, Ag, Ag]
      exact q
  | more e B r ih =>
    intro ok A js h hn q
    show c.W ((e.txt ++ (37 :: 116 :: (Pb B ++ (37 :: 101 :: r.txt)))) ++ _) _ _ _
    rw [Ag]
    show c.W (e.txt ++ (37 :: 116 :: (Pb B ++ (37 :: 101 :: r.txt) ++ 37 :: 59 :: l))) _ _ _
    rw [Ag]
    refine zj ok.1 ok.2.2.1 h (Al (Aa (AD ..) hn) ae) fun js' e0 h' => ih ok.2.2.2 h' (by rw [e0, Bf, Bk 1]; exact hn) ?_
    rw [qV, show VK (A 0).length e B + r.T2 = (A 0).length + (Me e B r).T2 from Bf ..]
    delta VL
    rw [Ag, Ag, Ag]
    exact q
abbrev Ch.run(m:Mem):Ch->Mem×M6
 |.last e B=>(match decide ((e.ev m).num=0)with|true=>(m,[])|false=>runs B m)
 |.j5 e B b=>(match decide ((e.ev m).num=0)with|true=>runs b m|false=>runs B m)
 |.more e B r=>(match decide ((e.ev m).num=0)with|true=>r.run m|false=>runs B m)
abbrev Ch.sz:Ch->Nat
 |.last _ B=>B.length
 |.j5 _ B b=>B.length+b.length
 |.more _ B r=>B.length+r.sz
def Ch.ei : ∀ (ch : Ch) {m : Mem}, m.Ok → ch.Ok → (ch.run m).1.Ok ∧ (ch.run m).1.sz ≤ m.sz + ch.sz ∧ (ch.run m).2.length ≤ 1000 * ch.sz := fun ch => by
  have up : ∀ {m} {B : List S0} {k : Nat}, m.Ok → Uz B → B.length ≤ k → (runs B m).1.Ok ∧ (runs B m).1.sz ≤ m.sz + k ∧ (runs B m).2.length ≤ 1000 * k := fun {m B k} ok h hk =>
    ⟨(oC B ok h.ok).1, Aa (oC B ok h.ok).2.1 (AU hk _), Aa (oC B ok h.ok).2.2 (A2 _ hk)⟩
  induction ch with
  | last e B =>
    intro m ok h
    dsimp only [Ch.run]
    cases decide ((e.ev m).num = 0)
    · exact up ok h.2.2 (AH _)
    · exact ⟨ok, AD .., Aq _⟩
  | j5 e B b =>
    intro m ok h
    dsimp only [Ch.run]
    cases decide ((e.ev m).num = 0)
    · exact up ok h.2.2.1 (AD ..)
    · exact up ok h.2.2.2 (Bl ..)
  | more e B r ih =>
    intro m ok h
    dsimp only [Ch.run]
    cases decide ((e.ev m).num = 0)
    · exact up ok h.2.2.1 (AD ..)
    · have := ih ok h.2.2.2
      exact ⟨this.1, Aa this.2.1 (AU (Bl ..) _), Aa this.2.2 (A2 _ (Bl ..))⟩
variable{c:cc}{l:LV}{E:Nat}
def oE{B:List S0}{m:Mem}{f:M6}(ok:m.Ok)(h:Uz B)(N:B.length<=k)(hz:m.sz+k<Nh)(hf:f.length+1000*k<=Nh)(q:c.W ((runs B m).1.st [] (f++(runs B m).2)) l):c.W (m.st [] f) (code B []++l):=
 abN B ok h (Al (AU N _) hz) (Aa (AU (A2 _ N) _) hf) ((Ax f).symm▸q)
def lK{A C:LV}{x:LV}(h:x.drop N=A++C)(e:A.length=k):x.drop (N+k)=C:=by rw[bg h,<-e,FP]
def afG(hE:c.rows.drop E=l):∀(C:Ch) {m:Mem} {f:M6} {N:Nat},m.Ok->C.Ok->m.sz+C.sz<Nh->f.length+1000*C.sz<=Nh->c.rows.drop N=C.NS E N++l->c.W ((C.run m).1.st [] (f++(C.run m).2)) l->c.W (m.st [] f) (C.NS E N++l):=λC=>by
 induction C with
 |last e B=>
  intro m f N I h X A hN q;have x:=lK hN (k:=e.NS.length+((code B []).length+1)) (Ad ..);delta Ch.NS;rw[Ag];refine jy I e h.1 (e.jz h.2.1)<|cc.rH (λR=>?_) λR=>?_
  rw[x];dsimp only[Ch.run]at q;rw[R]at q;exact(Ax f)▸q;dsimp only[Ch.run]at q;rw[R]at q;exact oE I h.2.2 (AH _) X A q
 |j5 e B b=>
  intro m f N I h X A hN q
  have y:c.rows.drop N=(e.NS++rH (N+(e.NS.length+((code B []).length+1+1)))::(code B []++[jmp E]))++(code b []++l):=by rw[hN];rw[Ag,Ag,Em,Em,Ag,Ag];rfl
  have x:=lK y (k:=e.NS.length+((code B []).length+1+1)) (by rw[Ad,Bn,Ad];rfl);delta Ch.NS;rw[Ag];refine jy I e h.1 (e.jz h.2.1)<|cc.rH (λR=>?_) λR=>?_
  rw[x];dsimp only[Ch.run]at q;rw[R]at q;exact oE I h.2.2.2 (Bl ..) X A q;dsimp only[Ch.run]at q;rw[R]at q;rw[show(List.append (code B []++jmp E::code b []) l)=code B []++(jmp E::(code b []++l))from Ag ..];exact oE I h.2.2.1 (AD ..) X A<|cc.afE<|hE▸q
 |more e B r ih=>
  intro m f N I h X A hN q
  have y:c.rows.drop N=(e.NS++rH (N+(e.NS.length+((code B []).length+1+1)))::(code B []++[jmp E]))++(r.NS E (N+(e.NS.length+((code B []).length+1+1)))++l):=by rw[hN,show Ch.NS E (Me e B r) N=e.NS++(rH (N+(e.NS.length+((code B []).length+1+1)))::(code B []++(jmp E::r.NS E (N+(e.NS.length+((code B []).length+1+1))))))from H,Ag,Ag,Em,Em,Ag,Ag];rfl
  have x:=lK y (k:=e.NS.length+((code B []).length+1+1)) (by rw[Ad,Bn,Ad];rfl);rw[show Ch.NS E (Me e B r) N=e.NS++(rH (N+(e.NS.length+((code B []).length+1+1)))::(code B []++(jmp E::r.NS E (N+(e.NS.length+((code B []).length+1+1))))))from H,Ag];have X:=X;have A:=A;refine jy I e h.1 (e.jz h.2.1)<|cc.rH (λR=>?_) λR=>?_
  rw[x];dsimp only[Ch.run]at q;rw[R]at q;exact ih I h.2.2.2 (Al (AU (Bl ..) _) X) (Aa (AU (A2 _ (Bl ..)) _) A) x q;dsimp only[Ch.run]at q;rw[R]at q;rw[show(List.append (code B []++jmp E::r.NS E (N+(e.NS.length+((code B []).length+1+1)))) l)=code B []++(jmp E::(r.NS E (N+(e.NS.length+((code B []).length+1+1)))++l))from Ag ..];exact oE I h.2.2.1 (AD ..) X A<|cc.afE<|hE▸q
end
inductive S1 where
 |s (x:S0)
 |j4 (ch:Ch)
open S1 renaming j4->Lb
def S1.Ok:S1->Prop
 |.s x=>x.Ok/\x.Sm
 |.j4 ch=>ch.Ok/\ch.nn<=50
abbrev S1.txt:S1->M6
 |.s x=>x.txt
 |.j4 ch=>37::63::(ch.txt++[37,59])
abbrev S1.sz:S1->Nat
 |.s _=>1
 |.j4 ch=>ch.sz
abbrev S1.run(m:Mem):S1->Mem×M6
 |.s x=>x.run m
 |.j4 ch=>ch.run m
def Qw:List S1->M6->Nat->LV
 | [],t,_=>flush [] t
 |.s (.text u)::r,t,N=>Qw r (t++u) N
 |.s x::r,t,N=>flush [] t++(x.NS++Qw r [] (N+(flush [] t).length+x.NS.length))
 |.j4 ch::r,t,N=>flush [] t++(ch.NS (N+(flush [] t).length+ch.T2) (N+(flush [] t).length)++Qw r [] (N+(flush [] t).length+ch.T2))
def N7(l:List S1):=(l.map S1.txt).flatten
def OB:List S1->Mem->Mem×M6
 | [],m=>(m,[])
 |s::r,m=>((OB r (s.run m).1).1,(s.run m).2++(OB r (s.run m).1).2)
def PK:List S1->Nat
 | []=>0
 |s::r=>s.sz+PK r
def UJ(l:List S1):=∀s∈l,s.Ok
def lL{x:S0}(h:x.QY=Am)(r:List S1)(t:M6)(N:Nat):Qw (.s x::r) t N=flush [] t++(x.NS++Qw r [] (N+(flush [] t).length+x.NS.length)):=by cases x<;>first|rfl|exact A9 h
section
variable{c:dP}{l:M6}
set_option tactic.hygienic true in
def agP:∀ss {R} {t},UJ ss->(∀N t',flush N t'=R++Qw ss t R.length->c.W l N t' Y)->c.W (N7 ss++l) R t Y:=λss=>by
 induction ss with
 |nil=>exactλ{R t} _ q=>q R t dk
 |cons s r X=>
  intro R t ok q;obtain⟨I,C⟩:=Ae.mp ok;rw[show N7 (s::r)=s.txt++N7 r from H,Ag]
  cases s with
  |s x=>
   cases h:x.QY with
   |true=>
    cases x<;>first|exact A9 h|skip
    rename_i u
    rcases qT u I.1 with rfl|⟨e,hc⟩
    exact dP.pc<|X C q
    rw[show(S1.s (S0.text u)).txt=u from e];exact uo u hc (X C q)
   |false=>
    refine adu h I.1<|X C λN t' e=>q N t'<|e.trans ?_
    rw[lL h,dk (R:=R),Ag,Ag,Ad,Ad,Bf]
  |j4 y=>
   delta S1.txt;show c.W (37::63::((y.txt++[37,59])++(N7 r++l))) R t Y;rw[Ag];refine dP.qu<|afF y I.1 (A:=λZ=>flush R t) ⟨λZ=>H,λZ m=>M9 m Ay,λZ=>H⟩ (Aa (Ap (A1 _)) I.2)<|X C λN t' e=>q N t'<|e.trans ?_
   rw[Ad,Ch.ux,((M7 CH dk).trans (Ad ..):(flush R t).length=R.length+(flush [] t).length)];show flush R t++y.NS _ _++_=R++(flush [] t++(y.NS _ _++Qw r [] _));rw[dk,Ag,Ag]
variable{c:cc}
def agQ:∀ss {m} {f t} {N},m.Ok->UJ ss->m.sz+PK ss<Nh->f.length+t.length+1000*PK ss<=Nh->c.rows.drop N=Qw ss t N->c.W ((OB ss m).1.st [] (f++t++(OB ss m).2)) []->c.W (m.st [] f) (Qw ss t N):=λss=>by
 induction ss with
 |nil=>
  intro m f t N X _ _ R _ q;rw[show(OB [] m).2=[]from H,Ax]at q;have:=iU (x:=m.st [] f) (c:=c) (l:=[]) R q
  rwa [Ax]at this
 |cons s r ih=>
  intro m f t N X h I R hN q;obtain⟨h1,h2⟩:=Ae.mp h;have I:=I;have R:=R;have hf0:=Aa (AD ..) R
  cases s with
  |s x=>
   have I:m.sz+(1+PK r)<Nh:=I;have R:f.length+t.length+1000*(1+PK r)<=Nh:=R;obtain⟨a1,a2,C⟩:=x.ei X h1.1;have y:(x.run m).1.sz+PK r<Nh:=Al (A7 a2 _) (by rw[Bf];exact I)
   cases e:x.QY with
   |true=>
    obtain⟨u,rfl⟩:∃u,x=S0.text u:=by cases x<;>first|exact⟨_,rfl⟩|exact A9 e
    refine ih (t:=t++u) X h2 y ?_ hN (by rw[<-Ag,Ag];exact q);have C:u.length<=1000:=C;rw[Ad];exact ax (Ao (show f.length+t.length+1000*(1+PK r)<=Nh from R) C) aS
   |false=>
    rw[lL e]at hN⊢;have hd:=lK hN H;refine iU (x:=m.st [] f) hf0<|adv X h1.1 h1.2 e (Al (AD ..) I) (by rw[Ad];exact ax R aS)<|ih (t:=[]) a1 h2 y ?_ (lK hd H) ?_
    simp only[Ad,B5];exact ax (Ao R C) aS;rw[Ax,Ag];exact q
  |j4 A=>
   have I:m.sz+(A.sz+PK r)<Nh:=I;have R:f.length+t.length+1000*(A.sz+PK r)<=Nh:=R;obtain⟨a1,a2,C⟩:=A.ei X h1.1
   change c.rows.drop N=flush [] t++(A.NS _ _++Qw r [] _)at hN
   show c.W (m.st [] f) (flush [] t++(A.NS _ _++Qw r [] _));have hd:=lK hN H;have hd2:=lK hd A.ux;refine iU (x:=m.st [] f) hf0<|afG hd2 A X h1.1 (Al (AU (AD ..) _) I) (by rw[Ad];exact ax R aS) hd<|ih (t:=[]) a1 h2 (by exact ax (Ao I a2) aS) ?_ hd2 ?_
   simp only[Ad,B5];exact ax (Ao R C) aS;rw[Ax,Ag];exact q
def abO{N:Type}{a:N}(k:Nat)(L:List N):(a::L).Perm (L.take k++a::L.drop k):=by have:=F5 (a:=a) (l₁:=L.take k) (l₂:=L.drop k);rw[EH]at this;exact this.symm
def Hs.mv{L:Ox}{a:AG×O}(h:Hs τ (a::L) σ)(k:Nat):Hs τ (L.take k++a::L.drop k) σ:=h.perm (abO k L)
def Hs.ins{τ σ N:M5}{a:AG}(h:Hs τ L σ)(R:σ a=Y)(I:Keeps σ N)(e:N a=U o):Hs τ ((a,o)::L) N:=
 ⟨h.k.trans I,Ae.mpr ⟨⟨e,h.k.none R⟩,λp m=>⟨I _ _ (h.h p m).1,(h.h p m).2⟩⟩,Bc.mpr ⟨λm=>(A0.mp m).elim λp q=>aa (aO R ((q.2:p.1=a)▸(h.h p q.1).1)),h.nd⟩⟩
abbrev Oy(l:List Va):=l.map Va.v
def Ss(l:List Va):List Va:=l++A8 (9-l.length) (.i 0)
def iW{l:List Va}(h:l.length<=9):Oy l++(A8 ((9:Int)-G (Oy l).length).toNat [Ar 0]).flatten=Oy (Ss l):=by
 delta Ss;rw[show Oy (l++A8 (9-l.length) (.i 0))=_ from AS,IC,Ja,Ak]
 have:((9:Int)-G l.length).toNat=9-l.length:=by show(((9:Nat):Int)-(l.length:Int)).toNat=_;rw[<-Int.ofNat_sub h];rfl
 rw[this];rfl
variable{c:Mch}{rows:LV}{x:Xp}{f:M6}
def aeq{x':Xp}(h:Hs τ (c.L x) σ)(N:∀d:cc,d.c=c->d.rows=rows->d.W x' []->d.W x rows)(q:∀σ,Hs τ (c.L x') σ->Q (W x'.f) σ):M8 B (n+5) 349 [Av c.m,BB rows] σ Q:=
 ay H H (N ⟨⟨n,τ,c⟩,rows,Nl (Na (n+4) 62) (OH.body.drop 2) (RT Q)⟩ H H (cc.nil λa y σ h=>by exact aZ (h.at 0 H) H H H (cf (h.at 6 H) (q σ h))) 0 Y σ H h)
def afH{l:List Va}(C:l.length<=9)(h:Hs τ [(s,AE (dG Zy k))] σ)(q:∀c:Mch,c.s=s->∀σ,Hs τ (c.L ⟨Ss l,[],k,[],[]⟩) σ->Q (Av c.m) σ):M8 B (n+4) 352 [BB (Oy l),Av s] σ Q:=by
 refine cls (f:=300) (fn:=O6) (ds:=[]) (full:=[BB (Oy l),Av s]) H H (λZ=>H) λm d hm hk=>?_;have h:=h.ins hm hk (M5.ag m (BZ 352 []));have I:(Oy l).length<=9:=Aa (Ap (Ak ..)) C
 have X:(Oy l++(A8 ((9:Int)-G (Oy l).length).toNat [Ar 0]).flatten).length<=Nh:=by rw[iW C,Ak];rw[Ad,Cs];exact Aa (Ao C (GR ..)) ae
 refine jx H ⟨Aa I ae,Aw ⟨Ac H,Aw (iQ H (Dh _ _) (Bv (by decide:(-1048576:Int)<=9-9) (Iu (Bq.mpr I) 9)) (Bv (Ef _ (AW _)) aG) ae ⟨?_,Aw (bf H H ?_ ⟨X,AN λN hpa=>?_⟩)⟩)⟩⟩;exact Aa (by rw[Ad];exact Bl ..) X;rw[Ad]at X;exact X;rw[iW C];have h:=h.new (o:=AA (Oy (Ss l))) hpa;refine gN (h.at 1 H) H H ?_;have h:=h.upd 1 H (BZ 352 [(6,Av N)]);refine⟨H,⟨Aq _,AN λR how=>?_⟩⟩;have h:=h.new (o:=AE []) how;refine gN (h.at 2 H) H H ?_;have h:=h.upd 2 H (BZ 352 [(6,Av N),(7,Av R)]);refine gN (h.at 2 H) H H ?_;have h:=h.upd 2 H (BZ 352 [(6,Av N),(7,Av R),(8,Av s)]);refine cls (f:=230) (fn:=OO) (ds:=[]) (full:=[]) H H (λZ=>H) λA d y hk=>?_;have h:=h.ins y hk (M5.ag A (BZ 261 []));refine⟨Aq _,AN λsl hsl=>?_⟩;have h:=h.new (o:=AA []) hsl;refine gN (h.at 1 H) H H ⟨H,?_⟩;have h:=h.upd 1 H (BZ 261 [(5,Av sl)]);refine gN (h.at 4 H) H H ?_;have h:=h.upd 4 H (BZ 352 [(6,Av N),(7,Av R),(8,Av s),(9,Av A)]);refine eP λfo hfo=>?_;have h:=h.new (o:=CF []) hfo;exact gN (h.at 5 H) H H ⟨H,q ⟨m,N,R,s,A,sl,fo⟩ H _ ((h.upd 5 H (BZ 352 [(6,Av N),(7,Av R),(8,Av s),(9,Av A),(10,Av fo)])).rev.mv 3)⟩
variable{ss:List S1}{vals:List Va}{k:QD}{s:AG}
abbrev PW(vals:List Va)(k:QD):Mem:=⟨Ss vals,[],k⟩
def oF(R:vals.length<=9)(N:∀v∈vals,v.oct.length<=100)(I:Fits k):(PW vals k).Ok:=by
 refine⟨?_,λv m=>?_,λZ m=>M9 m Ay,I⟩;show(vals++_).length=9;rw[Ad,Cs,MC R];rcases BC.mp m with m|m
 exact N v m;rw[List.eq_of_mem_replicate m];exact Aq _
def uz(N:UJ ss)(I:vals.length<=9)(X:∀v∈vals,v.oct.length<=100)(y:Fits k)(hz:k.length+PK ss<=1000)(ho:2*(N7 ss).length<Nh)(h:Hs τ [(s,AE (dG Zy k))] σ)
  (q:∀σ,Hs τ [(s,AE (dG Zy (OB ss (PW vals k)).1.k))] σ->Q (W (OB ss (PW vals k)).2) σ):M8 B (n+6) 352 [BB (Oy vals),Av s] σ (XZ B (n+6) (Rt B (n+6) (j+5)) 27 [.call 195 [JP 0]] [U (W (N7 ss)),U (BB (Oy vals)),U z] Q):=
 afH I h λc C σ h=>bx (h.at 0 H) (f:=349) H H H (yR (z:=Qw ss [] 0) ho (λd e g=>by
   have:=agP ss (R:=[]) (t:=[]) N λR t e=>g R t e
   rwa [Ax]at this) (aeq (x':=(OB ss (PW vals k)).1.st [] (OB ss (PW vals k)).2) h (λd e1 A g=>by
    exact agQ ss (m:=PW vals k) (oF I X y) N (Al (by show 0+k.length+PK ss<=1000;rw[A1];exact hz:(PW vals k).sz+PK ss<=1000) ae) (Aa (Ap (A1 _)) (Aa (A2 1000 (Aa (Bl ..) hz)) ae)) A g)
    λσ h=>q σ (by have:=h.sub (LB.mpr (A6 (i:=3) H));rw[C]at this;exact this)))
def wB(R:UJ ss)(I:vals.length<=9)(N:∀v∈vals,v.oct.length<=100)(A:Fits k)(hz:k.length+PK ss<=1000)(X:2*(N7 ss).length<Nh)(h:Hs τ [(s,AE (dG Zy k))] σ)
  (q:∀σ,Hs τ [(s,AE (dG Zy (OB ss (PW vals k)).1.k))] σ->Q (W (OB ss (PW vals k)).2) σ):M8 B (n+7) 364 [W (N7 ss),BB (Oy vals),Av s] σ Q:=
 ay H H (uz R I N A hz X h q)
def ta(I:UJ ss)(A:vals.length<=9)(R:∀v∈vals,v.oct.length<=100)(hz:PK ss<=1000)(X:2*(N7 ss).length<Nh)(q:Q (W (OB ss (PW vals [])).2) σ):M8 B (n+7) 364 [W (N7 ss),BB (Oy vals)] σ Q:=
 Ny.cut (ay H H ⟨H,Aq _,AN λs N=>uz I A R (λZ m=>M9 m Ay) (by rw[B5,A1];exact hz) X (Hs.ini (Keeps.refl.set N) N) λσ h=>⟨h.k,q⟩⟩)
abbrev XK:=[112,97,114,97,109,115]
abbrev Zo:=[111,119,110]
abbrev Y2:=[107,101,112,116]
end
abbrev Ex.v:Ex->V
 |.num i t=>Bg [W (37::t),B9 [110,117,109,98,101,114],Ar i]
 |.par k=>Bg [W (Ex.par k).txt,B9 So,Zy k]
 |.len k=>Bg [W (Ex.len k).txt,B9 XI,Zy k]
 |.var c=>Bg [W (Ex.var c).txt,B9 [118,97,114,105,97,98,108,101],bV c]
 |.one s a=>Bg [W (Ex.one s a).txt,B9 Xd,Bg [bV s,a.v]]
 |.two g a b=>Bg [W (Ex.two g a b).txt,B9 XH,Bg [bV g.1,a.v,b.v]]
abbrev Ex.ht:Ex->Nat
 |.one _ a=>a.ht+1
 |.two _ a b=>max a.ht b.ht+1
 |_=>0
abbrev ZC(P O K:AG):=[(B9 XK,Av P),(B9 Zo,Av O),(B9 Y2,Av K)]
inductive LS (τ:M5) (w O K:AG) (m:Mem) (σ:M5):Prop
 |mk (P:AG):Hs τ [(w,.dict (ZC P O K)),(P,.list (Oy m.p)),(O,.dict (dG bV m.o)),(K,.dict (dG bV m.k))] σ->LS τ w O K m σ
def cv(h:Nf 2 d=J):Keyed n (B9 k) d:=aC (c:=2) aG H h
def uA:∀c∈SJ,([W [65],W [90]].any λy=>RX y (bV c))=!decide ((97:Int)<=G c):=by decide
section
variable{w O K:AG}{m:Mem}
def uB(q:Q ((Q9 c d).getD (.i 0)).v σ)(h:σ a=U (.dict (dG bV d))):Nr B (n+1) 26 [.ref a,bV c,.int 0] σ Q:=by refine cG (ao h) (dI oi) ?_;rw[lH oi,s9];exact q
def zk(ok:m.Ok)(h:LS τ w O K m σ):∀(e:Ex),e.Ok->∀N {Q:KE},e.ht<=N->Q (e.ev m).v σ->M8 B (N+3) 974 [e.v,Av w] σ Q:=λe=>by
 obtain⟨P,h⟩:=h
 induction e with
 |num i t=>exactλZ N Q Z q=>ay H H (s7 (v:=.i i) q)
 |par k=>exactλC N Q Z q=>ay H H (au (ao (h.at 0 H)) (cv H) H (ah (ai (h.at 1 H)) ((BR ..).trans (M7 (Fg Va.v) (ok.par C).1)) (s7 q)))
 |len k=>
  intro C N Q _ q;have g:=(BR (f:=Va.v) (l:=m.p) (i:=k)).trans (M7 (Fg Va.v) (ok.par C).1);refine ay H H<|au (ao (h.at 0 H)) (cv H) H<|ah (ai (h.at 1 H)) g ?_
  dsimp only[Ex.ev]at q
  cases e:m.par k with
  |i n=>rw[e]at q;exact dE q
  |b l=>rw[e]at q g;exact cq (au (ao (h.at 0 H)) (cv H) H (ah (ai (h.at 1 H)) g q))
 |var c=>
  intro hc N Q _ q;dsimp only[Ex.ev,Mem.of]at q;refine ay H H<|aj H ?_
  rw[show([W [65],W [90]].any λy=>RX y (bV c))=_ from uA c hc]
  cases e:decide ((97:Int)<=G c)with
  |true=>rw[e]at q;exact au (ao (h.at 0 H)) (cv H) H (eK (ao (h.at 2 H)) (uB q (h.at 2 H)))
  |false=>rw[e]at q;exact au (ao (h.at 0 H)) (cv H) H (eK (ao (h.at 3 H)) (uB q (h.at 3 H)))
 |one s a ih=>
  intro x N Q R q;obtain⟨N,rfl⟩:∃M,N=M+1:=⟨N-1,(IT (Aa (AX (Aq _)) R)).symm⟩;refine ay H H<|ih x.2 N (Ew R)<|cT ?_
  rcases AQ.mp x.1 with rfl|h1
  exact bk q;obtain rfl:=AV.mp h1;exact q
 |two g a b X A=>intro I N Q R q;obtain⟨N,rfl⟩:∃M,N=M+1:=⟨N-1,(IT (Aa (AX (Aq _)) R)).symm⟩;have R:=R;exact ay H H<|X I.2.1 N (Aa (Nat.le_max_left ..) (Ew R))<|cT<|A I.2.2 N (Aa (Nat.le_max_right ..) (Ew R))<|cT<|qO (Al (Mem.Ok.ev ok b I.2.2).abs ae) g I.1<|s7 (v:=.i (g.2 (a.ev m).num (b.ev m).num)) q
end
abbrev S0.v:S0->V
 |.text t=>Bg [W (ttx t),B9 [116,101,120,116],W t]
 |.Ws e w=>Bg [W (S0.Ws e w).txt,B9 Uy,Bg [e.v,S7 w]]
 |.sgn e=>Bg [W (S0.sgn e).txt,B9 [115,105,103,110],e.v]
 |.set c e=>Bg [W (S0.set c e).txt,B9 Wj,Bg [bV c,e.v]]
 |.more=>Bg [W [37,105],B9 V1,A5]
abbrev Su(B:List S0):=BB (B.map S0.v)
abbrev Ch.rows:Ch->LV
 |.last e B=>[Bg [e.v,Su B]]
 |.j5 e B _=>[Bg [e.v,Su B]]
 |.more e B r=>Bg [e.v,Su B]::r.rows
def Ch.TG:Ch->List S0
 |.last _ _=>[]
 |.j5 _ _ b=>b
 |.more _ _ r=>r.TG
abbrev Ch.v(ch:Ch):=Bg [BB ch.rows,Su ch.TG]
abbrev S1.v:S1->V
 |.s x=>x.v
 |.j4 ch=>Bg [W (Lb ch).txt,B9 [105,102],ch.v]
def Ex.afI:∀e:Ex,e.ht<e.sz:=λe=>by
 induction e with
 |num=>exact Bt _
 |par=>exact Bt _
 |len=>exact Bt _
 |var=>exact Bt _
 |one s a I=>exact EZ I
 |two g a b N R=>exact EZ (Nat.max_lt.mpr ⟨AP N (AD ..),AP R (Bl ..)⟩)
def Hs.sw(h:Hs τ (a::b::L) σ):Hs τ (b::a::L) σ:=h.perm (CS ..)
def ie{N:Type}(l:List N)(k:Nat):NP l (U (G k)) Y=l.drop k:=by
 show(l.drop (HU l.length (k:Nat))).take (l.length-HU l.length (k:Nat))=_;rw[JC];rcases Jk k l.length with h|h
 rw[DU h];exact C0 (Ap (Cz ..));rw[Ht h,FU,Ds h,List.take_zero]
section
variable{w O K:AG}{m:Mem}
def ig(ok:m.Ok)(h:LS τ w O K m σ){e:Ex}(R:e.Ok)(N:e.sz<=9){Q:KE}(q:Q (e.ev m).v σ):M8 B (n+11) 974 [e.v,Av w] σ Q:=
 zk ok h e R (n+8) (Aa (Eh (AP e.afI N)) (Bl ..)) q
def LS.wr(h:LS τ w O K m σ){v:Va}(R:c∈SJ)(N:m.sz<Nh){Q:M5->Prop}(q:∀σ,LS τ w O K (m.put c v) σ->Q σ):
  RH B (z+1) (match decide ((97:Int)<=G c)with|true=>Av O|false=>Av K) (bV c) v.v σ Q:=by
 obtain⟨P,h⟩:=h;delta Mem.put at q
 cases e:decide ((97:Int)<=G c)with
 |true=>rw[e]at q;refine aJ (h.at 2 H) (dI oi) (Al (Aa (Ap om) (AD ..)) N) ?_;rw[oj oi];exact q _ ⟨P,h.upd 2 H _⟩
 |false=>rw[e]at q;refine aJ (h.at 3 H) (dI oi) (Al (Aa (Ap om) (Bl ..)) N) ?_;rw[oj oi];exact q _ ⟨P,h.upd 3 H _⟩
def qW : ∀ {ss} {m} {σ}, (∀ ch, Lb ch ∈ ss → ∀ {m} {Q} {σ}, m.Ok → LS τ w O K m σ → m.sz + ch.sz < Nh → (∀ σ, LS τ w O K (ch.run m).1 σ → Q (.bytes (ch.run m).2) σ) → M8 B (n + 11) 1000 [ch.v, .ref w] σ Q) → m.Ok → UJ ss → m.sz + PK ss < Nh → 1000 * PK ss ≤ Nh → LS τ w O K m σ →
    (∀ σ, LS τ w O K (OB ss m).1 σ → Q (.bytes (OB ss m).2) σ) → M8 B (n + 12) 993 [.lst (ss.map S1.v), .ref w] σ Q := fun {ss m σ} hbr ok hs hz hf h q => by
  refine ay H H ?_
  refine have R : ∀ K' bl ss m f y3 y4 y5 y6 σ, (∀ ch, Lb ch ∈ ss → ∀ {m} {Q} {σ}, m.Ok → LS τ w O K m σ → m.sz + ch.sz < Nh → (∀ σ, LS τ w O K (ch.run m).1 σ → Q (.bytes (ch.run m).2) σ) → M8 B (n + 11) 1000 [ch.v, .ref w] σ Q) →
      m.Ok → UJ ss → m.sz + PK ss < Nh → f.length + 1000 * PK ss ≤ Nh → LS τ w O K m σ → (∀ y3 y4 y5 y6 σ, LS τ w O K (OB ss m).1 σ → K'.nx [bl, U (.ref w), U (.bytes (f ++ (OB ss m).2)), y3, y4, y5, y6] σ) →
      forL (Na (n + 11) 61 (Om (QM.body.drop 1))) (O2 (n + 11) 61 (.tup [.nm 3, .nm 4, .nm 5])) K' (ss.map S1.v) [bl, U (.ref w), U (.bytes f), y3, y4, y5, y6] σ := ?_; R _ _ ss m [] Y Y Y Y σ hbr ok hs hz (Aa (Ap (A1 _)) hf) h fun y3 y4 y5 y6 σ h => q σ h
  intro K' bl ss
  induction ss with
  | nil => exact fun m f y3 y4 y5 y6 σ Z ok hs hz hf h q => (Ax f) ▸ q y3 y4 y5 y6 σ h
  | cons s r ih =>
    intro m f y3 y4 y5 y6 σ hbr ok hs hz hf h q
    obtain ⟨h1, h2⟩ := Ae.mp hs
    have hz : m.sz + (s.sz + PK r) < Nh := hz
    have hf : f.length + 1000 * (s.sz + PK r) ≤ Nh := hf
    obtain ⟨a1, a2, a3⟩ : (s.run m).1.Ok ∧ (s.run m).1.sz ≤ m.sz + s.sz ∧ (s.run m).2.length ≤ 1000 * s.sz := by
      cases s with
      | s x => exact x.ei ok h1.1
      | j4 ch => exact ch.ei ok h1.1
    have hl : ∀ o, o = (s.run m).2 → f.length + o.length ≤ Nh := fun o e => by rw [e]; exact ax (Ao hf a3) aS
    have T : ∀ o, o = (s.run m).2 → ∀ y3 y4 y5 y6 σ, LS τ w O K (s.run m).1 σ → forL (Na (n + 11) 61 (Om (QM.body.drop 1))) (O2 (n + 11) 61 (.tup [.nm 3, .nm 4, .nm 5])) K' (r.map S1.v) [bl, U (.ref w), U (.bytes (f ++ o)), y3, y4, y5, y6] σ := fun o e y3 y4 y5 y6 σ h =>
      ih _ _ y3 y4 y5 y6 σ (fun ch hm => hbr ch (Au _ hm)) a1 h2 (by exact ax (Ao hz a2) aS) (by rw [Ad, e]; exact ax (Ao hf a3) aS) h fun y3 y4 y5 y6 σ h => by rw [e, Ag]; exact q y3 y4 y5 y6 σ h
    cases s with
    | j4 ch => exact hbr ch (As ..) ok h (Al (AU (AD ..) _) hz) fun σ h => ⟨hl _ H, T _ H _ _ _ _ σ h⟩
    | s x =>
      cases x with
      | text t => exact ⟨hl _ H, T _ H _ _ _ _ σ h⟩
      | Ws e x => exact ig ok h h1.1.1 h1.2 (lI h1.1.2 (ok.ev e h1.1.1) ⟨hl _ H, T _ H _ _ _ _ σ h⟩)
      | sgn e =>
        refine ig ok h h1.1 h1.2 (cT ⟨by decide, ?_⟩)
        rw [(oo _).1]
        refine aF (fun e1 => ?_) fun e1 => ?_
        · have e2 := adt (N8 (Od e1))
          exact ⟨Ac H, .inl (aH (b := [chN (e.ev m)]) H (fun x hx => AV.mp hx ▸ ((oo (e.ev m)).2)) ⟨hl _ (M7 (fun k => [k]) e2.symm), T _ (M7 (fun k => [k]) e2.symm) _ _ _ _ σ h⟩)⟩
        · have e2 := ads (N5 (GA.mp (Pd e1)))
          exact ⟨Ac H, .inl (aH (b := [128]) H (fun x hx => AV.mp hx ▸ by decide) ⟨hl _ (M7 (fun k => [k]) e2.symm), T _ (M7 (fun k => [k]) e2.symm) _ _ _ _ σ h⟩)⟩
      | set c e =>
        have N := fun z Q => LS.wr (z := z) (v := e.ev m) h h1.1.1 (Al (AD ..) hz) (Q := Q)
        have T := T _ H
        rw [show f ++ (S1.run m (.s (.set c e))).2 = f from Ax f] at T
        refine aj H ?_
        rw [show ([W [65], W [90]].any fun y => RX y (bV c)) = _ from uA c h1.1.1]
        have h0 := h
        obtain ⟨P, h⟩ := h
        cases e2 : decide ((97 : Int) ≤ .ofNat c) with
        | true => rw [e2] at N; exact au (ao (h.at 0 H)) (cv H) H (ig ok h0 h1.1.2 h1.2 (N _ _ (T _ _ _ _)))
        | false => rw [e2] at N; exact au (ao (h.at 0 H)) (cv H) H (ig ok h0 h1.1.2 h1.2 (N _ _ (T _ _ _ _)))
      | more =>
        have T := T _ H
        rw [show f ++ (S1.run m (.s .more)).2 = f from Ax f] at T
        obtain ⟨P, h⟩ := h
        obtain ⟨p, o, k⟩ := m
        have hp : p.length = 9 := ok.p
        obtain ⟨a, b, p, rfl⟩ : ∃ a b r, p = a :: b :: r := by
          cases p with
          | nil => exact nomatch hp
          | cons a p =>
            cases p with
            | nil => exact nomatch hp
            | cons b r => exact ⟨a, b, r, H⟩
        have hl9 : (Oy (a :: b :: p)).length = 9 := (Ak ..).trans (hp : p.length + 2 = 9)
        refine au (ao (h.at 0 H)) (cv H) H (cP (p := Y) (q := U 2) (ai (h.at 1 H)) H H ?_)
        obtain ⟨ab, hab⟩ : ∃ ab, ab = [a, b] := ⟨_, H⟩
        rw [show NP (Oy (a :: b :: p)) Y (U 2) = Oy ab from hab ▸ a9 (Oy (a :: b :: p)) 2]
        refine ⟨Aa (by rw [hab]; exact AH 2) (by decide : 2 ≤ Nh), .inl (bb (β := Va) (f := Va.v) (g := fun v => U v.inc.v) ab (fun v Z k q => ?_) ?_)⟩
        · cases v with
          | i n => exact dE q
          | b l => exact cq q
        · subst hab
          refine ⟨Ac H, .inl (au (ao (h.at 0 H)) (cv H) H (cP (p := U 2) (q := Y) (ai (h.at 1 H)) H H ?_))⟩
          rw [show NP (Oy (a :: b :: p)) (U 2) Y = Oy p from ie (Oy (a :: b :: p)) 2]
          have hl2 : (Oy p).length + 2 = 9 := hl9
          refine ⟨Aa (B3 (by exact ax (Ap hl2) aS : (Oy p).length < 9)) ae, .inl (bf H H (Aa (by show 2 + (Oy p).length ≤ 9; exact ax (Ap hl2) aS) ae) ⟨Aa (by show (Oy p).length + 2 ≤ 9; exact ax (Ap hl2) aS) ae, .inr fun P2 hP2 => ?_⟩)⟩
          have h := h.new (o := .list (a.inc.v :: b.inc.v :: Oy p)) hP2
          exact aJ (h.at 1 H) (cv H) ae (T _ _ _ _ _ ⟨P2, ((h.upd 1 H (.dict (ZC P2 O K))).del 2).sw⟩)
end
def aer:∀B {m},OB (B.map .s) m=runs B m:=λB=>by
 induction B with
 |nil=>exact H
 |cons s r N=>intro m;show((OB (r.map .s) (s.run m).1).1,(s.run m).2++(OB (r.map .s) (s.run m).1).2)=_;rw[N];rfl
def zm:∀(B:List S0),PK (B.map .s)=B.length:=λB=>by
 induction B with
 |nil=>rfl
 |cons s r N=>show 1+PK (r.map .s)=r.length+1;rw[N,Bk]
section
variable{w O K:AG}{m:Mem}
def iX{D:List S0}(ok:m.Ok)(I:Uz D)(R:D.length<=k)(hz:m.sz+k<Nh)(hf:1000*k<=Nh)(h:LS τ w O K m σ)(q:∀σ,LS τ w O K (runs D m).1 σ->Q (W (runs D m).2) σ):M8 B (n+12) 993 [Su D,Av w] σ Q:=by have:=qW (ss:=D.map .s) (λA N=>(A0.mp N).elim λZ e=>S1.noConfusion e.2) ok (λs N=>(A0.mp N).elim λx e=>e.2▸I x e.1) (by rw[zm];exact Al (AU R _) hz) (by rw[zm];exact Aa (A2 _ R) hf) h (n:=n) (Q:=Q);rw[aer,Bo]at this;exact this q
def wC {ch : Ch} (ok : m.Ok) (hc : ch.Ok) (hz : m.sz + ch.sz < Nh) (hf : 1000 * ch.sz ≤ Nh) (h : LS τ w O K m σ) (q : ∀ σ, LS τ w O K (ch.run m).1 σ → Q (W (ch.run m).2) σ) : M8 B (n + 13) 1000 [ch.v, Av w] σ Q := by
  refine ay H H ?_
  refine have N : ∀ nx ct of y2 y3 (c : Ch), c.Ok → m.sz + c.sz < Nh → 1000 * c.sz ≤ Nh → (∀ y2 y3, (∀ σ, LS τ w O K (runs c.TG m).1 σ → Q (W (runs c.TG m).2) σ) → Uz c.TG → c.TG.length ≤ c.sz → nx [of, NG w, y2, y3] σ) →
      (∀ σ, LS τ w O K (c.run m).1 σ → Q (W (c.run m).2) σ) → forL (Na (n + 12) 62 (Om Rq.body)) (O2 (n + 12) 62 (Ln [Eg 2, Eg 3])) ⟨nx, Q, ct⟩ c.rows [of, NG w, y2, y3] σ := ?_; N _ _ _ Y Y ch hc hz hf (fun y2 y3 q hD hk => iX ok hD hk hz hf h q) q
  intro nx ct of y2 y3 c
  induction c generalizing y2 y3 with
  | last e D =>
    intro hc hz hf q0 q
    dsimp only [Ch.run] at q
    refine ig ok h hc.1 hc.2.1 (cT (aF (fun e1 => ?_) fun e1 => ?_))
    · rw [show decide ((e.ev m).num = 0) = Am from N8 (Od e1)] at q
      exact iX ok hc.2.2 (AH _) hz hf h q
    · rw [show decide ((e.ev m).num = 0) = J from N5 (GA.mp (Pd e1))] at q
      exact q0 _ _ q (fun Z m => M9 m Ay) (Aq _)
  | j5 e D b =>
    intro hc hz hf q0 q
    dsimp only [Ch.run] at q
    refine ig ok h hc.1 hc.2.1 (cT (aF (fun e1 => ?_) fun e1 => ?_))
    · rw [show decide ((e.ev m).num = 0) = Am from N8 (Od e1)] at q
      exact iX ok hc.2.2.1 (AD ..) hz hf h q
    · rw [show decide ((e.ev m).num = 0) = J from N5 (GA.mp (Pd e1))] at q
      exact q0 _ _ q hc.2.2.2 (Bl ..)
  | more e D r ih =>
    intro hc hz hf q0 q
    dsimp only [Ch.run] at q
    have hz' : m.sz + (D.length + r.sz) < Nh := hz
    have hf' : 1000 * (D.length + r.sz) ≤ Nh := hf
    refine ig ok h hc.1 hc.2.1 (cT (aF (fun e1 => ?_) fun e1 => ?_))
    · rw [show decide ((e.ev m).num = 0) = Am from N8 (Od e1)] at q
      exact iX ok hc.2.2.1 (AD ..) hz hf h q
    · rw [show decide ((e.ev m).num = 0) = J from N5 (GA.mp (Pd e1))] at q
      exact ih _ _ hc.2.2.2 (by exact ax hz' aS) (by exact ax hf' aS) (fun y2 y3 q hD hk => q0 y2 y3 q hD (Aa hk (Bl ..))) q
def abP{ss:List S1}(ok:m.Ok)(I:UJ ss)(hz:m.sz+PK ss<=1000)(h:LS τ w O K m σ)(q:∀σ,LS τ w O K (OB ss m).1 σ->Q (W (OB ss m).2) σ):M8 B (n+14) 993 [BB (ss.map S1.v),Av w] σ Q:=by
 have R:=Aa (Bl ..) hz;refine qW (λA N {m Q σ} ok h hz q=>wC ok (I _ N).1 hz ?_ h q) ok I (Al hz ae) (Aa (A2 _ R) ae) h q
 have:∀ss,Lb A∈ss->A.sz<=PK ss:=λss=>by
  induction ss with
  |nil=>exactλm=>M9 m Ay
  |cons s r X=>
   intro m;rcases AQ.mp m with rfl|m
   exact AD ..;exact Aa (X m)<|Bl ..
 exact Aa (A2 _ (Aa (this ss N) R)) ae
variable{vals:List Va}{k:QD}{ss:List S1}
def uC(I:UJ ss)(N:vals.length<=9)(X:∀v∈vals,v.oct.length<=100)(y:Fits k)(hz:k.length+PK ss<=1000)(h:Hs τ [(K,.dict (dG bV k))] σ)
  (q:∀σ,Hs τ [(K,.dict (dG bV (OB ss (PW vals k)).1.k))] σ->Q (.bytes (OB ss (PW vals k)).2) σ):M8 B (n+15) 1007 [.lst (ss.map S1.v),.lst (Oy vals),.ref K] σ Q:=by
 have R:(Oy vals++(A8 ((9:Int)-G (Oy vals).length).toNat [Ar 0]).flatten).length<=Nh:=by rw[iW N,Ak];rw[Ad,Cs];exact Aa (Ao N (GR ..)) ae
 refine ay H H ⟨Ac H,.inl (iQ H (Dh _ _) (Bv (by decide:(-1048576:Int)<=9-9) (Iu (Bq.mpr (Aa (Ap (Ak ..)) N:(Oy vals).length<=9)) 9)) (Bv (Ef _ (AW _)) aG) ae ⟨?_,.inl (bf H H ?_ ⟨R,.inr λP A=>?_⟩)⟩)⟩;exact Aa (by rw[Ad];exact Bl ..) R;rw[Ad]at R;exact R;rw[iW N];have h:=h.new (o:=.list (Oy (Ss vals))) A;refine⟨H,Aq _,.inr λO C=>?_⟩;have h:=h.new (o:=.dict []) C;refine⟨H,Ac H,.inr λw x=>?_⟩;have h:=h.new (o:=.dict (ZC P O K)) x;refine abP (m:=PW vals k) (O:=O) (K:=K) (oF N X y) I (by show 0+k.length+PK ss<=1000;rw[A1];exact hz:(PW vals k).sz+PK ss<=1000) ⟨P,?_⟩ λσ h=>LS.casesOn h λP h=>q σ<|h.sub<|LB.mpr<|A6 (i:=3) H
 exact h.perm<|.cons _<|.swap ..
abbrev Xf:=[99,101,108,108,115]
abbrev Ye:=[116,117,114,110]
abbrev V2:=[108,101,102,116]
abbrev XM(C:AG)(t:Int)(l:Nat):=[(B9 Xf,Av C),(B9 Ye,Ar t),(B9 V2,Zy l)]
end
inductive Dk (τ:M5) (D:AG) (l:Nat) (σ:M5):Prop
 |mk (C:AG) (t:Int) (cs:List Int):cs.length<1000->Hs τ [(D,AE (XM C t l)),(C,AA (cs.map Ar))] σ->Dk τ D l σ
def afJ(N:0<k)(x:Int):∃d,d<k/\x.fmod (G k)=G d:=by have h:=DW x (λe=>CR N (BP e):(G k:Int)≠0);exact⟨(x%G k).toNat,(Jp h).mpr (EA x (BN.mpr N)),(D5 _ (AW k)).trans (Dv h).symm⟩
section
variable{D:AG}{l k:Nat}
def zo(N:0<k)(q:∀d<k,Q (Zy d) σ):binI .Mod x (G k) σ Q:=⟨λe=>CR N (BP e),(afJ N x).elim λd h=>h.2▸q d h.1⟩
def bt(A:0<k)(X:k<2^64)(h:Dk τ D l σ)(q:∀d<k,∀σ,Dk τ D l σ->Q (Zy d) σ):M8 B (n+1) 915 [Av D,Zy k] σ Q:=by
 obtain⟨C,t,N,R,h⟩:=h;refine ay H H<|au (ao (h.at 0 H)) (cv H) H<|aJ (h.at 0 H) (cv H) ae ?_
 have h:Hs τ [(D,AE (XM C (t+1) l)),(C,AA (N.map Ar))] _:=h.upd 0 H (AE (XM C (t+1) l));refine au (ao (h.at 0 H)) (cv H) H ⟨Aq _,Aw (bQ (ai (h.at 1 H)) H ?_)⟩;rcases List.eq_nil_or_concat N with rfl|⟨N,c,rfl⟩
 exact au (ao (h.at 0 H)) (cv H) H ⟨AN ae,au (ao (h.at 0 H)) (cv H) H ⟨⟨by decide,Ac H⟩,zo A λd I=>q d I _ ⟨C,t+1,[],R,h⟩⟩⟩;rw[LX,AS]at h;rw[LX]at R⊢;rw[Ad]at R;refine ff (by rw[AS];cases N<;>rfl)<|au (ao (h.at 0 H)) (cv H) H<|p7 (ai (h.at 1 H))<|f7 (h.at 1 H) ?_
 have h:=h.upd 1 H (AA (N.map Ar));refine aF (λZ=>au (ao (h.at 0 H)) (cv H) H (aK (ai (h.at 1 H)) ⟨⟨λe=>CR A (BP e),X⟩,av (h.at 1 H) (Al (Ap (Ak ..)) (BG (Du R) ae)) ?_⟩)) λZ=>zo A λd I=>q d I _ ⟨C,t+1,N,Du R,h⟩;exact zo A λd I=>q d I _ ⟨C,t+1,N++[c.fdiv (G k)],by rw[Ad];exact R,by rw[AS];exact h.upd 1 H _⟩
def d8{xs:LV}(I:0<xs.length)(N:xs.length<2^64)(h:Dk τ D l σ)(q:∀x∈xs,∀σ,Dk τ D l σ->Q x σ):M8 B (n+2) 922 [Av D,Bg xs] σ Q:=
 ay H H (bt I N h λd R σ h=>ak (AY R) (q _ (Hm R) σ h))
def Ex.v_eq(e:Ex):∃s o,e.v=Bg [W e.txt,s,o]:=by cases e<;>exact⟨_,_,H⟩
def Ex.b0:∀e:Ex,e.Ok->e.txt.length<=16*e.sz:=λe=>by
 induction e with
 |num i t=>exact(by decide+kernel:∀e∈Sr,(37::e.2).length<=16*1) (i,t)
 |par k=>exactλZ=>Ac H
 |len k=>exactλZ=>Ac H
 |var c=>exactλZ=>Ac H
 |one s a I=>intro h;have:=I h.2;show(a.txt++[37]++[s]).length<=16*(a.sz+1);rw[Ad,Ad];show a.txt.length+1+1<=_;exact ax this aS
 |two g a b N R=>intro h;show(a.txt++b.txt++[37]++[g.1]).length<=16*(a.sz+b.sz+1);rw[Ad,Ad,Ad];show a.txt.length+b.txt.length+1+1<=_;exact ax (Ao (N h.2.1) (R h.2.2)) aS
def Y3(e:Int×M6):Bool:=match(44==e.1|| (94==e.1||Am))with
 |true=>e.2==[39,e.1.toNat,39]&&(e.1==G e.1.toNat&&Ey e.1.toNat 256)
 |false=>(e.1==G e.1.toNat&&(Ey e.1.toNat 1099511627776&&e.2==[123]++QX Am 10 e.1.toNat++[125]))|| (e.1== -5&&e.2==[123,45,53,125])
def afK:∀e∈Sr,Y3 e=J:=by decide+kernel
def aes:Sk (-5)=[45,53]:=by
 delta Sk;rw[ofS,show(toString (-5:Int))="-"++toString (5:Nat)from H,String.toList_append,show(toString (5:Nat)).toList=Nat.toDigits 10 5 from Lp]
 rfl
def afL:∀k<9,QX Am 10 (k+1)=[k+1+48]:=by decide+kernel
def nxd{K:Kt}(h:Na n k (s::r) ρ σ K):(Nl (Na n k) (s::r) K).nx ρ σ:=h
def tc{e:Ex}(q:Q (W e.txt) σ):V9 B n e.v (Ar 0) σ Q:=by obtain⟨s,o,h⟩:=e.v_eq;rw[h];exact q
abbrev ExQ(τ:M5)(D:AG)(l k:Nat)(Q:KE):=∀e:Ex,e.Ok->e.sz<=k->∀σ,Dk τ D l σ->Q e.v σ
def uD{ct:NF->M5->Prop}{nx:NF->M5->Prop}(h:Dk τ D l σ)(q:ExQ τ D l 1 Q):∀d<4,Na (n+2) 63 (Pu.body.drop 1) [NG D,Q3 i,NT d,y3,y4,y5,y6,y7,y8] σ ⟨nx,Q,ct⟩:=λd hd=>by
 have P:∀k<9,∀σ y,y (W [k+1+48]) σ->M8 B (n+2) 927 [Zy (k+1)] σ y:=λk N σ y q=>cB (AP (EZ N) ae) (by rw[afL k N];exact q);refine lt4 hd ?_ ?_ ?_ ?_
 ·
  refine d8 (xs:=Sr.map λe=>Ar e.1) ae ae h λx C σ h=>?_;obtain⟨⟨j,t⟩,A,rfl⟩:=A0.mp C;have hp:=afK _ A;refine aj H ?_;dsimp only[Y3]at hp;refine aF (λe=>?_) λe=>?_;rw[show(44==j|| (94==j||Am))=J from e]at hp;obtain⟨R,I⟩:=Ah.mp hp;obtain⟨I,X⟩:=Ah.mp I;obtain rfl:t=[39,j.toNat,39]:=N2 R;obtain⟨m,rfl⟩:∃m:Nat,j=G m:=⟨_,N2 I⟩;exact⟨Ac H,Aw (aH (b:=[m]) H (λx C=>AV.mp C▸Ac X) ⟨Ac H,⟨Ac H,q (Ex.num (G m) [39,m,39]) A (AH 1) σ h⟩⟩)⟩;rw[show(44==j|| (94==j||Am))=Am from e]at hp;rcases Cb.mp hp with hp|hp
  obtain⟨I,R⟩:=Ah.mp hp;obtain⟨X,R⟩:=Ah.mp R;obtain rfl:t=[123]++QX Am 10 j.toNat++[125]:=N2 R;obtain⟨m,rfl⟩:∃m:Nat,j=G m:=⟨_,N2 I⟩;have X:m<1099511627776:=Ac X;have hl:=cX Am 10 m ae X;refine cB X ⟨Aa (AU hl 2) ae,⟨?_,q (Ex.num (G m) _) A (AH 1) σ h⟩⟩;rw[Ad];exact Aa (A7 (AU hl 2) 1) ae;obtain⟨R,I⟩:=Ah.mp hp;obtain rfl:j= -5:=N2 R;obtain rfl:t=[123,45,53,125]:=N2 I;refine gO ae (by rw[aes];decide) (by rw[aes];decide) ?_;rw[aes];exact⟨Ac H,⟨Ac H,q (Ex.num (-5) [123,45,53,125]) A (AH 1) σ h⟩⟩
 exact bt ae ae h λk N σ h=>P k N σ _ ⟨Ac H,⟨Ac H,q (.par k) N (AH 1) σ h⟩⟩
 ·
  refine d8 (xs:=SJ.map bV) ae ae h λx C σ h=>?_;obtain⟨c,A,rfl⟩:=A0.mp C;exact⟨Ac H,q (.var c) A (AH 1) σ h⟩
 exact bt ae ae h λk N σ h=>P k N σ _ ⟨Ac H,⟨Ac H,q (.len k) N (AH 1) σ h⟩⟩
def abQ{a b:Ex}(I:a.Ok)(N:b.Ok)(A:a.sz<=100)(R:b.sz<=100){s:Nat}:a.txt.length+b.txt.length<=Nh/\(a.txt++b.txt).length+[37].length<=Nh/\(a.txt++b.txt++[37]).length+[s].length<=Nh:=by have t:a.txt.length+b.txt.length+2<=Nh:=Aa (A7 (Ao (Aa (a.b0 I) (A2 16 A)) (Aa (b.b0 N) (A2 16 R))) 2) ae;exact⟨Aa (AD ..) t,by rw[Ad];exact DR t,by rw[Ad,Ad];exact t⟩
abbrev Zp:=[W [43],W [45],W [42],W [47],W [109],W [38],W [124],W [94],W [61],W [62],W [60],W [65],W [79]]
abbrev szb:Nat->Nat
 |0=>1
 |d+1=>2*szb d+1
def kr:∀d i,i=G d->szb d<=100->∀{σ} {Q:KE},Dk τ D l σ->ExQ τ D l (szb d) Q->M8 B (n+d+3) 934 [Av D,Ar i] σ Q:=λd=>by
 induction d with
 |zero=>intro i hi _ σ Q h q;subst hi;show M8 B (n+3) 934 _ _ _;exact ay H H<|bt (n:=n+1) (k:=4) ae ae h λd hd σ h=>uD (n:=n) h q d hd
 |succ d ih=>
  intro i hi hb σ Q h q;subst hi;have R:szb d<=100:=Aa (Aa (Nat.le_mul_of_pos_left _ (by decide:0<2)) (B4 _)) hb;show M8 B (n+d+1+3) 934 _ _ _;refine ay H H<|tt (N5 (BN.mpr (DJ d)))<|bt (n:=n+d+2) (k:=7) ae ae h λw hw σ h=>?_
  have A:=λ(σ:M5) (Q:KE) (h:Dk τ D l σ) (q:ExQ τ D l (szb d) Q)=>ih (G (d+1)-1) (D6 (G d) 1) R h q;generalize hK:Nl (Na (n+d+3) 63) _ _=K;have N:K.nx [NG D,Q3 (G (d+1)),NT w,Y,Y,Y,Y,Y,Y] σ:=?_;exact N;subst hK;have L:=uD (n:=n+d+1) (Q:=Q) (i:=G (d+1)) (y3:=Y) (y4:=Y) (y5:=Y) (y6:=Y) (y7:=Y) (y8:=Y) (nx:=λZ σ=>Q A5 σ) (ct:=λZ Z=>False) h λe I X=>q e I (Aa X (AX (Aq _):1<=szb (d+1)));refine nxd<|lt7 hw (L 0 ae) (L 1 ae) (L 2 ae) (L 3 ae) ?_ ?_ ?_
  rotate_left 2
  ·
   refine A _ _ h λe I X σ h=>d8 (n:=n+d+1) (xs:=[33,126].map bV) ae ae h λx hx σ h=>?_;obtain⟨s,hm,rfl⟩:=A0.mp hx;have hl:=Aa (e.b0 I) (A2 16 (Aa X R));refine tc ⟨Aa (A7 hl 1) ae,⟨by rw[Ad];exact Aa (A7 hl 2) ae,q (Ex.one s e) ⟨hm,I⟩ ?_ σ h⟩⟩;show e.sz+1<=2*szb d+1;exact ax X aS
  all_goals
   refine A _ _ h λe I X σ h=>A _ _ h λe2 y C σ h=>d8 (n:=n+d+1) (xs:=Zp) ae ae h λx hx σ h=>?_;obtain⟨g,hm,rfl⟩:=A0.mp (show x∈ops.map (λg=>bV g.1)from hx);obtain⟨l1,l2,l3⟩:=abQ I y (Aa X R) (Aa C R) (s:=g.1);exact tc<|tc ⟨l1,⟨l2,⟨l3,q (Ex.two g e e2) ⟨hm,I,y⟩ (AX (Aa (Ao X C) (Ap (Nat.two_mul _).symm))) σ h⟩⟩⟩
variable{R:AG}{l:LV}{z z':V}{us zs:LV}{o o':O}
def Fr(R:AG)(l:LV)(z z':V):=∀x (ha:x.σ R=U (AA l)) v,Rd x v z->Rd (x.QA ha O.aB) v z'
def V3(R:AG)(l us zs:LV):=∀x (ha:x.σ R=U (AA l)) vs,Nq x vs us->Nq (x.QA ha O.aB) vs zs
def Fr.same:Fr R l z z:=λx N v h=>h.le (dT N O.aB)
def Fr.ref:Fr R l (Av R) (BB l):=λx N v h=>by obtain rfl:v=Ai R:=aq.inv h;obtain⟨I,m,g,A,r⟩:=x.listAt N;exact aq.lst R I m l g ⟨M5.bu R,AN H⟩ A<|r.le<|dT N O.aB
def V3.nil:V3 R l [] []:=λx I N h=>h.e0 (CL:=λN=>Nq (x.QA I O.aB) N []) Nq.nil
def V3.cons(h:Fr R l z z')(g:V3 R l us zs):V3 R l (z::us) (z'::zs):=λx N I r=>r.dp (CL:=λI=>Nq (x.QA N O.aB) I (z'::zs)) λu us a b=>Nq.cons (h x N u a) (g x N us b)
def Fr.tup(g:V3 R l us zs):Fr R l (Bg us) (Bg zs):=λx N v h=>by exact h.xb (C:=λv=>Rd (x.QA N O.aB) v (Bg zs)) λa I n e f m s=>aq.tup (x:=(x.QA N O.aB).toSt) a I n zs ((dT N O.aB).az a _ e f).1 ((dT N O.aB).az a _ e f).2 ((h.xb (C:=λZ=>us.length=zs.length) λa I n e f m s=>aO s.length (g x N I s).length:us.length=zs.length)▸m)<|g x N I s
def Fr.ghost(h:Fr R l z z')(N:σ R=U (AA l)):NN σ (σ.del R) z z':=λx v e I=>by subst e;exact .mk (x.QA N O.aB) H H (dT N O.aB)<|h x N v I
def Hs.low(h:Hs τ L σ)(e:τ R=U o):Hs (τ.set R o') L (σ.set R o'):=by
 have I:∀p∈L,p.1≠R:=λp m q=>aa<|aO (q▸(h.h p m).2) e
 refine⟨λb x q=>?_,λp m=>⟨(M5.aA _ (I p m)).trans (h.h p m).1,(M5.aA _ (I p m)).trans (h.h p m).2⟩,h.nd⟩
 by_cases N:b=R
 subst N;exact(M5.ag _ _).trans (aO (M5.ag _ _) q);exact(M5.aA _ N).trans<|h.k b x<|aO (M5.aA _ N) q
def Hs.zp(h:Hs τ L σ)(e:σ R=Y):Hs (τ.set R o) L (σ.set R o):=by
 have I:∀p∈L,p.1≠R:=λp m q=>nomatch (q▸(h.h p m).1).symm.trans e;refine⟨λb x q=>?_,λp m=>⟨(M5.aA _ (I p m)).trans (h.h p m).1,(M5.aA _ (I p m)).trans (h.h p m).2⟩,h.nd⟩
 by_cases N:b=R
 subst N;exact(M5.ag _ _).trans (aO (M5.ag _ _) q);exact(M5.aA _ N).trans<|h.k b x<|aO (M5.aA _ N) q
def Hs.abR(h:Hs (τ.set R o) L σ)(e:τ R=Y):Hs τ L (σ.del R):=by have I:∀p∈L,p.1≠R:=λp m q=>nomatch ((q▸(h.h p m).2).symm.trans (M5.ag R o));refine⟨λb x q=>?_,λp m=>⟨(M5.eX (I p m)).trans (h.h p m).1,(M5.aA _ (I p m)).symm.trans (h.h p m).2⟩,h.nd⟩;have N:b≠R:=λg=>nomatch (g▸q).symm.trans e;exact(M5.eX N).trans<|h.k b x<|(M5.aA _ N).trans q
def Dk.low(h:Dk τ D k σ)(e:τ R=U o):Dk (τ.set R o') D k (σ.set R o'):=Dk.casesOn h λC t I N h=>⟨C,t,I,N,h.low e⟩
def Dk.zp(h:Dk τ D k σ)(e:σ R=Y):Dk (τ.set R o) D k (σ.set R o):=Dk.casesOn h λC t I N h=>⟨C,t,I,N,h.zp e⟩
def Dk.abR(h:Dk (τ.set R o) D k σ)(e:τ R=Y):Dk τ D k (σ.del R):=Dk.casesOn h λC t I N h=>⟨C,t,I,N,h.abR e⟩
def Dk.keep(h:Dk τ D k σ):Keeps τ σ:=Dk.casesOn h λC t I N h=>h.k
abbrev ZD(D:AG)(d w:Nat):NF:=[NG D,NT d,NT w,Y,Y,Y,Y,Y,Y,Y,Y,Y,Y,Y,Y,Y,Y]
def bN{a b:M6}(N:a.length<=i)(I:b.length<=j):(a++b).length<=i+j:=(Ad ..)▸Ao N I
def bp{a b:M6}(N:a.length<=i)(I:b.length<=j)(h:DA (i+j) 16777216=J):a.length+b.length<=Nh:=Aa (Ao N I) (Ac h)
def uE:∀x∈Sq,(XJ x).length<=10:=by decide+kernel
variable{l d w':Nat}{ct nx:NF->M5->Prop}
def brb{Q:KE}(h:Q (W (sel c a b)) σ):br c (O7 B n (k+1) (JQ (W a)) ρ σ Q) (O7 B n (k+1) (JQ (W b)) ρ σ Q):=by cases c<;>exact h
abbrev S0Q(τ:M5)(D:AG)(l:Nat)(Q:KE):=∀s:S0,s.Ok->s.Sm->s.txt.length<=200->∀σ,Dk τ D l σ->Q s.v σ
def uF(h:Dk τ D l σ)(q:S0Q τ D l Q)(hif:decide (G d=G 0)=Am->Na (n+5) 58 (N6.body.drop 6) (ZD D d w') σ ⟨nx,Q,ct⟩):Na (n+5) 63 (N6.body.drop 1) (ZD D d w') σ ⟨nx,Q,ct⟩:=by
 refine fst<|aF (λZ=>?_) λZ=>rG<|aF (λZ=>?_) λZ=>rG<|aF (λZ=>?_) λZ=>rG<|aF (λZ=>?_) λZ=>rG<|aF (λZ=>?_) λZ=>?_
 ·refine d8 (n:=n+3) (xs:=texts.map W) ae ae h λx hx σ h=>?_;obtain⟨t,I,rfl⟩:=A0.mp hx;have q:=q (S0.text t) I Oq ((by decide+kernel:∀t∈texts,(ttx t).length<=200) t I) σ h
  change Q (Bg [W (ttx t),_,_]) σ at q
  delta ttx at q;refine aF (λe=>?_) λe=>?_;rw[show(t==[37])=J from e]at q;exact q;rw[show(t==[37])=Am from e]at q;exact q
 ·refine kr 2 2 H ae h λe C A σ h=>d8 (n:=n+3) (xs:=Sq.map S7) ae ae h λx hx σ h=>?_;obtain⟨x,I,rfl⟩:=A0.mp hx;have ok':=ou I;have tl:=e.b0 C;have q:=q (.Ws e x) ⟨C,I⟩ (Aa A ae) (by show(e.txt++XJ x).length<=200;rw[Ad];exact Aa (Ao (Aa tl (A2 16 (A:e.sz<=7))) (uE x I)) ae) σ h;have X:e.txt.length<=112:=Aa tl (A2 16 A);have wl:=uE x I
  change Q (Bg [W (e.txt++XJ x),_,Bg [e.v,S7 x]]) σ at q
  obtain⟨c,y,w,p⟩:=x;have ht:w<1099511627776:=Al ok'.w ae;have sl:∀{c:Bool} {a:M6} {k:Nat},a.length<=k->(sel c a []).length<=k:=λ{c a k} h=>by cases c;exact Aq _;exact h
  have f1:y.length<=1:=(by decide:∀x∈Sq,x.fl.length<=1) _ I;have wf:=cX Am 10 w ae ht;have c1:(sel ([45]==y|| ([43]==y||Am)) [58] []).length<=1:=sl (AH 1);have h3:=bN (bN (AH [37].length) c1) f1;have h4:=bN h3 (sl (c:=decide ((0:Int)<G w)) wf);refine aj H<|brb ⟨bp (AH _) c1 H,⟨bp (bN (AH _) c1) f1 H,?_⟩⟩
  generalize hK:Nl (Na (n+5) 57) _ _=K
  have N:∀z,z=sel (decide ((0:Int)<G w)) (QX Am 10 w) []->K.nx [NG D,NT d,NT w',Y,U e.v,U (S7 ⟨c,y,w,p⟩),N1 [c],N1 y,NT w,U (Q8 p),U (W ([37]++sel ([45]==y|| ([43]==y||Am)) [58] []++y++z)),Y,Y,Y,Y,Y,Y] σ:=λz ez=>by
   subst ez hK;refine nxd<|fst<|tc ⟨bp X h4 H,?_⟩
   have h5:=bN X h4
   cases p with
   |none=>refine⟨bp h5 (AH _) H,⟨bp (bN h5 (AH [].length)) (AH _) H,?_⟩⟩;rw[<-Ag,<-Ag]at q;exact q
   |some k=>have hk2:k<1099511627776:=Al ((ok'.p k H).2) ae;have kf:=cX Am 10 k ae hk2;refine cB (n:=n+4) hk2 ⟨bp (AH _) kf H,⟨bp h5 (bN (AH _) kf) H,⟨bp (bN h5 (bN (AH _) kf)) (AH _) H,?_⟩⟩⟩;rw[<-Ag,<-Ag]at q;exact q
  refine aF (λe2=>cB (n:=n+4) ht ⟨bp h3 wf H,N _ (by rw[show decide ((0:Int)<G w)=J from e2];rfl)⟩) λe2=>⟨bp h3 (AH _) H,N _ (by rw[show decide ((0:Int)<G w)=Am from e2];rfl)⟩
 refine kr (n:=n+1) 1 1 H ae h λe C A σ h=>?_;have X:e.txt.length<=48:=Aa (e.b0 C) (A2 16 A);exact tc ⟨bp X (AH _) H,q (.sgn e) C (Aa A ae) (Aa (bN X (AH _)) ae) σ h⟩;refine kr (n:=n+1) 1 1 H ae h λe C A σ h=>d8 (n:=n+3) (xs:=SJ.map bV) ae ae h λx hx σ h=>?_;obtain⟨c,I,rfl⟩:=A0.mp hx;have X:e.txt.length<=48:=Aa (e.b0 C) (A2 16 A);exact tc ⟨bp X (AH _) H,⟨bp (bN X (AH _)) (AH _) H,q (S0.set c e) ⟨I,C⟩ (Aa A ae) (Aa (bN (bN X (AH [37,80].length)) (AH [c].length)) ae) σ h⟩⟩;exact q S0.more Oq Oq ae σ h;refine aF (λZ=>q S0.more Oq Oq ae σ h) λe=>hif e
def ahc(ps:Ni):NJ [] ps=ps.flatten:=by
 cases ps with
 |nil=>rfl
 |cons x r=>show x++(r.map λy=>y).flatten=x++r.flatten;rw[List.map_id']
end
def S1.v_eq(s:S1):∃a o,s.v=Bg [W s.txt,a,o]:=by
 cases s with
 |s x=>cases x<;>exact⟨_,_,H⟩
 |j4 N=>exact⟨_,_,H⟩
structure BS (P:S1->Prop) (L:Nat) (ss:List S1) (l:Nat):Prop where
 ok:UJ ss
 p:∀s∈ss,P s
 z:PK ss+l<=L
 t:(N7 ss).length+200*l<=200*L
def BS.nil{P:S1->Prop}:BS P L [] L:=⟨λZ m=>M9 m Ay,λZ m=>M9 m Ay,Ap (A1 _),Ap (A1 _)⟩
def abS:∀a b,PK (a++b)=PK a+PK b:=λa b=>by
 induction a with
 |nil=>exact(A1 _).symm
 |cons s r N=>show s.sz+PK (r++b)=s.sz+PK r+PK b;rw[N,Bf]
def zq(a b:List S1):N7 (a++b)=N7 a++N7 b:=by delta N7;rw[AS,Mr]
def BS.snoc{P:S1->Prop}{s:S1}(h:BS P L ss (l+1))(ok:s.Ok)(p:P s)(z:s.sz+N<=l+1)(t:s.txt.length+200*N<=200*(l+1)):BS P L (ss++[s]) N:=by refine⟨λx m=>(BC.mp m).elim (h.ok x) λm=>AV.mp m▸ok,λx m=>(BC.mp m).elim (h.p x) λm=>AV.mp m▸p,?_,?_⟩;rw[abS];show PK ss+(s.sz+0)+N<=L;exact ax (Ao z h.z) aS;rw[zq,Ad,show N7 [s]=s.txt from Ax _];exact ax (Ao t h.t) aS
section
variable{D:AG}{L l d:Nat}{P:S1->Prop}
def agR{s:S1}(q:Q (W s.txt) σ):V9 B n s.v (Ar 0) σ Q:=by obtain⟨a,o,h⟩:=s.v_eq;rw[h];exact q
def agS{fn:Fn}{args ds full:LV}(b:List S)(s:S)(hf:fnT f Pk=U (fn,ds))(N:Oi args ds fn.np=U full)(X:fn.body=b++[s])
  (h:Na n 64 b (full.map U++A8 (fn.ns-fn.np) Y) σ ⟨VH n [s] (RT Q),Q,λZ Z=>False⟩):M8 B (n+1) f args σ Q:=λx=>λC e R=>Vd.call λA I=>ahG (kn x.F.fn hf) N (e▸(X▸yO gy 64 b h)) R I
abbrev StP(n:Nat)(D:AG)(d:Nat)(P:S1->Prop):=∀τ l σ Q,Dk τ D l σ->l<=6->(∀s,s.Ok->P s->∀l',s.sz+l'<=l+1->s.txt.length+200*l'<=200*(l+1)->∀σ,Dk τ D l' σ->Q s.v σ)->M8 B n 941 [Av D,Zy d] σ Q
abbrev blF:=Om (O9.body.drop 1)
def abT(X:StP n D d P)(hL:L<=6){K:Kt}(hA:τ A=Y):∀xs ss l σ y,ss.length+xs.length<=100->BS P L ss l->Dk (τ.set A (AA (ss.map S1.v))) D l σ->
  (∀ss l σ y,ss.length<=100->BS P L ss l->Dk (τ.set A (AA (ss.map S1.v))) D l σ->K.nx [NG D,NT d,Q3 2,NG A,y] σ)->forL (Na n 61 blF) (O2 n 61 (Eg 4)) K xs [NG D,NT d,Q3 2,NG A,y] σ:=λxs=>by
 induction xs with
 |nil=>exactλss l σ y hn I h q=>q ss l σ y hn I h
 |cons x xs ih=>
  intro ss l σ y hn I h q;have R:∀σ l,Dk (τ.set A (AA (ss.map S1.v))) D l σ->σ A=U (AA (ss.map S1.v)):=λσ l h=>h.keep _ _ (M5.ag _ _);have N:=hn;have h0:=h;obtain⟨C,t,cs,hc,h⟩:=h;refine au (ao (h.at 0 H)) (cv H) H<|aF (λe=>?_) λZ=>ih ss l σ (U x) (DR N) I h0 q
  cases l with
  |zero=>exact M9 (Od e) aG
  |succ l=>
   refine au (ao (h.at 0 H)) (cv H) H<|aJ (h.at 0 H) (cv H) ae ?_
   have h:Dk (τ.set A (AA (ss.map S1.v))) D l (σ.set D (AE (NX (B9 V2) (Ar (G (l+1)-1)) (XM C t (l+1))))):=⟨C,t,cs,hc,Lf (M7 (λz=>Hs _ [(D,AE (XM C t l)),(C,AA (cs.map Ar))] (σ.set D (AE z))) (M7 (λi=>[(B9 Xf,Av C),(B9 Ye,Ar t),(B9 V2,Ar i)]) (D6 (G l) 1):NX (B9 V2) (Ar (G (l+1)-1)) (XM C t (l+1))=XM C t l)) (h.upd 0 H (AE (XM C t l)))⟩;refine aK (ai (R _ _ h))<|X _ l _ _ h (Aa (Aa (B4 l) (Aa (Bl ..) I.z)) hL) λs ok p l' z t σ h=>av (R _ _ h) (Al (Ap (Ak ..)) (Al (Aa (AD ..) N) ae)) ?_
   have h:=h.low (o':=AA (ss.map S1.v++[s.v])) (M5.ag _ _);rw[M5.set_set,show ss.map S1.v++[s.v]=(ss++[s]).map S1.v from(AS (f:=S1.v) (l₁:=ss) (l₂:=[s])).symm]at h;rw[show ss.map S1.v++[s.v]=(ss++[s]).map S1.v from(AS (f:=S1.v) (l₁:=ss) (l₂:=[s])).symm];exact ih (ss++[s]) l' _ (U x) (by rw[Ad,Bf];exact(Bk 1 xs.length).symm▸N) (I.snoc ok p z t) h q
def Y4(l:List S):S:=match l.getLast? with
 |some s=>s
 |none=>.pass
def qX(R:StP (n+1) D d P)(X:L<=6)(h:Dk τ D L σ)(q:∀ss l σ,BS P L ss l->Dk τ D l σ->Q (Bg [W (N7 ss),BB (ss.map S1.v)]) σ):M8 B (n+2) 946 [Av D,Zy d,Ar 2] σ Q:=by refine agS (O9.body.take 2) (Y4 O9.body) H H H ⟨Aq _,AN λA I=>?_⟩;have N:=h.keep.none I;refine bt (k:=3) ae ae (h.zp I) λk x σ h=>⟨⟨AW k,Bq.mpr (Aa (B3 x) ae)⟩,abT R X N (OS (G k)) [] L σ Y ?_ BS.nil h λss l σ y hn C h=>?_⟩;rw[dy];exact Aa (Ap (A1 _)) (Aa (B3 x) ae);refine yP (j:=3) (a:=A) H (h.keep _ _ (M5.ag _ _)) (ad1 gy (kv:=64) (ck (bb (f:=S1.v) (g:=λs=>N1 s.txt) ss (λs Z c q=>agR q) ?_)));rw[show ss.filterMap (λs=>N1 s.txt)=(ss.map S1.txt).map W from(F3▸H:_=ss.map (λs:S1=>W s.txt)).trans (Bo).symm];refine⟨Aa (Ap ((Ak ..).trans (Ak ..))) (Aa hn ae),Aw (a7 H ?_ ?_)⟩;rw[ahc];exact Aa (Aa (AD ..) C.t) (Aa (A2 200 X) ae);rw[ahc];exact q ss l _ C (h.abR N)
def P0(s:S1):=∃x,s=.s x
def zw(C:List S0):N7 (C.map .s)=Pb C:=M7 List.flatten (Bo ..)
def P0.list:∀{ss},UJ ss->(∀s∈ss,P0 s)->∃C,ss=C.map .s/\Uz C:=λ{ss}=>by
 induction ss with
 |nil=>exactλZ Z=>⟨[],H,λZ m=>M9 m Ay⟩
 |cons s r I=>intro N h;obtain⟨R,q⟩:=Ae.mp h;obtain⟨y,A⟩:=Ae.mp N;obtain⟨x,rfl⟩:=R;obtain⟨C,rfl,X⟩:=I A q;exact⟨x::C,H,Ae.mpr ⟨y,X⟩⟩
abbrev ZE(D:AG)(w:Nat)(R:AG)(T:M6)(y13 y14 y15 y16:OV):NF:=[NG D,NT 1,NT w,Y,Y,Y,Y,Y,Y,Y,Y,NG R,N1 T,y13,y14,y15,y16]
variable{R:AG}{w j:Nat}{T:M6}{rs:LV}{K:Kt}{y13 y14 y15 y16:OV}
def aet:StP (n+6) D 0 P0:=λτ l σ Q h y q=>by
 refine ay H H<|bt ae ae h λw hw σ h=>?_
 generalize C:Nl (Na (n+5) 63) _ _=K
 have N:K.nx (ZD D 0 w) σ:=by subst C;exact nxd<|uF h (λx I X A σ h=>q (.s x) ⟨I,X⟩ ⟨x,H⟩ l (Ap (Bk ..)) (by rw[FV,Bk];exact AU A _) σ h) λe=>M9 H<|Pd e
 exact N
def uG(h:Dk τ D l σ)(X:l<=6)(q:∀C N σ,Uz C->C.length+N<=l->(Pb C).length+200*N<=200*l->Dk τ D N σ->Q (Bg [W (Pb C),Su C]) σ):M8 B (n+7) 946 [Av D,Zy 0,Ar 2] σ Q:=
 qX (aet) X h λy N σ I h=>by obtain⟨C,rfl,A⟩:=P0.list I.ok I.p;have:=q C N σ A (by have:=I.z;rwa [zm]at this) (by have:=I.t;rwa [zw]at this) h;rw[<-zw]at this;rw[Bo];exact this
def UA(j:Nat):=sel (decide ((0:Int)<G j)) [37,101] []
abbrev ifF:=Om (N6.body.drop 7)
def oG(h:Dk (τ.set R (AA rs)) D l σ)(hl:l<=6)(hT:T.length<=3000)(hr:rs.length<=100)
  (q:∀(e:Ex) C N σ y13 y14 y15,e.Ok->e.sz<=3->Uz C->C.length+N<=l->(Pb C).length+200*N<=200*l->Dk (τ.set R (AA (rs++[Bg [e.v,Su C]]))) D N σ->K.nx (ZE D w R (T++UA j++e.txt++[37,116]++Pb C) y13 y14 y15 y16) σ):
  Na (n+7) 55 ifF (ZE D w R T (NT j) y14 y15 y16) σ K:=by
 refine fst<|kr 1 1 H ae h λe I x σ h=>uG h hl λC N σ hC hz A h=>?_
 have tb:e.txt.length<=48:=Aa (e.b0 I) (A2 16 x);have sj:(UA j).length<=2:=by delta UA;cases decide ((0:Int)<G j)<;>decide
 have y:=bN hT sj;have X:=bN y tb;refine brb ⟨bp hT sj H,tc ⟨bp y tb H,⟨bp X (AH _) H,⟨bp (bN X (AH [37,116].length)) (Aa (Aa (AD ..) A) (A2 200 hl):(Pb C).length<=1200) H,?_⟩⟩⟩⟩;have hR:=h.keep _ _ (M5.ag _ _);refine aK (ai hR)<|av hR (Al hr ae) ?_
 have h:=h.low (o':=AA (rs++[Bg [e.v,Su C]])) (M5.ag _ _);rw[M5.set_set]at h;exact q e C N _ _ _ _ I x hC hz A h
variable{k i:Nat}{ρ:NF}{x:V}{xs:LV}{body:NF->M5->Kt->Prop}{bind:V->NF->M5->KR->Prop}{nx ct:NF->M5->Prop}
def zx(h:body (NM ρ i x) σ (T7 (forL body (O2 n (k+1) (.nm i)) K xs) K)):forL body (O2 n (k+1) (.nm i)) K (x::xs) ρ σ:=h
abbrev ZF:=[105,102]
def abU(h:Dk (τ.set R (AA rs)) D l σ)(q:l<=6)(I:T.length<=8000)
  (q0:∀σ,Dk (τ.set R (AA rs)) D l σ->Q (Bg [W (T++[37,59]),B9 ZF,Bg [Av R,Su []]]) σ)
  (q1:∀C N σ,Uz C->C.length+N<=l->(Pb C).length+200*N<=200*l->Dk (τ.set R (AA rs)) D N σ->Q (Bg [W (T++[37,101]++Pb C++[37,59]),B9 ZF,Bg [Av R,Su C]]) σ):
  Na (n+7) 56 (N6.body.drop 8) (ZE D w R T y13 y14 y15 Y) σ ⟨nx,Q,ct⟩:=by
 refine fst ⟨Aq _,Aw (bt (k:=2) ae ae h λk hk σ h=>aF (λZ=>?_) λZ=>⟨bp I (AH _) H,q0 σ h⟩)⟩;refine uG h q λC N σ hC hz A h=>?_;have y:=Aa (Aa (AD ..) A) (A2 200 q);have X:=bN I (AH [37,101].length);exact⟨bp I (AH _) H,⟨bp X y H,⟨bp (bN X y) (AH _) H,q1 C N σ hC hz A h⟩⟩⟩
variable{l':Nat}
def oH(e:xs=ys)(h:forL body bind K ys ρ σ):forL body bind K xs ρ σ:=e▸h
def zy(h:K.nx ρ σ):(T7 (forL body bind K []) K).nx ρ σ:=h
def V3.same{l:LV}:∀us,V3 R l us us:=λus=>by
 induction us with
 |nil=>exact .nil
 |cons u us N=>exact V3.cons .same N
abbrev PQ(Q:KE):KE:=λu τ=>∃z υ,NN τ υ u z/\Q z υ
abbrev StQ(τ:M5)(D:AG)(l:Nat)(Q:KE):=∀s:S1,s.Ok->∀l',s.sz+l'<=l+1->s.txt.length+200*l'<=200*(l+1)->∀σ,Dk τ D l' σ->Q s.v σ
def oJ(X:τ R=Y)(q:StQ τ D l Q)(N:Ch){T:M6}{l':Nat}(I:T=(Lb N).txt)(ok:N.Ok)(A:N.nn<=50)(z:N.sz+l'<=l+1)(t:(Lb N).txt.length+200*l'<=200*(l+1))
  (h:Dk (τ.set R (AA N.rows)) D l' σ):PQ Q (Bg [W T,B9 ZF,Bg [Av R,Su N.TG]]) σ:=by
 subst I;exact⟨(Lb N).v,σ.del R,Fr.ghost (.tup (V3.cons .same (V3.cons .same (V3.cons (.tup (V3.cons .ref (V3.cons .same .nil))) .nil)))) (h.keep _ _ (M5.ag _ _)),q (.j4 N) ⟨ok,A⟩ l' z t _ (h.abR X)⟩
def aeu:StP (n+8) D 1 (λZ=>True):=λτ l σ Q h hl q=>by
 have q:StQ τ D l Q:=λs ok l' z t σ h=>q s ok Oq l' z t σ h;refine Ny.post<|ay H H<|bt (n:=n+6) (k:=8) ae ae h λw hw σ h=>?_
 generalize hK:Nl (Na (n+7) 63) _ _=K
 have N:K.nx (ZD D 1 w) σ:=by
  subst hK;refine nxd<|uF (n:=n+2) (Q:=PQ Q) h (λx ok sm tl σ h=>⟨_,_,OK.refl.v,q (.s x) ⟨ok,sm⟩ l (Ap (Bk ..)) (by rw[FV,Bk];exact AU tl _) σ h⟩) λe=>?_
  show Na (n+7) 58 _ _ _ _;refine fst ⟨Aq _,AN λR hR=>?_⟩;have X:=h.keep.none hR;have h:=h.zp (o:=AA []) hR;generalize hK:Nl (Na (n+7) 57) _ _=K
  have N:K.nx (ZE D w R [37,63] Y Y Y Y) (σ.set R (AA [])):=by
   subst hK;refine aL<|bt (n:=n+6) (k:=2) ae ae h λk hk σ h=>?_
   generalize hK:Nl (Na (n+7) 56) _ _=K
   have E:∀(T:M6) (rs:LV) l σ y13 y14 y15,Dk (τ.set R (AA rs)) D l σ->l<=6->T.length<=8000->(∀σ,Dk (τ.set R (AA rs)) D l σ->PQ Q (Bg [W (T++[37,59]),B9 ZF,Bg [Av R,Su []]]) σ)->
     (∀C l' σ,Uz C->C.length+l'<=l->(Pb C).length+200*l'<=200*l->Dk (τ.set R (AA rs)) D l' σ->PQ Q (Bg [W (T++[37,101]++Pb C++[37,59]),B9 ZF,Bg [Av R,Su C]]) σ)->K.nx (ZE D w R T y13 y14 y15 Y) σ:=λT rs l σ y13 y14 y15 h hl hT q0 q1=>by
    subst hK;exact nxd<|abU h hl hT q0 q1
   have S:∀(e:Ex),e.Ok->e.sz<=3->e.txt.length<=48:=λe he A=>Aa (e.b0 he) (A2 16 A);have s0:(UA 0).length=0:=H;have s1:(UA 1).length=2:=H;refine lt2 hk ?_ ?_
   
   refine⟨by decide,oH (ys:=[Ar 0]) H (zx (oG (j:=0) h hl ae ae λe C l1 σ y13 y14 y15 he A hC hz ht h=>zy ?_))⟩;have tb:=S e he A;refine E _ _ l1 σ _ _ _ h (Aa (Aa (Bl ..) hz) hl) ?_ (λσ h=>oJ X q (Ch.last e C) ?_ ⟨he,Aa A ae,hC⟩ ae ?_ ?_ h) λC2 l2 σ hC2 I y h=>oJ X q (Ch.j5 e C C2) ?_ ⟨he,Aa A ae,hC,hC2⟩ ae ?_ ?_ h;simp only[Ad,Bn,B5];grind;simp[S1.txt,Ch.txt,UA,sel];show C.length+l1<=l+1;exact ax hz aS;simp only[S1.txt,Ch.txt,Ad,Bn,B5];exact ax (Ao ht tb) aS;simp[S1.txt,Ch.txt,UA,sel];show C.length+C2.length+l2<=l+1;exact ax (Ao hz I) aS;simp only[S1.txt,Ch.txt,Ad,Bn,B5];exact ax (Ao ht (Ao tb y)) aS
   
   refine⟨by decide,oH (ys:=[Ar 0,Ar 1]) H (zx (oG (j:=0) h hl ae ae λe C l1 σ y13 y14 y15 he A hC hz ht h=>?_))⟩;have tb:=S e he A;have hl1:l1<=6:=Aa (Aa (Bl ..) hz) hl;refine(oG (j:=1) h hl1 ?_ ae λe2 C2 l2 σ y13 y14 y15 he2 hs2 hC2 I y h=>zy ?_);simp only[Ad,Bn,B5];grind;have tb2:=S e2 he2 hs2;refine E _ _ l2 σ _ _ _ h (Aa (Aa (Bl ..) I) hl1) ?_ (λσ h=>oJ X q (Me e C (Ch.last e2 C2)) ?_ ⟨he,Aa A ae,hC,he2,Aa hs2 ae,hC2⟩ ae ?_ ?_ h) λC3 l3 σ hC3 hz3 ht3 h=>oJ X q (Me e C (Ch.j5 e2 C2 C3)) ?_ ⟨he,Aa A ae,hC,he2,Aa hs2 ae,hC2,hC3⟩ ae ?_ ?_ h;simp only[Ad,Bn,B5];grind;simp[S1.txt,Ch.txt,UA,sel];show C.length+C2.length+l2<=l+1;exact ax (Ao hz I) aS;simp only[S1.txt,Ch.txt,Ad,Bn,B5];exact ax (Ao ht (Ao tb (Ao y tb2))) aS;simp[S1.txt,Ch.txt,UA,sel];show C.length+(C2.length+C3.length)+l3<=l+1;exact ax (Ao hz (Ao I hz3)) aS;simp only[S1.txt,Ch.txt,Ad,Bn,B5];exact ax (Ao ht (Ao tb (Ao y (Ao tb2 ht3)))) aS
  exact N
 exact N
def Oc(l:M6):=∀c∈l,0<c/\c<256
def Oc.app(h:Oc a)(g:Oc b):Oc (a++b):=λc m=>(BC.mp m).elim (h c) (g c)
def Oc.cons(h:0<c/\c<256)(g:Oc a):Oc (c::a):=Ae.mpr ⟨h,g⟩
def Oc.nil:Oc []:=λZ m=>M9 m Ay
def Oc.one(h:0<c/\c<256):Oc [c]:=Oc.cons h .nil
def adw:Oc [37]:=Oc.one aG
def zA:∀c∈SJ,0<c/\c<256:=by decide
def aev:∀g∈ops,0<g.1/\g.1<256:=by decide
def Ex.oc:∀e:Ex,e.Ok->Oc e.txt:=λe=>by
 induction e with
 |num i t=>exactλh=>(by decide:∀e∈Sr,∀c∈37::e.2,0<c/\c<256) (i,t) h
 |par k=>exactλh=>Oc.cons aG (Oc.cons aG (Oc.one ⟨Bt _,AP (H6 (EZ h) 48) ae⟩))
 |len k=>exactλh=>Oc.cons aG (Oc.cons aG (Oc.cons ⟨Bt _,AP (H6 (EZ h) 48) ae⟩ (Oc.cons aG (Oc.one aG))))
 |var c=>exactλh=>Oc.cons aG (Oc.cons aG (Oc.one (zA c h)))
 |one s a A=>exactλh=>((A h.2).app adw).app (Oc.one ((by decide:∀s∈[33,126],0<s/\s<256) s h.1))
 |two g a b N I=>exactλh=>(((N h.2.1).app (I h.2.2)).app adw).app (Oc.one (aev g h.1))
def S0.oc:∀s:S0,s.Ok->Oc s.txt:=λs=>by
 cases s with
 |text t=>exact(by decide:∀t∈texts,∀c∈ttx t,0<c/\c<256) t
 |Ws e w=>exactλh=>(e.oc h.1).app ((by decide+kernel:∀w∈Sq,∀c∈XJ w,0<c/\c<256) w h.2)
 |sgn e=>exactλh=>(e.oc h).app (Oc.cons aG (Oc.one aG))
 |set c e=>exactλh=>((e.oc h.2).app (Oc.cons aG (Oc.one aG))).app (Oc.one (zA c h.1))
 |more=>exactλZ=>Oc.cons aG (Oc.one aG)
end
def uH{N:Type}{f:N->M6}:∀l:List N,(∀x∈l,Oc (f x))->Oc (l.map f).flatten:=λl=>by
 induction l with
 |nil=>exactλZ=>.nil
 |cons x l R=>intro h;obtain⟨A,I⟩:=Ae.mp h;exact A.app<|R I
def Uz.oc(h:Uz C):Oc (Pb C):=uH C λs m=>s.oc (h s m).1
def Ch.oc:∀N:Ch,N.Ok->Oc N.txt:=λN=>by
 induction N with
 |last e C=>exactλh=>(e.oc h.1).app (Oc.cons aG (Oc.cons aG h.2.2.oc))
 |j5 e C b=>exactλh=>(e.oc h.1).app (Oc.cons aG (Oc.cons aG (h.2.2.1.oc.app (Oc.cons aG (Oc.cons aG h.2.2.2.oc)))))
 |more e C r R=>exactλh=>(e.oc h.1).app (Oc.cons aG (Oc.cons aG (h.2.2.1.oc.app (Oc.cons aG (Oc.cons aG (R h.2.2.2))))))
def UJ.oc(h:UJ ss):Oc (N7 ss):=uH ss λs m=>by
 have h:=h s m
 cases s with
 |s x=>exact x.oc h.1
 |j4 N=>exact Oc.cons aG (Oc.cons aG ((N.oc h.1).app (Oc.cons aG (Oc.one aG))))
structure Tree (ss:List S1):Prop where
 ok:UJ ss
 z:PK ss<=6
 t:(N7 ss).length<=1200
section
variable{D:AG}{l:Nat}
def abV(h:Dk τ D l σ)(R:l<=6)(q:∀ss N σ,Tree ss->N<=l->Dk τ D N σ->Q (Bg [W (N7 ss),BB (ss.map S1.v)]) σ):M8 B (n+9) 946 [Av D,Zy 1,Ar 2] σ Q:=
 qX (aeu) R h λss N σ b h=>q ss N σ ⟨b.ok,Aa (Aa (AD ..) b.z) R,Aa (Aa (AD ..) b.t) (A2 200 R)⟩ (Aa (Bl ..) b.z) h
def Ra(c:Nat)(e:Bool):=sel (decide (G c=27)) [92,69] (sel ((44:Int)==G c|| ((92:Int)==G c|| ((94:Int)==G c||Am))) [92,c] (sel (decide (G c=32)&&e) [92,115] (sel (decide (G c=127)) [94,63] (sel (decide ((127:Int)<G c)) [92,48+c/64,48+c/8%8,48+c%8] (sel (decide (G c<32)) [94,c+64] [c])))))
def abW:∀c<256,∀e,0<c->(∀x∈Ra c e,0<x/\x<256)/\(Ra c e).length<=4:=by decide+kernel
def aew{a b n:Nat}(R:a<n)(N:b<n):∀x∈[a,b],x<n:=Ae.mpr ⟨R,Ae.mpr ⟨N,λZ m=>M9 m Ay⟩⟩
variable{c:Nat}{e:Bool}
def lM(h:0<c/\c<256)(q:Q (W (Ra c e)) σ):M8 B (n+1) 583 [Zy c,Bm e] σ Q:=by
 delta Ra at q;refine ay H H<|fst<|aF (λX=>by rw[show decide (G c=27)=J from X]at q;exact q) λX=>rG<|aj H<|aF (λy=>?_) λy=>?_
 rw[show decide (G c=27)=Am from X,show((44:Int)==G c|| ((92:Int)==G c|| ((94:Int)==G c||Am)))=J from y]at q;exact⟨Ac H,Aw (aH H (aew ae h.2) q)⟩;rw[show decide (G c=27)=Am from X,show((44:Int)==G c|| ((92:Int)==G c|| ((94:Int)==G c||Am)))=Am from y]at q
 change Q (W (sel _ _ _)) σ at q
 refine rG ?_;generalize hK:Nl (Na n 61) _ _=K
 have N:(decide (G c=32)&&e)=Am->K.nx [NT c,U (Bm e),Y] σ:=λI=>by
  rw[I]at q;subst hK;refine aL<|aF (λR=>by rw[show decide (G c=127)=J from R]at q;exact q) λR=>rG ?_
  rw[show decide (G c=127)=Am from R]at q;refine aF (λC=>?_) λC=>aF (λe6=>M9 (BP (Od e6)) (CR h.1)) λZ=>rG<|aF (λA=>?_) λA=>?_
  ·rw[show decide ((127:Int)<G c)=J from C]at q;refine aF (λZ=>m6 (b:=64) ae ae (m6 (b:=8) ae ae (lB (b:=8) ae (lB (b:=8) ae ⟨Ac H,Aw (aH H ?_ q)⟩)))) λe6=>M9 (Pd e6) λk=>k λk=>CR h.1<|BP k
   exact Ae.mpr ⟨Ac H,Ae.mpr ⟨AP (Fd (HZ (AP h.2 (by decide:256<=64*4))) 48) ae,aew (AP (Fd (De _ ae) 48) ae) (AP (Fd (De _ ae) 48) ae)⟩⟩
  rw[show decide ((127:Int)<G c)=Am from C,show decide (G c<32)=J from A]at q;exact⟨Ac H,Aw (aH H (aew ae (AP (H6 (BN.mp (Od A)) 64) ae)) q)⟩;rw[show decide ((127:Int)<G c)=Am from C,show decide (G c<32)=Am from A]at q;exact⟨Ac H,Aw (aH H (λx m=>AV.mp m▸h.2) q)⟩
 refine aF (λI=>aF (λR=>?_) λR=>?_) λI=>?_;subst hK;rw[show decide (G c=32)=J from I,show e=J from R]at q;exact q;exact N (by rw[show e=Am from R,GN]);exact N (by rw[show decide (G c=32)=Am from I];rfl)
end
abbrev idx:Nat->M6->List (Nat×Nat)
 |_,[]=>[]
 |k,c::r=>(k,c)::idx (k+1) r
def zB:∀l {k},Pf k (N9 l)=(idx k l).map λp=>Bg [Zy p.1,Zy p.2]:=λl=>by
 induction l with
 |nil=>exact H
 |cons c r N=>exact M7 (_::·) N
def abX{P:Nat->Prop}:∀l {k},(∀c∈l,P c)->∀p∈idx k l,P p.2:=λl=>by
 induction l with
 |nil=>exactλZ p m=>M9 m Ay
 |cons c r R=>intro k h;obtain⟨N,I⟩:=Ae.mp h;exact Ae.mpr ⟨N,R I⟩
def abY:∀l {k},(idx k l).length=l.length:=λl=>by
 induction l with
 |nil=>exact H
 |cons c r N=>exact M7 (· +1) N
@[reducible]nonrec def ends(z:Int)(k:Nat):=(0:Int)==G k|| (z== .ofNat k||Am)
abbrev encL(z:Int)(k:Nat)(l:M6):=(idx k l).map λp=>Ra p.2 (ends z p.1)
abbrev enc(l:M6):=(encL (G l.length-1) 0 l).flatten
def uI(z:Int):∀l {k},Oc l->Oc (encL z k l).flatten/\(encL z k l).flatten.length<=4*l.length:=λl=>by
 delta encL
 induction l with
 |nil=>exactλZ=>⟨Oc.nil,AH _⟩
 |cons c r I=>intro k h;obtain⟨R,N⟩:=Ae.mp h;obtain⟨o,m⟩:=abW c R.2 (ends z k) R.1;refine⟨Oc.app o (I N).1,?_⟩;show(Ra c (ends z k)++_).length<=4*(r.length+1);rw[Ad,FV,Bk];exact Ao (I N).2 m
section
variable{o:M6}
def jA(h:Oc o)(N:o.length<=2000)(q:Q (W (enc o)) σ):M8 B (n+3) 588 [W o] σ Q:=by
 refine ay H H<|ck ?_
 show Qm _ (Pf 0 (N9 o)) _ _;rw[zB];refine bb (β:=Nat×Nat) (g:=λp=>U (W (Ra p.2 (ends (G o.length-1) p.1)))) (idx 0 o) (λp m c q=>aj H (lM (abX o h p m) q)) ?_;rw[show(idx 0 o).filterMap (λp=>U (W (Ra p.2 (ends (G o.length-1) p.1))))=(encL (G o.length-1) 0 o).map W from(F3▸H:_=(idx 0 o).map _).trans Bo.symm];refine⟨Aa (Ap ((Ak ..).trans ((Ak ..).trans (abY o)))) (Aa N ae),Aw (a7 H ?_ ?_)⟩;rw[ahc];exact Aa (uI (G o.length-1) o h).2 (Aa (A2 4 N) ae);rw[ahc];exact q
def te:∀d<10,48+d=sg Am d:=by decide
variable{A:AG}{K:Kt}
def Y5:=PN.body.drop 3
def zC:∀ds x f,Rz 10 x ds->f.length+ds.length<Nh->(K.nx [NT m,NT 0,NG A] (σ.set A (AA (N9 (f++ds.map (sg Am))))))->Og n (PF Y5) (Pn Y5) [NT m,NT x,NG A] (σ.set A (AA (N9 f))) K:=λds=>by
 induction ds with
 |nil=>intro x f N R q;obtain rfl:x=0:=N;exact dN<|(Ax f)▸q
 |cons d ds I=>
  intro x f N R q;obtain⟨C,rfl,X⟩:=N;refine dN<|tt (N5 (BN.mpr C))<|aK (ai (M5.ag _ _))<|lB (b:=10) ae<|av (M5.ag _ _) (Al (Ap (Ak ..)) (Al (AD ..) R)) ?_
  rw[M5.set_set,show(N9 f++[Ar (48+G (x%10))])=N9 (f++[sg Am (x%10)])from(M7 (N9 f++·) (M7 (λk=>[Zy k]) (te _ (De x ae:x%10<10)))).trans (AS (f:=Zy) (l₁:=f) (l₂:=[sg Am (x%10)])).symm];exact m6 (b:=10) ae ae<|I _ _ X (by rw[Ad,Bf];exact(Bk 1 ds.length).symm▸R) (by rw[Ag];exact q)
def tf(h:m<1099511627776)(q:Q (W (QX Am 10 m)) σ):M8 B (n+1) 83 [Zy m] σ Q:=by
 have N:=d7 (b:=10) ae 40 (m/10) (Al (DV ..) h);refine Ny.cut<|ay H H<|lB (b:=10) ae ⟨Ac H,AN λA R=>m6 (b:=10) ae ae ?_⟩
 rw[show [Ar (48+G (m%10))]=N9 [sg Am (m%10)]from M7 (λk=>[Zy k]) (te _ (De m ae))];refine zC (dg 10 40 (m/10)) _ [sg Am (m%10)] N.1 (Al (AU N.2 1) ae)<|iK (ai (M5.ag _ _)) ⟨?_,Aw ?_⟩
 exact Aa (Ap ((BH ..).trans ((Ak ..).trans (M7 (· +1) (Ak ..)))))<|Aa (AX N.2) ae
 exact aH (M7 U ((DZ ..).symm)) (qP ae ae _ N.1) ⟨Keeps.refl.set R,q⟩
end
inductive Fv where
 |no
 |yes
 |num (m:Nat)
 |str (o:M6)
open Fv renaming yes->DX,num->Ed,str->F1,no->IQ
abbrev Fv.v:Fv->V
 |.no=>A5
 |.yes=>Bm J
 |.num m=>Zy m
 |.str o=>W o
def Fv.Ok:Fv->Prop
 |.num m=>m<1099511627776
 |.str o=>Oc o/\o.length<=2000
 |_=>True
abbrev Fv.txt:Fv->M6
 |.no=>[64]
 |.yes=>[]
 |.num m=>35::QX Am 10 m
 |.str o=>61::enc o
def Fv.b0:∀f:Fv,f.Ok->f.txt.length<=8001:=λf=>by
 cases f with
 |no=>exactλZ=>by decide
 |yes=>exactλZ=>by decide
 |num m=>exactλh=>Aa (AX (cX Am 10 m ae h)) ae
 |str o=>exactλh=>AX (Aa (uI _ o h.1).2 (A2 4 h.2))
section
variable{w:M6}
def zD:∀f:Fv,f.Ok->w.length<=1000->∀{Q:KE},Q (W (w++f.txt)) σ->M8 B (n+4) 595 [W w,f.v] σ Q:=λf N R Q q=>by
 have L:∀{l:M6},l.length<=8001->w.length+l.length<=Nh:=λh=>Aa (Ao R h) ae;have M:∀{a} {l},(a::l).length<=8001->(w++[a]).length+l.length<=Nh:=λ{a l} h=>by rw[Ad,Bf];exact Aa (Ao R (Aa (Ap (Bk 1 l.length)) h)) ae
 cases f with
 |no=>exact ay H H ⟨L ae,q⟩
 |yes=>exact ay H H (vV (by rw[show w++DX.txt=w from Ax w]at q;exact q))
 |num m=>
  refine ay H H<|yA<|iP ⟨L ae,tf N ⟨?_,?_⟩⟩
  exact M<|Fv.b0 (Ed m) N
  rw[Ag];exact q
 |str o=>
  refine ay H H<|vX<|gc ⟨L ae,jA N.1 N.2 ⟨?_,?_⟩⟩
  exact M<|Fv.b0 (F1 o) N
  rw[Ag];exact q
def Zq:=[(Ar 69,Ar 27),(Ar 101,Ar 27),(Ar 110,Ar 10),(Ar 108,Ar 10),(Ar 114,Ar 13),(Ar 116,Ar 9),(Ar 98,Ar 8),(Ar 102,Ar 12),(Ar 115,Ar 32)]
def Y6:=[(Ar 94,Ar 94),(Ar 92,Ar 92),(Ar 44,Ar 44),(Ar 58,Ar 58)]
abbrev sgD:=Zq++Y6
def gP(h:Nf 1 d=J):Keyed n (Ar i) d:=aC (c:=1) aG H h
variable{o r:M6}{a c s num:Nat}{S:AG}
def gg(h:o.drop a=x::s::r):decide (G o.length<=G a+1)=Am:=N8 λq=>E2 (qE (aw h)) (Bq.mp q)
def zE(q:∀S,σ S=Y->Q (Av S) (σ.set S (AE sgD))):M8 B (n+1) 515 [] σ Q:=by refine ay H H ⟨H,Ac H,AN λS N=>yk (ao (M5.ag _ _)) ⟨H,Ac H,Aw (qz (c:=1) (d:=Y6) (M5.ag _ _) aG H H ae ae ?_)⟩⟩;rw[M5.set_set];exact q S N
abbrev Xg(n:Nat)(o:M6)(a num:Nat)(S:AG)(σ:M5)(Q:KE):=M8 B (n+2) 522 [W o,Zy a,Zy num,Av S] σ Q
def abZ(N:σ S=U (AE sgD)):∀t∈[(69,27),(44,44),(92,92),(94,94),(115,32)],o.drop a=92::t.1::r->(∀p,o.drop p=r->Q (Bg [Zy t.2,Zy p]) σ)->Xg n o a num S σ Q:=by refine Ae.mpr ⟨λh q=>ay H H (ff (gg h) (ak (aD (aw h)) (ak (aD h) (ay H H (aN (ao N) (gP H) (au (ao N) (gP H) H (q (a+2) (aw (aw h))))))))),Ae.mpr ⟨λh q=>ay H H (ff (gg h) (ak (aD (aw h)) (ak (aD h) (ay H H (aN (ao N) (gP H) (au (ao N) (gP H) H (q (a+2) (aw (aw h))))))))),?_⟩⟩;refine Ae.mpr ⟨λh q=>ay H H (ff (gg h) (ak (aD (aw h)) (ak (aD h) (ay H H (aN (ao N) (gP H) (au (ao N) (gP H) H (q (a+2) (aw (aw h))))))))),Ae.mpr ⟨λh q=>ay H H (ff (gg h) (ak (aD (aw h)) (ak (aD h) (ay H H (aN (ao N) (gP H) (au (ao N) (gP H) H (q (a+2) (aw (aw h))))))))),?_⟩⟩;exact Ae.mpr ⟨λh q=>ay H H (ff (gg h) (ak (aD (aw h)) (ak (aD h) (ay H H (aN (ao N) (gP H) (au (ao N) (gP H) H (q (a+2) (aw (aw h))))))))),λZ h=>M9 h Ay⟩
def ab0(h:o.drop a=94::63::r)(q:∀p,o.drop p=r->Q (Bg [Zy 127,Zy p]) σ):Xg n o a num S σ Q:=
 ay H H (ff (gg h) (ak (aD (aw h)) (ak (aD h) (q (a+2) (aw (aw h))))))
def ab1(h:o.drop a=94::(c+64)::r)(h0:0<c)(R:c<32)(q:∀p,o.drop p=r->Q (Bg [Zy c,Zy p]) σ):Xg n o a num S σ Q:=by
 have e:=(by decide:∀c<32,JK (G (c+64)) 31=G c) c R;refine ay H H<|ff (gg h)<|ak (aD (aw h))<|ak (aD h)<|tt (N5 (Bq.mpr (Bl 64 c)))<|ff (M7 Bool.not (N5 (Bq.mpr (by exact ax R aS:c+64<=95)))) ?_
 refine aF (λN=>?_) λN=>?_;exact Lf (M7 (λi=>Q (Bg [Ar i,Zy (a+2)]) σ) e)<|q (a+2)<|aw<|aw h
 exact M9 (e▸BN.mpr h0:(0:Int)<_) λk=>Pd N<|Int.ne_of_gt k
end
section
variable{o r:M6}{a c x y z num:Nat}{D:AG}
def ab2(N:c<256):((0*8+G (48+c/64)-48)*8+G (48+c/8%8)-48)*8+G (48+c%8)-48=G c:=by revert c;decide+kernel
def qY(h:x<8)(q:Q (Bm J) σ):M8 B (n+1) 503 [Zy (48+x)] σ Q:=by exact ay H H<|tt (N5 (Bq.mpr (AD 48 x)))<|Lf (M7 (λb=>Q (Bm b) σ) (N5 (Bq.mpr (by exact ax h aS:48+x<=55)):decide (G (48+x)<=55)=J)) q
abbrev ZG(o:M6)(a num:Nat)(D:AG)(s p:Nat)(v:Int):NF:=[N1 o,NT a,NT num,NG D,NT s,NT p,Q3 v]
def XN:=Rl.body.drop 5
def lN{K:Kt}(h:o.drop p=(48+x)::l)(N:x<8)(hp:p<a+4)(q:Og (n+1) (PF XN) (Pn XN) (ZG o a num D s (p+1) (v*8+G (48+x)-48)) σ K):
  Og (n+1) (PF XN) (Pn XN) (ZG o a num D s p v) σ K:=by
 refine dN<|tt (bS h)<|tt (N5 (BN.mpr hp))<|ak (aD h)<|qY N ?_
 refine⟨AN ae,ak (aD h) q⟩
def ab3(h:o.drop a=92::(48+c/64)::(48+c/8%8)::(48+c%8)::r)(h0:0<c)(N:c<256)(q:∀p,o.drop p=r->Q (Bg [Zy c,Zy p]) σ):Xg n o a num D σ Q:=by
 have I:c/64<8:=BG (HZ (AP N (by decide:256<=64*4))) ae;have R:=aw h;have X:=aw R;have A:=aw X;refine ay H H<|ff (gg h)<|ak (aD R)<|ak (aD h)<|qY I<|lN R I aS<|lN X (De _ ae) aS<|lN (p:=a+3) A (De _ ae) aS ?_
 have e:=ab2 N;generalize C:Nl (Na (n+1) 58) _ _=K
 have T:∀v,v=G c->K.nx (ZG o a num D (48+c/64) (a+4) v) σ:=λv e=>by subst e C;exact aL<|ff (N8 λk=>E2 N (BN.mp k))<|aF (λZ=>q (a+4) (aw A)) λe1=>M9 (Pd e1) λk=>k λk=>CR h0<|BP k
 exact dN<|aF (λZ=>ff (N8 (Int.lt_irrefl _)) (T _ e)) λZ=>T _ e
end
set_option synthInstance.maxSize 100000 in
set_option synthInstance.maxHeartbeats 0 in
def qZ:∀c<256,∀e,0<c->([(69,27),(44,44),(92,92),(94,94),(115,32)].any (λt=>t.2==c&&Ra c e==[92,t.1])=J)\/(c=127/\Ra c e=[94,63])\/(c<32/\Ra c e=[94,c+64])\/Ra c e=[92,48+c/64,48+c/8%8,48+c%8]\/(c≠92/\c≠94/\Ra c e=[c]):=by decide+kernel
section
variable{o r:M6}{c num:Nat}{R D:AG}{z:Int}
abbrev ZH(o:M6)(num:Nat)(R:AG)(p:Nat)(D:AG)(y:OV):NF:=[N1 o,NT num,NG R,NT p,NG D,y]
abbrev isW:=Rm.body.drop 1
def ab4{K:Kt}:∀l {k} {f} {p} {τ} {y},Oc l->o.drop p=(encL z k l).flatten->f.length+l.length<Nh->Hs σ [(R,AA (N9 f)),(D,AE sgD)] τ->(∀p τ y,Hs σ [(R,AA (N9 (f++l))),(D,AE sgD)] τ->K.nx (ZH o num R p D y) τ)->Og (n+2) (PF isW) (Pn isW) (ZH o num R p D y) τ K:=λl=>by
 induction l with
 |nil=>exactλ{k f p τ y} _ I _ h q=>dN (ff (gf I) ((Ax f▸q) p τ y h))
 |cons c l ih=>
  intro k f p τ y hl I C h q;obtain⟨A,h2⟩:=Ae.mp hl;have I:o.drop p=Ra c (ends z k)++(encL z (k+1) l).flatten:=I;have X:(N9 f).length<Nh:=Al (Ap (Ak ..)) (Al (AD ..) C);have ec:N9 f++[Zy c]=N9 (f++[c]):=(AS (f:=Zy) (l₁:=f) (l₂:=[c])).symm
  have N:∀p y,o.drop p=(encL z (k+1) l).flatten->Og (n+2) (PF isW) (Pn isW) (ZH o num R p D y) (τ.set R (AA (N9 f++[Zy c]))) K:=λp y I=>by have h:=h.upd 0 H (AA (N9 f++[Zy c]));rw[ec]at h⊢;exact ih h2 I (by rw[Ad,Bf];exact(Bk 1 l.length).symm▸C) h λp τ y h=>q p τ y (by rw[Ag]at h;exact h)
  have E:∀x∈[92,94],∀w,o.drop p=x::w->(∀Q,(∀p,o.drop p=(encL z (k+1) l).flatten->Q (Bg [Zy c,Zy p]) τ)->Xg n o p num D τ Q)->Og (n+2) (PF isW) (Pn isW) (ZH o num R p D y) τ K:=λx hx w hw e=>by
   refine dN<|tt (bS hw)<|ak (aD hw)<|aj H<|tt ?_<|e _ λp I=>aK (ai (h.at 0 H))<|av (h.at 0 H) X<|N p _ I
   rcases AQ.mp hx with rfl|hx
   rfl
   rw[AV.mp hx];rfl
  rcases qZ c A.2 (ends z k) A.1 with e|⟨rfl,e⟩|⟨hc,e⟩|e|⟨n1,n2,e⟩
  obtain⟨t,m,e⟩:=Ho.mp e;obtain⟨e1,e⟩:=(AR ..).mp e;obtain rfl:=N2 e1;rw[N2 e]at I;exact E 92 aG _ I λQ q=>abZ (h.at 1 H) t m I q;rw[e]at I;exact E 94 aG _ I λQ q=>ab0 I q;rw[e]at I;exact E 94 aG _ I λQ q=>ab1 I A.1 hc q;rw[e]at I;exact E 92 aG _ I λQ q=>ab3 I A.1 A.2 q;rw[e]at I;refine dN<|tt (bS I)<|ak (aD I)<|aj H<|ff ?_ ?_
  show((92:Int)==G c|| ((94:Int)==G c||Am))=Am;rw[show((92:Int)==G c)=Am from beq_eq_false_iff_ne.mpr λk=>n1 (BP k).symm,show((94:Int)==G c)=Am from beq_eq_false_iff_ne.mpr λk=>n2 (BP k).symm];rfl;refine aK (ai (h.at 0 H))<|ak (aD I)<|tt (N5 λk=>CR A.1 (BP k))<|ak (aD I)<|av (h.at 0 H) X<|N (p+1) _<|aw I
variable{s:M6}
def lO(h:Oc s)(A:s.length<=2000)(q:Q (W s) σ):M8 B (n+3) 529 [W (enc s),Zy num] σ Q:=by exact Ny.cut<|ay H H ⟨Aq _,AN λR X=>zE λD I=>(ab4 s (f:=[]) (p:=0) h H (Al (Ap (A1 _)) (Al A ae)) ((Hs.nil.new X).new I).rev λp τ y N=>(aH (ai (N.at 0 H)) (λc m=>(h c m).2) ⟨N.k,q⟩))⟩
abbrev unf(v:Int)(l:M6):Int:=l.foldl (λv d=>v*10+G d) v
end
def zF:∀r {x},Rz 10 x r->unf 0 r.reverse=G x/\(∀d∈r,d<10)/\(r=[]\/∃t d,r.reverse=(d+1)::t):=λr=>by
 induction r with
 |nil=>exactλ{x} h=>⟨M7 G (h:x=0).symm,λZ m=>M9 m Ay,Aw H⟩
 |cons d r C=>
  intro x h;obtain⟨X,rfl,I⟩:=h;obtain⟨R,y,N⟩:=C I;refine⟨?_,Ae.mpr ⟨De x ae,y⟩,AN ?_⟩;dsimp only[unf]at R⊢;rw[BF,Dr,R];show G (x/10*10+x%10)=_;rw[JV x 10];rcases N with rfl|⟨t,e,N⟩
  have A:=JV x 10;rw[show x/10=0 from I,Nat.zero_mul,A1]at A;refine⟨[],x-1,?_⟩;rw[A];exact M7 (λz=>[z]) (IT X).symm;exact⟨t++[x%10],e,by rw[BF,N];rfl⟩
def ku(h:m<1099511627776):∃E,QX Am 10 m=E.map (48+·)/\unf 0 E=G m/\(∀d∈E,d<10)/\E.length<=41/\((∃d,E=[d])\/∃t d,E=(d+1)::t):=by
 have I:=d7 (b:=10) ae 40 (m/10) (Al (DV ..) h);obtain⟨A,C,X⟩:=zF _ I.1;have N:∀d∈m%10::dg 10 40 (m/10),d<10:=Ae.mpr ⟨De m ae,C⟩;refine⟨(m%10::dg 10 40 (m/10)).reverse,?_,?_,?_,?_,?_⟩;delta QX OE;rw[DZ];exact M7 List.reverse<|Ie λd R=>(te d (N d R)).symm
 dsimp only[unf]at A⊢;rw[BF,Dr,A];show G (m/10*10+m%10)=_;rw[JV m 10];exactλd R=>N d (EW.mp R);rw[BH];exact AX I.2;rcases X with e|⟨t,d,e⟩
 rw[e];exact Aw ⟨_,H⟩;exact AN ⟨t++[m%10],d,by rw[BF,e];rfl⟩
section
variable{x num:Nat}{o:M6}
def aex(h:x<10)(q:Q (Zy x) σ):M8 B (n+1) 90 [Zy (48+x)] σ Q:=by
 refine ay H H<|tt (N5 (Bq.mpr (AD 48 x)))<|tt (N5 (Bq.mpr (by exact ax h aS:48+x<=57))) ?_
 exact Lf (M7 (λi=>Q (Ar i) σ) (by simp only[Int.ofNat_eq_natCast];grind:G (48+x)-48=.ofNat x)) q
def Zr:=Om (Rn.body.drop 3)
def zG{K:Kt}:∀E {v} {y5 y6},(∀d∈E,d<10)->(∀y5 y6,K.nx [N1 o,NT num,Q3 10,N1 o,Q3 (unf v E),y5,y6] σ)->forL (Na (n+1) 59 Zr) (O2 (n+1) 59 (Eg 5)) K (N9 (E.map (48+·))) [N1 o,NT num,Q3 10,N1 o,Q3 v,y5,y6] σ:=λE=>by
 induction E with
 |nil=>exactλ{v y5 y6} _ q=>q y5 y6
 |cons d E I=>intro v y5 y6 h q;obtain⟨N,R⟩:=Ae.mp h;refine aex N<|ff (N8 λk=>E2 N (Bq.mp k)) ⟨AN ae,I R q⟩
def aey:∀E:M6,(∀d∈E,d<10)->([48,120]==(E.map (48+·)).take 2|| ([48,88]==(E.map (48+·)).take 2||Am))=Am:=λE h=>by
 match E,h with
 | [],_=>rfl
 | [a],_=>show([48,120]==[48+a]|| ([48,88]==[48+a]||Am))=Am;simp
 |a::b::r,h=>have N:=h b (Au _ (As ..));show([48,120]==[48+a,48+b]|| ([48,88]==[48+a,48+b]||Am))=Am;simp;constructor<;>exactλZ e=>M9 (Al (Ap e) (Fd N 48)) (by decide)
variable{m:Nat}
def lP(h:m<2147483648)(q:Q (Zy m) σ):M8 B (n+2) 536 [W (QX Am 10 m),Zy num] σ Q:=by
 obtain⟨E,C,X,R,e4,I⟩:=ku (BG h ae);have A:E.map (48+·)≠[]:=by rcases I with⟨d,rfl⟩|⟨t,d,rfl⟩<;>exact Dh _ _
 rw[C];refine ay H H<|aM H H<|aj H<|ff ?_ ?_
 rw[show NP (E.map (48+·)) Y (U 2)=_ from a9 _ 2];exact(aey E R);generalize y:Nl (Na (n+1) 62) _ _=K
 have N:K.nx [N1 (E.map (48+·)),NT num,Q3 10,N1 (E.map (48+·)),Y,Y,Y] σ:=by
  subst y;refine zG E R λy5 y6=>?_;rw[X];generalize E.map (48+·)=w at A
  cases w with
  |nil=>exact M9 H A
  |cons c w=>exact ff (N8 λk=>E2 h (BN.mp k)) q
 rcases I with⟨d,rfl⟩|⟨t,d,rfl⟩
 exact N;refine aF (λZ=>ff (N8 λk=>?_) N) λZ=>N;exact M9 (Nat.add_left_cancel (BP k:48+(d+1)=48+0))<|Nat.succ_ne_zero d
def WB(c:Nat):=decide ((33:Int)<=G c)&&decide (G c<=126)&&!([44,124,92,94].contains c)
end
section
variable{w:M6}{num:Nat}
abbrev nmF:=Om Sz.body
def ab5{K:Kt}:∀w {y},w.all WB=J->(∀y,K.nx [N1 o,NT num,y] σ)->forL (Na n 62 nmF) (O2 n 62 (Eg 2)) K (N9 w) [N1 o,NT num,y] σ:=λw=>by
 induction w with
 |nil=>exactλ{y} _ q=>q y
 |cons c w X=>
  intro y h q;obtain⟨N,I⟩:=(AR ..).mp h;obtain⟨N,A⟩:=(AR ..).mp N;obtain⟨C,R⟩:=(AR ..).mp N;refine tt C<|ff ((M7 Bool.not R:_=Am)) ⟨Al (Bq.mp (Od R)) ae,ff ?_ (X I q)⟩
  exact(BM _).mp A
def iY(h:w.all WB=J)(N:w≠[])(q:Q (W w) σ):M8 B (n+1) 543 [W w,Zy num] σ Q:=by
 refine ay H H<|ab5 w h λy=>?_
 cases w with
 |nil=>exact M9 H N
 |cons c w=>exact q
def VM(c:Nat):=[35,61,64].contains c
variable{t:M6}{s:Nat}
abbrev spF:=Om RM.body
def q6{K:Kt}:∀w {r} {k} {y z},(∀c∈w,VM c=Am/\c<256)->(∀y z,forL (Na n 62 spF) (O2 n 62 (Ln [Eg 2,Eg 3])) K (Pf (k+w.length) r) [N1 o,NT num,y,z] σ)->forL (Na n 62 spF) (O2 n 62 (Ln [Eg 2,Eg 3])) K (Pf k (N9 w++r)) [N1 o,NT num,y,z] σ:=λw=>by
 induction w with
 |nil=>exactλ{r k y z} _ q=>q y z
 |cons c w I=>intro r k y z h q;obtain⟨N,R⟩:=Ae.mp h;refine⟨N.2,ff N.1 (I R λy z=>?_)⟩;have:=q y z;rw[show k+(c::w).length=k+1+w.length from(Bf k 1 _▸M7 (k+·) (Bk ..))]at this;exact this
def ab6{l r:M6}(h:l.drop k=c::r):NP l (U (G k)) (U (G (k+1)))=[c]:=by
 have N:=qE h;show(l.drop (HU l.length (k:Nat))).take (HU l.length ((k+1:Nat):Int)-HU l.length (k:Nat))=_;rw[JC,JC,DU (B3 N),DU N,h,show k.succ-k=1 from Hu k 1]
 rfl
def nc(e:u=w)(h:w.all WB=J)(N:w≠[])(q:Q (W w) σ):M8 B (n+1) 543 [W u,Zy num] σ Q:=by subst e;exact iY h N q
def iZ(h:w.all WB=J)(A:w≠[])(I:∀c∈w,VM c=Am/\c<256)(N:VM s=J/\s<256)(q:Q (Bg [W w,W [s],W t]) σ):M8 B (n+2) 550 [W (w++s::t),Zy num] σ Q:=by
 have R:(w++s::t).drop w.length=s::t:=FP ..;refine ay H H<|oH (M7 (Pf 0) (AS .. :N9 (w++s::t)=N9 w++N9 (s::t)))<|q6 w I λy z=>?_
 rw[A1];refine⟨N.2,tt N.1 (aM H H (nc ((a9 _ _).trans (HN ..)) h A (aM H H (aM H H ?_))))⟩;show Q (Bg [W w,W (NP (w++s::t) (U (G w.length)) (U (G (w.length+1)))),W (NP (w++s::t) (U (G (w.length+1))) Y)]) σ;rw[ab6 R,ie,aw R];exact q
def wD(h:w.all WB=J)(I:w≠[])(R:∀c∈w,VM c=Am/\c<256)(N:NL [32,9,13] w=w)(q:Q (Bg [W w,W [],W []]) σ):M8 B (n+3) 550 [W w,Zy num] σ Q:=
 ay H H (oH (M7 (Pf 0) (Ax _).symm) (q6 w R λy z=>ahh (bR (nc N h I q))))
def Sf(l:M6):=∀P:M6->Prop,P []->(∀x y r,x∈[92,94]->P r->P (x::y::r))->(∀c r,c≠92->c≠94->c≠44->P r->P (c::r))->P l
def Sf.nil:Sf []:=λP h Z Z=>h
def Sf.app(h:Sf a)(g:Sf b):Sf (a++b):=h (λl=>Sf (l++b)) g (λx y r X k P I N R=>N x y _ X (k P I N R)) λc r A C q k P I N R=>R c _ A C q (k P I N R)
variable{o b:M6}{R:AG}
abbrev XO(o:M6)(num:Nat)(R:AG)(g p:Nat):NF:=[N1 o,NT num,NG R,NT g,NT p]
def V4:=Rk.body.drop 1
def aez{K:Kt}(h:o.drop p=x::r)(hx:x∈[92,94])(q:Og n (PF V4) (Pn V4) (XO o num R 0 (p+2)) σ K):Og n (PF V4) (Pn V4) (XO o num R 0 p) σ K:=by
 refine dN<|tt (bS h)<|ak (aD h)<|aj H<|tt ?_ q
 rcases AQ.mp hx with rfl|hx
 rfl
 rw[AV.mp hx];rfl
def agT(I:c≠92)(N:c≠94):((92:Int)==G c|| ((94:Int)==G c||Am))=Am:=by rw[show((92:Int)==G c)=Am from beq_eq_false_iff_ne.mpr λk=>I (BP k).symm,show((94:Int)==G c)=Am from beq_eq_false_iff_ne.mpr λk=>N (BP k).symm];rfl
def aeA{K:Kt}(h:o.drop p=c::r)(A:c≠92)(N:c≠94)(I:c≠44)(q:Og n (PF V4) (Pn V4) (XO o num R 0 (p+1)) σ K):Og n (PF V4) (Pn V4) (XO o num R 0 p) σ K:=
 dN (tt (bS h) (ak (aD h) (aj H (ff (agT A N) (ak (aD h) (ff (N8 λk=>I (BP k)) q))))))
def ab7{K:Kt}(hb:Sf b)(I:o=b++[44])(h:σ R=U (AA []))(q:K.nx (XO o num R o.length o.length) (σ.set R (AA [W b]))):Og n (PF V4) (Pn V4) (XO o num R 0 0) σ K:=by
 have E:∀p,o.drop p=[44]->Og n (PF V4) (Pn V4) (XO o num R 0 p) σ K:=λp N=>by
  have X:o.length=p+1:=by have:=M7 CH N;rw[Cz]at this;exact(Nat.sub_eq_iff_eq_add (B3 (qE N))).mp this|>.trans (Bk ..)
  have A:o.take p=b:=by have:=EH p o;rw[N,I]at this;exact I▸(List.append_cancel_right this)
  refine dN<|tt (bS N)<|ak (aD N)<|aj H<|ak (aD N)<|aK (ai h)<|aM H H ?_
  rw[show NP o (U (G 0)) (U (G p))=b from(a9 o p).trans A];refine av h ae ?_;rw[X]at q;exact dN<|ff (gf (aw N)) q
 exact hb (λl=>∀p,o.drop p=l++[44]->Og n (PF V4) (Pn V4) (XO o num R 0 p) σ K) E (λx y r hx k p N=>aez N hx (k (p+2) (aw (aw N)))) (λc r n1 C n3 k p N=>aeA N n1 C n3 (k (p+1) (aw N))) 0 I
def nf(I:Sf b)(q:Q (BB [W (Ob [32,9,13] b)]) σ):M8 B (n+3) 508 [W (b++[44]),Zy num] σ Q:=by
 refine Ny.cut<|ay H H ⟨Aq _,AN λR X=>ab7 I H (M5.ag _ _) ?_⟩
 rw[M5.set_set];have e:NP (b++[44]) (U (G (b++[44]).length)) Y=[]:=(ie _ _).trans (Jy ..);refine aM H H<|ahr ?_
 rw[e];refine cH ?_;generalize A:Nl (Na (n+2) 61) _ _=K
 have N:K.nx (XO (b++[44]) num R (b++[44]).length (b++[44]).length) (σ.set R (AA [W b])):=by subst A;show Ta ((σ.set R (AA [W b])) R) ((σ.set R (AA [W b])).del R) _;rw[M5.ag,M5.eY X];exact ah0<|qj ⟨Ac H,Aw ⟨Keeps.refl,q⟩⟩
 exact N
def oK(h:x∈[92,94]):Sf [x,y]:=λP N I Z=>I x y [] h N
def eu(C:c≠92)(N:c≠94)(A:c≠44):Sf [c]:=λP I Z X=>X c [] C N A I
def zH(h:x<8):Sf [48+x]:=eu aS aS aS
def ab8(h:0<c/\c<256):Sf (Ra c e):=by
 rcases qZ c h.2 e h.1 with k|⟨rfl,k⟩|⟨A,k⟩|k|⟨N,I,k⟩
 obtain⟨t,m,k⟩:=Ho.mp k;rw[N2 ((AR ..).mp k).2];exact oK aG;rw[k];exact oK aG;rw[k];exact oK aG;rw[k];exact(oK aG).app<|(zH (De (c/8) ae)).app<|zH<|De c ae
 rw[k];refine eu N I λq=>?_;subst q
 cases e<;>exact M9 k aG
def ab9(z:Int):∀l {k},Oc l->Sf (encL z k l).flatten:=λl=>by
 delta encL
 induction l with
 |nil=>exactλZ=>Sf.nil
 |cons c r A=>intro k h;obtain⟨I,N⟩:=Ae.mp h;exact(ab8 I).app<|A N
end
def zI:∀w,w.all WB=J->Sf w:=λw=>by
 induction w with
 |nil=>exactλZ=>Sf.nil
 |cons c r A=>
  intro h;obtain⟨I,R⟩:=(AR ..).mp h;have X:=(BM _).mp ((AR ..).mp I).2
  have N:∀x∈[44,124,92,94],c≠x:=λx m e=>by subst e;exact A9 (aO X (Ci.mpr m))
  exact(eu (N 92 aG) (N 94 aG) (N 44 aG)).app<|A R
def aca:∀E:M6,(∀d∈E,d<10)->Sf (E.map (48+·)):=λE=>by
 induction E with
 |nil=>exactλZ=>Sf.nil
 |cons d r R=>intro h;obtain⟨I,N⟩:=Ae.mp h;exact(eu aS aS aS:Sf [48+d]).app<|R N
def aeB(h:m<1099511627776):Sf (QX Am 10 m):=by obtain⟨E,R,_,N,_⟩:=ku h;rw[R];exact aca E N
def Fv.sf:∀f:Fv,f.Ok->Sf f.txt:=λf=>by
 cases f with
 |no=>exactλZ=>eu aG aG aG
 |yes=>exactλZ=>Sf.nil
 |num m=>exactλh=>(eu aG aG aG).app (aeB h)
 |str o=>exactλh=>(eu aG aG aG).app (ab9 _ o h.1)
section
variable{w:M6}
def oL(h:∀c∈w,c<256)(N:w.length<=1000)(q:Q (W w) σ):M8 B (n+1) 76 [B9 w] σ Q:=by
 refine ay H H<|bb (g:=λc=>NT c) w (λc m k q=>k8 (tt (N5 (BN.mpr (h c m))) (k8 q))) ?_
 rw[show w.filterMap (λc=>NT c)=N9 w from F3▸H];exact⟨Aa (Ap (Ak ..)) (Aa N ae),Aw (aH H h q)⟩
def UB(x:M6):Int:=Yd x [58]
def Vj(x:M6)(p:Int):Int×M6:=match decide (UB x≥0)with
 |true=>((J8 ⟨(TB x Y (U (UB x))).toArray⟩).getD 0,TB x (U (UB x+1)) Y)
 |false=>(p,x)
def XR(x:M6):=(!decide (UB x≥0)|| (J8 ⟨(TB x Y (U (UB x))).toArray⟩).isSome&&DA (TB x Y (U (UB x))).length 640)&&((Vj x 0).2.all λc=>Ey c 256)&&DA (Vj x 0).2.length 1000
def adx(x:M6)(p:Int):(Vj x p).2=(Vj x 0).2:=by delta Vj;cases decide (UB x≥0)<;>rfl
abbrev plc:Ni->Int->NW->NW
 | [],_,d=>d
 |x::r,p,d=>plc r ((Vj x p).1+1) (NX (W (Vj x p).2) (Ar (Vj x p).1) d)
variable{D:AG}{o:M6}
abbrev plF:=Om (Ri.body.drop 1)
def acb{K:Kt}{d:NW}(C:XR x=J)(hk:Nf 3 d=J)(hl:d.length<Nh)
  (q:∀y z,K.nx [U (B9 o),NG D,Q3 ((Vj x p).1+1),y,z] (σ.set D (AE (NX (W (Vj x p).2) (Ar (Vj x p).1) d)))):Na (n+1) 61 plF [U (B9 o),NG D,Q3 p,U (B9 x),z] (σ.set D (AE d)) K:=by
 obtain⟨R,h2⟩:=(AR ..).mp C;obtain⟨R,h3⟩:=(AR ..).mp R;refine abh<|sO<|aL ?_
 generalize hK:Nl (Na (n+1) 59) _ _=K2
 have N:∀w i y,(i,w)=Vj x p->K2.nx [U (B9 o),NG D,Q3 i,U (B9 w),y] (σ.set D (AE d)):=λw i y e=>by
  obtain rfl:(Vj x p).1=i:=M7 Az e.symm;obtain rfl:(Vj x p).2=w:=M7 FH e.symm;subst hK;refine aL<|oL (λc m=>Ac (A3.mp h3 c (adx x p▸m)):∀c∈(Vj x p).2,c<256) (by rw[adx];exact Ac h2:(Vj x p).2.length<=1000) ?_
  refine aJ (M5.ag _ _) (aC (c:=3) aG H hk) hl ?_;rw[M5.set_set];exact q _ _
 delta Vj at N;refine aF (λe=>?_) λe=>?_
 ·rw[show decide (UB x≥0)=J from e]at N R;obtain⟨X,A⟩:=(AR ..).mp R;obtain⟨i,I⟩:=DD.mp X;refine ub H H<|sH I (Ac A)<|ub H H ?_
  exact N _ i _ (by show(i,_)=(Option.getD _ 0,_);rw[I];rfl)
 rw[show decide (UB x≥0)=Am from e]at N;exact N _ _ _ H
def acd{K:Kt}:∀xs {p} {y z} {d},(∀x∈xs,XR x=J)->Nf 3 d=J->d.length+xs.length<Nh->(∀I y z,K.nx [U (B9 o),NG D,Q3 I,y,z] (σ.set D (AE (plc xs p d))))->
  forL (Na (n+1) 61 plF) (O2 (n+1) 61 (Eg 3)) K (xs.map B9) [U (B9 o),NG D,Q3 p,y,z] (σ.set D (AE d)):=λxs=>by
 induction xs with
 |nil=>exactλ{p y z d} _ _ _ q=>q p y z
 |cons x xs X=>intro p y z d h R N q;obtain⟨A,C⟩:=Ae.mp h;exact acb A R (Al (AD ..) N) λy z=>X C (eC H R) (Al (Aa (A7 cm _) (Ap (BW .. |>.trans (Bf ..)))) (N:d.length+(xs.length+1)<Nh)) q
def wF(h:∀x∈PE o [32],XR x=J/\x.length<=1000)(N:(PE o [32]).length<=1000)(q:∀D,σ D=Y->Q (Av D) (σ.set D (AE (plc (PE o [32]) 0 [])))):M8 B (n+2) 489 [B9 o] σ Q:=by
 refine ay H H ⟨H,Ac H,AN λD R=>yj (qC aG (λz m=>Aa (h z m).2 ae) ⟨?_,Aw ?_⟩)⟩;exact Aa (Ap (Ak ..))<|Aa N ae
 exact acd (PE o [32]) (λx m=>(h x m).1) H (Al (Ap (A1 _)) (Al N ae)) λI y z=>q D R
variable{num:Nat}
def ace{ps:Ni}(e:NY 124 o=ps)(h:∀p∈ps,(Pm [32,9,13] p==[])=Am)(N:ps.length<=10)(q:Q (BB (ps.map W)) σ):M8 B (n+3) 569 [W o,Zy num] σ Q:=by
 refine ay H H<|ahz<|dD ⟨?_,Aw ?_⟩
 rw[e];exact Aa (Ap (Ak ..)) (Aa N ae);rw[e];refine aL<|bb (β:=M6) (f:=W) (g:=λZ=>Y) ps (λp m c q=>ahr (cH ?_)) ?_
 exact ff (h p m) q;rw[show ps.filterMap (λZ=>(Y:OV))=[]from List.filterMap_eq_nil_iff.mpr λZ Z=>H];exact⟨Aq _,Aw ⟨Aq _,Aw (bF H H q)⟩⟩
def oM:∀{a} (N:M6),c∉a->Nn c N (a++c::r)=(N++a)::Nn c [] r:=λ{a}=>by
 induction a with
 |nil=>intro N _;show(if(c==c)=J then N::_ else _)=_;rw[Nt (Px c),Ax]
 |cons x a R=>
  intro N h;show(if(x==c)=J then _ else Nn c (N++[x]) (a++c::r))=_;rw[(beq_eq_false_iff_ne.mpr λe=>h (e▸As):(x==c)=Am),Np Bh,R _ λm=>h (Au _ m),Ag]
  rfl
def oN:∀{a} (N:M6),c∉a->Nn c N a=[N++a]:=λ{a}=>by
 induction a with
 |nil=>exactλN Z=>(Ax N).symm▸H
 |cons x a R=>
  intro N h;show(if(x==c)=J then _ else Nn c (N++[x]) a)=_;rw[(beq_eq_false_iff_ne.mpr λe=>h (e▸As):(x==c)=Am),Np Bh,R _ λm=>h (Au _ m),Ag]
  rfl
def lQ(h:c∉a):NY c (a++c::r)=a::NY c r:=oM [] h
def q7(c:Nat):∀ps (p:M6),(∀x∈p::ps,c∉x)->NY c (NJ [c] (p::ps))=p::ps:=λps=>by
 induction ps with
 |nil=>exactλp h=>(M7 (NY c) (Ax p)).trans (oN [] (h p As))
 |cons q ps N=>exactλp h=>(lQ (r:=NJ [c] (q::ps)) (h p As)).trans (M7 (p::·) (N q λx m=>h x (Au _ m)))
def wG(c:Nat):∀ps,(Str.join (toS [c]) ps).cps.toList=NJ [c] (ps.map λz=>z.cps.toList):=λps=>by
 have N:∀x y:Str,(x++y).cps.toList=x.cps.toList++y.cps.toList:=λx y=>Gr
 induction ps with
 |nil=>rfl
 |cons p ps R=>
  cases ps with
  |nil=>exact(Ax _).symm
  |cons q ps=>
   show(p++toS [c]++Str.join (toS [c]) (q::ps)).cps.toList=_;rw[N,N,R,Ag]
   rfl
def wH(R:x≠[]):PE x [c]=NY c x:=by
 have N:=M7 (λz:Str=>z.cps.toList) (StrLaws.join_split (toS x) (toS [c]));delta PE;dsimp only at N;rw[wG]at N
 cases e:GH (toS x) (toS [c])with
 |nil=>rw[e]at N;exact M9 N.symm R
 |cons p X=>rw[e]at N;rw[show x=_ from N.symm];refine(q7 c _ _ λy I=>?_).symm;obtain⟨z,A,rfl⟩:=A0.mp (show y∈(p::X).map (λz:Str=>z.cps.toList)from I);exact(StrLaws.split_free (toS x) c) z (e▸A:z∈GH (toS x) (toS [c]))
abbrev kT:=Yo 0 2
abbrev kN:=Yo 2 1
def V5(l:M6):=(NY 32 l).all λx=>XR x&&DA x.length 1000
def afM:V5 kT=J:=by decide+kernel
def afN:V5 kN=J:=by decide+kernel
def afO:V5 kS=J:=by decide+kernel
abbrev kD(l:M6):=plc (NY 32 l) 0 []
def ij(h:V5 o=J)(I:o≠[])(R:DA (NY 32 o).length 1000=J)(q:Q (B6 (kD o)) σ):M8 B (n+2) 489 [B9 o] σ Q:=by
 have e:=wH (c:=32) I;refine Ny.post<|wF (e▸λx m=>?_) (e▸Ac R) λD N=>⟨_,_,NN.di (M5.ag ..),?_⟩
 obtain⟨a,b⟩:=(AR ..).mp (A3.mp h x m);exact⟨a,Ac b⟩;rw[M5.eY N,e];exact q
def lR(q:Q (Bg [B6 (kD kT),B6 (kD kN),B6 (kD kS)]) σ):M8 B (n+3) 496 [] σ Q:=by
 refine ay H H<|qD aY<|ij (o:=kT) afM aY aY<|ij (o:=kN) afN aY aY ?_
 exact ij afO aY aY q
abbrev S8(N d0 d1 d2 d3 M:AG):=BZ 471 [(13,Av N),(14,Av d0),(15,Av d1),(16,Av d2),(17,Av d3),(18,Av M)]
end
structure Lt where
 b:NW
 m:NW
 s:NW
 o:NW
def TH(k v:V)(d:NW):=cond (NH k d).isSome d (NX k v d)
abbrev Lt.put(t:Lt)(k v:V):Nat->Lt
 |0=>⟨TH k v t.b,t.m,t.s,t.o⟩
 |1=>⟨t.b,TH k v t.m,t.s,t.o⟩
 |2=>⟨t.b,t.m,TH k v t.s,t.o⟩
 |_=>⟨t.b,t.m,t.s,TH k v t.o⟩
def WC(k:Nat)(d:NW):=Nf 3 d=J/\d.length<=k
structure Lt.Ok (k:Nat) (t:Lt):Prop where
 b:WC k t.b
 m:WC k t.m
 s:WC k t.s
 o:WC k t.o
inductive IS (τ:M5) (I:AG) (nm:LV) (t:Lt) (u:LV) (X:Ox) (σ:M5):Prop
 |mk (N d0 d1 d2 d3 M d:AG):I=d+1->Hs τ ((I,S8 N d0 d1 d2 d3 M)::(N,AA nm)::(d0,AE t.b)::(d1,AE t.m)::(d2,AE t.s)::(d3,AE t.o)::(M,AA u)::(d,CK I)::X) σ->IS τ I nm t u X σ
def Wk:=kD kT
def Wl:=kD kN
def Wm:=kD kS
abbrev TL:=Bg [B6 Wk,B6 Wl,B6 Wm]
def S9(w:M6)(d:NW):=(NH (W w) d).isSome
def Rc(w:M6):=cond (S9 w Wk) 0 (cond (S9 w Wl) 1 (cond (S9 w Wm) 2 3))
def agU:Nf 3 Wk=J:=by decide+kernel
def agV:Nf 3 Wl=J:=by decide+kernel
def agW:Nf 3 Wm=J:=by decide+kernel
section
variable{I N d0 d1 d2 d3 M:AG}{w:M6}{num:Nat}{so:V}{X:Ox}
def zJ(h:σ I=U (S8 N d0 d1 d2 d3 M))(R:so=A5\/so=Zy (Rc w)\/Rc w=3)(q:Q (([Av d0,Av d1,Av d2,Av d3]:LV).getD (Rc w) A5) σ):M8 B (n+2) 557 [Av I,W w,so,TL,Zy num] σ Q:=by
 refine ay H H<|aZ h H H H<|aZ h H H H<|aZ h H H H ⟨Ac H,Aw ⟨⟨by decide,by decide⟩,?_⟩⟩
 delta Rc at R q;refine aX H (aC (c:=3) aG H agU)<|aF (λe=>?_) λe=>?_
 ·rw[show S9 w Wk=J from e]at R q;rcases R with rfl|rfl|e
  ·exact ah H H q
  ·exact ah H H q
  ·exact M9 (show(0:Nat)=3 from e) aG
 rw[show S9 w Wk=Am from e]at R q;refine aX H (aC (c:=3) aG H agV)<|aF (λe=>?_) λe=>?_
 ·rw[show S9 w Wl=J from e]at R q;rcases R with rfl|rfl|e
  ·exact ah H H q
  ·exact ah H H q
  ·exact M9 (show(1:Nat)=3 from e) aG
 rw[show S9 w Wl=Am from e]at R q;refine aX H (aC (c:=3) aG H agW)<|aF (λe=>?_) λe=>?_
 ·rw[show S9 w Wm=J from e]at R q;rcases R with rfl|rfl|e
  ·exact ah H H q
  ·exact ah H H q
  ·exact M9 (e:(2:Nat)=3) aG
 rw[show S9 w Wm=Am from e]at R q;exact aZ h H H H q
abbrev BL:=[32,9,13]
def jB{c l:M6}(h:∀x∈l,c.contains x=Am):NL c l=l:=by
 have e:∀r:M6,(∀x∈r,c.contains x=Am)->r.dropWhile (c.contains ·)=r:=λr=>by
  cases r with
  |nil=>exactλZ=>H
  |cons x r=>exactλh=>Ek.trans (Np (Bp.mp (h x As)))
 delta NL;rw[e _ λx m=>h x (EW.mp m),Dg]
def jC{c l:M6}(A:c.contains x=Am):(NL c (x::l)==[])=Am:=by
 cases e:NL c (x::l)with
 |cons=>rfl
 |nil=>obtain⟨S,R,C⟩:=d6 c (x::l);rw[e]at R;exact nomatch A.symm.trans<|C x ((show x::l=S from R)▸As:x∈S)
def XS(w:M6):=(w.all λc=>WB c&&!VM c&&Ey c 256)&&Ey 46 (w.headD 0)&&!(w==[117,115,101])&&DA w.length 100
end
structure tj (w:M6):Prop where
 all:w.all WB=J
 sgn:∀c∈w,VM c=Am/\c<256
 ne:w≠[]
 head:Ey 46 (w.headD 0)=J
 use:(w==[117,115,101])=Am
 len:w.length<=100
def uJ(h:XS w=J):tj w:=by
 obtain⟨h,R⟩:=(AR ..).mp h;obtain⟨h,X⟩:=(AR ..).mp h;obtain⟨h,N⟩:=(AR ..).mp h
 have a:∀c∈w,WB c=J/\VM c=Am/\c<256:=λc m=>by obtain⟨k,A⟩:=(AR ..).mp (A3.mp h c m);obtain⟨I,C⟩:=(AR ..).mp k;exact⟨I,(BM _).mp C,Ac A⟩
 exact⟨A3.mpr λc m=>(a c m).1,λc m=>(a c m).2,(λe=>by subst e;exact nomatch N:w≠[]),N,(BM _).mp X,Ac R⟩
def i0(h:WB c=J):BL.contains c=Am:=by
 refine Bp.mpr λe=>?_;have N:=Bq.mp (Od ((AR ..).mp ((AR ..).mp h).1).1:(33:Int)<=G c);rcases AQ.mp (Ci.mp e)with rfl|m
 exact M9 N aG;rcases AQ.mp m with rfl|m
 exact M9 N aG;exact M9 (AV.mp m▸N) aG
def wI(h:m<1099511627776):∀x∈QX Am 10 m,BL.contains x=Am:=λx N=>by obtain⟨E,e,_,I,_⟩:=ku h;rw[e]at N;obtain⟨d,R,rfl⟩:=A0.mp N;exact(by decide:∀d<10,BL.contains (48+d)=Am) d<|I d R
abbrev Fv.so:Fv->V
 |.no=>A5
 |.yes=>Zy 0
 |.num _=>Zy 1
 |.str _=>Zy 2
def Fv.Ok':Fv->Prop
 |.num m=>m<2147483648
 |.str o=>Oc o/\o.length<=2000
 |_=>True
def WC.add(N:kindOf k=3)(h:WC j d):WC (j+1) (TH k v d):=by
 delta TH
 cases(NH k d).isSome
 exact⟨eC N h.1,Aa cm (AX h.2)⟩;exact⟨h.1,CA h.2⟩
section
variable{I:AG}{w:M6}{num k:Nat}{X:Ox}{t:Lt}{nm u:LV}{f:Fv}
def aeC{L:Ox}(i:Nat)(h:Hs τ L σ)(e:L[i]?=U (D,AE d))(R:WC k d)(hk:k<1000)
  (q:∀σ,Hs τ (L.set i (D,AE (TH (W w) v d))) σ->Q A5 σ):Na (n+1) 58 (Qc.body.drop 6) [NG I,N1 fl,U TL,NT num,N1 w,a,b,c,U v,NG D] σ (RT Q):=by
 have C:∀{j},Keyed j (W w) d:=aC (c:=3) aG H R.1;have A:=h.at i e;delta TH at q;refine aN (ao A) C<|aF (λN=>?_) λN=>?_
 rw[show(NH (W w) d).isSome=Am from(BM _).mp N]at q;exact aJ A C (Al R.2 (BG hk ae))<|q _<|h.upd i e _
 rw[show(NH (W w) d).isSome=J from(IE _).mp N]at q;refine q _ (?_ :Hs τ (L.set i (D,AE d)) σ);obtain⟨x,y⟩:=BI.mp e;rw[<-y,LU x];exact h
def zK(h:IS τ I nm t u X σ)(C:t.Ok k)(hk:k<1000)(hs:so=A5\/so=Zy (Rc w)\/Rc w=3)
  (q:∀σ,IS τ I nm (t.put (W w) v (Rc w)) u X σ->Q A5 σ):Na (n+2) 59 (Qc.body.drop 5) [NG I,N1 fl,U TL,NT num,N1 w,a,b,U so,U v,c] σ (RT Q):=by
 obtain⟨N,d0,x,d2,y,A,d,hd,h⟩:=h;refine zJ (h.at 0 H) hs ?_;generalize hK:Nl (Na (n+2) 58) _ _=K
 have R:∀{L} {D} {d} i,Hs τ L σ->L[i]?=U (D,AE d)->WC k d->(∀σ,Hs τ (L.set i (D,AE (TH (W w) v d))) σ->Q A5 σ)->
   K.nx [NG I,N1 fl,U TL,NT num,N1 w,a,b,U so,U v,NG D] σ:=λi h e d q=>by
  subst hK;exact aeC i h e d hk q
 have p4:Rc w=0\/Rc w=1\/Rc w=2\/Rc w=3:=by
  delta Rc
  cases S9 w Wk<;>cases S9 w Wl<;>cases S9 w Wm<;>decide
 rcases p4 with e|e|e|e<;>rw[e]at q⊢
 exact R 2 h H C.b λσ h=>q σ ⟨N,d0,x,d2,y,A,d,hd,h⟩;exact R 3 h H C.m λσ h=>q σ ⟨N,d0,x,d2,y,A,d,hd,h⟩;exact R 4 h H C.s λσ h=>q σ ⟨N,d0,x,d2,y,A,d,hd,h⟩;exact R 5 h H C.o λσ h=>q σ ⟨N,d0,x,d2,y,A,d,hd,h⟩
def Fv.ok{f:Fv}(h:f.Ok'):f.Ok:=by
 cases f with
 |num m=>exact BG h ae
 |str o=>exact h
 |no=>exact h
 |yes=>exact h
def wJ{K:Kt}(h:K.nx (NM (NM ρ i x) j y) σ):We n (k+5) (S.asg (Ln [Eg i,Eg j]) (.tup [JQ x,JQ y])) ρ σ K:=h
def q8(h:IS τ I nm t u X σ)(C:t.Ok k)(hk:k<1000)(N:tj w)(hf:f.Ok')(y:f.so=A5\/f.so=Zy (Rc w)\/Rc w=3)
  (q:∀σ,IS τ I nm (t.put (W w) f.v (Rc w)) u X σ->Q A5 σ):M8 B (n+4) 564 [Av I,W (w++f.txt),TL,Zy num] σ Q:=by
 refine ay H H<|ahh<|bR ?_
 obtain⟨c,r,rfl⟩:∃c r,w=c::r:=by
  cases w with
  |nil=>exact M9 H N.ne
  |cons c r=>exact⟨c,r,H⟩
 have A:(NP (c::r++f.txt) Y (U 1)==[46])=Am:=by rw[show NP (c::r++f.txt) Y (U 1)=[c]from a9 _ 1];have:=Ac (show DA 47 c=J from N.head);exact beq_eq_false_iff_ne.mpr λe=>M9 (BO e).1 (by exactλh'=>DO 0 (ax (Ao (Ap h') this) aS))
 refine ff (jC (i0 (A3.mp N.all c As)))<|aM H H<|ff A ?_
 have E:∀{K2} {a b x} {fl},K2=Nl (Na (n+3) 59) (Qc.body.drop 5) (RT Q)->K2.nx [NG I,N1 fl,U TL,NT num,N1 (c::r),a,b,U f.so,U f.v,x] σ:=λe=>by subst e;exact zK h C hk y q
 cases f with
 |no=>
  refine iZ N.all N.ne N.sgn ⟨H,Ac H⟩<|ff N.use<|wb<|rG<|wJ<|aL ?_
  generalize R:Nl (Na (n+3) 59) _ _=K2;exact ahh<|bR<|E R.symm
 |num m=>
  refine iZ N.all N.ne N.sgn ⟨H,Ac H⟩<|ff N.use<|wb<|rG<|wJ<|aL ?_
  generalize R:Nl (Na (n+3) 59) _ _=K2;refine ahh<|bR ?_
  rw[jB (wI (Fv.ok hf))];exact lP hf<|E R.symm
 |str o=>
  refine iZ N.all N.ne N.sgn ⟨H,Ac H⟩<|ff N.use<|wb<|rG<|wJ<|aL ?_
  generalize R:Nl (Na (n+3) 59) _ _=K2;exact lO hf.1 hf.2<|E R.symm
 |yes=>
  rw[show(c::r)++DX.txt=c::r from Ax _];refine wD N.all N.ne N.sgn (jB λx m=>i0 (A3.mp N.all x m))<|ff N.use<|wb<|rG<|wJ<|aL ?_
  generalize R:Nl (Na (n+3) 59) _ _=K2;exact E R.symm
def Re(τ σ:M5)(z u:V):=∀(y:Wd B) v,y.σ=τ->Rd y v z->aq B.P (Qu y.toSt σ) v u
def UC(τ σ:M5)(l m:LV):=∀(y:Wd B) vs,y.σ=τ->Nq y vs l->aE B.P (Qu y.toSt σ) vs m
def Q4(τ σ:M5)(l m:List (Nat×V)):=∀(y:Wd B) es,y.σ=τ->bh B.P y.toSt es l->bh B.P (Qu y.toSt σ) es m
variable{z u:V}{l m:LV}{a c:AG}{f g:List (Nat×V)}
def Re.refl(h:Keeps σ τ):Re τ σ z z:=λy v e r=>aq.az (ll (e▸h)).az r
def UC.refl(h:Keeps σ τ):UC τ σ l l:=λy v e r=>aE.az (ll (e▸h)).az r
def UC.nil:UC τ σ [] []:=λy v e r=>(aE.dQ r)▸aE.nil
def UC.cons(h:Re τ σ z u)(k:UC τ σ l m):UC τ σ (z::l) (u::m):=λy N e r=>by obtain⟨v,N,rfl,A,R⟩:=aE.inv r;exact aE.cons (h y v e A)<|k y N e R
def Q4.nil:Q4 τ σ [] []:=λy v e r=>(bh.dQ r)▸.nil
def Q4.cons(h:Re τ σ z u)(q:Q4 τ σ f g):Q4 τ σ ((k,z)::f) ((k,u)::g):=λy N e r=>by obtain⟨C,t,w,N,rfl,A,R⟩:=bh.inv r;exact bh.cons (h y w e A)<|q y N e R
def uK{y:Wd B}(N:y.σ a=U o)(h0:σ a=Y):Fz (Qu y.toSt σ) a:=⟨h0,AN ⟨λq=>(aa<|aO q N),h0⟩⟩
def Re.lst(h:UC τ σ l m)(A:m.length=l.length)(N:τ a=U (AA l))(h0:σ a=Y):Re τ σ (Av a) (BB m):=λy v e r=>by subst e;obtain⟨R,k,g,q,C⟩:=y.listAt N;obtain rfl:v=Ai a:=aq.inv r;exact .lst a R k m g (uK N h0) (A▸q)<|h y R H C
def Re.di(h:Keeps σ τ)(N:τ a=U (AE d))(h0:σ a=Y):Re τ σ (Av a) (B6 d):=λy v e r=>by subst e;obtain⟨R,m,g,C,q,A⟩:=y.dictAt N;obtain rfl:v=Ai a:=aq.inv r;exact .di a R m d g (uK N h0) C (aU.az (ll h).az q) A
def Re.ins(h:Q4 τ σ f g)(hd:a=d+1)(R:τ a=U (BZ c f))(h0:σ a=Y)(C:σ d=Y):Re τ σ (Av a) (V.ins c g):=λy v e r=>by subst e;obtain⟨d',N,m,x,q,g3,A,g5⟩:=y.ok.objs a _ R;obtain rfl:=CV (aO g5 hd);obtain rfl:v=Ai a:=aq.inv r;exact .ins a d' c N m g x q (uK R h0) (uK g3 C)<|h y N H A
def Ny.tree{f:AM}{args:LV}(c:Ny B n f args σ λz τ=>Keeps σ τ/\∃u,Re τ σ z u/\Q u σ):Ny B n f args σ Q:=λx vs e hs A rm=>by
 subst e;refine ag1 (c x vs H hs A rm) (λv s' q=>aP.casesOn q λy a l q=>dS.casesOn q λz hz q=>?_) λZ Z f=>f;obtain⟨N,u,hu,q⟩:=q
 have R:=sR N λa c m e=>by obtain⟨d,_,_,_,_,e1,_,C⟩:=x.ok.objs a _ e;exact⟨d,C,e1⟩
 exact .mk ⟨Qu y.toSt x.σ,R⟩ a (l.trans (ll N))<|.mk u (hu y v H hz) q
def DOk(d:NW):=(keysOk d=J/\d.length<=8)/\Oa d=d
end
structure Lt.D (t:Lt):Prop where
 b:DOk t.b
 m:DOk t.m
 s:DOk t.s
 o:DOk t.o
section
variable{I:AG}{X:Ox}{t:Lt}{nm u:LV}{nv uv:V}
def zL{fn:Fn}(h0:Hs τ X σ)(A:Qg C f Uq=J)(hf:fnT f Pk=U (fn,ds))(R:∀a,Oi (Av a::args) ds fn.np=U (Av a::full))
  (h:∀d N,Hs τ ((d+1,BZ C [])::(d,CK (d+1))::X) N->Na n 64 fn.body ((Av (d+1)::full).map U++A8 (fn.ns-fn.np) Y) N (RT λr N=>r=A5/\Q (Av (d+1)) N)):M8 B (n+2) C args σ Q:=
 λx=>ahM gy (x.F.make A) (kn x.F.fn hf) R (λa d q y e=>by subst e;exact h d _ ((h0.new y).new ((M5.aA _ (JS d)).trans q))) x
def oO(h:Hs τ X σ)(N:DOk d)(q:∀a σ,Hs τ ((a,AE d)::X) σ->Q (Av a) σ):Nr B (n+1) 10 [B6 d] σ Q:=
 qA N.1.1 N.1.2 ⟨N.2.symm▸Aa N.1.2 ae,AN λa R=>N.2.symm▸q a _ (h.new R)⟩
def zM{l:LV}(A:Vg σ o=U l)(h:Hs τ X σ)(R:l.length<=1000)(q:∀a σ,Hs τ ((a,AA l)::X) σ->Q (Av a) σ):Nr B n 12 [o] σ Q:=
 jx A ⟨Aa R ae,AN λa N=>q a _ (h.new N)⟩
def i4(hf:∀a,Oi (Av a::args) [Bg []] 7=U [Av a,nv,B6 t.b,B6 t.m,B6 t.s,B6 t.o,uv])(h:Hs τ X σ)(hn:∀σ,Vg σ nv=U nm)(hnl:nm.length<=1000)(ht:t.D)(hu:∀σ,Vg σ uv=U u)(hul:u.length<=1000)
  (q:∀I σ,IS τ I nm t u X σ->Q (Av I) σ):M8 B (n+3) 471 args σ Q:=by
 refine zL (f:=468) (full:=[nv,B6 t.b,B6 t.m,B6 t.s,B6 t.o,uv]) h H H hf λd σ h=>(zM (hn σ) h hnl λN σ h=>gN (h.at 1 H) H H ?_);have h:=h.upd 1 H (BZ 471 [(13,Av N)]);refine oO h ht.b λA σ h=>gN (h.at 2 H) H H ?_;have h:=h.upd 2 H (BZ 471 [(13,Av N),(14,Av A)]);refine oO h ht.m λC σ h=>gN (h.at 3 H) H H ?_;have h:=h.upd 3 H (BZ 471 [(13,Av N),(14,Av A),(15,Av C)]);refine oO h ht.s λy σ h=>gN (h.at 4 H) H H ?_;have h:=h.upd 4 H (BZ 471 [(13,Av N),(14,Av A),(15,Av C),(16,Av y)]);refine oO h ht.o λx σ h=>gN (h.at 5 H) H H ?_;have h:=h.upd 5 H (BZ 471 [(13,Av N),(14,Av A),(15,Av C),(16,Av y),(17,Av x)]);refine zM (hu _) h hul λR σ h=>gN (h.at 6 H) H H<|⟨H,q _ _ ⟨N,A,C,y,x,R,d,H,(h.upd 6 H (S8 N A C y x R)).perm ((MY [(d+1,S8 N A C y x R),(N,AA nm),(A,AE t.b),(C,AE t.m),(y,AE t.s),(x,AE t.o),(R,AA u)]).append_right ((d,CK (d+1))::X))⟩⟩
def zN(h:Hs τ X σ)(N:nm.length<=1000)(q:∀I σ,IS τ I nm ⟨[],[],[],[]⟩ [] X σ->Q (Av I) σ):M8 B (n+4) 482 [BB nm] σ Q:=
 ay H H ⟨H,Aq _,Aw ⟨H,Aq _,Aw ⟨H,Aq _,Aw ⟨H,Aq _,Aw (i4 (λZ=>H) h (λZ=>H) N ⟨⟨⟨H,Ac H⟩,H⟩,⟨⟨H,Ac H⟩,H⟩,⟨⟨H,Ac H⟩,H⟩,⟨⟨H,Ac H⟩,H⟩⟩ (λZ=>H) (Aq _) q)⟩⟩⟩⟩
def acf:∀c<256,∀e,0<c->(Ra c e).contains 10=Am:=by decide+kernel
def aeD(h:Oc o):10∉enc o:=by
 suffices N:∀l z k,Oc l->10∉(encL z k l).flatten from N o _ _ h
 delta encL;intro l z
 induction l with
 |nil=>exactλZ Z=>Ay
 |cons c r A=>
  intro k h m;obtain⟨R,C⟩:=Ae.mp h;rcases BC.mp m with m|m
  exact nomatch (acf c R.2 _ R.1).symm.trans<|Ci.mpr m
  exact A (k+1) C m
def ady{w:M6}(h:w.all WB=J):10∉w:=λm=>nomatch (show WB 10=Am from H).symm.trans (A3.mp h 10 m)
def aeE(h:m<1099511627776):10∉QX Am 10 m:=λk=>by obtain⟨E,e,_,R,_⟩:=ku h;rw[e]at k;obtain⟨d,_,N⟩:=A0.mp k;exact M9 N (by grind)
def Fv.aeF{f:Fv}(h:f.Ok):10∉f.txt:=by
 cases f with
 |no=>decide
 |yes=>decide
 |num m=>exactλk=>(AQ.mp k).elim aG (aeE h)
 |str o=>exactλk=>(AQ.mp k).elim aG (aeD h.1)
end
inductive Rw where
 |head (o:M6) (ns:Ni)
 |fld (w:M6) (f:Fv)
 |use (w:M6)
open Rw renaming head->E6,use->J2,fld->J3
abbrev Rw.oct:Rw->M6
 |.head o _=>o
 |.fld w f=>9::(w++f.txt)
 |.use w=>9::([117,115,101,61]++w)
def Wn(o:M6)(ns:Ni):=(o.all λc=>c !=92&&c !=94&&c !=44&&c !=10)&&!BL.contains (o.headD 32)&&(o.headD 35 !=35)&&(NY 124 o==ns)&&(ns.all λp=>!(Pm BL p==[]))&&DA ns.length 10
def Rw.Ok:Rw->Prop
 |.head o ns=>Wn o ns=J
 |.fld w f=>tj w/\f.Ok'/\(f.so=A5\/f.so=Zy (Rc w)\/Rc w=3)
 |.use w=>tj w
def aeG:∀o,(o.all λc=>c !=92&&c !=94&&c !=44&&c !=10)=J->Sf o/\10∉o:=λo=>by
 induction o with
 |nil=>exactλZ=>⟨Sf.nil,Ay⟩
 |cons c r I=>intro h;obtain⟨N,R⟩:=(AR ..).mp h;obtain⟨N,C⟩:=(AR ..).mp N;obtain⟨N,A⟩:=(AR ..).mp N;obtain⟨N,X⟩:=(AR ..).mp N;exact⟨(eu (bne_iff_ne.mp N) (bne_iff_ne.mp X) (bne_iff_ne.mp A)).app (I R).1,λm=>(AQ.mp m).elim (λe=>bne_iff_ne.mp C e.symm) (I R).2⟩
def Rw.sf:∀r:Rw,r.Ok->Sf r.oct/\10∉r.oct:=λr=>by
 cases r with
 |head o N=>intro h;exact aeG o ((AR ..).mp ((AR ..).mp ((AR ..).mp ((AR ..).mp ((AR ..).mp h).1).1).1).1).1
 |fld w f=>exactλh=>⟨(eu aG aG aG).app ((zI w h.1.all).app (f.sf (Fv.ok h.2.1))),λm=>(AQ.mp m).elim aG λm=>(BC.mp m).elim (ady h.1.all) (Fv.aeF (Fv.ok h.2.1))⟩
 |use w=>exactλh=>⟨(eu aG aG aG).app ((zI _ H:Sf [117,115,101,61]).app (zI w h.all)),λm=>(AQ.mp m).elim aG λm=>(BC.mp m).elim aG (ady h.all)⟩
def q9{c l:M6}(N:c.contains x=Am):x∈l->(Pm c l==[])=Am:=by
 have A:∀l,x∈l->∃y r,Ob c l=y::r/\c.contains y=Am:=λl=>by
  delta Ob
  induction l with
  |nil=>exactλm=>M9 m Ay
  |cons y r I=>
   intro m
   cases e:c.contains y with
   |false=>exact⟨y,r,Ek.trans (Np (Bp.mp e)),e⟩
   |true=>rw[Ek,Nt e];exact I<|(AQ.mp m).resolve_left λq=>nomatch (q▸N).symm.trans e
 intro m;obtain⟨y,r,e,R⟩:=A l m;delta Pm;rw[e];exact jC R
def zO(h:tj w):Ob BL (9::(w++r))=w++r:=by
 obtain⟨c,v,rfl⟩:∃c v,w=c::v:=by
  cases w with
  |nil=>exact M9 H h.ne
  |cons c v=>exact⟨c,v,H⟩
 show GL _ (c::(v++r))=_;rw[Ek,Np (Bp.mp (i0 (A3.mp h.all c As)))]
 rfl
section
variable{I:AG}{w:M6}{num k:Nat}{X:Ox}{t:Lt}{nm u:LV}{f:Fv}
def tm(h:IS τ I nm t u X σ)(hu:u.length<1000)(A:tj w)(q:∀σ,IS τ I nm t (u++[W w]) X σ->Q A5 σ):M8 B (n+4) 564 [Av I,W ([117,115,101]++61::w),TL,Zy num] σ Q:=by
 obtain⟨N,d0,y,d2,C,R,d,hd,h⟩:=h
 have e1:(NP ([117,115,101]++61::w) Y (U 1)==[46])=Am:=by rw[show NP ([117,115,101]++61::w) Y (U 1)=[117]from a9 _ 1];rfl
 refine ay H H<|ahh<|bR<|ff (jC H)<|aM H H<|ff e1<|iZ H aG aG ⟨H,Ac H⟩ ?_
 refine aZ (h.at 0 H) H H H<|aK (ai (h.at 6 H))<|ahh<|bR ?_
 rw[jB λx m=>i0 (A3.mp A.all x m)];exact iY A.all A.ne<|av (h.at 6 H) (BG hu ae)<|q _ ⟨N,d0,y,d2,C,R,d,hd,h.upd 6 H _⟩
end
structure jR where
 nm:LV
 t:Lt
 u:LV
inductive FI:List jR->LV->Ox->Prop
 |nil:FI [] [] []
 |cons {D:jR} {ds:List jR} {rs:LV} {L:Ox} (N d0 d1 d2 d3 M d:AG):FI ds rs L->
   FI (D::ds) (Av (d+1)::rs) ((d+1,S8 N d0 d1 d2 d3 M)::(N,AA D.nm)::(d0,AE D.t.b)::(d1,AE D.t.m)::(d2,AE D.t.s)::(d3,AE D.t.o)::(M,AA D.u)::(d,CK (d+1))::L)
inductive FS (τ:M5) (E:AG) (ds:List jR) (X:Ox) (σ:M5):Prop
 |mk (rs:LV) (L:Ox):FI ds rs L->Hs τ ((E,AA rs.reverse)::(L++X)) σ->FS τ E ds X σ
def RZ(ds:List jR)(r:Rw):List jR:=match r,ds with
 |.head _ ns,ds=>⟨ns.map W,⟨[],[],[],[]⟩,[]⟩::ds
 |.fld w f,D::ds=>⟨D.nm,D.t.put (W w) f.v (Rc w),D.u⟩::ds
 |.use w,D::ds=>⟨D.nm,D.t,D.u++[W w]⟩::ds
 |_,[]=>[]
def FI.len{ds:List jR}{rs:LV}(h:FI ds rs L):rs.length=ds.length:=by
 induction h with
 |nil=>rfl
 |cons _ _ _ _ _ _ _ _ N=>exact M7 (· +1) N
section
variable{E:AG}{X:Ox}{ds:List jR}{D:jR}{o tx:M6}{i:Nat}
abbrev riF:=Om (SD.body.drop 1)
def uL{K:Kt}{ns:Ni}(A:(E6 o ns).Ok)(h:FS τ E ds X σ)(hl:ds.length<=1000)
  (q:∀σ y z x,FS τ E (⟨ns.map W,⟨[],[],[],[]⟩,[]⟩::ds) X σ->K.nx [N1 tx,NG E,U TL,NT i,N1 (o++[44]),y,z,x] σ):
  Na (n+4) 61 riF [N1 tx,NG E,U TL,NT i,N1 (o++[44]),y,z,x] σ K:=by
 obtain⟨s1,_⟩:=Rw.sf _ A;obtain⟨rs,L,hL,h⟩:=h;obtain⟨A,h6⟩:=(AR ..).mp (A:Wn o ns=J);obtain⟨A,h5⟩:=(AR ..).mp A;obtain⟨A,h4⟩:=(AR ..).mp A;obtain⟨A,h3⟩:=(AR ..).mp A;obtain⟨_,h2⟩:=(AR ..).mp A
 obtain⟨c,v,rfl⟩:∃c v,o=c::v:=by
  cases o with
  |nil=>exact M9 h2 aG
  |cons c v=>exact⟨c,v,H⟩
 have C:BL.contains c=Am:=(BM _).mp h2;have e1:NP (c::v++[44]) Y (U 1)=[c]:=a9 _ 1
 have e2:(NP (c::v++[44]) Y (U 1)==[35])=Am:=by rw[e1];exact beq_eq_false_iff_ne.mpr λe=>bne_iff_ne.mp h3 (BO e).1
 have e3:Ob BL (c::v)=c::v:=Ek.trans (Np (Bp.mp C));refine ahr<|cH<|ff (q9 (x:=44) H (DB _ As))<|aM H H<|ff e2<|nf (n:=n+1) s1 ?_
 rw[e3];refine aM H H ?_;rw[e1];refine cO H<|tt ?_ ?_
 have n1:([32]==[c])=Am:=beq_eq_false_iff_ne.mpr λe=>nomatch (((BO e).1▸C):BL.contains 32=Am);have n2:([9]==[c])=Am:=beq_eq_false_iff_ne.mpr λe=>nomatch (((BO e).1▸C):BL.contains 9=Am);show(!([32]==[c]|| ([9]==[c]||Am)))=J;rw[n1,n2];rfl;generalize hK:Nl (Na (n+4) 57) _ _=K2
 have R:∀{y:OV} {σ:M5},FS τ E (⟨ns.map W,⟨[],[],[],[]⟩,[]⟩::ds) X σ->K2.nx [N1 tx,NG E,U TL,NT i,N1 (c::v++[44]),NT (i+1),Qv [],x] σ:=λh=>by subst hK;exact q _ _ _ _ h
 refine⟨Aq _,Aw (bQ H H (aK (ai (h.at 0 H)) (ah H H (ace (n:=n+1) (N2 h4) (λp m=>(BM _).mp (A3.mp h5 p m)) (Ac h6) (zN (n:=n) h (Aa (Ap (Ak ..)) (Aa (Ac h6) ae)) λI σ h=>?_)))))⟩;obtain⟨N,d0,d1,d2,d3,M,d,hd,h⟩:=h;subst hd;refine av (h.at 8 H) ?_<|cP H H H ⟨Aq _,Aw (R (y:=Y) ⟨Av (d+1)::rs,_,.cons N d0 d1 d2 d3 M d hL,?_⟩)⟩
 rw[BH,hL.len];exact Al hl ae;rw[BF];exact(h.upd 8 H (AA (rs.reverse++[Av (d+1)]))).perm<|(F5 (l₁:=[(d+1,S8 N d0 d1 d2 d3 M),(N,AA (ns.map W)),(d0,AE []),(d1,AE []),(d2,AE []),(d3,AE []),(M,AA []),(d,CK (d+1))]) (l₂:=L++X))
variable{I:AG}{L:Ox}{w:M6}{k:Nat}{rs:LV}{f:Fv}
def FS.cur{C:Prop}(h:FS τ E (D::ds) X σ)(q:∀I rs L,FI ds rs L->IS τ I D.nm D.t D.u ((E,AA (Av I::rs).reverse)::(L++X)) σ->C):C:=by
 obtain⟨rs,L,y,h⟩:=h
 cases y with
 |cons N d0 d1 x A R d y=>exact q _ _ _ y ⟨N,d0,d1,x,A,R,d,H,h.perm (F5 (l₁:=[(d+1,S8 N d0 d1 x A R),(N,AA D.nm),(d0,AE D.t.b),(d1,AE D.t.m),(x,AE D.t.s),(A,AE D.t.o),(R,AA D.u),(d,CK (d+1))])).symm⟩
def FS.of(x:FI ds rs L)(h:IS τ I D.nm D.t D.u ((E,AA (Av I::rs).reverse)::(L++X)) σ):FS τ E (D::ds) X σ:=by obtain⟨N,q,C,y,A,R,d,rfl,h⟩:=h;exact⟨_,_,.cons N q C y A R d x,h.perm (F5 (l₁:=[(d+1,S8 N q C y A R),(N,AA D.nm),(q,AE D.t.b),(C,AE D.t.m),(y,AE D.t.s),(A,AE D.t.o),(R,AA D.u),(d,CK (d+1))]))⟩
def IS.fd{nm u:LV}{t:Lt}{o:O}(h:IS τ I nm t u ((E,o)::X) σ):σ E=U o:=IS.casesOn h λZ Z Z Z Z Z Z Z h=>h.at 8 H
def zP(r:V)(rs:LV):(r::rs).reverse[rs.length]?=U r:=by rw[BF,CW (Ap BH),BH,FU];rfl
def zQ{K:Kt}(hs:Sf (9::b))(C:Ob BL (9::b)=b)(A:IS τ I D.nm D.t D.u ((E,AA (Av I::rs).reverse)::(L++X)) σ)
  (q:∀y z,M8 B (n+4) 564 [Av I,W b,TL,Zy (i+1)] σ λZ σ=>K.nx [N1 tx,NG E,U TL,NT i,N1 (9::b++[44]),y,z,N1 b] σ):
  Na (n+4) 61 riF [N1 tx,NG E,U TL,NT i,N1 (9::b++[44]),y,z,x] σ K:=by
 have R:NP (9::b++[44]) Y (U 1)=[9]:=a9 _ 1;refine ahr<|cH<|ff (q9 H (DB _ As))<|aM H H<|ff (by rw[R];rfl:(NP (9::b++[44]) Y (U 1)==[35])=Am) ?_
 refine nf hs ?_;rw[C];refine aM H H ?_;rw[R];generalize hK:Nl (Na (n+4) 57) _ _=K2
 have N:∀{x},K2.nx [N1 tx,NG E,U TL,NT i,N1 (9::b++[44]),NT (i+1),Qv [W b],x] σ:=λ{x}=>by
  subst hK;refine bE (ai A.fd) aG ?_ ?_ (zP _ _)<|q _ _
  rw[BH];show-((rs.length+1:Nat):Int)<= -1;exact KX (G7 (AW _));rw[BH];show(-1+((rs.length+1:Nat):Int)).toNat=_;rw[L0];exact M7 Int.toNat (Int.add_neg_cancel_right rs.length 1)
 refine cO H ⟨Aq _,Aw (bQ (ai A.fd) H (ff ?_ N))⟩;rw[List.isEmpty_reverse];rfl
def aeH{K:Kt}(N:(J3 w f).Ok)(h:FS τ E (D::ds) X σ)(A:D.t.Ok k)(hk:k<1000)
  (q:∀σ y z x,FS τ E (⟨D.nm,D.t.put (W w) f.v (Rc w),D.u⟩::ds) X σ->K.nx [N1 tx,NG E,U TL,NT i,N1 (9::(w++f.txt)++[44]),y,z,x] σ):
  Na (n+4) 61 riF [N1 tx,NG E,U TL,NT i,N1 (9::(w++f.txt)++[44]),y,z,x] σ K:=
 h.cur λI rs L C R=>zQ (Rw.sf _ N).1 (zO N.1) R λy z=>q8 R A hk N.1 N.2.1 N.2.2 λσ h=>q _ _ _ _ (FS.of C h)
def aeI{K:Kt}(N:(J2 w).Ok)(h:FS τ E (D::ds) X σ)(A:D.u.length<1000)
  (q:∀σ y z x,FS τ E (⟨D.nm,D.t,D.u++[W w]⟩::ds) X σ->K.nx [N1 tx,NG E,U TL,NT i,N1 (9::([117,115,101,61]++w)++[44]),y,z,x] σ):
  Na (n+4) 61 riF [N1 tx,NG E,U TL,NT i,N1 (9::([117,115,101,61]++w)++[44]),y,z,x] σ K:=
 h.cur λI rs L C R=>zQ (Rw.sf _ N).1 H R λy z=>tm R A N λσ h=>q _ _ _ _ (FS.of C h)
def PX(rs:List Rw):=rs.flatMap λr=>r.oct++[44,10]
end
def tn:∀rs,(∀r∈rs,r.Ok)->NY 10 (PX rs)=(rs.map λr:Rw=>r.oct++[44])++[[]]:=λrs=>by
 induction rs with
 |nil=>exactλZ=>H
 |cons r rs I=>
  intro h;obtain⟨R,N⟩:=Ae.mp h
  have e:PX (r::rs)=(r.oct++[44])++10::PX rs:=by show(r.oct++[44,10])++PX rs=_;rw[Ag,Ag];rfl
  rw[e,lQ λm=>(BC.mp m).elim (Rw.sf r R).2 aG,I N]
  rfl
abbrev jR.v(D:jR):=V.ins 471 [(13,BB D.nm),(14,B6 D.t.b),(15,B6 D.t.m),(16,B6 D.t.s),(17,B6 D.t.o),(18,BB D.u)]
structure Rr (k:Nat) (D:jR) (ds:List jR):Prop where
 t:D.t.Ok k
 u:D.u.length<=k
 l:ds.length<=k
def WC.up(h:WC k d):WC (k+1) d:=⟨h.1,CA h.2⟩
def Lt.Ok.put{t:Lt}(h:t.Ok k)(N:kindOf x=3):(t.put x v p).Ok (k+1):=by exact aaO p (⟨h.b.add N,h.m.up,h.s.up,h.o.up⟩) (⟨h.b.up,h.m.add N,h.s.up,h.o.up⟩) (⟨h.b.up,h.m.up,h.s.add N,h.o.up⟩) λZ=>⟨h.b.up,h.m.up,h.s.up,h.o.add N⟩
section
variable{E:AG}{X L:Ox}{tx:M6}{rs l m:LV}{ds:List jR}
def FI.re(A:Keeps σ τ)(h:FI ds rs L):(∀e∈L,τ e.1=U e.2/\σ e.1=Y)->∀{l m},UC τ σ l m->UC τ σ (rs.reverse++l) ((ds.map jR.v).reverse++m):=by
 induction h with
 |nil=>exactλZ Z Z k=>k
 |cons N d0 d1 d2 d3 R d hL ih=>
  intro g l m k;rw[BF,Ag,Cc,BF,Ag];have I:=λi {e} (q:_[i]?=U e)=>g e (A6 q);have a0:=I 0 H;have y:=I 1 H;have C:=I 2 H;have a3:=I 3 H;have x:=I 4 H;have a5:=I 5 H;have a6:=I 6 H
  exact ih (λe q=>g e (Au _ (Au _ (Au _ (Au _ (Au _ (Au _ (Au _ (Au _ q))))))))) (.cons (Re.ins
   (Q4.cons (Re.lst (UC.refl A) H y.1 y.2) (Q4.cons (Re.di A C.1 C.2) (Q4.cons (Re.di A a3.1 a3.2) (Q4.cons (Re.di A x.1 x.2) (Q4.cons (Re.di A a5.1 a5.2) (Q4.cons (Re.lst (UC.refl A) H a6.1 a6.2) .nil)))))) H a0.1 a0.2 (I 7 H).2) k)
def acg{K:Kt}:∀(rs:List Rw) {i k:Nat} {D:jR} {ds:List jR} {σ:M5} {a b y z x:OV},(∀r∈rs,r.Ok)->FS τ E (D::ds) X σ->Rr k D ds->k+rs.length<900->
  (∀σ (i a y z x:OV),FS τ E (rs.foldl RZ (D::ds)) X σ->K.nx [N1 tx,NG E,U TL,i,a,y,z,x] σ)->
  forL (Na (n+4) 61 riF) (O2 (n+4) 61 (Ln [Eg 3,Eg 4])) K (Pf i (((rs.map λr:Rw=>r.oct++[44])++[[]]).map W)) [N1 tx,NG E,U TL,a,b,y,z,x] σ:=λrs=>by
 induction rs with
 |nil=>exactλZ h Z Z q=>ahr (cH (q _ _ _ _ _ _ h))
 |cons r rs ih=>
  intro i k D ds σ a b y z x C h N hk q;obtain⟨C,hrs⟩:=Ae.mp C;have A:=Al (AD ..) hk
  have R:∀{D'} {I},RZ (D::ds) r=D'::I->Rr (k+1) D' I->∀{σ} {a b y z x},FS τ E (D'::I) X σ->forL (Na (n+4) 61 riF) (O2 (n+4) 61 (Ln [Eg 3,Eg 4])) K (Pf (i+1) (((rs.map λr:Rw=>r.oct++[44])++[[]]).map W)) [N1 tx,NG E,U TL,a,b,y,z,x] σ:=
   by intro D' I e hf' σ a b y z x h';exact ih hrs h' hf' (by rw[BW];exact hk:k+1+rs.length<900) λσ i a y z x h=>q σ i a y z x (by rw[DT,e];exact h)
  cases r with
  |head o ns=>exact uL C h (Aa (AX N.l) (Aa A ae)) λσ y z x h=>R H ⟨⟨⟨H,Aq _⟩,⟨H,Aq _⟩,⟨H,Aq _⟩,⟨H,Aq _⟩⟩,Aq _,AX N.l⟩ h
  |fld w f=>exact aeH C h N.t (BG A ae) λσ y z x h=>R H ⟨N.t.put H,CA N.u,CA N.l⟩ h
  |use w=>exact aeI C h (Al N.u (BG A ae)) λσ y z x h=>R H ⟨⟨N.t.b.up,N.t.m.up,N.t.s.up,N.t.o.up⟩,by rw[Ad];exact AX N.u,CA N.l⟩ h
variable{o:M6}{ns:Ni}{rs:List Rw}
def oP(h:∀r∈E6 o ns::rs,r.Ok)(A:rs.length<800)(q:Q (BB (((rs.foldl RZ (RZ [] (E6 o ns))).map jR.v).reverse)) σ):M8 B (n+5) 576 [W (PX (E6 o ns::rs))] σ Q:=by
 refine Ny.tree<|ay H H ⟨Aq _,AN λE hE=>lR (ahz (dD ?_))⟩
 rw[tn _ h];obtain⟨C,h2⟩:=Ae.mp h;refine⟨?_,Aw ?_⟩;show(CC W ((CC (λr:Rw=>r.oct++[44]) (E6 o ns::rs))++[[]])).length<=Nh;rw[Ak,Ad,Ak];show rs.length+1+1<=Nh;exact Aa (AX (AX (B3 A))) ae;generalize hK:Nl (Na (n+4) 62) _ _=K
 have N:∀R i a y z x,FS σ E (rs.foldl RZ (RZ [] (E6 o ns))) [] R->K.nx [N1 (PX (E6 o ns::rs)),NG E,U TL,i,a,y,z,x] R:=λR i a y z x h=>by subst hK;obtain⟨ss,L,I,h⟩:=h;refine⟨h.k,_,?_,q⟩;have e:=h.h _ As;have r:=FI.re h.k I (λe m=>h.h e (Au _ (ER _ m))) UC.nil;rw[Ax,Ax]at r;refine Re.lst r ?_ e.1 e.2;rw[BH,BH,Ak,I.len]
 exact uL C (⟨[],[],.nil,(Hs.nil).new hE⟩:FS σ E [] [] (σ.set E (AA []))) (Aq _) λσ y z x h=>acg rs h2 h ⟨⟨⟨H,Aq _⟩,⟨H,Aq _⟩,⟨H,Aq _⟩,⟨H,Aq _⟩⟩,Aq _,Aq _⟩ (Al (Ap (A1 _)) (BG A ae)) N
end
def ra(x:M6):∀l,(ins x l).Perm (x::l):=λl=>by
 induction l with
 |nil=>exact .refl _
 |cons y r N=>
  dsimp only[ins]
  cases decide (y<x)
  exact .refl _;exact(N.cons y).trans<|CS ..
def tp{x:M6}:∀{l},l.Pairwise (λa b=>¬b<a)->(ins x l).Pairwise λa b=>¬b<a:=λ{l}=>by
 induction l with
 |nil=>exactλZ=>List.pairwise_singleton ..
 |cons y r R=>
  intro h;obtain⟨N,I⟩:=IB.mp h;dsimp only[ins]
  cases e:decide (y<x)with
  |true=>
   refine IB.mpr ⟨λz m=>?_,R I⟩;rcases AQ.mp ((ra x r).mem_iff.mp m)with rfl|m
   exact G3.mpr<|List.le_of_lt<|Od e
   exact N z m
  |false=>have q:=Pd e;exact IB.mpr ⟨λz m=>(AQ.mp m).elim (λe=>e▸q) λm=>G3.mpr (List.le_trans (G3.mp q) (G3.mp (N z m))),h⟩
def aR:∀l,(NZ l).Perm l/\(NZ l).Pairwise λa b=>¬b<a:=λl=>by
 induction l with
 |nil=>exact⟨.refl _,.nil⟩
 |cons x r N=>exact⟨(ra x _).trans (N.1.cons x),tp N.2⟩
def zR{l m:Ni}(h:m.Perm l)(k:m.Pairwise λa b=>¬b<a):m=NZ l:=
 List.Perm.eq_of_pairwise (λa b Z Z R N=>List.le_antisymm (G3.mp R) (G3.mp N)) k (aR l).2 (h.trans (aR l).1.symm)
@[reducible] def UD:PyProof.Rows.KeyKind where
 toKeyOrd:=PyProof.Rows.strKind.toKeyOrd
 keyOf v:=match v with|.bytes x _=>U (nats x.toList)|_=>Y
 dflt:=[]
def zS:∀a b,(DF a b== .lt)=decide (nats a<nats b):=λa=>by
 induction a with
 |nil=>
  intro b
  cases b with
  |nil=>rfl
  |cons y b=>exact(N5 (List.nil_lt_cons ..)).symm
 |cons x a R=>
  intro b
  cases b with
  |nil=>exact(N8 (List.not_lt_nil _)).symm
  |cons y b=>
   rw[(decide_eq_decide.mpr List.cons_lt_cons_iff:decide (nats (x::a)<nats (y::b))=decide (x.toNat<y.toNat\/x.toNat=y.toNat/\nats a<nats b))];show((if x<y then Ordering.lt else if x>y then .gt else DF a b)== .lt)=_
   by_cases h:x<y
   rw[Nt h];exact(N5 (Aw (CG.mp h))).symm;rw[Np h];have N:¬x.toNat<y.toNat:=λq=>h (CG.mpr q)
   by_cases g:x>y
   rw[Nt g];exact(N8 λq=>q.elim N λq=>M9 (CG.mp g) (by exactλN=>DO 0 (ax (Ao N (Ap q.1)) aS))).symm;rw[Np g,R b];exact decide_eq_decide.mpr ⟨λq=>AN ⟨by exact HG (ax (Di (λq=>g (CG.mpr q):¬y.toNat<x.toNat)) aS) (ax (Di N) aS),q⟩,λq=>(q.resolve_left N).2⟩
namespace Fa
def ew:Ii "bytes" (cmpInfo .Lt).2.1 "bytes.__lt__":=
 .of (owner:="bytes") (n:="__lt__") (by rw[BJ,Bb];kernel_rfl) aY aY aY (Aw aY) (by rw[CB];kernel_rfl)
def gh:DI table "bytes.__lt__"=U Builtin.«bytes.__lt__»:=by first|exact Cp (by kernel_rfl)|exact Cq (by kernel_rfl)
def fI(a b:AM):DM "bytes.__lt__" ⟨[a,b],[]⟩:=by delta DM;rw[Dc (id:="bytes.__lt__") (n:=['_','_','t','l','_','_']) (o:=['s','e','t','y','b']) (by kernel_rfl) Ep];kernel_rfl
end Fa
def lS(b c:Ot)(t u:Tok):Gives (Builtin.«bytes.__lt__» ⟨[AF b t,AF c u],[]⟩) (.val (B0 (J1 "__lt__" (DF b.toList c.toList)))):=
 F8 λM A E s Q h=>by obtain⟨R,g,d,I,X⟩:=s;have N:=PySem.F.sub_bytes_bytes;wp_walk;exact⟨_,H,h⟩
set_option tactic.hygienic true in
def wK:UD.OneLt:=by
 intro N w A E s x y a b Q I R h
 cases x<;>first|exact aa I|skip
 cases y<;>first|exact aa R|skip
 obtain rfl:=Af I;obtain rfl:=Af R
 rename_i p t q u
 rw[oneLt'_eq,Nt H];refine Ab<|wpAny_cRoomFor_byValue H<|Ab<|wpAny_callSpecialIfBound?_slot (C5 s p t) Fa.ew<|Fb Fa.ew (C5 s p t) Fa.gh (Fa.fI _ _) (lS p q t u) ?_
 refine Ce ?_;rw[show J1 "__lt__" (DF p.toList q.toList)=(DF p.toList q.toList== .lt)from H,zS];exact h
def jD{vs:LVal}:AllB vs->vs.mapM firstOfTuple'=AJ (vs.map λZ=>Y):=by
 induction vs with
 |nil=>intro;simp
 |cons v vs R=>intro h;obtain⟨b,t,rfl⟩:=h v As;have:firstOfTuple' (AF b t)=AJ Y:=H;rw[GJ,this,R λu N=>h u (Au _ N)];simp
def i5{vs:LVal}:AllB vs->vs.mapM GY=AJ (vs.map λZ=>An "bytes"):=by
 induction vs with
 |nil=>intro;simp
 |cons v vs I=>intro h;obtain⟨b,t,rfl⟩:=h v As;rw[GJ,I λu N=>h u (Au _ N)];show(AJ (An "bytes")>>=λb=>AJ _>>=λR=>AJ (b::R))=_;simp
def gQ(A:AllB (R::N::vs)):keyKind' (R::N::vs).toArray=AJ oneType':=by
 rw[keyKind'_eq,MZ,jD A];simp only[map_pure,pure_bind];rw[Np (by simp),Np (by simp)];rw[oneTypeOnly'_eq,MZ,i5 A];simp only[map_pure,pure_bind]
 have I:((CC (λZ=>An "bytes") (R::N::vs)).toArray.all λx=>x==An "bytes")=J:=by
  simp only[List.all_toArray,Jd,A3];intro _ _
  rfl
 rw[(by simp:(CC (λZ=>An "bytes") (R::N::vs)).toArray[0]?=U (An "bytes"))];simp only[I,if_true,pure_bind,Option.isSome_some]
def zT{vs:LVal}(h:AllB vs){xs:Array Hz}(hp:xs.Perm (pairsOf vs))(hs:SortedToK UD xs (pairsOf vs).size):
  (xs.map (·.2)).toList.Perm vs/\((xs.map (·.2)).toList.map Ur)=NZ (vs.map Ur):=by
 have y:xs.toList.Perm (vs.zip vs):=by rw[<-pairsOf_toList];exact Array.perm_iff_toList_perm.mp hp
 have C:(xs.map (·.2)).toList.Perm vs:=by
  rw[Hi];have:=y.map (·.2)
  rwa [List.map_snd_zip (AH _)]at this
 refine⟨C,zR (C.map Ur) (List.pairwise_iff_getElem.mpr λi j X R I=>?_)⟩;rw[Ak,Gs,Array.size_map]at X R
 have N:∀k A,KK UD xs k=Ur (xs[k]).2:=λk A=>by obtain⟨e1,q⟩:=mem_zip_self (y.mem_iff.mp (Array.getElem_mem_toList A):xs[k]∈vs.zip vs);obtain⟨b,t,x⟩:=h _ q;delta KK;rw[Kx A,<-e1];show(UD.keyOf xs[k].fst).getD []=Ur xs[k].fst;rw[x];rfl
 have:=hs i j (B3 I) ((hp.size_eq.symm:(pairsOf vs).size=xs.size)▸R);rw[N i X,N j R]at this;rw[List.getElem_map,List.getElem_map,L6,L6,MJ,MJ];exact(Pd this)
def Vk(ks:Ni):=∀prog w A E s a vs n P,AllB vs->vs.map Ur=ks->s.heap.get? a=U (KQ "list" vs.toArray n)->
 (∀out,AllB out.toList->out.toList.map Ur=NZ ks->P (CN (Cr AL)) {s with heap:=sortedHeap s.heap a vs out})->AB (model prog w) A (Builtin.«list.sort» ⟨[Ai a],[]⟩) P E s
def gi{ks:Ni}(R:ks.length<64):Vk ks:=λI w A E s a vs n P N X ho h=>
 list_sort_treeK wK ho (λp hp=>by obtain⟨e1,C⟩:=mem_zip_self (pairsOf_toList _▸hp);obtain⟨b,t,q⟩:=N _ C;exact⟨_,by rw[q]⟩) (λZ Z Z e=>gQ (e▸N)) (by rw[<-Ak (f:=Ur),X];exact R) λst' x p2=>(zT N x p2).elim λr1 y=>h _ (λv m=>N v (r1.mem_iff.mp m))<|X▸y
section
variable{d:NW}{o:V}{x:Wd B}
def aeJ{vs:LVal}:AllB vs->∀{ks},vs.map Ur=ks->(∀k∈ks,k.length<=Nh)->Nq x vs (ks.map W):=by
 induction vs with
 |nil=>exactλ_ {ks} e _=>e▸Nq.nil
 |cons v vs I=>intro h ks e X;subst e;obtain⟨R,A⟩:=Ae.mp h;obtain⟨N,C⟩:=Ae.mp X;obtain⟨b,t,rfl⟩:=R;exact Nq.cons (aq.bytes b t _ H N)<|I A H C
def i6{ks:Ni}(ho:VX σ o=U d)(hk:d.map (·.1)=ks.map W)(hn:ks.Nodup)(hL:ks.length<=1000)(hS:Vk ks)(q:Sw σ (AA ((NZ ks).map W)) Q):Nr B (n+1) 6 [o] σ Q:=aQ H λs vs e hs=>cQ hs λv hv A rm=>by
 subst e;obtain⟨a,es,m,rfl,e,hl,hE,hsys⟩:=kH hv ho;obtain⟨I,a1,a2,a3,a4⟩:=jI hE hk;have C:I.length=ks.length:=by rw[<-a3,Ak]
 have X:I.length<=sizeLine:=by rw[C,EF];exact Aa hL ae
 refine up<|call_function_entry kind_sorted plain_sorted entry_sorted (args_sorted1 _) ?_
 delta Builtin.«sorted»;refine Ab<|Aj<|Ab<|kdu_collect (kdl_dict hsys) rm.handled (⟨_,es.toArray,e,⟨H,H,H⟩,H,λe he=>a1 e (EV.mp he),a2,a3▸hn⟩:s.sh.heap.DictAt (bytesKind B.prog B.w) a I m) X λh' tk N hk' R=>?_
 have hal:N.toList.length=ks.length:=by rw[Gs,<-C];exact R.1
 have hb:AllB N.toList/\N.toList.map Ur=ks:=by
  refine⟨λv hv=>?_,List.ext_getElem? λi=>?_⟩;obtain⟨j,hj⟩:=Ee hv;obtain⟨k,x,_,h2⟩:=R.2 j v (by rw[<-ED];exact hj);obtain⟨b,t,e,_⟩:=ag6 h2;exact⟨b,t,e⟩;rw[BR]
  cases hj:N.toList[i]? with
  |none=>exact(D4 (hal▸List.getElem?_eq_none_iff.mp hj)).symm
  |some v=>obtain⟨k,x,h1,h2⟩:=R.2 i v (by rw[<-ED];exact hj);obtain⟨b,t,e,h3⟩:=ag6 h2;subst e;rw[<-a3,BR,h1];exact M7 U h3
 have hkb:∀k∈NZ ks,k.length<=Nh:=λk m=>by have m:=(aR ks).1.mem_iff.mp m;have:W k∈d.map (·.1):=hk▸Ca m;obtain⟨j,hj⟩:=Ee m;obtain⟨p,hp,he⟩:=A4.mp (aO (BR ..) (a3.symm▸hj:(I.map (·.1))[j]?=U k));exact he▸a4 j p.1 p.2 hp
 refine Ab<|L7 ?_ (by rw[hal,<-C];exact X:N.toList.length<=Eu)
 have y:(h'.push (KQ "list" N.toList.toArray 0)).get? h'.objs.size=U (KQ "list" N.toList.toArray 0):=BK _ H;have h0:=vY hk';have hne:∀{b} {o},s.sh.heap.get? b=U o->b≠h'.objs.size:=λe z=>aa (aO h0 (z▸e));refine Ab<|C1<|Fm slot_list_sort ⟨_,y,H⟩ entry_list_sort (hS _ _ _ _ _ _ _ _ _ hb.1 hb.2 y λout r1 r2=>⟨_,H,Aj ⟨_,H,?_⟩⟩)<|args_list_sort _
 have g4:=Lm (Be (KQ "list" #[] 0) (Be (KQ "tuple" N.toList.toArray 0) (Lm y (λZ=> #[])))) (λZ=>out);refine jP (λb o eb=>?_) h0 (by rw[(L5:out.toList.toArray=out)];exact g4) (aeJ r1 r2 hkb) q;exact(Ia _ _ _ _ (hne eb)).trans (Be _ (Be _ ((Ia _ _ _ _ (hne eb)).trans (Be _ (hk' b o eb):(h'.push (KQ "list" N.toList.toArray 0)).get? b=U o))))
def jS{ks:Ni}(A:VX σ o=U d)(I:d.map (·.1)=ks.map W)(R:ks.Nodup)(N:ks.length<64)(q:Sw σ (AA ((NZ ks).map W)) Q):Nr B (n+1) 6 [o] σ Q:=i6 A I R (Aa (B3 N) ae) (gi N) q
abbrev Nu:=List (M6×Fv)
end
abbrev Nu.d(l:Nu):=l.map λp=>(W p.1,p.2.v)
abbrev Nu.at_(l:Nu)(w:M6):Fv:=((l.find? λp=>w==p.1).map FH).getD IQ
abbrev Nu.rows(l:Nu):List Rw:=(NZ (l.map Az)).map λw=>.fld w (l.at_ w)
structure Nu.Ok (l:Nu):Prop where
 nd:(l.map Az).Nodup
 ok:∀p∈l,p.2.Ok/\p.1.length<=1000
 len:l.length<60
def i7:∀{l:Nu},w∈l.map Az->NH (W w) l.d=U (l.at_ w).v/\∃p∈l,p.1=w/\p.2=l.at_ w:=λ{l}=>by
 induction l with
 |nil=>exactλm=>M9 m Ay
 |cons p l ih=>
  intro m
  delta Nu.at_
  show(if(w==p.1)=J then U p.2.v else NH (W w) (Nu.d l))=_/\_
  rw[EB]
  cases e:w==p.1 with
  |true=>exact⟨H,p,As,(N2 e).symm,H⟩
  |false=>
   obtain⟨h1,q,h2,h3⟩:=ih ((AQ.mp m).resolve_left (λq=>nomatch e.symm.trans (beq_iff_eq.mpr q):w≠p.1))
   exact⟨h1,q,Au _ h2,h3⟩
abbrev Rw.pc(r:Rw):=r.oct++[44,10]
def gj:∀l:Nu,Nf 3 l.d=J:=λl=>A3.mpr λe m=>by
 obtain⟨p,_,rfl⟩:=A0.mp m
 rfl
section
variable{A:AG}{l:Nu}{iv dv:V}
abbrev ioF:=Om (Om (Ow.body.drop 1))
def afP{K:Kt}:∀(ws:Ni) {ps:Ni} {x:OV},(∀w∈ws,w∈l.map Az)->(∀p∈l,p.2.Ok/\p.1.length<=1000)->ps.length+ws.length<=1000->
  (∀x,K.nx [U iv,NG A,RC l.d,x] (τ.set A (AA ((ps++ws.map λw=>(J3 w (l.at_ w)).pc).map W))))->
  forL (Na (n+4) 59 ioF) (O2 (n+4) 59 (Eg 3)) K (ws.map W) [U iv,NG A,RC l.d,x] (τ.set A (AA (ps.map W))):=λws=>by
 induction ws with
 |nil=>exactλ{ps x} _ _ _ q=>by rw[show ps++CC (λw=>(J3 w (l.at_ w)).pc) []=ps from Ax ps]at q;exact q x
 |cons w ws ih=>
  intro ps x y X C q;obtain⟨h1,h2⟩:=Ae.mp y;obtain⟨g1,p,g2,g3,g4⟩:=i7 h1;obtain⟨N,R⟩:=X p g2;rw[g3]at R;rw[g4]at N
  have I:(J3 w (l.at_ w)).oct.length<=9002:=by show(w++(l.at_ w).txt).length+1<=9002;rw[Ad];exact AX<|Ao R<|Fv.b0 _ N
  refine aK (ai (M5.ag ..))<|au H (aC (c:=3) aG H (gj l)) g1<|zD _ N R ⟨?_,⟨?_,?_⟩⟩
  exact Aa (Ap (Bk ..))<|Aa I ae
  exact Aa (A7 I 2) ae;refine av (M5.ag ..) ?_ ?_;rw[Ak];exact Al (Aa (AD ..) C) ae;rw[M5.set_set];have:=ih (ps:=ps++[(J3 w (l.at_ w)).pc]) (x:=N1 w) h2 X (by rw[Ad,Bf];show ps.length+(1+ws.length)<=1000;rw[Bk 1];exact C) (λx=>by rw[Ag];exact q x);exact(by rw[AS];rfl:ps.map W++[.bytes ([9]++(w++(l.at_ w).txt)++[44,10])]=(ps++[(J3 w (l.at_ w)).pc]).map .bytes)▸this
abbrev ioG:=Om (Ow.body.drop 1)
def aeK{K:Kt}{ps:Ni}(N:l.Ok)(X:ps.length<=900)
  (q:∀x,K.nx [U iv,NG A,RC l.d,x] (τ.set A (AA ((ps++l.rows.map Rw.pc).map W)))):
  Na (n+4) 61 ioG [U iv,NG A,RC l.d,x] (τ.set A (AA (ps.map W))) K:=by
 have R:(l.map Az).length=l.length:=Ak ..;have I:(NZ (l.map Az)).length=l.length:=(aR _).1.length_eq.trans R;refine jS H ?_ N.nd (R▸BG N.len ae) ⟨?_,Aw ?_⟩;rw[Bo,Bo];rfl;show(CC W _).length<=Nh;rw[Ak,I];exact Aa (B3 N.len) ae;refine afP _ (λw m=>(aR _).1.mem_iff.mp m) N.ok ?_ λx=>?_;rw[I];exact Aa (Ao X (B3 N.len)) ae;delta Nu.rows at q;rw[Bo]at q;exact q x
end
structure aT where
 nm:Ni
 b:Nu
 m:Nu
 s:Nu
 o:Nu
 u:Ni
def aT.Pc(I:aT):jR:=⟨I.nm.map W,⟨I.b.d,I.m.d,I.s.d,I.o.d⟩,I.u.map W⟩
def aT.O1(I:aT):List Rw:=I.b.rows++(I.m.rows++(I.s.rows++(I.o.rows++I.u.map .use)))
structure aT.Ok (I:aT):Prop where
 b:I.b.Ok
 m:I.m.Ok
 s:I.s.Ok
 o:I.o.Ok
 u:∀w∈I.u,w.length<=1000
 ul:I.u.length<=60
 nm:(NJ [124] I.nm).length<=1000
section
variable{A c:AG}{iv dv z:V}{fl:List (Nat×V)}{k:Nat}{I:aT}
abbrev ioU:=Om (Ow.body.drop 2)
def cC(R:Qg c k Tt=J)(N:Uu k fl=U z)(X:VZ z=J)(q:Q z σ):Tf B n (V.ins c fl) k σ Q:=λx=>yd H (x.F.attr R).1 N X q x
def aeL{K:Kt}:∀(ws:Ni) {ps:Ni} {x:OV},(∀w∈ws,w.length<=1000)->ps.length+ws.length<=1000->
  (∀x,K.nx [U iv,NG A,d,x] (τ.set A (AA ((ps++ws.map λw=>(J2 w).pc).map W))))->
  forL (Na n 60 ioU) (O2 n 60 (Eg 3)) K (ws.map W) [U iv,NG A,d,x] (τ.set A (AA (ps.map W))):=λws=>by
 induction ws with
 |nil=>exactλ{ps x} _ _ q=>by rw[show ps++CC (λw=>(J2 w).pc) []=ps from Ax ps]at q;exact q x
 |cons w ws y=>intro ps x C R q;obtain⟨N,X⟩:=Ae.mp C;refine aK (ai (M5.ag ..)) ⟨?_,⟨?_,?_⟩⟩;exact Aa (AU N 5) ae;show([9,117,115,101,61]++w).length+2<=Nh;rw[Ad];exact Aa (A7 (AU N 5) 2) ae;refine av (M5.ag ..) ?_ ?_;rw[Ak];exact Al (Aa (AD ..) R) ae;rw[M5.set_set];have:=y (ps:=ps++[(J2 w).pc]) (x:=N1 w) X (by rw[Ad,Bf];show ps.length+(1+ws.length)<=1000;rw[Bk 1];exact R) (λx=>by rw[Ag];exact q x);exact(by rw[AS];rfl:ps.map W++[.bytes ([9,117,115,101,61]++w++[44,10])]=(ps++[(J2 w).pc]).map .bytes)▸this
def cY{l:Nu}(h:l.Ok):l.rows.length<=60:=by delta Nu.rows;rw[Ak,(aR _).1.length_eq,Ak];exact B3 h.len
def ach{K:Kt}:∀(ls:List Nu) {ps:Ni} {x y:OV},(∀l∈ls,l.Ok)->ps.length+60*ls.length<=900->
  (∀x y,K.nx [U iv,NG A,y,x] (τ.set A (AA ((ps++(ls.flatMap Nu.rows).map Rw.pc).map W))))->
  forL (Na (n+4) 61 ioG) (O2 (n+4) 61 (Eg 2)) K (ls.map λl=>B6 l.d) [U iv,NG A,y,x] (τ.set A (AA (ps.map W))):=λls=>by
 induction ls with
 |nil=>exactλ{ps x y} _ _ q=>by rw[show ps++(([]:List Nu).flatMap Nu.rows).map Rw.pc=ps from Ax ps]at q;exact q x y
 |cons l ls ih=>intro ps x y hl X q;obtain⟨R,C⟩:=Ae.mp hl;have N:ps.length+(60*ls.length+60)<=900:=X;refine aeK R (by exact ax X aS) λx=>ih C ?_ λx y=>?_;have:=cY R;rw[Ad,Ak];exact ax (Ao N this) aS;rw[Ag,<-AS];exact q x y
def aci:∀{ps:Ni},(∀p∈ps,p.length<=k)->ps.flatten.length<=k*ps.length:=λ{ps}=>by
 induction ps with
 |nil=>exactλZ=>Aq _
 |cons p ps X=>intro h;obtain⟨R,N⟩:=Ae.mp h;rw[Jb,Ad,Bn,FV,Bk];exact Ao (X N) R
def tw(r:Rw):r.pc.length=r.oct.length+2:=Ad
def oQ{l:Nu}(h:l.Ok):∀r∈l.rows,r.pc.length<=9004:=λr m=>by obtain⟨w,R,rfl⟩:=A0.mp m;obtain⟨_,p,y,X,N⟩:=i7 ((aR _).1.mem_iff.mp R);obtain⟨C,q⟩:=h.ok p y;rw[tw];show((w++(l.at_ w).txt).length+1+2:Nat)<=9004;rw[Ad];have:=Fv.b0 _ (N▸C);exact ax (Ao (X▸q:w.length<=1000) this) aS
def tA(h:I.Ok):(((E6 (NJ [124] I.nm) I.nm::I.O1).map Rw.pc).flatten).length<=9004*301:=by
 have a:∀r∈I.O1,r.pc.length<=9004:=λr m=>(BC.mp m).elim (oQ h.b r) λm=>(BC.mp m).elim (oQ h.m r) λm=>(BC.mp m).elim (oQ h.s r) λm=>(BC.mp m).elim (oQ h.o r) λm=>by obtain⟨w,R,rfl⟩:=A0.mp m;rw[tw];exact Aa (A7 (A7 (h.u w R) 5) 2) ae
 have b:I.O1.length<=300:=by
  delta aT.O1
  rewrite[Ad,Ad,Ad,Ad,Ak]
  exact ax (Ao (cY h.b) (Ao (cY h.m) (Ao (cY h.s) (Ao (cY h.o) h.ul)))) aS
 refine Aa (aci (k:=9004) λp m=>?_) ?_;obtain⟨r,N,rfl⟩:=A0.mp m;exact(AQ.mp N).elim (λe=>by rw[e,tw];exact Aa (A7 h.nm 2) ae)<|a r
 rw[Ak];exact A2 9004 (AX b)
def dJ(h:I.Ok)(q:Q (W (PX (E6 (NJ [124] I.nm) I.nm::I.O1))) σ):M8 B (n+5) 602 [I.Pc.v] σ Q:=by
 refine Ny.cut<|ay H H<|ck<|cC H H H<|a7 H (Aa h.nm ae) ⟨Aa (A7 h.nm 2) ae,⟨Ac H,AN λA X=>?_⟩⟩
 have R:∀{x:OV},(Nl (Na (n+4) 63) (Ow.body.drop 1) (RT λz τ=>Keeps σ τ/\Q z σ)).nx [U I.Pc.v,NG A,Y,x] (σ.set A (AA ([NJ [124] I.nm++[44,10]].map W))):=λ{x}=>by
  refine aL<|cC H H H<|cC H H H<|cC H H H<|cC H H H ?_
  generalize C:Nl (Na (n+4) 62) _ _=K
  suffices N:∀x y,K.nx [U I.Pc.v,NG A,y,x] (σ.set A (AA (([NJ [124] I.nm++[44,10]]++([I.b,I.m,I.s,I.o].flatMap Nu.rows).map Rw.pc).map W)))from
   ach [I.b,I.m,I.s,I.o] (Ae.mpr ⟨h.b,Ae.mpr ⟨h.m,Ae.mpr ⟨h.s,Ae.mpr ⟨h.o,λZ m=>M9 m Ay⟩⟩⟩⟩) ae N
  subst C;intro x y;refine aL<|cC H H H<|aeL I.u h.u ?_ λx=>?_
  have r1:=cY h.b;rw[Ad,Ak,G5,G5,G5,G5,Ad,Ad,Ad,Ad];show 1+(_+(_+(_+(_+0))))+_<=1000;exact ax (Ao r1 (Ao (cY h.m) (Ao (cY h.s) (Ao (cY h.o) h.ul)))) aS
  have e:[NJ [124] I.nm++[44,10]]++([I.b,I.m,I.s,I.o].flatMap Nu.rows).map Rw.pc++I.u.map (λw=>(J2 w).pc)=(E6 (NJ [124] I.nm) I.nm::I.O1).map Rw.pc:=by
   show(NJ [124] I.nm++[44,10])::_=(NJ [124] I.nm++[44,10])::I.O1.map Rw.pc;delta aT.O1
   rewrite[AS,AS,AS,AS,Bo]
   show _::(CC Rw.pc (I.b.rows++(I.m.rows++(I.s.rows++(I.o.rows++[]))))++_)=_;rw[AS,AS,AS,Ax,Ag,Ag,Ag]
   rfl
  rw[e];refine ck<|a7 (ai (M5.ag ..)) ?_ ⟨Keeps.refl.set X,?_⟩
  rw[ahc];exact(Aa (tA h) ae);rw[ahc];exact q
 exact R
abbrev Nu.has(l:Nu)(w:M6):=l.any λp=>w==p.1
abbrev Nu.add(l:Nu)(w:M6)(f:Fv):Nu:=cond (l.has w) l (l++[(w,f)])
abbrev Nu.merge(l m:Nu):Nu:=m.foldl (λl p=>l.add p.1 p.2) l
abbrev Fv.some:Fv->Bool
 |.no=>Am
 |_=>J
abbrev Nu.plain(l:Nu):Nu:=l.filter λp=>p.2.some
abbrev aT.put(I:aT)(w:M6)(f:Fv):Nat->aT
 |0=>{I with b:=I.b.add w f}
 |1=>{I with m:=I.m.add w f}
 |2=>{I with s:=I.s.add w f}
 |_=>{I with o:=I.o.add w f}
end
abbrev stepI(is:List aT)(r:Rw):List aT:=match r,is with
 |.head _ ns,is=>⟨ns,[],[],[],[],[]⟩::is
 |.fld w f,I::is=>I.put w f (Rc w)::is
 |.use w,I::is=>{I with u:=I.u++[w]}::is
 |_,[]=>[]
def fD:∀l:Nu,(NH (W w) l.d).isSome=l.has w:=λl=>by
 induction l with
 |nil=>rfl
 |cons p l N=>
  show(if(w==p.1)=J then U p.2.v else NH (W w) (Nu.d l)).isSome=(w==p.1||Nu.has l w)
  cases w==p.1
  exact N
  rfl
def gA{f:Fv}:∀{l},l.has w=Am->NX (W w) f.v l.d=Nu.d (l++[(w,f)]):=λ{l}=>by
 induction l with
 |nil=>exactλZ=>H
 |cons p l N=>
  intro h;obtain⟨I,R⟩:=CX.mp (show(w==p.1||Nu.has l w)=Am from h);show(if(w==p.1)=J then _ else(W p.1,p.2.v)::NX (W w) f.v (Nu.d l))=_;rw[I,Np Bh,N R]
  rfl
def kx(l:Nu)(w:M6)(f:Fv):TH (W w) f.v l.d=(l.add w f).d:=by
 delta TH Nu.add;rw[fD]
 cases h:l.has w with
 |true=>rfl
 |false=>exact gA h
def acj(I:aT)(w:M6)(f:Fv):∀p,(I.put w f p).Pc=⟨I.Pc.nm,I.Pc.t.put (W w) f.v p,I.Pc.u⟩:=λp=>by exact aaO p (M7 (λd=>(⟨_,⟨d,_,_,_⟩,_⟩:jR)) (kx ..).symm) (M7 (λd=>(⟨_,⟨_,d,_,_⟩,_⟩:jR)) (kx ..).symm) (M7 (λd=>(⟨_,⟨_,_,d,_⟩,_⟩:jR)) (kx ..).symm) λZ=>M7 (λd=>(⟨_,⟨_,_,_,d⟩,_⟩:jR)) (kx ..).symm
def zU(N:List aT)(r:Rw):RZ (N.map aT.Pc) r=(stepI N r).map aT.Pc:=by
 cases r with
 |head o R=>rfl
 |fld w f=>
  cases N with
  |nil=>rfl
  |cons I N=>exact M7 (· ::_) (acj I w f _).symm
 |use w=>
  cases N with
  |nil=>rfl
  |cons I N=>exact M7 (λu=>(⟨_,_,u⟩:jR)::_) (AS (l₁:=I.u) (l₂:=[w])).symm
def tB:∀(rs:List Rw) (is:List aT),rs.foldl RZ (is.map aT.Pc)=(rs.foldl stepI is).map aT.Pc:=λrs=>by
 induction rs with
 |nil=>exactλZ=>H
 |cons r rs ih=>
  intro is
  rewrite[DT,DT,zU,ih];rfl
abbrev aT.v(I:aT):=I.Pc.v
section
variable{υ:M5}{z u:V}{args:LV}{f:AM}{L X:Ox}
def jT{rs:List Rw}(h:∀r∈E6 o ns::rs,r.Ok)(N:rs.length<800)(q:Q (BB (((rs.foldl stepI [⟨ns,[],[],[],[],[]⟩]).map aT.v).reverse)) σ):M8 B (n+5) 576 [W (PX (E6 o ns::rs))] σ Q:=
 oP h N (by rw[show RZ [] (E6 o ns)=[aT.Pc ⟨ns,[],[],[],[],[]⟩]from H,show [aT.Pc ⟨ns,[],[],[],[],[]⟩]=CC aT.Pc [⟨ns,[],[],[],[],[]⟩]from H,tB,Bo];exact q)
def Re.ghost(N:Keeps τ σ)(R:∀(x:Wd B),x.σ=σ->∀a c l,τ a=U (BZ c l)->∃d,a=d+1/\τ d=U (CK a))(h:Re σ τ z u):NN σ τ z u:=λx v e r=> .mk ⟨Qu x.toSt τ,sR (e▸N) (R x e)⟩ H H (ll (e▸N)) (h x v e r)
def Ny.arg(g:NN σ τ z u)(c:Ny B n f (u::args) τ Q):Ny B n f (z::args) σ Q:=λx N e C A rm=>by obtain⟨v,N,rfl,h1,h2⟩:=aE.inv C;exact WA.casesOn (g x v e h1) λy a b l r=>ag1 (a▸c y (v::N) b (Nq.cons r (Nq.le h2 l)) A rm) (λv s' q=>aP.casesOn q λI R l2 q=>.mk I R (l.trans l2) q) λZ Z f=>f
end
section
variable{I M:aT}{w a b c d:M6}{is:LV}
abbrev iaF:=Om T6.body
def oR{K:Kt}(h:I.nm=[a,b])(N:(a==w)=J->K.rt (Zy i) σ)(R:(a==w)=Am->K.nx [A,N1 w,NT i,U I.v] σ):
  Na n 62 iaF [A,N1 w,NT i,U I.v] σ K:=by
 obtain⟨nm,x,q,C,y,X⟩:=I;obtain rfl:nm=[a,b]:=h;refine cC H H H<|cC H H H<|cP H H H ⟨Ac H,Aw (jN H H (aF (λe=>?_) λe=>?_))⟩
 exact N<|aO (Gf _) e
 exact R<|aO (Gf _) e
def aeM(h:I.nm=[w,b])(q:Q (Zy 0) σ):M8 B (n+1) 609 [BB (I.v::is),W w] σ Q:=
 ay H H (oR h (λZ=>q) λe=>M9 H (beq_eq_false_iff_ne.mp e))
def zV(h:I.nm=[a,b])(N:(a==w)=Am)(k:M.nm=[w,d])(q:Q (Zy 1) σ):M8 B (n+1) 609 [BB (I.v::M.v::is),W w] σ Q:=
 ay H H (oR h (λe=>nomatch N.symm.trans e) λZ=>oR k (λZ=>q) λe=>M9 H (beq_eq_false_iff_ne.mp e))
def rb(h:Hs τ X σ)(N:I.nm.length<=1000)(R:I.Pc.t.D)(q:∀E σ,IS τ E I.Pc.nm I.Pc.t [] X σ->Q (Av E) σ):M8 B (n+4) 628 [I.v] σ Q:=
 ay H H (cC H H H (cC H H H (cC H H H (cC H H H (cC H H H (i4 (λZ=>H) h (λZ=>H) (Aa (Ap (Ak ..)) N) R (λZ=>H) (Aq _) q))))))
end
def cZ{l:Nu}:l.has w=J↔w∈l.map Az:=
 Ho.trans ⟨λ⟨p,m,e⟩=>N2 e▸Ca m,λh=>(A0.mp h).elim λp q=>⟨p,q.1,beq_iff_eq.mpr q.2.symm⟩⟩
def zW:∀{l:Nu},(l.map Az).Nodup->∀p∈l,NH (W p.1) l.d=U p.2.v:=λ{l}=>by
 induction l with
 |nil=>exactλZ p m=>M9 m Ay
 |cons q l ih=>
  intro h p m;obtain⟨h1,h2⟩:=Bc.mp h;show(if(p.1==q.1)=J then U q.2.v else NH (W p.1) (Nu.d l))=_;rcases AQ.mp m with rfl|m
  rw[Nt (Px p.1)];rw[Np λe=>h1 ((N2 e:p.1=q.1)▸Ca m)];exact ih h2 p m
def fE:∀l:Nu,keysOk l.d=J:=λl=>by
 cases l with
 |nil=>rfl
 |cons p l=>exact gj (p::l)
def ack:∀l acc,(∀p∈l,acc.has p.1=Am)->(l.map Az).Nodup->l.d.foldl (λm e=>NX e.1 e.2 m) acc.d=Nu.d (acc++l):=λl=>by
 induction l with
 |nil=>exactλacc Z Z=>by rw[Ax];rfl
 |cons p l C=>intro acc h R;obtain⟨A,I⟩:=Ae.mp h;obtain⟨N,X⟩:=Bc.mp R;show(Nu.d l).foldl _ (NX (W p.1) p.2.v acc.d)=_;rw[gA A,C (acc++[(p.1,p.2)]) (λq m=>?_) X,Ag];rfl;exact(List.any_append ..).trans<|CX.mpr ⟨I q m,(Gf _).trans (beq_eq_false_iff_ne.mpr λe=>N (e▸Ca m))⟩
def d9{l:Nu}(h:(l.map Az).Nodup)(N:l.length<=8):DOk l.d:=⟨⟨fE l,Aa (Ap (Ak ..)) N⟩,ack l [] (λZ Z=>H) h⟩
def gk{l:Nu}(h:(l.map Az).Nodup):(l.plain.map Az).Nodup:=h.sublist ((Ms ..).map _)
def dM(l:Nu):l.plain.length<=l.length:=F2 ..
abbrev aT.pl(I:aT):aT:=⟨I.nm,I.b.plain,I.m.plain,I.s.plain,I.o.plain,[]⟩
structure aT.Nd (I:aT):Prop where
 b:(I.b.map Az).Nodup/\I.b.length<=8
 m:(I.m.map Az).Nodup/\I.m.length<=8
 s:(I.s.map Az).Nodup/\I.s.length<=8
 o:(I.o.map Az).Nodup/\I.o.length<=8
 nm:I.nm.length<=10
theorem aT.Nd.D{I:aT}(h:I.Nd):I.Pc.t.D:=⟨d9 h.b.1 h.b.2,d9 h.m.1 h.m.2,d9 h.s.1 h.s.2,d9 h.o.1 h.o.2⟩
def aT.Nd.pl{I:aT}(h:I.Nd):I.pl.Nd:=⟨⟨gk h.b.1,Aa (dM _) h.b.2⟩,⟨gk h.m.1,Aa (dM _) h.m.2⟩,⟨gk h.s.1,Aa (dM _) h.s.2⟩,⟨gk h.o.1,Aa (dM _) h.o.2⟩,h.nm⟩
abbrev plG(p:M6×Fv):OV:=cond p.2.some (U (Bg [W p.1,p.2.v])) Y
def acm:∀l:Nu,l.filterMap plG=l.plain.d.map OD:=λl=>by
 induction l with
 |nil=>rfl
 |cons p l N=>
  obtain⟨w,f⟩:=p
  cases f with
  |no=>exact N
  |_=>exact M7 (_::·) N
section
variable{n:Nat}{σ τ:M5}{Q:KE}{I:aT}{l:Nu}{A:AG}{iv x:OV}
abbrev ipF:=Om (Qd.body.drop 1)
def acn{K:Kt}{ls:LV}(h:(l.map Az).Nodup/\l.length<=8)(X:ls.length<100)(q:K.nx [iv,NG A,RC l.d] (τ.set A (AA (ls++[B6 l.plain.d])))):
  Na (n+3) 61 ipF [iv,NG A,RC l.d] (τ.set A (AA ls)) K:=by
 refine aK (ai (M5.ag ..)) ⟨⟨l.map Az,?_,h.1⟩,?_⟩;rw[Bo,Bo];rfl;rw[show l.d.map (·.1)=l.map λp:M6×Fv=>W p.1 from Bo ..];refine bb (β:=M6×Fv) (f:=λp=>W p.1) (g:=plG) l (λp m k q=>?_) ?_
 ·have g:=zW h.1 p m;have R:∀{j:Nat},Keyed j (W p.1) l.d:=aC (c:=3) aG H (gj l);refine au H R g ?_;obtain⟨w,f⟩:=p
  cases f with
  |no=>exact q
  |_=>exact au H R g q
 have N:l.plain.d.length<=8:=Aa (Ap (Ak ..)) (Aa (dM l) h.2);have e:=(d9 (l:=l.plain) (gk h.1) (Aa (dM l) h.2)).2;rw[acm];refine⟨?_,Aw (d5 H (fE _) (Aa N ae) ⟨?_,Aw ?_⟩)⟩;show(CC OD _).length<=Nh;rw[Ak];exact Aa N ae;rw[e];exact Aa N ae;rw[e];exact av (M5.ag ..) (BG X ae) (by rw[M5.set_set];exact q)
def aco{K:Kt}:∀(L:List Nu) {ls:LV} {x:OV},(∀l∈L,(l.map Az).Nodup/\l.length<=8)->ls.length+L.length<100->(∀x,K.nx [iv,NG A,x] (τ.set A (AA (ls++L.map λl=>B6 l.plain.d))))->
  forL (Na (n+3) 61 ipF) (O2 (n+3) 61 (Eg 2)) K (L.map λl=>B6 l.d) [iv,NG A,x] (τ.set A (AA ls)):=λL=>by
 induction L with
 |nil=>exactλ{ls x} _ _ q=>by rw[show ls++(([]:List Nu).map λl=>B6 l.plain.d)=ls from Ax ls]at q;exact q x
 |cons l L y=>
  intro ls x h R q;obtain⟨C,X⟩:=Ae.mp h;have N:ls.length+(L.length+1)<100:=R;refine acn C (by exact ax R aS)<|y X ?_ λx=>?_
  rw[Ad];show ls.length+1+_<100;exact ax N aS;rw[Ag];exact q x
omit I l A iv x in
def IS.re{E:AG}{D:jR}{X:Ox}(h:IS σ E D.nm D.t D.u X τ):Keeps σ τ/\Re τ σ (Av E) D.v:=by obtain⟨N,d0,d1,d2,d3,M,d,rfl,h⟩:=h;have g:∀i {e:AG×O},_[i]?=U e->τ e.1=U e.2/\σ e.1=Y:=λi e q=>h.h e (A6 q);have hk:=h.k;have a0:=g 0 H;have a1:=g 1 H;have a2:=g 2 H;have a3:=g 3 H;have a4:=g 4 H;have a5:=g 5 H;have a6:=g 6 H;exact⟨hk,Re.ins (Q4.cons (Re.lst (UC.refl hk) H a1.1 a1.2) (Q4.cons (Re.di hk a2.1 a2.2) (Q4.cons (Re.di hk a3.1 a3.2) (Q4.cons (Re.di hk a4.1 a4.2) (Q4.cons (Re.di hk a5.1 a5.2) (Q4.cons (Re.lst (UC.refl hk) H a6.1 a6.2) .nil)))))) H a0.1 a0.2 (g 7 H).2⟩
def rf(h:I.Nd)(q:Q I.pl.v σ):M8 B (n+4) 621 [I.v] σ Q:=by
 refine Ny.tree<|ay H H ⟨Aq _,AN λA C=>?_⟩
 have R:∀{x:OV},(Nl (Na (n+3) 63) (Qd.body.drop 1) (RT λz τ=>Keeps σ τ/\∃u,Re τ σ z u/\Q u σ)).nx [U I.v,NG A,x] (σ.set A (AA [])):=λ{x}=>by
  refine aL<|cC H H H<|cC H H H<|cC H H H<|cC H H H ?_
  generalize y:Nl (Na (n+3) 62) _ _=K
  suffices N:∀x,K.nx [U I.v,NG A,x] (σ.set A (AA ([]++[I.b,I.m,I.s,I.o].map λl=>B6 l.plain.d)))from
   aco (n:=n) [I.b,I.m,I.s,I.o] (ls:=[]) (Ae.mpr ⟨h.b,Ae.mpr ⟨h.m,Ae.mpr ⟨h.s,Ae.mpr ⟨h.o,λZ m=>M9 m Ay⟩⟩⟩⟩) ae N
  subst y;intro x;have e:=ai (M5.ag (σ:=σ) A (AA ([]++[I.b,I.m,I.s,I.o].map λl=>B6 (Nu.d l.plain))))
  exact cC H H H (ah e H (ah e H (ah e H (ah e H (i4 (n:=n) (t:=I.pl.Pc.t) (nv:=BB I.Pc.nm) (uv:=Bg []) (λZ=>H) (Hs.nil.new C) (λZ=>H) (Aa (Ap (Ak ..)) (Aa h.nm ae)) h.pl.D (λZ=>H) (Aq _)
   λE τ X=>⟨(IS.re (D:=I.pl.Pc) X).1,I.pl.v,(IS.re (D:=I.pl.Pc) X).2,q⟩)))))
 exact R
end
section
variable{I M:aT}{l m:Nu}{D E:AG}{L X:Ox}{a b c x:OV}{i:Nat}
abbrev mgF:=Om (PB.body.drop 1)
abbrev mgG:=Om mgF
def ahA{N:Type}{L:List N}{e:N}(h:L[i]?=U e):L.set i e=L:=by obtain⟨A,R⟩:=BI.mp h;rw[<-R,LU A]
def afQ{K:Kt}:∀ps {l:Nu} {L:Ox} {σ:M5} {x:OV},(∀p∈ps,NH (W p.1) m.d=U p.2.v)->Hs τ L σ->L[i]?=U (D,AE l.d)->l.length+ps.length<=100->
  (∀σ x,Hs τ (L.set i (D,AE (Nu.d (l.merge ps)))) σ->K.nx [a,b,c,NG D,RC m.d,x] σ)->
  forL (Na (n+3) 59 mgG) (O2 (n+3) 59 (Eg 5)) K (ps.map λp=>W p.1) [a,b,c,NG D,RC m.d,x] σ:=λps=>by
 induction ps with
 |nil=>exactλ{l L σ x} _ h e _ q=>q σ x ((ahA e).symm▸h:Hs τ (L.set i (D,AE l.d)) σ)
 |cons p ps ih=>
  intro l L σ x hm h e hk q;obtain⟨m1,m2⟩:=Ae.mp hm;have R:l.length+(ps.length+1)<=100:=hk;have y:∀{j} (l:Nu),Keyed j (W p.1) l.d:=λl=>aC (c:=3) aG H (gj l);have ea:=h.at i e
  have N:∀{σ} {l'},l'=l.add p.1 p.2->Hs τ (L.set i (D,AE l'.d)) σ->forL (Na (n+3) 59 mgG) (O2 (n+3) 59 (Eg 5)) K (ps.map λp=>W p.1) [a,b,c,NG D,RC m.d,N1 p.1] σ:=λ{σ l'} e1 h'=>by
   refine ih m2 h' (by rw[FO (BI.mp e).1]) ?_ λσ x h=>q σ x ?_
   ·subst e1;delta Nu.add
    cases l.has p.1
    show(l++[(p.1,p.2)]).length+_<=100;rw[Ad];show l.length+1+_<=100;exact ax R aS;show l.length+_<=100;exact ax R aS
   subst e1;rw[LC]at h;exact h
  refine aN (ao ea) (y l)<|aF (λC=>?_) λC=>?_
  ·have A:=aO (fD l) ((BM _).mp C);have e4:l.add p.1 p.2=l++[(p.1,p.2)]:=by delta Nu.add;rw[A];rfl
   refine au H (y m) m1<|aJ ea (y l) ?_<|N e4.symm ?_
   exact Al (Aa (Ap (Ak ..)) (Aa (AD ..) hk)) ae;rw[gA A];exact h.upd i e _
  have A:=aO (fD l) ((IE _).mp C);exact N (show l=l.add p.1 p.2 by delta Nu.add;rw[A];rfl)<|(ahA e).symm▸h
def acp{K:Kt}(N:(m.map Az).Nodup)(h:Hs τ L σ)(e:L[i]?=U (D,AE l.d))(R:l.length+m.length<=100)
  (q:∀σ x,Hs τ (L.set i (D,AE (Nu.d (l.merge m)))) σ->K.nx [a,b,c,NG D,RC m.d,x] σ):Na (n+3) 61 mgF [a,b,c,NG D,RC m.d,x] σ K:=by
 refine⟨⟨m.map Az,?_,N⟩,?_⟩;rw[Bo,Bo];rfl;rw[show m.d.map (·.1)=m.map λp:M6×Fv=>W p.1 from Bo ..];exact afQ m (zW N) h e R q
def aT.V6(I M:aT):aT:=⟨I.nm,I.b.merge M.b,I.m.merge M.m,I.s.merge M.s,I.o.merge M.o,I.u⟩
end
structure aT.Sm (I M:aT):Prop where
 b:I.b.length+M.b.length<=100
 m:I.m.length+M.m.length<=100
 s:I.s.length+M.s.length<=100
 o:I.o.length+M.o.length<=100
section
variable{I M:aT}{D E:AG}{X:Ox}{u nm:LV}
def ky{K:Kt}{L:Ox}{l m:Nu}(i:Nat)(N:(m.map Az).Nodup)(h:Hs τ L σ)(e:L[i]?=U (D,AE l.d))(R:l.length+m.length<=100)
  (q:∀σ y z x,Hs τ (L.set i (D,AE (Nu.d (l.merge m)))) σ->forL (Na (n+3) 61 mgF) (O2 (n+3) 61 (Ln [Eg 3,Eg 4])) K r [a,b,c,y,z,x] σ):
  forL (Na (n+3) 61 mgF) (O2 (n+3) 61 (Ln [Eg 3,Eg 4])) K (Bg [Av D,B6 m.d]::r) [a,b,c,y,z,x] σ:=
 acp N h e R λσ x h=>q σ _ _ x h
def wL(h:IS τ E nm I.Pc.t u X σ)(hJ:M.Nd)(hk:I.Sm M)(q:∀σ,IS τ E nm (I.V6 M).Pc.t u X σ->Q A5 σ):M8 B (n+4) 616 [Av E,M.v] σ Q:=by
 obtain⟨N,d0,C,d2,d3,A,d,rfl,h⟩:=h;refine ay H H<|aZ (h.at 0 H) H H H<|cC H H H<|aZ (h.at 0 H) H H H<|cC H H H<|aZ (h.at 0 H) H H H<|cC H H H ⟨Ac H,Aw ?_⟩
 have fin:∀{p},p=BB [Bg [Av d0,B6 M.b.d],Bg [Av C,B6 M.m.d],Bg [Av d2,B6 M.s.d]]->(Nl (Na (n+3) 63) (PB.body.drop 1) (RT Q)).nx [NG (d+1),U M.v,U p,Y,Y,Y] σ:=λ{p} hp=>by
  subst hp;refine aL<|aZ (h.at 0 H) H H H<|cC H H H ⟨Ac H,Aw (bf H H ae ⟨Ac H,Aw ?_⟩)⟩
  generalize hK:Nl (Na (n+3) 62) _ _=K
  suffices R:∀σ x,Hs τ ((d+1,S8 N d0 C d2 d3 A)::(N,AA nm)::(d0,AE (I.V6 M).b.d)::(C,AE (I.V6 M).m.d)::(d2,AE (I.V6 M).s.d)::(d3,AE (I.V6 M).o.d)::(A,AA u)::(d,CK (d+1))::X) σ->∀a b p,K.nx [NG (d+1),U M.v,p,a,b,x] σ from
   ky (r:=[Bg [Av C,B6 M.m.d],Bg [Av d2,B6 M.s.d],Bg [Av d3,B6 M.o.d]]) 2 hJ.b.1 h H hk.b λσ y z x h=>
   ky 3 hJ.m.1 h H hk.m λσ y z x h=>
   ky 4 hJ.s.1 h H hk.s λσ y z x h=>
   ky 5 hJ.o.1 h H hk.o λσ y z x h=>R σ x h _ _ _
  subst hK;exactλσ x h a b p=>q σ ⟨N,d0,C,d2,d3,A,d,H,h⟩
 exact fin H
variable{L:Ox}{D:jR}
abbrev kc(L:Ox)(σ:M5):M5:=λa=>cond ((L.map Az).contains a) Y (σ a)
def uM(h:a∈L.map Az):kc L σ a=Y:=by delta kc;rw[Ci.mpr h];rfl
def i8(h:a∉L.map Az):kc L σ a=σ a:=by delta kc;rw[show(L.map Az).contains a=Am from Bp.mpr λe=>h (Ci.mp e)];rfl
def ng(h:kc L σ a=U o):a∉L.map Az/\σ a=U o:=by
 by_cases q:a∈L.map Az
 exact aa<|aO (uM q) h
 exact⟨q,aO (i8 q) h⟩
def Hs.kc(h:Hs τ (L++X) σ):Hs τ X (Tp.kc L σ):=by
 obtain⟨A,R,N⟩:=Dq.mp ((AS ..)▸h.nd);refine⟨λb o e=>?_,λe m=>⟨?_,(h.h e (DB _ m)).2⟩,R⟩;refine(i8 λq=>?_).trans (h.k b o e);obtain⟨p,m,rfl⟩:=A0.mp q;exact aa<|(h.h p (ER _ m)).2.symm.trans e
 exact(i8 λq=>N _ q _ (Ca m) H).trans (h.h e (DB _ m)).1
def zX(y:∀d a,(d,CK a)∈L->a∈L.map Az)(h:Hs τ (L++X) σ)(x:Wd B)(e:x.σ=σ)(a c:AG)(l:List (Nat×V))(q:kc L σ a=U (BZ c l)):∃d,a=d+1/\kc L σ d=U (CK a):=by obtain⟨A,q2⟩:=ng q;obtain⟨d,_,_,_,_,N,_,C⟩:=x.ok.objs a _ (e▸q2);rw[e]at N;refine⟨d,C,(i8 λm=>A ?_).trans N⟩;obtain⟨p,R,rfl⟩:=A0.mp m;exact y p.1 a<|(Af ((h.h p (ER _ R)).1.symm.trans N))▸R
def acq(h:CK a=CK b):b=a:=M7 (λo:O=>match o with|.u6 x=>x|_=>a) h.symm
def IS.ghost{C:Prop}(h:IS τ E D.nm D.t D.u X σ)(q:∀A,Hs τ X A->NN σ A (Av E) D.v->C):C:=by
 obtain⟨N,d0,x,d2,y,R,d,rfl,h⟩:=h;have h:Hs τ ([(d+1,S8 N d0 x d2 y R),(N,AA D.nm),(d0,AE D.t.b),(x,AE D.t.m),(d2,AE D.t.s),(y,AE D.t.o),(R,AA D.u),(d,CK (d+1))]++X) σ:=h;generalize hL:[(d+1,S8 N d0 x d2 y R),(N,AA D.nm),(d0,AE D.t.b),(x,AE D.t.m),(d2,AE D.t.s),(y,AE D.t.o),(R,AA D.u),(d,CK (d+1))]=L at h;have k:Keeps (kc L σ) σ:=λb o e=>(ng e).2
 have g:∀i {e:AG×O},L[i]?=U e->σ e.1=U e.2/\kc L σ e.1=Y:=λi e q=>
  have m:=A6 q
  ⟨(h.h e (ER _ m)).1,uM (Ca m)⟩
 have hc:∀d a,(d,CK a)∈L->a∈L.map Az:=by
  subst hL;intro d' a m;rcases AQ.mp m with e|m
  exact M9 (D8 e).2.symm<|dw H
  rcases AQ.mp m with e|m
  exact M9 (D8 e).2.symm<|dw H
  rcases AQ.mp m with e|m
  exact M9 (D8 e).2.symm<|dw H
  rcases AQ.mp m with e|m
  exact M9 (D8 e).2.symm<|dw H
  rcases AQ.mp m with e|m
  exact M9 (D8 e).2.symm<|dw H
  rcases AQ.mp m with e|m
  exact M9 (D8 e).2.symm<|dw H
  rcases AQ.mp m with e|m
  exact M9 (D8 e).2.symm<|dw H
  exact acq ((D8 (AV.mp m)).2)▸As
 refine q _ h.kc<|Re.ghost k (zX hc h) ?_
 subst hL;have a0:=g 0 H;have a1:=g 1 H;have a2:=g 2 H;have a3:=g 3 H;have a4:=g 4 H;have a5:=g 5 H;have a6:=g 6 H;exact Re.ins (Q4.cons (Re.lst (UC.refl k) H a1.1 a1.2) (Q4.cons (Re.di k a2.1 a2.2) (Q4.cons (Re.di k a3.1 a3.2) (Q4.cons (Re.di k a4.1 a4.2) (Q4.cons (Re.di k a5.1 a5.2) (Q4.cons (Re.lst (UC.refl k) H a6.1 a6.2) .nil)))))) H a0.1 a0.2 (g 7 H).2
variable{t:Lt}
def IS.out{C:Prop}(h:IS τ E nm t u X σ)(q:∀A:Ox,Hs τ (X++A) σ->(∀X' y,Hs τ (X'++A) y->IS τ E nm t u X' y)->C):C:=by obtain⟨N,d0,d1,d2,x,R,d,rfl,h⟩:=h;have h:Hs τ ([(d+1,S8 N d0 d1 d2 x R),(N,AA nm),(d0,AE t.b),(d1,AE t.m),(d2,AE t.s),(x,AE t.o),(R,AA u),(d,CK (d+1))]++X) σ:=h;exact q _ (h.perm C6) λX' y h=>⟨N,d0,d1,d2,x,R,d,H,h.perm C6⟩
end
section
variable{I M:aT}{a b c d:M6}{D1 D2 P:AG}{x6 x7 x8 x9:OV}
abbrev rsT:E:=PF (Ry.body.drop 2)
abbrev rsB:=Pn (Ry.body.drop 2)
abbrev rsR(I M:aT)(a:M6)(D1 D2 P:AG)(x6 x7 x8 x9:OV):NF:=[U (BB [I.v,M.v]),U (W a),U (Zy 0),U (Av D1),U (Av D2),U (Av P),x6,x7,x8,x9]
def afR{K:Kt}{P0 C:AG}{N:Ox}(hI:I.nm=[a,b])(hu:I.u=[c])(hJ:M.nm=[c,d])(ne:(a==c)=Am)(hd:M.Nd)
  (h:Hs τ ((P,AA [Av P0])::(P0,AA [Zy 0,Zy 0,Av C])::(D2,AE [(Zy 0,Bm J)])::(D1,AE [])::N) σ)
  (q:∀A R σ x6 x7 x8 x9,IS τ R M.Pc.nm M.Pc.t [] ((A,AA [Zy 1,Zy 0,Av R])::(P,AA [Av P0,Av A])::(P0,AA [Zy 0,Zy 0,Av C])::(D2,AE [(Zy 0,Bm J),(Zy 1,Bm J)])::(D1,AE [])::N) σ->Og (n+5) rsT rsB (rsR I M a D1 D2 P x6 x7 x8 x9) σ K):
  Og (n+5) rsT rsB (rsR I M a D1 D2 P x6 x7 x8 x9) σ K:=by
 obtain⟨nm,lb,lm,ls,lo,lu⟩:=I;obtain rfl:lu=[c]:=hu;have X:∀{i} {l} {j},Nf 1 l=J->Keyed j (Zy i) l:=λh=>aC (c:=1) aG H h;refine dN ⟨Aq _,Aw (bF (ai (h.at 0 H)) H ?_)⟩;refine bE (ai (h.at 0 H)) aG (H7 (-1)) (i:=0) H H<|ak (x:=[Zy 0,Zy 0,Av C]) (by show Q2 (σ P0)=_;rw[h.at 1 H];rfl) ?_
 refine ah H H<|cC H H H<|ah H H<|cC H H H<|ah H H<|zV (hI:nm=[a,b]) ne hJ ?_
 refine aL<|aX (ao (h.at 3 H)) (X H)<|aX (ao (h.at 2 H)) (X H)<|aJ (h.at 2 H) (X H) ae ?_
 have h2:=h.upd 2 H (AE [(Zy 0,Bm J),(Zy 1,Bm J)]);refine aL<|aK (ai (h2.at 0 H))<|ah H H<|rb (n:=n+1) h2 (Aa hd.nm ae) hd.D λR σ' hE=>hE.out λY1 g r=>⟨Ac H,AN λA hP=>?_⟩
 have y:=g.new (o:=AA [Zy 1,Zy 0,Av R]) hP;exact av (y.at 1 H) (show 1<Nh by decide)<|q A R _ _ _ _ _<|r _ _<|y.upd 1 H _
def afS{K:Kt}{P0 R X A:AG}{N:Ox}(hd:M.Nd)(hu:M.u=[])
  (h:IS τ A M.Pc.nm M.Pc.t [] ((R,AA [Zy 1,Zy 0,Av A])::(P,AA [Av P0,Av R])::(P0,AA [Zy 0,Zy 0,Av X])::(D2,AE [(Zy 0,Bm J),(Zy 1,Bm J)])::(D1,AE [])::N) σ)
  (q:∀σ x6 x7 x8 x9,Hs τ ((P,AA [Av P0])::(P0,AA [Zy 0,Zy 0,Av X])::(D2,AE [(Zy 0,Bm J),(Zy 1,Bm J)])::(D1,AE [(Zy 1,M.pl.v)])::N) σ->Og (n+5) rsT rsB (rsR I M a D1 D2 P x6 x7 x8 x9) σ K):
  Og (n+5) rsT rsB (rsR I M a D1 D2 P x6 x7 x8 x9) σ K:=by
 obtain⟨nm,lb,lm,y,lo,C⟩:=M;obtain rfl:C=[]:=hu;have kd:∀{i} {l} {j},Nf 1 l=J->Keyed j (Zy i) l:=λh=>aC (c:=1) aG H h;refine h.out λY1 g r=>dN ⟨Aq _,Aw (bF (ai (g.at 1 H)) H ?_)⟩;refine bE (ai (g.at 1 H)) aG (show(-2:Int)<= -1 by decide) H H<|ak (by show Q2 (σ R)=_;rw[g.at 0 H];rfl) ?_
 refine ah H H<|cC H H H<|IS.ghost h λx g k=>Ny.arg k<|rf hd ?_
 refine aJ (g.at 4 H) (kd H) ae ?_;have g:=g.upd 4 H (AE [(Zy 1,(aT.pl ⟨nm,lb,lm,y,lo,[]⟩).v)]);exact aL<|p7 (ai (g.at 1 H))<|f7 (g.at 1 H)<|q _ _ _ _ _<|(g.upd 1 H (AA [Av P0])).sub<|Et ..
def afT{K:Kt}{P0 N:AG}{X:Ox}(hI:I.nm=[a,b])(hu:I.u=[c])(x:M.nm=[c,d])(C:(a==c)=Am)(hd:M.Nd)(hk:I.Sm M.pl)
  (h:IS τ N I.Pc.nm I.Pc.t [] ((P,AA [Av P0])::(P0,AA [Zy 0,Zy 0,Av N])::(D2,AE [(Zy 0,Bm J),(Zy 1,Bm J)])::(D1,AE [(Zy 1,M.pl.v)])::X) σ)
  (q:∀σ x6 x7 x8 x9,IS τ N I.Pc.nm (I.V6 M.pl).Pc.t [] ((P,AA [Av P0])::(P0,AA [Zy 0,Zy 1,Av N])::(D2,AE [(Zy 0,Bm J),(Zy 1,Bm J)])::(D1,AE [(Zy 1,M.pl.v)])::X) σ->Og (n+5) rsT rsB (rsR I M a D1 D2 P x6 x7 x8 x9) σ K):
  Og (n+5) rsT rsB (rsR I M a D1 D2 P x6 x7 x8 x9) σ K:=by
 obtain⟨nm,lb,lm,ls,lo,A⟩:=I;obtain rfl:A=[c]:=hu;have R:∀{i} {l} {j},Nf 1 l=J->Keyed j (Zy i) l:=λh=>aC (c:=1) aG H h;refine h.out λy g r=>dN ⟨Aq _,Aw (bF (ai (g.at 0 H)) H ?_)⟩;refine bE (ai (g.at 0 H)) aG (H7 (-1)) H H<|ak (by show Q2 (σ P0)=_;rw[g.at 1 H];rfl) ?_
 refine ah H H<|cC H H H<|ah H H<|cC H H H<|ah H H<|zV (hI:nm=[a,b]) C x ?_
 refine aL<|aX (ao (g.at 3 H)) (R H)<|au (ao (g.at 3 H)) (R H) H<|wL h hd.pl hk λσ h=>?_
 refine h.out λy g r=>(aL (bE (ai (g.at 0 H)) aG (H7 (-1)) H H (bB (g.at 1 H) (show 1<3 by decide) ?_)));exact q _ _ _ _ _<|r _ _<|g.upd 1 H _
def afU{K:Kt}{P0 A:AG}{X:Ox}(hu:I.u=[c])(N:(I.V6 M.pl).Nd)
  (h:IS τ A I.Pc.nm (I.V6 M.pl).Pc.t [] ((P,AA [Av P0])::(P0,AA [Zy 0,Zy 1,Av A])::(D2,AE [(Zy 0,Bm J),(Zy 1,Bm J)])::(D1,AE [(Zy 1,M.pl.v)])::X) σ)
  (q:∀σ x6 x7 x8 x9,Hs τ [(D1,AE [(Zy 1,M.pl.v),(Zy 0,(I.V6 M.pl).pl.v)])] σ->K.nx (rsR I M a D1 D2 P x6 x7 x8 x9) σ):
  Og (n+5) rsT rsB (rsR I M a D1 D2 P x6 x7 x8 x9) σ K:=by
 obtain⟨nm,lb,lm,y,x,lu⟩:=I;obtain rfl:lu=[c]:=hu;have kd:∀{i} {l} {j},Nf 1 l=J->Keyed j (Zy i) l:=λh=>aC (c:=1) aG H h;refine h.out λY1 g r=>dN ⟨Aq _,Aw (bF (ai (g.at 0 H)) H ?_)⟩;refine bE (ai (g.at 0 H)) aG (H7 (-1)) H H<|ak (by show Q2 (σ P0)=_;rw[g.at 1 H];rfl) ?_
 refine ah H H<|cC H H H ?_
 generalize C:aT.mk nm (lb.merge M.pl.b) (lm.merge M.pl.m) (y.merge M.pl.s) (x.merge M.pl.o) []=R;refine IS.ghost ((λR e=>e▸h:∀R,aT.mk nm (lb.merge M.pl.b) (lm.merge M.pl.m) (y.merge M.pl.s) (x.merge M.pl.o) []=R->IS τ A R.Pc.nm R.Pc.t R.Pc.u ((P,AA [Av P0])::(P0,AA [Zy 0,Zy 1,Av A])::(D2,AE [(Zy 0,Bm J),(Zy 1,Bm J)])::(D1,AE [(Zy 1,M.pl.v)])::X) σ) R C) λσ' g k=>Ny.arg k<|rf (by subst C;exact⟨N.b,N.m,N.s,N.o,N.nm⟩:R.Nd) ?_
 refine aJ (g.at 3 H) (kd H) (show 1<Nh by decide) ?_;have g:=g.upd 3 H (AE [(Zy 1,M.pl.v),(Zy 0,R.pl.v)]);refine aL<|p7 (ai (g.at 0 H))<|f7 (l:=[]) (z:=Av P0) (g.at 0 H) ?_
 have g:=g.upd 0 H (AA []);refine dN ⟨Aq _,Aw (bF (ai (g.at 0 H)) H ?_)⟩;subst C;exact q _ _ _ _ _<|g.sub<|.cons _<|.cons _<|.cons _<|DL _<|List.nil_sublist _
def rg(y:I.nm=[a,b])(x:I.u=[c])(hJ:M.nm=[c,d])(hv:M.u=[])(ne:(a==c)=Am)(hi:I.Nd)(X:M.Nd)(hk:I.Sm M.pl)(hm:(I.V6 M.pl).Nd)
  (q:Q (I.V6 M.pl).pl.v σ):M8 B (n+6) 635 [BB [I.v,M.v],W a] σ Q:=by
 have kd:∀{i} {l} {j},Nf 1 l=J->Keyed j (Zy i) l:=λh=>aC (c:=1) aG H h;refine Ny.cut<|ay H H<|aeM y<|aL ⟨H,Aq _,AN λD1 h1=>⟨H,Ac H,AN λD2 h2=>?_⟩⟩
 have g:=(Hs.nil.new (o:=AE []) h1).new (o:=AE [(Zy 0,Bm J)]) h2;refine ah H H<|rb (n:=n+1) g (Aa hi.nm ae) hi.D λE0 υ h=>h.out λR g r=>⟨Ac H,AN λP0 C=>?_⟩
 have g:=g.new (o:=AA [Zy 0,Zy 0,Av E0]) C;refine⟨Ac H,AN λP hP=>aL ?_⟩;have g:=g.new (o:=AA [Av P0]) hP;generalize hK:Nl (Na (n+5) 61) _ _=K
 suffices N:∀A x6 x7 x8 x9,Hs σ [(D1,AE [(Zy 1,M.pl.v),(Zy 0,(I.V6 M.pl).pl.v)])] A->K.nx (rsR I M a D1 D2 P x6 x7 x8 x9) A from
  afR y x hJ ne X g λP1 E1 A Z Z Z Z h=>afS X hv h λA Z Z Z Z g=>afT y x hJ ne X hk (r _ A g) λA Z Z Z Z h=>afU x hm h N
 subst hK;exactλA x6 x7 x8 x9 g=>au (ao (g.at 0 H)) (kd H) H ⟨g.k,q⟩
def PY:=[83,109,117,108,120]
abbrev Nu.sel(b:Bool)(l:Nu):Nu:=l.filter λp=>(p.1==PY)==b
def VN(b:Bool)(p:M6×Fv):OV:=cond ((p.1==PY)==b) (U (Bg [W p.1,p.2.v])) Y
def rh(b:Bool):∀l:Nu,l.filterMap (VN b)=(l.sel b).d.map OD:=λl=>by
 induction l with
 |nil=>rfl
 |cons p l N=>
  show List.filterMap (VN b) (p::l)=CC OD (Nu.d (List.filter (λp:M6×Fv=>(p.1==PY)==b) (p::l)));rw[Cj,List.filter_cons];delta VN
  cases(p.1==PY)==b
  exact N;exact M7 (_::·) N
def nh(b:Bool){l:Nu}(h:(l.map Az).Nodup)(N:l.length<=8):DOk (l.sel b).d:=d9 (h.sublist ((Ms ..).map _)) (Aa (F2 ..) N)
abbrev aT.des(ns:Ni)(t w:M6)(m:Nat)(l:Nu)(us:Ni):aT:=⟨ns,[(t,DX)],[(w,Ed m)],l.sel Am,l.sel J,us⟩
variable{ns us:Ni}{t w:M6}{m:Nat}{l:Nu}
def i9(N:(l.map Az).Nodup/\l.length<=8)(X:ns.length<=10)(C:us.length<=10)(q:Q (aT.des ns t w m l us).v σ):
  M8 B (n+4) 1017 [BB (ns.map W),W t,Bg [W w,Zy m],BB (l.d.map OD),BB (us.map W)] σ Q:=by
 rw[(Bo .. :l.d.map OD=l.map λp:M6×Fv=>OD (W p.1,p.2.v))];have R:∀b,(l.sel b).d.length<=8:=λb=>Aa (Ap (Ak ..)) (Aa (F2 ..) N.2);refine Ny.tree<|ay H H<|bb (β:=M6×Fv) (f:=λp=>OD (W p.1,p.2.v)) (g:=VN Am) l (λp m k q=>?_) ?_
 ·dsimp only[VN]at q;refine aF (λe=>?_) λe=>?_
  ·rw[show(p.1==PY)=Am from(BM _).mp e]at q;exact q
  ·rw[show(p.1==PY)=J from(IE _).mp e]at q;exact q
 rw[rh];refine⟨?_,Aw (d5 H (fE _) (Aa (R _) ae) ⟨?_,Aw (aL (bb (β:=M6×Fv) (f:=λp=>OD (W p.1,p.2.v)) (g:=VN J) l (λp m k q=>?_) ?_))⟩)⟩;show(CC OD _).length<=Nh;rw[Ak];exact Aa (R _) ae;rw[(nh Am N.1 N.2).2];exact Aa (R _) ae
 ·dsimp only[VN]at q;refine aF (λe=>?_) λe=>?_
  ·rw[show(p.1==PY)=J from e]at q;exact q
  ·rw[show(p.1==PY)=Am from e]at q;exact q
 rw[rh];refine⟨?_,Aw (d5 H (fE _) (Aa (R _) ae) ⟨?_,Aw (aL ?_)⟩)⟩;show(CC OD _).length<=Nh;rw[Ak];exact Aa (R _) ae;rw[(nh J N.1 N.2).2];exact Aa (R _) ae;rw[(nh Am N.1 N.2).2,(nh J N.1 N.2).2];refine⟨H,Ac H,Aw ⟨H,Ac H,Aw ?_⟩⟩
 exact i4 (n:=n) (t:=(aT.des ns t w m l us).Pc.t) (nv:=BB (ns.map W)) (uv:=BB (us.map W)) (λZ=>H) Hs.nil (λZ=>H) (Aa (Ap (Ak ..)) (Aa X ae)) (⟨d9 (l:=[(t,DX)]) (Bc.mpr ⟨Ay,Cx⟩) (show 1<=8 by decide),d9 (l:=[(w,Ed m)]) (Bc.mpr ⟨Ay,Cx⟩) (show 1<=8 by decide),nh _ N.1 N.2,nh _ N.1 N.2⟩:(aT.des ns t w m l us).Pc.t.D) (λZ=>H) (Aa (Ap (Ak ..)) (Aa C ae))
  λE τ A=>⟨(IS.re (D:=(aT.des ns t w m l us).Pc) A).1,(aT.des ns t w m l us).v,(IS.re (D:=(aT.des ns t w m l us).Pc) A).2,q⟩
end
set_option backward.match.sparseCases true
namespace Fa
def gR:Ii "bytes" (cmpInfo EN).2.2 "bytes.__eq__":=
 .of (owner:="bytes") (n:="__eq__") (by rw[BJ,Bb];kernel_rfl) aY aY aY (by first|exact .inl aY|exact .inr aY) (by rw[CB];kernel_rfl)
end Fa
def gm(a:Int)(u:Tok)(b:Ot)(t:Tok):Gives (Builtin.«int.__eq__» ⟨[By a u,AF b t],[]⟩) (.val (Eb)):=
 F8 λM A E s Q h=>by obtain⟨N,g,d,R,I⟩:=s;wp_walk;exact⟨_,H,h⟩
def gn(a:Int)(u:Tok)(b:Ot)(t:Tok):Gives (Builtin.«bytes.__eq__» ⟨[AF b t,By a u],[]⟩) (.val (Eb)):=
 F8 λM A E s Q h=>by obtain⟨R,g,d,I,X⟩:=s;have N:=FF;wp_walk;exact⟨_,H,h⟩
section
variable{prog:CZ}{w:Dy}{A:CP}{E:O3}{s:AZ}
def oS{Q:O3}(h:Q (B0 Am) s):AB (model prog w) A (richCompare EN (By a u) (AF b t)) Q E s:=
 E5 (k:=Am) (λN=>FQ N a u) (λN=>C5 N b t) H PySem.F.sub_bytes_int Ly Fa.gR H
  (Fb Ly (FQ s a u) Lk (La _ _) (gm a u b t)
   ⟨H,Fb Fa.gR (C5 s b t) Js (IZ _ _) (gn a u b t) ⟨H,h⟩⟩)
def ja{b:Ot}{t:Tok}{Q:O3}(h:Q (B0 Am) s):AB (model prog w) A (richCompare EN (AF b t) (By a u)) Q E s:=
 E5 (k:=Am) (λN=>C5 N b t) (λN=>FQ N a u) H FF Hy Kd H
  (Fb Hy (C5 s b t) Js (IZ _ _) (gn a u b t)
   ⟨H,Fb Kd (FQ s a u) Lk (La _ _) (gm a u b t) ⟨H,h⟩⟩)
def nib{C:Prop}(h:v.isInt i=J)(g:isBytes l v=J):C:=by obtain⟨t,rfl⟩:=IL h;exact A9 g
end
deriving instance DecidableEq for Va
def Oo(prog:CZ)(w:Dy):KeyKind prog w Va where
 is k v:=match k with
  |.i n=>v.isInt n
  |.b l=>isBytes l v
 hash k:=match k with
  |.i n=>hashInt n
  |.b l=>Dx (Qk w.params l)
 inj v a b ha hb:=by
  cases a with
  |i n=>cases b with
   |i m=>exact M7 Va.i (Value.isInt_inj v n m ha hb)
   |b m=>exact nib ha hb
  |b l=>cases b with
   |i m=>exact nib hb ha
   |b m=>exact M7 Va.b ((bytesKind prog w).inj v l m ha hb)
 byValue k v h:=by
  cases k with
  |i n=>exact(MO prog w).byValue n v h
  |b l=>exact(bytesKind prog w).byValue l v h
 pyHash {A E s k v Q} h q:=by
  cases k with
  |i n=>exact(MO prog w).pyHash h q
  |b l=>exact fa h q
 eqBool {A E s a b u v Q} hu hv q:=by
  cases a with
  |i n=>cases b with
   |i m=>have e:decide (Va.i n=Va.i m)=decide (n=m):=decide_eq_decide.mpr ⟨λh=>M7 Va.num h,λh=>h▸H⟩;rw[e]at q;exact(MO prog w).eqBool hu hv q
   |b m=>obtain⟨y,t',rfl,_⟩:=ag6 hv;obtain⟨t,rfl⟩:=IL hu;exact C1<|Ab<|oS<|Ce q
  |b l=>cases b with
   |i m=>obtain⟨y,t',rfl,_⟩:=ag6 hu;obtain⟨t,rfl⟩:=IL hv;exact C1<|Ab<|ja<|Ce q
   |b m=>have e:decide (Va.b l=Va.b m)=decide (l=m):=decide_eq_decide.mpr ⟨λh=>M7 Va.oct h,λh=>h▸H⟩;rw[e]at q;exact cU hu hv q
 «strs» k x t v h:=by cases k<;>exact A9 h
set_option backward.match.sparseCases false
section
variable{prog:CZ}{w:Dy}{A:CP}{E:O3}{s:AZ}
abbrev Ky:=M6×List Va
abbrev Ky.v(k:Ky):=Bg [W k.1,Bg (k.2.map Va.v)]
def RA(prog:CZ)(w:Dy)(h:Heap)(k:Ky)(a:AG):=
 ∃u b n o,h.get? a=U o/\o.cls=An "tuple"/\o.data=El #[u,Ai b] n/\isBytes k.1 u=J/\IsTupleKey (Oo prog w) h k.2 b
def RA.inj(hx:RA prog w h x a)(q:RA prog w h y a):x=y:=by
 obtain⟨u,b,n,o,e,_,ed,hb,hk⟩:=hx;obtain⟨u',b',n',o',C,_,N,R,I⟩:=q;obtain rfl:o=o':=Af (aO e C);rw[ed]at N
 injection N with h1 _
 have X:=M7 Fy h1;simp only[List.cons.injEq,Value.ref.injEq,and_true]at X;obtain⟨rfl,rfl⟩:=X
 cases x;cases y
 simp only[Prod.mk.injEq];exact⟨((bytesKind prog w).inj _ _ _ hb R),(hk.inj I)⟩
def RA.keeps{h C:Heap}{o:Obj}{es ep}(x:RA prog w h k a)(q:h.get? d=U o)(N:o.data=EY es ep)(I:CJ d h C):RA prog w C k a:=by
 obtain⟨u,b,n,y,e,ec,X,hb,hk⟩:=x
 have R:a≠d:=by rintro rfl;obtain rfl:y=o:=Af (aO e q);rw[X]at N;cases N
 exact⟨u,b,n,y,(I.2 a R).trans e,ec,X,hb,hk.keeps q N I⟩
def RA.typeIs(x:RA prog w s.heap k a):s.TypeIs (Ai a) "tuple":=by obtain⟨_,_,_,o,e,N,_⟩:=x;exact⟨o,e,N⟩
def UE(w:Dy)(k:Ky):Int:=Dx (Ct [Dx (Qk w.params k.1),Dx (Ct (k.2.map (Oo default w).hash))])
def ni{Q:Int->AZ->Prop}(hu:A.units<cLine)(I:A.units+1<cLine)(C:RA prog w s.heap k a)(h:Q (UE w k) {s with toks:=s.toks+(k.2.length+3)}):AB (model prog w) A (J7 (Ai a)) Q E s:=by
 have N:=C.typeIs;obtain⟨u,b,n,o,ho,_,x,q,y⟩:=C;delta J7;delta pyHashByItsType;refine Ab<|wpAny_cRoomFor_or (AN hu)<|Ab<|Bj N Ff.lookup ?_
 show AB _ _ (if(U (AK "tuple.__hash__")==U AL)=J then _ else _) Q E s;rw[Np (by rw[beq_builtin_none];exact Bh)];refine Ab<|Bj N Ff.lookup ?_
 show AB _ _ (callSpecialIfBoundUnlessNone? (Ai a) "__hash__" _>>=_) Q E s;refine Ab<|wpAny_callSpecialIfBoundUnlessNone?_slot N Ff<|Fm Ff N PySem.F.entry_tuple_hash ?_<|PySem.F.args_tuple_hash_1 _
 show AB _ _ (Ik (Ai a)>>=_) _ _ s;refine Ab<|Hb ho x<|Ab ?_
 rw[<-Iv];show AB _ _ (forIn [u,Ai b] _ _) _ _ _;rw[Cv];refine Ab<|Ab<|fa q<|Aj ?_
 dsimp only;rw[Cv];refine Ab<|Ab<|wpAny_pyHash_tuple (by show A.units+1<cLine;exact I) y ?_
 refine Aj ?_;dsimp only;rw[Ku];refine Aj ?_;show AB _ _ (retInt (Ct [Dx (Qk w.params k.1),ML (Oo prog w) k.2])) _ _ _;refine Lr ?_;have e:UE w k=Dx (Ct [Dx (Qk w.params k.1),ML (Oo prog w) k.2]):=H;rw[e]at h;generalize Ct [Dx (Qk w.params k.1),ML (Oo prog w) k.2]=X at h⊢;show AB _ _ (if(decide (-(2:Int)^63<=X)&&decide (X<2^63))=J then _ else _) Q E _;delta Dx at h
 by_cases R:(decide (-(2:Int)^63<=X)&&decide (X<2^63))=J
 rw[Nt R];rw[Nt R]at h;exact Aj (by simpa [Bf,Bk,Nat.add_left_comm]using h);rw[Np R];rw[Np R]at h;exact Ab<|BD<|Aj (by simpa [Bf,Bk,Nat.add_left_comm]using h)
def wM{Q:Bool->AZ->Prop}(hu:A.units+1<cLine)(hx:RA prog w s.heap x a)(hy:RA prog w s.heap y b)(h:Q (decide (x=y)) s):AB (model prog w) A (J9 (Ai a) (Ai b)) Q E s:=by
 have hxk:=hx;have hyk:=hy;obtain⟨u,c,n,o,ho,oc,od,hb,hk⟩:=hx;obtain⟨u',c',n',o',X,R,I,hb',hk'⟩:=hy;delta J9;refine C1 ?_
 by_cases N:(Ai a==Ai b)=J
 ·rw[Nt N];have e:a=b:=by have:=N2 N;injection this
  subst e;obtain rfl:=hxk.inj hyk;exact Ab<|BD<|Aj (by simpa using h)
 rw[Np N];obtain⟨cls,dd,dt,sl⟩:=o;obtain⟨cls',dd',dt',sl'⟩:=o';dsimp only at oc od R I;subst oc od R I;have hT:s.TypeIs (Ai a) "tuple":=⟨_,ho,H⟩;have C:s.TypeIs (Ai b) "tuple":=⟨_,X,H⟩;refine Ab<|wpAny_richCompare_same_room hT C FG (Fm FG hT PySem.F.entry_tuple_eq ?_ (PySem.F.args_tuple_eq_2 _ _)) (by exact ax hu aS)
 show AB _ _ (HI (Ai b) (An "tuple")>>=_) _ _ s;refine Ab<|Dm C Ig<|Cm H<|Ab<|Hb ho H ?_
 refine Ab<|Hb X H<|Ab ?_
 show AB _ _ (forIn [(u,u'),(Ai c,Ai c')] _ _) _ _ _
 have q:decide (x=y)=(decide (x.1=y.1)&&decide (x.2=y.2)):=by cases x;cases y;simp
 rw[q]at h;rw[Cv];refine Ab<|Ab<|cU hb hb' ?_
 by_cases h1:x.1=y.1
 ·rw[N5 h1]at h⊢;refine Cm H<|Aj ?_
  dsimp only;rw[Cv];refine Ab<|Ab<|wpAny_eqBool_tuple (by show A.units+1<cLine;exact hu) hk hk' ?_
  by_cases h2:x.2=y.2
  ·rw[N5 h2]at h⊢;refine Cm H<|Aj ?_
   dsimp only;rw[Ku];exact Aj<|Aj ⟨_,H,(λe=>nomatch e),Ce h⟩
  rw[N8 h2]at h⊢;refine FR H<|Ab<|Aj<|Aj<|Aj<|Aj ⟨_,H,(λe=>nomatch e),Ce h⟩
 rw[N8 h1]at h⊢;refine FR H<|Ab<|Aj<|Aj<|Aj<|Aj ⟨_,H,(λe=>nomatch e),Ce h⟩
def ri{Q:Bool->AZ->Prop}(x:IsTupleKey (Oo prog w) s.heap ps a)(h:Q J s):AB (model prog w) A (MA (n+1) (Ai a)) Q E s:=by
 have q:=x.typeIs;obtain⟨o,I,m,ho,_,hd,hi⟩:=x
 unfold MA
 refine Ab<|Bj q FG.lookup ?_
 show AB _ _ (HI (Ai a) (An "tuple")>>=_) _ _ s;refine Ab<|Dm q Ig<|Cm H<|Ab<|EM ho hd ?_
 refine Ab ?_;show AB _ _ (forIn I _ _) _ _ s;rw[<-Iv];refine PySem.wpAny_forIn_list _ (λR r y=>r.1=Y/\y=s/\∀v∈R,carriedByValue v=J) _ ?_ ?_ _ _ ⟨H,H,hi.byValue⟩;rintro v R r y ⟨C,rfl,N⟩;rw[eqIsQuiet_byValue _ (N v As)];exact Ab<|Aj<|Cm H<|Aj ⟨H,H,λu X=>N u (Au _ X)⟩
 rintro ⟨r1,r2⟩ y ⟨C,rfl,_⟩;simp only at C;subst C;exact Aj h
def zY{Q:Bool->AZ->Prop}(R:RA prog w s.heap k a)(h:Q J s):AB (model prog w) A (MA 8 (Ai a)) Q E s:=by
 have N:=R.typeIs;obtain⟨u,c,m,o,q,_,X,I,C⟩:=R
 unfold MA
 refine Ab<|Bj N FG.lookup ?_
 show AB _ _ (HI (Ai a) (An "tuple")>>=_) _ _ s;refine Ab<|Dm N Ig<|Cm H<|Ab<|EM q X ?_
 refine Ab ?_;show AB _ _ (forIn #[u,Ai c] _ _) _ _ s;rw[<-Iv];show AB _ _ (forIn [u,Ai c] _ _) _ _ s;rw[Cv];obtain⟨y,t,rfl,_⟩:=ag6 I;refine Ab<|Ab<|Aj<|Cm H<|Aj ?_
 dsimp only;rw[Cv];refine Ab<|Ab<|ri C<|Cm H<|Aj ?_
 dsimp only;rw[Ku];exact Aj<|Aj h
end
def Xh(prog:CZ)(w:Dy):HeapKind prog w Ky where
 is:=RA prog w
 hash:=UE w
 draws k:=k.2.length+3
 room A:=A.units+1<cLine
 inj hx hy:=hx.inj hy
 keeps x ho hd hs:=x.keeps ho hd hs
 pyHash hu hk h:=ni (by exact ax hu aS) hu hk h
 eqBool hu hx hy h:=wM hu hx hy h
 quiet hk h:=zY hk h
def acr(p:Va):keyHash B.P p.v=(Oo default B.w).hash p:=by cases p<;>rfl
def zZ(ps:List Va):PL B.P (ps.map Va.v)=ps.map (Oo default B.w).hash:=by
 induction ps with
 |nil=>rfl
 |cons p ps N=>show keyHash B.P p.v::PL B.P (ps.map Va.v)=_;rw[N,acr];rfl
def oT(k:Ky):keyHash B.P k.v=UE B.w k:=by show Dx (Ct [_,Dx (Ct (PL B.P (k.2.map Va.v)))])=_;rw[zZ];rfl
def z7{x:Wd B}:∀{ps} {vs},Nq x vs (ps.map Va.v)->ItemsAre (Oo B.prog B.w) ps vs:=λ{ps}=>by
 induction ps with
 |nil=>intro vs h;obtain rfl:=aE.dQ h;exact .nil
 |cons p ps N=>
  intro vs h;obtain⟨u,R,rfl,a,b⟩:=aE.inv h;refine .cons ?_<|N b
  cases p with
  |i n=>exact xm.is a
  |b l=>exact iw.is a
def adz{x:Wd B}{k:Ky}(C:Rd x v k.v):∃a,v=Ai a/\RA B.prog B.w x.sh.heap k a:=by obtain⟨a,vs,m,rfl,e,f,hl,A⟩:=aq.inv C;obtain⟨u,N,rfl,X,h2⟩:=aE.inv A;obtain⟨y,N,rfl,h4,h3⟩:=aE.inv h2;obtain rfl:=aE.dQ h3;obtain⟨c,N,q,rfl,I,f2,hl2,R⟩:=aq.inv h4;exact⟨a,H,u,c,m,_,e,H,H,iw.is X,_,N.toArray,q,I,H,H,by simpa using z7 R⟩
def tC{x:Wd B}:∀{l} {N} {ks},aU B.P x.toSt N l->l.map (·.1)=ks.map Ky.v->
  ∃xs:List (Ky×AG×AM),N=xs.map (entryOfKey (Xh B.prog B.w))/\xs.map (·.1)=ks/\∀z∈xs,RA B.prog B.w x.sh.heap z.1 z.2.1:=λ{l}=>by
 induction l with
 |nil=>intro N ks h R;obtain rfl:=h.dQ;obtain rfl:ks=[]:=List.map_eq_nil_iff.mp R.symm;exact⟨[],H,H,λx X=>M9 X Ay⟩
 |cons z l q=>
  intro N ks h R;obtain⟨e,N,rfl,hk,I,hv,r⟩:=h.inv
  cases ks with
  |nil=>exact nomatch R
  |cons k ks=>
   obtain⟨A,h2⟩:=BO R;obtain⟨xs,rfl,rfl,X⟩:=q r h2;have I:e.hash=keyHash B.P k.v:=A▸I;obtain⟨a,C,y⟩:=adz (A▸hk:Rd x e.key k.v);refine⟨(k,a,e.val)::xs,?_,H,λz hz=>?_⟩;rw[Cc];obtain⟨eh,ek,ev⟩:=e;dsimp only at C I;subst C I;rw[show z.1=k.v from A,oT];rfl;rcases AQ.mp hz with rfl|hz
   exact y;exact X z hz
def afV(x y:Va):Td x.v y.v=decide (x=y):=by
 cases x with
 |i a=>cases y with
  |i b=>exact(eZ ..).trans (decide_eq_decide.mpr ⟨λh=>h▸H,λh=>M7 Va.num h⟩)
  |b b=>exact(N8 λh=>nomatch h).symm
 |b a=>cases y with
  |i b=>exact(N8 λh=>nomatch h).symm
  |b b=>exact(eZ ..).trans (decide_eq_decide.mpr ⟨λh=>h▸H,λh=>M7 Va.oct h⟩)
def uN{a b c:Prop}[Decidable a][Decidable b][Decidable c](h:c↔a/\b):(decide a&&decide b)=decide c:=aO (Bool.decide_and ..) (decide_eq_decide.mpr h.symm)
def acs:∀a b:List Va,WE (a.map Va.v) (b.map Va.v)=decide (a=b):=λa=>by
 induction a with
 |nil=>
   intro b
   cases b with
   |nil=>rfl
   |cons=>exact(N8 λh=>nomatch h).symm
 |cons x a N=>
   intro b
   cases b with
   |nil=>exact(N8 λh=>nomatch h).symm
   |cons y b=>show(Td x.v y.v&&WE (a.map Va.v) (b.map Va.v))=_;rw[afV,N b];exact uN ⟨BO,λh=>h.1▸h.2▸H⟩
def oU(a b:Ky):Td a.v b.v=decide (a=b):=by obtain⟨N,I⟩:=a;obtain⟨R,b2⟩:=b;show((N==R)&&(WE (I.map Va.v) (b2.map Va.v)&&J))=_;rw[Ha,acs,eZ];exact uN ⟨D8,λh=>h.1▸h.2▸H⟩
def z8{k:Ky}{l:NW}{ks:List Ky}(hl:l.map (·.1)=ks.map Ky.v)(hn:ks.Nodup):Keyed n k.v l:=λ{x v d es m} hv ho hE=>by
 obtain⟨a,rfl,hi⟩:=adz hv;have N:∀{A},ef n A->A.units+1<cLine:=λI=>by have:=I.units;show _<9900;exact ax this aS
 refine⟨λA I=>up (ni (by have:=N I;exact ax this aS) (N I) hi (.mk (x.toks _) H (Wd.bL _) ⟨(oT k).symm,_,H⟩)),λA I=>?_⟩;obtain⟨xs,rfl,hks,hx⟩:=tC hE hl
 have hdl:RU k.v l=xs.findIdx? (λx=>decide (k=x.1)):=by rw[(by delta RU;rw[Jc];rfl:RU k.v l=(l.map (·.1)).findIdx? (λz=>Td k.v z)),hl,<-hks,Jc,Jc];exact M7 (λf=>List.findIdx? f xs)<|funext λx=>oU k x.1
 have q:(xs.map (·.1)).Nodup:=hks▸hn;rw[oT];refine up<|wpAny_dictFind_heap (knd:=Xh B.prog B.w) (N I) hi ho H (xs:=xs) (by simp) hx q (λR=>?_) λj p hj=>?_
 ·refine .mk x H (LE.refl _) ⟨?_,H⟩;rw[hdl]
  symm
  rw[GX];intro z hz;obtain⟨j,hj⟩:=Ee hz;exact N8 λe=>R j z.2<|hj.trans (by rw[e])
 refine .mk x H (LE.refl _) ⟨?_,H⟩;rw[hdl]
 symm
 rw[Ck];obtain⟨X,he⟩:=BI.mp hj;refine⟨X,N5 (by rw[he]),λi C=>?_⟩;have y:i<xs.length:=BG C X;intro e;have h2:xs[i]?=U (k,(xs[i]).2):=by rw[AY y,(Od e)]
 exact M9 (idxH_unique q h2 hj)<|CQ C
section
variable{o b:M6}
def jU(q:Q A5 σ):M8 B (n+1) 452 [A5,p] σ Q:=ay H H q
def rj(N:fO o b)(q:Q (W b) σ):M8 B (n+6) 452 [W o,BB []] σ Q:=by exact ay H H ⟨Aq _,Aw (bF H H (lr N q))⟩
def rk{N:_}(A:UJ ss)(I:N≠[])(X:N.length<=9)(C:∀v∈N,v.oct.length<=100)(hz:PK ss<=1000)(y:2*(N7 ss).length<Nh)(R:fO (OB ss (PW N [])).2 b)(q:Q (W b) σ):
  M8 B (n+8) 452 [W (N7 ss),BB (Oy N)] σ Q:=by
 refine ay H H ⟨Aq _,Aw (bF H H (tt ?_ (ta A X C hz y (lr R q))))⟩
 cases N with
 |nil=>exact M9 H I
 |cons=>rfl
def Qj(I:aT)(D:AG):=BZ 441 [(11,I.v),(12,Av D)]
end
def Fv.Xi:Fv->V
 |.str o=>W o
 |_=>A5
abbrev aT.str(I:aT)(w:M6):=cond (I.s.has w) (I.s.at_ w).v (I.o.at_ w).Xi
def gq{l:Nu}(h:l.has w=J):NH (W w) l.d=U (l.at_ w).v:=(i7 (cZ.mp h)).1
def lT:∀{w} {l:Nu},l.has w=Am->NH (W w) l.d=Y/\l.at_ w=IQ:=λ{w l} h=>by have e:=fD (w:=w) l;rw[h]at e;refine⟨Option.not_isSome_iff_eq_none.mp (by rw[e];exact Bh),?_⟩;delta Nu.at_;rw[List.find?_eq_none.mpr λp m q=>M9 (Ho.mpr ⟨p,m,q⟩) (by rw[show(l.any λp=>w==p.1)=Am from h];exact Bh)];rfl
def tD{l:Nu}:(NH (W w) l.d).getD A5=(l.at_ w).v:=by
 cases h:l.has w with
 |true=>rw[gq h];rfl
 |false=>rw[(lT h).1,(lT h).2];rfl
section
variable{I:aT}{C D:AG}{X L:Ox}{w:M6}
def bT(l:Nu):Keyed j (W w) l.d:=aC (c:=3) aG H (gj l)
def acu(h:Hs τ X σ)(q:∀C D σ,Hs τ ((C,Qj I D)::(D,AE [])::X) σ->Q (Av C) σ):M8 B (n+3) 441 [I.v] σ Q:=by refine zL (f:=399) (full:=[I.v]) h H H (λZ=>H) λd σ h=>(gN (h.at 0 H) H H (aL ⟨H,Aq _,AN λD N=>?_⟩));have h:=(h.upd 0 H (BZ 441 [(11,I.v)])).new (o:=AE []) N;exact gN (h.at 1 H) H H ⟨H,q _ D _ (((h.upd 1 H (Qj I D)).perm (CS ..)).sub (DL _ (DL _ (Et ..))))⟩
def wN(h:σ C=U (Qj I D))(q:Q (I.str w) σ):M8 B (n+4) 406 [Av C,W w] σ Q:=by
 delta aT.str at q;refine ay H H<|aZ h H H H<|cC H H H<|aX H (bT _)<|aF (λe=>?_) λe=>?_
 rw[show I.s.has w=J from aO (fD _) e]at q;exact aZ h H H H<|cC H H H<|au H (bT _) (gq (aO (fD _) e)) q
 rw[show I.s.has w=Am from aO (fD _) e]at q;refine aL<|aZ h H H H<|cC H H H<|eK H<|eN H (bT _) ?_
 rw[show(NH (W w) I.Pc.t.o).getD A5=(I.o.at_ w).v from tD];have q:Q (I.o.at_ w).Xi σ:=q
 cases N:I.o.at_ w with
 |no=>rw[N]at q;exact aL (yB q)
 |yes=>rw[N]at q;exact aL (vW q)
 |num m=>rw[N]at q;exact aL (dE q)
 |str o=>rw[N]at q;exact aL (cq q)
def oV(h:σ C=U (Qj I D))(q:Q (match I.m.at_ w with|.no=>x|f=>f.v) σ):M8 B (n+3) 431 [Av C,W w,x] σ Q:=by
 refine ay H H<|aZ h H H H<|cC H H H<|eK H<|eN H (bT _) ?_
 rw[show(NH (W w) I.Pc.t.m).getD A5=(I.m.at_ w).v from tD]
 cases e:I.m.at_ w with
 |no=>rw[e]at q;exact aL q
 |yes=>rw[e]at q;exact aL q
 |num m=>rw[e]at q;exact aL q
 |str o=>rw[e]at q;exact aL q
def oW(h:σ C=U (Qj I D))(N:I.b.at_ w=DX\/I.b.at_ w=IQ)(q:Q (Bm (I.b.at_ w).some) σ):M8 B (n+3) 438 [Av C,W w] σ Q:=by
 refine ay H H<|aZ h H H H<|cC H H H<|eK H<|eN H (bT _) ?_
 rw[show(NH (W w) I.Pc.t.b).getD A5=(I.b.at_ w).v from tD];rcases N with e|e
 rw[e]at q⊢;exact qs q;rw[e]at q⊢;exact qt q
def SK(d:List (Ky×V)):=d.map λp=>(p.1.v,p.2)
def z9(d:List (Ky×V)):(SK d).map (·.1)=(d.map Az).map Ky.v:=by delta SK;rw[Bo,Bo];rfl
def uO{k:Ky}:∀{d},(d.map Az).Nodup->(k,r)∈d->NH k.v (SK d)=U r:=λ{d}=>by
 induction d with
 |nil=>exactλZ m=>M9 m Ay
 |cons p d ih=>
  intro h m;obtain⟨h1,h2⟩:=Bc.mp h;show(if Td k.v p.1.v then U p.2 else NH k.v (SK d))=_;rw[oU];rcases AQ.mp m with e|m
  rw[<-e,Nt (N5 H)];rw[Np λe=>h1 ((Od e:k=p.1)▸Ca m)];exact ih h2 m
def aeN{k:Ky}:∀{d},k∉d.map Az->NH k.v (SK d)=Y:=λ{d}=>by
 induction d with
 |nil=>exactλZ=>H
 |cons p d ih=>intro h;show(if Td k.v p.1.v then U p.2 else NH k.v (SK d))=_;rw[oU,Np λe=>h ((Od e:k=p.1)▸As)];exact ih λm=>h<|Au _ m
def acv{k:Ky}:∀{d},k∉d.map Az->NX k.v r (SK d)=SK (d++[(k,r)]):=λ{d}=>by
 induction d with
 |nil=>exactλZ=>H
 |cons p d ih=>intro h;show(if Td k.v p.1.v then(p.1.v,r)::SK d else(p.1.v,p.2)::NX k.v r (SK d))=_;rw[oU,Np λe=>h ((Od e:k=p.1)▸As),ih λm=>h (Au _ m)];rfl
abbrev isO:V->Bool
 |.bytes _=>J
 |_=>Am
variable{d:List (Ky×V)}{ps:List Va}{pv r:V}
def rl{k:Ky}(h:(d.map Az).Nodup):Keyed j k.v (SK d):=z8 (z9 d) h
def rn(A:Oi args [Bg []] 3=U [Av C,W w,pv])(h:Hs τ ((C,Qj I D)::(D,AE (SK d))::X) σ)(hp:∀σ,Vg σ pv=U (ps.map Va.v))(N:(d.map Az).Nodup)(R:((w,ps),r)∈d)(q:Q r σ):M8 B (n+3) 424 args σ Q:=by
 have e:=uO (k:=(w,ps)) N R;refine ay (ds:=[Bg []]) H A<|k9 (hp _)<|aL<|aZ (h.at 0 H) H H H<|aN (ao (h.at 1 H)) (rl (k:=(w,ps)) N) ?_
 rw[e];exact aL<|aZ (h.at 0 H) H H H<|au (ao (h.at 1 H)) (rl (k:=(w,ps)) N) e q
def jV(ha:Oi args [Bg []] 3=U [Av C,W w,pv])(h:Hs τ ((C,Qj I D)::(D,AE (SK d))::X) σ)(hp:∀σ,Vg σ pv=U (ps.map Va.v))(hl:ps.length<=1000)(hd:d.length<=1000)(y:(d.map Az).Nodup)(A:(w,ps)∉d.map Az)
  (hc:∀σ R,R r σ->M8 B (n+8) 452 [I.str w,BB (ps.map Va.v)] σ R)
  (q:∀σ,Hs τ ((C,Qj I D)::(D,AE (SK (d++[((w,ps),r)])))::X) σ->Q r σ):M8 B (n+9) 424 args σ Q:=by
 have e:=aeN (k:=(w,ps)) A;refine ay (ds:=[Bg []]) H ha<|k9 (hp _)<|aL<|aZ (h.at 0 H) H H H<|aN (ao (h.at 1 H)) (rl (k:=(w,ps)) y) ?_
 rw[e];refine bx (h.at 0 H) (k:=26) (f:=406) H H H<|wN (n:=n+4) (h.at 0 H)<|jx (hp _) ⟨?_,Aw (hc _ _ ?_)⟩
 show(CC _ ps).length<=Nh;rw[Ak];exact Aa hl ae;refine aZ (h.at 0 H) H H H<|aJ (h.at 1 H) (rl (k:=(w,ps)) y) ?_ ?_
 rw[Ak];exact Al hd ae;rw[show NX (Bg [W w,Bg (ps.map Va.v)]) r (SK d)=SK (d++[((w,ps),r)])from acv (k:=(w,ps)) A];have h:=h.upd 1 H (AE (SK (d++[((w,ps),r)])))
 have N:((d++[((w,ps),r)]).map Az).Nodup:=by rw[AS];exact Dq.mpr ⟨y,Bc.mpr ⟨Ay,Cx⟩,λa x b mb e=>A (by rw[show(w,ps)=a from aO (AV.mp mb) e.symm];exact x)⟩
 exact aL<|aZ (h.at 0 H) H H H<|au (ao (h.at 1 H)) (rl (k:=(w,ps)) N) (uO (k:=(w,ps)) N (DB _ As))<|q _ h
def aeO(c:∀R,R r σ->M8 B n 424 [Av C,W w,pv] σ R)(h:σ C=U (Qj I D))(N:r=A5\/∃b,r=W b)(q:Q (Bm (isO r)) σ):M8 B (n+1) 415 [Av C,W w,pv] σ Q:=by
 refine ay H H<|bx h H H H<|c _ ?_
 rcases N with rfl|⟨b,rfl⟩
 exact q;exact q
end
section
variable{n:Nat}{σ τ:M5}{Q:KE}{c:Bool->M5->Prop}{r:V}
def jW(q:c (!(a==b)) σ):OT B n Er (Bm a) (Bm b) σ c:=
 cM (λs Z Z R N=>R.mA (C:=λv=>N4 Er v _ _) (N.mA (C:=λu=>N4 Er _ u _) λA s Q q=>SeqAt.RcNeAt.bool_bool a b _ _ _ _ q)) q
def Yx(r:V):=r=A5\/∃b,r=W b
def jX(N:Yx r)(q:c Am σ):Xu B n Er r r σ c:=by
 rcases N with rfl|⟨b,rfl⟩
 exact qi q;show c (b !=b) σ;rw[show(b !=b)=Am from bne_self_eq_false b];exact q
section
variable{I:aT}{C D:AG}{X:Ox}{w:M6}{d:List (Ky×V)}{vals:List Va}{r1 r2 v0 v2:V}{T:NW}{x8 x9 x10:OV}{b:Bool}
abbrev soF:=Om (RO.body.drop 1)
def uP{K:Kt}(h:Hs τ ((C,Qj I D)::(D,AE (SK d))::X) σ)(hn:(d.map Az).Nodup)(hd:d.length<=100)(N:∀p∈d,p.1.1≠w)(hv:vals≠[])(hl:vals.length<=9)
  (x:Yx r1) (h2:Yx r2) (hb:isO r1=b)
  (c1:∀σ R,R r1 σ->M8 B (n+14) 452 [I.str w,BB (Oy vals)] σ R) (c2:∀σ R,R r2 σ->M8 B (n+14) 452 [I.str w,BB []] σ R)
  (hT:Nf 3 T=J) (ht:(NH (W w) T).isSome=b)
  (q:∀σ,Hs τ ((C,Qj I D)::(D,AE (SK (d++[((w,vals),r1),((w,[]),r2)])))::X) σ->K.nx [U v0,U (B6 T),U v2,U (BB (Oy vals)),U (Av C),U (W w),U r1,U r2,x8,x9,x10] σ):
  Na (n+15) 59 (soF.drop 2) [U v0,U (B6 T),U v2,U (BB (Oy vals)),U (Av C),U (W w),U r1,U r2,x8,x9,x10] σ K:=by
 refine bx (h.at 0 H) H H H<|jV H h (λZ=>H) (Aa hl ae) (Aa hd ae) hn ?_ c1 λσ h=>?_
 exactλm=>(A0.mp m).elim λp q=>N p q.1 (M7 Az q.2);refine jX x ?_
 have n1:((d++[((w,vals),r1)]).map Az).Nodup:=by rw[AS];exact Dq.mpr ⟨hn,Bc.mpr ⟨Ay,Cx⟩,λa A b y e=>(A0.mp A).elim λp q=>N p q.1 (M7 Az (q.2.trans (e.trans (AV.mp y))))⟩
 refine bx (h.at 0 H) H H H<|jV (ps:=[]) (pv:=Bg []) H h (λZ=>H) (Aq _) ?_ n1 ?_ c2 λσ h=>?_
 rw[Ad];exact Aa (A7 hd 1) ae
 ·intro m;obtain⟨p,m,e⟩:=A0.mp m;rcases BC.mp m with m|m
  ·exact N p m<|M7 Az e
  ·exact hv<|M7 FH<|aO (M7 Az (AV.mp m)) e
 refine jX h2<|bx (h.at 0 H) H H H<|aeO (λR q=>rn H h (λZ=>H) ?_ ?_ q) (h.at 0 H) x<|aX H (aC (c:=3) aG H hT)<|jW ?_
 ·rw[AS]
  exact Dq.mpr ⟨n1,Bc.mpr ⟨Ay,Cx⟩,λa A b y e=>by
   obtain⟨p,m,e3⟩:=A0.mp A;have e4:p.1=(w,[]):=e3.trans (e.trans (AV.mp y));rcases BC.mp m with m|m
   exact N p m<|M7 Az e4
   exact hv (M7 FH (aO (M7 Az (AV.mp m)) e4))⟩
 exact ER _<|DB _ As
 rw[Ag]at h;rw[ht,hb,show(!(b==b))=Am by rw[Px];rfl];exact q _ h
end
end
section
variable{n:Nat}{σ σ' τ:M5}{L:Ox}
def Hs.keep(h:Hs τ L σ)(k:Keeps σ σ'):Hs τ L σ':=⟨λb o e=>k b o (h.k b o e),λe m=>⟨k _ _ (h.h e m).1,(h.h e m).2⟩,h.nd⟩
section
variable{I:aT}{C D:AG}{X:Ox}{w b1 b2:M6}{d:List (Ky×V)}{vals:List Va}{v0 v2:V}{T:NW}{x6 x7 x8 x9 x10:OV}{ss:List S1}
def aeP{K:Kt}(h:Hs τ ((C,Qj I D)::(D,AE (SK d))::X) σ)(x:(d.map Az).Nodup)(hd:d.length<=100)(hw:∀p∈d,p.1.1≠w)(hv:vals≠[])(hl:vals.length<=9)
  (y:Nf 3 T=J) (N:NH (W w) T=Y) (A:I.str w=A5)
  (q:∀σ x6 x7 x8 x9,Hs τ ((C,Qj I D)::(D,AE (SK (d++[((w,vals),A5),((w,[]),A5)])))::X) σ->K.nx [U v0,RC T,U v2,Qv (Oy vals),NG C,N1 w,x6,x7,x8,x9,x10] σ):
  Na (n+15) 61 soF [U v0,RC T,U v2,Qv (Oy vals),NG C,N1 w,x6,x7,x8,x9,x10] σ K:=by
 refine wJ<|aL<|aX H (aC (c:=3) aG H y) ?_
 rw[N];refine uP h x hd hw hv hl (Aw H) (Aw H) H ?_ ?_ y (by rw[N];rfl) λσ h=>q σ _ _ _ _ h;rw[A];exactλσ R q=>jU q;rw[A];exactλσ R q=>jU q
def afW{K:Kt}(h:Hs τ ((C,Qj I D)::(D,AE (SK d))::X) σ)(hn:(d.map Az).Nodup)(hd:d.length<=100)(hw:∀p∈d,p.1.1≠w)(hv:vals≠[])(x:vals.length<=9)
  (y:Nf 3 T=J) (N:NH (W w) T=U (Bg [W (N7 ss),BB (ss.map S1.v)])) (hi:I.str w=W (N7 ss))
  (hs:UJ ss) (ho:∀v∈vals,v.oct.length<=100) (hz:PK ss<=1000) (ht2:2*(N7 ss).length<Nh) (e1:fO (OB ss (PW vals [])).2 b1) (e2:fO (N7 ss) b2)
  (q:∀σ x6 x7 x8 x9,Hs τ ((C,Qj I D)::(D,AE (SK (d++[((w,vals),W b1),((w,[]),W b2)])))::X) σ->K.nx [U v0,RC T,U v2,Qv (Oy vals),NG C,N1 w,x6,x7,x8,x9,x10] σ):
  Na (n+15) 61 soF [U v0,RC T,U v2,Qv (Oy vals),NG C,N1 w,x6,x7,x8,x9,x10] σ K:=by
 refine wJ<|aL<|aX H (aC (c:=3) aG H y) ?_
 rw[N];refine au H (aC (c:=3) aG H y) N<|aL ⟨H,Aq _,AN λA hA=>?_⟩
 refine uC hs x ho (λZ m=>M9 m Ay) (by rw[B5,A1];exact hz) (Hs.nil.new hA) λσ' g=>?_;have h:=h.keep g.k;refine ug e1<|ug e2 ?_
 refine uP (b:=J) h hn hd hw hv x (AN ⟨_,H⟩) (AN ⟨_,H⟩) H ?_ ?_ y (by rw[N];rfl) λσ h=>q σ _ _ _ _ h;rw[hi];exactλσ R q=>rk hs hv x ho hz ht2 e1 q;rw[hi];exactλσ R q=>rj e2 q
end
end
inductive TW (I:aT) (T:NW) (vals:List Va) (w:M6):Prop
 |out:NH (W w) T=Y->I.str w=A5->TW I T vals w
 |tree (ss:List S1) (b1 b2:M6):NH (W w) T=U (Bg [W (N7 ss),BB (ss.map S1.v)])->I.str w=W (N7 ss)->UJ ss->PK ss<=1000->2*(N7 ss).length<Nh->
   fO (OB ss (PW vals [])).2 b1->fO (N7 ss) b2->TW I T vals w
section
variable{I:aT}{C D:AG}{X:Ox}{w:M6}{d:List (Ky×V)}{vals:List Va}{v0 v2:V}{T:NW}{x5 x6 x7 x8 x9 x10:OV}
def acw(R:(d.map Az).Nodup)(q:∀p∈d,p.1.1≠w)(y:vals≠[]):((d++[((w,vals),r1),((w,[]),x)]).map Az).Nodup:=by
 rw[AS];refine Dq.mpr ⟨R,Bc.mpr ⟨λm=>y (M7 FH (AV.mp m)),Bc.mpr ⟨Ay,Cx⟩⟩,λa N b mb e=>?_⟩;obtain⟨p,m,A⟩:=A0.mp N;refine q p m<|(M7 Az (A.trans e)).trans ?_
 rcases AQ.mp mb with rfl|mb
 rfl
 rw[AV.mp mb]
def cg{N:NF->M5->Kt->Prop}{K:Kt}(h:N (NM ρ j z) σ (T7 (forL N (O2 m (k+1) (.nm j)) K zs) K)):forL N (O2 m (k+1) (.nm j)) K (z::zs) ρ σ:=h
def acx{K:Kt}(h:Hs τ ((C,Qj I D)::(D,AE (SK d))::X) σ)(A:(d.map Az).Nodup)(hd:d.length<=100)(hw:∀p∈d,p.1.1≠w)(y:vals≠[])(hl:vals.length<=9)(ho:∀v∈vals,v.oct.length<=100)
  (x:Nf 3 T=J) (ht:TW I T vals w)
  (q:∀σ r1 r2 x6 x7 x8 x9,Hs τ ((C,Qj I D)::(D,AE (SK (d++[((w,vals),r1),((w,[]),r2)])))::X) σ->K.nx [U v0,U (B6 T),U v2,U (BB (Oy vals)),U (Av C),U (W w),x6,x7,x8,x9,x10] σ):
  Na (n+15) 61 soF [U v0,U (B6 T),U v2,U (BB (Oy vals)),U (Av C),U (W w),x6,x7,x8,x9,x10] σ K:=
 TW.casesOn ht (λR N=>aeP h A hd hw y hl x R N λσ x6 x7 x8 x9 h=>q σ _ _ _ _ _ _ h)
  (λss b1 b2 R N e3 e4 e5 e6 e7=>afW h A hd hw y hl x R N e3 ho e4 e5 e6 e7 λσ x6 x7 x8 x9 h=>q σ _ _ _ _ _ _ h)
def acy{K:Kt}(y:vals≠[])(hl:vals.length<=9)(ho:∀v∈vals,v.oct.length<=100)(hT:Nf 3 T=J):∀(ws:Ni) {d:List (Ky×V)} {σ:M5} {x5 x6 x7 x8 x9:OV},Hs τ ((C,Qj I D)::(D,.dict (SK d))::X) σ->(d.map Az).Nodup->d.length+2*ws.length<=100->(∀p∈d,p.1.1∉ws)->ws.Nodup->(∀w∈ws,TW I T vals w)->
  (∀σ d x5 x6 x7 x8 x9,Hs τ ((C,Qj I D)::(D,.dict d)::X) σ->K.nx [U v0,U (.di T),U v2,U (.lst (Oy vals)),U (.ref C),x5,x6,x7,x8,x9,x10] σ)->
  forL (Na (n+15) 61 soF) (O2 (n+15) 61 (.nm 5)) K (ws.map .bytes) [U v0,U (.di T),U v2,U (.lst (Oy vals)),U (.ref C),x5,x6,x7,x8,x9,x10] σ:=λws=>by
 induction ws with
 |nil=>exactλ{d σ x5 x6 x7 x8 x9} h _ _ _ _ _ q=>q σ _ _ _ _ _ _ h
 |cons w ws ih=>
  intro d σ x5 x6 x7 x8 x9 h x hd hw hu ht q;obtain⟨t1,t2⟩:=Ae.mp ht;obtain⟨A,u2⟩:=Bc.mp hu;have R:d.length+2*(ws.length+1)<=100:=hd;have N:∀p∈d,p.1.1≠w:=λp m e=>hw p m (e▸As);rw[Cc];refine cg<|acx h x (by exact ax hd aS:d.length<=100) N y hl ho hT t1 ?_
  intro σ r1 r2 x6 x7 x8 x9 h;refine ih h (acw x N y) ?_ ?_ u2 t2 q;rw[Ad];show d.length+2+_<=100;exact ax R aS;intro p m;rcases BC.mp m with m|m
  exactλe=>hw p m (Au _ e);rcases AQ.mp m with rfl|m
  exact A;rw[AV.mp m];exact A
def Xq:=[[99,117,112],[99,115,114],[104,112,97],[98,111,108,100],PY]
def OQ:=[99,111,108,115]
def UK:=[105,116]
def Yy:=[108,105,110,101,115]
def UL:=[97,109]
def UM:=[98,119]
def Zs:=[120,111,110]
def OF:=[111,119,110]
def NV:=[97,32,116,101,114,109,105,110,97,108,32,111,102,32,105,116,115,32,111,119,110]
end
structure Xj (I:aT) (T:NW) (vals:List Va) (a b:Nat):Prop where
 w:∀w∈Xq,TW I T vals w
 c:I.m.at_ OQ=Ed a
 i:I.m.at_ UK=Ed b
 l:I.m.at_ Yy=IQ
 am:I.b.at_ UL=DX
 bw:I.b.at_ UM=DX
 xon:I.b.at_ Zs=IQ
 nm:I.nm=[OF,NV]
section
variable{I:aT}{vals:List Va}{T:NW}{a b:Nat}
def aaa(R:vals≠[])(x:vals.length<=9)(ho:∀v∈vals,v.oct.length<=100)(A:Nf 3 T=J)(N:Xj I T vals a b)(q:Q (Bm J) σ):
  M8 B (n+16) 1027 [I.v,B6 T,BB [Zy a,Zy b],BB (Oy vals)] σ Q:=by
 refine Ny.cut<|ay H H<|acu (Hs.nil) λC D X h=>aL ?_
 generalize y:Nl (Na (n+15) 62) _ _=K;refine acy R x ho A Xq (d:=[]) h Cx ae (λZ m=>M9 m Ay) aG N.w ?_;subst y;intro σ d x5 x6 x7 x8 x9 h;refine aL<|bx (h.at 0 H) H H H<|oV (h.at 0 H) ?_
 rw[(N.c:I.m.at_ [99,111,108,115]=Ed a)];refine bx (h.at 0 H) H H H<|oV (h.at 0 H) ?_
 rw[(N.i:I.m.at_ [105,116]=Ed b)];refine bx (h.at 0 H) H H H<|oV (h.at 0 H) ?_
 rw[(N.l:I.m.at_ [108,105,110,101,115]=IQ)];refine⟨Ac H,Aw ⟨Ac H,Aw (bf H H ae ⟨Ac H,Aw ?_⟩)⟩⟩;refine bJ (AN H) H H (λZ=>H)<|ff ?_ ?_
 show(!RY [Zy a,Zy b,Ar 77] [Zy a,Zy b,Ar 77])=Am;show(!((G a==G a)&&((G b==G b)&&((77:Int)==77&&J))))=Am;rw[Px,Px];rfl;refine aL<|bx (h.at 0 H) H H H<|oW (h.at 0 H) (Aw N.am)<|bx (h.at 0 H) H H H<|oW (h.at 0 H) (Aw N.bw) ?_
 refine bx (h.at 0 H) H H H<|oW (h.at 0 H) (AN N.xon) ⟨Ac H,Aw ?_⟩
 rw[show I.b.at_ [97,109]=DX from N.am,show I.b.at_ [98,119]=DX from N.bw,show I.b.at_ [120,111,110]=IQ from N.xon];refine aL ⟨Ac H,Aw (bJ (Aw H) H H (λZ=>H) (cC H H H ⟨Ac H,Aw ?_⟩))⟩;have nm:I.Pc.nm=[W OF,W NV]:=M7 (CC W) N.nm;rw[nm];exact bJ (Aw H) H H (λZ=>H) ⟨h.k,q⟩
variable{M:aT}{v z:V}
def aab(h:I.Ok)(R:∀r∈E6 (NJ [124] I.nm) I.nm::I.O1,r.Ok)(N:I.O1.length<800)(e:I.O1.foldl stepI [⟨I.nm,[],[],[],[],[]⟩]=[M])(q:Q (Bg [M.v,z]) σ):M8 B (n+7) 1022 [I.v,Zy 1,z] σ Q:=by
 refine ay H H<|dJ h<|jT R N ?_
 rw[e];exact ah H H q
def Nu.UN(l:Nu):Nu:=(NZ (l.map Az)).map λw=>(w,l.at_ w)
def aeQ{g:M6->Fv}:∀ks:Ni,Nu.at_ (ks.map λk=>(k,g k)) w=cond (ks.contains w) (g w) IQ:=λks=>by
 induction ks with
 |nil=>rfl
 |cons k ks N=>
  unfold Nu.at_ at N⊢
  rw[Cc,EB,ID]
  cases e:w==k with
  |true=>rw[N2 e];rfl
  |false=>exact N
def dm:w∈NZ ks↔w∈ks:=(aR ks).1.mem_iff
def gr(l:Nu)(w:M6):l.UN.at_ w=l.at_ w:=by
 refine(aeQ (NZ (l.map Az))).trans ?_
 by_cases h:w∈l.map Az
 rw[Ci.mpr (dm.mpr h)];rfl;rw[show(NZ (l.map Az)).contains w=Am from Bp.mpr λe=>h (dm.mp (Ci.mp e)),(lT (Bp.mpr λe=>h (cZ.mp e))).2];rfl
def jY{ks:Ni}(h:ks.Nodup):(NZ ks).Nodup:=(aR ks).1.nodup_iff.mpr h
def aac{g:M6->Fv}:∀(ks:Ni) (l:Nu),ks.Nodup->(∀k∈ks,l.has k=Am)->ks.foldl (λl k=>l.add k (g k)) l=l++ks.map λk=>(k,g k):=λks=>by
 induction ks with
 |nil=>exactλl Z Z=>(Ax l).symm
 |cons k ks A=>intro l h q;obtain⟨R,C⟩:=Bc.mp h;obtain⟨N,X⟩:=Ae.mp q;show ks.foldl _ (l.add k (g k))=_;rw[show l.add k (g k)=l++[(k,g k)] by delta Nu.add;rw[N];rfl,A _ C λj m=>?_,Ag];rfl;show(l++[(k,g k)]).any _=Am;rw[List.any_append];refine CX.mpr ⟨X j m,(Gf _).trans (beq_eq_false_iff_ne.mpr λe=>R ((show j=k from e)▸m))⟩
abbrev aT.lot(I:aT):Nat->Nu
 |0=>I.b
 |1=>I.m
 |2=>I.s
 |_=>I.o
end
def aT.Xk(I:aT)(l:Nu):Nat->aT
 |0=>{I with b:=l}
 |1=>{I with m:=l}
 |2=>{I with s:=l}
 |_=>{I with o:=l}
def aad{g:M6->Fv}:∀(ks:Ni) (I:aT),(∀k∈ks,Rc k=p)->(ks.map λw=>J3 w (g w)).foldl stepI (I::is)=I.Xk (ks.foldl (λl k=>l.add k (g k)) (I.lot p)) p::is:=λks=>by
 induction ks with
 |nil=>intro I _;exact aaO p H H H λZ=>H
 |cons k ks R=>intro I h;obtain⟨N,A⟩:=Ae.mp h;show(ks.map λw=>J3 w (g w)).foldl stepI (I.put k (g k) (Rc k)::is)=_;rw[N,R _ A];exact aaO p H H H λZ=>H
def aae:∀us (I:aT),(us.map J2).foldl stepI (I::is)={I with u:=I.u++us}::is:=λus=>by
 induction us with
 |nil=>exactλI=>by rw[Ax];rfl
 |cons w us N=>intro I;show(us.map J2).foldl stepI ({I with u:=I.u++[w]}::is)=_;rw[N];show aT.mk I.nm I.b I.m I.s I.o ((I.u++[w])++us)::is=_;rw[Ag];rfl
def gB{l:Nu}(I:aT)(N:(l.map Az).Nodup)(hp:∀k∈l.map Az,Rc k=p)(h0:I.lot p=[]):l.rows.foldl stepI (I::is)=I.Xk l.UN p::is:=by refine(aad (NZ (l.map Az)) I λk m=>hp k (dm.mp m)).trans ?_;rw[h0,aac _ [] (jY N) λZ Z=>H];rfl
abbrev aT.rd(I:aT):aT:=⟨I.nm,I.b.UN,I.m.UN,I.s.UN,I.o.UN,I.u⟩
structure aT.Pl (I:aT):Prop where
 b:(I.b.map Az).Nodup/\∀k∈I.b.map Az,Rc k=0
 m:(I.m.map Az).Nodup/\∀k∈I.m.map Az,Rc k=1
 s:(I.s.map Az).Nodup/\∀k∈I.s.map Az,Rc k=2
 o:(I.o.map Az).Nodup/\∀k∈I.o.map Az,Rc k=3
def oX{I:aT}(h:I.Pl)(N:List aT):I.O1.foldl stepI (⟨I.nm,[],[],[],[],[]⟩::N)=I.rd::N:=by rw[Dr,gB _ h.b.1 h.b.2 H,Dr,gB _ h.m.1 h.m.2 H,Dr,gB _ h.s.1 h.s.2 H,Dr,gB _ h.o.1 h.o.2 H,aae];rfl
def jb(l:Nu):l.UN.map Az=NZ (l.map Az):=by delta Nu.UN;rw[Bo];exact HP _
def acz(l:Nu)(w:M6):l.UN.has w=l.has w:=
 HD.mpr (cZ.trans (by rw[jb];exact dm.trans cZ.symm))
def aeR(I:aT)(w:M6):I.rd.str w=I.str w:=by show cond (I.s.UN.has w) (I.s.UN.at_ w).v (I.o.UN.at_ w).Xi=_;rw[acz,gr,gr];rfl
def TW.of{I N:aT}{T:NW}{R:List Va}{w:M6}(e:N.str w=I.str w)(h:TW I T R w):TW N T R w:=
 TW.casesOn h (λX A=>.out X (e.trans A)) λss C b2 X A y e4 e5 x q=>.tree ss C b2 X (e.trans A) y e4 e5 x q
def Xj.rd{I:aT}{T:NW}{N:List Va}{a b:Nat}(h:Xj I T N a b):Xj I.rd T N a b:=
 ⟨λw m=>(h.w w m).of (aeR I w),(gr ..).trans h.c,(gr ..).trans h.i,(gr ..).trans h.l,(gr ..).trans h.am,(gr ..).trans h.bw,(gr ..).trans h.xon,h.nm⟩
abbrev aT.hd(I:aT):Rw:=E6 (NJ [124] I.nm) I.nm
def aeS{I M:aT}(h:I.Pl)(k:M.Pl):(I.O1++M.hd::M.O1).foldl stepI [⟨I.nm,[],[],[],[],[]⟩]=[M.rd,I.rd]:=by rw[Dr,oX h];show M.O1.foldl stepI (⟨M.nm,[],[],[],[],[]⟩::[I.rd])=_;exact oX k [I.rd]
def aaf(a b:List Rw):PX (a++b)=PX a++PX b:=List.flatMap_append
section
variable{I M:aT}
def aag(h:I.Pl)(k:M.Pl)(R:∀r∈I.hd::(I.O1++M.hd::M.O1),r.Ok)(N:(I.O1++M.hd::M.O1).length<800)(q:Q (BB [I.rd.v,M.rd.v]) σ):M8 B (n+5) 576 [W (PX (I.hd::I.O1)++PX (M.hd::M.O1))] σ Q:=by rw[<-aaf];refine jT (rs:=I.O1++M.hd::M.O1) R N ?_;rw[aeS h k];exact q
def acA(p:M6×Fv)(l:Nu)(w:M6):Nu.at_ (p::l) w=cond (w==p.1) p.2 (l.at_ w):=by
 delta Nu.at_;rw[EB]
 cases w==p.1<;>rfl
def wO{l:Nu}(h:(l.map Az).Nodup):((l.add w f).map Az).Nodup:=by
 delta Nu.add
 cases e:l.has w with
 |true=>exact h
 |false=>show(CC Az (l++[(w,f)])).Nodup;rw[AS];exact Dq.mpr ⟨h,Bc.mpr ⟨Ay,Cx⟩,λa R b N q=>Bh (aO e (cZ.mpr ((q.trans (AV.mp N):a=w)▸R)))⟩
def ro:∀(m l:Nu),(l.map Az).Nodup->((l.merge m).map Az).Nodup:=λm=>by
 induction m with
 |nil=>exactλl h=>h
 |cons p m N=>exactλl h=>N _ (wO h)
def OX(o:M6):=cond (decide (o.length%2=1)) (o++[0]) o
variable{o:M6}
def uQ:((G a).fmod 2=1)↔a%2=1:=by rw[show(G a).fmod 2=G (a%2)from(Int.ofNat_fmod a 2).symm];exact Int.ofNat_inj
def ip(N:o.length<Nh)(q:Q (W (OX o)) σ):M8 B (n+1) 656 [W o] σ Q:=by delta OX at q;refine ay H H ⟨by decide,aF (λe=>?_) λe=>?_⟩;rw[N5 (uQ.mp (Od e))]at q;exact⟨N,q⟩;rw[N8 λh=>Pd e (uQ.mpr h)]at q;exact q
def NU:Nat->Int->M6
 |0,_=>[]
 |k+1,x=>(x%256).toNat::NU k (x.fdiv 256)
abbrev boF:=Om (Qn.body.drop 1)
variable{A:AG}{sz:OV}
def acB{K:Kt}:∀l {x} {f} {y},f.length+l.length<=1000->
  (∀x' y,K.nx [Q3 x',sz,NG A,y] (σ.set A (AA (N9 (f++NU l.length x)))))->
  forL (Na n 61 boF) (O2 n 61 (Eg 3)) K l [Q3 x,sz,NG A,y] (σ.set A (AA (N9 f))):=λl=>by
 induction l with
 |nil=>intro x f y _ q;have:=q x y;rw[show f++NU ([]:LV).length x=f from Ax f]at this;exact this
 |cons z l X=>
  intro x f y R q;have N:f.length+(l.length+1)<=1000:=R;refine cg<|aK (ai (M5.ag ..))<|av (M5.ag ..) ?_ ?_
  rw[Ak];exact Al (by exact ax R aS:f.length<=1000) ae
  rw[M5.set_set,PyProof.Rows.bitAnd_m8,show N9 f++[Ar (x%256)]=N9 (f++[(x%256).toNat]) by delta N9;rw[AS,show x%256=G (x%256).toNat from(Dv (DW _ aG)).symm];rfl]
  refine aL ⟨by decide,X ?_ λx' y=>?_⟩;rw[Ad];show f.length+1+_<=1000;exact ax N aS;rw[Ag];exact q x' y
variable{x:Int}{k:Nat}
def cK(C:k<=4)(hx:∀c∈NU k x,c<256)(q:Q (W (NU k x)) σ):M8 B (n+1) 642 [Ar x,Zy k] σ Q:=by
 refine Ny.cut<|ay H H ⟨Aq _,AN λA hA=>(aL ?_)⟩
 generalize hK:Nl (Na n 62) _ _=K;have R:(OS (G k)).length=k:=by delta OS;rw[Ak,FN];rfl
 suffices N:∀X y,K.nx [Q3 X,NT k,NG A,y] (σ.set A (AA (N9 ([]++NU (OS (G k)).length x))))from by refine⟨?_,?_⟩;exact⟨AW k,Bq.mpr (Aa C ae)⟩;exact(acB (OS (G k)) (by rw[R];exact Aa (Ap (A1 k)) (Aa C ae)) N)
 subst hK;intro X y;rw[R];exact aH (ai (M5.ag ..)) hx ⟨Keeps.refl.set hA,q⟩
end
section
open PySem.Builtin PySem.W.KBy
def wQ(u:Ot)(t:Tok)(a:AG)(y:Tok):
  Meets («bytes.__getitem__» ⟨[AF u t,Ai a],[]⟩) (λZ R s=>s.heap.IsSliceOf a AL AL (By (-1) y)/\u.size<=Eu/\∀t' k,R (CT (Cr (AF u.toList.reverse.toArray t'))) {s with toks:=k}):=by
 refine GW λC w A R s hS=>?_;obtain⟨⟨o,N,hc,X⟩,I,h⟩:=hS;have q:s.TypeIs (Ai a) "slice":=⟨o,N,hc⟩;show AB _ _ (Bytes.payload (AF u t)>>=λr=>_) _ _ s;refine Ab<|AI H ?_
 show AB _ _ (Bytes.subscript? (Ai a)>>=λr=>_) _ _ s;refine Ab ?_;delta Bytes.subscript?;refine Ab<|Bj q slice_no_index<|Aj<|Ab<|C8 q ?_
 show AB _ _ (Bytes.sliceParts (Ai a)>>=λr=>_) _ _ s;refine Ab ?_;delta Bytes.sliceParts;refine Ab<|Cd (x:=By (-1) y) N X H ?_
 kby_int
 refine Gn<|KH (show¬((GP (-1)==GP 0)=J) by decide) ?_
 refine Ab<|Cd (x:=AL) N X H ?_
 kby_none
 refine Ab<|Cd (x:=AL) N X H ?_
 kby_none
 refine Aj<|Ab<|AI (sliceIndices_raw Y Y (U (-1)) u.size aG) ?_
 rw[krv_bounds];refine Gn<|KH (by simp) ?_
 show AB _ _ (mkBytes (Bytes.sliced u ((u.size:Int)-1) (-1) (-1))>>=_) _ _ s;rw[kX];exact Ab<|EX (Aj ⟨_,H,h _ _⟩) (by simpa using I)
end
def adA(x:Int):x*2=x+x:=(LZ x 2).trans (Int.two_mul x)
def afX{x m M:Int}(N:M=m+m)(h: -m<=x/\x<m):(M<=x%M*2->x%M-M=x)/\(¬M<=x%M*2->x%M=x):=by
 have n:0<=x+m:=Int.add_left_neg m▸Mw h.1 m
 by_cases g:0<=x
 have e:x%M=x:=G9 g (N▸M4 h.2 (Int.le_add_of_nonneg_right (Bv g (FW h.2))));rw[e];exact⟨λc=>M9 c (IU.mpr (N▸adA x▸Int.add_lt_add h.2 h.2)),λ_=>H⟩;have g:=IU.mp g;have k:m<=x+M:=by rw[N,<-Int.add_assoc];exact G7 n
 have p:0<=m:=CI.mp λq=>Int.lt_irrefl 0 (Ez n (Int.add_lt_add g q))
 have e:x%M=x+M:=by rw[<-Int.add_emod_right,G9 (Bv p k) (by have:=Mv g M;rwa [LY]at this)]
 rw[e];exact⟨λ_=>D6 ..,λc=>M9 (adA (x+M)▸(Bv (Int.le_of_eq N) (Int.add_le_add k k))) c⟩
section
variable{b:M6}
def mz(r:Q (W b.reverse) σ):R4 B n (W b) A5 A5 (Ar (-1)) σ Q:=
 si (λs v e N=>(ag8 N).is) EK.lookup λs v sl C X u3 e N x y q h3 A Z=>by
  subst e;obtain⟨u,t,rfl,e,m⟩:=aq.inv N;obtain rfl:C=AL:=aq.inv y;obtain rfl:X=AL:=aq.inv q;obtain⟨I,rfl⟩:=aq.inv h3;have R:u.size=b.length:=by rw[<-e,Ak];rfl
  refine up<|HT (C5 _ _ _) H EK L9 (LL _ _) (wQ u t sl I) ⟨x,bc (R▸m),λt' k=>cj (by rw[<-e];exact DZ ..) (by rw[BH];exact m) r⟩
abbrev bnF:=Om (Qp.body.drop 1)
def VO(v:Int):M6->Int
 | []=>v
 |c::l=>VO (v*256+G c) l
def acC{K:Kt}:∀l {v} {y},(∀y,K.nx [o,Q3 (VO v l),y,Y] σ)->forL (Na n 61 bnF) (O2 n 61 (Eg 2)) K (N9 l) [o,Q3 v,y,Y] σ:=λl=>by
 induction l with
 |nil=>exactλq=>q _
 |cons c l N=>exactλq=>cg ⟨AN ae,N q⟩
variable{x:Int}
def ee:∀k x,(NU k x).length=k:=λk=>by
 induction k with
 |zero=>exactλZ=>H
 |succ k N=>exactλx=>M7 KS (N _)
def acD:∀l {v},VO v (l++[c])=VO v l*256+G c:=λl=>by
 induction l with
 |nil=>exact H
 |cons _ _ N=>exact N
def aeT:∀k {x},∃q,VO 0 (NU k x).reverse+256^k*q=x/\0<=VO 0 (NU k x).reverse/\VO 0 (NU k x).reverse<256^k:=λk=>by
 induction k with
 |zero=>exactλ{x}=>⟨x,(LY _).trans (Int.one_mul x),H7 0,Int.zero_lt_one⟩
 |succ k N=>intro x;obtain⟨q,e,a,b⟩:=N (x:=x.fdiv 256);have n:=DW x (b:=256) aG;rw[NU,BF,acD,show G (x%256).toNat=x%256 from Dv n];refine⟨q,?_,Int.add_nonneg (Int.mul_nonneg a aG) n,M4 (Int.add_lt_add_left (EA x (b:=256) aG) _) ?_⟩;rw[show(256:Int)^(k+1)*q=256^k*q*256 from by rw[Int.mul_right_comm];rfl,Int.add_right_comm,<-Int.add_mul,e,Int.fdiv_eq_ediv_of_nonneg x aG,LZ];exact Int.mul_ediv_add_emod x 256;exact Bv (Int.le_of_eq (Int.add_mul _ 1 256).symm)<|Int.mul_le_mul_of_nonneg_right b aG
def acE(R:k=2\/k=4)(h: -(2^(8*k-1))<=x/\x<2^(8*k-1))(q:Q (Ar x) σ):M8 B (n+1) 649 [W (NU k x)] σ Q:=by
 refine ay H H<|aL<|mz ?_
 generalize N:Nl (Na n 62) _ _=K;refine acC (NU k x).reverse λy=>?_;subst N;obtain⟨y,e⟩:=aeT k (x:=x);have e:=((Int.ediv_emod_unique (Ez e.2.1 e.2.2)).mpr e).2;have w:=λd=>afX (M:=1*2^(8*G k).toNat) d h;rcases R with rfl|rfl
 all_goals
  rw[<-e];refine aL ⟨Aw ae,⟨⟨by rw[ee];decide,by rw[ee];decide,Ac H⟩,AN ae,aF (λc=>?_) λc=>?_⟩⟩;exact Lf (M7 (λi=>Q (Ar i) σ) ((w aY).1 (Od c))) q;exact Lf (M7 (λi=>Q (Ar i) σ) ((w aY).2 (Pd c))) q
end
set_option backward.match.sparseCases true
def aeU:∀a b:List UInt8,nlt a b=(DF a b== .lt):=λa=>by
 induction a with
 |nil=>
  intro b
  cases b<;>rfl
 |cons x a N=>
  intro b
  cases b with
  |nil=>rfl
  |cons y b=>
   show cond (Ey x.toNat y.toNat) J (cond (BU x.toNat y.toNat) (nlt a b) Am)=((if x<y then Ordering.lt else if x>y then .gt else DF a b)== .lt)
   by_cases h:x<y
   rw[Nt h,Nat.blt_eq.mpr (CG.mp h)];rfl;rw[Np h,show Ey x.toNat y.toNat=Am from Bp.mpr λq=>h (CG.mpr (Nat.blt_eq.mp q))]
   by_cases g:x>y
   rw[Nt g,show BU x.toNat y.toNat=Am from Bp.mpr λq=>Fj _ ((BE q)▸CG.mp g)];rfl;rw[Np g,<-N b,show BU x.toNat y.toNat=J from Nat.beq_eq.mpr (HG (Di λq=>g (CG.mpr q)) (Di λq=>h (CG.mpr q)))];rfl
def acF{f:AM}(h:isLt f=J):f=.builtin "bytes.__lt__":=by cases f<;>first|exact M7 _ (Od h)|exact nomatch h
set_option tactic.hygienic true in
def wR{f:AM}{l:LVal}{r:Bool}(h:VF f l=U r):f=.builtin "bytes.__lt__"/\∃x t y u,l=[.bytes x t,.bytes y u]/\r=nlt x.toList y.toList:=by
 unfold VF at h
 cases e:isLt f with
 |false=>rw[e]at h;exact aa h
 |true=>
  rw[e]at h
  cases l with
  |nil=>exact aa h
  |cons a l=>
   cases a<;>first|exact aa h|skip
   cases l with
   |nil=>exact aa h
   |cons b l=>
    cases b<;>first|exact aa h|skip
    cases l with
    |cons=>exact aa h
    |nil=>exact⟨acF e,_,_,_,_,H,(Af h).symm⟩
set_option tactic.hygienic true in
def aah{c:Ll}{g:Option AM}{r:Bool}(h:VV c g=U r):∃x t y u,c=.call (.builtin "bytes.__lt__") ⟨[.bytes x t,.bytes y u],[]⟩/\g=Y/\r=nlt x.toList y.toList:=by
 cases c<;>first|exact aa h|skip
 case call f d=>
  obtain⟨l,k⟩:=d
  cases k with
  |cons=>exact aa h
  |nil=>
   cases g with
   |some=>exact aa h
   |none=>obtain⟨rfl,x,t,y,u,rfl,e⟩:=wR h;exact⟨x,t,y,u,H,H,e⟩
def acG{R:Type}{prog:CZ}{w:Dy}{A:CP}:∀(m:Sem R) {r:R},TY ⟨prog,w.params⟩ m=U r->∀(s:AZ) (Q:R->AZ->Prop) (E:O3),Q r s->AB (model prog w) A m Q E s:=λm=>by
 refine Sem.rec (motive:=λm=>∀{r:R},TY ⟨prog,w.params⟩ m=U r->∀(s:AZ) (Q:R->AZ->Prop) (E:O3),Q r s->AB (model prog w) A m Q E s) ?_ (λZ Z h=>aa h) (λZ Z h=>aa h) (λZ Z h=>aa h)
  ?_ (λZ Z Z Z h=>aa h) (λZ Z Z Z Z h=>aa h) (λZ Z Z Z Z Z h=>aa h) (λZ Z Z Z h=>aa h) (λZ Z Z Z h=>aa h) (λZ Z Z Z h=>aa h) (λZ Z Z Z h=>aa h) (λZ Z Z h=>aa h)
  ?_ (λZ Z Z Z Z h=>aa h) (λZ Z Z Z Z h=>aa h) ?_
  (λZ Z Z Z h=>aa h) (λZ Z Z Z h=>aa h) (λZ Z Z Z h=>aa h) (λZ Z Z Z Z Z h=>aa h) (λZ Z Z Z Z Z h=>aa h) (λZ Z Z h=>aa h) (λZ Z Z Z h=>aa h) (λZ Z Z h=>aa h) (λZ Z Z Z Z Z Z h=>aa h) m
 ·exactλa r h s Q E q=>Aj ((show a=r from Af h)▸q)
 ·exactλt k I r h s Q E q N p i=>by rw[Sem.wp_rule];exact I () h s Q E q N p i
 ·exactλk I r h s Q E q N p i=>by rw[Sem.wp_ask];exact I _ h s Q E q N p i
 ·intro c hd g l k I r h s Q E q N p i
  change Option.rec (motive:=λZ=>Option R) Y (λb=>TY ⟨prog,w.params⟩ (k (.ok (.ret (.bool b))))) (VV c hd)=U r at h
  cases e:VV c hd with
  |none=>rw[e]at h;exact aa h
  |some b=>
   rw[e]at h;obtain⟨x,t,y,u,rfl,rfl,e2⟩:=aah e;have hw:=Fb Fa.ew (C5 s x t) Fa.gh (Fa.fI _ _) (lS x y t u) (prog:=prog) (w:=w) (A:=A) (E:=λZ Z=>False) (Q:=λv C=>v=.bool b/\C=s) ⟨by rw[e2,aeU];rfl,H⟩ N p i;rw[show call (.builtin "bytes.__lt__") [.bytes x t,.bytes y u]=runValue (.call (.builtin "bytes.__lt__") ⟨[.bytes x t,.bytes y u],[]⟩)from H,Sem.wp_runValue]at hw;rw[Sem.wp_call];refine wpCode_mono (λr' C X=>?_) hw
   cases r' with
   |error=>exact X.elim
   |ok fl=>
    cases fl<;>first|exact X.elim|skip
    obtain⟨rfl,rfl⟩:=X;exact I _ h C Q E q N p i
def wU(S:Lx):setB S (S.params.followText "special-get-raises")=S:=by
 have e:(λr=>cond (decide (r="special-get-raises")) (S.params.followText "special-get-raises") (S.params.followText r))=S.params.followText:=funext λr=>by
  by_cases h:r="special-get-raises"
  rw[N5 h,h];rfl;rw[N8 h];rfl
 unfold setB
 rw[e]
def tE:∀(vs:LVal),AllB vs->∃N:Nat->Tok,vs=mkV (vs.map Ur) N:=λvs=>by
 induction vs with
 |nil=>exactλZ=>⟨λZ=>default,H⟩
 |cons v vs I=>intro h;obtain⟨R,A⟩:=Ae.mp h;obtain⟨x,t,rfl⟩:=R;obtain⟨N,e⟩:=I A;refine⟨λj=>Nat.rec t (λk Z=>N k) j,?_⟩;show _=AF ((x.toList.map Br).map LH).toArray t::mkV (vs.map Ur) N;rw[<-e,Bo,show LH∘Br=id from funext λc=>UInt8.ofNat_toNat,HP]
def aai{k:JO}:WW k=J->k=oneType':=(sortPriv%PySem.Builtin.KeyKind.rec) (motive:=λk=>WW k=J->k=oneType') (λh=>A9 h) (λZ=>H) (λZ h=>A9 h) k
def uR{v:AM}(h:Yp v=J):∃x t,v=.bytes x t:=by cases v<;>first|exact⟨_,_,rfl⟩|exact A9 h
def aeV:∀l:List (AM×AM),(l.map (·.1)).zip (l.map (·.2))=l:=λl=>by
 induction l with
 |nil=>rfl
 |cons p l N=>exact M7 (p::·) N
def aaj{ks:Ni}{I:List (Nat×Nat×Nat)}{N:Ge}(h:chk ks I N=J):∃a b,N=stV ks a b I:=by
 obtain⟨h1,R⟩:=Ah.mp h;obtain⟨h3,A⟩:=Ah.mp h1;obtain⟨h5,A⟩:=Ah.mp A;obtain⟨h6,R⟩:=Ah.mp R;obtain⟨R,C⟩:=Ah.mp R;obtain⟨C,h8⟩:=Ah.mp C;have q:=A3.mp R
 obtain⟨a,x⟩:=tE ((arrOf N).toList.map (·.1)) λv m=>by obtain⟨p,X,rfl⟩:=A0.mp m;exact uR (Ah.mp (q p X)).1
 obtain⟨b,y⟩:=tE ((arrOf N).toList.map (·.2)) λv m=>by obtain⟨p,X,rfl⟩:=A0.mp m;exact uR (Ah.mp (q p X)).2
 rw[Bo,show(arrOf N).toList.map (Ur∘(·.1))=ks from Od C]at x;rw[Bo,show(arrOf N).toList.map (Ur∘(·.2))=ks from Od h8]at y;refine⟨a,b,?_⟩;have e:arrOf N=(mkV ks a).toArray.zip (mkV ks b).toArray:=by rw[<-x,<-y,List.zip_toArray,aeV]
 show N=Md _ _ _ _ _;rw[<-e,<-aai h3,<-(Od h5:gallopOf N=7),<-(Od A:(pendingOf N).toList=I),<-Dw.mp h6]
def aak{S:Lx}{N:Type}{m:Sem N}{p:N->Bool}(h:∀b,(TY (setB S b) m).any p=J):∃r,TY S m=U r/\p r=J:=by
 have h:=h (S.params.followText "special-get-raises");rw[wU]at h
 cases e:TY S m with
 |none=>rw[e]at h;exact nomatch h
 |some r=>rw[e]at h;exact⟨r,H,h⟩
def jE{prog:CZ}{w:Dy}{A:CP}{E:O3}{s:AZ}{R:Type}{m:StateT Ge Sem R}{Q:R->Ge->Prop}{I:Ge}(p:R×Ge->Bool)(h:∀b,(TY (setB ⟨prog,w.params⟩ b) (m.run I)).any p=J)(q:∀r N,p (r,N)=J->Q r N):wpS (model prog w) A E s m Q I:=by obtain⟨r,e,h⟩:=aak h;exact acG _ e s _ _ ⟨H,q r.1 r.2 h⟩
def aal{n:Nat}{r:ForInStep (Option Unit×Nat)}(h:isY n r=J):r=.yield (Y,n):=by
 obtain c|⟨⟨⟩|u,k⟩:=r
 exact nomatch h;exact BE h▸H;exact nomatch h
def afY{prog:CZ}{w:Dy}{A:CP}{E:O3}{s:AZ}(a b:Nat->Tok){Q:Unit->Ge->Prop}(h:∀N,chA (NZ Vp) N=J->Q () N):wpS (model prog w) A E s sortRuns' Q (stV Vp a b []):=by
 rw[fS.2]
 refine wpS_bind (wpS_get (wpS_bind (wpS_mono (wpS_forRange
  (I:=λx c R=>(x=0/\c=(Y,0)/\R=Zt a b)\/(x=1/\c=(Y,56)/\∃a b,R=Zu a b)\/(2<=x/\c=(Y,111)/\∃a b,R=Zv a b))
  (Q:=λc R=>c=(Y,111)/\∃a b,R=Zv a b) ?_ ?_ (.inl ⟨H,H,H⟩)) λc R X=>?_)))
 ·intro x c R _ C q;rcases q with⟨rfl,rfl,rfl⟩|⟨rfl,rfl,c,d,rfl⟩|⟨hx1,rfl,y⟩
  ·refine jE (λr=>isY 56 r.1&&chk kw1 [(0,56,0)] r.2) (λk=>k.casesOn (agg _ a b) (agf _ a b)) λr N h=>?_;obtain⟨h1,X⟩:=Ah.mp h;obtain rfl:=aal h1;exact .inr<|.inl ⟨H,H,aaj X⟩
  ·refine jE (λr=>isY 111 r.1&&chk kw2 [(0,56,1),(56,55,0)] r.2) (λk=>k.casesOn (agi _ a b c d) (agh _ a b c d)) λr N h=>?_;obtain⟨h1,X⟩:=Ah.mp h;obtain rfl:=aal h1;exact .inr<|.inr ⟨AH _,H,aaj X⟩
  ·show wpS _ _ _ _ (if 111≥(arrOf (Zt a b)).size then pure (ForInStep.done (Y,111))else _) _ _;rw[afa,Nt (AH _)];exact wpS_pure ⟨H,y⟩
 ·intro c R q;rw[afa]at q;rcases q with⟨C,_⟩|⟨C,_⟩|⟨_,hc,y⟩
  ·exact M9 C (by decide)
  ·exact M9 C (by decide)
  ·exact⟨hc,y⟩
 ·obtain⟨rfl,c,d,rfl⟩:=X;exact jE (λr=>chA (NZ Vp) r.2) (λk=>k.casesOn (agk _ a b c d) (agj _ a b c d)) λZ N X=>h N X
def T3(d:NW):Ni:=d.map λp=>match p.1 with|.bytes b=>b|_=>[]
def adB:T3 (kD kS)=Vp:=by decide+kernel
def aeW:2<=Vp.length:=by decide+kernel
def tF:Vp.length<=1000:=by decide+kernel
def aam:Vk Vp:=λprog w A E s a C n P hb hk ho h=>by
 obtain⟨y,ev⟩:=tE C hb;rw[hk]at ev
 obtain⟨X,I,R,e3⟩:∃X I R,C=X::I::R:=by
  have:=aeW;rw[<-hk,Ak]at this
  cases C with
  |nil=>exact M9 this (DO 1)
  |cons X C=>cases C with
   |nil=>exact M9 (Ew this) (DO 0)
   |cons I R=>exact⟨_,_,_,H⟩
 have hsz:C.length<=1000:=by rw[<-Ak (f:=Ur),hk];exact tF
 rw[list_sort_plain];have ha:a<s.heap.objs.size:=BV ho;refine Ab<|listItems_at ho H ?_
 refine Ab<|listUpdate_at ho H ?_
 have q:=Lm ho (λZ=> #[]);refine Ab<|seqEpoch_at q H ?_
 refine Ab<|PySem.wpAny_newTuple ?_
 refine Ab<|L7 ?_
 refine C1 ?_;have ho6:=Be (KQ "list" #[] 0) (Be (KQ "tuple" C.toArray 0) q);dsimp only;have h2:¬C.toArray.size<2:=by rw[e3];exact Fs.mpr (AX (AX (Aq _)))
 rw[Np h2,Np h2,show keyKind' C.toArray=AJ oneType' from e3▸gQ (e3▸hb)];refine Ab<|Aj ?_
 rw[show Md oneType' (C.toArray.zip C.toArray) #[] 7 Y=stV Vp y y []from by rw[ev];rfl];refine Ab<|MK (afY (Q:=λZ N=>chA (NZ Vp) N=J) y y λZ h=>h) (λr s' h'=>?_) λZ Z f=>f
 obtain⟨⟨⟩,N⟩:=r;obtain⟨rfl,hc⟩:=h';obtain⟨c1,c2⟩:=Ah.mp hc;obtain⟨c2,c3⟩:=Ah.mp c2;have c1:failedOf N=Y:=Dw.mp c1;have c3:(arrOf N).toList.map (λp=>Ur p.2)=NZ Vp:=Od (Ah.mp c3).2
 have x:((arrOf N).map (·.2)).size<=sizeLine:=by rw[Array.size_map,<-Gs,<-Ak (f:=λp:Hz=>Ur p.2),c3,(aR _).1.length_eq,EF];exact Aa tF (by decide)
 dsimp only;refine Ab<|seqEpoch_at ho6 H ?_
 refine Ab<|listUpdate_at ho6 H ?_ (hsz2:=CA x)
 rw[c1];simp only[bne_self_eq_false,IF,if_false];refine Aj<|h ((arrOf N).map (λp:Hz=>p.2)) ?_ ?_
 ·intro v m;rw[Hi]at m;obtain⟨p,mp,rfl⟩:=A0.mp m;have:=(Ah.mp (A3.mp c2 p mp)).2;revert this
  cases p.2<;>first|exactλZ=>⟨_,_,H⟩|exactλh=>nomatch h
 rw[Hi,Bo];exact c3
set_option backward.match.sparseCases false
set_option backward.match.sparseCases true
def VP(d:NW)(w:M6):Option Nat:=match NH (W w) d with
 |some (.int (.ofNat p))=>U p
 |_=>Y
set_option tactic.hygienic true in
def aan(h:VP d w=U p):NH (W w) d=NT p:=by
 delta VP at h
 cases e:NH (W w) d with
 |none=>rw[e]at h;exact aa h
 |some v=>
  rw[e]at h
  cases v with
  |int i=>cases i with
   |ofNat k=>exact M7 (λp=>NT p) (Af h)
   |negSucc=>exact aa h
  |_=>exact aa h
abbrev plS(d:NW)(D:NW)(w:M6):=NX (Zy ((VP d w).getD 0)) (W w) D
abbrev plD(d:NW):=(NZ (T3 d)).foldl (plS d) []
abbrev nameAt(d:NW)(p:V):=(NH p (plD d)).getD A5
structure Kn (d:NW):Prop where
 UN:Vk (T3 d)
 keys:d.map (·.1)=(T3 d).map W
 nd:(T3 d).Nodup
 len:(T3 d).length<=1000
 k3:Nf 3 d=J
 all:∀w∈T3 d,(VP d w).isSome=J
abbrev bpF:=Om (Qq.body.drop 1)
section
variable{A:AG}{d:NW}
def uS(h:Nf 1 D=J):Nf 1 (plS d D w)=J:=eC H h
def uT:∀(ws:Ni) {D:NW},Nf 1 D=J->Nf 1 (ws.foldl (plS d) D)=J:=λws=>by
 induction ws with
 |nil=>exactλh=>h
 |cons w ws N=>exactλh=>N (uS h)
def acH(hk:Nf 3 d=J){K:Kt}:∀(ws:Ni) {D:NW} {y:OV},(∀w∈ws,(VP d w).isSome=J)->Nf 1 D=J->D.length+ws.length<=1000->
  (∀y,K.nx [RC d,NG A,y] (σ.set A (AE (ws.foldl (plS d) D))))->
  forL (Na (n+1) 61 bpF) (O2 (n+1) 61 (Eg 2)) K (ws.map W) [RC d,NG A,y] (σ.set A (AE D)):=λws=>by
 induction ws with
 |nil=>exactλZ Z Z q=>q _
 |cons w ws x=>
  intro D y h R X q;obtain⟨C,h2⟩:=Ae.mp h;obtain⟨p,I⟩:=DD.mp C;have N:D.length+(ws.length+1)<=1000:=X;refine cg<|au H (aC (c:=3) aG H hk) (aan I)<|aJ (M5.ag ..) (aC (c:=1) aG H R) (Al (by exact ax X aS:D.length<=1000) ae) ?_
  rw[M5.set_set];exact(by delta plS;rw[I];rfl:plS d D w=NX (Zy p) (.bytes w) D)▸x h2 (uS R) (Aa (A7 cm _) (by exact ax N aS)) q
def nj(h:Kn d)(q:Q (B6 (plD d)) σ):M8 B (n+2) 663 [B6 d] σ Q:=by
 refine Ny.post<|ay H H ⟨H,Aq _,AN λA R=>(aL ?_)⟩
 generalize N:Nl (Na (n+1) 62) _ _=K;refine i6 H h.keys h.nd h.len h.UN ⟨?_,Aw ?_⟩;show(CC W _).length<=Nh;rw[Ak,(aR _).1.length_eq];exact Aa h.len ae;refine acH h.k3 (NZ (T3 d)) (λw m=>h.all w (dm.mp m)) H (Aa (Ap ((A1 _).trans (aR _).1.length_eq)) h.len) λy=>?_;subst N;refine⟨_,_,NN.di (M5.ag ..),?_⟩;rw[M5.eY R];exact q
end
set_option backward.match.sparseCases false
def afZ:Kn (kD kT):=⟨gi aY,by kernel_rfl,by decide+kernel,by decide+kernel,by decide+kernel,by decide+kernel⟩
def af0:Kn (kD kN):=⟨gi aY,by kernel_rfl,by decide+kernel,by decide+kernel,by decide+kernel,by decide+kernel⟩
def af1:Kn (kD kS):=⟨(adB▸aam:Vk (T3 (kD kS))),by kernel_rfl,by decide+kernel,(adB▸tF:(T3 (kD kS)).length<=1000),by decide+kernel,by decide+kernel⟩
def Nv(d:NW)(m:Nat):LV:=(D3 m).map λi=>nameAt d (Zy i)
abbrev lastOf(d:NW)(i:Int)(ws:Ni):Int:=ws.foldl (λi w=>max i (G ((VP d w).getD 0))) i
abbrev brF:List S:=Om (RN.body.drop 1)
section
variable{A:AG}{d:NW}{v:OV}
def acI(X:Nf 3 d=J){K:Kt}:∀(ws:Ni) {i:Int} {y:OV},(∀w∈ws,(VP d w).isSome=J)->
  (∀y,K.nx [v,RC d,Q3 (lastOf d i ws),y,Y] σ)->
  forL (Na (n+1) 61 brF) (O2 (n+1) 61 (Eg 3)) K (ws.map W) [v,RC d,Q3 i,y,Y] σ:=λws=>by
 induction ws with
 |nil=>exactλZ q=>q _
 |cons w ws C=>
  intro i y h q;obtain⟨I,R⟩:=Ae.mp h;obtain⟨p,N⟩:=DD.mp I;refine cg<|au H (aC (c:=3) aG H X) (aan N)<|qv<|C R λy=>?_
  have:=q y;dsimp only[lastOf]at this⊢;rw[DT,(by rw[N];rfl:G ((VP d w).getD 0)=G p)]at this;exact this
def nk(m:Nat):(D3 m).filterMap (λk=>U (nameAt d (Ar (G k))))=Nv d m:=by rw[LF];rfl
def tG(h:Kn d){l:Nu}(C:(l.map Az).Nodup)(x:∀w∈l.map Az,(VP d w).isSome=J)(R:lastOf d (-1) (l.map Az)+1=G m)(I:m<=1000)(q:Q (BB (Nv d m)) σ):M8 B (n+3) 724 [B6 l.d,B6 d] σ Q:=by
 refine ay H H<|aL ?_
 generalize X:Nl (Na (n+2) 62) _ _=K;have e:(l.d.map (·.1))=(l.map Az).map W:=by delta Nu.d;rw[Bo,Bo];rfl
 have N:forL (Na (n+2) 61 brF) (O2 (n+2) 61 (Eg 3)) K ((l.map Az).map W) [RC l.d,RC d,Q3 (-1),Y,Y] σ:=by
  refine acI h.k3 _ x λy=>?_;subst X;refine aL<|nj (n:=n) h<|aL<|⟨R▸⟨AW m,Bq.mpr (Aa I ae)⟩,?_⟩
  show Qm _ (OS (lastOf d (-1) (l.map Az)+1)) _ _;rw[R];refine bb (g:=λk=>U (nameAt d (Ar (G k)))) (D3 (G m).toNat) (λk Z c q=>?_) ?_;exact eK H<|eN H (aC (c:=1) aG H (uT _ H)) q
  rw[show(G m).toNat=m from H,nk];refine⟨?_,Aw q⟩;show(CC _ _).length<=Nh;rw[Ak,FN];exact Aa I ae
 rw[<-e]at N;exact⟨⟨_,e,C⟩,N⟩
def lU(h:Kn d)(N:m<=1000)(q:Q (BB (Nv d m)) σ):M8 B (n+3) 871 [B6 d,Zy m] σ Q:=by
 refine ay H H<|nj (n:=n) h<|aL ⟨⟨AW m,Bq.mpr (Aa N ae)⟩,bb (β:=Nat) (f:=λk=>Ar (G k)) (g:=λk=>U (nameAt d (Ar (G k)))) (D3 (G m).toNat) (λk Z c q=>?_) ?_⟩
 exact eK H<|eN H (aC (c:=1) aG H (uT _ H)) q
 rw[show(G m).toNat=m from H,nk];refine⟨?_,Aw q⟩;show(CC _ _).length<=Nh;rw[Ak,FN];exact Aa N ae
abbrev bsO(P:AG)(z:Nat):=BZ 694 [(19,Av P),(20,Zy z)]
abbrev nul(o:M6):=o++[0]
def Vs(C P:AG)(ps:Ni):Ox:=[(C,bsO P (ps.map nul).flatten.length),(P,AA ((ps.map nul).map W))]
def af2{o:M6}(h:Oc o):o.contains 0=Am:=Bp.mpr λe=>M9 (h 0 (Ci.mp e)).1 (Fj 0)
def gu(ps:Ni)(o:M6):((ps++[o]).map nul).flatten=(ps.map nul).flatten++nul o:=by rw[AS,Mr];exact M7 _<|Ax _
variable{C P:AG}{X:Ox}{ps:Ni}{o:M6}
def cL(h:Hs τ X σ)(q:∀C P σ,Hs τ (Vs C P []++X) σ->Q (Av C) σ):M8 B (n+3) 694 [] σ Q:=by
 refine zL (f:=677) (full:=[]) h H H (λZ=>H) λd σ h=>⟨Aq _,AN λP N=>?_⟩;have h:=h.new (o:=AA []) N;refine gN (h.at 1 H) H H<|aL<|gN (M5.ag ..) H H ⟨H,q _ P _ ?_⟩
 rw[M5.set_set];exact((h.upd 1 H (bsO P 0)).perm (CS ..)).sub<|DL _<|DL _<|Et ..
def jZ(h:Hs τ (Vs C P ps++X) σ)(y:Oc o)(hp:ps.length<1000)(R:((ps.map nul).flatten++nul o).length<=32767)(q:∀σ,Hs τ (Vs C P (ps++[o])++X) σ->Q (Zy (ps.map nul).flatten.length) σ):M8 B (n+3) 684 [Av C,W o] σ Q:=by
 have I:((ps.map nul).flatten++nul o).length=(ps.map nul).flatten.length+o.length+1:=by rw[Ad,nul,Ad];rfl
 have N:=Aa (Aa (B4 _) (by rw[Ad,nul,Ad]at R;exact Aa (Bl ..) R)) (AH _);refine ay H H<|aZ (h.at 0 H) H H H<|aL<|aZ (h.at 0 H) H H H<|aK (ai (h.at 1 H))<|ahW<|nO (af2 y) ⟨Aa (AX N) ae,av (h.at 1 H) ?_ ?_⟩
 rw[Ak,Ak];exact BG hp ae;have h:=h.upd 1 H (AA ((ps.map nul).map W++[W (o++[0])]));refine aL<|aZ (h.at 0 H) H H H<|gN (h.at 0 H) H H ?_
 have h:=h.upd 0 H (bsO P ((ps.map nul).flatten.length+o.length+1));refine aL<|aZ (h.at 0 H) H H H<|ff (N8 λk=>?_)<|q _ ?_
 exact M9 (BN.mp k:32767<(ps.map nul).flatten.length+o.length+1)<|Fs.mpr<|I▸R
 delta Vs;rw[gu,I,AS,AS];exact h
def gv(h:Hs τ (Vs C P ps++X) σ)(N:(ps.map nul).flatten.length<=Nh)(q:Q (W (ps.map nul).flatten) σ):M8 B (n+2) 691 [Av C] σ Q:=by have e:=ahc (ps.map nul);exact ay H H<|ck<|aZ (h.at 0 H) H H H<|a7 (ai (h.at 1 H)) (e▸N)<|e▸q
def lV(q:Q (W [1]) σ):M8 B (n+1) 705 [Bm J] σ Q:=ay H H q
def Of(k:Nat):=2^(8*k-1)-1
end
abbrev Nu.fld(l:Nu):V->Option M6
 |.bytes w=>match l.at_ w with
  |.str o=>U o
  |_=>Y
 |_=>Y
def OM(l:Nu)(ps:Ni)(y:V):M6×Ni:=match l.fld y with
 |some o=>(NU 2 (G (ps.map nul).flatten.length),ps++[o])
 |none=>(NU 2 (-1),ps)
def lW:∀k {x},∀c∈NU k x,c<256:=λk=>by
 induction k with
 |zero=>exactλZ m=>M9 m Ay
 |succ k N=>
  intro x c m;rcases AQ.mp m with rfl|m
  exact(Jp (DW _ aG)).mpr<|EA _ aG
  exact N c m
def PG{β γ δ:Type}(s:γ->β->δ×γ):γ->List β->List δ×γ
 |c,[]=>([],c)
 |c,x::l=>((s c x).1::(PG s (s c x).2 l).1,(PG s (s c x).2 l).2)
def wV{β A y:Type}{f:β->V}{g:y->V}{F:V->M5->(OV->M5->Prop)->Prop}{s:A->β->y×A}{I:A->List β->M5->Prop}(h:∀x l c σ C,I c (x::l) σ->(∀N,I (s c x).2 l N->C (U (g (s c x).1)) N)->F (f x) σ C):
  ∀l {c} {σ} {k},I c l σ->(∀N,I (PG s c l).2 [] N->k ((PG s c l).1.map g) N)->Qm F (l.map f) σ k:=λl=>by
 induction l with
 |nil=>exactλi q=>q _ i
 |cons x l ih=>exactλi q=>h x l _ _ _ i λN i'=>ih i' λR X=>q R X
section
variable{C P:AG}{X:Ox}{ps:Ni}{o:M6}{l:Nu}{w:M6}{m:Nat}
def nq (hk : k = 2 ∨ k = 4) (hw : l.has w = J) (hm : l.at_ w = Ed m) (q : Q (W (NU k (G (min m (Of k))))) σ) : M8 B (n + 2) 712 [B6 l.d, W w, Zy k] σ Q := by
  have hd := gq hw
  rw [hm] at hd
  refine ay H H (aN H (bT _) (ff ?_ ?_))
  · rw [hd]; rfl
  refine aL (au H (bT _) hd (aL (au H (bT _) hd ?_)))
  have fin : ∀ x, x = G (Of k) → M8 B (n + 1) 642 [Ar (min (G m) x), Zy k] σ Q := fun x ex => by
    rw [(fun x e => by rw [e]; show min (m : Int) (Of k : Int) = ((min m (Of k) : Nat) : Int); omega : ∀ x, x = G (Of k) → min (G m) x = G (min m (Of k))) x ex]
    exact cK (by rcases hk with rfl | rfl <;> decide) (lW k) q
  rcases hk with rfl | rfl
  · exact ⟨Aw ae, ⟨by decide, by decide, Ac H⟩, eS (fin _ aY)⟩
  · exact ⟨Aw ae, ⟨by decide, by decide, Ac H⟩, eS (fin _ aY)⟩
def oY(R:y=A5\/∃w,y=W w/\l.has w=Am)(q:Q (W (NU 2 (-1))) σ):M8 B (n+2) 719 [B6 l.d,y,z] σ Q:=by
 rcases R with rfl|⟨w,rfl,N⟩
 exact ay H H<|cK (k:=2) ae aG q
 refine ay H H (aN H (bT _) (tt ?_ (cK (k:=2) ae aG q)));rw[(lT N).1];rfl
def nr(h:Hs τ (Vs C P ps++X) σ)(I:l.has w=J)(y:l.at_ w=F1 o)(A:Oc o)(hp:ps.length<1000)(R:((ps.map nul).flatten++nul o).length<=32767)(q:∀σ,Hs τ (Vs C P (ps++[o])++X) σ->Q (W (NU 2 (G (ps.map nul).flatten.length))) σ):M8 B (n+4) 719 [B6 l.d,W w,Av C] σ Q:=by
 have N:=gq I;rw[y]at N;refine ay H H<|aN H (bT _)<|ff ?_ ?_
 rw[N];rfl;refine aL<|au H (bT _) N<|aL<|bx (h.at 0 H) H H H<|au H (bT _) N<|jZ h A hp R λσ h=>?_
 exact cK (k:=2) ae (lW 2)<|q σ h
end
def Nu.R1(l:Nu):LV->Nat
 | []=>0
 |y::ys=>((l.fld y).elim 0 λo=>o.length+1)+l.R1 ys
def UG(l:Nu)(y:V):=(y=A5\/∃w,y=W w/\l.has w=Am)\/∃w o,y=W w/\l.has w=J/\l.at_ w=F1 o/\Oc o
structure BpI (l:Nu) (τ:M5) (C P:AG) (X:Ox) (ps:Ni) (ys:LV) (σ:M5):Prop where
 h:Hs τ (Vs C P ps++X) σ
 nm:∀y∈ys,UG l y
 len:ps.length+ys.length<=1000
 R1:(ps.map nul).flatten.length+l.R1 ys<=32767
section
variable{C P:AG}{X:Ox}{ps:Ni}{l:Nu}
def aao{Fe:V->M5->(OV->M5->Prop)->Prop}(hF:∀y σ c,M8 B (n+4) 719 [B6 l.d,y,Av C] σ (λz N=>c (U z) N)->Fe y σ c)
  (ys:LV) (i:BpI l τ C P X ps ys σ) {k:LV->M5->Prop} (q:∀N,Hs τ (Vs C P (PG (OM l) ps ys).2++X) N->k ((PG (OM l) ps ys).1.map W) N):Qm Fe ys σ k:=by
 have:=wV (f:=id) (λy I ps σ c i q=>hF y σ c ?_) ys i (λN i'=>q N i'.h)
 rwa [HP]at this
 obtain⟨A,i2⟩:=Ae.mp i.nm;have x:ps.length+(I.length+1)<=1000:=i.len;have R:(ps.map nul).flatten.length+(((l.fld y).elim 0 λo=>o.length+1)+l.R1 I)<=32767:=i.R1
 unfold OM at q
 rcases A with A|⟨w,o,rfl,h1,h2,h3⟩
 ·have e:l.fld y=Y:=by
   rcases A with rfl|⟨w,rfl,hw⟩
   rfl
   delta Nu.fld;dsimp only;rw[(lT hw).2]
  rw[e]at q R;have R:(ps.map nul).flatten.length+(0+l.R1 I)<=32767:=R;exact oY A<|q σ ⟨i.h,i2,by show ps.length+I.length<=1000;exact ax x aS,by show(ps.map nul).flatten.length+_<=32767;exact ax R aS⟩
 have e:l.fld (W w)=U o:=by delta Nu.fld;dsimp only;rw[h2]
 rw[e]at q R;have R:(ps.map nul).flatten.length+((o.length+1)+l.R1 I)<=32767:=R;have ez:((ps.map nul).flatten++nul o).length=(ps.map nul).flatten.length+o.length+1:=by rw[Ad,nul,Ad];rfl
 refine nr i.h h1 h2 h3 (by exact ax x aS) (by rw[ez];exact ax R aS) λσ h=>q σ ⟨h,i2,?_,?_⟩;show(ps++[o]).length+_<=1000;rw[Ad];show ps.length+1+_<=_;exact ax x aS;show((ps++[o]).map nul).flatten.length+_<=32767;rw[gu,ez];exact ax R aS
def adC:Nv (kD kT) 2=[W UM,W UL]:=by kernel_rfl
def adD:Nv (kD kN) 2=[W OQ,W UK]:=by kernel_rfl
def Tc:=NJ [124] [OF,NV]++[0]
end
structure gS (I:aT) (a b m:Nat):Prop where
 nm:I.nm=[OF,NV]
 b1:(I.b.map Az).Nodup/\(∀w∈I.b.map Az,(VP (kD kT) w).isSome=J)/\lastOf (kD kT) (-1) (I.b.map Az)+1=G 2
 b2:(I.b.has UM=J/\I.b.at_ UM=DX)/\I.b.has UL=J/\I.b.at_ UL=DX
 m1:(I.m.map Az).Nodup/\(∀w∈I.m.map Az,(VP (kD kN) w).isSome=J)/\lastOf (kD kN) (-1) (I.m.map Az)+1=G 2
 m2:(I.m.has OQ=J/\I.m.at_ OQ=Ed a)/\I.m.has UK=J/\I.m.at_ UK=Ed b
 s1:(I.s.map Az).Nodup/\(∀w∈I.s.map Az,(VP (kD kS) w).isSome=J)/\lastOf (kD kS) (-1) (I.s.map Az)+1=G m
 s2:∀y∈Nv (kD kS) m,UG I.s y
 ml:m<=900
 R1:I.s.R1 (Nv (kD kS) m)<=32767
abbrev aT.runs(I:aT)(m:Nat):Ni×Ni:=PG (OM I.s) [] (Nv (kD kS) m)
abbrev tabOf(r:Ni×Ni):=(r.2.map nul).flatten
def OR(I:aT)(a b m k:Nat):=OX (Tc++[1,1])++[NU k (G (min a (Of k))),NU k (G (min b (Of k)))].flatten++(I.runs m).1.flatten++tabOf (I.runs m)
def oZ{l:Nu}:∀ys {ps},(PG (OM l) ps ys).1.flatten.length=2*ys.length/\(((PG (OM l) ps ys).2).map nul).flatten.length=(ps.map nul).flatten.length+l.R1 ys/\(PG (OM l) ps ys).1.length=ys.length:=λys=>by
 induction ys with
 |nil=>exact⟨H,H,H⟩
 |cons y ys A=>
  intro ps;obtain⟨R,N,I⟩:=A (ps:=(OM l ps y).2);refine⟨?_,?_,M7 KS I⟩;show((OM l ps y).1++(PG (OM l) (OM l ps y).2 ys).1.flatten).length=2*(ys.length+1);rw[Ad,R,(by delta OM;cases l.fld y<;>exact ee 2 _:(OM l ps y).1.length=2)];lia;refine N.trans ?_;show _=_+(((l.fld y).elim 0 λo=>o.length+1)+l.R1 ys);delta OM
  cases l.fld y with
  |none=>show _+_=_+(0+_);rw[A1]
  |some o=>show((ps++[o]).map nul).flatten.length+_=_+(o.length+1+_);rw[gu,Ad,nul,Ad];show _+(o.length+1)+_=_;lia
def gE(d:NW)(m:Nat):(Nv d m).length=m:=(Ak ..).trans (FN ..)
section
variable{I:aT}{a b m k:Nat}
def wW(hk:k=2\/k=4)(h:gS I a b m)(g:Hs σ (Vs C P []++[]) τ)(q:Q (Bg [BB [Zy Tc.length,Zy 2,Zy 2,Zy m,Zy (tabOf (I.runs m)).length],W (OR I a b m k)]) σ):
  (Nl (Na (n+5) 59) (Ro.body.drop 5) (RT λz τ=>Keeps σ τ/\Q z σ)).nx [U I.v,NT k,x2,x3,x4,U (Bg [BB [W UM,W UL],BB [W OQ,W UK],BB (Nv (kD kS) m)]),N1 Tc,NG C,x8,N1 (OX (Tc++[1,1]))] τ:=by
 refine aL<|ck<|cC H H H<|nq (n:=n+3) hk h.m2.1.1 h.m2.1.2 ?_
 refine cC H H H<|nq (n:=n+3) hk h.m2.2.1 h.m2.2.2 ⟨Ac H,Aw ?_⟩
 have N:k<=4:=by rcases hk with rfl|rfl<;>decide
 have e1:∀x y,[NU k x,NU k y].flatten.length=2*k:=λx y=>by show(NU k x++(NU k y++[])).length=_;rw[Ad,Ax,ee,ee];lia
 have eh:(OX (Tc++[1,1])).length=28:=H;obtain⟨A,r2,r3⟩:=oZ (l:=I.s) (Nv (kD kS) m) (ps:=[]);rw[gE]at A r3;have r2:(tabOf (I.runs m)).length=0+_:=r2;have A:(I.runs m).1.flatten.length=2*m:=A;have R:=h.ml;have ht:=h.R1;refine a7 (ps:=[NU k (G (min a (Of k))),NU k (G (min b (Of k)))]) H ?_ ?_;rw[ahc,e1];exact Aa (by exact ax (Ao N N) aS:2*k<=8) ae;rw[ahc];refine⟨?_,aL (ck ?_)⟩;rw[eh,e1];exact Aa (by exact ax (Ao N N) aS:28+2*k<=38) ae;refine aao (n:=n+1) (λy σ c hc=>?_) _ (ps:=[]) (X:=[]) ⟨g,h.s2,?_,?_⟩ λσ'' g=>?_;exact cC H H H hc;rw[gE];exact Aa (Ap (A1 _)) (Aa R ae);exact Aa (Ap (A1 _)) ht;refine⟨?_,Aw (a7 (ps:=(I.runs m).1) H ?_ ?_)⟩;show(CC W (I.runs m).1).length<=Nh;rw[Ak];exact Aa (Ap r3) (Aa R ae);rw[ahc,A];exact Aa (by exact ax (Ao R R) aS:2*m<=1800) ae;rw[ahc];have eb:(OX (Tc++[1,1])++[NU k (G (min a (Of k))),NU k (G (min b (Of k)))].flatten).length=28+2*k:=by rw[Ad,eh,e1]
 refine⟨?_,aL ?_⟩;rw[eb,A];exact Aa (by exact ax (Ao N (Ao N (Ao R R))) aS:28+2*k+2*m<=2000) ae;refine aZ (g.at 0 H) H H H ⟨Ac H,Aw (bx (g.at 0 H) (k:=12) (f:=691) H H H (gv (n:=n+3) g ?_ ⟨?_,g.k,?_⟩))⟩;exact Aa (Ap r2)<|Aa (by exact ax ht aS:0+I.s.R1 (Nv (kD kS) m)<=32767) ae
 rw[Ad,eb,A,r2];exact Aa (by exact ax (Ao N (Ao N (Ao R (Ao R ht)))) aS:28+2*k+2*m+(0+I.s.R1 (Nv (kD kS) m))<=35000) ae;have e:(Nv (kD kS) m).length=m:=gE ..;exact Lf (M7 (λj=>Q (Bg [BB [Zy Tc.length,Zy 2,Zy 2,Zy j,Zy (tabOf (I.runs m)).length],W (OR I a b m k)]) σ) e) q
def o3(A:k=2\/k=4)(h:gS I a b m)(q:Q (Bg [BB [Zy Tc.length,Zy 2,Zy 2,Zy m,Zy (tabOf (I.runs m)).length],W (OR I a b m k)]) σ):M8 B (n+6) 729 [I.v,Zy k] σ Q:=by
 refine Ny.cut<|ay H H<|lR<|aL<|cC H H H<|tG afZ h.b1.1 h.b1.2.1 h.b1.2.2 ae ?_
 rw[adC];refine cC H H H<|tG af0 h.m1.1 h.m1.2.1 h.m1.2.2 ae ?_
 rw[adD];refine cC H H H<|tG af1 h.s1.1 h.s1.2.1 h.s1.2.2 (Aa h.ml ae) ?_
 have nm:I.Pc.nm=[W OF,W NV]:=M7 (CC W) h.nm;refine aL<|ck<|cC H H H ?_
 rw[nm];refine a7 (ps:=[OF,NV]) H ae ⟨Ac H,cL Hs.nil λC P R g=>?_⟩;have N:∀(l:Nu) {w:M6} {j:Nat},Keyed j (W w) l.d:=λl=>bT l;refine aL<|cC H H H<|aX H (N _)<|tt ?_ ?_
 exact M7 Option.isSome<|gq h.b2.1.1
 refine cC H H H<|au H (N _) (gq h.b2.1.1) ?_
 rw[h.b2.1.2];refine lV<|cC H H H<|aX H (N _)<|tt ?_ ?_
 exact M7 Option.isSome<|gq h.b2.2.1
 refine cC H H H<|au H (N _) (gq h.b2.2.1) ?_
 rw[h.b2.2.2];refine lV ⟨Ac H,Aw (aL (ck (a7 (ps:=[[1],[1]]) H ae ⟨Ac H,ip (n:=n+4) ae ?_⟩)))⟩;exact wW A h g q
def Vl(o:M6):Nu:=[(PY,F1 o)]
abbrev mnV(o:M6):V:=V.ins 765 [(17,B6 (Vl o).d),(14,BB []),(15,BB []),(16,BB [W PY])]
abbrev mnO(o:M6)(b n s:AG):O:=BZ 765 [(17,B6 (Vl o).d),(14,Av b),(15,Av n),(16,Av s)]
abbrev mnF:List S:=Om (O0.body.drop 4)
end
section
variable{C b c s d:AG}{X:Ox}{o:M6}
def mtf{l:List (Nat×V)}{R:Goes->Prop}(N:Sl c k f Ts=J)(A:(l.all λp=>Ey p.1 22&&!V0 p.1 k)=J)(hk:Ey k 44=J)(q:R (.fn f)):MethW B m (V.ins c l) k σ R:=
 yf H (λx=>x.F.sQ N) (A3.mpr λp m=>by obtain⟨y,I⟩:=Ah.mp (A3.mp A p m);exact adl _ (Ac y) _ (Ac hk) (BM _▸I)) q
def acJ(h:Hs τ ((C,mnO o b c s)::(s,AA [])::X) σ)(q:∀σ,Hs τ ((C,mnO o b c s)::(s,AA [W PY])::X) σ->Q A5 σ):M8 B (n+2) 750 [Av C,W PY] σ Q:=by
 refine ay H H<|aZ (h.at 0 H) H H H<|au H (bT _) (z:=W o) H<|aL<|cq ?_
 exact aZ (h.at 0 H) H H H<|aK (ai (h.at 1 H))<|av (h.at 1 H) ae<|q _<|h.upd 1 H _
def aeX{K:Kt}(h:Hs σ [(d+1,mnO o b c s),(s,AA []),(c,AA []),(b,AA []),(d,CK (d+1))] τ)(k:∀y τ,(Keeps σ τ/\Re τ σ (Av (d+1)) (mnV o))->K.nx [NG (d+1),U (B6 (Vl o).d),y] τ):
  forL (Na (n+3) 58 mnF) (O2 (n+3) 58 (Eg 2)) K [W PY] [NG (d+1),U (B6 (Vl o).d),Y] τ:=by
 exact cg<|bx (h.at 0 H) (k:=3) (f:=750) H H H<|acJ (n:=n+1) (X:=[(c,AA []),(b,AA []),(d,CK (d+1))]) h λN h=>k _ _ ⟨h.k,Re.ins (Q4.cons (Re.refl h.k) (Q4.cons (Re.lst .nil H (h.at 3 H) (h.h _ (A6 (i:=3) H)).2) (Q4.cons (Re.lst .nil H (h.at 2 H) (h.h _ (A6 (i:=2) H)).2) (Q4.cons (Re.lst (.cons (Re.refl h.k) .nil) H (h.at 1 H) (h.h _ (A6 (i:=1) H)).2) .nil)))) H (h.at 0 H) (h.h _ (A6 (i:=0) H)).2 (h.h _ (A6 (i:=4) H)).2⟩
def o4(q:Q (mnV o) σ):M8 B (n+5) 765 [B6 (Vl o).d] σ Q:=by
 refine Ny.tree<|zL (f:=743) (full:=[B6 (Vl o).d]) (Hs.nil (τ:=σ)) H H (λZ=>H) λd N h=>gN (h.at 0 H) H H<|aL ⟨Aq _,AN λb R=>?_⟩
 have h:=(h.upd 0 H (BZ 765 [(17,B6 (Vl o).d)])).new (o:=AA []) R;refine gN (h.at 1 H) H H<|aL ⟨Aq _,AN λc x=>?_⟩
 have h:=(h.upd 1 H (BZ 765 [(17,B6 (Vl o).d),(14,Av b)])).new (o:=AA []) x;refine gN (h.at 2 H) H H<|aL ⟨Aq _,AN λs A=>?_⟩
 have h:=(h.upd 2 H (BZ 765 [(17,B6 (Vl o).d),(14,Av b),(15,Av c)])).new (o:=AA []) A;refine gN (h.at 3 H) H H<|aL ?_
 generalize I:Nl (Na (n+3) 59) [] _=K;refine jS (ks:=[PY]) H H (Bc.mpr ⟨Ay,Cx⟩) ae ⟨Ac H,Aw (aeX (n:=n) ((h.upd 3 H (mnO o b c s)).perm (F5 (l₁:=[(s,AA []),(c,AA []),(b,AA [])]) (l₂:=[(d,CK (d+1))]))) λy τ g=>?_)⟩;subst I;exact⟨H,g.1,mnV o,g.2,q⟩
def Qx(o:M6):=[NU 2 0,NU 2 0,NU 2 1,NU 2 2,NU 2 (G (o.length+7))].flatten++[]++(NU 2 0++NU 2 0)++nul o++nul PY
end
section
variable{o:M6}
def uU(q:Q (BB [W PY]) σ):M8 B (n+1) 757 [mnV o] σ Q:=
 ay H H (cC H H H (cC H H H (bf H H ae ⟨Ac H,Aw (cC H H H (bf H H ae ⟨Ac H,Aw q⟩))⟩)))
def wX(N:o.length<=20000)(g:Hs σ (Vs C2 P2 [PY]++Vs C P [o]) τ)(q:Q (W (Qx o)) σ):
  (Nl (Na (n+4) 59) (Ph.body.drop 5) (RT λz τ=>Keeps σ τ/\Q z σ)).nx [U (mnV o),NT k,NG C,NG C2,N1 [],N1 (NU 2 0++NU 2 0),Y,Y,Y] τ:=by
 have I:([o].map nul).flatten.length=o.length+1:=by show(nul o++[]).length=_;rw[Ax,nul,Ad];rfl
 refine aL<|aZ (g.at 2 H) H H H<|aZ (g.at 0 H) H H H<|ff (N8 λk=>?_) ?_
 have k:G 32767<G (([o].map nul).flatten.length+6):=k;rw[I]at k;exact M9 (Aa (BN.mp k) (A7 N 7)) (by decide);refine aL<|cC H H H<|mtf (f:=757) H H H<|uU<|aL<|cC H H H<|cC H H H<|cC H H H ?_
 refine aZ (g.at 2 H) H H H<|aZ (g.at 0 H) H H H ⟨Ac H,Aw (aL (ck ?_))⟩
 have b2:∀{x} {Q} {σ},Q (W (NU 2 x)) σ->M8 B (n+4) 642 [Ar x,Zy 2] σ Q:=λq=>cK ae (lW 2) q;refine b2<|b2<|b2<|b2<|b2 ⟨Ac H,Aw (a7 (ps:=[NU 2 0,NU 2 0,NU 2 1,NU 2 2,NU 2 (G ([o].map nul).flatten.length+G 6)]) H ?_ (aL ?_))⟩
 exact Ac H;rw[ahc];refine ip ae ⟨Ac H,⟨Ac H,?_⟩⟩;have R:Hs σ (Vs C P [o]++Vs C2 P2 [PY]) τ:=g.perm C6;have A:([o].map nul).flatten=nul o:=Ax _;refine bx (R.at 0 H) H H H<|gv R ?_ ?_
 rw[I];exact Aa (AX N) ae;rw[A];refine⟨?_,bx (g.at 0 H) H H H (gv g ae ⟨?_,g.k,?_⟩)⟩;show 14+(nul o).length<=Nh;rw[nul,Ad];exact Aa (AU (AX N) 14) ae;rw[Ad];show 14+(nul o).length+6<=Nh;rw[nul,Ad];exact Aa (A7 (AU (AX N) 14) 6) ae;rw[show(nul o).length=o.length+1 from Ad];exact q
def acK(y:Oc o)(N:o.length<=20000)(q:Q (W (Qx o)) σ):M8 B (n+5) 762 [mnV o,Zy k] σ Q:=by
 refine Ny.cut<|ay H H<|cL (Hs.nil) λC P I g=>cL g λC2 x R g=>aL<|ck<|cC H H H ⟨Ac H,Aw (a7 (ps:=[]) H ae ?_)⟩
 refine aL<|ck<|cC H H H ⟨Ac H,Aw (a7 (ps:=[]) H ae (aL (ck (cC H H H (cC H H H ?_)))))⟩
 have g:=g.perm (C6 (l₂:=Vs C P []));refine nr g H H y ae ?_ λA g=>⟨Ac H,Aw (a7 (ps:=[NU 2 0]) H ae ⟨Ac H,aL ?_⟩)⟩;rw[List.nil_append,nul,Ad];exact Aa (AX N) ae;have g:=g.perm (C6 (l₁:=Vs C P [o]));refine ck<|mtf (f:=757) H H H<|uU<|bx (g.at 0 H) H H H<|jZ g (by decide:∀c∈PY,0<c/\c<256) ae ae λX g=>?_
 refine cK (k:=2) ae (lW 2) ⟨Ac H,Aw (a7 (ps:=[NU 2 0]) H ae ⟨Ac H,wX N g q⟩)⟩
def Pw(k:Nat):=cond (k==4) 542 282
def PZ(I:aT)(m k:Nat):=[NU 2 (G (Pw k)),NU 2 (G Tc.length),NU 2 2,NU 2 2,NU 2 (G m),NU 2 (G (tabOf (I.runs m)).length)].flatten
end
def Vm(I:aT)(a b m k:Nat):Option M6->M6
 |none=>PZ I m k++OR I a b m k
 |some o=>OX (PZ I m k++OR I a b m k)++Qx o
abbrev mnM:Option M6->Nu
 |none=>[]
 |some o=>Vl o
def wY:(PZ I m k).length=12:=rfl
def aap(h:gS I a b m)(A:k<=4):(OR I a b m k).length<=40000:=by obtain⟨X,N,_⟩:=oZ (l:=I.s) (Nv (kD kS) m) (ps:=[]);rw[gE]at X;have N:(tabOf (I.runs m)).length=0+I.s.R1 (Nv (kD kS) m):=N;have R:=h.ml;have C:=h.R1;delta OR;rw[Ad,Ad,Ad,(X:(I.runs m).1.flatten.length=2*m),N];show 28+(NU k _++(NU k _++[])).length+_+_<=_;rw[Ad,Ad,ee,ee];show 28+(k+(k+0))+_+_<=_;exact ax (Ao A (Ao A (Ao R (Ao R C)))) aS
def kz(o:M6):(nul o).length=o.length+1:=Ad
def rp{o:M6}:(Qx o).length=o.length+21:=by
 delta Qx;rw[Ad,Ad,kz];show 14+(o.length+1)+6=_
 lia
def aaq(o:M6):(OX o).length<=o.length+1:=by
 delta OX
 cases decide (o.length%2=1)
 exact B4 _;exact Ap Ad
section
variable{I:aT}{a b m k:Nat}{os:Option M6}
def lX(h:gS I a b m)(A:I.o=mnM os)(X:∀o,os=U o->Oc o/\o.length<=20000)(y:k=2\/k=4)(q:Q (W (Vm I a b m k os)) σ):
  (Nl (Na (n+6) 61) (Rp.body.drop 3) (RT Q)).nx [U I.v,x2,NT k,U (BB [Zy Tc.length,Zy 2,Zy 2,Zy m,Zy (tabOf (I.runs m)).length]),N1 (OR I a b m k),NT (Pw k)] σ:=by
 have b2:∀{x} {Q} {σ},Q (W (NU 2 x)) σ->M8 B (n+6) 642 [Ar x,Zy 2] σ Q:=λq=>cK ae (lW 2) q;refine aL<|ck ⟨Ac H,Aw (bf H H ae ⟨Ac H,Aw (b2 (b2 (b2 (b2 (b2 (b2 ⟨Ac H,Aw ?_⟩))))))⟩)⟩
 refine a7 (ps:=[NU 2 (G (Pw k)),NU 2 (G Tc.length),NU 2 2,NU 2 2,NU 2 (G m),NU 2 (G (tabOf (I.runs m)).length)]) H ae ?_;rw[ahc]
 have N:(PZ I m k++OR I a b m k).length<=40012:=by rw[Ad,wY];exact ax (aap h (show k<=4 by rcases y with rfl|rfl<;>decide)) aS
 refine⟨(Ad▸Aa N (show 40012<=Nh by decide):(PZ I m k).length+(OR I a b m k).length<=Nh),aL (cC H H H ⟨H,Aq _,Aw (kb H H ?_)⟩)⟩;show br (I.o.d.isEmpty) _ _;rw[A]
 cases os with
 |none=>exact q
 |some o=>
  obtain⟨C,R⟩:=X o H;refine ip (Al N ae)<|cC H H H ?_
  rw[show I.Pc.t.o=(Vl o).d from M7 Nu.d A];refine o4<|mtf H H H<|acK C R ⟨?_,q⟩
  rw[rp];exact Aa (Ao (Aa (aaq _) (AX N)) (A7 R 21)) ae
def lY(h:gS I a b m)(N:I.o=mnM os)(R:∀o,os=U o->Oc o/\o.length<=20000)(q:Q (W (Vm I a b m (cond w 4 2) os)) σ):M8 B (n+7) 775 [I.v,Bm w] σ Q:=by
 cases w with
 |true=>exact ay H H<|o3 (AN H) h<|aL<|lX h N R (AN H) q
 |false=>exact ay H H<|o3 (Aw H) h<|aL<|lX h N R (Aw H) q
abbrev brO(o:M6)(a:Nat):=BZ 834 [(0,W o),(1,Zy a)]
end
structure Rb (τ:M5) (R:AG) (o:M6) (a:Nat) (r:M6) (X:Ox) (σ:M5):Prop where
 h:Hs τ ((R,brO o a)::X) σ
 d:o.drop a=r
 a:a<=o.length
section
variable{R:AG}{o p r:M6}{a:Nat}{X:Ox}
def Rb.step(h:Rb τ R o a (p++r) X σ):o.drop (a+p.length)=r/\a+p.length<=o.length:=by
 have e:o.length-a=p.length+r.length:=by rw[<-Cz,h.d,Ad]
 refine⟨?_,Nat.add_le_of_le_sub' h.a (e▸AD ..)⟩;rw[<-HR,h.d];exact FP
def wZ(h:Hs τ X σ)(q:∀R σ,Rb τ R o 0 o X σ->Q (Av R) σ):M8 B (n+3) 834 [W o] σ Q:=by refine zL (f:=789) (full:=[W o]) h H H (λZ=>H) λd σ h=>(gN (h.at 0 H) H H (aL ?_));have h:=h.upd 0 H (BZ 834 [(0,W o)]);exact gN (h.at 0 H) H H ⟨H,q _ _ ⟨(h.upd 0 H (brO o 0)).sub (DL _ (Et ..)),H,Aq _⟩⟩
def gF(h:Rb τ R o a (p++r) X σ)(e:p.length=k)(q:∀σ,Rb τ R o (a+k) r X σ->Q (W p) σ):M8 B (n+1) 796 [Av R,Zy k] σ Q:=by
 subst e;obtain⟨I,N⟩:=h.step;refine ay H H<|aZ (h.h.at 0 H) H H H<|aZ (h.h.at 0 H) H H H<|ff (N8 λc=>?_) ?_
 exact M9 (BN.mp c:o.length<a+p.length)<|Fs.mpr N
 refine aL<|aZ (h.h.at 0 H) H H H<|gN (h.h.at 0 H) H H<|aL ?_
 have g:=h.h.upd 0 H (brO o (a+p.length));refine aZ (g.at 0 H) H H H<|aZ (g.at 0 H) H H H<|aZ (g.at 0 H) H H H<|aM (M7 (λi=>U (U i)) (D6 .. :(G a+G p.length-G p.length:Int)=G a)) H ?_
 rw[eU,h.d,HN];exact q _ ⟨g,I,N⟩
def iq(h:Rb τ R o a (NU k x++r) X σ)(I:k=2\/k=4)(N: -(2^(8*k-1))<=x/\x<2^(8*k-1))(q:∀σ,Rb τ R o (a+k) r X σ->Q (Ar x) σ):M8 B (n+2) 803 [Av R,Zy k] σ Q:=by exact ay H H<|bx (h.h.at 0 H) H H H<|gF h (ee k x) λσ h=>acE I N<|q σ h
def bK(h:Rb τ R o a (NU 2 (G x)++r) X σ)(N:x<=32767)(q:∀σ,Rb τ R o (a+2) r X σ->Q (Zy x) σ):M8 B (n+3) 810 [Av R] σ Q:=by
 refine ay H H<|bx (h.h.at 0 H) H H H<|iq h (Aw H) ⟨?_,?_⟩ λσ h=>?_
 exact Bv aG<|AW x
 exact BN.mpr<|Nat.lt_succ_of_le N
 exact aL<|q σ h
def PH(a:Nat):=cond (decide (a%2=1)) [0] []
def w0(o:M6):OX o=o++PH o.length:=by
 delta OX PH
 cases decide (o.length%2=1)
 exact(Ax o).symm
 rfl
end
def Hs.adE{τ σ:M5}(h:Hs τ ((a,o)::L) σ):Hs τ L (σ.del a):=by refine⟨λb x e=>(M5.eX λn=>nomatch (n▸e).symm.trans (h.h _ As).2).trans (h.k b x e),λp m=>⟨(M5.eX λn=>(Bc.mp h.nd).1 (A0.mpr ⟨p,m,n⟩)).trans (h.h p (Au _ m)).1,(h.h p (Au _ m)).2⟩,(Bc.mp h.nd).2⟩
abbrev rbF:=Om (OC.body.drop 1)
abbrev rvF:=Om (OP.body.drop 1)
def SM(k:Nat):=A8 k (Bm J)
section
variable{R A:AG}{o p r:M6}{a:Nat}{X:Ox}
def Rb.new(h:Rb τ R o a r X σ)(N:σ A=Y):Rb τ R o a r ((A,w)::X) (σ.set A w):=⟨(h.h.new N).perm (CS ..),h.d,h.a⟩
def Rb.up(h:Rb τ R o a r ((A,w)::X) σ):Rb τ R o a r ((A,N)::X) (σ.set A N):=⟨h.h.upd 1 H N,h.d,h.a⟩
def Rb.out(h:Rb τ R o a r ((A,AA l)::X) σ)(q:∀σ,Rb τ R o a r X σ->Q (BB l) σ):∃z N,NN σ N (Av A) z/\Q z N:=
 ⟨_,_,NN.lst (h.h.at 1 H),q _ ⟨(h.h.perm (CS ..)).adE,h.d,h.a⟩⟩
def acL{K:Kt}:∀k {vs} {z} {σ},vs.length+k<=1000->Rb τ R o a r ((A,AA vs)::X) σ->(∀z σ,Rb τ R o a r ((A,AA (vs++SM k))::X) σ->K.nx [x,y,NG A,z] σ)->
  forL (Na (n+1) 61 rbF) (O2 (n+1) 61 (Eg 3)) K (N9 (A8 k 1)) [x,y,NG A,z] σ:=λk=>by
 induction k with
 |zero=>intro vs z σ _ h q;have:=q z σ;rw[show vs++SM 0=vs from Ax vs]at this;exact this h
 |succ k I=>
  intro vs z σ N h q;rw[Ic];refine cg<|cO H<|aL<|aK (ai (h.h.at 1 H))<|av (h.h.at 1 H) (Al (by exact ax N aS:vs.length<=1000) ae) ?_
  refine I (by rw[Ad];show vs.length+1+k<=_;exact ax N aS) h.up λz σ h=>?_;rw[Ag]at h;exact q z σ h
def acM(C:k=2\/k=4){K:Kt}:∀(xs:List Int) (zs:LV) {a:Nat} {vs:LV} {y z:OV} {σ:M5},zs.length=xs.length->vs.length+xs.length<=1000->(∀x∈xs,-2<=x/\x<2^(8*k-1))->Rb τ R o a ((xs.map (NU k)).flatten++r) ((A,AA vs)::X) σ->(∀y z σ,Rb τ R o (a+k*xs.length) r ((A,AA (vs++xs.map Ar))::X) σ->K.nx [NG R,m,NT k,NG A,y,z] σ)->
  forL (Na (n+3) 61 rvF) (O2 (n+3) 61 (Eg 4)) K zs [NG R,m,NT k,NG A,y,z] σ:=λxs=>by
 induction xs with
 |nil=>intro zs a vs y z σ e _ _ h q;obtain rfl:=List.eq_nil_of_length_eq_zero e;have:=q y z σ;rw[show vs++CC Ar []=vs from Ax vs]at this;exact this h
 |cons x xs ih=>
  intro zs a vs y z σ e N hx h q
  match zs,e with
  |w::zs,e=>
   obtain⟨I,x2⟩:=Ae.mp hx;have N:vs.length+(xs.length+1)<=1000:=N;have h:Rb τ R o a ((NU k x++(xs.map (NU k)).flatten)++r) ((A,AA vs)::X) σ:=h;rw[Ag]at h;refine cg<|bx (h.h.at 0 H) H H H<|iq h C ⟨Bv ?_ I.1,I.2⟩ λσ h=>?_
   rcases C with rfl|rfl<;>decide
   refine aL<|ff (N8 (CI.mpr I.1))<|aL<|aK (ai (h.h.at 1 H))<|av (h.h.at 1 H) (Al (by exact ax N aS:vs.length<=1000) ae) ?_
   refine ih zs (CV e) (by rw[Ad];show vs.length+1+xs.length<=_;exact ax N aS) x2 h.up λy z σ h=>?_;rw[Ag]at h;refine q y z σ ?_;rw[show a+k*(x::xs).length=a+k+k*xs.length by rw[Bn,Nat.mul_add];lia];exact h
def lZ(h:Rb τ R o a (PH a++r) X σ)(q:∀σ,Rb τ R o (a+(PH a).length) r X σ->Q A5 σ):M8 B (n+2) 817 [Av R] σ Q:=by
 refine ay H H<|aZ (h.h.at 0 H) H H H ⟨by decide,?_⟩
 by_cases c:a%2=1
 ·have e:PH a=[0]:=by delta PH;rw[N5 c];rfl
  rw[e]at h q;exact tt (N5 (uQ.mpr c))<|bx (h.h.at 0 H) H H H<|gF h H λσ h=>q σ h
 have e:PH a=[]:=by delta PH;rw[N8 c];rfl
 rw[e]at h q;exact ff (N8 λh=>c (uQ.mp h))<|q σ h
def j0(h:Rb τ R o a (A8 k 1++r) X σ)(C:k<=900)(q:∀σ,Rb τ R o (a+k) r X σ->Q (BB (SM k)) σ):M8 B (n+3) 824 [Av R,Zy k] σ Q:=by
 refine Ny.post<|ay H H ⟨Aq _,AN λA I=>aL ?_⟩
 generalize N:Nl (Na (n+2) 62) _ _=K;have h:=h.new (w:=AA []) I;refine bx (h.h.at 0 H) (k:=8) (f:=796) H H H<|gF (n:=n+1) h (Cs ..) λσ h=>acL (n:=n+1) k (vs:=[]) (Aa (Ap (A1 _)) (Aa C ae)) h λz σ h=>?_
 subst N;exact h.out q
def eW{xs:List Int}(hk:k=2\/k=4)(h:Rb τ R o a ((xs.map (NU k)).flatten++r) X σ)(N:xs.length<=1000)(I:∀x∈xs,-2<=x/\x<2^(8*k-1))(q:∀σ,Rb τ R o (a+k*xs.length) r X σ->Q (BB (xs.map Ar)) σ):M8 B (n+4) 831 [Av R,Zy xs.length,Zy k] σ Q:=by
 refine Ny.post<|ay H H ⟨Aq _,AN λA hA=>aL ?_⟩
 generalize C:Nl (Na (n+3) 62) _ _=K;refine⟨⟨AW _,Bq.mpr (Aa N ae)⟩,acM hk xs (OS (G xs.length)) dy (Aa (Ap (A1 _)) N) I (h.new hA) λy z σ h=>?_⟩;subst C;exact h.out q
def acN(b:Ot)(t:Tok)(i:Int)(u:Tok):Gives (Builtin.«bytes.__ne__» ⟨[AF b t,By i u],[]⟩) (.val (Eb)):=
 F8 λM A E s Q h=>by obtain⟨I,g,d,C,y⟩:=s;have N:=FF;wp_walk;exact⟨_,H,h⟩
def acO(b:Ot)(t:Tok)(i:Int)(u:Tok):Gives (Builtin.«int.__ne__» ⟨[By i u,AF b t],[]⟩) (.val (Eb)):=
 F8 λM A E s Q h=>by obtain⟨N,g,d,I,C⟩:=s;wp_walk;exact⟨_,H,h⟩
variable{c:Bool->M5->Prop}{i:Int}
def rq(q:c Am σ):OT B n EN (W o) (Ar i) σ c:=
 cM (λs v u I N=>by obtain⟨b,t,rfl,_,_⟩:=aq.inv I;obtain⟨C,rfl⟩:=aq.inv N;exactλA s Q q=>ja q) q
def rr(q:c J σ):OT B n Er (W o) (Ar i) σ c:=
 cM (λs v u y C=>by
  obtain⟨b,t,rfl,_,_⟩:=aq.inv y;obtain⟨N,rfl⟩:=aq.inv C
  exactλA s Q q=>EqNone.wpAny_richCompare_ne_decline (k:=Am) (λI=>C5 I b t) (λI=>FQ I i N) H FF FB.slot_bytes_ne Kc H
   (Fb FB.slot_bytes_ne (C5 s b t) FB.entry_bytes_ne (FB.args_bytes_ne_2 _ _) (acN b t i N)
    ⟨H,Fb Kc (FQ s i N) PySem.F.entry_int_ne (PySem.F.args_int_ne_2 _ _) (acO b t i N) ⟨H,q⟩⟩)) q
end
def aar:∀{o r},Oc o->(o++0::r).findIdx? (· ==0)=U o.length:=λ{o}=>by
 induction o with
 |nil=>exactλZ=>H
 |cons c o I=>intro r h;obtain⟨R,N⟩:=Ae.mp h;rw[Em,C9,show(c==0)=Am from beq_eq_false_iff_ne.mpr (CR R.1)];show Fg _ ((o++0::r).findIdx? _)=_;rw[I N];rfl
section
variable{T o r w:M6}{k:Nat}{D:AG}{X:Ox}{l:Nu}{at':V}
def ir(N:T.drop k=o++0::r)(I:Oc o)(q:Q (W o) σ):M8 B (n+2) 845 [W T,Zy k,at'] σ Q:=by
 have R:=JU λc=>by
  rw[Ds c]at N
  cases o<;>exact nomatch N
 refine ay H H<|tt (N5 (BN.mpr R))<|ah1<|mW ?_
 rw[(by delta SH;rw[N,aar I];rfl:SH 0 T k=G (k+o.length))];refine aL<|aL<|aM H H ?_
 rw[eU,N,HN];exact q
end
def ND(l:Nu):Ni->LV->List Int
 |_,[]=>[]
 |ps,y::ys=>match l.fld y with
  |some o=>G (ps.map nul).flatten.length::ND l (ps++[o]) ys
  |none=> -1::ND l ps ys
def TJ(l:Nu)(y:V):Option (M6×Fv):=match y with
 |.bytes w=>(l.fld y).map λo=>(w,F1 o)
 |_=>Y
def l7(l:Nu):∀ys ps,(PG (OM l) ps ys).1=(ND l ps ys).map (NU 2)/\(PG (OM l) ps ys).2=ps++ys.filterMap l.fld:=λys=>by
 induction ys with
 |nil=>exactλps=>⟨H,(Ax ps).symm⟩
 |cons y ys I=>
  intro ps;show(OM l ps y).1::(PG (OM l) (OM l ps y).2 ys).1=_/\(PG (OM l) (OM l ps y).2 ys).2=_;obtain⟨R,N⟩:=I (OM l ps y).2
  rw[R,N,Cj,show ND l ps (y::ys)=match l.fld y with
   |some o=>G (ps.map nul).flatten.length::ND l (ps++[o]) ys
   |none=> -1::ND l ps ys from H]
  delta OM
  cases l.fld y with
  |none=>exact⟨H,H⟩
  |some o=>exact⟨H,(Ag ..)⟩
abbrev bsF:=Om PU.body
section
variable{T o r w:M6}{k i:Nat}{D:AG}{L X:Ox}{l acc:Nu}{at' d:V}
def tH(q:Q A5 σ):M8 B (n+2) 852 [d,A5,v] σ Q:=ay H H q
def tJ(q:Q A5 σ):M8 B (n+2) 852 [d,W w,Ar (-1)] σ Q:=ay H H q
def ru(h:Hs τ L σ)(e:L[i]?=U (D,AE acc.d))(I:acc.has w=Am)(R:acc.length<1000)(q:∀σ,Hs τ (L.set i (D,AE (Nu.d (acc++[(w,F1 o)])))) σ->Q A5 σ):M8 B (n+2) 852 [Av D,W w,W o] σ Q:=by
 refine ay H H<|rr<|rq<|aJ (h.at i e) (bT _) ?_<|q _ ?_
 exact Al (Aa (Ap (Ak ..)) (B3 R)) ae;have N:NX (W w) (W o) acc.d=_:=gA (f:=F1 o) I;rw[N];exact h.upd i e _
def rx(h:Hs τ L σ)(e:L[i]?=U (D,AE acc.d))(I:acc.has w=Am)(R:acc.length<1000)(q:∀σ,Hs τ (L.set i (D,AE (Nu.d (acc++[(w,Ed m)])))) σ->Q A5 σ):M8 B (n+2) 852 [Av D,W w,Zy m] σ Q:=by
 refine ay H H<|aJ (h.at i e) (bT _) ?_<|q _ ?_
 exact Al (Aa (Ap (Ak ..)) (B3 R)) ae;have N:NX (W w) (Zy m) acc.d=_:=gA (f:=Ed m) I;rw[N];exact h.upd i e _
variable{x1 x2:OV}{x4:V}
def kA{N:NF->M5->Kt->Prop}{K:Kt}(h:N (NM (NM ρ R A) I C) σ (T7 (forL N (O2 m (k+4) (.tup [.nm R,.nm I])) K zs) K)):forL N (O2 m (k+4) (.tup [.nm R,.nm I])) K (.tup [A,C]::zs) ρ σ:=h
def aas{K:Kt}:∀(ys:LV) {ps} {acc:Nu} {L} {σ} {N A I},T=(ps.map nul).flatten++(((ys.filterMap l.fld).map nul).flatten++r)->(∀y∈ys,UG l y)->((acc++ys.filterMap (TJ l)).map Az).Nodup->acc.length+ys.length<=900->Hs τ L σ->L[i]?=U (D,.dict acc.d)->
  (∀σ N A I,Hs τ (L.set i (D,.dict (Nu.d (acc++ys.filterMap (TJ l))))) σ->K.nx [U (.ref D),x1,x2,U (.bytes T),U x4,N,A,I] σ)->
  forL (Na (n+3) 62 bsF) (O2 (n+3) 62 (.tup [.nm 5,.nm 6])) K (TN ys ((ND l ps ys).map .int)) [U (.ref D),x1,x2,U (.bytes T),U x4,N,A,I] σ:=λys=>by
 induction ys with
 |nil=>intro ps acc L σ N A I _ _ _ _ h e q;have:=q σ N A I;rw[show acc++List.filterMap (TJ l) []=acc from Ax acc,ahA e]at this;exact this h
 |cons y ys ih=>
  intro ps acc L σ N A I R hn x hl h e q;obtain⟨n1,n2⟩:=Ae.mp hn;have hl:acc.length+(ys.length+1)<=900:=hl;rcases n1 with n1|⟨w,o,rfl,h1,h2,h3⟩
  ·have C:l.fld y=Y/\TJ l y=Y:=by
    rcases n1 with rfl|⟨w,rfl,hw⟩
    exact⟨H,H⟩;have:l.fld (.bytes w)=Y:=by delta Nu.fld;dsimp only;rw[(lT hw).2]
    exact⟨this,M7 (Fg _) this⟩
   have ep:ND l ps (y::ys)= -1::ND l ps ys:=by show(match l.fld y with|some o=>_|none=>_)=_;rw[C.1]
   rw[Cj,C.2]at x q;rw[Cj,C.1]at R;rw[ep];refine kA<|aL ?_
   rcases n1 with rfl|⟨w,rfl,hw⟩
   exact tH (n:=n+1)<|ih R n2 x (DR hl) h e q
   exact tJ (n:=n+1)<|ih R n2 x (DR hl) h e q
  have C:l.fld (.bytes w)=U o:=by delta Nu.fld;dsimp only;rw[h2]
  have e2:TJ l (.bytes w)=U (w,.str o):=M7 (Fg _) C
  have ep:ND l ps (.bytes w::ys)=.ofNat (ps.map nul).flatten.length::ND l (ps++[o]) ys:=by show(match l.fld (.bytes w)with|some o=>_|none=>_)=_;rw[C]
  rw[Cj,e2]at x q;rw[Cj,C]at R;rw[ep];have R:T=(ps.map nul).flatten++((nul o++((ys.filterMap l.fld).map nul).flatten)++r):=R;have e3:∀z,acc++(w,F1 o)::z=(acc++[(w,.str o)])++z:=λz=>(Ag acc [(w,F1 o)] z).symm
  have hw:acc.has w=Am:=Bp.mpr λc=>by rw[AS]at x;exact(Dq.mp x).2.2 w (cZ.mp c) w (A0.mpr ⟨_,As,H⟩) H
  refine kA<|ir (n:=n+1) (o:=o) (r:=((ys.filterMap l.fld).map nul).flatten++r) ?_ h3<|aL ?_
  rw[R,FP];show((o++[0])++_)++r=_;rw[Ag,Ag];rfl;refine ru (n:=n+1) h e hw (by exact ax hl aS) λσ h=>(ih (acc:=acc++[(w,.str o)]) ?_ n2 (by rw[<-e3];exact x) (by rw[Ad,BW];exact hl) h ?_ λσ N A I h=>?_)
  rewrite[gu,R,Ag,Ag];rfl
  exact FO (BI.mp e).1;rw[LC,<-e3]at h;exact q σ N A I h
abbrev flF:=Om QK.body
end
section
variable{T r:M6}{k i:Nat}{D:AG}{L:Ox}{l acc:Nu}{x4:V}
def j3{ys:LV}{ps:Ni}(N:T=(ps.map nul).flatten++(((ys.filterMap l.fld).map nul).flatten++r))(A:∀y∈ys,UG l y)(R:((acc++ys.filterMap (TJ l)).map Az).Nodup)(X:acc.length+ys.length<=900)(h:Hs τ L σ)(e:L[i]?=U (D,AE acc.d))
  (q:∀σ,Hs τ (L.set i (D,AE (Nu.d (acc++ys.filterMap (TJ l))))) σ->Q A5 σ):M8 B (n+4) 866 [Av D,BB ys,BB ((ND l ps ys).map Ar),W T,x4] σ Q:=by
 refine ay H H ?_;generalize I:Nl (Na (n+3) 63) [] _=K;refine aas ys N A R X h e λσ x x6 C h=>?_;subst I;exact q σ h
def acP{K:Kt}:∀(ws:Ni) {acc:Nu} {L:Ox} {σ:M5} {N x4:OV},((acc++ws.map λw=>(w,DX)).map Az).Nodup->acc.length+ws.length<=900->Hs τ L σ->L[i]?=U (D,.dict acc.d)->
  (∀σ N x4,Hs τ (L.set i (D,.dict (Nu.d (acc++ws.map λw=>(w,DX))))) σ->K.nx [U (.ref D),x,C,N,x4] σ)->
  forL (Na (n+1) 62 flF) (O2 (n+1) 62 (.tup [.nm 3,.nm 4])) K (TN (ws.map .bytes) (SM ws.length)) [U (.ref D),x,C,N,x4] σ:=λws=>by
 induction ws with
 |nil=>intro acc L σ N x4 _ _ h e q;have:=q σ N x4;rw[show acc++CC (λw=>(w,DX)) []=acc from Ax acc,ahA e]at this;exact this h
 |cons w ws y=>
  intro acc L σ N x4 I R h e q;have R:acc.length+(ws.length+1)<=900:=R;have A:∀z,acc++(w,DX)::z=(acc++[(w,.yes)])++z:=λz=>(Ag acc [(w,DX)] z).symm
  have hw:acc.has w=Am:=Bp.mpr λc=>by rw[AS]at I;exact(Dq.mp I).2.2 w (cZ.mp c) w (A0.mpr ⟨_,As,H⟩) H
  have X:NX (.bytes w) (.bool J) acc.d=_:=gA (f:=.yes) hw;refine kA<|jW<|aJ (h.at i e) (bT _) (Al (Aa (Ap (Ak ..)) (by exact ax R aS:acc.length<=900)) ae) ?_
  have h:=h.upd i e (.dict (NX (.bytes w) (.bool J) acc.d));rw[X]at h⊢;refine y (acc:=acc++[(w,.yes)]) (by rw[<-A];exact I) (by rw[Ad];show acc.length+1+ws.length<=_;exact ax R aS) h ?_ λσ N x4 h=>?_;exact FO (BI.mp e).1;rw[LC,<-A]at h;exact q σ N x4 h
def nt{ws:Ni}(R:ws.Nodup)(I:ws.length<=900)(h:Hs τ L σ)(e:L[i]?=U (D,AE []))(q:∀σ,Hs τ (L.set i (D,AE (Nu.d (ws.map λw=>(w,DX))))) σ->Q A5 σ):M8 B (n+2) 859 [Av D,BB (ws.map W),BB (SM ws.length)] σ Q:=by refine ay H H ?_;generalize N:Nl (Na (n+1) 63) [] _=K;refine acP ws (acc:=[]) ?_ (Aa (Ap (A1 _)) I) h e λσ A x4 h=>?_;show((ws.map λw=>(w,DX)).map Az).Nodup;rw[Bo];exact(HP ws).symm▸R;subst N;exact q σ h
def w5(q:Q (BB [W OF,W NV]) σ):M8 B (n+2) 878 [W Tc,x4] σ Q:=by
 refine ay H H<|aM H H ?_
 rw[show NP Tc (U (-1)) Y=[0] by decide];refine aM H H ?_;rw[show NP Tc Y (U (-1))=NJ [124] [OF,NV] by decide];refine aL<|aM H H ?_
 rw[show NP Tc Y (U (-1))=NJ [124] [OF,NV] by decide];refine ahz<|dD ?_
 rw[show NY 124 (NJ [124] [OF,NV])=[OF,NV] by decide+kernel];exact⟨Ac H,Aw q⟩
abbrev rmF:=Om (Pt.body.drop 10)
def Wo(o:M6):=nul o++nul PY
abbrev rmC(o:M6):=BB [Zy 0,Zy 0,Zy 1,Zy 2,Zy (o.length+7)]
def aeY:Oc PY:=by show∀c∈PY,0<c/\c<256;decide
def acQ{o:M6}:(Wo o).length=o.length+7:=by rw[Ad,kz];rfl
variable{R:AG}{o:M6}{a:Nat}{X:Ox}{x1 xn:OV}
def aeZ(ho:Oc o)(h:Rb τ R T a r X σ)(q:∀σ,Rb τ R T a r X σ->Q (B6 (Vl o).d) σ):
  (Nl (Na (n+4) 52) (Pt.body.drop 12) (RT λu y=>∃z N,NN y N u z/\Q z N)).nx [U (Av R),x1,U (rmC o),U (Zy 1),U (BB []),U (BB []),U (BB [Zy 0]),U (BB [Zy 0]),U x,U (W (Wo o)),U (Zy (o.length+1)),x11,U (BB [W PY]),A,Y,x15] σ:=by
 refine aL<|jN H H ⟨Ac H,Aw ?_⟩
 refine d5 (d:=[(W PY,Bm J)]) H H (show 1<=Nh by decide) ⟨show 1<=Nh by decide,Aw ?_⟩;refine aL ⟨H,Aq _,AN λD C=>aL ?_⟩;have h:=h.new (w:=AE []) C;refine ah H H<|cP H H H ⟨Aq _,Aw (nt (n:=n+2) (ws:=[]) Cx (Aq _) h.h (i:=1) H λI g=>aL (ah H H (cP H H H ⟨show 1<=Nh by decide,Aw (aL ?_)⟩)))⟩
 refine ah H H<|ah H H<|cP H H H ⟨show 1<=Nh by decide,Aw ?_⟩
 refine j3 (n:=n) (l:=Vl o) (acc:=[]) (ys:=[W PY]) (ps:=[]) (r:=nul PY) (T:=Wo o) (i:=1) ?_ ?_ ?_ ae g H λI g=>?_;show nul o++nul PY=[]++((nul o++[])++nul PY);rw[Ax];rfl;exact Ae.mpr ⟨AN ⟨PY,o,H,H,H,ho⟩,λZ m=>M9 m Ay⟩;exact Bc.mpr ⟨Ay,Cx⟩;exact aL ((⟨_,_,NN.di (g.at 1 H),q _ ⟨(g.perm (CS ..)).adE,h.d,h.a⟩⟩):∃z N,NN I N (Av D) z/\Q z N)
def ae0(hz:zs=[Zy 0])(ho:Oc o)(h:Rb τ R T a (Wo o++r) X σ)(q:∀σ,Rb τ R T (a+(o.length+7)) r X σ->Q (.di (Vl o).d) σ):
  (Nl (Na (n+4) 55) (Pt.body.drop 9) (RT λu υ=>∃z x,NN υ x u z/\Q z x)).nx [U (.ref R),x1,U (rmC o),U (Zy 1),U (.lst []),U (.lst []),U (.lst zs),U (.lst [Zy 0]),x8,x9,x10,y,A,I,Y,C] σ:=by
 refine aL<|aZ (h.h.at 0 H) H H H<|bx (h.h.at 0 H) (k:=8) (f:=796) H H H<|ah H H<|gF (n:=n+3) h acQ λσ h=>aL ?_
 generalize hK:Nl (Na (n+4) 53) _ _=K
 have N:forL (Na (n+4) 52 rmF) (O2 (n+4) 52 (.nm 11)) K zs [U (.ref R),x1,U (rmC o),U (Zy 1),U (.lst []),U (.lst []),U (.lst zs),U (.lst [Zy 0]),U (Zy a),U (.bytes (Wo o)),U (Zy 0),y,A,I,Y,C] σ:=by
  subst hz;refine cg<|ir (n:=n+2) (T:=Wo o) (k:=0) (o:=o) (by delta Wo;rw[nul,Ag];rfl:Wo o=o++0::nul PY) ho<|qv ?_
  have e1:max (G 0) (G 0+G o.length+1)=G (o.length+1):=M7 (λn=>G (n+1)) (A1 o.length)
  have G2:K.nx [U (.ref R),x1,U (rmC o),U (Zy 1),U (.lst []),U (.lst []),U (.lst [Zy 0]),U (.lst [Zy 0]),U (Zy a),U (.bytes (Wo o)),U (.int (max (G 0) (G 0+G o.length+1))),U (Zy 0),A,I,Y,C] σ:=by
   rw[e1];subst hK;refine aL<|ir (n:=n+2) (T:=Wo o) (k:=o.length+1) (o:=PY) (r:=[]) ?_ aeY ⟨Ac H,.inl ?_⟩
   delta Wo;rw[<-kz,FP];rfl;exact aeZ (n:=n) ho h q
  exact G2
 exact N
def tK(o:M6):Qx o=NU 2 (G 0)++(NU 2 (G 0)++(NU 2 (G 1)++(NU 2 (G 2)++(NU 2 (G (o.length+7))++(([(0:Int)].map (NU 2)).flatten++(([(0:Int)].map (NU 2)).flatten++Wo o)))))):=by delta Qx Wo;rw[Ag _ (nul o)];rfl
end
def w6:(a+(PH a).length)%2=0:=by
 delta PH
 by_cases h:a%2=1
 rw[N5 h];show(a+1)%2=0;rw[Nat.add_mod,h];rw[N8 h];exact(Nat.mod_two_eq_zero_or_one a).resolve_right h
def acR(h:a%2=0):PH a=[]:=by delta PH;rw[N8 (by exactλN=>DO 0 (ax (Ao (Ap N.symm) (Ap h)) aS):¬a%2=1)];rfl
section
variable{R:AG}{T r o:M6}{a k:Nat}{X:Ox}
def o5(I:k=2\/k=4)(A:Oc o)(N:o.length<=20000)(h:Rb τ R T a (PH a++(Qx o++r)) X σ)(q:∀σ b,Rb τ R T b r X σ->Q (B6 (Vl o).d) σ):M8 B (n+5) 883 [Av R,Zy k] σ Q:=by
 rw[tK]at h;simp only[Ag]at h;refine Ny.post<|ay H H<|bx (h.h.at 0 H) (k:=17) (f:=817) H H H<|lZ (n:=n+2) h λσ h=>aL<|⟨by decide,⟨⟨by decide,by decide⟩,?_⟩⟩
 refine bx (h.h.at 0 H) (k:=22) (f:=810) H H H<|bK (n:=n+1) h ae λσ h=>bx (h.h.at 0 H) (k:=22) (f:=810) H H H<|bK (n:=n+1) h ae λσ h=>?_
 refine bx (h.h.at 0 H) (k:=22) (f:=810) H H H<|bK (n:=n+1) h ae λσ h=>bx (h.h.at 0 H) (k:=22) (f:=810) H H H<|bK (n:=n+1) h ae λσ h=>?_
 refine bx (h.h.at 0 H) (k:=22) (f:=810) H H H<|bK (n:=n+1) h (Aa (A7 N 7) ae) λσ h=>⟨Ac H,Aw (aL (ah H H (ah H H (ah H H (aL ?_)))))⟩
 refine ah H H<|ah H H<|aL<|bx (h.h.at 0 H) (k:=23) (f:=824) H H H<|ah H H<|j0 (n:=n+1) (k:=0) h ae λσ h=>aL ?_
 have e:PH (a+(PH a).length+2+2+2+2+2+0)=[]:=acR ((Nat.add_mul_mod_self_right _ 5 2).trans w6);refine bx (h.h.at 0 H) (k:=17) (f:=817) H H H<|lZ (n:=n+2) (show Rb τ R T _ (PH _++_) X σ by rw[e];exact h) λσ h=>aL ?_
 refine bx (h.h.at 0 H) (k:=9) (f:=831) H H H<|ah H H<|eW (n:=n) (xs:=[]) I h ae (λZ m=>M9 m Ay) λσ h=>aL<|bx (h.h.at 0 H) (k:=9) (f:=831) H H H<|ah H H<|eW (n:=n) (k:=2) (xs:=[0]) (Aw H) h ae aG λσ h=>aL ?_
 exact bx (h.h.at 0 H) (k:=9) (f:=831) H H H<|eW (n:=n) (k:=2) (xs:=[0]) (Aw H) h ae aG λσ h=>ae0 (n:=n) (zs:=[Zy 0]) H A h λσ h=>q σ _ h
abbrev rnF:=Om (NK.body.drop 13)
abbrev bnI(l:Nu)(os:Option M6)(x y m:Nat):aT:=⟨[OF,NV],[(UM,DX),(UL,DX)],[(OQ,Ed x),(UK,Ed y)],(Nv (kD kS) m).filterMap (TJ l),mnM os,[]⟩
end
def P8(a:Nat):Option M6->M6
 |none=>[]
 |some o=>PH a++(Qx o++[])
section
variable{R E N d0 d1 d2 d3 M d:AG}{T r o:M6}{a k m x y:Nat}{l:Nu}{os:Option M6}{x2 x5 x6 x7 x8 x9 x12 x15 x16:OV}{x13 x0:V}{cs:V}{l0 l1 l2:Nu}
abbrev Xl(R E N d0 d1 d2 d3 M d:AG)(T:M6)(a:Nat)(v3:V)(l0 l1 l2:Nu):Ox:=[(E,BZ 471 [(13,Av N),(14,Av d0),(15,Av d1),(16,Av d2),(17,v3),(18,Av M)]),(N,AA [W OF,W NV]),(d0,AE l0.d),(d1,AE l1.d),(d2,AE l2.d),(d3,AE []),(M,AA []),(d,CK E),(R,brO T a)]
def aat{u3:Nu}(hd:E=d+1)(h:Hs σ (Xl R E N d0 d1 d2 d3 M d T a v3 l0 l1 l2) τ)(h3:Re τ σ v3 (B6 u3.d))(q:Q (aT.v ⟨[OF,NV],l0,l1,l2,u3,[]⟩) σ):
  Keeps σ τ/\∃u,Re τ σ (Av E) u/\Q u σ:=by
 have g:∀i {e:AG×O},(Xl R E N d0 d1 d2 d3 M d T a v3 l0 l1 l2)[i]?=U e->τ e.1=U e.2/\σ e.1=Y:=λi e q=>h.h e (A6 q);have I:=h.k;have a0:=g 0 H;have X:=g 1 H;have A:=g 2 H;have a3:=g 3 H;have C:=g 4 H;have a6:=g 6 H;exact⟨I,_,Re.ins (Q4.cons (Re.lst (UC.refl I) H X.1 X.2) (Q4.cons (Re.di I A.1 A.2) (Q4.cons (Re.di I a3.1 a3.2) (Q4.cons (Re.di I C.1 C.2) (Q4.cons h3 (Q4.cons (Re.lst (UC.refl I) H a6.1 a6.2) .nil)))))) hd a0.1 a0.2 (g 7 H).2,q⟩
def acS(hk:k=2\/k=4)(hq:∀o,os=U o->Oc o/\o.length<=20000)(X:E=d+1)(h:Hs σ (Xl R E N d0 d1 d2 d3 M d T a (Av d3) l0 l1 l2) τ)(A:T.drop a=P8 a os)(ha:a<=T.length)(q:Q (aT.v ⟨[OF,NV],l0,l1,l2,mnM os,[]⟩) σ):
  (Nl (Na (n+5) 49) (NK.body.drop 15) (RT λz τ=>Keeps σ τ/\∃u,Re τ σ z u/\Q u σ)).nx [N1 T,NG R,x2,NT k,x4,x5,x6,x7,x8,x9,x10,x11,x12,U x13,NG E,x15,x16] τ:=by
 refine aL<|aZ (h.at 8 H) H H H ?_
 cases os with
 |none=>have e:=DK.mp A;have I:=N8 (CI.mpr (Bq.mpr e));exact ff I<|aL<|aZ (h.at 8 H) H H H<|ff I<|aL<|aat X h (Re.di h.k (h.at 5 H) (h.h _ (A6 (i:=5) H)).2) q
 |some o=>
  obtain⟨C,h2⟩:=hq o H
  have lt:=JU λc=>by
   have e:=aO (DK.mpr c) A;have e:=M7 CH e;rw[Ad,Ad,rp]at e;have e:=e
   lia
  refine tt (N5 (BN.mpr lt)) ?_;have g:Rb σ R T a (PH a++(Qx o++[])) _ τ:=⟨h.perm (C6 (l₁:=(Xl R E N d0 d1 d2 d3 M d T a (Av d3) l0 l1 l2).take 8) (l₂:=[(R,brO T a)])),A,ha⟩;refine o5 (n:=n) hk C h2 g λτ b g=>?_;have h:Hs σ (Xl R E N d0 d1 d2 d3 M d T b (Av d3) l0 l1 l2) τ:=g.h.perm (C6 (l₁:=[(R,brO T b)]) (l₂:=(Xl R E N d0 d1 d2 d3 M d T a (Av d3) l0 l1 l2).take 8));refine gN (h.at 0 H) H H ?_;have h:=h.upd 0 H (BZ 471 [(13,Av N),(14,Av d0),(15,Av d1),(16,Av d2),(17,B6 (Vl o).d),(18,Av M)]);have I:=N8 (CI.mpr (Bq.mpr (DK.mp g.d)));exact aL<|aZ (h.at 8 H) H H H<|ff I<|aL<|aat (u3:=Vl o) X h (Re.refl h.k) q
end
section
variable{R E N d0 d1 d2 d3 M d:AG}{T r o:M6}{a k m x y c0 c4:Nat}{l:Nu}{os:Option M6}{x2 x5 x9 x12 x15 x16:OV}{x13 x0 at':V}{zs:LV}
def acT(I:m<=800)(hk:k=2\/k=4)(hq:∀o,os=U o->Oc o/\o.length<=20000)(hE:E=d+1)(h:Hs σ (Xl R E N d0 d1 d2 d3 M d T a (Av d3) [(UM,DX),(UL,DX)] [(OQ,Ed x),(UK,Ed y)] []) τ)(hT:T.drop a=P8 a os)(X:a<=T.length)
  (C:∀y∈Nv (kD kS) m,UG l y) (hd:(((Nv (kD kS) m).filterMap (TJ l)).map Az).Nodup) (q:Q (bnI l os x y m).v σ):
  (Nl (Na (n+5) 50) (NK.body.drop 14) (RT λz τ=>Keeps σ τ/\∃u,Re τ σ z u/\Q u σ)).nx [U (W T),U (Av R),x2,U (Zy k),U (BB [Zy c0,Zy 2,Zy 2,Zy m,Zy c4]),x5,x6,x7,U (B6 (kD kS)),x9,A,U (BB ((ND l [] (Nv (kD kS) m)).map Ar)),U at',U (W (tabOf (PG (OM l) [] (Nv (kD kS) m)))),U (Av E),x15,x16] τ:=by
 refine aL<|aZ (h.at 0 H) H H H<|ah H H<|lU (n:=n+2) af1 (m:=m) (Aa I ae)<|j3 (n:=n+1) (acc:=[]) (r:=[]) (i:=4) ?_ C hd ?_ h H λτ h=>?_
 delta tabOf;rw[(l7 l _ []).2,Ax];rfl;rw[gE];exact Aa (Ap (A1 _)) (Aa I ae);exact acS (n:=n) (l2:=(Nv (kD kS) m).filterMap (TJ l)) hk hq hE h hT X q
def acU{K:Kt}:∀(ps:List (M6×Nat)) {acc:Nu} {τ:M5} {x15 x16:OV},((acc++ps.map λp=>(p.1,Ed p.2)).map Az).Nodup->acc.length+ps.length<=900->Hs σ (Xl R E N d0 d1 d2 d3 M d T a (.ref d3) [(UM,.yes),(UL,.yes)] acc []) τ->
  (∀τ x15 x16,Hs σ (Xl R E N d0 d1 d2 d3 M d T a (.ref d3) [(UM,.yes),(UL,.yes)] (acc++ps.map λp=>(p.1,Ed p.2)) []) τ->K.nx [U x0,U (.ref R),x2,x3,x4,x5,x6,x7,x8,x9,A,C,x12,x13,U (.ref E),x15,x16] τ)->
  forL (Na (n+5) 49 rnF) (O2 (n+5) 49 (.tup [.nm 15,.nm 16])) K (TN (ps.map λp=>.bytes p.1) (ps.map λp=>Zy p.2)) [U x0,U (.ref R),x2,x3,x4,x5,x6,x7,x8,x9,A,C,x12,x13,U (.ref E),x15,x16] τ:=λps=>by
 induction ps with
 |nil=>intro acc τ x15 x16 _ _ h q;have:=q τ x15 x16;rw[show acc++CC (λp:M6×Nat=>(p.1,Ed p.2)) []=acc from Ax acc]at this;exact this h
 |cons p ps ih=>
  intro acc τ x15 x16 X I h q;have I:acc.length+(ps.length+1)<=900:=I;have e3:∀z,acc++(p.1,Ed p.2)::z=(acc++[(p.1,.num p.2)])++z:=λz=>(Ag acc [(p.1,Ed p.2)] z).symm
  have hw:acc.has p.1=Am:=Bp.mpr λc=>by rw[AS]at X;exact(Dq.mp X).2.2 p.1 (cZ.mp c) p.1 (A0.mpr ⟨_,As,H⟩) H
  refine kA<|aZ (h.at 0 H) H H H<|rx h (i:=3) H hw (by exact ax I aS) λτ h=>?_
  have h:Hs σ (Xl R E N d0 d1 d2 d3 M d T a (.ref d3) [(UM,.yes),(UL,.yes)] (acc++[(p.1,.num p.2)]) []) τ:=h;refine ih (by rw[<-e3];exact X) (by rw[Ad];show acc.length+1+ps.length<=_;exact ax I aS) h λτ x15 x16 h=>?_;rw[<-e3]at h;exact q τ x15 x16 h
def acV(hz:zs=[Zy x,Zy y])(A:m<=800)(hk:k=2\/k=4)(hq:∀o,os=U o->Oc o/\o.length<=20000)(hE:E=d+1)(h:Hs σ (Xl R E N d0 d1 d2 d3 M d T a (.ref d3) [] [] []) τ)(C:T.drop a=P8 a os)(ha:a<=T.length)
  (X:∀y∈Nv (kD kS) m,UG l y) (hd:(((Nv (kD kS) m).filterMap (TJ l)).map Az).Nodup) (q:Q (bnI l os x y m).v σ):
  (Nl (Na (n+5) 52) (NK.body.drop 12) (RT λz τ=>Keeps σ τ/\∃u,Re τ σ z u/\Q u σ)).nx [U (.bytes T),U (.ref R),x2,U (Zy k),U (.lst [Zy c0,Zy 2,Zy 2,Zy m,Zy c4]),x5,U (.di (kD kT)),U (.di (kD kN)),U (.di (kD kS)),U (.lst (SM 2)),U (.lst zs),U (.lst ((ND l [] (Nv (kD kS) m)).map .int)),U at',U (.bytes (tabOf (PG (OM l) [] (Nv (kD kS) m)))),U (.ref E),x15,x16] τ:=by
 refine aL<|aZ (h.at 0 H) H H H<|ah H H<|lU afZ ae ?_
 rw[adC];refine nt (ws:=[UM,UL]) aG ae h (i:=2) H λτ h=>aL<|ah H H<|lU af0 ae ?_
 rw[adD];generalize hK:Nl (Na (n+5) 50) _ _=K
 have I:forL (Na (n+5) 49 rnF) (O2 (n+5) 49 (.tup [.nm 15,.nm 16])) K (TN [.bytes OQ,.bytes UK] zs) [U (.bytes T),U (.ref R),x2,U (Zy k),U (.lst [Zy c0,Zy 2,Zy 2,Zy m,Zy c4]),x5,U (.di (kD kT)),U (.di (kD kN)),U (.di (kD kS)),U (.lst (SM 2)),U (.lst zs),U (.lst ((ND l [] (Nv (kD kS) m)).map .int)),U at',U (.bytes (tabOf (PG (OM l) [] (Nv (kD kS) m)))),U (.ref E),x15,x16] τ:=by subst hz;refine acU [(OQ,x),(UK,y)] (acc:=[]) (show [OQ,UK].Nodup by decide) (show 2<=900 by decide) h λτ x15 x16 h=>?_;subst hK;exact acT A hk hq hE h C ha X hd q
 exact I
def ahS(l:Nu):∀ys ps,(ND l ps ys).length=ys.length:=λys=>by
 induction ys with
 |nil=>exactλZ=>H
 |cons y ys I=>
  intro ps;show(match l.fld y with|some o=>_|none=>_:List Int).length=_
  cases l.fld y with
  |none=>exact M7 KS (I _)
  |some o=>exact M7 KS (I _)
end
def w7(l:Nu):∀ys ps,(ps.map nul).flatten.length+l.R1 ys<=32767->∀x∈ND l ps ys,-2<=x/\x<2^(8*2-1):=λys=>by
 induction ys with
 |nil=>exactλZ Z Z m=>M9 m Ay
 |cons y ys N=>
  intro ps h x m;have h:(ps.map nul).flatten.length+(((l.fld y).elim 0 λo=>o.length+1)+l.R1 ys)<=32767:=h;have m:x∈(match l.fld y with|some o=>G (ps.map nul).flatten.length::ND l (ps++[o]) ys|none=> -1::ND l ps ys:List Int):=m
  cases q:l.fld y with
  |none=>
   rw[q]at h m;have h:(ps.map nul).flatten.length+(0+l.R1 ys)<=32767:=h;rcases AQ.mp m with rfl|m
   decide
   exact N ps (by exact ax h aS) x m
  |some o=>
   rw[q]at h m;have h:(ps.map nul).flatten.length+(o.length+1+l.R1 ys)<=32767:=h;rcases AQ.mp m with rfl|m
   rw[(by decide:(2:Int)^(8*2-1)=32768)];exact⟨Bv aG (AW _),(BN.mpr (by exact ax h aS:(ps.map nul).flatten.length<32768):G _<G 32768)⟩;exact N (ps++[o]) (by rw[gu,Ad,kz];exact ax h aS) x m
def tL{I:aT}(z:M6):(PZ I m k++OR I a b m k)++z=NU 2 (G (Pw k))++(NU 2 (G Tc.length)++(NU 2 (G 2)++(NU 2 (G 2)++(NU 2 (G m)++(NU 2 (G (tabOf (I.runs m)).length)++(Tc++(A8 2 1++(([G (min a (Of k)),G (min b (Of k))].map (NU k)).flatten++(((ND I.s [] (Nv (kD kS) m)).map (NU 2)).flatten++(tabOf (I.runs m)++z)))))))))):=by
 delta PZ OR
 rw[show(I.runs m).1=_ from(l7 I.s (Nv (kD kS) m) []).1,show OX (Tc++[1,1])=Tc++A8 2 1 by decide]
 simp only[Jb,List.flatten_nil,Ag,Ax,Cc,List.map_nil]
 rfl
def nu{os:Option M6}:Vm I a b m k os=(PZ I m k++OR I a b m k)++P8 (PZ I m k++OR I a b m k).length os:=by
 cases os with
 |none=>exact(Ax _).symm
 |some o=>show OX _++Qx o=_++(PH _++(Qx o++[]));rw[w0,Ax,Ag]
section
variable{R:AG}{T r:M6}{A k m x y:Nat}{l:Nu}{os:Option M6}{x2 x5 x6 x7 x8 x9 x10 x11 x12 x13 x14 x15 x16:OV}{rs:Ni×Ni}
def acW(C:m<=800)(hk:k=2\/k=4)(hq:∀o,os=U o->Oc o/\o.length<=20000)(h:Rb σ R T A (P8 A os) [] τ)
  (hn:∀y∈Nv (kD kS) m,UG l y) (hd:(((Nv (kD kS) m).filterMap (TJ l)).map Az).Nodup) (q:Q (bnI l os x y m).v σ):
  (Nl (Na (n+5) 53) (NK.body.drop 11) (RT λz τ=>Keeps σ τ/\∃u,Re τ σ z u/\Q u σ)).nx [N1 T,NG R,x2,NT k,Qv [Zy c0,Zy 2,Zy 2,Zy m,Zy c4],Qv [W OF,W NV],RC (kD kT),RC (kD kN),RC (kD kS),Qv (SM 2),Qv [Zy x,Zy y],U (BB ((ND l [] (Nv (kD kS) m)).map Ar)),U at',U (W (tabOf (PG (OM l) [] (Nv (kD kS) m)))),x14,x15,x16] τ:=by
 refine aL ⟨H,Aq _,Aw ⟨H,Aq _,Aw ⟨H,Aq _,Aw ⟨H,Aq _,Aw (i4 (t:=⟨[],[],[],[]⟩) (nm:=[W OF,W NV]) (u:=[]) (nv:=BB [W OF,W NV]) (uv:=Bg []) (λZ=>H) h.h (λZ=>H) (show 2<=1000 by decide) ⟨⟨⟨H,Ac H⟩,H⟩,⟨⟨H,Ac H⟩,H⟩,⟨⟨H,Ac H⟩,H⟩,⟨⟨H,Ac H⟩,H⟩⟩ (λZ=>H) (Aq _) λE τ X=>?_)⟩⟩⟩⟩;obtain⟨N,d0,d1,d2,d3,I,d,X,g⟩:=X;exact acV H C hk hq X g h.d h.a hn hd q
def aau(X:m<=800)(C:k=2\/k=4)(hq:∀o,os=U o->Oc o/\o.length<=20000)
  (hx:x<2^(8*k-1)) (hy:y<2^(8*k-1)) (ht:l.R1 (Nv (kD kS) m)<=32767) (hL:∀a,T.drop a=P8 L os->a<=T.length->a=L)
  (h:Rb σ R T 12 (Tc++(A8 2 1++(([G x,G y].map (NU k)).flatten++(((ND l [] (Nv (kD kS) m)).map (NU 2)).flatten++(tabOf (PG (OM l) [] (Nv (kD kS) m))++P8 L os))))) [] τ)
  (hn:∀y∈Nv (kD kS) m,UG l y) (hd:(((Nv (kD kS) m).filterMap (TJ l)).map Az).Nodup) (q:Q (bnI l os x y m).v σ):
  (Nl (Na (n+5) 59) (NK.body.drop 5) (RT λz τ=>Keeps σ τ/\∃u,Re τ σ z u/\Q u σ)).nx [N1 T,NG R,x2,NT k,U (BB [Zy Tc.length,Zy 2,Zy 2,Zy m,Zy (tabOf (PG (OM l) [] (Nv (kD kS) m))).length]),x5,x6,x7,x8,x9,x10,x11,x12,x13,x14,x15,x16] τ:=by
 have N:(ND l [] (Nv (kD kS) m)).length=m:=(ahS ..).trans (gE ..)
 have I:∀z,z<2^(8*k-1)-> -2<=G z/\G z<2^(8*k-1):=λz hz=>⟨Bv aG (AW _),by
  have:=BN.mpr hz
  rwa [Int.natCast_pow]at this⟩
 refine aL<|bx (h.h.at 0 H) (k:=8) (f:=796) H H H<|ah H H<|gF (n:=n+4) h H λτ h=>w5 (n:=n+3)<|aL<|lR (n:=n+2)<|aL ?_
 refine bx (h.h.at 0 H) (k:=23) (f:=824) H H H<|ah H H<|j0 (n:=n+2) (k:=2) h ae λτ h=>aL ?_
 refine bx (h.h.at 0 H) (k:=17) (f:=817) H H H<|lZ (n:=n+3) (show Rb σ R T _ (PH _++_) [] τ by rw[show PH (12+Tc.length+2)=[] by decide];exact h) λτ h=>aL ?_
 refine bx (h.h.at 0 H) (k:=9) (f:=831) H H H<|ah H H<|eW (n:=n+1) (xs:=[G x,G y]) C h (show 2<=1000 by decide) (Ae.mpr ⟨I x hx,Ae.mpr ⟨I y hy,λZ m=>M9 m Ay⟩⟩) λτ h=>?_
 have v:=λ{Q} q=>eW (n:=n+1) (Q:=Q) (k:=2) (xs:=ND l [] (Nv (kD kS) m)) (Aw H) h (Aa (Ap N) (Aa X (show 800<=1000 by decide))) (w7 l _ [] (Aa (Ap (A1 _)) ht)) q;rw[N]at v;refine bx (h.h.at 0 H) (k:=9) (f:=831) H H H<|ah H H<|v λτ h=>aL<|aZ (h.h.at 0 H) H H H<|bx (h.h.at 0 H) (k:=8) (f:=796) H H H<|ah H H<|gF (n:=n+4) h H λτ h=>?_
 rw[(hL _ h.d h.a)]at h;exact acW (n:=n) (A:=L) X C hq h hn hd q
def XT(I:aT)(a b m k:Nat)(z:M6):=NU 2 (G Tc.length)++(NU 2 (G 2)++(NU 2 (G 2)++(NU 2 (G m)++(NU 2 (G (tabOf (I.runs m)).length)++(Tc++(A8 2 1++(([G (min a (Of k)),G (min b (Of k))].map (NU k)).flatten++(((ND I.s [] (Nv (kD kS) m)).map (NU 2)).flatten++(tabOf (I.runs m)++z)))))))))
end
section
variable{I:aT}{a b m k:Nat}{os:Option M6}
def acX {T : M6} (h : gS I a b m) (hm : m ≤ 800) (hk : k = 2 ∨ k = 4) (hq : ∀ o, os = U o → Oc o ∧ o.length ≤ 20000) (hd : (((Nv (kD kS) m).filterMap (TJ I.s)).map Az).Nodup) (hL : ∀ a, T.drop a = P8 L os → a ≤ T.length → a = L)
    (h0 : Rb σ R T 2 (XT I a b m k (P8 L os)) [] τ) (q : Q (bnI I.s os (min a (Of k)) (min b (Of k)) m).v σ) :
    (Nl (Na (n + 5) 60) (NK.body.drop 4) (RT fun z τ => Keeps σ τ ∧ ∃ u, Re τ σ z u ∧ Q u σ)).nx [U (W T), U (Av R), x2, U (Zy k), x4, Y, Y, Y, Y, Y, Y, Y, Y, Y, Y, Y, Y] τ := by
  have ht : (tabOf (I.runs m)).length ≤ 32767 := by
    have r2 : (tabOf (I.runs m)).length = 0 + I.s.R1 (Nv (kD kS) m) := (oZ (Nv (kD kS) m)).2.1
    have := h.R1
    exact ax (Ao (Ap r2) this) aS
  have hc : ∀ z, min z (Of k) < 2 ^ (8 * k - 1) := fun z => Al (JT ..) (by rcases hk with rfl | rfl <;> decide)
  delta XT aT.runs at h0
  delta aT.runs at ht
  refine aL ⟨by decide, ⟨⟨by decide, by decide⟩, ?_⟩⟩
  refine bx (h0.h.at 0 H) H H H (bK h0 ae fun τ h0 => bx (h0.h.at 0 H) H H H (bK h0 ae fun τ h0 => ?_))
  refine bx (h0.h.at 0 H) H H H (bK h0 ae fun τ h0 => bx (h0.h.at 0 H) H H H (bK h0 (Aa hm ae) fun τ h0 => ?_))
  exact bx (h0.h.at 0 H) H H H (bK h0 ht fun τ h0 => ⟨Ac H, Aw (aau hm hk hq (hc _) (hc _) h.R1 hL h0 h.s2 hd q)⟩)
def aav{T:M6}(hmg:z=282/\k=2\/z=542/\k=4)(h:gS I a b m)(hm:m<=800)(hq:∀o,os=U o->Oc o/\o.length<=20000)(hd:(((Nv (kD kS) m).filterMap (TJ I.s)).map Az).Nodup)(hL:∀a,T.drop a=P8 L os->a<=T.length->a=L)
  (h0:Rb σ R T 2 (XT I a b m k (P8 L os)) [] τ) (q:Q (bnI I.s os (min a (Of k)) (min b (Of k)) m).v σ):
  (Nl (Na (n+5) 62) (NK.body.drop 2) (RT λz τ=>Keeps σ τ/\∃u,Re τ σ z u/\Q u σ)).nx [U (.bytes T),U (.ref R),U (Zy z),Y,Y,Y,Y,Y,Y,Y,Y,Y,Y,Y,Y,Y,Y] τ:=by
 refine aL (cO H (ff ?_ (aL ?_)))
 ·rcases hmg with⟨rfl,_⟩|⟨rfl,_⟩<;>decide
 have key:∀K,(∀v,v=Zy k->K.nx [U (.bytes T),U (.ref R),U (Zy z),U v,Y,Y,Y,Y,Y,Y,Y,Y,Y,Y,Y,Y,Y] τ)->
   We (n+5) 60 (.asg (.nm 3) (.j4 (.cmp (.loc 2) [.Eq] [.lit (.int 542)]) (.lit (.int 4)) (.lit (.int 2)))) [U (.bytes T),U (.ref R),U (Zy z),Y,Y,Y,Y,Y,Y,Y,Y,Y,Y,Y,Y,Y,Y] τ K:=λK N=>by
  refine aF (λe=>N (.int 4) ?_) λe=>N (.int 2) ?_
  ·have e:=BP (Od e:G z=G 542)
   rw[show k=4 by lia];rfl
  ·have e:¬G z=G 542:=Pd e
   have:k=2:=by
    rcases hmg with⟨_,h⟩|⟨h,_⟩
    ·exact h
    ·exact M9 (M7 G h) e
   rw[this];rfl
 exact key _ λv ev=>by
  subst ev
  exact acX h hm (hmg.elim (λh=>.inl h.2) λh=>.inr h.2) hq hd hL h0 q
def gw(h:gS I a b m)(hm:m<=800)(hk:k=2\/k=4)(hq:∀o,os=U o->Oc o/\o.length<=20000)(hd:(((Nv (kD kS) m).filterMap (TJ I.s)).map Az).Nodup)(q:Q (bnI I.s os (min a (Of k)) (min b (Of k)) m).v σ):
  M8 B (n+6) 888 [.bytes (Vm I a b m k os)] σ Q:=by
 have hL:∀p,(Vm I a b m k os).drop p=P8 (PZ I m k++OR I a b m k).length os->p<=(Vm I a b m k os).length->p=(PZ I m k++OR I a b m k).length:=λp e l=>by
  have e2:=M7 CH e
  have e3:=M7 CH (nu (I:=I) (a:=a) (b:=b) (m:=m) (k:=k) (os:=os))
  rw[Cz]at e2
  rw[Ad (as:=PZ I m k++OR I a b m k)]at e3
  lia
 have hmg:Pw k=282/\k=2\/Pw k=542/\k=4:=by rcases hk with rfl|rfl<;>decide
 refine Ny.tree (ay H H (wZ (n:=n+2) Hs.nil λR τ h0=>aL ?_))
 have h0:Rb σ R (Vm I a b m k os) 0 (NU 2 (.ofNat (Pw k))++XT I a b m k (P8 (PZ I m k++OR I a b m k).length os)) [] τ:=⟨h0.h,h0.d.trans (nu.trans (tL _)),Aq _⟩
 generalize Pw k=z at hmg h0
 have hz:z<=542:=by lia
 exact bx (h0.h.at 0 H) (k:=7) (f:=803) H H H (iq (n:=n+3) h0 (.inl H) ⟨Bv aG (AW _),Ez (Bq.mpr hz) aG⟩ λτ h0=>aav (n:=n) hmg h hm hq hd hL h0 q)
def Rf(k:Nat)(ws:Ni):=(ws.all λw=>XS w&&BU (Rc w) k)&&(decide ws.Nodup&&DA ws.length 8)
def V7(k:Nat)(f:Fv):=match k with
 |0=>f=DX
 |1=>∃n,f=Ed n/\n<2147483648
 |_=>f=IQ\/∃o,f=F1 o/\Oc o/\o.length<=1200
def V7.ok{f:Fv}(h:V7 k f)(e:Rc w=k)(A:k<4):f.Ok/\f.Ok'/\(f.so=A5\/f.so=Zy (Rc w)\/Rc w=3):=by
 rw[e];clear e;revert h;refine lt4 A (λh=>?_) (λh=>?_) (λh=>?_) λh=>?_;exact h▸⟨Oq,Oq,AN (Aw H)⟩;obtain⟨n,N,R⟩:=h;exact N▸⟨BG R ae,R,AN (Aw H)⟩
 ·rcases h with h|⟨o,h,N,R⟩
  ·exact h▸⟨Oq,Oq,Aw H⟩
  ·have:=Aa R (show 1200<=2000 by decide);exact h▸⟨⟨N,this⟩,⟨N,this⟩,AN (Aw H)⟩
 rcases h with h|⟨o,h,N,R⟩
 exact h▸⟨Oq,Oq,Aw H⟩;have:=Aa R (show 1200<=2000 by decide);exact h▸⟨⟨N,this⟩,⟨N,this⟩,AN (AN H)⟩
end
structure ry (k:Nat) (l:Nu):Prop where
 w:Rf k (l.map Az)=J
 f:∀p∈l,V7 k p.2
structure Y7 (k:Nat) (l:Nu):Prop where
 ok:l.Ok
 nd:(l.map Az).Nodup/\l.length<=8
 pl:(l.map Az).Nodup/\∀w∈l.map Az,Rc w=k
 rows:∀r∈l.rows,r.Ok
 len:l.rows.length<=8
def ry.all(h:ry k l)(y:k<4):Y7 k l:=by
 obtain⟨h1,A⟩:=(AR ..).mp h.w;obtain⟨A,R⟩:=(AR ..).mp A;have I:(l.map Az).Nodup:=Od A;have R:(l.map Az).length<=8:=Ac R;have C:l.length<=8:=by rwa [Ak]at R
 have X:∀w∈l.map Az,tj w/\w.length<=100/\Rc w=k:=λw m=>by obtain⟨a,b⟩:=(AR ..).mp (A3.mp h1 w m);exact⟨uJ a,Ac ((AR ..).mp a).2,BE b⟩
 refine⟨⟨I,λp m=>?_,Al C ae⟩,⟨I,C⟩,⟨I,λw m=>(X w m).2.2⟩,λr m=>?_,?_⟩;have q:=X p.1 (Ca m);exact⟨((h.f p m).ok q.2.2 y).1,Aa q.2.1 ae⟩;obtain⟨w,m2,rfl⟩:=A0.mp m;have m:=dm.mp m2;obtain⟨_,p,N,e1,x⟩:=i7 m;have q:=X w m;exact⟨q.1,x▸((h.f p N).ok q.2.2 y).2⟩;rw[Ak,(aR _).1.length_eq];exact R
structure Gd (I:aT):Prop where
 b:ry 0 I.b
 m:ry 1 I.m
 s:ry 2 I.s
 o:ry 3 I.o
 hd:Wn (NJ [124] I.nm) I.nm=J/\DA (NJ [124] I.nm).length 1000=J/\DA I.nm.length 10=J
 u:(I.u.all XS&&DA I.u.length 60)=J
def Gd.ok{I:aT}(h:Gd I):I.Ok:=by obtain⟨R,N⟩:=(AR ..).mp h.u;exact⟨(h.b.all ae).ok,(h.m.all ae).ok,(h.s.all ae).ok,(h.o.all ae).ok,λw m=>Aa (Ac ((AR ..).mp (A3.mp R w m)).2) ae,Ac N,Ac h.hd.2.1⟩
def Gd.nd{I:aT}(h:Gd I):I.Nd:=⟨(h.b.all ae).nd,(h.m.all ae).nd,(h.s.all ae).nd,(h.o.all ae).nd,Ac h.hd.2.2⟩
def Gd.pl{I:aT}(h:Gd I):I.Pl:=⟨(h.b.all ae).pl,(h.m.all ae).pl,(h.s.all ae).pl,(h.o.all ae).pl⟩
def Gd.rows{I:aT}(h:Gd I):∀r∈I.hd::I.O1,r.Ok:=by
 obtain⟨R,A⟩:=(AR ..).mp h.u;refine Ae.mpr ⟨h.hd.1,λr m=>?_⟩;rcases BC.mp m with m|m
 exact(h.b.all ae).rows r m;rcases BC.mp m with m|m
 exact(h.m.all ae).rows r m;rcases BC.mp m with m|m
 exact(h.s.all ae).rows r m;rcases BC.mp m with m|m
 exact(h.o.all ae).rows r m;obtain⟨w,N,rfl⟩:=A0.mp m;exact uJ<|A3.mp R w N
def Gd.len{I:aT}(h:Gd I):I.O1.length<=92:=by
 obtain⟨R,N⟩:=(AR ..).mp h.u;delta aT.O1
 rewrite[Ad,Ad,Ad,Ad,Ak]
 exact ax (Ao ((h.b.all ae).len) (Ao ((h.m.all ae).len) (Ao ((h.s.all ae).len) (Ao ((h.o.all ae).len) (Ac N))))) aS
def Vn:=[99,117,112]
def Wq:=[99,115,114]
def Wr:=[104,112,97]
def SN:=[98,111,108,100]
def QZ:=[112,97,114,116]
def RB:=[97,32,112,97,114,116]
abbrev Il:=List (M6×Nat)
def WD(o:Nat->M6)(i:Nat):Fv:=cond (BU i 9) IQ (F1 (o i))
abbrev lf(o:Nat->M6)(l:Il):Nu:=l.map λp=>(p.1,WD o p.2)
abbrev wq(t j:Nat):=(Xq.drop t++Xq.take t).getD j []
abbrev liA(t:Nat):Il:=[(wq t 0,0),(wq t 1,1),(wq t 2,9)]
abbrev liB(t:Nat):Il:=[(wq t 1,2),(wq t 2,3),(wq t 3,4)]
abbrev tI(t:Nat):Il:=[(wq t 0,0),(wq t 1,1),(wq t 3,4)]
abbrev sI:Nat->Nat->Il
 |0,0=>[(Wq,1),(Vn,0),(SN,4)]
 |0,1=>[(SN,4),(Wq,1),(Vn,0)]
 |0,_=>[(Wq,1),(Vn,0),(SN,4)]
 |1,_=>[(Wq,0),(Wr,1)]
 |2,0=>[(SN,1),(Wr,0),(Vn,4)]
 |2,1=>[(SN,1),(Vn,4),(Wr,0)]
 |2,_=>[(Wr,0),(Vn,4),(SN,1)]
 |3,2=>[(Wq,4),(SN,0)]
 |3,_=>[(SN,0),(Wq,4)]
 |_,2=>[(Wr,4),(Vn,1)]
 |_,_=>[(Vn,1),(Wr,4)]
abbrev oI:Nat->Il
 |1=>[(PY,4)]
 |3=>[(PY,1)]
 |4=>[(PY,0)]
 |_=>[]
abbrev mx:Nat->Nat
 |1=>9
 |4=>11
 |_=>28
abbrev bI:Nat->Nu
 |2=>[(UM,DX),(UL,DX)]
 |_=>[(UL,DX),(UM,DX)]
def SO(t k a b:Nat)(o:Nat->M6):aT:=⟨[OF,NV],bI k,[(OQ,Ed a),(UK,Ed b)],lf o (sI t k),lf o (oI t),[]⟩
def Vo(t a:Nat)(o:Nat->M6):aT:=aT.des [OF,NV] UL OQ a (lf o (liA t)) [QZ]
def Q0(t b:Nat)(o:Nat->M6):aT:=aT.des [QZ,RB] UM UK b (lf o (liB t)) []
def kB(o:Nat->M6)(l:Il):(lf o l).map Az=l.map Az:=by delta lf;rw[Bo];rfl
def R0(o:Nat->M6):=∀i,Oc (o i)/\(o i).length<=1200
def acY{o:Nat->M6}(h:R0 o)(N:2<=k)(l:Il):∀p∈lf o l,V7 k p.2:=λp m=>by
 obtain⟨q,_,rfl⟩:=A0.mp m
 have:WD o q.2=IQ\/∃x,WD o q.2=F1 x/\Oc x/\x.length<=1200:=by
  delta WD
  cases BU q.2 9
  exact AN ⟨_,H,h q.2⟩;exact Aw H
 obtain⟨j,rfl⟩:=Nat.exists_eq_add_of_le' N;exact this
def lfG{o:Nat->M6}(h:R0 o)(R:2<=k){l:Il}(N:Rf k (l.map Az)=J):ry k (lf o l):=⟨by rw[kB];exact N,acY h R l⟩
def ae1(o:Nat->M6)(b:Bool)(l:Il):Nu.sel b (lf o l)=lf o (l.filter λp=>(p.1==PY)==b):=by delta lf Nu.sel;rw[List.filter_map];rfl
def uV{o:Nat->M6}(h:R0 o)(R:2<=k){l:Il}(N:Rf k ((l.filter λp=>(p.1==PY)==b).map Az)=J):ry k (Nu.sel b (lf o l)):=by rw[ae1];exact lfG h R N
def l8:(∀t<5,(∀k<3,Rf 2 ((sI t k).map Az)=J)/\Rf 3 ((oI t).map Az)=J/\
  (Rf 2 (((liA t).filter λp=>(p.1==PY)==Am).map Az)=J/\Rf 3 (((liA t).filter λp=>(p.1==PY)==J).map Az)=J)/\
  Rf 2 (((liB t).filter λp=>(p.1==PY)==Am).map Az)=J/\Rf 3 (((liB t).filter λp=>(p.1==PY)==J).map Az)=J)/\
  (Rf 0 [UL,UM]=J/\Rf 0 [UM,UL]=J/\Rf 0 [UL]=J/\Rf 0 [UM]=J)/\Rf 1 [OQ,UK]=J/\Rf 1 [OQ]=J/\Rf 1 [UK]=J:=by decide+kernel
def ae2{o:Nat->M6}(X:t<5)(R:k<3)(ha:a<2147483648)(y:b<2147483648)(I:R0 o):Gd (SO t k a b o):=by
 obtain⟨A,⟨N,q,_,_⟩,w4,_,_⟩:=l8;obtain⟨C,x,_⟩:=A t X;refine⟨?_,⟨w4,Ae.mpr ⟨⟨a,H,ha⟩,Ae.mpr ⟨⟨b,H,y⟩,λZ m=>M9 m Ay⟩⟩⟩,lfG I (AH 2) (C k R),lfG I (B4 2) x,?_,H⟩
 ·refine lt3 R ?_ ?_ ?_
  ·exact⟨N,Ae.mpr ⟨H,Ae.mpr ⟨H,λZ m=>M9 m Ay⟩⟩⟩
  ·exact⟨N,Ae.mpr ⟨H,Ae.mpr ⟨H,λZ m=>M9 m Ay⟩⟩⟩
  ·exact⟨q,Ae.mpr ⟨H,Ae.mpr ⟨H,λZ m=>M9 m Ay⟩⟩⟩
 show Wn (NJ [124] [OF,NV]) [OF,NV]=J/\DA (NJ [124] [OF,NV]).length 1000=J/\DA [OF,NV].length 10=J
 decide+kernel
def aaw{o:Nat->M6}(I:t<5)(y:a<2147483648)(N:R0 o):Gd (Vo t a o):=by
 obtain⟨R,⟨_,_,X,_⟩,_,q,_⟩:=l8;obtain⟨_,_,⟨A,C⟩,_⟩:=R t I;refine⟨⟨X,Ae.mpr ⟨H,λZ m=>M9 m Ay⟩⟩,⟨q,Ae.mpr ⟨⟨a,H,y⟩,λZ m=>M9 m Ay⟩⟩,uV N (AH 2) A,uV N (B4 2) C,?_,?_⟩
 ·show Wn (NJ [124] [OF,NV]) [OF,NV]=J/\DA (NJ [124] [OF,NV]).length 1000=J/\DA [OF,NV].length 10=J
  decide+kernel
 show([QZ].all XS&&DA [QZ].length 60)=J
 decide+kernel
def rz{o:Nat->M6}(I:t<5)(X:b<2147483648)(N:R0 o):Gd (Q0 t b o):=by
 obtain⟨R,⟨_,_,_,C⟩,_,_,q⟩:=l8;obtain⟨_,_,_,A,y⟩:=R t I;refine⟨⟨C,Ae.mpr ⟨H,λZ m=>M9 m Ay⟩⟩,⟨q,Ae.mpr ⟨⟨b,H,X⟩,λZ m=>M9 m Ay⟩⟩,uV N (AH 2) A,uV N (B4 2) y,?_,H⟩;show Wn (NJ [124] [QZ,RB]) [QZ,RB]=J/\DA (NJ [124] [QZ,RB]).length 1000=J/\DA [QZ,RB].length 10=J
 decide+kernel
def acZ{o:Nat->M6}(h:t<5):((Vo t a o).rd.V6 (Q0 t b o).rd.pl).pl=SO t 0 a b o:=by refine lt5 h ?_ ?_ ?_ ?_ ?_ <;>kernel_rfl
def ae3{o:Nat->M6}(h:t<5):(SO t 0 a b o).rd=SO t 1 a b o:=by refine lt5 h ?_ ?_ ?_ ?_ ?_ <;>kernel_rfl
set_option backward.match.sparseCases true
abbrev nmW:=[[99,98,116],[98,101,108],[99,114],[99,115,114],[116,98,99],[99,108,101,97,114],[101,108],[101,100],[104,112,97],[99,109,100,99,104],[99,117,112],[99,117,100,49],[104,111,109,101],[99,105,118,105,115],[99,117,98,49],[109,114,99,117,112],[99,110,111,114,109],[99,117,102,49],[108,108],[99,117,117,49],[99,118,118,105,115],[100,99,104,49],[100,108,49],[],[],[115,109,97,99,115],[98,108,105,110,107],[98,111,108,100]]
abbrev nmS:=nmW.map λw=>cond w.isEmpty A5 (W w)
def af3:Nv (kD kS) 28=nmS:=by kernel_rfl
def aax(h:m<=k):Nv d m=(Nv d k).take m:=by delta Nv;rw[<-Iq,List.take_range,DU h]
def uW(h:m<=28):Nv (kD kS) m=nmS.take m:=by rw[aax h,af3]
def adF:∀y∈nmS.take m,y=A5\/∃w,y=W w:=λy h=>by
 obtain⟨w,_,rfl⟩:=A0.mp (HO h)
 cases w.isEmpty
 exact AN ⟨w,H⟩;exact Aw H
def rA(t:Nat):mx t<=28:=by
 delta mx
 split<;>decide
def XU(l:Nu):=∀p∈l,∃o,p.2=F1 o/\Oc o/\o.length<=1200
def ac0{o:Nat->M6}(h:R0 o){l:Il}(N:(l.all λp=>!BU p.2 9)=J):XU (lf o l):=λp m=>by obtain⟨q,R,rfl⟩:=A0.mp m;have:=A3.mp N q R;refine⟨o q.2,?_,h q.2⟩;show WD o q.2=_;delta WD;rw[show BU q.2 9=Am from(BM _).mp this];rfl
def uX{l:Nu}(h:XU l)(N:l.has w=J):∃o,l.at_ w=F1 o/\Oc o/\o.length<=1200:=by obtain⟨_,p,m,_,e⟩:=i7 (cZ.mp N);exact e▸h p m
def ac1(h:XU l)(R:y=A5\/∃w,y=W w):UG l y:=by
 rcases R with rfl|⟨w,rfl⟩
 exact Aw<|Aw H
 cases N:l.has w with
 |false=>exact Aw (AN ⟨w,H,N⟩)
 |true=>obtain⟨o,A,I,_⟩:=uX h N;exact AN ⟨w,o,H,N,A,I⟩
def aay{l:Nu}(h:XU l):∀ys,(∀y∈ys,y=A5\/∃w,y=W w)->l.R1 ys<=1201*(ys.filterMap (TJ l)).length:=λys=>by
 induction ys with
 |nil=>exactλZ=>AH _
 |cons y ys N=>
  intro A;obtain⟨R,C⟩:=Ae.mp A;have N:=N C;show((l.fld y).elim 0 λo=>o.length+1)+l.R1 ys<=_;rw[Cj];rcases R with rfl|⟨w,rfl⟩
  show 0+l.R1 ys<=1201*(ys.filterMap (TJ l)).length;exact ax N aS;have e:TJ l (W w)=(l.fld (W w)).map λo=>(w,F1 o):=H;rw[e]
  cases q:l.fld (W w)with
  |none=>show 0+l.R1 ys<=1201*(ys.filterMap (TJ l)).length;exact ax N aS
  |some o=>
   show o.length+1+_<=1201*((ys.filterMap (TJ l)).length+1)
   have:o.length<=1200:=by
    cases I:l.has w with
    |false=>
     have:l.fld (W w)=Y:=by delta Nu.fld;dsimp only;rw[(lT I).2]
     exact aa<|aO this q
    |true=>
     obtain⟨X,R,_,x⟩:=uX h I;have:l.fld (W w)=U X:=by delta Nu.fld;dsimp only;rw[R]
     exact Af (aO this q)▸x
   exact ax (Ao N this) aS
def o6{o:Nat->M6}:∀{t},t<5->∀{k},k<3->(nmS.take (mx t)).filterMap (TJ (lf o (sI t k)))=lf o (sI t 2)
 |0,_,0,_=>by kernel_rfl
 |0,_,1,_=>by kernel_rfl
 |0,_,2,_=>by kernel_rfl
 |1,_,0,_=>by kernel_rfl
 |1,_,1,_=>by kernel_rfl
 |1,_,2,_=>by kernel_rfl
 |2,_,0,_=>by kernel_rfl
 |2,_,1,_=>by kernel_rfl
 |2,_,2,_=>by kernel_rfl
 |3,_,0,_=>by kernel_rfl
 |3,_,1,_=>by kernel_rfl
 |3,_,2,_=>by kernel_rfl
 |4,_,0,_=>by kernel_rfl
 |4,_,1,_=>by kernel_rfl
 |4,_,2,_=>by kernel_rfl
set_option backward.match.sparseCases false
abbrev mIo(t:Nat)(o:Nat->M6):Option M6:=(oI t).head?.map λp=>o p.2
def rB:(∀k<3,((bI k).map Az).Nodup/\(∀w∈(bI k).map Az,(VP (kD kT) w).isSome=J)/\lastOf (kD kT) (-1) ((bI k).map Az)+1=G 2)/\
  ([OQ,UK].Nodup/\(∀w∈[OQ,UK],(VP (kD kN) w).isSome=J)/\lastOf (kD kN) (-1) [OQ,UK]+1=G 2)/\
  (∀t<5,∀k<3,((sI t k).map Az).Nodup/\(∀w∈(sI t k).map Az,(VP (kD kS) w).isSome=J)/\lastOf (kD kS) (-1) ((sI t k).map Az)+1=G (mx t)/\(sI t k).length<=3/\((sI t k).all λp=>!BU p.2 9)=J):=by decide+kernel
section
variable{t k a b:Nat}{o:Nat->M6}
def o7(R:t<5)(N:k<3)(ho:R0 o):gS (SO t k a b o) a b (mx t):=by
 obtain⟨w1,q,X⟩:=rB;obtain⟨C,x,s3,s4,s5⟩:=X t R k N;have A:=ac0 ho s5;have I:=rA t;refine⟨H,w1 k N,?_,q,⟨⟨H,H⟩,H,H⟩,?_,λy m=>ac1 A (adF y (uW I▸m)),Aa I ae,?_⟩;exact lt3 N ⟨⟨H,H⟩,H,H⟩ ⟨⟨H,H⟩,H,H⟩ ⟨⟨H,H⟩,H,H⟩;rw[kB];exact⟨C,x,s3⟩;rw[uW I];refine Aa (aay A _ adF) ?_;rw[o6 R N];obtain⟨_,_,_,l3,_⟩:=X t R 2 ae;have:(lf o (sI t 2)).length<=3:=Aa (Ap (Ak ..)) l3
 lia
def aaz(N:t<5)(R:k<3):bnI (SO t k a b o).s (mIo t o) x y (mx t)=SO t 2 x y o:=by
 have e:mnM (mIo t o)=lf o (oI t):=by exact lt5 N H H H H H
 delta bnI;rw[uW (rA t),e,show(SO t k a b o).s=lf o (sI t k)from H,o6 N R];rfl
def o8(N:R0 o):∀x,mIo t o=U x->Oc x/\x.length<=20000:=λx e=>by obtain⟨p,_,rfl⟩:=A4.mp e;exact⟨(N _).1,Aa (N _).2 ae⟩
def rC(N:t<5)(R:k<3):(((Nv (kD kS) (mx t)).filterMap (TJ (SO t k a b o).s)).map Az).Nodup:=by rw[uW (rA t),show(SO t k a b o).s=lf o (sI t k)from H,o6 N R,kB];exact(rB.2.2 t N 2 ae).1
def adG(N:t<5):(SO t k a b o).o=mnM (mIo t o):=by exact lt5 N H H H H H
def ke{I:aT}{os:Option M6}(h:gS I a b m)(N:I.o=mnM os)(R:∀o,os=U o->Oc o/\o.length<=20000)(q:Q (W (Vm I a b m 2 os)) σ):M8 B (n+7) 775 [I.v] σ Q:=by exact ay H H<|o3 (Aw H) h<|aL<|lX h N R (Aw H) q
def aaA (ht : t < 5) (hk : k < 3) (ho : R0 o) (q : Q (Bg [(SO t 2 (min a 32767) (min b 32767) o).v, BB [Zy (min a 32767), Zy (min b 32767)]]) σ) : M8 B (n + 8) 1022 [(SO t k a b o).v, Zy 2, BB [Zy a, Zy b]] σ Q := by
  refine ay H H (ke (o7 ht hk ho) (adG ht) (o8 ho) (gw (o7 ht hk ho) (Aa (rA t) (show 28 ≤ 800 by decide)) (Aw H) (o8 ho) (rC ht hk) ?_))
  rw [aaz ht hk]
  refine eS (eS ⟨Ac H, Aw ?_⟩)
  have e : ∀ z, min (G z) 32767 = G (min z 32767) := fun z => by show min (z : Int) 32767 = ((min z 32767 : Nat) : Int); lia
  rw [e, e]
  exact q
def aaB(N:t<5)(R:k<3)(I:R0 o)(A:a<2147483648)(X:b<2147483648)(q:Q (Bg [(SO t 2 a b o).v,BB [Zy a,Zy b]]) σ):M8 B (n+8) 1022 [(SO t k a b o).v,Zy 3,BB [Zy a,Zy b]] σ Q:=by
 refine ay H H<|lY (o7 N R I) (adG N) (o8 I)<|gw (o7 N R I) (Aa (rA t) (show 28<=800 by decide)) (AN H) (o8 I) (rC N R) ?_
 rw[aaz N R,show Of (bif J then 4 else 2)=2147483647 by decide+kernel,DU (Eh A),DU (Eh X)];exact q
def UO(l:Il)(w:M6):Option Nat:=(l.find? λp=>w==p.1).map FH
def adH(o:Nat->M6)(l:Il)(w:M6):(lf o l).at_ w=(UO l w).elim IQ (WD o)/\(lf o l).has w=(UO l w).isSome:=by
 induction l with
 |nil=>exact⟨H,H⟩
 |cons p l N=>
  have R:UO (p::l) w=cond (w==p.1) (U p.2) (UO l w):=by
   delta UO;rw[EB]
   cases w==p.1<;>rfl
  have I:(lf o (p::l)).has w=(w==p.1|| (lf o l).has w):=H;rw[show lf o (p::l)=(p.1,WD o p.2)::lf o l from H,acA,R];refine⟨?_,I.trans ?_⟩
  ·cases w==p.1
   ·exact N.1
   ·rfl
  cases w==p.1
  exact N.2
  rfl
def RD(ss:List S1):=Bg [W (N7 ss),BB (ss.map S1.v)]
def TK(t:Nat)(S:Nat->List S1):=(tI t).map λp=>(W p.1,RD (S p.2))
def rD{S:Nat->List S1}:∀l,NH (W w) (l.map λp=>(W p.1,RD (S p.2)))=(UO l w).map λi=>RD (S i):=λl=>by
 induction l with
 |nil=>rfl
 |cons p l N=>
  show(if(w==p.1)=J then U (RD (S p.2))else NH (W w) (l.map λp=>(W p.1,RD (S p.2))))=_;dsimp only[UO]at N⊢;rw[EB]
  cases w==p.1
  exact N
  rfl
end
def aaC:∀t<5,∀k<3,∀w∈Xq,(UO (sI t k) w=UO (tI t) w/\UO (oI t) w=Y\/UO (sI t k) w=Y/\UO (oI t) w=UO (tI t) w)/\(UO (tI t) w).all (λi=>!BU i 9)=J:=by decide
def ac2{o:Nat->M6}(A:t<5)(x:k<3)(hw:w∈Xq):(SO t k a b o).str w=(UO (tI t) w).elim A5 λi=>W (o i):=by
 obtain⟨h,I⟩:=aaC t A k x w hw;obtain⟨y,C⟩:=adH o (sI t k) w;obtain⟨X,b2⟩:=adH o (oI t) w;show cond ((lf o (sI t k)).has w) ((lf o (sI t k)).at_ w).v ((lf o (oI t)).at_ w).Xi=_;rw[y,C,X]
 have e9:∀{i},(!BU i 9)=J->WD o i=F1 (o i):=λ{i} h=>by delta WD;rw[show BU i 9=Am from(BM _).mp h];rfl
 cases q:UO (tI t) w with
 |none=>rw[q]at h;rcases h with⟨N,R⟩|⟨N,R⟩<;>rw[N,R]<;>rfl
 |some i=>
  rw[q]at h I;have e:=e9 (I:(!BU i 9)=J);rcases h with⟨N,R⟩|⟨N,R⟩
  rw[N];show(WD o i).v=_;rw[e];rfl;rw[N,R];show(WD o i).Xi=_;rw[e];rfl
def ae4{S:Nat->List S1}(C:t<5)(A:k<3)(X:∀i,Tree (S i)):Xj (SO t k a b λi=>N7 (S i)) (TK t S) N a b:=by
 refine⟨λw hw=>?_,H,H,H,?_,?_,?_,H⟩
 ·have R:=ac2 (a:=a) (b:=b) (o:=λi=>N7 (S i)) C A hw;have I:NH (W w) (TK t S)=_:=rD (tI t)
  cases q:UO (tI t) w with
  |none=>rw[q]at R I;exact .out I R
  |some i=>rw[q]at R I;obtain⟨y,h1⟩:=uh (OB (S i) (PW N [])).2;obtain⟨b2,x⟩:=uh (N7 (S i));exact .tree (S i) y b2 I R (X i).ok (Aa (X i).z ae) (Al (A2 2 ((X i).t)) ae) h1 x
 exact lt3 A H H H;exact lt3 A H H H;exact lt3 A H H H
section
variable{L:Ox}{a:AG}{o:O}
def Hs.hold(h:Hs τ ((a,o)::L) σ):Hs (τ.set a o) L σ:=by
 refine⟨λb x e=>?_,λp m=>?_,(Bc.mp h.nd).2⟩
 ·by_cases n:b=a
  ·subst n;exact(h.h _ As).1.trans (aO (M5.ag b o) e)
  ·exact h.k b x<|aO (M5.aA _ n) e
 have N:=h.h p (Au _ m);exact⟨N.1,(M5.aA _ λn=>(Bc.mp h.nd).1 (A0.mpr ⟨p,m,n⟩)).trans N.2⟩
def Hs.free(h:Hs (τ.set a o) L σ)(e:τ a=Y):Hs τ ((a,o)::L) σ:=by
 have N:∀p∈L,p.1≠a:=λp m n=>aa<| (aO (n▸(h.h p m).2) (M5.ag a o))
 refine⟨λb x q=>h.k b x ((M5.aA _ λn=>aa<|aO (n▸e) q).trans q),Ae.mpr ⟨⟨h.k _ _ (M5.ag ..),e⟩,λp m=>⟨(h.h p m).1,aO (M5.aA _ (N p m)) (h.h p m).2⟩⟩,Bc.mpr ⟨λm=>(A0.mp m).elim λp q=>N p q.1 q.2,h.nd⟩⟩
def aaD{P:V->Prop}{F:V->M5->(OV->M5->Prop)->Prop}{I:M5->Prop}(h:∀x σ c,I σ->(∀v N,P v->I N->c (U v) N)->F x σ c):
  ∀l {σ} {k},I σ->(∀vs N,vs.length=l.length->(∀v∈vs,P v)->I N->k vs N)->Qm F l σ k:=λl=>by
 induction l with
 |nil=>exactλi q=>q [] _ H (λZ m=>M9 m Ay) i
 |cons x l X=>exactλi q=>h x _ _ i λv N p C=>X C λvs R e y A=>q (v::vs) R (M7 KS e) (Ae.mpr ⟨p,y⟩) A
def XW:List Va:=[.i 0,.i 1,.i (-1),.i 8,.i 255,.i (-300),.i 65536,.i 2147483647,.i (-2147483648),.i 1000000000000,.b [],.b [97,98,99],.b [120,37,121,44]]
def aaE:∀v∈XW,v.oct.length<=100:=by decide
def ae5:∀{vs},(∀v∈vs,v∈Oy XW)->∃N,vs=Oy N/\∀v∈N,v.oct.length<=100:=λ{vs}=>by
 induction vs with
 |nil=>exactλZ=>⟨[],H,λZ m=>M9 m Ay⟩
 |cons v vs A=>intro h;obtain⟨I,R⟩:=Ae.mp h;obtain⟨N,rfl,e⟩:=A R;obtain⟨a,m,rfl⟩:=A0.mp I;exact⟨a::N,H,Ae.mpr ⟨aaE a m,e⟩⟩
variable{D A:AG}{l:Nat}{xs:List Int}
abbrev lwT:=Om (PV.body.drop 2)
def aaF{K:Kt}(hA:τ A=Y):∀zs {ts:List (List S1)} {l:Nat} {σ:M5} {R:OV},l<=6->ts.length+zs.length<=100->(∀s∈ts,Tree s)->Dk (τ.set A (AA (ts.map RD))) D l σ->
  (∀(N:List (List S1)) I σ R,N.length=ts.length+zs.length->(∀s∈N,Tree s)->I<=6->Dk (τ.set A (AA (N.map RD))) D I σ->K.nx [x0,NG D,x2,NG A,R,x5,x6,x7,x8,x9,x10,x11,x12,x,x14,x15,x16,x17] σ)->
  forL (Na (n+16) 60 lwT) (O2 (n+16) 60 (Eg 4)) K zs [x0,NG D,x2,NG A,R,x5,x6,x7,x8,x9,x10,x11,x12,x,x14,x15,x16,x17] σ:=λzs=>by
 induction zs with
 |nil=>intro ts l σ R y _ ht h q;exact q ts l σ R H ht y h
 |cons z zs ih=>
  intro ts l σ R y C ht h q;have C:ts.length+(zs.length+1)<=100:=C;have e:σ A=U (AA (ts.map RD)):=h.keep _ _ (M5.ag ..);refine cg<|aK (ai e)<|abV h y λX I σ hT hl' h=>?_
  have e:σ A=U (AA (ts.map RD)):=h.keep _ _ (M5.ag ..);refine av e (Al (Aa (Ap (Ak ..)) (by exact ax C aS:ts.length<=100)) ae) ?_;rw[show ts.map RD++[Bg [W (N7 X),BB (X.map S1.v)]]=(ts++[X]).map RD from by rw[AS];rfl];have h:=h.low (o':=AA ((ts++[X]).map RD)) (M5.ag ..);rw[M5.set_set]at h;refine ih (Aa hl' y) (by rw[Ad];show ts.length+1+zs.length<=100;exact ax C aS) (λs m=>(BC.mp m).elim (ht s) λm=>AV.mp m▸hT) h λN I σ R e=>q N I σ R<|e.trans ?_
  rw[Ad];show ts.length+1+zs.length=ts.length+(zs.length+1);lia
end
structure Drawn (t:Nat) (ts:List (List S1)) (vals:List Va) (a b:Nat):Prop where
 ht:t<5
 len:ts.length=5
 tr:∀s∈ts,Tree s
 v:vals≠[]/\vals.length<=9
 o:∀v∈vals,v.oct.length<=100
 ha:a<100000
 hb:b<9
def VQ(t:Nat):=Xq.drop t++Xq.take t
section
variable{D A:AG}{l:Nat}{x0:OV}
def aaG(h:Dk σ D 6 τ)(q:∀(t:Nat) (ts:List (List S1)) (R:List Va) (a b:Nat) (A:AG) (l:Nat) (X:M5) (x4:OV),Drawn t ts R a b->σ A=Y->Dk (σ.set A (AA (ts.map RD))) D l X->
   (Nl (Na (n+16) 58) (PV.body.drop 6) (RT Q)).nx [x0,NG D,NT t,NG A,x4,U (Bg ((VQ t).map W)),Qv (Oy R),Qv [Zy a,Zy b],Y,Y,Y,Y,Y,Y,Y,Y,Y,Y] X):
  (Nl (Na (n+16) 63) (PV.body.drop 1) (RT Q)).nx [x0,NG D,Y,Y,Y,Y,Y,Y,Y,Y,Y,Y,Y,Y,Y,Y,Y,Y] τ:=by
 refine aL<|bt (n:=n+15) ae ae h λt (ht:t<5) τ h=>⟨Aq _,AN λA hA=>?_⟩
 have C:=h.keep.none hA;have h:=h.zp (o:=AA []) hA;refine aL ⟨⟨by decide,by decide⟩,?_⟩;generalize hK:Nl (Na (n+16) 61) _ _=K;refine aaF (n:=n) C (OS 5) (ts:=[]) (AH 6) ae (λZ m=>M9 m Ay) h λts l τ x4 e hT hl h=>?_;subst hK;refine aL<|nX (i:=t) (B3 ht)<|nY (i:=t) (B3 ht)<|qa ?_ ?_
 rw[Cz,F6];exact Aa (by show 5-t+min t 5<=10;grind) ae;generalize hK:Nl (Na (n+16) 60) _ _=K
 have N:K.nx [x0,NG D,NT t,NG A,x4,U (Bg ((VQ t).map W)),Y,Y,Y,Y,Y,Y,Y,Y,Y,Y,Y,Y] τ:=by
  subst hK;refine aL<|bt (n:=n+15) ae ae h λm (hm:m<9) τ h=>⟨⟨Bv aG (MH (AW m) 1),Bv (MH (Bq.mpr (B3 hm)) 1) aG⟩,aaD (P:=λv=>v∈Oy XW) (I:=λX=>Dk (σ.set A (AA (ts.map RD))) D l X) (λx X c i q=>?_) _ h λvs τ ev hv h=>?_⟩
  exact d8 (n:=n+14) (xs:=Oy XW) ae ae i λv m X i=>q v X m i;obtain⟨R,rfl,ho⟩:=ae5 hv
  have y:R.length=1+m:=by rw[Ak,dy]at ev;exact ev.trans (by show((1:Int)+(m:Int)).toNat=1+m;grind)
  refine⟨?_,Aw (aL ?_)⟩;show(Oy R).length<=Nh;rw[Ak,y];exact Aa (by exact ax hm aS:1+m<=10) ae;refine bt (n:=n+15) ae ae h λa (ha:a<100000) τ h=>bt (n:=n+15) ae ae h λb (hb:b<9) τ h=>⟨Ac H,Aw ?_⟩;exact q t ts R a b A l τ x4 ⟨ht,e,hT,⟨λz=>by rw[z]at y;exact M9 y (by show¬0=1+m;exactλh'=>DO 0 (ax (Ap h'.symm) aS)),by exact ax (Ao hm (Ap y)) aS⟩,ho,ha,hb⟩ C h
 rw[<-(by delta VQ;rw[AS,Ld,Iq]:((Xq.map W).drop t++(Xq.map W).take t)=(VQ t).map .bytes)]at N;exact N
def Sx(ts:List (List S1))(i:Nat):List S1:=ts.getD i []
abbrev ox(ts:List (List S1))(i:Nat):=N7 (Sx ts i)
def kC(h:∀s∈ts,Tree s)(i:Nat):Tree (Sx ts i):=by
 delta Sx;rw[GK]
 cases e:ts[i]? with
 |none=>exact⟨λZ m=>M9 m Ay,Aq _,Aq _⟩
 |some s=>exact h s (A6 e)
def aaH(h:∀s∈ts,Tree s):R0 (ox ts):=λi=>⟨(kC h i).ok.oc,(kC h i).t⟩
def adI{ts:List (List S1)}(h:i<ts.length):(ts.map RD)[i]?=U (RD (Sx ts i)):=by rw[BR,AY h];delta Sx;rw[GK,AY h];rfl
def ae6:∀t<5,∀j<5,(VQ t)[j]?=U (wq t j):=by decide
def tM(N:t<5)(R:j<5):((VQ t).map W)[j]?=N1 (wq t j):=by rw[BR,ae6 t N j R];rfl
def aaI:∀t<5,((liA t).map Az).Nodup/\((liB t).map Az).Nodup:=by decide
def rE{o:Nat->M6}{l:Il}(h:(l.map Az).Nodup):((lf o l).map Az).Nodup:=by rw[kB];exact h
def uY{I:aT}(h:I.Nd):I.rd.Nd:=by
 have e:∀{l:Nu},(l.map Az).Nodup/\l.length<=8->(l.UN.map Az).Nodup/\l.UN.length<=8:=λ{l} h=>by refine⟨by rw[jb];exact jY h.1,?_⟩;rw[<-Ak (f:=Az),jb,(aR _).1.length_eq,Ak];exact h.2
 exact⟨e h.b,e h.m,e h.s,e h.o,h.nm⟩
variable{t a b:Nat}{x2 x4:OV}{ts:List (List S1)}{vals:List Va}
def ac3(d:Drawn t ts vals a b)(h:τ A=U (AA (ts.map RD)))
  (q:(Nl (Na (n+16) 56) (PV.body.drop 8) (RT Q)).nx [x0,NG D,x2,NG A,x4,U (Bg ((VQ t).map W)),Qv (Oy vals),Qv [Zy a,Zy b],U (BB ((lf (ox ts) (liA t)).d.map OD)),U (BB ((lf (ox ts) (liB t)).d.map OD)),Y,Y,Y,Y,Y,Y,Y,Y] τ):
  (Nl (Na (n+16) 58) (PV.body.drop 6) (RT Q)).nx [x0,NG D,x2,NG A,x4,U (Bg ((VQ t).map W)),Qv (Oy vals),Qv [Zy a,Zy b],Y,Y,Y,Y,Y,Y,Y,Y,Y,Y] τ:=by
 have w:∀{j},j<5->((VQ t).map W)[j]?=N1 (wq t j):=λN=>tM d.ht N;have s:∀{i},i<5->(ts.map RD)[i]?=U (RD (Sx ts i)):=λR=>adI (d.len.symm▸R);refine aL<|ak (w ae)<|ah (ai h) (s ae)<|ak (w (j:=1) ae)<|ah (ai h) (s (i:=1) ae) ?_
 refine ak (w (j:=2) ae) ⟨Ac H,Aw (aL (ak (w (j:=1) ae) (ah (ai h) (s (i:=2) ae) ?_)))⟩;refine ak (w (j:=2) ae)<|ah (ai h) (s ae)<|ak (w ae)<|ah (ai h) (s ae) ⟨Ac H,Aw ?_⟩
 exact q
end
def aaJ{S:Nat->List S1}(h:t<5):Oa [(W (wq t 0),RD (S 0)),(W (wq t 1),RD (S 1)),(W (wq t 3),RD (S 4))]=TK t S:=by refine lt5 h ?_ ?_ ?_ ?_ ?_ <;>kernel_rfl
def w8:∀(m l:Nu),(l.merge m).length<=l.length+m.length:=λm=>by
 induction m with
 |nil=>exactλl=>AH _
 |cons p m N=>
  intro l
  have:(l.add p.1 p.2).length<=l.length+1:=by
   delta Nu.add
   cases l.has p.1
   exact Ap Ad;exact B4 _
  exact Aa (N (l.add p.1 p.2)) (by rw[Bn];exact ax this aS)
def ac4(l:Nu):l.UN.length=l.length:=by rw[<-Ak (f:=Az),jb,(aR _).1.length_eq,Ak]
def kE(l:Nu):(l.sel b).UN.length<=l.length:=Aa (Ap (ac4 _)) (F2 ..)
def uZ{o:Nat->M6}(I:t<5)(C:a<2147483648)(X:b<2147483648)(A:R0 o):((Vo t a o).rd.V6 (Q0 t b o).rd.pl).Nd/\(Vo t a o).rd.Sm (Q0 t b o).rd.pl:=by
 have N:=uY (aaw I C A).nd;have R:=(uY (rz I X A).nd).pl
 have m:∀{l m:Nu} {j:Nat},(l.map Az).Nodup->l.length<=j->m.length<=j->2*j<=8->((l.merge m.plain).map Az).Nodup/\(l.merge m.plain).length<=8:=λ{l m j} h a b c=>by have:=w8 m.plain l;have:=dM m;exact⟨ro _ _ h,by lia⟩
 exact⟨⟨m N.b.1 (j:=1) ae ae ae,m N.m.1 (j:=1) ae ae ae,m N.s.1 (j:=3) (kE _) (kE _) ae,m N.o.1 (j:=3) (kE _) (kE _) ae,N.nm⟩,⟨Aa (Ao N.b.2 R.b.2) ae,Aa (Ao N.m.2 R.m.2) ae,Aa (Ao N.s.2 R.s.2) ae,Aa (Ao N.o.2 R.o.2) ae⟩⟩
section
variable{D A:AG}{l t a b:Nat}{x0 x2 x4:OV}{ts:List (List S1)}{vals:List Va}
def aaK(d:Drawn t ts vals a b)(h:τ A=U (AA (ts.map RD)))
  (q:(Nl (Na (n+16) 52) (PV.body.drop 12) (RT Q)).nx [x0,NG D,x2,RC (TK t (Sx ts)),x4,U (Bg ((VQ t).map W)),Qv (Oy vals),Qv [Zy a,Zy b],U (BB ((lf (ox ts) (liA t)).d.map OD)),U (BB ((lf (ox ts) (liB t)).d.map OD)),U (Vo t a (ox ts)).v,U (Q0 t b (ox ts)).v,U (SO t 0 a b (ox ts)).v,Y,Y,Y,Y,Y] τ):
  (Nl (Na (n+16) 56) (PV.body.drop 8) (RT Q)).nx [x0,NG D,x2,NG A,x4,U (Bg ((VQ t).map W)),Qv (Oy vals),Qv [Zy a,Zy b],U (BB ((lf (ox ts) (liA t)).d.map OD)),U (BB ((lf (ox ts) (liB t)).d.map OD)),Y,Y,Y,Y,Y,Y,Y,Y] τ:=by
 have w:∀{j},j<5->((VQ t).map W)[j]?=N1 (wq t j):=λhj=>tM d.ht hj;have s:∀{i},i<5->(ts.map RD)[i]?=U (RD (Sx ts i)):=λhi=>adI (d.len.symm▸hi);have X:=aaH d.tr;have y:a<2147483648:=BG d.ha ae;have C:b<2147483648:=BG d.hb ae;obtain⟨n1,n2⟩:=aaI t d.ht;have N:=aaw d.ht y X;have R:=rz d.ht C X;refine aL ⟨Ac H,Aw (ah H H ⟨Ac H,Aw (i9 (n:=n+12) (ns:=[OF,NV]) (t:=UL) (w:=OQ) (m:=a) (l:=lf (ox ts) (liA t)) (us:=[QZ]) ⟨rE n1,Ac H⟩ ae ae (aL ?_))⟩)⟩;refine⟨Ac H,Aw (ah H H ⟨Aq _,Aw (i9 (n:=n+12) (ns:=[QZ,RB]) (t:=UM) (w:=UK) (m:=b) (l:=lf (ox ts) (liB t)) (us:=[]) ⟨rE n2,Ac H⟩ ae ae (aL ?_))⟩)⟩;refine dJ (n:=n+11) (I:=Vo t a (ox ts)) N.ok<|dJ (n:=n+11) (I:=Q0 t b (ox ts)) R.ok ⟨?_,?_⟩
 exact Aa (Ao (tA N.ok) (tA R.ok)) ae;refine aag (n:=n+11) (I:=Vo t a (ox ts)) (M:=Q0 t b (ox ts)) N.pl R.pl ?_ ?_ ?_;exact Ae.mpr ⟨N.rows _ As,λr m=>((BC.mp m).elim (λm=>N.rows r (Au _ m)) (R.rows r))⟩
 ·have x:=N.len
  rewrite[Ad,Bn];exact ax (Ao x R.len) aS
 refine rg (n:=n+10) (I:=(Vo t a (ox ts)).rd) (M:=(Q0 t b (ox ts)).rd) (a:=OF) (b:=NV) (c:=QZ) (d:=RB) H H H H H (uY N.nd) (uY R.nd) (uZ d.ht y C X).2 (uZ d.ht y C X).1 ?_;rw[acZ d.ht];refine aL<|ak (w (j:=0) ae)<|ah (ai h) (s (i:=0) ae)<|ak (w (j:=1) ae)<|ah (ai h) (s (i:=1) ae) ?_
 refine ak (w (j:=3) ae)<|ah (ai h) (s (i:=4) ae) ⟨H,?_⟩
 show Sw τ (AE (Oa [(W (wq t 0),RD (Sx ts 0)),(W (wq t 1),RD (Sx ts 1)),(W (wq t 3),RD (Sx ts 4))])) _;rw[aaJ d.ht];exact⟨Ac H,Aw q⟩
abbrev lwW:=Om (PV.body.drop 12)
variable{k w:Nat}{x1 x5 x8 x9 x10 x11:OV}{x14 x15 x16 x17:OV}
def u4(X:t<5)(hk:k<3)(ho:R0 (ox ts))(R:a<2147483648)(N:b<2147483648)(hw:w<4)(y:w=1->k=0)(q:∀k' C x,k'<3->C<2147483648->x<2147483648->Q (Bg [(SO t k' C x (ox ts)).v,BB [Zy C,Zy x]]) σ):
  M8 B (n+16) 1022 [(SO t k a b (ox ts)).v,Zy w,BB [Zy a,Zy b]] σ Q:=by
 revert y;refine lt4 hw (λZ=>?_) (λy=>?_) (λZ=>?_) λZ=>?_;exact ay H H<|q k a b hk R N
 obtain rfl:=y H;have g:=ae2 X (by decide:0<3) R N ho;exact aab g.ok g.rows (Al g.len ae) ((oX g.pl []).trans (M7 (λI=>[I]) (ae3 X)))<|q 1 a b ae R N
 exact aaA X hk ho<|q 2 _ _ ae (Al (Gy ..) R)<|Al (Gy ..) N
 exact aaB X hk ho R N<|q 2 a b ae R N
def adJ(I:t<5)(X:k<3)(R:∀s∈ts,Tree s)(N:vals≠[]/\vals.length<=9)(C:∀v∈vals,v.oct.length<=100)(q:Q (Bm J) σ):M8 B (n+16) 1027 [(SO t k a b (ox ts)).v,B6 (TK t (Sx ts)),BB [Zy a,Zy b],BB (Oy vals)] σ Q:=
 aaa N.1 N.2 C H (ae4 I X (kC R)) q
def u5{K:Kt}(x:t<5)(hk:k<3)(hT:∀s∈ts,Tree s)(hv:vals≠[]/\vals.length<=9)(ho:∀v∈vals,v.oct.length<=100)(ha:a<2147483648)(hb:b<2147483648)(hw:w<5)(C:w=1->k=0)
  (q:∀I N R X,I<3->N<2147483648->R<2147483648->forL (Na (n+16) 50 lwW) (O2 (n+16) 50 (Eg 13)) K zs [x0,x1,x2,RC (TK t (Sx ts)),x4,x5,Qv (Oy vals),Qv [Zy N,Zy R],x8,x9,x10,x11,U (SO t I N R (ox ts)).v,X,x14,x15,x16,x17] σ):
  forL (Na (n+16) 50 lwW) (O2 (n+16) 50 (Eg 13)) K (Zy w::zs) [x0,x1,x2,RC (TK t (Sx ts)),x4,x5,Qv (Oy vals),Qv [Zy a,Zy b],x8,x9,x10,x11,U (SO t k a b (ox ts)).v,X,x14,x15,x16,x17] σ:=by
 refine cg<|adJ x hk hT hv ho<|aL<|aF (λe=>?_) λe=>?_
 exact u4 x hk (aaH hT) ha hb (w:=3) ae (λe=>nomatch e) λI N R C y h3=>q I N R _ C y h3;have:w≠4:=λc=>Pd e (M7 G c);exact u4 x hk (aaH hT) ha hb (by omega) C λI N R C y h3=>q I N R _ C y h3
def ac5:∀ss {m},m.Ok->UJ ss->(OB ss m).1.Ok/\(OB ss m).1.sz<=m.sz+PK ss:=λss=>by
 induction ss with
 |nil=>exactλN Z=>⟨N,AH _⟩
 |cons s r y=>
  intro m N h;obtain⟨X,q⟩:=Ae.mp h
  have a:(s.run m).1.Ok/\(s.run m).1.sz<=m.sz+s.sz:=by
   cases s with
   |s x=>obtain⟨I,R,_⟩:=x.ei N X.1;exact⟨I,R⟩
   |j4 ch=>obtain⟨I,R,_⟩:=ch.ei N X.1;exact⟨I,R⟩
  obtain⟨C,b2⟩:=y a.1 q;exact⟨C,Aa b2 (by show _<=m.sz+(s.sz+PK r);exact ax a.2 aS)⟩
end
def agX:∀t<5,UO (tI t) (wq t 0)=U 0:=by decide
abbrev lwX:=Om (PV.body.drop 16)
section
variable{S K:AG}{l t k a b w:Nat}{x0 x1 x2 x3 x5 x7 x8 x9 x10 x11 x12 x13:OV}{ss:List S1}{vals:List Va}{kv:QD}
def w9{KK:Kt}(I:Tree ss)(X:vals≠[]/\vals.length<=9)(x:∀v∈vals,v.oct.length<=100):∀zs {kv} {σ} {N},Fits kv->kv.length+6*zs.length<=900->Hs τ [(S,AE (dG Zy kv)),(K,AE (dG bV kv))] σ->
  (∀kv σ N,Fits kv->Hs τ [(S,AE (dG Zy kv)),(K,AE (dG bV kv))] σ->KK.nx [x0,x1,x2,x3,N,x5,Qv (Oy vals),x7,x8,x9,x10,x11,x12,x13,N1 (N7 ss),Qv (ss.map S1.v),NG S,NG K] σ)->
  forL (Na (n+16) 46 lwX) (O2 (n+16) 46 (Eg 4)) KK zs [x0,x1,x2,x3,N,x5,Qv (Oy vals),x7,x8,x9,x10,x11,x12,x13,N1 (N7 ss),Qv (ss.map S1.v),NG S,NG K] σ:=λzs=>by
 induction zs with
 |nil=>intro kv σ N A _ h q;exact q kv σ N A h
 |cons z zs ih=>
  intro kv σ N A R h q;have R:kv.length+6*(zs.length+1)<=900:=R;have C:=I.z;have h0:=(h.h _ (A6 (i:=0) H)).2;have h1:=(h.h _ (A6 (i:=1) H)).2;obtain⟨ok,y⟩:=ac5 ss (oF X.2 x A) I.ok;have y:(OB ss (PW vals kv)).1.o.length+(OB ss (PW vals kv)).1.k.length<=0+kv.length+PK ss:=y;refine cg<|wB I.ok X.2 x A (by exact ax (Ao R C) aS) (Al (A2 2 I.t) ae:2*(N7 ss).length<Nh) ((h.perm (CS ..)).hold) λσ h=>?_
  have h:=(h.free h1).perm (CS ..);refine uC I.ok X.2 x A (by exact ax (Ao R C) aS) h.hold λσ h=>?_;have h:=h.free h0;exact ff (bne_self_eq_false _)<|ih ok.k (by exact ax (Ao R (Ao C y)) aS) h q
def ac6(hT:Tree ss)(A:vals≠[]/\vals.length<=9)(C:∀v∈vals,v.oct.length<=100)(q:∀N,Keeps σ N->Q (Bm J) N)(hk:Keeps σ τ):
  (Nl (Na (n+16) 49) (PV.body.drop 15) (RT Q)).nx [x0,x1,x2,x3,X,x5,Qv (Oy vals),x7,x8,x9,x10,x11,x12,x13,N1 (N7 ss),Qv (ss.map S1.v),Y,Y] τ:=by
 refine aL ⟨H,Aq _,AN λS hS=>⟨H,Aq _,AN λK hK=>?_⟩⟩;have h:=(Hs.nil.new (o:=AE []) hS).new (o:=AE []) hK;refine aL ⟨⟨by decide,by decide⟩,?_⟩;generalize R:Nl (Na (n+16) 47) _ _=KK;refine w9 (n:=n) hT A C (OS 2) (kv:=[]) (λZ m=>M9 m Ay) ae (h.perm (CS ..)) λkv N X hf h=>?_;subst R
 have g:∀c,(NH (Zy c) (dG Zy kv)).getD (Ar 0)=((Q9 c kv).getD (.i 0)).v:=λc=>by
  rw[lH lG]
  cases Q9 c kv<;>rfl
 have I:∀c,(NH (bV c) (dG bV kv)).getD (Ar 0)=((Q9 c kv).getD (.i 0)).v:=λc=>by
  rw[lH oi]
  cases Q9 c kv<;>rfl
 have v:∀x:Va,Wz x.v x.v=U J:=λx=>by
  cases x
  exact M7 U<|Px _
  exact M7 U<|Px _
 have d:∀x y:Va,Vf [x.v,y.v] [x.v,y.v]=J/\RY [x.v,y.v] [x.v,y.v]=J:=λx y=>by refine⟨?_,?_⟩;show((Wz x.v x.v).isSome&&((Wz y.v y.v).isSome&&J))=J;rw[v,v];rfl;show((Wz x.v x.v).getD Am&&((Wz y.v y.v).getD Am&&J))=J;rw[v,v];rfl
 refine aL<|eK (ao (h.at 0 H))<|cG (ao (h.at 0 H)) (dI lG (c:=65)) ?_
 rw[(g 65:(NH (Ar 65) (dG Zy kv)).getD (Ar 0)=_)];refine eK (ao (h.at 0 H))<|cG (ao (h.at 0 H)) (dI lG (c:=90)) ?_
 rw[(g 90:(NH (Ar 90) (dG Zy kv)).getD (Ar 0)=_)];refine⟨Ac H,Aw (eK (ao (h.at 1 H)) (cG (ao (h.at 1 H)) (dI oi (c:=65)) ?_))⟩;rw[(I 65:(NH (W [65]) (dG bV kv)).getD (Ar 0)=_)];refine eK (ao (h.at 1 H))<|cG (ao (h.at 1 H)) (dI oi (c:=90)) ?_
 rw[(I 90:(NH (W [90]) (dG bV kv)).getD (Ar 0)=_)];refine⟨Ac H,Aw (bJ (Aw H) H H (λZ=>(d _ _).1) ?_)⟩;show Q (Bm (RY _ _)) N;rw[(d _ _).2];exact q N<|hk.trans h.k
end
section
variable{D A:AG}{l t a b:Nat}{x0 x2 x4 x8 x9 x10 x11:OV}{ts:List (List S1)}{vals:List Va}
def ac7(d:Drawn t ts vals a b)(y:k<3)(R:Keeps σ τ)(q:∀N,Keeps σ N->Q (Bm J) N):
  (Nl (Na (n+16) 51) (PV.body.drop 13) (RT Q)).nx [x0,NG D,x2,RC (TK t (Sx ts)),x4,U (Bg ((VQ t).map W)),Qv (Oy vals),Qv [Zy X,Zy C],x8,x9,x10,x11,U (SO t k X C (ox ts)).v,I,Y,Y,Y,Y] τ:=by
 have e:NH (W (wq t 0)) (TK t (Sx ts))=U (RD (Sx ts 0)):=by rw[rD,agX t d.ht];rfl
 refine aL<|adJ d.ht y d.tr d.v d.o<|aL<|ak (tM d.ht (by decide:0<5))<|au H (aC (c:=3) aG H H) e ?_
 exact ac6 (kC d.tr 0) d.v d.o q R
def ac8(d:Drawn t ts vals a b)(hA:σ A=Y)(h:Dk (σ.set A (AA (ts.map RD))) D l τ)(q:∀R,Keeps σ R->Q (Bm J) R):
  (Nl (Na (n+16) 52) (PV.body.drop 12) (RT Q)).nx [x0,NG D,x2,RC (TK t (Sx ts)),x4,U (Bg ((VQ t).map W)),Qv (Oy vals),Qv [Zy a,Zy b],x8,x9,x10,x11,U (SO t 0 a b (ox ts)).v,Y,Y,Y,Y,Y] τ:=by
 refine aL<|bt ae ae h λw1 y τ h=>bt ae ae h λw2 I τ h=>⟨AN ae,?_⟩
 generalize hK:Nl (Na (n+16) 51) _ _=K
 have N:∀zs,zs=[Zy w1,Zy (w2*2)]->forL (Na (n+16) 50 lwW) (O2 (n+16) 50 (Eg 13)) K zs [x0,NG D,x2,RC (TK t (Sx ts)),x4,U (Bg ((VQ t).map W)),Qv (Oy vals),Qv [Zy a,Zy b],x8,x9,x10,x11,U (SO t 0 a b (ox ts)).v,Y,Y,Y,Y,Y] τ:=λzs ez=>by subst ez;refine u5 d.ht ae d.tr d.v d.o (BG d.ha ae:a<2147483648) (BG d.hb ae:b<2147483648) (by exact ax y aS) (λZ=>H) λk1 a1 b1 C x ha1 X=>(u5 d.ht x d.tr d.v d.o ha1 X (by exact ax (Ao I I) aS) (λe=>M9 e (by grind)) λk2 a2 b2 C hk2 ha2 hb2=>?_);subst hK;exact ac7 d hk2 (λc o e=>h.keep c o ((M5.aA _ λz=>aa<|aO (z▸hA) e).trans e):Keeps σ τ) q
 delta esK;dsimp only[Rt,X5,tupK,YY,R2,itemsOf,Yb];exact N _ H
variable{xs:List Int}
def ae7(y:xs.length<=63)(q:∀N,Keeps σ N->Q (Bm J) N):M8 B (n+17) 1032 [BB (xs.map Ar)] σ Q:=by
 refine ay H H<|cP (p:=Y) (q:=U (G 60)) H H H ⟨?_,Aw ?_⟩
 show(NP (xs.map Ar) Y (U 60)).length<=Nh;exact Aa (iI ..)<|Aa (Ap (Ak ..))<|Aa y ae
 rw[a9,<-Iq];refine bb (β:=Int) (f:=Ar) (g:=λi=>Q3 (i.fmod 1000000000000000000000000)) (xs.take 60) (λi Z c q=>?_) ?_;exact sG ⟨⟨H,H⟩,⟨by decide,q⟩⟩
 have e:(xs.take 60).filterMap (λi=>Q3 (i.fmod 1000000000000000000000000))=((xs.take 60).map λi=>i.fmod 1000000000000000000000000).map Ar:=by rw[LF,Bo];rfl
 have R:((xs.take 60).map λi=>i.fmod 1000000000000000000000000).length<=63:=by rw[Ak,F6];lia
 generalize((xs.take 60).map λi=>i.fmod 1000000000000000000000000)=cs at e R;rw[e];refine⟨(Aa (Ap (Ak ..)) (Aa R ae):(cs.map Ar).length<=Nh),Aw (iK H ?_)⟩;rw[<-DZ];refine⟨?_,AN λC x=>⟨H,Ac H,AN λD I=>?_⟩⟩;show(cs.reverse.map Ar).length<=Nh;rw[Ak,BH];exact Aa R ae;have h:=(Hs.nil.new (o:=AA (cs.reverse.map Ar)) x).new (o:=AE (XM C 0 6)) I;refine aaG (n:=n) (D:=D) ⟨C,0,cs.reverse,by rw[BH];exact Al R ae,h⟩ λt ts vals a b A l N x4 d X h=>(ac3 (n:=n) d (h.keep _ _ (M5.ag ..)) (aaK (n:=n) d (h.keep _ _ (M5.ag ..)) (ac8 (n:=n) d X h q)))
def o9:Clean ⟨Co "claim.caller" {},Y,Y,[],Y⟩:=⟨by show CO.contains "claim.caller"=Am;decide+kernel,λZ h=>nomatch h⟩
def ac9{prog:CZ}{w:Dy}{t:Sem Fin}{s:AZ}{R:F7->AZ->Prop}(X:s.asleep)
  (h:wpAny (model prog w) callerA t (λN s'=>∃f,N=CN f/\(R (CT f) s'/\leftWithCleanup s'.gens=Am)) (λe s'=>R (Hp e) s'/\leftWithCleanup s'.gens=Am) s):
  ∃n r s' y,runN (MP table) prog w n s ⟨t,Co "claim.caller" {},default,[]⟩=.halted (KC r) s'/\
   schedN (MP table) prog w n (.single s ⟨t,Co "claim.caller" {},default,[]⟩)=.halted (KC r) s'/\s'.forget=y.forget/\R r y:=by
 obtain⟨n,r,C,I,hs,hn,x,hR⟩:=wp_halts_full (M:=model prog w) (R:=R) (p:=default) (c:=Co "claim.caller" {}) (t:=t) X
  (HX _ _ _ (λN p' s' ⟨f,e,q⟩=>by subst e;exact q) (λZ Z Z q=>q) _ _ (h _ default caller_in o9))
 exact⟨n,r,I,C,hn,hs,x,hR⟩
end
def tN{c:ClaimW}{tree:LVal->Sem Fin}{w:Dy}{s:AZ}{free:AG->Prop}{gens:Prop}{I:Heap->Prop}(hz:s.asleep)(A:s.gens= #[])
  (X:∀args,c.pre args=J->MR args=J->
   ∀ord:List BY->List BY,(∀l,(ord l).Perm l)->
   ∃vs N,layAllW c.records (Lu s.heap) w.params ord args s=U (vs,N)/\
    wpAny (model c.prog w) callerA (tree vs) (λfin s'=>∃f,fin=CN f/\(c.Ends s args vs N (CT f) s'/\s'.os=s.os/\AllBare s'.gens/\I s'.heap))
     (λe s'=>c.Ends s args vs N (Hp e) s'/\s'.os=s.os/\AllBare s'.gens/\I s'.heap) N):
  c.CallFrom (λvs=>⟨tree vs,Co "claim.caller" {},default,[]⟩) w free gens I s:=λargs hpre hlay ord C=>
 (X args hpre hlay ord C).imp λvs h=>h.imp λN h=>⟨h.1,
  (ac9 (R:=λr s'=>c.Ends s args vs N r s'/\s'.os=s.os/\I s'.heap) (Shared.asleep_of_life (MQ _ _ _ h.1).2.2.2 hz)
   (ag1 h.2 (λfin s' q=>q.imp λf q=>⟨q.1,⟨q.2.1,q.2.2.1,q.2.2.2.2⟩,K1 q.2.2.2.1⟩) λe s' q=>⟨⟨q.1,q.2.1,q.2.2.2⟩,K1 q.2.2.1⟩)).imp λk q=>q.elim λr q=>⟨KC r,q.imp λs' q=>q.elim λs'' q=>
    have e:=Shared.forget_eq q.2.2.1
    ⟨q.2.1,(q.2.2.2.1.congr e.1).imp (λd=>d.imp λv d=>⟨M7 KC d.1,d.2.1,d.2.2.1,d.2.2.2.1,λb o y Z=>d.2.2.2.2.1 b o y,d.2.2.2.2.2⟩)
      (λd=>d.imp λe d=>d.imp λob d=>d.imp λcls d=>⟨M7 KC d.1,d.2.1,d.2.2.1,d.2.2.2.1,d.2.2.2.2.1,λb o y Z=>d.2.2.2.2.2 b o y⟩),
     λZ i x hx=>aa ((A▸H:Y=s.gens[i]?).trans hx),e.1.symm▸q.2.2.2.2.2,M7 _ ((runN_life _ _ _ q.1).trans (MQ _ _ _ h.1).2.2.2),Shared.rest_eq (e.2.2.2.1.trans q.2.2.2.2.1)⟩⟩⟩
abbrev Xm(q:CZ)(loose:NI)(XP:(Str->Option AM)->Heap->Prop)(YP:Dy->Heap->Prop)(r:RowW)(d:DefRec)(kwd:List (Str×AO))(run:AM->LVal->Sem AM):Prop:=
 ∀(w:Dy) (s₀ s₁:AZ) (mg mb:Str->Option AM),Ground q loose r.records XP w s₀ mg mb s₁.heap->YP w s₁.heap->∀(a:AG) (o:Obj) (pm cd doc dV kV:AM),s₁.heap.get? a=U o->
  o.data=.func {docDef d.name d.params d.body d.scope pm cd doc with defaults:=dV,kwdefaults:=kV}->s₁.heap.CodeRec cd d.name->Dflts mg s₁.heap d.params kwd dV kV->mg d.name=U (Ai a)->s₁.gens= #[]->
  ∀(args:List WData) (vals:LVal) (as:List AG),r.claim.pre args=J->MR args=J->ReadsAllW r.records (Lu s₀.heap) s₁.heap vals args as->Lv w.params s₁.heap vals args->(∀a∈as,(a==Ea)=Am)->
   wpAny (model r.prog w) callerA (run (Ai a) vals) (λv s'=>GoodWG r.claim (Lu s₀.heap) (HM s₀.heap) args s₁ (CT (Cr v)) s')
    (λe s'=>GoodWG r.claim (Lu s₀.heap) (HM s₀.heap) args s₁ (Hp e) s') s₁
def PySem.W.holds_open{r:OpenRow}{q:CZ}{C:NI}{Xt:AZ->Bool}{XP:(Str->Option AM)->Heap->Prop}{α:Type}{Yf:AZ->α}{Ya:Dy->α}{YP:Dy->Heap->Prop}{d:DefRec}{kwd:List (Str×AO)}{N:Nat}
  (left:LeftO r.prog q C Xt Yf Ya N) (hY:∀w s,Yf s=Ya w->YP w s.heap) (hYk:∀w h h',YP w h->(∀b o,h.get? b=U o->h'.get? b=U o)->YP w h')
  (hX:∀s,Xt s=J->XP (s.heap.nsMap CU) s.heap) (hXk:∀mg h h',XP mg h->(∀b o,h.get? b=U o->h'.get? b=U o)->XP mg h')
  (hdef:defOf q r.name=U (d,kwd)) (hp:r.prog.theDef r.name=U (d.params,d.body,d.scope)) (hk:kwWritten? d.params.kwonlyargs d.params.kw_defaults=U kwd) (hRf:∀s,Xt s=J->RecFacts r.records s.heap) (hwr:(!r.writes||r.records.isEmpty)=J)
  (k1:r.wellSaid=J) (ok:(chainsOk q&&opensWell r.prog&&(frees r.toRowW&&r.within.isEmpty))=J) (hb:r.prog.bare) (hw:r.toRowW.promised)
  (call:Xm q C XP YP r.toRowW d kwd λf vs=>PySem.call f vs):r.Holds:=by
 obtain⟨ok,k5⟩:=Ah.mp ok;obtain⟨hch,o1⟩:=Ah.mp ok;obtain⟨k5,k6⟩:=Ah.mp k5;obtain⟨hsame,hu,ha,hap,hm⟩:=frees_parts k5
 refine⟨k1,hw,⟨hb,o1,by show r.makers.map _=[];rw[hm];rfl⟩,hw.witness,λw=>⟨(left.behind hX hch w).1,λs' hs'=>((left.behind (XP:=λmg h=>XP mg h/\RecFacts r.records h) (λs hs=>⟨hX s hs,hRf s hs⟩) hch w).2 s' hs').imp λs₀ h=>⟨h.1,h.2.1,h.2.2.imp λs h=>?_⟩⟩⟩
 have R:=h.2.2.2.2.1;have G0:Ground q C [] XP w s (s.heap.nsMap CU) (s.heap.nsMap JD) s.heap:=⟨R.T,R.B,R.D,R.TE,R.TD,R.W,R.X.1,R.cls,R.has,R.apart,R.once,R.K⟩;have RF:=R.X.2;have hg:=h.2.2.2.1
 refine⟨h.1,λn hn=>?_,RF.1,RF.2.1,tN (c:=r.toRowW.claim) (tree:=λvs=>do match<-nsGet mainNs r.name with
   |some f=>do ret (<-PySem.call f vs)
   |none=>unsupported "claim.caller:no-such-global") h.2.1 (Jq (beq_iff_eq.mp h.2.2.1)) λy hpre hlay ord hord=>(DD.mp (layAllW_isSome (P:=w.params) (ord:=ord) (RF.ground G0).has y r.args s (pre_splitW hpre).1)).elim λp A=>⟨p.1,p.2,A,(reads_layAllW hord _ _ _ A hlay p.2.heap (λZ Z e=>e)).elim λas qr=>?_⟩⟩
 ·obtain rfl:n=r.name:=by split at hn<;>simp_all
  exact pinned_of_view hg G0 hdef hp hk
 have I:=layAllW_keeps _ _ _ A;have hal:=MQ _ _ _ A;have L:Laid r.records w s p.2 y p.1 as:=⟨⟨ord,hord,A⟩,qr.1,qr.2.1,qr.2.2,I,hal.1.trans (Jq (beq_iff_eq.mp h.2.2.1)),hal.2.2.1⟩;have G₁:=(RF.ground G0).keeps hXk I;refine(G₁.fn hdef).elim λa z=>z.elim λo z=>z.elim λpm z=>z.elim λcd z=>z.elim λdoc z=>z.elim λdV z=>z.elim λkV z=>agY<|up<|PySem.wpAny_nsGet G₁.T.g ?_
 rw[z.1];have fin:=λ{x s'} (g:GoodWG r.toRowW.claim (Lu s.heap) (HM s.heap) y p.2 x s')=>g.laid (c:=r.toRowW.claim) hsame (DE.mp k6) (ident_freeW hu ha hap) L
 exact agY (ag1 (call w s p.2 _ _ G₁ (hYk _ _ _ (hY w s h.2.2.2.2.2) I) a o pm cd doc dV kV z.2.1 z.2.2.1 z.2.2.2.1 z.2.2.2.2 (defOf_name hdef▸z.1) L.gens y p.1 as hpre hlay L.reads L.well (L.low (RF.ground G0).low))
  (λv s' g=>agZ ⟨_,H,(fin g).1,(fin g).2.1,(fin g).2.2,λq=>⟨namesKept_of h.1 hg r.keeps I g.2.1.old,noTable hwr q⟩⟩) λe s' g=>⟨(fin g).1,(fin g).2.1,(fin g).2.2,λq=>⟨namesKept_of h.1 hg r.keeps I g.2.1.old,noTable hwr q⟩⟩)
def Yg(h:Heap):=∃K,K.In h/\Facts K
abbrev wlM(P:He)(h:Heap)(v:AM):WData->Prop
 |.int i=>∃t,v=By i t
 |.list xs=>∃a vs,v=Ai a/\h.get? a=U (OG vs 0)/\Lv P h vs xs
 |_=>True
def wl(q:Well P h v d):wlM P h v d:=by cases q<;>first|exact Oq|exact⟨_,rfl⟩|exact⟨_,_,rfl,‹_›,‹_›⟩
abbrev waM(P:He)(h:Heap)(vs:LVal):List WData->Prop
 | []=>vs=[]
 |d::ds=>∃v r,vs=v::r/\Well P h v d/\Lv P h r ds
def wa(q:Lv P h vs ds):waM P h vs ds:=by
 cases q
 exact H;exact⟨_,_,H,‹_›,‹_›⟩
def xa{ns:List Int}:∀{vs},Lv P h vs (ns.map .int)->aE P x vs (ns.map Ar):=by
 induction ns with
 |nil=>exactλq=>(wa q:_=[])▸aE.nil
 |cons n ns N=>exactλ{vs} q=>(wa q).elim λv q=>q.elim λr q=>(wl q.2.1).elim λt e=>q.1▸e▸aE.cons (aq.int n t) (N q.2.2)
def aaL{x:St}{ns:List Int}(hf:∀a o,x.sh.heap.get? a=U o->Fz x a)(I:ns.length<=63)(q:Lv P x.sh.heap N [.list (ns.map .int)]):aE P x N [BB (ns.map Ar)]:=
 (wa q).elim λv q=>q.elim λr q=>(wl q.2.1).elim λa w=>w.elim λR w=>q.1▸w.1▸aE.cons (.lst a R 0 _ w.2.1 (hf a _ w.2.1) (by rw[Ak];exact Aa I ae) (xa w.2.2)) ((wa q.2.2:r=[])▸aE.nil)
def ada(h:WTm.value [] t c=U (.bool b)):WTm.value [] (.and (.not t) (.lit (.bool J))) c=U (.bool (!b)):=by
 simp only[WTm.value,h]
 cases b<;>rfl
def adb{l:OpenLaw}(I:l.most=U 63)(C:l.bound=Y)(N:l.row.toRowW.claim.pre args=J):∃ns:List Int,args=[.list (ns.map .int)]/\ns.length<=63:=by
 obtain⟨A,q⟩:=pre_splitW N;obtain⟨d1,r1,rfl,X,y⟩:=hasAllW_cons A;obtain rfl:=hasAllW_nil y;obtain⟨xs,rfl,x⟩:=hasW_list X;obtain⟨ns,rfl⟩:=items_int x;refine⟨ns,H,?_⟩;have e:WTm.holds [] l.pre {args:=[.list (ns.map .int)]}=J:=q;delta OpenLaw.pre at e;rw[I,C]at e
 unfold WTm.holds at e
 dsimp only at e;rw[(ada (b:=decide ((63:Int)<((ns.map WData.int).length:Int))) H)]at e
 cases R:decide ((63:Int)<((ns.map WData.int).length:Int))with
 |true=>rw[R]at e;exact M9 e Bh
 |false=>
  have:=Pd R;rw[Ak]at this
  omega
set_option tactic.hygienic true in
def ade{l:OpenLaw}{d:DefRec}(hm:l.most=U 63)(hb:l.bound=Y)(hd:d.name=CM "law")
  (F:∀B,Facts B.K->∀xs:List Int,xs.length<=63->M8 B 17 1032 [BB (xs.map Ar)] (λZ=>Y) (λz Z=>z=Bm J)):
  Xm q loose (λmg Z=>mg (CM "law")=U (Ai 1032)) (λZ h=>Yg h) l.row.toRowW d kwd λf vs=>call f vs:=by
 intro w I R mg mb N y a o pm cd doc dV kV ho hod hc hD hmg A args vals as hpre hlay hR hW has
 obtain rfl:a=1032:=by have e:=aO hmg (hd▸N.X);exact Value.ref.inj<|Af e
 obtain⟨ns,rfl,hl⟩:=adb hm hb hpre;obtain⟨K,hK,FK⟩:=y
 let B:Bx:=⟨l.prog,w,R.heap,R.os,R.gens,K,mg,mb,hK,N.T.g,N.T.b,N.T.nolimit,N.T.builtins,True⟩
 let x:Wd B:=⟨⟨R,λa=>∃o,R.heap.get? a=U o,λZ=>Y⟩,⟨λb o e=>⟨⟨H,o,e⟩,e⟩,λZ Z e=>aa e,λZ h=>⟨H,h⟩,H,H,Oq⟩⟩
 refine ag1 (F B FK ns hl x vals H (aaL (λa o e=>⟨H,o,e⟩) hl hW) callerA ⟨H,H,Ac H,Ac H⟩) (λv s' p=>aP.casesOn p λz e le r=>dS.casesOn r λzz a b=>?_) λZ Z f=>f.elim;subst e b;exact a.mA (C:=λv=>GoodWG l.row.claim (Lu I.heap) (HM I.heap) [WData.list (ns.map .int)] R (CT (Cr v)) z.sh)<|⟨Aw ⟨_,_,[],H,λZ=>H,ReadsW.bool J,by first|rfl|wrow_post,λZ=>⟨Cx,λZ hm=>(nomatch hm)⟩⟩,.of_keep λb o e=>(z.ok.base b o e).2,z.ok.os,.of_eq (z.ok.gens.trans A)⟩
def adf:∀w:Dy,((D7 w.params).isNs CU,(D7 w.params).objs.size,(D7 w.params).nsMap CU "__annotations__")=(J,11,U (.ref 6)):=by intro w;kernel_rfl
def adg:opening pw=plainProg pw.main.scope.names:=by kernel_rfl
def aaM:∀s,fenceModules? pw s=U s:=by intro s;kernel_rfl
abbrev hbF(s:AZ):List (Option (Fn×LV))×Bool:=(QN Pk s.heap,Tu (U5 s.heap))
def adh:LeftO pw Tv QP U6 hbF (λZ=>(QO Pk,J)) 7000:=aaW adg H aaM adf λw R=>by
 have N:=agr w R;have A:=ags w R;have X:=agt w R;have C:=agu w R;rw[<-Fast.te4187177175401517315]at N
 cases e:U4 w 7000 (Sq0 w R) (RP pw)with
 |none=>rw[e]at N;exact aa N
 |some s=>rw[e]at N A X C;have I:=Af N;have q:Tw w s.abs=J:=M7 (λx=>x.1) I;have b2:openSeen Tv QP (H8 pw.main.body) U6 J s.abs=_:=M7 (λx=>x.2.1) I;have y:Tu (U5 s.abs.heap)=J:=M7 (λx=>x.2.2) I;show U (_,_,hbF s.abs)=_;delta hbF;rw[q,b2,y,mC 50 (Af A) (mC 48 (Af X) (Af C))]
def Q1:DefRec×List (Str×AO):=(defOf Tv rw0.row.name).getD (⟨EG,default,[],pw.main.scope,default⟩,[])
def af4:defOf Tv rw0.row.name=U (Q1.1,Q1.2):=by kernel_rfl
def af5:rw0.row.prog.theDef rw0.row.name=U (Q1.1.params,Q1.1.body,Q1.1.scope):=by kernel_rfl
def af6:kwWritten? Q1.1.params.kwonlyargs Q1.1.params.kw_defaults=U Q1.2:=by kernel_rfl
def af7:Q1.1.name=CM "law":=by kernel_rfl
def af8:(chainsOk Tv&&opensWell rw0.row.prog&&(frees rw0.row.toRowW&&rw0.row.toRowW.within.isEmpty))=J:=by kernel_rfl
def af9:rw0.row.prog.bare:=⟨H,H,H,H,H,by
 delta Program.tablesWhole TablesWhole.wProgram TablesWhole.holds;rw[PySem.W.Fast.te6116379765354995101,PySem.W.Fast.te15985051520779696433];kernel_rfl⟩
def aga:rw0.row.toRowW.promised:=by w_on;w_witness2
def aaN{s:AZ}(h:U6 s=J):s.heap.nsMap CU (CM "law")=U (.ref 1032):=by
 delta U6 at h
 cases e:s.heap.nsMap CU (CM "law")with
 |none=>rw[e]at h;exact A9 h
 |some v=>
  rw[e]at h
  cases v<;>first|exact M7 (λa=>U (Ai a)) (BE h)|exact A9 h
def agb:Xm Tv QP (λmg Z=>mg (CM "law")=U (.ref 1032)) (λZ h=>Yg h) rw0.row.toRowW Q1.1 Q1.2 λf vs=>call f vs:=
 ade (l:=rw0) H H af7 (aaR λZ h=>ae7 (n:=0) h λZ Z=>H)
def top:HK.Holds:=holds_law ws λN=>Tp.PySem.W.holds_open adh
 (λZ s e=>⟨U5 s.heap,aaV _,xf (M7 (λx=>x.1) e) (M7 (λx=>x.2) e)⟩) (λZ Z Z h k=>h.imp λZ h=>⟨λa o e=>k a o (h.1 a o e),h.2⟩)
 (λZ h=>aaN h) (λZ Z Z h Z=>h) af4 af5 af6 (λZ Z=>recFacts_nil H) H N af8 af9 aga agb
end Tp
theorem PySem.Challenge.cw_rh0237_01_holds : PySem.Challenge.rw_rh0237_01.Holds :=
  Tp.top
