import PyProof.Rows.All
import Wide.All
import OpenK.AllK
import Wide.FinOn
import PyProof.SetKind
import PyProof.SetScanFacts
import PyProof.Rows.SetFrom
import PyProof.Rows.SortPure
import PyProof.FactsAll.set_1
import PyProof.CollectWalk
import PyProof.FactsAll.set_2
import PyProof.Rows.SortShell
import KE.KSortTup
import PyProof.Logic
import PyProof.P3Statements
import PyProof.StrCalls2
import PyProof.StrLawsTight
import KE.KIntText
import PyProof.Seq
import PyProof.RangeIter
import PyProof.DictIter
import PyProof.StrLoop
import PyProof.FactsCmp
import PyProof.CompFree
import PyProof.CompUse
import PyProof.Walks
import PyProof.WalksMore
import PyProof.Calls
import PyProof.ListOps
import PyProof.Cells
import PyProof.Rules2
import PyProof.Rules3
import PyProof.DictKinds
import PyProof.Ns1
import PyProof.StationsW
import PyProof.Rows.PlainStore
import PyProof.Rows.RuleB_floordiv
import PyProof.Rows.RuleB_mod
import PyProof.Rows.RuleB_sub
import PyProof.PureInt
import PyProof.AutoIntOps
import PyProof.Rows.Chain
import PyProof.MakeMany
import PyProof.TupleIter
import PyProof.TupleOps
import PyProof.Rows.TupMore
import PyProof.ListTruth
import PyProof.Truth
import PyProof.Rows.RuleU_int
import PyProof.Rows.IntRules
import PyProof.Rows.StrTemp
import PyProof.ListIndexNeg
import PyProof.Rows.StrRules
import PyProof.P3Eq
import PyProof.P3In
import PyProof.NeData
import PyProof.TupleKey
import PyProof.SliceList
import PyProof.ListMulRoad
import PyProof.DictStraight
import PyProof.StrLawsIn
import PyProof.StrOps
import PyProof.DefCall
import KE.KUnpack
import PyProof.RulesAssignMore
import PyProof.Raises
import PyProof.SeqWrite
import PyProof.ForAny
import PyProof.EnumFor
import PyProof.EnumMake
import PyProof.RangeFor
import PyProof.PvWalk
import PyProof.Boot
import PyProof.EnumStmt
import PyProof.StrWalks
import PyProof.DictWalks
import PyProof.TupleOfSeq
import PyProof.Rows.ListCopyD
import PyProof.WalkInts
import PyProof.Conv_int_bool
import PyProof.CallStr
import PyProof.IsiSeqPairs
import PyProof.IsiPairs
import PyProof.ForAppend
import KE.KItem
import PyProof.Dict
import PyProof.Rows.PlainObj
import PyProof.Rows.Own
import KE.KNest
import PyProof.ConsumeWalk
import PyProof.SliceStr2
import PyProof.SliceSyntax
import PyProof.LetGo
import PyProof.MeetsDictList
import PyProof.FString
import PyProof.Rows.StrJoin2
import PyProof.StrCalls3
import KE.KRevSl
import PyProof.MeetsStr3
import PyProof.ExcClass2
import PyProof.ExcBaseAll.ValueError
import PyProof.InstStoreFacts
import PyProof.RulesAs
import PyProof.Rows.AttrNodeAny
import PyProof.Rows.Method
import PyProof.NsDelKeeps
import PyProof.IsInstance
import KE.KLam
import KE.KDictSum
import PyProof.Rows.CallKwBuiltin
import Wide.Tac
import KE.IntTextLaws
import PyProof.Rows.ReprOcc
import PyProof.Rows.StrItems
import PyProof.FitsInt
import PyProof.Rows.StrBin
import PySem.Challenge.RW_uf030015_14
open List renaming length_map→AA,length_append→AI,mem_cons_self→AL,mem_singleton→AM,getElem?_eq_getElem→AO,getElem?_eq_some_iff→AP,mem_map→Ab,mem_cons_of_mem→Ad,mem_of_getElem?→Ae,map_append→Ai,getElem?_append_right→Ak,mem_append→An,mem_cons→Ao,append_assoc→Aq,range→Ar,getElem?_map→As,getD_eq_getElem?_getD→Ay,getElem?_append_left→A3,prefix_refl→A5,mem_append_right→BB,all_eq_true→BF,lookup_cons→BL,not_mem_nil→BU,length_range→BV,map_map→BW,pairwise_append→BY,length_reverse→BZ,cons_ne_nil→Bi,append_nil→Bl,length_cons→Bn,length_eq_zero_iff→By,take_length→Bz,length_take→B2,map_cons→B6,toArray→B8,length_drop→CC,range'→CL,size_toArray→CT,prefix_append→CU,length_singleton→CV,pairwise_singleton→CX,map_congr_left→CZ,mem_append_left→Cg,getElem?_concat_length→Co,length_filter_le→Cw,map_eq_nil_iff→Cy,getElem_mem→Dc,take_of_length_le→Dd,pairwise_iff_getElem→Dh,contains_iff_mem→Dk,mem_range→Dl,replicate→Dm,mem_filter→Dp,nodup_cons→Ds,length_set→Dt,forall_mem_cons→Dz,mem_of_mem_take→D0,filter_cons_of_neg→D3,count_append→D9,getElem?_eq_none→EP,pairwise_cons→EU,drop_length→EV,ext_getElem?→Eo,forIn_cons→Eu,extract_eq_take_drop→FW,drop_eq_getElem_cons→FX,range_eq_range'→Fg,any_cons→Fu,mem_map_of_mem→GB,nodup_nil→GF,filter_cons_of_pos→GG,foldl_cons→Gj,length_nil→Gk,take_append_drop→Gp,nodup_append→G5,exists_cons_of_ne_nil→HQ,getElem?_zip_eq_some→Hj,zip_cons_cons→H3,count_eq_zero→H4,pairwise_map→Ia,getElem?_set_self→Ib,pairwise_reverse→JE,range'_succ→JG,map_take→JR,mem_iff_getElem→JT,getElem?_set_ne→JW,mem_of_mem_drop→JY,dropLast_concat_getLast→Jm,toList_toArray→J7,drop_zero→KZ,length_range'→Ka,mem_filterMap→Kb,reverse_cons→K4,map_drop→K8,getElem_map→Ld,append_cancel_left→Lh,map→Li,append_eq_nil_iff→Lr,drop_eq_nil_of_le→Ls,range_succ→MX,nil_append→MZ,find?_cons→Ma,length_zip→Mb,set_append_right→Ms,getElem?_range'→NI,rec→NJ,take_zero→NK,length_take_le'→NL,sum_cons→OR,getElem_range→OT,take_sublist→Pa,drop_sublist→Pb,reverse_perm→Pc,take_add_one→Pf,append_cons→QC,mem_reverse→QD,drop→QF,any_eq_true→QG,take→QJ,length→RY,filter_map→Rj,drop_take→Tc,mem_take_iff_getElem→U2,mem_drop_iff_getElem→U3,drop_nil→VJ,filterMap_cons_none→VL,filterMap_cons_some→VM,head_eq_of_cons_eq→Wy,pairwise_lt_range→W4,filter_eq_nil_iff→W8,any_map→XA,set_set→XB,map_nil→XE,map_id'→XF,range_succ_eq_map→XG,getElem?_reverse→ZW,perm_append_comm→Za,range'_append_1→bf,lookup→bk,map_id→bo,set_append_left→bp,dropLast_concat→bq,count_le_length→bu,filter_eq_self→eV,getElem?_range→fA,length_take_le→fD,flatMap_append→fF,length_pos_iff→fG,foldl→fT,contains_cons→fX,lookup_append→fY,filter_append→f6,flatten_cons→mu
open PySem renaming wpAny_bind→AB,wpAny_pure→AS,Value→AV,Shared→Aj,wpAny→Am,wpAny_mono→Ax,Around→Bb,Scope→Bq,wpAny_holding→Bt,rawInt→Cc,wpAny_call_entry→Ck,model→Cz,bootBuiltins→DA,wpAny_callSpecial?_slot→DE,wpAny_newObj_type→DI,Program→DU,mainGlobals→De,wpAny_field→Df,wpAny_setField→Dx,starEach→Ef,wpAny_items_cons→El,wpAny_execs_cons→Em,wpAny_standAt→Ep,attributeBase→Er,wpAny_attempt→FL,builtinLookup_eq_fast→Ff,sizeLine_eq→F8,PyData→GP,wpAny_rule→G4,typeIs_str→G8,codeAny_builtin→HH,typeLookup_type→HI,sizeLine→HL,wpAny_items_nil→HM,ExceptHandler→HP,wpAny_setState_of→HZ,wpAny_assign_Name→Ha,wpAny_Return_some→Hb,foldedSetIterable→Hc,callEnvC→Hs,backTo→IS,World→IW,sliceBounds→I1,wpAny_Call_method1_late→I2,Arguments→I3,intKind→JM,wpAny_truthy_bool→JQ,scanBound→J4,pyNext→J5,wpAny_isInstance→J6,holding→J9,setField→KG,CmpOp→Kj,length_partsBetween→Kk,codeAny_mono→K3,SetTable→LS,builtinsNs→LV,wpAny_Constant_str→LW,assignEach→LX,fits_of_scanBound→Lo,codeAny→Lp,Model→Lq,wpAny_newList→MW,ClsRec→Mc,evalEach→M6,swapsWith→M7,Builtin→Nk,relabel→Nq,wpAny_execs_nil→Nv,codeAny_handlers_test→OQ,relayAll→O8,firstArgMember→O9,wpAny_loadName_local→PC,letTemporaryGo→PD,slicePicked→PG,strsFrom→PH,NameKind→PJ,wpAny_Assign_stores→Pn,wpAny_isSubtype_exc→Pp,wpAny_handleBy_cons→Pt,plainId_quiet→QB,typeLookup→RW,call_meets→RZ,strKind_is→Ra,IsPart→Rb,wpAny_pyIter_list→SH,wpAny_typeOf→SI,Operator→SM,getItem→SO,valueAt→SP,standAt→SQ,wpAny_loadPart_at→SU,treeTable→U1,wpAny_askSetting→U5,compareOp→U7,wpAny_of_eq→VF,wpAny_throw→VG,IsRangeIter→VH,wpAny_typeNameOfWhole_keyiter→VI,wpAny_specialOf→Wt,setNext→W5,FuncData→ZP,wpAny_runValue→ZQ,isSubtype_stop→ZR,wpAny_seqItems→ZS,wpAny_newTuple→ZT,sysModules→Zb,truthy→Zd,callWith→Ze,size_glued→Zf,wpAny_typeNameOf_keyiter→eW,wpAny_getItem_list_slice→e7,wpAny_comprehension_free→e9,pickOrder→fQ,field→fS,storeName→fU,setFlight→fV,wpAny_list_append_plain→fW,ElemsOf→mU,pyIter→mW,spliced→m7,isTrue→m8,operate→m9,assign→mf,codeAny_handlers_suite→mh
open Nat renaming le_trans→AF,lt_of_lt_of_le→Ac,sub_add_cancel→Ag,lt_of_le_of_lt→Al,le_of_ble_eq_true→Ap,le_refl→Az,le_add_right→A0,le_of_lt→A4,le_antisymm→BC,add_sub_cancel_left→BI,add_le_add→BJ,zero_le→BM,zero_add→Be,ne_of_lt→Bo,ne_of_gt→Bu,not_lt→B1,mul_le_mul_right→B4,lt_trans→B9,lt_add_of_pos_right→CJ,le_of_eq→CK,add_le_add_left→CO,zero_lt_succ→CS,min_le_left→Ce,add_comm→Ci,le_succ→Cx,min_eq_left→C3,min_eq_right→C6,min_le_right→C7,succ_le_succ→C8,add_le_add_right→DH,le_add_left→DP,succ_ne_zero→DS,add_right_comm→DY,add_sub_cancel→DZ,not_le→Dj,not_lt_zero→Dv,succ_lt_succ→D4,lt_succ_of_lt→ED,sub_pos_of_lt→EE,lt_succ_self→EZ,add_assoc→Ed,add_sub_cancel'→E2,lt_irrefl→FA,le_of_lt_succ→Fj,le_succ_of_le→Fm,sub_self→Fo,lt_or_ge→Fp,lt_or_gt_of_ne→GZ,sub_le→Ga,one_pos→HX,add_lt_add_left→Hq,lt_or_eq_of_le→IQ,exists_eq_add_of_le→IU,eq_zero_of_not_pos→Iq,lt_of_succ_lt_succ→Ir,succ_pos→It,le_of_succ_le→Iu,max_eq_right→JO,le_max_right→JP,sub_eq_of_eq_add→Jg,toDigits→KO,lt_of_le_of_ne→Kh,lt_of_succ_lt→K6,sub_lt→MY,le_div_iff_mul_le→M5,add_lt_add_right→Nj,beq→Nw,add_zero→Pk,zero_lt_of_lt→Pl,mul_zero→Pw,le_of_not_lt→RU,one_mul→Rg,mul_le_mul→VB,succ_add_eq_add_succ→Wx,sub_zero→ZX,sub_add_min_cancel→Zh,sub_eq_zero_of_le→bg,div_lt_of_lt_mul→eO,succ_lt_succ_iff→eX,sub_sub→fB,mul_one→fE,sub_lt_sub_left→f7,mul_le_mul_left→fb,lt_min→mS,lt_of_lt_of_eq→mT,mod_lt→mX,pos_of_ne_zero→m4,le_min→m5
open Option.some renaming inj→AG
open PySem.Str renaming ofString→AH,join→Cr,length_append→DV,append_assoc→D5,empty→IV
open Bool renaming and_eq_true_iff→AJ,false_ne_true→BD,and_eq_true→BK,eq_false_iff→BQ,not_eq_true'→CB,or_eq_true_iff→GA,true_and→Hy,and_false→Ie,or_eq_false_iff→JX,false_and→Kc,false_eq_true→Kd,or_false→OP,or_eq_true→Rh,or_true→XC
open PySem.Heap renaming get?_push_of_some→AN,get?_push_size→Aw,get?_update_other→B0,lt_size→B7,get?_update_ne→CN,get?_update_self→Cv,size_push→DO,SameBut→HY,ExtBut→JU,size_update→QH,get?→Ww,get?_none_of_le→bc
open Int renaming natCast_nonneg→AQ,le_trans→Au,toNat_natCast→A6,ofNat_le→A9,ofNat_lt→BH,emod_lt_of_pos→Bw,not_lt→CG,lt_of_lt_of_le→Cn,le_of_lt→C0,natCast_add→C2,emod_nonneg→C4,le_antisymm→C5,le_refl→DG,lt_of_le_of_lt→DK,le_of_eq→EC,toNat_of_nonneg→EH,lt_trans→Ee,ne_of_lt→E9,not_le→FI,sub_nonpos_of_le→Fi,add_zero→Hi,zero_add→Ip,lt_irrefl→JV,add_le_add_left→J8,ne_of_gt→KN,lt_or_eq_of_le→Ki,lt_add_of_pos_right→Ln,add_comm→MU,lt_or_le→Md,add_le_add_right→Np,add_assoc→OS,mul_nonpos_of_nonneg_of_nonpos→O7,neg_one_mul→SF,min_eq_left→SR,le_add_of_nonneg_right→U8,zero_mul→ZO,toNat_lt→Zg,emod_add_mul_ediv→br,ediv_lt_of_lt_mul→bt,mul_one→eM
open Option renaming some_ne_none→AY,map_eq_some_iff→Av,bind_eq_some_iff→B3,isNone_iff_eq_none→DF,none→HC,map_some→Hr,map→I0,isSome_iff_exists→Km
open Array renaming length_toList→A1,getElem?_toList→BA,getElem?_eq_getElem→Bp,getElem_mem→CH,toList_append→CM,getElem?_eq_none→CQ,getD_eq_getD_getElem?→DT,getElem?_eq_some_iff→D8,toList_push→Fd,getElem?_setIfInBounds_ne→Fv,getElem?_setIfInBounds_self_of_lt→G9,toList_extract→HK,toArray_toList→HN,eq_empty_of_size_eq_zero→JF,ext'→KH,getElem?_append_left→KI,getElem?_map→KJ,mk→M3,getElem?_range→M8,append_empty→OK,append_assoc→OL,size_append→PA,toList_inj→Pu,range→QA,getElem?_append_right→Rf,reverse_reverse→W7,toList_reverse→ZZ,extract_zero→eU,forIn_toList→ee,toList_map→m6,all_toList→mq
open Or renaming elim→A7
open PyProof.Rows renaming SortSt→BN,wpS_pure→BX,wpS_bind→Bd,seqObj→Bm,arrOf→Cd,Keyed→EM,get?_update_seq→E8,IntsAre→GW,failedOf→Gb,slot_tuple_getitem→Hx,wpS_forRange→H0,tail_any→H2,listUpdate_at→IX,IntsAre→JN,wpS_modify→LU,lt_int→Lf,markedEach_of_false→Mt,recsOf→Nr,wpAny_operate'→OM,wpAny_release'→ON,slicePart_none→OO,seqEpoch_at→PK,pendingOf→Pe,Subscript_→Pm,minRun'→SJ,ClsAt→Tb,entry_list_sort→Wu,wpS_get→W6,slot_list_sort→ZU,sortedHeap→ZV,gallopOf→ZY,sortedAll→fZ,plain_sorted→mY,entry_sorted→mZ,listItems_at→mi
open PySem.Value renaming none→Ba,ref→Cm,type→SG,int→VE,isStrOf_shape→bj,isInt_shape→fP
open Classical renaming or_iff_not_imp_left→Bc,em→Nn,byContradiction→QI
open PySem.Obj renaming mapSeq→Bh,mapFields→F5,data_mapFields→IT,data→Iv,cls→Zc,isFreed_of_fields→bh,putSet→mV
open PySem.PyData renaming strOk→Br,canLayAll0→FY,eqv→Le,canLay0→Ri,list→W9
open PySem.W renaming kas_item→CY,boot_heap→D7,kas_rev→G6,boot_drawn→LR,boot_toks→M4,kas_st→Nm,kas_cmp→SK,kla_obj→XD
open PySem.NameKind renaming free→DM,cell→Hd
open PySem.Builtin.Str renaming occurrences→Dg,partsBetween→F9,occurrences→QE,strSub→mv
open PySem.Txt renaming split→EG,endswith→KL
open Int.ofNat renaming inj→EN
open List.Perm renaming refl→ET,of_eq→K7,append_left→TZ,cons→eQ
open PySem.Heap.SameBut renaming update→Ea,refl→U4
open Nat.succ renaming inj→Et
open PySem.Calls renaming evalArgs_plain→Ez,callWith_builtin→FV,spliced_cons→K5,call_function_entry→Ta,spliced_nil→VK
open PySem.SetTable renaming below→E3,grown→Gn,Probe→fN,turns→fO
open ForInStep renaming yield→FF
open PyProof.Rows.SortSt renaming mk'→Fh
open PySem.SetTable.below renaming go→F7
open OfNat renaming ofNat→GQ
open PySem.Builtin.Slice renaming slicePlaces→Gm,sliceAdjust→OU
open List.Pairwise renaming imp_of_mem→G7,nil→TY
open PySem.Builtin.Tuple renaming tupleExact→HA
open PySem.Around renaming under_plainId→HB
open Ne renaming symm→HJ
open PySem.F renaming called_set→Hp,args_str_split_2→Po,entry_str_split→Rc,slot_str_ascii_iterator_next→SN,slot_str_split→SS,slot_dict_keyiterator_next→U6,slot_range_iterator_next→Wv
open PySem.StrLaws renaming occ_length_le→Ic,occBody→SV,partsFrom→U9,join_length_le→VA,glued_eq_join→fC
open PySem.SetTable.probe renaming go→JL
open PySem.Heap.IsSliceOf renaming new→Lg
open PySem.Builtin.Int renaming intBits→Lm
open PyProof.Rows.F renaming plain_set_update_loop→MV,entry_set_update_loop→bb
open Except.ok renaming inj→Mu
open PySem.pickOrder renaming go→Nl
open PyProof.Rows.IntsAre renaming length→RV
open List.cons renaming inj→RX
open PySem.Value.ref renaming inj→Rd
open Char renaming toNat→Td
open StateT renaming run_pure→mj
set_option Elab.async false
set_option compiler.extract_closed false
set_option backward.match.sparseCases false
set_option hygiene false
set_option linter.all false
set_option bootstrap.genMatcherCode false
set_option maxRecDepth 100000 in
theorem Mine.Internal.uG : PySem.Challenge.rw_uf030015_14.wellSaid = true := by decide +kernel

namespace Mine.Internal
set_option genSizeOf false
set_option genInjectivity false
set_option genCtorIdx false
inductive AE where
 |v (i:Nat) | n (k:Nat) | a (x y:AE) | s (x y:AE) | m (k:Nat) (x:AE) | g (x:AE)
inductive yH(u:Unit) where | le | lt | eq | qe | nE | bZ
abbrev AK:=yH ()
inductive AR where
 |e
 |w (k:Nat) (t:AR)
 |c (k:AK) (x y:AE) (t:AR)
noncomputable def AR.l(x y:AE)(t:AR):AR:=.c .le x y t
noncomputable def AR.t(x y:AE)(t:AR):AR:=.c .lt x y t
noncomputable def AR.q(x y:AE)(t:AR):AR:=.c .eq x y t
noncomputable def AR.p(x y:AE)(t:AR):AR:=.c .qe x y t
noncomputable def AR.m(x y:AE)(t:AR):AR:=.c .nE x y t
noncomputable def AR.o(x y:AE)(t:AR):AR:=.c .bZ x y t
noncomputable def AE.v0:AE:=.v 0
noncomputable def AE.v1:AE:=.v 1
noncomputable def AE.v2:AE:=.v 2
noncomputable def AE.v3:AE:=.v 3
noncomputable def AE.v4:AE:=.v 4
noncomputable def AE.v5:AE:=.v 5
noncomputable def AE.v6:AE:=.v 6
noncomputable def AE.v7:AE:=.v 7
noncomputable def AE.n0:AE:=.n 0
noncomputable def AE.n1:AE:=.n 1
noncomputable def AE.n2:AE:=.n 2
noncomputable def AE.n3:AE:=.n 3
noncomputable def av(l:List Int):Nat->Int
 | 0=>l.headD 0
 |i+1=>av l.tail i
noncomputable def wy(l:List Nat):Nat->Nat
 | 0=>l.headD 0
 |i+1=>wy l.tail i
noncomputable def AE.di(l:List Int):AE->Int
 | .v i=>av l i
 | .n k=>(k:Int)
 | .a x y=>x.di l+y.di l
 | .s x y=>x.di l-y.di l
 | .m k x=>(k:Int)*x.di l
 | .g x=>-x.di l
noncomputable def AE.dn(l:List Nat):AE->Nat
 | .v i=>wy l i
 | .n k=>k
 | .a x y=>x.dn l+y.dn l
 | .s x _=>x.dn l
 | .m k x=>k*x.dn l
 | .g x=>x.dn l
noncomputable def AE.pos:AE->Bool
 | .v _=>true
 | .n _=>true
 | .a x y=>x.pos&&y.pos
 | .s _ _=>false
 | .m _ x=>x.pos
 | .g _=>false
noncomputable def pa:List Int->List Int->List Int
 | [],q=>q
 |a::p,q=>(a+q.headD 0)::pa p q.tail
noncomputable def pm(k:Int)(p:List Int):List Int:=p.map (k*·)
noncomputable def pu:Nat->List Int
 | 0=>[1]
 |i+1=>0::pu i
noncomputable def AE.p:AE->List Int
 | .v i=>0::pu i
 | .n k=>[(k:Int)]
 | .a x y=>pa x.p y.p
 | .s x y=>pa x.p (pm (-1) y.p)
 | .m k x=>pm k x.p
 | .g x=>pm (-1) x.p
noncomputable def ev(l:List Int):List Int->Int
 | []=>0
 |a::p=>a*l.headD 0+ev l.tail p
theorem Vg:∀(p q l:List Int),ev l (pa p q)=ev l p+ev l q:=λp=>by
 induction p with
 |nil=>exact λq l=>(Ip _).symm
 |cons a p B=>
  intro q l
  cases q with
  |nil=>show (a+0)*_+ev l.tail (pa p [])=(a*_+ev l.tail p)+0;rw[B,Hi,Hi];exact congrArg (_+·) (Hi _)
  |cons b q=>show (a+b)*_+ev l.tail (pa p q)=(a*_+_)+(b*_+_);rw[B,Int.add_mul,OS,OS,Int.add_left_comm (b*_)]
theorem Sn(k:Int):∀(p l:List Int),ev l (pm k p)=k*ev l p:=λp=>by
 induction p with
 |nil=>exact λl=>(Int.mul_zero k).symm
 |cons a p B=>exact λl=>(congrArg (k*a*l.headD 0+·) (B l.tail)).trans (by rw[Int.mul_assoc];exact(Int.mul_add ..).symm)
theorem uh:∀(i:Nat) (l:List Int),ev l (pu i)=av l i:=λi=>by
 induction i with
 |zero=>exact λl=>(Hi _).trans (Int.one_mul _)
 |succ i B=>exact λl=>(congrArg (·+ev l.tail (pu i)) (ZO _)).trans ((Ip _).trans (B _))
theorem AE.ev(e:AE)(l:List Int):Mine.Internal.ev (1::l) e.p=e.di l:=by
 induction e with
 |v i=>exact(congrArg (·+_) (ZO _)).trans ((Ip _).trans (uh i l))
 |n k=>exact(Hi _).trans (eM _)
 |a x y B hy=>exact(Vg ..).trans (by rw[B,hy];rfl)
 |s x y B hy=>exact(Vg ..).trans (by rw[Sn,B,hy,SF];rfl)
 |m k x B=>exact(Sn ..).trans (by rw[B];rfl)
 |g x B=>exact(Sn ..).trans (by rw[B];exact SF _)
def AK.i:AK->Int->Int->Prop
 | .le,x,y=>x<=y
 | .lt,x,y=>x<y
 | .eq,x,y=>x=y
 | .qe,x,y=>x=y
 | .nE,x,y=>¬x<=y
 | .bZ,x,y=>¬x<y
def AK.n:AK->Nat->Nat->Prop
 | .le,x,y=>x<=y
 | .lt,x,y=>x<y
 | .eq,x,y=>x=y
 | .qe,x,y=>x=y
 | .nE,x,y=>¬x<=y
 | .bZ,x,y=>¬x<y
noncomputable def AK.p:AK->List Int->List Int->List Int
 | .le,x,y=>pa x (pm (-1) y)
 | .lt,x,y=>pa [1] (pa x (pm (-1) y))
 | .eq,x,y=>pa x (pm (-1) y)
 | .qe,x,y=>pa y (pm (-1) x)
 | .nE,x,y=>pa [1] (pa y (pm (-1) x))
 | .bZ,x,y=>pa y (pm (-1) x)
noncomputable def AK.q:AK->List Int->List Int->List Int
 | .le,x,y=>AK.p .nE x y
 | .lt,x,y=>AK.p .bZ x y
 | .nE,x,y=>AK.p .le x y
 | .bZ,x,y=>AK.p .lt x y
 |_,_,_=>[]
theorem Qs(x y l:List Int):ev l (pa x (pm (-1) y))=ev l x-ev l y:=by rw[Vg,Sn,SF];rfl
theorem Zi(x y l:List Int):ev (1::l) (pa [1] (pa x (pm (-1) y)))=1+(ev (1::l) x-ev (1::l) y):=by rw[Vg,Qs];rfl
theorem aH{x y:Int}(h:x<y):1+(x-y)<=0:=by rw[<- Int.add_sub_assoc,MU];exact Fi h
theorem AK.ok{k:AK}{x y l:List Int}(h:k.i (ev (1::l) x) (ev (1::l) y)):ev (1::l) (k.p x y)<=0:=by
 cases k with
 |le=>exact Au (EC (Qs ..)) (Fi h)
 |lt=>exact Au (EC (Zi ..)) (aH h)
 |eq=>exact Au (EC (Qs ..)) (Fi (EC h))
 |qe=>exact Au (EC (Qs ..)) (Fi (EC h.symm))
 |nE=>exact Au (EC (Zi ..)) (aH (Int.lt_of_not_ge h))
 |bZ=>exact Au (EC (Qs ..)) (Fi (Int.le_of_not_gt h))
theorem AK.no{k:AK}{x y l:List Int}(h:¬ev (1::l) (k.q x y)<=0):k.i (ev (1::l) x) (ev (1::l) y):=by
 cases k with
 |le=>exact CG.mp λz=>h (AK.ok (k:=.nE) (FI.mpr z))
 |lt=>exact FI.mp λz=>h (AK.ok (k:=.bZ) (CG.mpr z))
 |eq=>exact absurd (DG 0) h
 |qe=>exact absurd (DG 0) h
 |nE=>exact λz=>h (AK.ok (k:=.le) z)
 |bZ=>exact λz=>h (AK.ok (k:=.lt) z)
noncomputable def pz(b:Bool):List Int->Bool
 | []=>true
 |a::p=>(bif b then decide (0<=a) else decide (a=0))&&pz b p
noncomputable def AR.k(b:Bool):AR->Nat->List Int->Bool
 | .e,_,[]=>false
 | .e,_,a::p=>decide (0<a)&&pz b p
 | .w k t,_,d=>t.k b k d
 | .c k x y t,n,d=>t.k b 1 (pa (pm n (k.p x.p y.p)) d)
def AR.i(l:List Int):AR->Prop->Prop
 | .e,G=>G
 | .w _ t,G=>t.i l G
 | .c k x y t,G=>k.i (x.di l) (y.di l)->t.i l G
def AR.n(l:List Nat):AR->Prop->Prop
 | .e,G=>G
 | .w _ t,G=>t.n l G
 | .c k x y t,G=>k.n (x.dn l) (y.dn l)->t.n l G
noncomputable def AR.pos:AR->Bool
 | .e=>true
 | .w _ t=>t.pos
 | .c _ x y t=>x.pos&&(y.pos&&t.pos)
theorem vV:∀{p l:List Int},(b=true->∀i,0<=av l i)->pz b p=true->0<=ev l p:=λ{p}=>by
 induction p with
 |nil=>exact λ_ _=>DG 0
 |cons a p F=>
  intro l B h
  have h:=(BK _ _).mp h
  refine Int.add_nonneg ?_ (F (λe i=>B e (i+1)) h.2)
  cases b with
  |true=>exact Int.mul_nonneg (of_decide_eq_true h.1) (B rfl 0)
  |false=>rw[of_decide_eq_true h.1,ZO];exact DG 0
theorem AR.ok{b:Bool}{l:List Int}(F:b=true->∀i,0<=av l i){G:Prop}(r:AR):∀(k:Nat) (D:List Int),r.k b k D=true->(¬ev (1::l) D<=0->G)->r.i l G:=by
 induction r with
 |e=>
  intro k D h g
  cases D with
  |nil=>cases h
  |cons a p=>
   have h:=(BK _ _).mp h
   exact g (FI.mpr (Cn (of_decide_eq_true h.1) (Au (EC ((eM a).symm.trans (Hi _).symm)) (J8 (vV F h.2) _))))
 |w k t B=>exact λ_ D=>B k D
 |c k x y t B=>
  intro n D h g p
  refine B 1 _ h λz=>g λM=>z ?_
  rw[Vg,Sn]
  rw[<- AE.ev,<- AE.ev] at p
  exact Int.add_le_add (O7 (AQ n) (AK.ok p)) M
theorem t9(l:List Int)(g:AK)(x y:AE)(r:AR)(h:r.k false 1 (g.q x.p y.p)=true):r.i l (g.i (x.di l) (y.di l)):=
 AR.ok (b:=false) (λe=>by injection e) r 1 _ h λz=>by rw[<- AE.ev,<- AE.ev];exact AK.no z
theorem qK(l:List Int)(r:AR)(h:r.k false 1 []=true):r.i l False:=AR.ok (b:=false) (λe=>by injection e) r 1 _ h λz=>z (DG 0)
theorem UI:∀(i:Nat) (l:List Nat),av (l.map Nat.cast) i=(wy l i:Int):=λi=>by
 induction i with
 |zero=>exact λl=>by cases l <;> rfl
 |succ i B=>exact λl=>by cases l with
  |nil=>exact B []
  |cons a l=>exact B l
theorem AE.cast(l:List Nat)(e:AE)(h:e.pos=true):e.di (l.map Nat.cast)=(e.dn l:Int):=by
 induction e with
 |v i=>exact UI i l
 |n k=>rfl
 |a x y B hy=>have h:=(BK _ _).mp h;exact(congr (congrArg HAdd.hAdd (B h.1)) (hy h.2)).trans (C2 ..).symm
 |s x y=>cases h
 |m k x B=>exact(congrArg (HMul.hMul _) (B h)).trans (Int.natCast_mul ..).symm
 |g x=>cases h
theorem AK.cast{k:AK}{x y:Nat}:k.n x y↔k.i x y:=by
 cases k with
 |le=>exact A9.symm
 |lt=>exact BH.symm
 |eq=>exact Int.ofNat_inj.symm
 |qe=>exact Int.ofNat_inj.symm
 |nE=>exact not_congr A9.symm
 |bZ=>exact not_congr BH.symm
theorem AR.cast{l:List Nat}{G:Prop}(r:AR)(h:r.pos=true)(q:r.i (l.map Nat.cast) G):r.n l G:=by
 induction r with
 |e=>exact q
 |w k t B=>exact B h q
 |c k x y t B=>
  intro p
  have h:=(BK _ _).mp h
  have h':=(BK _ _).mp h.2
  refine B h'.2 (q ?_)
  rw[AE.cast l x h.1,AE.cast l y h'.1];exact AK.cast.mp p
theorem qx(l:List Nat)(w:Nat)(g:AK)(x y:AE)(r:AR)(h:((AR.c g x y r).pos&&r.k true 1 (pm w (g.q x.p y.p)))=true):r.n l (g.n (x.dn l) (y.dn l)):=by
 have h:=(BK _ _).mp h
 have a:=(BK _ _).mp h.1
 have b:=(BK _ _).mp a.2
 refine r.cast b.2 (AR.ok (λ_ i=>?_) r 1 _ h.2 λz=>?_)
 .rw[UI];exact AQ _
 .rw[AK.cast,<- AE.cast l x a.1,<- AE.cast l y b.1,<- AE.ev,<- AE.ev]
  exact AK.no λu=>z (by rw[Sn];exact O7 (AQ w) u)
theorem YM(l:List Nat)(r:AR)(h:(r.pos&&r.k true 1 [])=true):r.n l False:=by
 have h:=(BK _ _).mp h
 exact r.cast h.1 (AR.ok (λ_ i=>by rw[UI];exact AQ _) r 1 _ h.2 λz=>z (DG 0))
theorem Ec(g:AK)(x y:AE)(r:AR)(h:((AR.c g x y r).pos&&r.k true 1 (pm (1:Nat) (g.q x.p y.p)))=true):r.n [a] (g.n (x.dn [a]) (y.dn [a])):=qx [a] 1 g x y r h
theorem N6(r:AR)(h:(r.pos&&r.k true 1 [])=true):r.n [a] False:=YM [a] r h
theorem Im(g:AK)(x y:AE)(r:AR)(h:r.k false 1 (g.q x.p y.p)=true):r.i [a] (g.i (x.di [a]) (y.di [a])):=t9 [a] g x y r h
theorem vc(r:AR)(h:r.k false 1 []=true):r.i [a] False:=qK [a] r h
theorem Dy(g:AK)(x y:AE)(r:AR)(h:((AR.c g x y r).pos&&r.k true 1 (pm (1:Nat) (g.q x.p y.p)))=true):r.n [a,b] (g.n (x.dn [a,b]) (y.dn [a,b])):=qx [a,b] 1 g x y r h
theorem yJ(w:Nat)(g:AK)(x y:AE)(r:AR)(h:((AR.c g x y r).pos&&r.k true 1 (pm w (g.q x.p y.p)))=true):r.n [a,b] (g.n (x.dn [a,b]) (y.dn [a,b])):=qx [a,b] w g x y r h
theorem W0(r:AR)(h:(r.pos&&r.k true 1 [])=true):r.n [a,b] False:=YM [a,b] r h
theorem O0(g:AK)(x y:AE)(r:AR)(h:r.k false 1 (g.q x.p y.p)=true):r.i [a,b] (g.i (x.di [a,b]) (y.di [a,b])):=t9 [a,b] g x y r h
theorem xh(r:AR)(h:r.k false 1 []=true):r.i [a,b] False:=qK [a,b] r h
theorem HW(g:AK)(x y:AE)(r:AR)(h:((AR.c g x y r).pos&&r.k true 1 (pm (1:Nat) (g.q x.p y.p)))=true):r.n [a,b,c] (g.n (x.dn [a,b,c]) (y.dn [a,b,c])):=qx [a,b,c] 1 g x y r h
theorem fJ(r:AR)(h:(r.pos&&r.k true 1 [])=true):r.n [a,b,c] False:=YM [a,b,c] r h
theorem VD(g:AK)(x y:AE)(r:AR)(h:r.k false 1 (g.q x.p y.p)=true):r.i [a,b,c] (g.i (x.di [a,b,c]) (y.di [a,b,c])):=t9 [a,b,c] g x y r h
theorem y7(r:AR)(h:r.k false 1 []=true):r.i [a,b,c] False:=qK [a,b,c] r h
theorem Ll(g:AK)(x y:AE)(r:AR)(h:((AR.c g x y r).pos&&r.k true 1 (pm (1:Nat) (g.q x.p y.p)))=true):r.n [a,b,c,d] (g.n (x.dn [a,b,c,d]) (y.dn [a,b,c,d])):=qx [a,b,c,d] 1 g x y r h
theorem xb(r:AR)(h:(r.pos&&r.k true 1 [])=true):r.n [a,b,c,d] False:=YM [a,b,c,d] r h
theorem qj(g:AK)(x y:AE)(r:AR)(h:r.k false 1 (g.q x.p y.p)=true):r.i [a,b,c,d] (g.i (x.di [a,b,c,d]) (y.di [a,b,c,d])):=t9 [a,b,c,d] g x y r h
theorem Z5(g:AK)(x y:AE)(r:AR)(h:((AR.c g x y r).pos&&r.k true 1 (pm (1:Nat) (g.q x.p y.p)))=true):r.n [a,b,c,d,e] (g.n (x.dn [a,b,c,d,e]) (y.dn [a,b,c,d,e])):=qx [a,b,c,d,e] 1 g x y r h
theorem y0(g:AK)(x y:AE)(r:AR)(h:r.k false 1 (g.q x.p y.p)=true):r.i [a,b,c,d,e] (g.i (x.di [a,b,c,d,e]) (y.di [a,b,c,d,e])):=t9 [a,b,c,d,e] g x y r h
theorem wt(g:AK)(x y:AE)(r:AR)(h:((AR.c g x y r).pos&&r.k true 1 (pm (1:Nat) (g.q x.p y.p)))=true):r.n [a,b,c,d,e,f] (g.n (x.dn [a,b,c,d,e,f]) (y.dn [a,b,c,d,e,f])):=qx [a,b,c,d,e,f] 1 g x y r h
theorem xw(r:AR)(h:r.k false 1 []=true):r.i [a,b,c,d,e,f] False:=qK [a,b,c,d,e,f] r h
theorem xj(g:AK)(x y:AE)(r:AR)(h:((AR.c g x y r).pos&&r.k true 1 (pm (1:Nat) (g.q x.p y.p)))=true):r.n [a,b,c,d,e,f,i] (g.n (x.dn [a,b,c,d,e,f,i]) (y.dn [a,b,c,d,e,f,i])):=qx [a,b,c,d,e,f,i] 1 g x y r h
theorem xm(g:AK)(x y:AE)(r:AR)(h:r.k false 1 (g.q x.p y.p)=true):r.i [a,b,c,d,e,f,i,j] (g.i (x.di [a,b,c,d,e,f,i,j]) (y.di [a,b,c,d,e,f,i,j])):=t9 [a,b,c,d,e,f,i,j] g x y r h
theorem rJ(a b:Nat):a<=a-b+b:=Nat.le_add_of_sub_le (Az _)
theorem oP(a:Nat):2*(a / 2)<=a:=Nat.mul_div_le a 2
theorem XS{B:Type}{lt:B->B->Prop}{x y z:B}{R S T:Prop}(tr:lt x y->lt y z->lt x z)(k:R->S->T)(h:lt x y\/x=y/\R)(g:lt y z\/y=z/\S):lt x z\/x=z/\T:=
 h.elim (λh=>.inl (g.elim (tr h) λg=>g.1▸h)) λh=>g.elim (λg=>.inl (h.1▸g)) λg=>.inr ⟨h.1.trans g.1,k h.2 g.2⟩
theorem Hn{B:Type _}{P:B->Prop}:∀a∈([]:List B),P a:=λ_ h=>nomatch h
theorem TH{B:Type _}{a:B}{P:Prop}(h:none=some a):P:=by injection h
theorem qg{P:Prop}(h:true=false):P:=by injection h
theorem ve{P:Prop}(h:false=true):P:=by injection h
end Mine.Internal
namespace Mine.Internal
section
variable{A B C D E F G H I J K L M N O P Q R:Type}{c p q r s t:Prop}
theorem Cq{S:A->Prop}(h:∃a,S a)(k:∀a,S a->c):c:=h.elim λa h=>k a h
theorem FD{S T U:Prop}(h:S/\T/\U)(k:S->T->U->c):c:=k h.1 h.2.1 h.2.2
theorem L8{S:Prop}{T:A->Prop}(h:S/\∃a,T a)(k:S->∀a,T a->c):c:=Cq h.2 (k h.1)
theorem AW{S T:A->Prop}(h:∃a,S a/\T a)(k:∀a,S a->T a->c):c:=h.elim λa h=>k a h.1 h.2
theorem FR{S:A->B->Prop}(h:∃a b,S a b)(k:∀a b,S a b->c):c:=h.elim λa h=>Cq h (k a)
theorem Gx{S T U V:Prop}(h:S/\T/\U/\V)(k:S->T->U->V->c):c:=FD h.2 (k h.1)
theorem jy{S T:Prop}{U:A->Prop}(h:S/\T/\∃a,U a)(k:S->T->∀a,U a->c):c:=L8 h.2 (k h.1)
theorem FH{S:Prop}{T U:A->Prop}(h:S/\∃a,T a/\U a)(k:S->∀a,T a->U a->c):c:=AW h.2 (k h.1)
theorem DX{S T U:A->Prop}(h:∃a,S a/\T a/\U a)(k:∀a,S a->T a->U a->c):c:=h.elim λa h=>FD h (k a)
theorem Oj{S:A->Prop}{T:A->B->Prop}(h:∃a,S a/\∃b,T a b)(k:∀a,S a->∀b,T a b->c):c:=h.elim λa h=>L8 h (k a)
theorem EX{S T:A->B->Prop}(h:∃a b,S a b/\T a b)(k:∀a b,S a b->T a b->c):c:=FR h λa b h=>k a b h.1 h.2
theorem EA{S:A->B->C->Prop}(h:∃a b d,S a b d)(k:∀a b d,S a b d->c):c:=FR h λa b h=>Cq h (k a b)
theorem Ml{S:Prop}{T U:A->B->Prop}(h:S/\∃a b,T a b/\U a b)(k:S->∀a b,T a b->U a b->c):c:=EX h.2 (k h.1)
theorem Ge{S T U V:A->Prop}(h:∃a,S a/\T a/\U a/\V a)(k:∀a,S a->T a->U a->V a->c):c:=h.elim λa h=>Gx h (k a)
theorem JZ{S:A->Prop}{T U:A->B->Prop}(h:∃a,S a/\∃b,T a b/\U a b)(k:∀a,S a->∀b,T a b->U a b->c):c:=h.elim λa h=>FH h (k a)
theorem KY{S:A->Prop}{T:A->B->C->Prop}(h:∃a,S a/\∃b d,T a b d)(k:∀a,S a->∀b d,T a b d->c):c:=h.elim λa h=>FR h.2 (k a h.1)
theorem ES{S T U:A->B->Prop}(h:∃a b,S a b/\T a b/\U a b)(k:∀a b,S a b->T a b->U a b->c):c:=FR h λa b h=>FD h (k a b)
theorem KU{S T:A->B->C->Prop}(h:∃a b d,S a b d/\T a b d)(k:∀a b d,S a b d->T a b d->c):c:=EA h λa b d h=>k a b d h.1 h.2
theorem IG{S:Prop}{T U V:A->B->Prop}(h:S/\∃a b,T a b/\U a b/\V a b)(k:S->∀a b,T a b->U a b->V a b->c):c:=ES h.2 (k h.1)
theorem H6{S T U V W:A->Prop}(h:∃a,S a/\T a/\U a/\V a/\W a)(k:∀a,S a->T a->U a->V a->W a->c):c:=h.elim λa h=>Gx h.2 (k a h.1)
theorem EW{S T U V:A->B->Prop}(h:∃a b,S a b/\T a b/\U a b/\V a b)(k:∀a b,S a b->T a b->U a b->V a b->c):c:=FR h λa b h=>Gx h (k a b)
theorem CW{S T U:A->B->C->Prop}(h:∃a b d,S a b d/\T a b d/\U a b d)(k:∀a b d,S a b d->T a b d->U a b d->c):c:=EA h λa b d h=>FD h (k a b d)
theorem Io{S:Prop}{T U V W:A->B->Prop}(h:S/\∃a b,T a b/\U a b/\V a b/\W a b)(k:S->∀a b,T a b->U a b->V a b->W a b->c):c:=EW h.2 (k h.1)
theorem Kw{S T U V W X:A->Prop}(h:∃a,S a/\T a/\U a/\V a/\W a/\X a)(k:∀a,S a->T a->U a->V a->W a->X a->c):c:=h.elim λa h=>Gx h.2.2 (k a h.1 h.2.1)
theorem TM{S T U V W:A->B->Prop}(h:∃a b,S a b/\T a b/\U a b/\V a b/\W a b)(k:∀a b,S a b->T a b->U a b->V a b->W a b->c):c:=FR h λa b h=>Gx h.2 (k a b h.1)
theorem EJ{S T U V:A->B->C->Prop}(h:∃a b d,S a b d/\T a b d/\U a b d/\V a b d)(k:∀a b d,S a b d->T a b d->U a b d->V a b d->c):c:=EA h λa b d h=>Gx h (k a b d)
theorem Ej{S T U V W X:A->B->Prop}(h:∃a b,S a b/\T a b/\U a b/\V a b/\W a b/\X a b)(k:∀a b,S a b->T a b->U a b->V a b->W a b->X a b->c):c:=FR h λa b h=>Gx h.2.2 (k a b h.1 h.2.1)
theorem FZ{S T U V W:A->B->C->Prop}(h:∃a b d,S a b d/\T a b d/\U a b d/\V a b d/\W a b d)(k:∀a b d,S a b d->T a b d->U a b d->V a b d->W a b d->c):c:=EA h λa b d h=>Gx h.2 (k a b d h.1)
theorem GI{S T U V W X Y:A->B->C->Prop}(h:∃a b d,S a b d/\T a b d/\U a b d/\V a b d/\W a b d/\X a b d/\Y a b d)(k:∀a b d,S a b d->T a b d->U a b d->V a b d->W a b d->X a b d->Y a b d->c):c:=EA h λa b d h=>Gx h.2.2.2 (k a b d h.1 h.2.1 h.2.2.1)
theorem Jf{S:A->B->C->D->E->F->G->H->I->Prop}(h:∃a b d e f g i j l,S a b d e f g i j l)(k:∀a b d e f g i j l,S a b d e f g i j l->c):c:=EA h λa b d h=>EA h λe f g h=>EA h (k a b d e f g)
theorem GR{S T U V W X Y:A->B->C->D->E->F->Prop}(h:∃a b d e f g,S a b d e f g/\T a b d e f g/\U a b d e f g/\V a b d e f g/\W a b d e f g/\X a b d e f g/\Y a b d e f g)(k:∀a b d e f g,S a b d e f g->T a b d e f g->U a b d e f g->V a b d e f g->W a b d e f g->X a b d e f g->Y a b d e f g->c):c:=EA h λa b d h=>GI h (k a b d)
theorem Ei{S:A->B->C->D->E->F->G->H->I->J->K->L->Prop}(h:∃a b d e f g i j l m n o,S a b d e f g i j l m n o)(k:∀a b d e f g i j l m n o,S a b d e f g i j l m n o->c):c:=Jf h λa b d e f g i j l h=>EA h (k a b d e f g i j l)
theorem bE(h:p\/q\/r)(Z:p->c)(q':q->c)(r':r->c):c:=h.elim Z λh=>h.elim q' r'
theorem PO(h:p\/q\/r\/s)(Z:p->c)(q':q->c)(r':r->c)(s':s->c):c:=h.elim Z λh=>bE h q' r' s'
theorem x9(h:p\/q\/r\/s\/t)(p':p->c)(q':q->c)(r':r->c)(s':s->c)(Z:t->c):c:=h.elim p' λh=>PO h q' r' s' Z
end
end Mine.Internal
namespace Mine.Internal
open PySem PySem.Calls PySem.W PyProof.Rows
noncomputable def P8(p:DU)(w:IW)(n₀:Nat)(ann:Option AV):Nat->SharedT->Thread->Option SharedT
 | 0,_,_=>none
 |n+1,s,t=>cond (through t) (some s) (cond (PySem.W.Fast.tw6613529449190102663 n₀ ann t) ((PySem.W.Fast.tw10156331382660048174 (PySem.W.Fast.tw11892475500146522536 PySem.W.Fast.tw14364793385576792824) p w s t).bind λr=>P8 p w n₀ ann n r.1 r.2) none)
theorem ZE:∀{s s':SharedT} {t:Thread},P8 p w n0 B n s t=some s'->topRun U1 p w n0 B n s.abs t=some s'.abs:=by
 induction n with
 |zero=>intro s s' t h;exact absurd h.symm (AY _)
 |succ n Z=>
  intro s s' t h
  replace h:cond (through t) (some s) (cond (PySem.W.Fast.tw6613529449190102663 n0 B t) ((PySem.W.Fast.tw10156331382660048174 (PySem.W.Fast.tw11892475500146522536 PySem.W.Fast.tw14364793385576792824) p w s t).bind λr=>P8 p w n0 B n r.1 r.2) none)=some s':=h
  unfold topRun
  rw[<- PySem.W.Fast.te6613529449190102663,<- PySem.W.Fast.te10156331382660048174,<- PySem.W.Fast.te11892475500146522536,<- PySem.W.Fast.te14364793385576792824] at h
  cases M:through t with
  |true=>rw[M] at h;have zq:=AG h;subst zq;rfl
  |false=>
   rw[M] at h
   cases F:stepOk n0 B t with
   |false=>rw[F] at h;exact absurd h.symm (AY _)
   |true=>
    rw[F] at h
    cases hs:stepT (denote U1) p w s t with
    |none=>rw[hs] at h;exact absurd h.symm (AY _)
    |some r=>obtain⟨s2,t2⟩:=r;rw[hs] at h;rw[stepT_spec hs];exact Z h
noncomputable def Q0(P:Params):BT:=((D7 P).objs.toList.foldl (λ(x:BT×Nat) o=>(x.1.ins x.2 o,x.2+1)) (BT.nil,0)).1
theorem Vv(P:Params):D7 P=absHeap (Q0 P) 11 {}:=by kernel_rfl
end Mine.Internal
namespace Mine.Internal
open PySem PySem.Calls PySem.W PyProof.Rows
set_option genSizeOf false
set_option genInjectivity false
set_option genCtorIdx false
noncomputable def CR:Str:="Rack"
structure tm where
 name:Str
 k:Nat
 kids:List Nat
 mro:List AV
structure Wh where
 C:Addr
 i:Nat
 cN:Addr
 tP:Addr
 xt:List tm
noncomputable def vStr:AV->Bool
 | .str _ _=>true
 |_=>false
noncomputable def vInt:AV->Bool
 | .int _ _=>true
 |_=>false
noncomputable def vBool:AV->Bool
 | .bool _=>true
 |_=>false
noncomputable def vW:AV->Option Addr
 | .ref a=>some a
 |_=>none
noncomputable def rT:Data->Option (Array AV)
 | .fields vs=>some vs
 |_=>none
noncomputable def rh:Data->Option ClassData
 | .cls c=>some c
 |_=>none
noncomputable def vz:Data->Option ZP
 | .func f=>some f
 |_=>none
noncomputable def sC(h:Heap)(c P:Addr):Bool:=(h.get? c).any λo=>decide (o.cls=.type "code")&&(rT o.data).any λvs=>decide (vs[11]?=some (.ref P))&&(vStr (vs.getD 18 .none)&&(vInt (vs.getD 7 .none)&&(vBool (vs.getD 9 .none)&&(vInt (vs.getD 10 .none)&&decide (c≠P)))))
noncomputable def sS(h:Heap)(P:Addr):Bool:=(h.get? P).any λo=>decide (o.cls=.none)&&(o.dict.isNone&&(decide (o.slots.size=0)&&(rT o.data).any λvs=>decide (vs.size=0)))
noncomputable def vy(h:Heap)(k:Addr)(mro:List AV):Bool:=(h.get? k).any λo=>(rh o.data).any λcd=>decide (cd.mro=mro)
noncomputable def fc(h:Heap)(C cN:Addr):Bool:=(h.get? C).any λo=>(rh o.data).any λcd=>h.isNs cd.ns&&((h.nsMap cd.ns "names").bind vW).any λf=>(h.get? f).any λo=>(vz o.data).any λfd=>decide (fd.code=.ref cN)
noncomputable def US(wh:Wh)(s:Aj):Bool:=decide (s.heap.nsMap De CR=some (.ref wh.C))&&(wh.xt.all λe=>decide (s.heap.nsMap De e.name=some (.ref e.k))&&vy s.heap e.k e.mro)&&fc s.heap wh.C wh.cN&&sC s.heap wh.cN wh.tP&&sS s.heap wh.tP
noncomputable def tn(p q:DU)(Xt:Aj->Bool)(N:Nat)(w:IW)(os:OsState):=match (D7 w.params).isNs De with
 |true=>(P8 p w 11 ((D7 w.params).nsMap De "__annotations__") N ⟨Q0 w.params,11,{},M3 [],LR,M4,os⟩ (topStub p)).bind λs₁=>
   match staticsOk (PySem.W.Fast.tw5923862056798008813 p.main.body) (D7 w.params) s₁.abs.heap&&namesBound p s₁.abs.heap&&gensDone s₁.abs&&laidKept (D7 w.params) s₁.abs.heap with
   |true=>some (PySem.W.Fast.tw4187177175401517315 q [] (PySem.W.Fast.tw5923862056798008813 p.main.body) Xt true s₁.abs)
   |false=>none
 |false=>none
noncomputable def fI:DU:=view PySem.Challenge.pw_uf030015_14 [0,2,3,4,5,6,7,8,10,11,12,13,14,15,16,17,18,19,20,22,23,24,25,27,28,29,30,31,32,33,34,36,37,38,39,40,41,42,43,44,45,46,47,48,50,51,52,53,54,55,56,57,58,59,60,61,62,63,64,65,66,67,68,69,70,71,72,73,74,75]
noncomputable def dA(k:Nat):List AV:=.ref k::.ref 31::[.type "ValueError", .type "Exception", .type "BaseException", .type "object"]
noncomputable def cJ:Wh:=⟨323,50,298,294,[⟨"ShelfError", 31,[31,44,56,68,80,92,104],[.ref 31,.type "ValueError", .type "Exception", .type "BaseException", .type "object"]⟩,
 ⟨"NoShelf", 44,[44],dA 44⟩,⟨"NoBox", 56,[56],dA 56⟩,⟨"Twice", 68,[68],dA 68⟩,⟨"NoRoom", 80,[80],dA 80⟩,⟨"Unknown", 92,[92],dA 92⟩,⟨"NoNote", 104,[104],dA 104⟩]⟩
set_option maxRecDepth 100000 in
theorem u6:∀w os,tn PySem.Challenge.pw_uf030015_14 fI (US cJ) 11000 w os=some (openGood fI []):=by
 intro w os
 kernel_rfl
end Mine.Internal
namespace Mine.Internal
open PySem
def PL(xs:Array Nat):Prop:=xs.toList.Pairwise (·<·)
theorem jE(xs:Array Nat)(k:Nat):xs.getD k 0=(xs[k]?).getD 0:=by rw[DT]
theorem getD_at{xs:Array Nat}{i:Nat}(d:Nat)(h:i<xs.size):xs.getD i d=xs.toList[i]:=by
 rw[DT,Bp h];rfl
theorem PL.lt{xs:Array Nat}(R:PL xs){i j:Nat}(h:i<j)(B:j<xs.size):xs.getD i 0<xs.getD j 0:=by
 rw[getD_at 0 B,getD_at 0 (B9 h B)]
 exact Dh.mp R i j (B9 h B) B h
theorem PL.le(R:PL xs)(h:i<=k)(h':k<xs.size):xs.getD i 0<=xs.getD k 0:=
 (IQ h).elim (λh=>A4 (R.lt h h')) λe=>e▸Az _
def bJ(xs:Array Nat)(j r:Nat):Prop:=r<=xs.size/\(∀i,i<r->xs.getD i 0<j)/\∀i,r<=i->i<xs.size->j<=xs.getD i 0
theorem kc{xs:Array Nat}{j:Nat}(R:PL xs)(f:Nat):∀B hi:Nat,B<=hi->hi<=xs.size->hi<=B+f->(∀i,i<B->xs.getD i 0<j)->(∀i,hi<=i->i<xs.size->j<=xs.getD i 0)->bJ xs j (F7 xs j f B hi):=by
 induction f with
 |zero=>exact λB hi h1 Z h3 a b=>⟨AF h1 Z,a,λi h=>b i (AF h3 h)⟩
 |succ f ih=>
  intro B hi h1 Z h3 a b
  by_cases F:B<hi
  .have m1:B<=(B+hi) / 2:=(M5 (by decide)).mpr (by rw[Nat.mul_two];exact CO h1 B)
   have m2:(B+hi) / 2<hi:=eO (by rw[Nat.two_mul];exact Nj F hi)
   have hm:=Ac m2 Z
   by_cases M:xs.getD ((B+hi) / 2) j<j
   .rw[show F7 xs j (f+1) B hi=F7 xs j f ((B+hi) / 2+1) hi from (if_pos F).trans (if_pos M)]
    rw[getD_at j hm,<- getD_at 0 hm] at M
    exact ih _ hi m2 Z (by rw[DY];exact AF h3 (DH m1 (f+1))) (λi h=>Al (R.le (Fj h) hm) M) b
   .rw[show F7 xs j (f+1) B hi=F7 xs j f B ((B+hi) / 2) from (if_pos F).trans (if_neg M)]
    rw[getD_at j hm,<- getD_at 0 hm] at M
    exact ih B _ m1 (A4 hm) (Fj (Ac m2 h3)) a λi h4 h5=>AF (RU M) (R.le h4 h5)
  .rw[show F7 xs j (f+1) B hi=B from if_neg F]
   exact⟨AF h1 Z,a,λi h=>b i (AF (RU F) h)⟩
theorem QU(R:PL xs):bJ xs j (E3 xs j):=
 kc R xs.size 0 xs.size (BM _) (Az _) (DP _ _) (λi h=>absurd h (Dv _)) λi h h'=>absurd h' (B1.mpr h)
theorem X0(R:PL xs)(h:i<xs.size):E3 xs (xs.getD i 0+1)=i+1:=by
 have k:=QU (j:=xs.getD i 0+1) R
 exact BC (B1.mp λB=>B1.mpr (R.lt (EZ i) (Ac B k.1)) (k.2.1 (i+1) B)) (B1.mp λB=>FA _ (k.2.2 i (Fj B) h))
theorem Xu(R:PL xs):E3 xs 0=0:=Iq λh=>Dv _ ((QU R).2.1 0 h)
theorem Yn{xs:Array Nat}{j:Nat}(R:PL xs)(hj:xs[E3 xs j]?≠some j):PL (SetTable.insertAt xs (E3 xs j) j):=by
 refine FD (QU (j:=j) R) λa b c=>?_
 unfold PL
 rw[SetTable.toList_insertAt]
 generalize E3 xs j=p at *
 have hb:∀x∈xs.toList.take p,x<j:=λx hx=>(U2.mp hx).elim λi h=>h.elim λh e=>by
  have h:=mS.mp h
  have:=b i h.1
  rw[getD_at 0 h.2] at this;exact e▸this
 have hc:∀x∈xs.toList.drop p,j<x:=λx hx=>(U3.mp hx).elim λi h=>h.elim λh e=>by
  have h:p+i<xs.size:=Ci i p▸h
  have h1:=c (p+i) (A0 _ _) h
  rw[getD_at 0 h] at h1
  refine Kh (e▸h1) λe'=>?_
  have hp:=Al (A0 p i) h
  have h2:=c p (Az _) hp
  rw[getD_at 0 hp] at h2
  refine(Nat.eq_zero_or_pos i).elim (λz=>?_) λz=>?_
  .subst z
   exact hj (by rw[e',<- e];exact Bp hp)
  .have h3:=R.lt (CJ z) h
   rw[getD_at 0 h,getD_at 0 hp] at h3
   exact FA _ (Al h2 (mT h3 (e.trans e'.symm)))
 exact BY.mpr ⟨R.sublist (Pa ..),EU.mpr ⟨hc,R.sublist (Pb ..)⟩,λx hx=>Dz.mpr ⟨hb x hx,λy hy=>B9 (hb x hx) (hc y hy)⟩⟩
theorem cB(n:Nat):PL (QA n):=by unfold PL;rw[Array.toList_range];exact W4
def cM(t:LS)(j:Nat):Prop:=t.place[E3 t.place j]?≠some j
theorem cL(h:∀i,t.slot j≠.live i):cM t j:=λe=>by
 refine h (E3 t.place j) ?_
 unfold SetTable.slot
 simp[e]
theorem NG{t:LS}{p:fN}:(t.advance p).dummy=p.dummy:=by
 unfold SetTable.advance
 split <;> rfl
def Us(t:LS):Option SetTable.Met->Prop
 |some (.empty j d)=>cM t j/\∀e,d=some e->cM t e
 |_=>True
theorem Y5{t:LS}{f:Nat->Int}{h:Int}(n:Nat):∀p:fN,(∀e,p.dummy=some e->cM t e)->Us t (JL t f h n p):=by
 induction n with
 |zero=>exact λ_ _=>trivial
 |succ n M=>
  intro p hp
  have F:(∀i,t.slot p.j≠.live i)->cM t p.j:=cL
  show Us t (match t.slot p.j with
   | .empty=>some (.empty p.j p.dummy)
   | .dummy=>JL t f h n (t.advance { p with dummy:=some p.j })
   | .live i=>if f i==h then some (.candidate p.j i (t.advance p)) else JL t f h n (t.advance p))
  generalize t.slot p.j=s at F ⊢
  cases s with
  |empty=>exact⟨F λ_ h=>by injection h,hp⟩
  |dummy=>exact M _ λe B=>AG (NG.symm.trans B)▸F (λ_ h=>by injection h)
  |live i=>
   show Us t (if f i==h then _ else _)
   by_cases Z:(f i==h)=true
   .rw[if_pos Z];trivial
   .rw[if_neg Z];exact M _ λe B=>hp e (NG.symm.trans B)
theorem R8(e:t.freeSlot h=some (j,b)):cM t j:=by
 have k:=Y5 (t:=t) (f:=λ_=>h+1) (h:=h) (10*fO t.mask) (t.probeStart h) (λ_ h=>by injection h)
 unfold SetTable.freeSlot SetTable.probe at e
 generalize JL t (λ_=>h+1) h (10*fO t.mask) (t.probeStart h)=m at k e
 cases m with
 |none=>cases e
 |some m=>
  cases m with
  |candidate=>exact absurd e.symm (AY _)
  |empty j' d=>
   cases d with
   |none=>cases e;exact k.1
   |some x=>cases e;exact k.2 x rfl
theorem KP{t:LS}{n:Nat}:PL (t.standIn n).place:=cB n
theorem Rq{t:LS}{n:Nat}(R:PL t.place):PL (t.orStandIn n).place/\(t.orStandIn n).led=t.led:=by
 unfold SetTable.orStandIn
 split
 .exact⟨R,rfl⟩
 .exact⟨KP,rfl⟩
theorem ZJ{t:LS}{es:Array (Int×AV)}{h:Int}{x:AV}(R:PL t.place):PL (layNew t es h x).2.1.place/\(layNew t es h x).2.1.led=t.led:=by
 unfold layNew
 cases hf:t.freeSlot h with
 |none=>exact⟨KP,rfl⟩
 |some p=>exact Rq (t:=(t.put p.1).1) (Yn R (R8 hf))
theorem iz{g:Nat->Option Nat}(n:Nat):PL ((((Ar n).filterMap λj=>(g j).map (j,·)).map (·.1)).toArray):=by
 have hp:(((Ar n).filterMap λj=>(g j).map (j,·)).map (·.1)).Pairwise (·<·):=by
  rw[Ia,List.pairwise_filterMap]
  refine W4.imp λ{a b} WG x F y hy=>?_
  refine AW (Av.mp F) λu _ B=>?_;subst B
  refine AW (Av.mp hy) λv _ B=>?_;subst B
  exact WG
 exact hp
theorem Ui{n:Nat}:PL (O8 t es n).2.1.place/\(O8 t es n).2.1.led=t.led:=by
 unfold O8
 cases M:t.relaid (es.map (·.1)) n with
 |none=>exact⟨KP,rfl⟩
 |some p=>
  have B:PL p.1.place/\p.1.led=t.led:=by
   unfold SetTable.relaid SetTable.laid at M
   simp only[Option.bind_eq_bind,Option.pure_def,B3] at M
   refine AW M λowner _ F=>?_;rw[<- AG F]
   exact⟨iz _,rfl⟩
  dsimp only
  split
  .exact B
  .exact⟨KP,rfl⟩
end Mine.Internal
namespace Mine.Internal
open PySem PySem.Spec PyProof.Rows
section
variable {prog:DU} {w:IW} {A:Bb} {E:AV->Aj->Prop} {s:Aj}
noncomputable def J2(es:Array (Int×AV)):List Int:=es.toList.map λe=>numOf e.2
variable (prog w) in
def Lj(h:Heap)(a:Addr)(led:Bool)(ks:List Int):Prop:=
 ∃o es ep t,h.get? a=some o/\o.ExactSet/\o.data=.set es ep t/\mU (JM prog w) es.toList/\ks=J2 es/\ks.Nodup/\es.size<J4/\t.fits es.size=true/\PL t.place/\t.led=led
theorem VQ(h:mU (JM prog w) es)(F:e∈es):∃t,e.2=.int (numOf e.2) t:=by
 obtain⟨⟨k,B,_⟩,_⟩:=h e F
 refine Cq (fP B) λt M=>?_
 exact⟨t,by rw[M];rfl⟩
theorem kD(h:mU (JM prog w) es)(M:e∈es):(JM prog w).is k e.2=true↔numOf e.2=k:=by
 refine Cq (VQ h M) λt Z=>?_
 rw[Z]
 constructor
 .intro B
  have B:Value.isInt k (VE (numOf e.2) t)=true:=B
  refine Cq (fP B) λt' F=>?_
  cases F;rfl
 .intro B
  have:numOf e.2=k:=B
  rw[this];exact intKind_is _ _ _ _
theorem WQ{g:Bool->Sem Unit}(hg:∀(b:Bool) (s₁:Aj) (Q':Unit->Aj->Prop),Q' () s₁->Am (Cz prog w) A (g b) Q' E s₁){ep:Nat}(ho:s.heap.get? a=some o)(hex:o.ExactSet)(hd:o.data=.set es ep t)(hel1:mU (JM prog w) es1.toList)(hnd:(J2 es1).Nodup)(hb1:es1.size<J4)(hf2:t2.fits es1.size=true)(hr:PL t2.place){led:Bool}(hled:t2.led=led){wasDummy:Bool}{R:Option Bool->Aj->Prop}(h:∀h' ks',HY a s.heap h'->Lj prog w h' a led ks'->ks'.Perm (J2 es1)->R (some true) { s with heap:=h' }) :
  Am (Cz prog w) A (do
    storeSet a es1 t2
    if (!wasDummy&&t2.tooFull)=true then do
      g (O8 t2 es1 (Gn es1.size)).2.2
      storeSet a (O8 t2 es1 (Gn es1.size)).1 (O8 t2 es1 (Gn es1.size)).2.1
      pure (some true)
     else pure (some true)) R E s:=by
 have stored:∀{h₁:Heap} {o₁:Obj} {es₁:Array (Int×AV)} {ep₁:Nat} {t₁:LS} (es':Array (Int×AV)) (t':LS),h₁.get? a=some o₁->o₁.data=.set es₁ ep₁ t₁->
   (h₁.update a (mV es' t')).get? a=some { o₁ with data:=.set es' (ep₁+1) t' }:=λes' t' h1 h2=>by
  have:=Cv (mV es' t') h1 (by rw[putSet_of es' t' h2];rfl)
  rw[putSet_of es' t' h2] at this;exact this
 refine AB (wpAny_storeSet_of ho hd ?_ (Lo hb1))
 have ho1:=stored es1 t2 ho hd
 have hsb1:=Ea s.heap a (mV es1 t2)
 split
 .have hp:=relayAll_perm t2 es1 (Gn es1.size)
  have hfr:=relayAll_fits t2 es1 (Gn es1.size)
  have hrr:=Ui (t:=t2) (es:=es1) (n:=Gn es1.size)
  generalize O8 t2 es1 (Gn es1.size)=Rl at hp hfr hrr ⊢
  obtain⟨es2,t3,gave2⟩:=Rl
  dsimp only at hp hfr hrr ⊢
  have hsz:es2.size=es1.size:=by rw[<- A1,hp.length_eq,A1]
  have hb2:es2.size<J4:=by rw[hsz];exact hb1
  have hk:(J2 es2).Perm (J2 es1):=hp.map _
  refine AB (hg _ _ _ ?_)
  refine AB (wpAny_storeSet_of ho1 rfl ?_ (Lo hb2))
  exact AS (h _ (J2 es2) (hsb1.trans (Ea _ a _)) ⟨_,es2,_,t3,stored es2 t3 ho1 rfl,hex,rfl,hel1.perm hp,rfl,hk.nodup_iff.mpr hnd,hb2,hfr,hrr.1,hrr.2.trans hled⟩ hk)
 .exact AS (h _ (J2 es1) hsb1 ⟨_,es1,_,t2,ho1,hex,rfl,hel1,rfl,hnd,hb1,hf2,hr,hled⟩ (ET _))
theorem tT(S:Lj prog w s.heap a led ks)(hroom:ks.length+1<J4)(h:∀h' ks' b,HY a s.heap h'->Lj prog w h' a led ks'->(∀x,x∈ks'↔x∈ks\/x=k)->ks'.length<=ks.length+1->Q b { s with heap:=h' }) :
  Am (Cz prog w) A (setAddHashed a (.int k tk) ((JM prog w).hash k)) Q E s:=by
 refine Cq (id S) λo zh=>GI zh λes ep t ho hex hd hel hks hnd zh=>Gx zh λhb hf hr hled=>?_
 have hlen:ks.length=es.size:=by rw[hks];simp[J2]
 have hkey:=intKind_is prog w k tk
 have hsc:(VE k tk).scannable=true:=rfl
 refine Bt (AB (HZ ho hd hf ?_))
 dsimp only
 rw[byScan_of hsc hb hel]
 refine AB ?_
 refine AB (G4 ?_)
 refine AB (wpAny_setScan_of hkey ho hd hf hel ?_)
 cases hi:List.findIdx? (λe=>(JM prog w).is k e.2) es.toList with
 |some j=>
  refine(List.findIdx?_eq_some_iff_getElem.mp hi).elim λhj zh=>?_;have hpj:=zh.1
  have hm:k∈ks:=by
   rw[hks]
   exact Ab.mpr ⟨es.toList[j],Dc hj,(kD hel (Dc hj)).mp hpj⟩
  refine AS (AS ?_)
  have e:s={ s with heap:=s.heap }:=by cases s;rfl
  rw[e]
  exact h s.heap ks _ (U4 a s.heap) S (λx=>⟨.inl,λq=>q.elim id λq=>q▸hm⟩) (Cx _)
 |none=>
  have hm:k∉ks:=λq=>by
   rw[hks] at q
   refine AW (Ab.mp q) λe he hk=>?_
   have h1:=List.findIdx?_eq_none_iff.mp hi e he
   rw[(kD hel he).mpr hk] at h1;cases h1
  have hgw:∀(b:Bool) {s1:Aj} {Q':Unit->Aj->Prop},Q' () s1->Am (Cz prog w) A (match b with | true=>rule "set.scan.the-table-gave-way" |false=>pure ()) Q' E s1:=
   λb s1 Q' hq=>by cases b <;> first | exact AS hq | exact G4 hq
  have hperm:=layNew_perm t es ((JM prog w).hash k) (.int k tk)
  have hfits:=layNew_fits t es ((JM prog w).hash k) (.int k tk)
  have hris:=ZJ (es:=es) (h:=(JM prog w).hash k) (x:=.int k tk) hr
  generalize layNew t es ((JM prog w).hash k) (.int k tk)=L at hperm hfits hris ⊢
  obtain⟨es1,t1,wasDummy,gave⟩:=L
  dsimp only at hperm hfits hris ⊢
  rw[Fd] at hperm
  have hel1:mU (JM prog w) es1.toList:=(hel.push hkey hsc).perm hperm
  have hsz1:es1.size=es.size+1:=by rw[<- A1,hperm.length_eq,AI,A1];rfl
  have hk1:(J2 es1).Perm (ks++[k]):=by
   rw[hks]
   have:=hperm.map λe=>numOf e.2
   rw[Ai] at this
   exact this
  have hnd1:(J2 es1).Nodup:=by
   rw[hk1.nodup_iff,G5]
   exact⟨hnd,by simp,λx hx y hy e=>by simp at hy;subst hy;subst e;exact hm hx⟩
  have hb1':es1.size<J4:=by exact Ll .lt .v0 .v1 (.q .v0 (.a .v2 .n1) (.p .v3 .v2 (.t (.a .v3 .n1) .v1 .e))) rfl hsz1 hlen hroom
  refine AB (hgw _ ?_)
  have hend:∀h' ks',HY a s.heap h'->Lj prog w h' a led ks'->ks'.Perm (J2 es1)->Q true { s with heap:=h' }:=λh' ks' hsb hS hp=>by
   have hp':=hp.trans hk1
   refine h h' ks' true hsb hS (λx=>?_) (by rw[hp'.length_eq];simp)
   rw[hp'.mem_iff];simp
  split
  .refine AB ?_
   rw[hashByValue_scannable 8 hsc]
   refine AS ?_
   refine WQ ?_ ho hex hd hel1 hnd1 hb1' ?_ ?_ (led:=led) ?_ ?_
   .intro b s1 Q' hq;cases b <;> first | exact AS hq | exact G4 hq
   .exact hfits
   .exact hris.1
   .exact hris.2.trans hled
   .intro h' ks' hsb hS' hp;dsimp only;exact AS (hend h' ks' hsb hS' hp)
  .refine AB (AS ?_)
   refine WQ ?_ ho hex hd hel1 hnd1 hb1' hfits hris.1 (led:=led) (hris.2.trans hled) ?_
   .intro b s1 Q' hq;cases b <;> first | exact AS hq | exact G4 hq
   .intro h' ks' hsb hS' hp;dsimp only;exact AS (hend h' ks' hsb hS' hp)
end
section
variable {prog:DU} {w:IW} {A:Bb} {R:Result->Aj->Prop} {I:Addr} {fp wr:List Addr} {G:Array GenState->Array GenState->Prop} {n:Nat} {P:Nat->AV->Prop} {St:Nat->Aj->Prop}
theorem Lj.keep(S:Lj prog w h a led ks)(k:∀o,h.get? a=some o->h'.get? a=some o):Lj prog w h' a led ks:=by
 refine Cq S λo F=>KU F λes ep t B rest=>?_
 exact⟨o,es,ep,t,k o B,rest⟩
theorem Wk(W:WalksS prog w A.in1 I fp wr G n P St)(S:Addr)(hSf:S∉fp)(val:Nat->Int)(hval:∀i v,P i v->∃t,v=.int (val i) t)(hb:n+1<J4) :
  ∀(k i:Nat) (s:Aj) (ks:List Int),n-i=k->i<=n->St i s->Lj prog w s.heap S led ks->(∀x,x∈ks↔∃j,j<i/\val j=x)->ks.length<=i->
   (∀s' M,Moved (S::wr) G s s'->Lj prog w s'.heap S led M->(∀x,x∈M↔∃j,j<n/\val j=x)->M.length<=n->R (.ok (.ret .none)) s')->
   Lp (Cz prog w) A (.builtin "set.update.loop" ⟨[.ref S,.ref I],[]⟩) R s:=by
 have hSw:S∉wr:=λh=>hSf (W.sub _ h)
 have hsub:∀b∈wr,b∈S::wr:=λb hb=>Ad _ hb
 intro k
 induction k with
 |zero=>
  intro i s ks hk hi hst hS hm hl hR
  have hin:i=n:=by exact BC (Dy .le .v0 .v1 (.l .v0 .v1 .e) rfl hi) (HW .le .v0 .v1 (.p (.a .v2 .v1) .v0 (.q .v2 .n0 .e)) rfl (Ag (Dy .le .v0 .v1 (.l .v0 .v1 .e) rfl hi)) hk)
  subst hin
  refine HH bb ?_
  rw[HB MV _]
  refine AB (W.done s _ _ hst λs' Z=>?_)
  exact AS (hR s' ks (Z.mono hsub) (hS.keep λo e=>Z.heap S _ hSw e) hm hl)
 |succ k ih=>
  intro i s ks hk hi hst hS hm hl hR
  have B:i<n:=by exact Ll .lt .v0 .v1 (.q (.a .v2 .v0) .v1 (.p .v2 (.a .v3 .n1) .e)) rfl (Ag (Dy .le .v0 .v1 (.l .v0 .v1 .e) rfl hi)) hk
  refine HH bb ?_
  rw[HB MV _]
  refine AB (W.item i s _ _ B hst λv s' hP hst' Z=>?_)
  refine Cq (hval i v hP) λt ze1=>?_;subst ze1
  have hS':=hS.keep (h':=s'.heap) λo e=>Z.heap S _ hSw e
  refine AB (Bt ?_)
  refine Bt ?_
  refine AB ((JM prog w).pyHash (k:=val i) (intKind_is _ _ _ _) ?_)
  refine tT (s:={ s' with toks:=s'.toks+1 }) hS' (by exact Ll .lt (.a .v0 .n1) .v1 (.l .v0 .v2 (.t .v2 .v3 (.t (.a .v3 .n1) .v1 .e))) rfl hl B hb) λh' M b hsb hS2 hm2 hl2=>?_
  refine AS ⟨QB MV _,ih (i+1) _ M (by exact BC (Z5 .le .v0 .v1 (.q (.a .v0 (.a .v2 .n1)) .v3 (.p (.a .v4 .v2) .v3 (.q .v4 (.a .v1 .n1) .e))) rfl (Ag (Dy .le (.a .v0 .n1) .v1 (.t .v0 .v1 .e) rfl B)) (Ag (Dy .le .v0 .v1 (.t .v0 .v1 .e) rfl B)) hk) (Z5 .le .v0 .v1 (.p .v2 (.a .v0 .n1) (.q (.a .v2 .v3) .v4 (.p (.a .v1 (.a .v3 .n1)) .v4 .e))) rfl hk (Ag (Dy .le .v0 .v1 (.t .v0 .v1 .e) rfl B)) (Ag (Dy .le (.a .v0 .n1) .v1 (.t .v0 .v1 .e) rfl B)))) B (W.frame _ s' _ _ hst' (Cx _) λb hb o e=>?_) hS2 (λx=>?_) (by exact HW .le .v0 (.a .v1 .n1) (.l .v0 (.a .v2 .n1) (.l .v2 .v1 .e)) rfl hl2 hl) λs'' ks'' hm'' hS'' hms hls=>?_⟩
  .rw[hsb.2 b λh:b=S=>hSf (by rw[<- h];exact hb)];exact e
  .rw[hm2 x,hm x]
   constructor
   .rintro (⟨j,h1,h2⟩ | rfl)
    .exact⟨j,by exact Dy .lt .v0 (.a .v1 .n1) (.t .v0 .v1 .e) rfl h1,h2⟩
    .exact⟨i,by exact Ec .lt .v0 (.a .v0 .n1) .e rfl,rfl⟩
   .rintro ⟨j,h1,h2⟩
    by_cases hj:j=i
    .exact .inr (by rw[<- h2,hj])
    .exact .inl ⟨j,by exact A7 (GZ hj) (λz0=>Dy .lt .v0 .v1 (.t .v0 .v1 .e) rfl z0) λz0=>Dy .lt .v0 .v1 (.w 2 (.t .v0 (.a .v1 .n1) (.t .v1 .v0 .e))) rfl h1 z0,h2⟩
  .refine hR s'' ks'' (Moved.trans W.gtrans ((Z.mono hsub).then_heap (Cx _) λb o hb e=>?_) hm'') hS'' hms hls
   rw[hsb.2 b λh:b=S=>hb (by rw[h];exact AL)];exact e
end
end Mine.Internal
namespace Mine.Internal
open PySem PySem.Spec PyProof.Rows
noncomputable def NB(w:IW):Bool:=!w.params.followText "set-order"
section
variable {prog:DU} {w:IW} {A:Bb} {E:AV->Aj->Prop} {s:Aj}
theorem WU(a:AV)(h:Q1 (.ref s.heap.objs.size) { s with heap:=s.heap.push { cls:=.type "set", dict:=none,data:=.set #[] 0 (.fresh 0 0 (NB w)) } }) :
  Lp (Cz prog w) A (.call (.builtin "set.__new__") ⟨[.type "set", a],[]⟩) (wants Q1 E) s:=by
 refine codeAny_of_tree ?_
 show Am _ A.in1 (do checkBuiltinCall "set.__new__" ⟨[.type "set", a],[]⟩;again (.builtin "set.__new__" ⟨[.type "set", a],[]⟩)) _ _ s
 refine AB (VF (PySem.F.newCall_set_1 a) (AS ⟨QB PySem.F.plain_set_new _,HH PySem.F.entry_set_new ?_⟩))
 rw[HB PySem.F.plain_set_new _]
 unfold Nk.«set.__new__» Builtin.Frozenset.newClass
 have B:=sub_set_self
 obtain⟨hp,g,d,tk,os⟩:=s
 dsimp only
 wp_walk
 refine U5 (AS ?_)
 dsimp only
 simp only[newObj]
 refine AB (wpAny_alloc (AS ?_))
 exact AS h
theorem dc{h:Heap}{led:Bool}:Lj prog w (h.push { cls:=.type "set", dict:=none,data:=.set #[] 0 (.fresh 0 0 led) }) h.objs.size led []:=
 ⟨_,#[],0,_,Aw _ rfl,⟨rfl,rfl,rfl⟩,rfl,Hn,rfl,GF,by decide,rfl,TY,rfl⟩
set_option maxRecDepth 100000 in
set_option maxHeartbeats 3200000 in
theorem lM(hh:A.handled=none)(hl:s.heap.IsList l items)(hi:JN items.toList ns)(hb:items.size+1<J4)(hn:l≠S)(hS:s.heap.get? S=some { cls:=.type "set", dict:=none,data:=.set #[] 0 (.fresh 0 0 led) })(hS0:Lj prog w s.heap S led [])(h:∀(h':Heap) (tk:Nat) (ks:List Int),Lj prog w h' S led ks->(∀x,x∈ks↔x∈ns)->ks.length<=items.size->(∀b o,b≠S->s.heap.get? b=some o->h'.get? b=some o)->R (.ok (.ret .none)) { s with heap:=h',toks:=tk }) :
  Lp (Cz prog w) A (.call (.builtin "set.__init__") ⟨[.ref S,.ref l],[]⟩) R s:=by
 have Z:ns.length=items.size:=(RV hi).symm.trans A1
 have hT:s.TypeIs (.ref S) "set":=⟨_,hS,rfl⟩
 refine codeAny_call_builtin Hp.init.plain F.entry_set_init (check_set_init_1 hT ?_)
 refine Cq hl λol zh=>jy zh λM hcl nl hdl=>?_
 have hsls:=PySem.F.sub_list_set
 have hslf:=PySem.F.sub_list_frozenset
 have hne:(SG "list"==SG "dict")=false:=by decide
 have hTl:s.TypeIs (.ref l) "list":=⟨_,M,hcl⟩
 unfold Nk.«set.__init__» noKeywords Builtin.Frozenset.updateFrom
 generalize hPI:mW=PI
 wp_walk
 subst hPI
 refine SH hl ?_
 refine AB (ZQ ?_)
 have hlI:l≠s.heap.objs.size:=Bo (B7 M)
 have hSI:S≠s.heap.objs.size:=Bo (B7 hS)
 refine Wk ((Walks.list (A:=A.in1.in1) hh _ l hlI items).toS) S (λm=>(Ao.mp m).elim hSI λm=>hn (AM.mp m).symm) (λi=>ns.getD i 0) (λi v hv=>IntsAre.int_at hi i v (by rw[BA];exact hv)) hb (led:=led) (items.size-0) 0 _ [] rfl (BM _)
  ⟨⟨_,Aw _ rfl,rfl,rfl⟩,hl.push _⟩ (hS0.keep λo e=>AN _ e) (λx=>⟨λq=>absurd q BU,λzz=>AW zz λj B _=>absurd B (Dv _)⟩) (Az _) ?_
 intro s' ks hm hS' hms hls
 obtain⟨h',g',d',tk',os'⟩:=s'
 have eg:g'=s.gens:=hm.gens
 have ed:d'=s.drawn:=hm.drawn
 have eo:os'=s.os:=hm.os
 subst eg;subst ed;subst eo
 refine AS (AS (h h' tk' ks hS' (λx=>?_) hls λb o hb e=>hm.heap b o (λm=>(Ao.mp m).elim hb λm=>?_) (AN _ e)))
 .rw[hms x,<- Z]
  exact⟨λz=>AW z λj B e=>e▸(by rw[Ay,AO B];exact Dc B),λhx=>by obtain⟨j,B,e⟩:=JT.mp hx;exact⟨j,B,by rw[Ay,AO B];exact e⟩⟩
 .exact absurd (AM.mp m) (Bo (B7 e))
set_option maxRecDepth 100000 in
set_option maxHeartbeats 3200000 in
theorem iR(hh:A.handled=none)(hl:s.heap.IsList l items)(hi:JN items.toList ns)(hb:items.size+1<J4)(h:∀(h':Heap) (tk:Nat) (ks:List Int),Lj prog w h' s.heap.objs.size (NB w) ks->(∀x,x∈ks↔x∈ns)->ks.length<=items.size->
   (∀b o,b<s.heap.objs.size->s.heap.get? b=some o->h'.get? b=some o)->Q (.ref s.heap.objs.size) { s with heap:=h',toks:=tk }) :
  Am (Cz prog w) A (call (.type "set") [.ref l]) Q E s:=by
 refine FR Hp.mro λc tl hmro=>?_
 have hmade:=Hp.made
 have hsub:=Hp.sub
 refine wpAny_call (codeAny_of_tree ?_)
 refine(?_:Am _ _ (callAny (.type "set") _) _ _ _)
 refine AS ⟨Code.quiet_builtin _ (by decide +kernel),HH F.entry_type_call ?_⟩
 rw[Around.under_plain (weight_type_call_type "set" [.ref l] []) rfl]
 have M:=Hp.notType
 have h2:=Hp.canCreate
 have hct:=PySem.F.typeCall_set_1 (.ref l)
 repeat (any_goals (first | assumption | wp_step))
 refine K3 (WU (.ref l) (E:=E) (Q1:=λobj s1=>obj=.ref s.heap.objs.size/\∃M:Heap,s1={ s with heap:=M }/\M.get? s.heap.objs.size=some { cls:=.type "set", dict:=none,data:=.set #[] 0 (.fresh 0 0 (NB w)) }/\Lj prog w M s.heap.objs.size (NB w) []/\M.IsList l items/\∀b o,s.heap.get? b=some o->M.get? b=some o) ⟨rfl,_,rfl,Aw _ rfl,dc,hl.push _,λ_ _ e=>AN _ e⟩) λr s1 Z=>?_
 cases r with
 |error e=>exact Z
 |ok fl=>
  cases fl with
  |ret obj=>
   refine H6 Z.2 λM ze2 hS hS0 hl1 hk=>?_;have ze1:obj=_:=Z.1;clear Z;subst ze1;subst ze2
   have hT:Shared.TypeIs { s with heap:=M } (.ref s.heap.objs.size) "set":=⟨_,hS,rfl⟩
   have hli:=Hp.init.lookup
   have hbi:=Hp.init.bind (.ref s.heap.objs.size)
   repeat (any_goals (first | assumption | wp_step))
   refine K3 (lM (R:=wants (λr s2=>r=.none/\Q (.ref s.heap.objs.size) s2) E) (by exact hh) hl1 hi hb (Cq hl λol hol=>Bo (B7 hol.1)) hS hS0 λh' tk ks a b c d=>⟨rfl,h h' tk ks a b c λx o lt e=>d x o (Bo lt) (hk x o e)⟩) λr2 s2 B=>?_
   cases r2 with
   |error e=>exact B
   |ok fl2=>
    cases fl2 with
    |ret r=>
     have hq:=B.2
     have Z:r=.none:=B.1
     subst Z
     repeat (any_goals (first | assumption | wp_step))
    |_=>exact B.elim
  |_=>exact Z.elim
end
end Mine.Internal
namespace Mine.Internal
open PySem PySem.Spec PyProof.Rows
set_option maxRecDepth 100000
theorem Qj:entryFor table "set.__iter__"=some Nk.«frozenset.__iter__»:=
 entryFor_alias (id':="frozenset.__iter__") (by kernel_rfl) rfl (by decide +kernel) (by kernel_rfl)
theorem C1:Slot "set_iterator" "__next__" "set_iterator.__next__":=
 .of (owner:="set_iterator") (n:="__next__") (by rw[HI,Ff];kernel_rfl) (by decide +kernel) (by decide +kernel) (by decide +kernel)
  (by first | exact .inl (by decide +kernel) | exact .inr (by decide +kernel)) (by rw[isSubtype_type];kernel_rfl)
theorem GK:entryFor table "set_iterator.__next__"=some Nk.«set_iterator.__next__»:=entryFor_of_fast (by kernel_rfl)
theorem Gh(a:AV):argsOk "set_iterator.__next__" ⟨[a],[]⟩:=by kernel_rfl
section
variable {prog:DU} {w:IW} {A:Bb} {E:AV->Aj->Prop} {s:Aj}
noncomputable def Fs(first:AV)(i:Nat)(a:Addr)(n ep:Nat):Obj:={ cls:=.type "set_iterator", data:=.fields #[first,Cc i,.ref a,Cc n,Cc ep] }
set_option backward.match.sparseCases true in
theorem LM(hI:s.heap.get? I=some (Fs first i a n ep))(ho:s.heap.get? a=some o)(hd:o.data=.set es ep t)(hf:t.fits es.size=true)(hn:es.size=n)(h:Am (Cz prog w) A (match first with
   | .int slot _=>do
    match <- W5 a slot.toNat i ep with
    |some (x,next)=>do
     KG (.ref I) 0 (Cc next)
     KG (.ref I) 1 (Cc ((i:Int)+1))
     ret x
    |none=>do
     KG (.ref I) 2 .none
     raiseNew (<- newExc (.type "StopIteration") [])
   |_=>do
    let some places <- seqItems? first | unsupported "internal:set_iterator"
    match places[i]? with
    |some (.int place _)=>do
     let x <- setNextDrawn a place.toNat ep
     KG (.ref I) 1 (Cc ((i:Int)+1))
     ret x
    |some _=>unsupported "internal:set_iterator"
    |none=>do
     KG (.ref I) 0 (Cc 0)
     KG (.ref I) 2 .none
     raiseNew (<- newExc (.type "StopIteration") [])) Q E s):Am (Cz prog w) A (Nk.«set_iterator.__next__» ⟨[.ref I],[]⟩) Q E s:=by
 refine AB (m:=slotArgs "__next__" 0 _) (AS ?_)
 refine AB (wpAny_fieldsOf hI rfl ?_)
 refine AB (wpAny_setEntries_of ho hd hf ?_)
 rw[if_neg (by simp[hn])]
 exact h
theorem cb{slot nx i n ep:Nat}{Q:Option AV->Aj->Prop}(hI:s.heap.get? I=some (Fs (Cc slot) i a n ep))(ho:s.heap.get? a=some o)(hd:o.data=.set es ep t)(hf:t.fits es.size=true)(hn:es.size=n)(hs:∀(E':AV->Aj->Prop) (Q':Option (AV×Nat)->Aj->Prop),Q' (some (x,nx)) s->Am (Cz prog w) A.in1 (W5 a slot i ep) Q' E' s)(hQ:∀h',h'.get? I=some (Fs (Cc nx) (i+1) a n ep)->HY I s.heap h'->Q (some x) { s with heap:=h' }):Am (Cz prog w) A (J5 (.ref I)) Q E s:=by
 have hT:s.TypeIs (.ref I) "set_iterator":=⟨_,hI,rfl⟩
 refine AB (FL (DE (name:="__next__") hT C1
  (Ck C1 hT GK (LM hI ho hd hf hn ?_) (Gh _))))
 refine AB (hs _ _ ?_)
 have hI1:(s.heap.update I (F5 (·.setIfInBounds 0 (Cc nx)))).get? I=some (Fs (Cc nx) i a n ep):=Cv _ hI rfl
 have hI2:((s.heap.update I (F5 (·.setIfInBounds 0 (Cc nx)))).update I (F5 (·.setIfInBounds 1 (Cc ((i:Int)+1))))).get? I=some (Fs (Cc nx) (i+1) a n ep):=Cv _ hI1 rfl
 refine AB (Dx hI rfl (by simp[Fs]) ?_)
 refine AB (Dx hI1 rfl (by simp) ?_)
 exact AS ⟨x,rfl,AS (hQ _ hI2 ((Ea ..).trans (Ea ..)))⟩
theorem aB{I:Addr}{o:Obj}{vs:Array AV}{Q:Option AV->Aj->Prop}{s₀:Aj}(B:A.handled=none)(M:s.heap.get? I=some o)(hd:o.data=.fields vs)(F:2<vs.size)(Z:HY I s₀.heap s.heap)(hQ:∀h',JU I s₀.heap h'->Q none { s with heap:=h' }) :
  Am (Cz prog w) A.in1 (do KG (.ref I) 2 .none;raiseNew (<- newExc (.type "StopIteration") [])) (λ(_:PySem.Fin) _=>False)
   (λe s'=>Am (Cz prog w) A (do if <- isInstance e (.type "StopIteration") then pure none else throw e) Q E s') s:=by
 refine AB (Dx M hd F ?_)
 show Am _ _ (newExc (.type "StopIteration") [] >>= _) _ _ _
 refine AB ?_
 refine AB (DI ?_ (Ap rfl))
 refine AB (m:=O9 _ _) (VF (a:=Ba) (by first | rfl | (simp only[O9];rfl)) ?_)
 refine DI ?_ (Ap rfl)
 refine AB (wpAny_handled ?_)
 rw[show A.in1.handled=none from B]
 refine AB (AS (VG ?_))
 refine AB (J6 (T:="StopIteration") (b:=true) ⟨_,Aw _ rfl,rfl⟩ ZR ?_)
 exact AS (hQ _ ((((Z.trans (Ea ..)).extBut).push _).push _))
theorem cE{slot i n ep:Nat}{Q:Option AV->Aj->Prop}(hh:A.handled=none)(hI:s.heap.get? I=some (Fs (Cc slot) i a n ep))(ho:s.heap.get? a=some o)(hd:o.data=.set es ep t)(hf:t.fits es.size=true)(hn:es.size=n)(hs:∀(E':AV->Aj->Prop) (Q':Option (AV×Nat)->Aj->Prop),Q' none s->Am (Cz prog w) A.in1 (W5 a slot i ep) Q' E' s)(hQ:∀h',JU I s.heap h'->Q none { s with heap:=h' }):Am (Cz prog w) A (J5 (.ref I)) Q E s:=by
 have hT:s.TypeIs (.ref I) "set_iterator":=⟨_,hI,rfl⟩
 refine AB (FL (DE (name:="__next__") hT C1
  (Ck C1 hT GK (LM hI ho hd hf hn ?_) (Gh _))))
 refine AB (hs _ _ ?_)
 exact Ax (aB hh hI rfl (by simp) (U4 _ _) hQ) (λ_ _ f=>f.elim) λ_ _ e=>e
theorem Nc{B:Type}{M:Lq}{c:Prop}[Decidable c]{x y:Sem B}{Q:B->Aj->Prop}(h:¬c)(q:Am M A y Q E s):Am M A (if c then x else y) Q E s:=by rw[if_neg h];exact q
theorem P5{B:Type}{M:Lq}{c:Prop}[Decidable c]{x y:Sem B}{Q:B->Aj->Prop}(h:c)(q:Am M A x Q E s):Am M A (if c then x else y) Q E s:=by rw[if_pos h];exact q
theorem Mn(q:Q (w.params.followText "set-order") s):Am (Cz prog w) A setsByText Q E s:=by
 exact AB (U5 (AS q))
noncomputable def nM(pl:Array Nat):Nat->Nat
 | 0=>0
 |i+1=>pl.getD i 0+1
theorem jN(R:PL B)(h:i<=B.size):E3 B (nM B i)=i:=by
 cases i with
 |zero=>exact Xu R
 |succ i=>exact X0 R h
theorem VR(ho:s.heap.get? a=some o)(hd:o.data=.set es ep t)(B:t.fits es.size=true)(R:PL t.place)(hw:w.params.followText "set-order"=false)(hl:t.led=true)(hp:¬(t.plain=false/\1<es.size))(hi:i<=es.size) :
  ∀(Z:AV->Aj->Prop) (F:Option (AV×Nat)->Aj->Prop),F (es[i]?.map λe=>(e.2,nM t.place (i+1))) s->Am (Cz prog w) A (W5 a (nM t.place i) i ep) F Z s:=by
 intro Z F q
 have hsz:t.place.size=es.size:=by simp only[SetTable.fits,BK,beq_iff_eq] at B;exact B.1
 refine AB (HZ ho hd B ?_)
 refine AB (Mn ?_)
 rw[hw]
 refine Nc (by decide) ?_
 refine Nc (show ¬((!t.plain&&decide (es.size>1))=true) by
  intro h
  simp only[BK,CB,decide_eq_true_eq] at h
  exact hp h) ?_
 refine AB (show Am (Cz prog w) A (if (!t.led&&!es.isEmpty)=true then unsupported _ else pure ()) _ _ _ from Nc (by simp[hl]) (AS ?_))
 rw[jN R (by exact HW .le .v0 .v1 (.l .v0 .v2 (.p .v1 .v2 .e)) rfl hi hsz)]
 refine AS ?_
 by_cases h:i<es.size
 .have M:es[i]?=some es[i]:=Bp h
  have e2:t.place[i]?=some (t.place.getD i 0):=by rw[jE,Bp (by exact HW .lt .v0 .v1 (.t .v0 .v2 (.p .v1 .v2 .e)) rfl h hsz)];rfl
  rw[M] at q ⊢
  rw[e2]
  exact q
 .have M:es[i]?=none:=CQ (by exact Dy .le .v0 .v1 (.o .v1 .v0 .e) rfl h)
  rw[M] at q ⊢
  exact q
theorem QW{B:Type}(l:List B):∀(i:Nat) (h:i<l.length),(l[i]::l.eraseIdx i).Perm l:=by
 induction l with
 |nil=>exact λi h=>absurd h (Dv i)
 |cons x l F=>
  intro i h
  cases i with
  |zero=>exact .refl _
  |succ i=>exact(List.Perm.swap _ _ _).trans (eQ _ (F i (Ir h)))
theorem S8{B:Type}{l:List B}{i n:Nat}(h:i<l.length)(e:n+1=l.length):n=(l.eraseIdx i).length:=by
 rw[List.length_eraseIdx_of_lt h,<- e];rfl
theorem nJ{F:Type}(nx:Nat->Nat)(f:Nat):∀(k:Nat) (left:List F) (out:Array F),f=left.length->(Nl nx f k left out).toList.Perm (out.toList++left):=by
 induction f with
 |zero=>exact λk left out h=>by rw[By.mp h.symm,Bl];exact .refl _
 |succ f M=>
  intro k left out h
  have B:nx k % left.length<left.length:=mX _ (h▸CS f)
  rw[show Nl nx (f+1) k left out=Nl nx f (k+1) (left.eraseIdx (nx k % left.length)) (out.push left[nx k % left.length]) from congrArg (λo:Option F=>match o with
   |some x=>Nl nx f (k+1) (left.eraseIdx (nx k % left.length)) (out.push x)
   |none=>out) (AO B)]
  refine(M (k+1) _ _ (S8 B h)).trans ?_
  rw[Fd,Aq]
  exact TZ _ (QW _ _ B)
theorem TJ{B:Type}(nx:Nat->Nat)(xs:Array B):(fQ nx xs).toList.Perm xs.toList:=by
 have:=nJ nx xs.size 0 xs.toList #[] (by simp)
 simpa [fQ] using this
theorem UY(M:s.heap.get? a=some o)(hd:o.data=.set es ep t)(hf:t.fits es.size=true)(hw:w.params.followText "set-order"=true) :
  ∀(Z:AV->Aj->Prop) (F:Option (AV×Nat)->Aj->Prop),F ((fQ (w.params.setOrder a ep) es)[i]?.map λe=>(e.2,B)) s->Am (Cz prog w) A (W5 a B i ep) F Z s:=by
 intro Z F q
 refine AB (HZ M hd hf ?_)
 refine AB (Mn ?_)
 rw[hw]
 refine P5 rfl ?_
 refine Nc (by simp) ?_
 refine AB ?_
 refine AB (HZ M hd hf ?_)
 refine AB (Mn ?_)
 rw[hw]
 refine P5 rfl ?_
 refine AB (U5 (AS (AS ?_)))
 exact q
theorem oq{M:Type}(n:Nat):∀(xs:List M) (s:Aj) {Q:List M->Aj->Prop},n=xs.length->(∀ys F,ys.Perm xs->Q ys { s with drawn:=F })->Am (Cz prog w) A (drawOrder n xs) Q E s:=by
 induction n with
 |zero=>
  intro xs s Q h q
  have:xs=[]:=By.mp h.symm
  subst this
  exact AS (q [] s.drawn (ET _))
 |succ n ih=>
  intro xs s Q h q
  cases xs with
  |nil=>cases h
  |cons x xs=>
  have B:w.draws .order (s.drawn.get .order) % (x::xs).length<(x::xs).length:=mX _ (CS _)
  show Am (Cz prog w) A (do let i <- choose .order (x::xs).length;match (x::xs)[i]? with
   |some Z=>return Z::(<- drawOrder n ((x::xs).eraseIdx i))
   |none=>unsupported "internal:drawOrder") Q E s
  refine AB ?_
  refine λΓ p hΓ=>⟨by simp,?_⟩
  show Am (Cz prog w) A (match (x::xs)[w.draws .order (s.drawn.get .order) % (x::xs).length]? with
   |some y=>do return y::(<- drawOrder n ((x::xs).eraseIdx (w.draws .order (s.drawn.get .order) % (x::xs).length)))
   |none=>unsupported "internal:drawOrder") Q E { s with drawn:=s.drawn.bump .order }
  generalize w.draws .order (s.drawn.get .order) % (x::xs).length=j at B ⊢
  rw[AO B]
  exact AB (ih _ _ (S8 B h) λys F hp=>AS (q _ F ((eQ _ hp).trans (QW _ _ B))))
end
end Mine.Internal
namespace Mine.Internal
open PySem PySem.Spec PyProof.Rows
set_option maxRecDepth 100000
theorem KQ:Slot "set_iterator" "__iter__" "set_iterator.__iter__":=
 .of (owner:="set_iterator") (n:="__iter__") (by rw[HI,Ff];kernel_rfl) (by decide +kernel) (by decide +kernel) (by decide +kernel)
  (by first | exact .inl (by decide +kernel) | exact .inr (by decide +kernel)) (by rw[isSubtype_type];kernel_rfl)
theorem NR:entryFor table "set_iterator.__iter__"=some Nk.«dict_keyiterator.__iter__»:=
 entryFor_alias (id':="dict_keyiterator.__iter__") (by kernel_rfl) rfl (by decide +kernel) (by kernel_rfl)
theorem N8(a:AV):argsOk "set_iterator.__iter__" ⟨[a],[]⟩:=by kernel_rfl
def ja:Array GenState->Array GenState->Prop:=λa b=>b=a
def jg(out:Array (Int×AV))(i:Nat)(v:AV):Prop:=∃e,out[i]?=some e/\v=e.2
section
variable {prog:DU} {w:IW} {A:Bb} {E:AV->Aj->Prop} {s:Aj}
theorem Si(F:s.heap.get? I=some (Fs first i a n ep))(q:Q (.ref I) s):Am (Cz prog w) A (mW (.ref I)) Q E s:=by
 have B:s.TypeIs (.ref I) "set_iterator":=⟨_,F,rfl⟩
 refine wpAny_pyIter_slot B KQ (Ck KQ B NR ?_ (N8 _))
 exact AS ⟨_,rfl,"set_iterator", _,B,C1.lookup,q⟩
theorem Sz(hh:A.handled=none)(hIa:a≠I)(hd:o.data=.set es ep t)(hf:t.fits es.size=true)(hn:es.size=n)(ho:out.size=n)(sl:Nat->Nat)(hs:∀(s:Aj) (i:Nat),i<=n->s.heap.get? a=some o->∀(Z:AV->Aj->Prop) (F:Option (AV×Nat)->Aj->Prop),F (out[i]?.map λe=>(e.2,sl (i+1))) s->Am (Cz prog w) A.in1 (W5 a (sl i) i ep) F Z s) :
  WalksS prog w A I [I,a] [I] ja n (jg out) (λi s=>i<=n/\s.heap.get? I=some (Fs (Cc (sl i)) i a n ep)/\s.heap.get? a=some o) where
 sub:=λb B=>by simp at B;subst B;simp
 grefl:=λ_=>rfl
 gtrans:=λ_ _ _ M h2=>h2.trans M
 frame:=λi s h' tk st _ k=>⟨st.1,k I (by simp) _ st.2.1,k a (by simp) _ st.2.2⟩
 item:=λi s Q E hi st hQ=>by
  have hio:i<out.size:=ho▸hi
  have e:out[i]?=some out[i]:=Bp hio
  refine cb (x:=out[i].2) (nx:=sl (i+1)) st.2.1 st.2.2 hd hf hn (λZ F q=>hs s i (by exact Dy .le .v0 .v1 (.l .v0 .v1 .e) rfl st.1) st.2.2 Z F (by rw[e];exact q)) λh' M h2=>?_
  refine hQ _ _ ⟨out[i],e,rfl⟩ ⟨hi,M,(h2.2 a hIa).trans st.2.2⟩ ⟨λb ob B eb=>(h2.2 b (by simpa using B)).trans eb,rfl,rfl,rfl,Az _⟩
 done:=λs Q E st hQ=>by
  have e:out[n]?=none:=CQ (by exact Dy .le .v0 .v1 (.q .v0 .v1 .e) rfl ho)
  refine cE hh st.2.1 st.2.2 hd hf hn (λZ F q=>hs s n (Az _) st.2.2 Z F (by rw[e];exact q)) λh' M=>hQ _ ⟨λb ob B eb=>M b ob (by simpa using B) eb,rfl,rfl,rfl,Az _⟩
 self:=λi s Q E st q=>Si st.2.1 q
noncomputable def MI(es:Array (Int×AV))(π:List Nat):Array (Int×AV):=(π.map λj=>es[j]?.getD (0,.none)).toArray
theorem R9(h:B.Perm (Ar es.size)):(MI es B).toList.Perm es.toList:=by
 have e:(Ar es.size).map (λj=>es[j]?.getD (0,.none))=es.toList:=by
  apply Eo
  intro i
  rw[As]
  by_cases hi:i<es.size
  .simp[hi]
  .simp[hi]
 have:=h.map λj=>es[j]?.getD (0,.none)
 rw[e] at this
 simpa [MI] using this
theorem YY{i n ep j:Nat}{c:Nat}{Q:Option AV->Aj->Prop}(F:s.heap.get? I=some (Fs (.ref T) i a n ep))(ho:s.heap.get? a=some o)(hd:o.data=.set es ep t)(hf:t.fits es.size=true)(hn:es.size=n)(hT:s.heap.get? T=some oT)(M:oT.data=.seq pl c)(Z:pl[i]?=some (Cc j)){x:Int×AV}(hx:es[j]?=some x)(hQ:∀h',h'.get? I=some (Fs (.ref T) (i+1) a n ep)->HY I s.heap h'->Q (some x.2) { s with heap:=h' }):Am (Cz prog w) A (J5 (.ref I)) Q E s:=by
 have B:s.TypeIs (.ref I) "set_iterator":=⟨_,F,rfl⟩
 refine AB (FL (DE (name:="__next__") B C1
  (Ck C1 B GK (LM F ho hd hf hn ?_) (Gh _))))
 refine AB (ZS hT M ?_)
 dsimp only
 rw[Z]
 refine AB ?_
 refine AB (HZ ho hd hf ?_)
 refine Nc (by simp) ?_
 rw[A6,hx]
 refine AS ?_
 have hI1:(s.heap.update I (F5 (·.setIfInBounds 1 (Cc ((i:Int)+1))))).get? I=some (Fs (.ref T) (i+1) a n ep):=Cv _ F rfl
 refine AB (Dx F rfl (by simp) ?_)
 exact AS ⟨x.2,rfl,AS (hQ _ hI1 (Ea ..))⟩
theorem cX(hh:A.handled=none)(F:s.heap.get? I=some (Fs (.ref T) i a n ep))(ho:s.heap.get? a=some o)(hd:o.data=.set es ep t)(hf:t.fits es.size=true)(hn:es.size=n)(hT:s.heap.get? T=some oT)(M:oT.data=.seq pl c)(Z:pl[i]?=none)(hQ:∀h',JU I s.heap h'->Q none { s with heap:=h' }):Am (Cz prog w) A (J5 (.ref I)) Q E s:=by
 have B:s.TypeIs (.ref I) "set_iterator":=⟨_,F,rfl⟩
 refine AB (FL (DE (name:="__next__") B C1
  (Ck C1 B GK (LM F ho hd hf hn ?_) (Gh _))))
 refine AB (ZS hT M ?_)
 dsimp only
 rw[Z]
 have hI1:(s.heap.update I (F5 (·.setIfInBounds 0 (Cc 0)))).get? I=some (Fs (Cc 0) i a n ep):=Cv _ F rfl
 refine AB (Dx F rfl (by simp) ?_)
 exact Ax (aB (s₀:=s) (s:={ s with heap:=s.heap.update I (F5 (·.setIfInBounds 0 (Cc 0))) }) hh hI1 rfl (by simp) (Ea ..) hQ) (λ_ _ f=>f.elim) λ_ _ e=>e
theorem Xd{n ep:Nat}{c:Nat}(hh:A.handled=none)(hIa:a≠I)(hIT:T≠I)(hd:o.data=.set es ep t)(hf:t.fits es.size=true)(hn:es.size=n)(M:F.Perm (Ar es.size))(hdT:oT.data=.seq (F.map λ(j:Nat)=>Cc j).toArray c) :
  WalksS prog w A I [I,a,T] [I] ja n (jg (MI es F)) (λi s=>i<=n/\s.heap.get? I=some (Fs (.ref T) i a n ep)/\s.heap.get? a=some o/\s.heap.get? T=some oT) where
 sub:=λb hb=>by simp at hb;subst hb;simp
 grefl:=λ_=>rfl
 gtrans:=λ_ _ _ h1 h2=>h2.trans h1
 frame:=λi s h' tk st _ k=>⟨st.1,k I (by simp) _ st.2.1,k a (by simp) _ st.2.2.1,k T (by simp) _ st.2.2.2⟩
 item:=λi s Q E hi st hQ=>by
  have B:F.length=es.size:=by rw[M.length_eq,BV]
  have Z:i<F.length:=by exact Ll .lt .v0 .v1 (.t .v0 .v2 (.p .v3 .v2 (.p .v1 .v3 .e))) rfl hi hn B
  have hj:F[i]<es.size:=by simpa using M.mem_iff.mp (Dc Z)
  have hx:es[F[i]]?=some es[F[i]]:=Bp hj
  refine YY st.2.1 st.2.2.1 hd hf hn st.2.2.2 hdT (j:=F[i]) (by simp[Z]) hx λh' h1 h2=>?_
  refine hQ _ _ ⟨es[F[i]],by simp[MI,Z,hj],rfl⟩ ⟨hi,h1,(h2.2 a hIa).trans st.2.2.1,(h2.2 T hIT).trans st.2.2.2⟩ ⟨λb ob hb eb=>(h2.2 b (by simpa using hb)).trans eb,rfl,rfl,rfl,Az _⟩
 done:=λs Q E st hQ=>by
  have B:F.length=es.size:=by rw[M.length_eq,BV]
  refine cX hh st.2.1 st.2.2.1 hd hf hn st.2.2.2 hdT (by simp;exact HW .le .v0 .v1 (.q .v0 .v2 (.q .v2 .v1 .e)) rfl B hn) λh' h1=>hQ _ ⟨λb ob hb eb=>h1 b ob (by simpa using hb) eb,rfl,rfl,rfl,Az _⟩
 self:=λi s Q E st q=>Si st.2.1 q
structure nL(prog:DU)(w:IW)(A:Bb)(es:Array (Int×AV))(a:Addr)(s₀ s:Aj)(I:Addr):Prop where
 walk:∃fp out St,out.toList.Perm es.toList/\WalksS prog w A I fp [I] ja es.size (jg out) St/\St 0 s/\∀b∈fp,b=a\/s₀.heap.objs.size<=b
 old:s₀.heap.objs.size<=I
 keep:∀b o,s₀.heap.get? b=some o->s.heap.get? b=some o
 size:s₀.heap.objs.size<=s.heap.objs.size
 os:s.os=s₀.os
 gens:s.gens=s₀.gens
theorem lh(hh:A'.handled=none)(M:s.heap.get? a=some o)(hex:o.ExactSet)(hd:o.data=.set es ep t)(hf:t.fits es.size=true)(R:PL t.place)(hl:t.led=NB w)(hz:es.size<J4)(q:∀I s1,nL prog w A' es a s s1 I->Q (.ref I) s1):Am (Cz prog w) A (mW (.ref a)) Q E s:=by
 have hT:s.TypeIs (.ref a) "set":=⟨o,M,hex.1⟩
 have ha:a<s.heap.objs.size:=B7 M
 refine wpAny_pyIter_slot hT PySem.F.slot_set_iter (Ck PySem.F.slot_set_iter hT Qj ?_ (PySem.F.args_set_iter_1 _))
 refine AB (m:=Builtin.Frozenset.slot0 "__iter__" _) (AS ?_)
 refine AB ?_
 refine AB (wpAny_setEntries_of M hd hf (AS ?_))
 refine AB ?_
 refine AB (HZ M hd hf ?_)
 refine AB (Mn (AS ?_))
 have B:∀(s1:Aj) (first:AV),s1.heap.get? a=some o->(Q (.ref s1.heap.objs.size) { s1 with heap:=s1.heap.push (Fs first 0 a es.size ep) })->
   Am (Cz prog w) A.in1 (do ret (<- newFields "set_iterator" [first,Cc 0,.ref a,Cc es.size,Cc (<- setEpoch a)])) (λfin s'=>∃v,fin=.done (.ret v)/\(∃T' r,s'.TypeIs v T'/\RW (.type T') "__next__"=pure (some r)/\Q v s')) E s1:=λs1 first ho1 hq=>by
  refine AB (wpAny_setEpoch_of ho1 hd hf ?_)
  refine AB (DI ?_ (Ap rfl))
  exact AS ⟨_,rfl,"set_iterator", _,⟨_,Aw _ rfl,rfl⟩,C1.lookup,hq⟩
 by_cases Z:(!w.params.followText "set-order"&&(!t.plain&&decide (es.size>1)))=true
 .refine P5 (show (!w.params.followText "set-order"&&(!t.plain&&decide (es.size>1)))=true from Z) ?_
  refine AB (oq es.size (Ar es.size) s (by simp) λπ dr hp=>?_)
  have hlen:π.length=es.size:=by rw[hp.length_eq,BV]
  refine AB (ZT ?_ (by rw[AA,hlen];exact Lo hz))
  have hT1:(s.heap.push { cls:=.type "tuple", data:=.seq (π.map λ(j:Nat)=>Cc j).toArray }).get? s.heap.objs.size=some { cls:=.type "tuple", data:=.seq (π.map λ(j:Nat)=>Cc j).toArray }:=Aw _ rfl
  refine B _ _ (AN _ M) (q _ _ ⟨⟨[(s.heap.push { cls:=.type "tuple", data:=.seq (π.map λ(j:Nat)=>Cc j).toArray }).objs.size,a,s.heap.objs.size],MI es π,_,R9 hp,
   Xd (T:=s.heap.objs.size) (o:=o) (ep:=ep) (c:=0) hh ?_ ?_ hd hf rfl hp rfl,⟨BM _,Aw _ rfl,AN _ (AN _ M),AN _ hT1⟩,?_⟩,?_,λb o e=>AN _ (AN _ e),?_,rfl,rfl⟩)
  .rw[DO];exact Bo (ED ha)
  .rw[DO];exact Bo (EZ _)
  .intro b hb
   simp only[Ao,BU,or_false] at hb
   simp only[DO] at hb
   rcases hb with rfl | rfl | rfl
   .exact .inr (Cx _)
   .exact .inl rfl
   .exact .inr (Az _)
  .simp only[DO];exact Cx _
  .simp only[DO];exact Fm (Cx _)
 .refine Nc (show ¬((!w.params.followText "set-order"&&(!t.plain&&decide (es.size>1)))=true) from Z) (AB (AS ?_))
  have hne:a≠s.heap.objs.size:=Bo ha
  cases hw:w.params.followText "set-order" with
  |true=>
   refine B s (Cc 0) M (q _ _ ⟨⟨[s.heap.objs.size,a],fQ (w.params.setOrder a ep) es,_,TJ _ _,Sz (o:=o) (ep:=ep) (t:=t) hh hne hd hf rfl ?_ (λ_=>0) λs' i _ h'=>UY h' hd hf hw,⟨BM _,Aw _ rfl,AN _ M⟩,?_⟩,Az _,λb o e=>AN _ e,?_,rfl,rfl⟩)
   .have:=(TJ (w.params.setOrder a ep) es).length_eq;simpa using this
   .intro b hb
    simp only[Ao,BU,or_false] at hb
    rcases hb with rfl | rfl
    .exact .inr (Az _)
    .exact .inl rfl
   .simp only[DO];exact Cx _
  |false=>
   rw[hw] at Z
   have hp:¬(t.plain=false/\1<es.size):=λh=>Z (by simp[h.1,h.2])
   have hled:t.led=true:=by rw[hl];simp[NB,hw]
   refine B s (Cc 0) M (q _ _ ⟨⟨[s.heap.objs.size,a],es,_,ET _,Sz (o:=o) (ep:=ep) (t:=t) hh hne hd hf rfl rfl (nM t.place) λs' i hi h'=>VR h' hd hf R hw hled hp hi,⟨BM _,Aw _ rfl,AN _ M⟩,?_⟩,Az _,λb o e=>AN _ e,?_,rfl,rfl⟩)
   .intro b hb
    simp only[Ao,BU,or_false] at hb
    rcases hb with rfl | rfl
    .exact .inr (Az _)
    .exact .inl rfl
   .simp only[DO];exact Cx _
end
end Mine.Internal
namespace Mine.Internal
open PySem PySem.Spec PyProof.Rows
set_option maxRecDepth 100000
theorem pI:RW (.type "set") "__len__"=pure (some (.builtin "set.__len__")):=by rw[HI,Ff];kernel_rfl
section
variable {prog:DU} {w:IW} {A:Bb} {E:AV->Aj->Prop} {s:Aj}
theorem VW(hh:A.handled=none)(S:Lj prog w s.heap a (NB w) ks)(q:∀acc ns s',JN acc ns->ns.Perm ks->(∀b o,s.heap.get? b=some o->s'.heap.get? b=some o)->s.heap.objs.size<=s'.heap.objs.size->s'.os=s.os->s'.gens=s.gens->Q acc s'):Am (Cz prog w) A (collect (.ref a)) Q E s:=by
 refine Cq (id S) λo zh=>GI zh λes ep t ho hex hd hel hks hnd zh=>Gx zh λM hf hr hled=>?_
 have ha:a<s.heap.objs.size:=B7 ho
 have hT:s.TypeIs (.ref a) "set":=⟨o,ho,hex.1⟩
 refine AB (ZQ (HH PySem.F.entry_proto_collect ?_))
 rw[HB PySem.F.plain_proto_collect _]
 show Am _ A.in1 (newList [] >>= λl=>again (.builtin "list.__iadd__" ⟨[l,.ref a],[]⟩)) _ _ s
 refine AB (DI ?_ (Ap rfl))
 refine AS ⟨QB PySem.F.plain_list_iadd _,HH PySem.F.entry_list_iadd ?_⟩
 rw[HB PySem.F.plain_list_iadd _]
 have hS1:(s.heap.push { cls:=.type "list", data:=.seq ([]:List AV).toArray }).get? s.heap.objs.size=some { cls:=.type "list", data:=.seq ([]:List AV).toArray }:=Aw _ rfl
 have ho1:(s.heap.push { cls:=.type "list", data:=.seq ([]:List AV).toArray }).get? a=some o:=AN _ ho
 show Am _ A.in1 (Builtin.List.listExtendWith (.ref s.heap.objs.size) (.ref a) (.ref s.heap.objs.size)) _ _ _
 have hT1:Shared.TypeIs { s with heap:=s.heap.push { cls:=.type "list", data:=.seq ([]:List AV).toArray } } (.ref a) "set":=⟨o,ho1,hex.1⟩
 refine AB (SI hT1 ?_)
 have h1:Builtin.List.listSameRef (.ref s.heap.objs.size) (.ref a)=false:=by
  exact(beq_eq_false_iff_ne.mpr (Bu ha):(s.heap.objs.size==a)=false)
 refine Nc (by rw[h1];decide) ?_
 refine AB (lh (A':=A.in1) (s:={ s with heap:=s.heap.push { cls:=.type "list", data:=.seq ([]:List AV).toArray } }) hh ho1 hex hd hf hr hled M λI s2 W=>?_)
 refine EJ W.walk λfp out St hout WS hst hfp=>?_
 have hT2:s2.TypeIs (.ref a) "set":=⟨o,W.keep a o ho1,hex.1⟩
 refine AB (Bt ?_)
 refine AB (Wt hT2 pI ?_)
 (generalize Z2:("set.__len__":String)=id0;wp_delta;rw[show splitId id0=some ("set", "__len__") from by subst Z2;decide +kernel];subst Z2)
 refine AB (J6 (b:=true) hT2 sub_set_self ?_)
 refine AB (SI hT2 ?_)
 refine AS ?_
 refine P5 (by decide) ?_
 refine AB (G4 ?_)
 have hS2:=W.keep _ _ hS1
 have hSf:s.heap.objs.size∉fp:=λm=>by
  refine A7 (hfp _ m) (λe=>?_) (λe=>?_)
  .exact Bu ha e
  .rw[DO] at e;exact Nat.not_succ_le_self _ e
 refine AB ?_
 refine AB (wpAny_updateSeq hS2 rfl ?_ (Ap rfl) (Ap rfl))
 have hS3:=Cv (Bh (·.push Ba)) hS2 rfl
 refine wpAny_updateSeq hS3 rfl ?_ (Ap rfl) (Ap rfl)
 have hS4:=Cv (Bh (·.pop)) hS3 rfl
 have oth:∀b o,b≠s.heap.objs.size->s2.heap.get? b=some o->((s2.heap.update s.heap.objs.size (Bh (·.push Ba))).update s.heap.objs.size (Bh (·.pop))).get? b=some o:=
  λb o M e=>(B0 _ _ (HJ M)).trans ((B0 _ _ (HJ M)).trans e)
 refine AS ⟨QB PySem.F.plain_extend_loop _,codeAny_extend_loopS WS (Lo M) _ hSf _ es.size 0 _ _ _ rfl (BM _)
  (WS.frame 0 s2 _ s2.toks hst (Az _) λb M o e=>oth b o (λh=>hSf (h▸M)) e) hS4 (ItemsOf.nil _) λs' B c' hm hS' Z=>?_⟩
 refine AB (wpAny_load hS' ?_)
 have hsz:out.size=es.size:=by have:=hout.length_eq;simpa using this
 have hacc':B.toList=out.toList.map (·.2):=by
  apply Eo
  intro j
  rw[BA,As,BA]
  by_cases hj:j<es.size
  .have hj':j<B.size:=by rw[Z.1];exact hj
   have e1:B[j]?=some B[j]:=Bp hj'
   refine AW (Z.2 j _ e1) λe h1 h2=>?_
   rw[e1,h1,h2];rfl
  .rw[CQ (by rw[Z.1];exact Dy .le .v0 .v1 (.o .v1 .v0 .e) rfl hj),CQ (by exact HW .le .v0 .v1 (.q .v0 .v2 (.o .v1 .v2 .e)) rfl hsz hj)];rfl
 have hint:∀v∈B.toList,∃n t,v=VE n t:=λv hv=>by
  rw[hacc'] at hv
  refine AW (Ab.mp hv) λe he ze1=>?_;subst ze1
  refine Cq (VQ hel (hout.mem_iff.mp he)) λt ht=>?_
  exact⟨_,t,ht⟩
 refine AS (q B.toList _ s' (intsAre_map _ hint) ?_ (λb o e=>?_) ?_ ?_ ?_)
 .rw[hacc',BW,hks]
  exact hout.map _
 .have M:b<s.heap.objs.size:=B7 e
  have hbI:b≠I:=λh=>by
   have:=W.old
   rw[DO] at this
   rw[h] at M
   exact FA _ (B9 M (Nat.lt_of_succ_le this))
  refine hm.heap b o ?_ (oth b o (Bo M) (W.keep b o (AN _ e)))
  simp only[Ao,BU,or_false,not_or]
  exact⟨Bo M,hbI⟩
 .exact A4 (B7 hS')
 .exact hm.os.trans W.os
 .exact hm.gens.trans W.gens
theorem YI(hh:A.handled=none)(S:Lj prog w s.heap a (NB w) ks)(M:ks.length<64)(q:∀D (out:Array AV) (ns:List Int) (h':Heap) (s':Aj) (c:Nat),JN out.toList ns->ns.Perm ks->ns.Pairwise (·<=·)->s.heap.get? D=none->h'.get? D=some { cls:=.type "list", data:=.seq out c }->(∀b o,s.heap.get? b=some o->h'.get? b=some o)->s'.os=s.os->s'.gens=s.gens->Q (.ref D) { s' with heap:=h' }) :
  Am (Cz prog w) A (call (.builtin "sorted") [.ref a]) Q E s:=by
 refine Ta kind_sorted mY mZ (args_sorted1 _) ?_
 refine AB (m:=checkCount "sorted" 1 1 _) (AS ?_)
 refine AB (VW hh S λacc ns s1 hI hp hk hz hos hg=>?_)
 have B:acc.length=ks.length:=(RV hI).trans hp.length_eq
 refine AB (MW ?_ (by rw[B,F8];exact Ec .le .v0 (.n 16777216) (.t .v0 (.n 64) .e) rfl M))
 have F:(s1.heap.push (Bm "list" acc.toArray 0)).get? s1.heap.objs.size=some (Bm "list" acc.toArray 0):=Aw _ rfl
 have hlt:∀b o,s1.heap.get? b=some o->b≠s1.heap.objs.size:=λb o e=>Bo (B7 e)
 refine AB (Bt (Ck (s:={ s1 with heap:=s1.heap.push (Bm "list" acc.toArray 0) }) ZU ⟨_,F,rfl⟩ Wu (list_sort_tree (s:={ s1 with heap:=s1.heap.push (Bm "list" acc.toArray 0) }) F hI (by exact Dy .lt .v0 (.n 64) (.q .v0 .v1 (.t .v1 (.n 64) .e)) rfl B M) λout ns' a1 a2 a3=>⟨_,rfl,?_⟩) (args_list_sort _)))
 obtain⟨c1,g1⟩:∃c1,((s1.heap.push (Bm "list" acc.toArray 0)).update s1.heap.objs.size (Bh λ_=>(#[]:Array AV))).get? s1.heap.objs.size=some (Bm "list" #[] c1):=⟨_,E8 F λ_=>#[]⟩
 have g2:((((s1.heap.push (Bm "list" acc.toArray 0)).update s1.heap.objs.size (Bh λ_=>(#[]:Array AV))).push (Bm "tuple" acc.toArray 0)).push (Bm "list" #[] 0)).get? s1.heap.objs.size=some (Bm "list" #[] c1):=AN _ (AN _ g1)
 obtain⟨Z,g3⟩:∃Z,(ZV (s1.heap.push (Bm "list" acc.toArray 0)) s1.heap.objs.size acc out).get? s1.heap.objs.size=some (Bm "list" out Z):=⟨_,E8 g2 λ_=>out⟩
 refine AS ⟨_,rfl,q s1.heap.objs.size out ns' _ s1 Z a1 (a2.trans hp) a3 ?_ g3 (λb o e=>?_) hos hg⟩
 .exact bc hz
 .have e1:=hk b o e
  have hb:=hlt b o e1
  unfold ZV
  rw[CN _ _ _ _ hb]
  refine AN _ (AN _ ?_)
  rw[CN _ _ _ _ hb]
  exact AN _ e1
end
end Mine.Internal
namespace Mine.Internal
open PySem PySem.W PyProof.Rows
def Tr(lt:Nat->Nat->Bool)(n:Nat){α:Type}:KasT α->(α->Prop)->Prop
 | .ret a,Q=>Q a
 | .ask i j k,Q=>i<n/\j<n/\Tr lt n (k (lt i j)) Q
theorem Tr.bind{lt:Nat->Nat->Bool}{n:Nat}{B F:Type}{f:B->KasT F}{Q:F->Prop}{t:KasT B}(h:Tr lt n t λa=>Tr lt n (f a) Q):Tr lt n (t.bind f) Q:=by
 induction t with
 |ret a=>exact h
 |ask i j k M=>exact⟨h.1,h.2.1,M _ h.2.2⟩
structure JB(lt:Nat->Nat->Bool):Prop where
 wH:∀i,lt i i=false
 uV:∀i j,lt i j=true->lt j i=false
 neg:∀i j k,lt i k=true->lt i j=true\/lt j k=true
variable {lt:Nat->Nat->Bool}
theorem RA{b:Bool}{P:Prop}(h:b=true)(h':b=false):P:=by injection h.symm.trans h'
theorem JB.no(W:JB lt){i j k:Nat}(B:lt i j=false)(F:lt j k=false):lt i k=false:=BQ.mpr λh=>(W.neg i j k h).elim (RA · B) (RA · F)
theorem JB.tr(W:JB lt){i j k:Nat}(B:lt i j=true)(F:lt j k=true):lt i k=true:=(W.neg i k j B).elim id λh=>RA h (W.uV _ _ F)
def Bf(lt:Nat->Nat->Bool)(i j:Nat):Prop:=lt i j=true\/(lt j i=false/\i<j)
theorem Bf.no(W:JB lt)(h:Bf lt i j):lt j i=false:=h.elim (λh=>W.uV _ _ h) λh=>h.1
theorem Bf.trans(W:JB lt){i j k:Nat}(F:Bf lt i j)(B:Bf lt j k):Bf lt i k:=
 F.elim (λa=>.inl ((W.neg i k j a).elim id λh=>RA h (B.no W))) λa=>B.elim (λc=>.inl ((W.neg j i k c).elim (λh=>RA h a.1) id)) λc=>.inr ⟨W.no c.1 a.1,B9 a.2 c.2⟩
structure Fix(f:Nat)(p:Array Nat)(L:List Nat):Prop where
 eq:p.toList=L++CL L.length f
 perm:L.Perm (Ar L.length)
section
variable {f n:Nat} {p:Array Nat} {L K D A R X Y:List Nat} {x z:Nat}
theorem Du(K:List Nat)(z:Nat):(K++[z]).length=K.length+1:=AI
theorem Fix.low(F:Fix f p L)(h:x∈L):x<L.length:=Dl.mp (F.perm.mem_iff.mp h)
theorem Fix.grow(F:Fix (f+1) p L):Fix f p (L++[L.length]) where
 eq:=by rw[F.eq,JG,Du,QC]
 perm:=by rw[Du,MX];exact F.perm.append_right _
theorem OA(h:p.toList=X++x::Y):p.getD X.length 0=x:=by
 rw[DT,<- BA,h,Ak (Az _),Fo];rfl
theorem Fix.here(F:Fix (f+1) p L):p.getD L.length 0=L.length:=OA (F.eq.trans (by rw[JG]))
theorem Fix.wQ(F:Fix (f+1) p (K++[z])):p.getD (K.length+1) 0=K.length+1:=Du K z▸F.here
theorem Fix.last(F:Fix f p (K++[z])):p.getD K.length 0=z:=OA (F.eq.trans (Aq ..))
theorem Fix.x7(F:Fix f p (K++[z]))(h:K.length+1+f=n):z<n:=
 Ac (F.low (BB _ AL)) (h▸(Du K z).symm▸A0 _ _)
theorem Fix.at(F:Fix f p L)(h:i<L.length):p.getD i 0=L[i]:=by
 rw[DT,<- BA,F.eq,A3 h,AO h];rfl
theorem V4(h:p.toList=D++(A++R)):(G6 p D.length (D.length+A.length)).toList=D++(A.reverse++R):=by
 have M:D.length+A.length<=p.size:=by rw[<- A1,h,AI,AI,<- Ed];exact A0 _ _
 refine Eo λk=>?_
 rw[BA,G6,getElem?_mirror_all M,<- BA,<- BA,h]
 refine(Fp k D.length).elim (λc=>?_) λc=>?_
 .rw[if_neg λz=>B1.mpr z.1 c,A3 c,A3 c]
 .obtain⟨i,rfl⟩:=IU c
  rw[Ak c,Ak c,BI]
  refine(Fp i A.length).elim (λB=>?_) λB=>?_
  .refine(IU B).elim λj (F:A.length=i+1+j)=>?_
   have Z:A.length-1-i=j:=by rw[F,DY,DZ,BI]
   have e2:D.length+(D.length+A.length)-1-(D.length+i)=D.length+j:=Jg (Jg (F▸BC (HW .le (.a .v0 (.a .v0 (.a (.a .v1 .n1) .v2))) (.a (.a (.a .v0 .v2) (.a .v0 .v1)) .n1) .e rfl) (HW .le (.a (.a (.a .v0 .v1) (.a .v0 .v2)) .n1) (.a .v0 (.a .v0 (.a (.a .v2 .n1) .v1))) .e rfl)))
   rw[if_pos ⟨c,Hq B _⟩,e2,Ak (A0 ..),BI,A3 (F▸Nat.lt_add_of_pos_left (CS i)),A3 (by rw[BZ];exact B),ZW B,Z]
  .rw[if_neg λz=>B1.mpr B (Nat.lt_of_add_lt_add_left z.2),Ak B,Ak (by rw[BZ];exact B),BZ]
theorem lr(h:p.toList=X++(Y++x::R)):(bubble p (X.length+Y.length) Y.length).toList=X++x::(Y++R):=by
 have F:X.length+Y.length<p.size:=by rw[<- A1,h,AI,AI];exact Hq (CJ (CS _)) _
 refine Eo λk=>?_
 rw[BA,getElem?_bubble F _ (DP _ _),DZ,<- BA,<- BA,<- BA,h]
 refine(Fp k X.length).elim (λc=>?_) λc=>?_
 .rw[if_neg (Bo c),if_neg λz=>Nat.lt_asymm c z.1,A3 c,A3 c]
 .obtain⟨i,rfl⟩:=IU c
  rw[Ak c,Ak c,BI]
  cases i with
  |zero=>rw[if_pos (Pk _),Ak (A0 _ _),BI,Ak (Az _),Fo];rfl
  |succ j=>
   rw[if_neg (Bu (CJ (CS j))),List.getElem?_cons_succ]
   refine(Fp j Y.length).elim (λB=>?_) λB=>?_
   .rw[if_pos ⟨CJ (CS j),CO B _⟩,show X.length+(j+1)-1=X.length+j from rfl,Ak (A0 _ _),BI,A3 B,A3 B]
   .rw[if_neg λz=>B1.mpr B (Nat.le_of_add_le_add_left z.2),Ak (Fm B),Ak B,Nat.succ_sub B];rfl
theorem Ud(D A:List Nat):(D++A.reverse).length=(D++A).length:=by rw[AI,AI,BZ]
theorem Fix.rev(F:Fix f p (D++A)):Fix f (G6 p D.length (D++A).length) (D++A.reverse) where
 eq:=by
  have e:=F.eq
  rw[Aq] at e
  rw[AI,V4 e,Aq,AI,AI,BZ]
 perm:=by
  have e:=F.perm
  rw[AI] at e
  rw[AI,BZ]
  exact((Pc A).append_left D).trans e
theorem lQ(W:JB lt)(S:(K++[z]).Pairwise (Bf lt))(h:Bf lt z x):(K++[z]++[x]).Pairwise (Bf lt):=
 BY.mpr ⟨S,CX _ _,λa B b F=>AM.mp F▸((An.mp B).elim (λB=>((BY.mp S).2.2 a B z AL).trans W h) λB=>AM.mp B▸h)⟩
end
def Up(lt:Nat->Nat->Bool)(n:Nat)(p:Array Nat)(Q:Nat->Prop):Prop:=
 ∀g K z,K.length+1+g=n->Fix g p (K++[z])->(K++[z]).Pairwise (Bf lt)->(g≠0->lt (K.length+1) z=true)->Q (K.length+1)
theorem jA(W:JB lt)(q:Up lt n p Q)(f:Nat):∀(K:List Nat) (z:Nat),K.length+1+f=n->Fix f p (K++[z])->(K++[z]).Pairwise (Bf lt)->Tr lt n (kas_asc p f (K.length+1)) Q:=by
 induction f with
 |zero=>exact λK z hn F S=>q 0 K z hn F S λh=>absurd rfl h
 |succ f Z=>
  intro K z hn F S
  show Tr lt n (.ask (p.getD (K.length+1) 0) (p.getD K.length 0) _) Q
  rw[F.wQ,F.last]
  refine⟨hn▸CJ (CS f),F.x7 hn,?_⟩
  show Tr lt n (if lt (K.length+1) z=true then _ else _) Q
  by_cases B:lt (K.length+1) z=true
  .rw[if_pos B];exact q (f+1) K z hn F S λ_=>B
  .rw[if_neg B]
   have G:=F.grow
   have M:=F.low (BB K AL)
   have:=Z (K++[z]) (K++[z]).length
   rw[Du] at this G M
   exact this (DY _ f 1▸hn) G (lQ W S (.inr ⟨BQ.mpr B,M⟩))
def r6(lt:Nat->Nat->Bool)(n:Nat)(Q:Nat×Array Nat->Prop):Prop:=
 ∀g p L,L.length+g=n->Fix g p L->L.Pairwise (Bf lt)->1<=L.length->Q (L.length,p)
theorem Wb(W:JB lt)(hn:L.length+f=n)(F:Fix f p L)(h0:1<=L.length)(h:L.Pairwise λx y=>Bf lt y x)(hQ:r6 lt n Q):Tr lt n (kas_tail3 L.length n p) Q:=by
 refine Tr.bind ?_
 have F':Fix f (G6 p 0 L.length) L.reverse:=Fix.rev (D:=[]) F
 have S:=JE.mpr h
 rw[show n-L.length=f by rw[<- hn];exact BI ..]
 generalize G6 p 0 L.length=p' at F' ⊢
 rw[<- BZ] at hn h0 ⊢
 generalize L.reverse=M at *
 obtain⟨K,z,rfl⟩:∃K z,M=K++[z]:=⟨M.dropLast,M.getLast (List.ne_nil_of_length_pos h0),(Jm _).symm⟩
 rw[Du] at hn ⊢
 exact jA W (λg K z hn F S _=>by have:=hQ g p' (K++[z]);rw[Du] at this;exact this hn F S (DP 1 _)) f K z hn F' S
def Alike(lt:Nat->Nat->Bool)(x y:Nat):Prop:=lt x y=false/\lt y x=false/\x<y
structure Run(lt:Nat->Nat->Bool)(f:Nat)(p:Array Nat)(D A:List Nat)(z:Nat):Prop where
 fix:Fix f p (D++(A++[z]))
 yB:D.Pairwise λx y=>Bf lt y x
 alike:(A++[z]).Pairwise (Alike lt)
 strict:∀d∈D,∀a∈A++[z],lt a d=true
section
variable {f n:Nat} {p:Array Nat} {D A:List Nat} {z:Nat}
theorem Run.Uy(R:Run lt f p D A z):(D++(A++[z]).reverse).Pairwise λx y=>Bf lt y x:=
 BY.mpr ⟨R.yB,JE.mpr (R.alike.imp λh=>.inr ⟨h.2.1,h.2.2⟩),λd hd a B=>.inl (R.strict d hd a (QD.mp B))⟩
theorem Run.below(W:JB lt)(R:Run lt f p D A z){x:Nat}(h:lt x z=true):∀d∈D++(A++[z]).reverse,lt x d=true:=λd hd=>by
 have B:∀d∈A++[z],lt d z=false:=λd hd=>(An.mp hd).elim (λhd=>((BY.mp R.alike).2.2 d hd z AL).1) λhd=>AM.mp hd▸W.wH _
 exact(An.mp hd).elim (λhd=>W.tr h (R.strict d hd z (BB _ AL))) λhd=>(W.neg x d z h).elim id λh=>RA h (B d (QD.mp hd))
theorem P7(F:Fix (f+1) p L)(h:L.Pairwise λx y=>Bf lt y x)(hs:∀d∈L,lt L.length d=true):Run lt f p L [] L.length:=
 ⟨F.grow,h,CX _ _,λd hd a B=>AM.mp B▸hs d hd⟩
theorem Run.next(W:JB lt)(R:Run lt (f+1) p D A z)(h:lt (D++(A++[z])).length z=true):Run lt f (G6 p D.length (D++(A++[z])).length) (D++(A++[z]).reverse) [] (D++(A++[z])).length:=by
 have:=R.fix.rev
 rw[<- Ud] at this h ⊢
 exact P7 this R.Uy (R.below W h)
theorem Run.same(W:JB lt)(R:Run lt (f+1) p D A z)(Z:lt (D++(A++[z])).length z=false)(M:lt z (D++(A++[z])).length=false):Run lt f p D (A++[z]) (D++(A++[z])).length:=by
 have F:∀a∈A++[z],lt a z=false/\lt z a=false:=λd hd=>(An.mp hd).elim (λhd=>(λh:Alike lt d z=>⟨h.1,h.2.1⟩) ((BY.mp R.alike).2.2 d hd z AL)) λhd=>AM.mp hd▸⟨W.wH _,W.wH _⟩
 refine⟨Aq D (A++[z]) _▸R.fix.grow,R.yB,BY.mpr ⟨R.alike,CX _ _,λa B b hb=>AM.mp hb▸⟨W.no (F a B).1 M,W.no Z (F a B).2,R.fix.low (BB _ B)⟩⟩,λd hd a B=>(An.mp B).elim (R.strict d hd a) λB=>AM.mp B▸?_⟩
 exact(W.neg _ _ _ (R.strict d hd z (BB _ AL))).elim (λh=>RA h M) id
end
theorem ni(W:JB lt)(hQ:∀f p D A z,(D++(A++[z])).length+f=n->Run lt f p D A z->Q (p,(D++(A++[z])).length,A.length))(f:Nat) :
  ∀(p:Array Nat) (D A:List Nat) (z:Nat),(D++(A++[z])).length+f=n->Run lt f p D A z->Tr lt n (kas_desc f p (D++(A++[z])).length A.length) Q:=by
 induction f with
 |zero=>exact λp D A z hn R=>hQ 0 p D A z hn R
 |succ f ih=>
  intro p D A z hn R
  have hm:(D++(A++[z])).length=(D++A).length+1:=by rw[<- Aq];exact Du ..
  have M:(D++(A++[z])).length<n:=hn▸CJ (CS f)
  have hz:z<n:=B9 (R.fix.low (BB _ (BB _ AL))) M
  have e1:=R.fix.here
  have e2:p.getD ((D++(A++[z])).length-1) 0=z:=by
   have:=R.fix
   rw[<- Aq] at this
   rw[hm];exact this.last
  have hg:(D++(A++[z])).length-(A.length+1)=D.length:=by rw[AI,Du];exact DZ ..
  have F:(D++(A++[z])).length+1+f=n:=by rw[DY];exact hn
  show Tr lt n (.ask (p.getD (D++(A++[z])).length 0) (p.getD ((D++(A++[z])).length-1) 0) λc=>if c=true then (if A.length>0 then kas_desc f (G6 p ((D++(A++[z])).length-(A.length+1)) (D++(A++[z])).length) ((D++(A++[z])).length+1) 0 else kas_desc f p ((D++(A++[z])).length+1) 0) else .ask _ _ _) Q
  rw[e1,e2,hg]
  refine⟨M,hz,?_⟩
  show Tr lt n (if lt (D++(A++[z])).length z=true then _ else _) Q
  have ln:∀(X:List Nat) x,(X++([]++[x])).length=X.length+1:=Du
  by_cases hc:lt (D++(A++[z])).length z=true
  .rw[if_pos hc]
   have R':=R.next W hc
   have B:=ih (G6 p D.length (D++(A++[z])).length) (D++(A++[z]).reverse) [] (D++(A++[z])).length
   rw[ln,Ud] at B
   by_cases Z:A.length>0
   .rw[if_pos Z];exact B F R'
   .rw[if_neg Z]
    have Z:=By.mp (Iq Z)
    subst Z
    have R':=P7 R.fix (R.Uy (D:=D) (A:=[]) (z:=z)) (R.below W hc)
    have B:=ih p (D++[z]) [] (D++[z]).length
    rw[ln] at B
    exact B F R'
  .rw[if_neg hc]
   refine⟨hz,M,?_⟩
   show Tr lt n (if lt z (D++(A++[z])).length=true then _ else _) Q
   by_cases hd:lt z (D++(A++[z])).length=true
   .rw[if_pos hd];exact hQ (f+1) p D A z hn R
   .rw[if_neg hd]
    have B:=ih p D (A++[z]) (D++(A++[z])).length
    rw[<- Aq D,Du,Du A] at B
    exact B F (R.same W (BQ.mpr hc) (BQ.mpr hd))
theorem PU(W:JB lt)(hn:L.length+1+f=n)(R:Run lt f p L [] L.length)(M:r6 lt n Q):Tr lt n (kas_descPart L.length n p) Q:=by
 refine Tr.bind ?_
 rw[show n-(L.length+1)=f by rw[<- hn];exact BI ..]
 have:=ni (n:=n) W (Q:=λr=>Tr lt n (if r.2.2>0 then kas_tail3 r.2.1 n (G6 r.1 (r.2.1-(r.2.2+1)) r.2.1) else kas_tail3 r.2.1 n r.1) Q) (λf p D A z hn R=>?_) f p L [] L.length
 rotate_left
 .have e:=Ud D (A++[z])
  have F:1<=(D++(A++[z])).length:=by rw[<- Aq,Du];exact DP ..
  by_cases B:A.length>0
  .rw[if_pos B]
   dsimp only
   have:=Wb W (e▸hn) R.fix.rev (e▸F) R.Uy M
   rw[e] at this
   rw[show (D++(A++[z])).length-(A.length+1)=D.length by rw[AI,Du];exact DZ ..]
   exact this
  .rw[if_neg B]
   have B:=By.mp (Iq B)
   subst B
   exact Wb W hn R.fix F R.Uy M
 have e:(L++([]++[L.length])).length=L.length+1:=Du L L.length
 rw[e] at this
 exact this hn R
theorem Vj{n:Nat}{Q:Nat×Array Nat->Prop}(W:JB lt)(hQ:r6 lt (n+1) Q):Tr lt (n+1) (kas_count (n+1) (B8 (Ar (n+1)))) Q:=by
 refine Tr.bind ?_
 have F:Fix n (B8 (Ar (n+1))) ([]++[0]):=Fix.grow (L:=[]) ⟨Fg,.nil⟩
 generalize B8 (Ar (n+1))=p at *
 refine jA W (λg K z hn F S Z=>?_) n [] 0 (Ci ..) F (CX _ _)
 have fin:Q (K.length+1,p):=by have:=hQ g p (K++[z]);rw[Du] at this;exact this hn F S (DP 1 _)
 cases g with
 |zero=>rw[if_pos (beq_iff_eq.mpr hn)];exact fin
 |succ g=>
  have Z:=Z (λh=>by injection h)
  have M:(K++[z]).length+1+g=n+1:=by rw[Du,DY];exact hn
  have B:(K++[z]).reverse.length+1+g=n+1:=by rw[BZ];exact M
  rw[if_neg λe=>Bo (hn▸CJ (CS g)) (beq_iff_eq.mp e)]
  have ha:=BY.mp S
  cases K with
  |nil=>
   rw[if_neg (by decide)]
   exact PU (L:=[z]) W M (P7 F (CX _ _) λd hd=>AM.mp hd▸Z) hQ
  |cons a K=>
   rw[if_pos (show (a::K).length+1>1 from D4 (CS _))]
   have e0:p.getD 0 0=a:=OA (X:=[]) F.eq
   have el:p.getD ((a::K).length+1-1) 0=z:=F.last
   show Tr lt (n+1) (.ask (p.getD 0 0) (p.getD ((a::K).length+1-1) 0) _) Q
   rw[e0,el]
   have lo:∀x∈(a::K)++[z],x<n+1:=λx hx=>Ac (F.low hx) (Du (a::K) z▸hn▸A0 _ _)
   refine⟨lo a AL,lo z (BB _ AL),?_⟩
   show Tr lt (n+1) (if lt a z=true then _ else _) Q
   by_cases hc:lt a z=true
   .rw[if_pos hc];exact fin
   .rw[if_neg hc]
    have hz:∀d∈(a::K)++[z],lt d z=false:=λd hd=>(An.mp hd).elim (λhd=>(Ao.mp hd).elim (λe=>e▸BQ.mpr hc) λhk=>
     W.no (((EU.mp ha.1).1 d hk).no W) (BQ.mpr hc)) λhd=>AM.mp hd▸W.wH _
    have F':Fix (g+1) (G6 p 0 ((a::K)++[z]).length) ((a::K)++[z]).reverse:=Fix.rev (D:=[]) F
    have hr:=P7 (lt:=lt) F' (JE.mpr S) λd hd=>by
     rw[BZ,Du]
     exact(W.neg _ d _ Z).elim id λh=>RA h (hz d (QD.mp hd))
    have:=PU W B hr hQ
    rw[BZ,Du] at this
    exact this
theorem lR(hk:p.getD k 0=k)(hn:k<n)(inb:∀i,i<k->p.getD i 0<n)(up:∀i j,i<=j->j<k->lt k (p.getD i 0)=true->lt k (p.getD j 0)=true)(hQ:∀l,l<=k->(∀i,i<l->lt k (p.getD i 0)=false)->(∀i,l<=i->i<k->lt k (p.getD i 0)=true)->Q l)(f:Nat) :
  ∀l r:Nat,l<=r->r<=k->r<=l+f->(∀i,i<l->lt k (p.getD i 0)=false)->(∀i,r<=i->i<k->lt k (p.getD i 0)=true)->Tr lt n (kas_place p k f l r) Q:=by
 induction f with
 |zero=>exact λl r M F Z a b=>hQ l (AF M F) a λi h=>b i (AF Z h)
 |succ f ih=>
  intro l r M F Z a b
  show Tr lt n (if l≥r then .ret l else .ask (p.getD k 0) (p.getD ((l+r) / 2) 0) λc=>if c=true then kas_place p k f l ((l+r) / 2) else kas_place p k f ((l+r) / 2+1) r) Q
  by_cases B:l≥r
  .rw[if_pos B];exact hQ l (AF M F) a λi h=>b i (AF B h)
  .rw[if_neg B,hk]
   have B:=Nat.lt_of_not_le B
   have m1:l<=(l+r) / 2:=(M5 (by decide)).mpr (by rw[Nat.mul_two];exact CO M l)
   have m2:(l+r) / 2<r:=eO (by rw[Nat.two_mul];exact Nj B r)
   have mk:=Ac m2 F
   refine⟨hn,inb _ mk,?_⟩
   show Tr lt n (if lt k (p.getD ((l+r) / 2) 0)=true then _ else _) Q
   by_cases hc:lt k (p.getD ((l+r) / 2) 0)=true
   .rw[if_pos hc];exact ih l _ m1 (A4 mk) (Fj (Ac m2 Z)) a λi c e=>up _ i c e hc
   .rw[if_neg hc];exact ih _ r m2 F (by rw[DY];exact AF Z (DH m1 (f+1))) (λi c=>BQ.mpr λh=>hc (up i _ (Fj c) mk h)) b
theorem aV{n g:Nat}(W:JB lt){Q:Array Nat->Prop}(hQ:∀p L,Fix g p L->L.length+g=n->L.Pairwise (Bf lt)->Q p)(f:Nat):∀(p:Array Nat) (L:List Nat),L.length+f+g=n->Fix (f+g) p L->L.Pairwise (Bf lt)->Tr lt n (kas_bin f p L.length) Q:=by
 induction f with
 |zero=>exact λp L hn F S=>hQ p L (Be g▸F) hn S
 |succ f ih=>
  intro p L hn F S
  have hk:L.length<n:=hn▸Ac (CJ (CS f)) (A0 _ g)
  rw[DY f 1 g] at F
  refine Tr.bind (lR F.here hk (λi h=>?_) (λi j B hj h=>?_) (λl hl a b=>?_) L.length 0 L.length (BM _) (Az _) (DP ..) (λi h=>absurd h (Dv _)) λi h h'=>absurd h' (B1.mpr h))
  .rw[F.at h];exact B9 (F.low (Dc h)) hk
  .refine(IQ B).elim (λB=>?_) λe=>e▸h
   rw[F.at hj];rw[F.at (B9 B hj)] at h
   exact(W.neg _ _ _ h).elim id λh=>RA h ((Dh.mp S i j (B9 B hj) hj B).no W)
  .have e:L.take l++L.drop l=L:=Gp ..
   have l1:(L.take l).length=l:=List.length_take_of_le hl
   have l2:(L.drop l).length=L.length-l:=CC
   have eq:=F.eq
   rw[JG] at eq
   have:=lr (p:=p) (X:=L.take l) (Y:=L.drop l) (x:=L.length) (R:=CL (L.length+1) (f+g)) (by rw[<- Aq,e];exact eq)
   rw[<- AI,e,l2] at this
   have ha:∀x∈L.take l,lt L.length x=false:=λx Z=>(U2.mp Z).elim λi h=>h.elim λh e=>by
    have h:=mS.mp h
    have:=a i h.1
    rw[F.at h.2] at this;exact e▸this
   have hb:∀x∈L.drop l,lt L.length x=true:=λx Z=>(U3.mp Z).elim λi h=>h.elim λh e=>by
    have h:l+i<L.length:=Ci i l▸h
    have:=b (l+i) (A0 ..) h
    rw[F.at h] at this;exact e▸this
   have hp:(L.take l++L.length::L.drop l).Perm (L.length::L):=List.perm_middle.trans (.cons _ (.of_eq e))
   have M:(L.take l++L.length::L.drop l).length=L.length+1:=hp.length_eq
   have hr:=ih (bubble p L.length (L.length-l)) (L.take l++L.length::L.drop l)
   rw[M] at hr
   refine hr (by rw[DY L.length 1 f];exact hn) ⟨?_,?_⟩ ?_
   .rw[this,M,Aq];rfl
   .rw[M,MX];exact hp.trans ((List.perm_append_singleton _ _).symm.trans (F.perm.append_right _))
   .have s:=BY.mp (e.symm▸S)
    exact BY.mpr ⟨s.1,EU.mpr ⟨λy hy=>.inl (hb y hy),s.2.1⟩,λx Z=>Dz.mpr ⟨.inr ⟨ha x Z,F.low (D0 Z)⟩,s.2.2 x Z⟩⟩
theorem Zm(W:JB lt)(h:1<=n):Tr lt n (kas_sort n) λp=>p.toList.Perm (Ar n)/\p.toList.Pairwise (Bf lt):=by
 have fin:∀p L,Fix 0 p L->L.length=n->L.Pairwise (Bf lt)->p.toList.Perm (Ar n)/\p.toList.Pairwise (Bf lt):=λp L F hn S=>by
  have e:=F.eq
  rw[List.range'_zero,Bl] at e
  rw[e];exact⟨hn▸F.perm,S⟩
 refine Tr.bind ?_
 cases n with
 |zero=>cases h
 |succ n=>
  refine Vj W λg p L hn F S B=>?_
  cases g with
  |zero=>rw[if_neg (show ¬L.length<n+1 from B1.mpr (CK hn.symm))];exact fin p L F hn S
  |succ g=>
   rw[if_pos (show L.length<n+1 from hn▸CJ (CS g))]
   rw[Nat.max_eq_left B,show n+1-L.length=g+1 by rw[<- hn];exact BI ..]
   exact aV (g:=0) W fin (g+1) p L hn F S
end Mine.Internal
namespace Mine.Internal
open PySem PySem.W PyProof.Rows
set_option maxRecDepth 100000
noncomputable def Zj:Bool->EM->Array EM->Nat->Nat->Nat->StateT BN Sem (Option Nat):=sortPriv% PySem.Builtin.gallop
section
variable {M:Lq} {A:Bb} {E:AV->Aj->Prop} {s:Aj}
theorem Ew{c:Prop}[Decidable c]{α σ:Type}{a b:StateT σ Sem α}{Q:α->σ->Prop}{st:σ}(B:c->wpS M A E s a Q st)(F:¬c->wpS M A E s b Q st):wpS M A E s (if c then a else b) Q st:=by
 split
 .exact B ‹_›
 .exact F ‹_›
theorem sH{ρ:Type}{n B F:Nat}{st:BN}{body:Nat->Option ρ×Nat×Nat->StateT BN Sem (ForInStep (Option ρ×Nat×Nat))}{Q:Option ρ×Nat×Nat->BN->Prop}(J:Nat->Nat->Nat->Prop)(D:Nat->Nat->Prop)(Z:J 0 B F)(h:∀x a b,J x a b->∀R:ForInStep (Option ρ×Nat×Nat)->BN->Prop,(∀a b,D a b->R (.done (none,a,b)) st)->(∀a b,J (x+1) a b->R (.yield (none,a,b)) st)->wpS M A E s (body x (none,a,b)) R st)(e:∀a b,J n a b->D a b)(q:∀a b,D a b->Q (none,a,b) st):wpS M A E s (forIn [:n] (none,B,F) body) Q st:=by
 refine H0 (I:=λx c st'=>∃a b,c=(none,a,b)/\st'=st/\J x a b) ?_ ?_ ⟨B,F,rfl,rfl,Z⟩
 .rintro x _ _ _ _ ⟨a,b,rfl,rfl,j⟩
  exact h x a b j _ q λa b j=>⟨a,b,rfl,rfl,j⟩
 .rintro _ _ ⟨a,b,rfl,rfl,j⟩
  exact q a b (e a b (JO (BM n)▸j))
theorem lJ{n t:Nat}{st:BN}{body:Nat->Option (Option Nat)×Nat×Nat->StateT BN Sem (ForInStep (Option (Option Nat)×Nat×Nat))}{Q:Option (Option Nat)×Nat×Nat->BN->Prop}(h1:∀x B hi (R:ForInStep (Option (Option Nat)×Nat×Nat)->BN->Prop),hi<=B->R (.done (none,B,hi)) st->wpS M A E s (body x (none,B,hi)) R st)(h2:∀x B hi m (R:ForInStep (Option (Option Nat)×Nat×Nat)->BN->Prop),m=B+(hi-B) / 2->B<hi->m<n->R (.yield (if m<t then (none,m+1,hi) else (none,B,m))) st->wpS M A E s (body x (none,B,hi)) R st)(q:∀B,Q (none,B,t) st){B hi:Nat}(hl:B<=t)(ht:t<=hi)(hn:hi<=n):wpS M A E s (forIn [:n] (none,B,hi) body) Q st:=by
 refine sH (J:=λx B hi=>B<=t/\t<=hi/\hi<=n/\hi+x<=n+B) (D:=λ_ hi=>hi=t) ⟨hl,ht,hn,Nat.le_add_right_of_le hn⟩ (λx B hi j R hd hy=>?_) (λB hi j=>?_) λB hi e=>e▸q B
 .have h3:=j.1
  have h4:=j.2.1
  have F:=j.2.2.1
  have Z:=j.2.2.2
  by_cases h:hi<=B
  .refine h1 x B hi _ h ?_
   exact hd _ _ (BC (AF h h3) h4)
  .have hd:(hi-B) / 2<hi-B:=Nat.div_lt_self (EE (Dj.mp h)) (by decide)
   refine h2 x B hi _ _ rfl (Dj.mp h) (by exact Z5 .lt (.a .v0 .v1) .v2 (.t .v1 .v3 (.q (.a .v3 .v0) .v4 (.l .v4 .v2 .e))) rfl hd (Ag (Dy .le .v0 .v1 (.m .v1 .v0 .e) rfl h)) F) ?_
   by_cases hm:B+(hi-B) / 2<t
   .rw[if_pos hm];exact hy _ _ ⟨hm,h4,F,by exact Z5 .le (.a .v0 (.a .v1 .n1)) (.a .v2 (.a (.a .v3 .v4) .n1)) (.l (.a .v0 .v1) (.a .v2 .v3) .e) rfl Z⟩
   .rw[if_neg hm];exact hy _ _ ⟨h3,B1.mp hm,by exact Z5 .le (.a .v0 .v1) .v2 (.t .v1 .v3 (.q (.a .v3 .v0) .v4 (.l .v4 .v2 .e))) rfl hd (Ag (Dy .le .v0 .v1 (.m .v1 .v0 .e) rfl h)) F,by exact wt .le (.a (.a .v0 .v1) (.a .v2 .n1)) (.a .v3 .v0) (.t .v1 .v4 (.l (.a .v5 .v2) (.a .v3 .v0) (.q (.a .v4 .v0) .v5 .e))) rfl hd Z (Ag (Dy .le .v0 .v1 (.m .v1 .v0 .e) rfl h))⟩
 .exact BC (AF (Nat.le_of_add_le_add_right (Ci n B▸j.2.2.2)) j.1) j.2.1
theorem Ov{left:Bool}{key:EM}{arr:Array EM}{base n hint t:Nat}{st:BN}{Q:Option Nat->BN->Prop}(hh:hint<n)(ht:t<=n)(ask:∀i,i<n->∀{C:Option Bool->BN->Prop},C (some (decide (i<t))) st->wpS M A E s (do
   let x <- elem' arr (base+i)
   if left=true then lt' x key else do
    let a <- lt' key x
    pure (I0 (λb=>!b) a)) C st)(q:Q (some t) st):wpS M A E s (Zj left key arr base n hint) Q st:=by
 refine Bd (ask hint hh ?_)
 by_cases hr:hint<t
 .rw[decide_eq_true hr]
  refine Bd (sH (J:=λx a b=>hint+a<t/\x<b) (D:=λa b=>hint+a<t/\t<=hint+min b (n-hint)) ⟨hr,HX⟩ (λx a b j R hd hy=>?_) (λa b j=>?_) λa b j=>?_)
  .have F:=j.1
   have h2:=j.2
   dsimp only
   refine Ew ?_ ?_
   .exact λh=>BX <| hd a b ⟨F,by exact Z5 .le .v0 (.a .v1 .v2) (.l .v0 .v3 (.p (.a .v4 .v1) .v3 (.p .v2 .v4 .e))) rfl ht (Ag (Dy .le .v0 .v1 (.t .v0 .v1 .e) rfl hh)) (C6 (Dy .le .v0 .v1 (.l .v0 .v1 .e) rfl h))⟩
   .intro h
    refine Bd (ask (hint+b) (by exact Ll .lt (.a .v0 .v1) .v2 (.m .v3 .v1 (.q (.a .v3 .v0) .v2 .e)) rfl h (Ag (Dy .le .v0 .v1 (.t .v0 .v1 .e) rfl hh))) ?_)
    by_cases B:hint+b<t
    .rw[decide_eq_true B];exact BX <| hy _ _ ⟨B,by exact Dy .lt (.a .v0 .n1) (.a (.m 2 .v1) .n1) (.t .v0 .v1 .e) rfl h2⟩
    .rw[decide_eq_false B];exact BX <| hd a b ⟨F,by exact Ll .le .v0 (.a .v1 .v2) (.o (.a .v1 .v3) .v0 (.p .v2 .v3 .e)) rfl B (C3 (Dy .le .v0 .v1 (.m .v1 .v0 .e) rfl h))⟩
  .exact⟨j.1,by rw[C6 (AF (Ga _ _) (A4 j.2)),E2 (A4 hh)];exact ht⟩
  .have F:=j.1
   have h2:=j.2
   dsimp only
   refine Bd (lJ (t:=t) ?_ ?_ (λZ=>BX q) (by exact HW .le (.a (.a .v0 .v1) .n1) .v2 (.t (.a .v0 .v1) .v2 .e) rfl F) h2 (by exact Ll .le (.a .v0 .v1) .v2 (.l .v1 .v3 (.q (.a .v3 .v0) .v2 .e)) rfl (C7 _ _) (Ag (Dy .le .v0 .v1 (.t .v0 .v1 .e) rfl hh))))
   .exact λx Z hi R h r=>Ew (λ_=>BX r) λh'=>absurd h h'
   .rintro x Z hi m R rfl h hm r
    refine Ew (λh'=>absurd h' (Dj.mpr h)) λ_=>Bd (ask _ hm ?_)
    by_cases B:Z+(hi-Z) / 2<t
    .rw[decide_eq_true B];rw[if_pos B] at r;exact BX r
    .rw[decide_eq_false B];rw[if_neg B] at r;exact BX r
 .rw[decide_eq_false hr]
  refine Bd (sH (J:=λx a b=>t+a<=hint/\x<b) (D:=λa b=>t+a<=hint/\hint+1<=t+min b (hint+1)) ⟨B1.mp hr,HX⟩ (λx a b j R hd hy=>?_) (λa b j=>?_) λa b j=>?_)
  .have F:=j.1
   have h2:=j.2
   dsimp only
   refine Ew ?_ ?_
   .exact λh=>BX <| hd a b ⟨F,by exact HW .le (.a .v0 .n1) (.a .v1 .v2) (.p .v2 (.a .v0 .n1) .e) rfl (C6 (Dy .le (.a .v0 .n1) .v1 (.l (.a .v0 .n1) .v1 .e) rfl h))⟩
   .intro h
    refine Bd (ask (hint-b) (by exact Ll .lt .v0 .v1 (.q (.a .v0 .v2) .v3 (.t .v3 .v1 .e)) rfl (Ag (Dy .le .v0 .v1 (.m (.a .v1 .n1) .v0 .e) rfl h)) hh) ?_)
    by_cases B:hint-b<t
    .rw[decide_eq_true B];exact BX <| hd a b ⟨F,by exact Z5 .le (.a .v0 .n1) (.a .v1 .v2) (.p (.a .v3 .v4) .v0 (.t .v3 .v1 (.p .v2 .v4 .e))) rfl (Ag (Dy .le .v0 .v1 (.m (.a .v1 .n1) .v0 .e) rfl h)) B (C3 (Dy .le .v0 (.a .v1 .n1) (.m (.a .v1 .n1) .v0 .e) rfl h))⟩
    .rw[decide_eq_false B];exact BX <| hy _ _ ⟨ by exact Ll .le (.a .v0 .v1) .v2 (.q (.a .v3 .v1) .v2 (.o .v3 .v0 .e)) rfl (Ag (Dy .le .v0 .v1 (.m (.a .v1 .n1) .v0 .e) rfl h)) B,by exact Dy .lt (.a .v0 .n1) (.a (.m 2 .v1) .n1) (.t .v0 .v1 .e) rfl h2⟩
  .exact⟨j.1,by rw[C6 (AF hh (A4 j.2))];exact DP _ _⟩
  .have F:=j.1
   have h2:=j.2
   dsimp only
   refine Bd (lJ (t:=t) ?_ ?_ (λZ=>BX q) (Nat.sub_le_iff_le_add.mpr h2) (by exact Ll .le .v0 .v1 (.l (.a .v0 .v2) .v3 (.p (.a .v1 .v2) .v3 .e)) rfl F (Ag (HW .le .v0 .v1 (.l (.a .v2 .v0) .v1 .e) rfl F))) (by exact Ll .le .v0 .v1 (.q (.a .v0 .v2) .v3 (.t .v3 .v1 .e)) rfl (Ag (HW .le .v0 .v1 (.l (.a .v2 .v0) .v1 .e) rfl F)) hh))
   .exact λx Z hi R h r=>Ew (λ_=>BX r) λh'=>absurd h h'
   .rintro x Z hi m R rfl h hm r
    refine Ew (λh'=>absurd h' (Dj.mpr h)) λ_=>Bd (ask _ hm ?_)
    by_cases B:Z+(hi-Z) / 2<t
    .rw[decide_eq_true B];rw[if_pos B] at r;exact BX r
    .rw[decide_eq_false B];rw[if_neg B] at r;exact BX r
noncomputable def jX:Array EM->Array EM->StateT BN Sem (Array EM):=sortPriv% PySem.Builtin.mergeLo
noncomputable def jD:Array EM->Array EM->StateT BN Sem (Array EM):=sortPriv% PySem.Builtin.mergeHi
theorem KR{B:Array EM}{i:Nat}{p:EM}{st:BN}{C:EM->BN->Prop}(h:B[i]?=some p)(q:C p st):wpS M A E s (elem' B i) C st:=by
 rw[elem'_eq,h];exact BX q
structure So(st st':BN):Prop where
 k:kindOf st'=kindOf st
 a:Cd st'=Cd st
 p:Pe st'=Pe st
 f:Gb st'=Gb st
theorem Mg{a:Array EM}{j:Nat}(h:j<a.size):(a.extract 0 j).push a[j]=a.extract 0 (j+1):=by
 apply KH
 rw[Fd,HK,HK,FW,FW,KZ,ZX,ZX,Pf,AO (by rw[A1];exact h)]
 rfl
theorem MP{a:Array EM}:a.extract 0 a.size=a:=by simp
theorem az{a:Array EM}:a.extract a.size a.size=#[]:=by simp
theorem Uk{a:Array EM}{i j:Nat}(h:i<=j):a.extract 0 i++a.extract i j=a.extract 0 j:=by simp[JO h]
def Wj(M:Lq)(A:Bb)(E:AV->Aj->Prop)(s:Aj){α:Type}(m:StateT BN Sem α)(st:BN)(r:α)(st':BN):Prop:=∀Q:α->BN->Prop,Q r st'->wpS M A E s m Q st
section
variable {α β γ ρ:Type} {st st' st2:BN} {n:Nat}
theorem wb{m:StateT BN Sem α}{f:α->StateT BN Sem β}{Q:β->BN->Prop}(h:Wj M A E s m st r st')(k:wpS M A E s (f r) Q st'):wpS M A E s (m >>= f) Q st:=Bd (h _ k)
theorem db{m:StateT BN Sem α}{f:α->StateT BN Sem β}(h:Wj M A E s m st r st')(k:Wj M A E s (f r) st' B st2):Wj M A E s (m >>= f) st B st2:=λQ q=>Bd (h _ (k Q q))
theorem ZC:Wj M A E s (pure a) st a st:=λ_ q=>BX q
theorem Qr:Wj M A E s (liftM (rule x)) st ⟨⟩ st:=λ_ q=>wpS_lift (G4 ⟨rfl,q⟩)
theorem Nz:Wj M A E s get st st st:=λ_ q=>W6 q
theorem IC(h:i<B.size):Wj M A E s (elem' B i) st B[i] st:=λ_ q=>KR (Bp h) q
theorem OB[Decidable c]{a b:StateT BN Sem α}{Q:α->BN->Prop}(h:c)(k:wpS M A E s a Q st):wpS M A E s (if c then a else b) Q st:=by rw[if_pos h];exact k
theorem S4[Decidable c]{a b:StateT BN Sem α}{Q:α->BN->Prop}(h:¬c)(k:wpS M A E s b Q st):wpS M A E s (if c then a else b) Q st:=by rw[if_neg h];exact k
theorem w_mod{f:PUnit->StateT BN Sem β}{Q:β->BN->Prop}(h:∀st',So st st'->wpS M A E s (f ⟨⟩) Q st'):wpS M A E s (modify (λx=>Fh (kindOf x) (Cd x) (Pe x) g (Gb x)) >>= f) Q st:=Bd (LU (h _ ⟨rfl,rfl,rfl,rfl⟩))
theorem qY[Decidable c1][Decidable c2]{x1 F:EM->StateT BN Sem β}{G:EM->BN->StateT BN Sem α}{k:EM->BN->α->StateT BN Sem β}{Q:β->BN->Prop}(he:i<B.size)(h1:c1->wpS M A E s (x1 B[i]) Q st)(h2:¬c1->c2->wpS M A E s (F B[i]) Q st)(h3:¬c1->¬c2->wpS M A E s (G B[i] st) (λa st'=>wpS M A E s (k B[i] st a) Q st') st) :
  wpS M A E s (liftM (rule r) >>= λ_=>elem' B i >>= λp=>if c1 then x1 p else if c2 then F p else get >>= λs=>G p s >>= k p s) Q st:=
 wb Qr (wb (IC he) (Ew h1 λZ=>Ew (h2 Z) λn2=>wb Nz (Bd (h3 Z n2))))
theorem To{body:Nat->Option ρ×γ->StateT BN Sem (ForInStep (Option ρ×γ))}{Q:Option ρ×γ->BN->Prop}(hn:0<n)(h:∀R:ForInStep (Option ρ×γ)->BN->Prop,(∀c st',So st st'->R (.done (some v,c)) st')->wpS M A E s (body 0 B) R st)(q:∀c st',So st st'->Q (some v,c) st'):wpS M A E s (forIn [:n] B body) Q st:=by
 refine H0 (I:=λx c st'=>x=0/\c=B/\st'=st) ?_ ?_ ⟨rfl,rfl,rfl⟩
 .rintro _ _ _ _ _ ⟨rfl,rfl,rfl⟩
  exact h _ q
 .rintro _ _ ⟨h,_⟩
  exact absurd (h▸JP 0 n) (Dj.mpr hn)
theorem aK{body:Nat->β->StateT BN Sem (ForInStep β)}{Q:β->BN->Prop}(c d1 d2:Nat->β)(J:Nat->Prop)(p1 p2:Nat->Prop)(F:Z=c 0)(j0:J 0)(jn:¬J n)(h:∀x,J x->∀R:ForInStep β->BN->Prop,(p1 x->R (.done (d1 x)) st)->(p2 x->R (.done (d2 x)) st)->(J (x+1)->R (.yield (c (x+1))) st)->wpS M A E s (body x (c x)) R st)(q1:∀x,p1 x->Q (d1 x) st)(q2:∀x,p2 x->Q (d2 x) st):wpS M A E s (forIn [:n] Z body) Q st:=by
 refine H0 (I:=λx B st'=>B=c x/\st'=st/\J x) ?_ ?_ ⟨F,rfl,j0⟩
 .rintro x _ _ _ _ ⟨rfl,rfl,j⟩
  exact h x j _ (q1 x) (q2 x) λj=>⟨rfl,rfl,j⟩
 .rintro _ _ ⟨_,_,j⟩
  exact absurd (JO (BM n)▸j) jn
theorem wx(hh:hint<n)(ht:t<=n)(ask:∀i,i<n->Wj M A E s (do
   let x <- elem' arr (base+i)
   if left=true then lt' x key else do
    let a <- lt' key x
    pure (I0 (λb=>!b) a)) st (some (decide (i<t))) st):Wj M A E s (Zj left key arr base n hint) st (some t) st:=λ_ q=>Ov hh ht (λi hi _ hC=>ask i hi _ hC) q
end
section
variable {a b:Array EM} {st:BN}
theorem gm(B:0<b.size):(#[b[0]]:Array EM)=b.extract 0 1:=by have:=Mg (a:=b) B;rwa [eU] at this
theorem T2(e:out=b.extract 0 i)(h:i=b.size):out++a.extract 0 a.size++b.extract i b.size=b++a:=by rw[e,h,MP,MP,az,OK]
theorem YJ{Q:Array EM->BN->Prop}(hg:ZY st=7)(ha:0<a.size)(hb:0<b.size)(ask:∀{x y:EM},x∈a->y∈b->∀{st':BN},kindOf st'=kindOf st->Wj M A E s (lt' y x) st' (some true) st')(q:∀st',So st st'->Q (b++a) st'):wpS M A E s (jX a b) Q st:=by
 have n0:0<a.size+b.size:=Nat.add_pos_left ha _
 refine qY hb (λh=>BX ?_) (λ_ _=>BX ?_) λhb1 _=>To n0 (v:=b++a) (λR hR=>?_) λc st' sg=>BX (q st' sg)
 .refine(?_:Q (#[b[0]]++a.extract 0 a.size++b.extract 1 b.size) st)
  rw[T2 (gm hb) (beq_iff_eq.mp h)];exact q st ⟨rfl,rfl,rfl,rfl⟩
 .refine(?_:Q (#[b[0]]++b.extract 1 b.size++a.extract 0 a.size) st)
  rw[gm hb,Uk hb,MP,MP];exact q st ⟨rfl,rfl,rfl,rfl⟩
 have hb1:1<b.size:=Kh hb λh=>hb1 (beq_iff_eq.mpr h)
 refine Bd (aK (c:=λx=>(none,b.extract 0 (x+1),0,x+1,0,x)) (d1:=λx=>(some (b++a),b.extract 0 (x+1+1),0,x+1+1,0,x+1)) (d2:=λx=>(none,b.extract 0 (x+1+1),0,x+1+1,0,x+1))
  (J:=λx=>x+1<b.size) (p1:=λ_=>True) (p2:=λx=>x+1+1<b.size) (by rw[<- gm hb]) hb1 (by exact Dy .bZ (.a (.a .v0 .v1) .n1) .v1 .e rfl) (λx j R h1 h2 h3=>?_) (λx _=>BX (hR _ _ ⟨rfl,rfl,rfl,rfl⟩)) λx hj=>?_)
 .dsimp only
  refine wb (IC j) (wb (IC ha) (wb (ask (CH _) (CH _) rfl) (wb (IC j) ?_)))
  refine Ew (λh=>BX ?_) λh=>?_
  .rw[T2 (Mg j) (beq_iff_eq.mp h),Mg j];exact h1 trivial
  .have h:x+1+1<b.size:=Kh j λe=>h (beq_iff_eq.mpr e)
   rw[Mg j]
   exact Ew (λ_=>BX (h2 h)) λ_=>BX (h3 h)
 .dsimp only
  refine wb Qr (Bd (To n0 (v:=b++a) (λR hR'=>?_) λc st' sg=>BX (hR _ st' sg)))
  clear hR q
  refine OB (D4 (by rw[hg];decide:0<ZY st)) (w_mod λst1 sg=>?_)
  clear hg
  refine wb (IC hj) (wb (wx (t:=0) (base:=0) (left:=false) (hint:=0) ha (BM _) λi hi=>(by rw[decide_eq_false (Dv i)];exact db (IC (by rw[Be];exact hi)) (db (ask (CH _) (CH _) sg.k) ZC))) ?_)
  refine S4 (FA 0) (wb (IC hj) ?_)
  refine Ew (λh=>BX ?_) λh=>?_
  .rw[T2 (Mg hj) (beq_iff_eq.mp h)];exact hR' _ _ sg
  .have h:x+1+1+1<b.size:=Kh hj λe=>h (beq_iff_eq.mpr e)
   have e:x+1+1+1+(b.size-(x+1+1+1))=b.size:=E2 (A4 h)
   refine wb (IC ha) (wb (wx (t:=b.size-(x+1+1+1)) (base:=x+1+1+1) (left:=true) (hint:=0) (EE h) (Az _) λi hi=>db (IC (by rw[<- e];exact Hq hi _)) (decide_eq_true hi▸ask (CH _) (CH _) sg.k)) ?_)
   refine OB (EE h) (OB (beq_iff_eq.mpr e) (BX ?_))
   rw[T2 (by rw[Mg hj,Uk (A0 _ _)]) e];exact hR' _ _ sg
end
theorem oz{a:Array EM}{j:Nat}(h:j<a.size):(a.extract (j+1) a.size).reverse.push a[j]=(a.extract j a.size).reverse:=by
 apply KH
 rw[Fd,ZZ,ZZ,HK,HK,FW,FW,Dd (by simp),Dd (by simp),<- Array.getElem_toList,FX (i:=j) (by simpa using h),K4]
section
variable {a b:Array EM} {st:BN}
theorem N1{i j:Nat}(e:i=j+1)(h:j<a.size):(a.extract i a.size).reverse.push a[j]=(a.extract j a.size).reverse:=by rw[e];exact oz h
theorem jP(h:i=0)(e:out=(a.extract i a.size).reverse):a.extract 0 i++b.extract 0 b.size++out.reverse=b++a:=by rw[e,h,W7,MP,MP,eU,Array.empty_append]
theorem qt(B:a.size-1<a.size):(#[a[a.size-1]]:Array EM)=(a.extract (a.size-1) a.size).reverse:=by have:=N1 (a:=a) (i:=a.size) (j:=a.size-1) (Nat.succ_pred (Bu (Pl B))).symm B;rwa [az,Array.reverse_empty] at this
theorem XH{Q:Array EM->BN->Prop}(hg:ZY st=7)(ha:1<a.size)(hb:0<b.size)(ask:∀{x y:EM},x∈a->y∈b->∀{st':BN},kindOf st'=kindOf st->Wj M A E s (lt' y x) st' (some true) st')(q:∀st',So st st'->Q (b++a) st'):wpS M A E s (jD a b) Q st:=by
 have hk:a.size-1<a.size:=MY (Pl ha) HX
 have hl:b.size-1<b.size:=MY hb HX
 have hx:∀x,a.size-1-x-1<a.size:=λx=>Al (Ga _ (x+1)) hk
 have n0:0<a.size+b.size:=Nat.add_pos_right _ hb
 refine qY hk (λh=>absurd (beq_iff_eq.mp h) (Bu (EE ha))) (λ_ _=>BX ?_) λ_ _=>To n0 (v:=b++a) (λR hR=>?_) λc st' sg=>BX (q st' sg)
 .refine(?_:Q (b.extract 0 b.size++a.extract 0 (a.size-1)++#[a[a.size-1]].reverse) st)
  rw[qt hk,W7,OL,Uk (Ga _ _),MP,MP];exact q st ⟨rfl,rfl,rfl,rfl⟩
 refine Bd (aK (c:=λx=>(none,a.size-1-x,b.size,(a.extract (a.size-1-x) a.size).reverse,x,0)) (d1:=λx=>(some (b++a),a.size-1-x-1,b.size,(a.extract (a.size-1-x-1) a.size).reverse,x+1,0)) (d2:=λx=>(none,a.size-1-x-1,b.size,(a.extract (a.size-1-x-1) a.size).reverse,x+1,0))
  (J:=λx=>x<a.size-1) (p1:=λ_=>True) (p2:=λx=>x+1<a.size-1) (by rw[qt hk];rfl) (EE ha) (λh=>absurd (B9 h hk) (B1.mpr (A0 _ _))) (λx j R h1 h2 h3=>?_) (λx _=>BX (hR _ _ ⟨rfl,rfl,rfl,rfl⟩)) λx hj=>?_)
 .have e:a.size-1-x=a.size-1-x-1+1:=(Nat.succ_pred (Bu (EE j))).symm
  dsimp only
  refine wb (IC hl) (wb (IC (hx x)) (wb (ask (CH _) (CH _) rfl) (wb (IC (hx x)) ?_)))
  refine Ew (λh=>BX ?_) λh=>?_
  .rw[jP (beq_iff_eq.mp h) (N1 e (hx x)),N1 e (hx x)];exact h1 trivial
  .have h:x+1<a.size-1:=Nat.lt_of_sub_pos (m4 λe=>h (beq_iff_eq.mpr e))
   rw[N1 e (hx x)]
   exact Ew (λ_=>BX (h2 h)) λ_=>BX (h3 h)
 .dsimp only
  refine wb Qr (Bd (To n0 (v:=b++a) (λR hR'=>?_) λc st' sg=>BX (hR _ st' sg)))
  clear hR q
  have hp:0<a.size-1-x-1:=(EE hj:0<a.size-1-(x+1))
  refine OB (D4 (by rw[hg];decide:0<ZY st)) (w_mod λst1 sg=>?_)
  clear hg
  refine wb (IC hl) (wb (wx (t:=0) (base:=0) (left:=false) (MY hp HX) (BM _) λi hi=>(by rw[decide_eq_false (Dv i)];exact db (IC (by rw[Be];exact B9 hi (hx x))) (db (ask (CH _) (CH _) sg.k) ZC))) ?_)
  refine OB hp (OB rfl (BX ?_))
  rw[jP rfl (by rw[<- Array.reverse_append,Uk (A4 (hx x))])];exact hR' _ _ sg
end
theorem gp(Z:Nat):∀(l:List EM) (k:Nat) (P W:List EM) (B:Array EM),B.toList=P++W->P.length=Z+k->W.length=l.length->
  ((l.zipIdx k).foldl (λa (x:EM×Nat)=>a.setIfInBounds (Z+x.2) x.1) B).toList=P++l:=by
 intro l
 induction l with
 |nil=>intro k P W B h _ F;rw[By.mp F] at h;exact h
 |cons x l ih=>
  intro k P W B h hp F
  cases W with
  |nil=>cases F
  |cons w W=>
   rw[List.zipIdx_cons,Gj,QC]
   refine ih (k+1) (P++[x]) W _ ?_ (by rw[AI,hp];rfl) (Et F)
   rw[Array.toList_setIfInBounds,h,<- hp,Ms _ _ (Az _),Fo,List.set_cons_zero,Aq];rfl
theorem pB{σ:Type}{x st:σ}{Q:PUnit->σ->Prop}(h:Q ⟨⟩ x):wpS M A E s (set x:StateT σ Sem PUnit) Q st:=by
 unfold wpS;rw[StateT.run_set];exact AS ⟨rfl,h⟩
theorem bT{α:Type}{x y w:α}:((#[x,y]:Array α).setIfInBounds 0 w).eraseIdxIfInBounds (0+1)=#[w]:=by simp[Array.eraseIdxIfInBounds]
theorem Yu{κ:SortKind}{X Y Z:Array EM}{pw z:Nat}{Q:Bool->BN->Prop}(hn:0<X.size+Y.size)(hz:0<Z.size)(ask1:∀{x:EM},x∈X->∀{st':BN} {C:Option Bool->BN->Prop},kindOf st'=κ->C (some false) st'->wpS M A E s (lt' Z[0] x) C st')(B:∀{x y:EM},x∈Y->y∈Z->∀{st':BN},kindOf st'=κ->Wj M A E s (lt' y x) st' (some true) st')(q:∀st',Cd st'=X++Z++Y->Gb st'=none->Pe st'=#[(0,X.size+Y.size+Z.size,pw)]->Q true st'):wpS M A E s (mergeAt' 0) Q (Fh κ (X++Y++Z) #[(0,X.size+Y.size,pw),(X.size+Y.size,Z.size,z)] 7 none):=by
 have F:(X++Y).size=X.size+Y.size:=PA
 have gX:∀{i:Nat} (h:i<X.size),(X++Y++Z)[i]?=some X[i]:=λh=>by rw[KI (by exact Ll .lt .v0 .v1 (.t .v0 .v2 (.p .v1 (.a .v2 .v3) .e)) rfl h F),KI h,Bp h]
 have gY:∀{i:Nat} (h:i<Y.size),(X++Y++Z)[X.size+i]?=some Y[i]:=λh=>by rw[KI (by exact Ll .lt (.a .v0 .v1) .v2 (.p .v2 (.a .v0 .v3) (.t .v1 .v3 .e)) rfl F h),Rf (A0 _ _),BI,Bp h]
 have gZ:∀{i:Nat} (h:i<Z.size),(X++Y++Z)[X.size+Y.size+i]?=some Z[i]:=λh=>by rw[Rf (by exact Ll .le .v0 (.a (.a .v1 .v2) .v3) (.q .v0 (.a .v1 .v2) .e) rfl F),F,BI,Bp h]
 refine Bd (W6 ?_)
 refine Bd (pB ?_)
 refine Bd (KR (gZ (i:=0) hz) (Bd (Ov (t:=X.size) (base:=0) (left:=false) (hint:=0) hn (A0 _ _) (λi hi C hC=>?_) ?_)))
 .by_cases h:i<X.size
  .rw[decide_eq_true h] at hC
   exact Bd (KR (by rw[Be];exact gX h) (Bd (ask1 (CH _) rfl (BX hC))))
  .rw[decide_eq_false h] at hC
   refine Cq (IU (B1.mp h)) λk ze1=>?_;subst ze1
   exact Bd (KR (by rw[Be];exact gY (by exact HW .lt .v0 .v1 (.t (.a .v2 .v0) (.a .v2 .v1) .e) rfl hi)) (wb (B (CH _) (CH _) rfl) (BX hC)))
 have ez:0+X.size=X.size:=Be _
 have ey:X.size+Y.size-X.size=Y.size:=BI ..
 dsimp only
 rw[ez,ey]
 refine Ew (λh=>?_) λhy=>?_
 .have h:Y=#[]:=JF (beq_iff_eq.mp h)
  subst h
  refine BX (q _ ?_ rfl bT)
  show X++#[]++Z=X++Z++#[]
  rw[OK,OK]
 have hy:0<Y.size:=m4 λh=>hy (beq_iff_eq.mpr h)
 have el:X.size+Y.size-1=X.size+(Y.size-1):=Nat.add_sub_assoc hy _
 rw[el]
 refine Bd (KR (gY (i:=Y.size-1) (MY hy HX)) (Bd (Ov (t:=Z.size) (base:=X.size+Y.size) (left:=true) (hint:=Z.size-1) (MY hz HX) (Az _) (λi hi C hC=>?_) ?_)))
 .rw[decide_eq_true hi] at hC
  exact Bd (KR (gZ hi) (B (CH _) (CH _) rfl _ hC))
 refine Ew (λh=>absurd (beq_iff_eq.mp h) (Bu hz)) λ_=>?_
 have eY:(X++Y++Z).extract X.size (X.size+Y.size)=Y:=by
  apply KH;simp
 have eZ:(X++Y++Z).extract (X.size+Y.size) (X.size+Y.size+Z.size)=Z:=by
  apply KH
  rw[HK,FW,CM,List.drop_left' (by rw[A1,F]),BI]
  exact Dd (CK A1)
 rw[eY,eZ]
 have go:∀{st':BN},So (Fh κ (X++Y++Z) ((#[(0,X.size+Y.size,pw),(X.size+Y.size,Z.size,z)].setIfInBounds 0 (0,X.size+Y.size+Z.size,pw)).eraseIdxIfInBounds (0+1)) 7 none) st'->
   Q (Gb st').isNone (Fh (kindOf st') ((Z++Y).toList.zipIdx.foldl (λa (x:EM×Nat)=>a.setIfInBounds (X.size+x.2) x.1) (Cd st')) (Pe st') (ZY st') (Gb st')):=λ{st'} sg=>by
  have ef:Gb st'=none:=sg.f
  rw[ef]
  refine q _ ?_ rfl (sg.p.trans bT)
  apply KH
  refine(gp X.size (Z++Y).toList 0 X.toList (Y++Z).toList (Cd st') ?_ A1 ?_).trans ?_
  .rw[sg.a,<- CM,<- OL]
  .rw[A1,A1,PA,PA,Ci]
  .rw[<- CM,<- OL]
 refine Ew (λ_=>?_) λh=>?_
 .exact Bd (YJ rfl hy hz B λst' sg=>Bd (LU (Bd (W6 (BX (go sg))))))
 .exact Bd (XH rfl (by exact Dy .lt .n1 .v0 (.m .v0 .v1 (.t .n0 .v1 .e)) rfl h hz) hz B λst' sg=>Bd (LU (Bd (W6 (BX (go sg))))))
end
end Mine.Internal
namespace Mine.Internal
open PySem PySem.W PyProof.Rows
set_option maxRecDepth 100000
structure UU(lt:Nat->Nat->Bool)(d n:Nat):Prop where
 up:∀i j,d<=i->i<j->j<n->lt i j=true
 dn:∀i j,i<d->i<j->j<n->lt j i=true
section
variable {lt:Nat->Nat->Bool} {d n:Nat}
theorem Hv(h:i<n):(B8 (Ar n)).getD i 0=i:=by simp[h]
theorem pA(W:JB lt)(T:UU lt d n):∀f m,m+1+f=n->m<=d->Tr lt n (kas_desc f (B8 (Ar n)) (m+1) 0) (λr=>r=(B8 (Ar n),min n (d+1),0)):=by
 intro f
 induction f with
 |zero=>intro m h hm;show _=_;rw[C3 (by exact HW .le .v0 (.a .v1 .n1) (.p (.a (.a .v2 .n1) .n0) .v0 (.l .v2 .v1 .e)) rfl h hm),<- h]
 |succ f B=>
  intro m h hm
  refine⟨by rw[Hv (by exact HW .lt (.a .v0 .n1) .v1 (.q (.a (.a .v0 .n1) (.a .v2 .n1)) .v1 .e) rfl h)];exact HW .lt (.a .v0 .n1) .v1 (.q (.a (.a .v0 .n1) (.a .v2 .n1)) .v1 .e) rfl h,by rw[DZ,Hv (by exact HW .lt .v0 .v1 (.q (.a (.a .v0 .n1) (.a .v2 .n1)) .v1 .e) rfl h)];exact HW .lt .v0 .v1 (.q (.a (.a .v0 .n1) (.a .v2 .n1)) .v1 .e) rfl h,?_⟩
  rw[Hv (by exact Ll .lt .v0 .v1 (.q (.a .v0 .n1) (.a .v2 .n1) (.q (.a (.a .v2 .n1) (.a .v3 .n1)) .v1 .e)) rfl (Ag (Ec .le .n1 (.a .v0 .n1) .e rfl)) h),DZ,Hv (by exact HW .lt (.a .v0 .n1) .v1 (.q (.a (.a .v0 .n1) (.a .v2 .n1)) .v1 .e) rfl h)]
  by_cases c:m<d
  .rw[T.dn m (m+1) c (EZ m) (by exact HW .lt (.a .v0 .n1) .v1 (.q (.a (.a .v0 .n1) (.a .v2 .n1)) .v1 .e) rfl h)];dsimp only;rw[if_pos rfl,if_neg (FA 0)]
   exact B (m+1) (by exact BC (HW .le (.a (.a (.a .v0 .n1) .n1) .v1) .v2 (.q (.a (.a .v0 .n1) (.a .v1 .n1)) .v2 .e) rfl h) (HW .le .v0 (.a (.a (.a .v1 .n1) .n1) .v2) (.p (.a (.a .v1 .n1) (.a .v2 .n1)) .v0 .e) rfl h)) c
  .have e:m=d:=BC hm (B1.mp c)
   subst e
   have u:=T.up m (m+1) (Az m) (EZ m) (by exact HW .lt (.a .v0 .n1) .v1 (.q (.a (.a .v0 .n1) (.a .v2 .n1)) .v1 .e) rfl h)
   rw[W.uV _ _ u];dsimp only;rw[if_neg BD]
   refine⟨by exact HW .lt .v0 .v1 (.q (.a (.a .v0 .n1) (.a .v2 .n1)) .v1 .e) rfl h,by exact HW .lt (.a .v0 .n1) .v1 (.q (.a (.a .v0 .n1) (.a .v2 .n1)) .v1 .e) rfl h,?_⟩
   rw[u];dsimp only;rw[if_pos rfl]
   show _=_
   rw[C6 (by exact HW .le (.a .v0 .n1) .v1 (.q (.a (.a .v0 .n1) (.a .v2 .n1)) .v1 .e) rfl h)]
theorem TF(h:m<=n):(G6 (B8 (Ar n)) 0 m).toList=(Ar m).reverse++CL m (n-m):=by
 have e:(B8 (Ar n)).toList=[]++(Ar m++CL m (n-m)):=by
  have:=bf (s:=0) (m:=m) (n:=n-m)
  rw[Be,E2 h] at this
  rw[MZ,Fg,Fg,this]
 have:=V4 e
 rw[Gk,Be,BV,MZ] at this
 exact this
theorem df(W:JB lt)(T:UU lt d n)(hd:2<=d)(hn:2<=n)(q:Q (min n (d+1),G6 (B8 (Ar n)) 0 (min n (d+1)))):Tr lt n (kas_count n (B8 (Ar n))) Q:=by
 obtain⟨r,rfl⟩:∃r,n=r+2:=⟨n-2,by exact BC (Dy .le .v0 (.a .v1 .n2) (.p (.a .v1 .n2) .v0 .e) rfl (Ag (Ec .le .n2 .v0 (.l .n2 .v0 .e) rfl hn))) (Dy .le (.a .v0 .n2) .v1 (.q (.a .v0 .n2) .v1 .e) rfl (Ag (Ec .le .n2 .v0 (.l .n2 .v0 .e) rfl hn)))⟩
 refine Tr.bind ?_
 refine⟨by rw[Hv (by exact Ec .lt .n1 (.a .v0 .n2) .e rfl)];exact Ec .lt .n1 (.a .v0 .n2) .e rfl,by rw[Hv (It _)];exact It _,?_⟩
 rw[Hv (by exact Ec .lt .n1 (.a .v0 .n2) .e rfl),Hv (i:=1-1) (It _),T.dn 0 1 (by exact Ec .lt .n0 .v0 (.l .n2 .v0 .e) rfl hd) HX (by exact Ec .lt .n1 (.a .v0 .n2) .e rfl)];dsimp only;rw[if_pos rfl]
 show Tr lt (r+2) (if (1==r+2)=true then _ else if 1>1 then _ else kas_descPart 1 (r+2) _) Q
 rw[if_neg (by simp),if_neg (FA 1)]
 refine Tr.bind ?_
 have go:=pA W T r 1 (by exact BC (Ec .le (.a (.a .n1 .n1) .v0) (.a .v0 .n2) .e rfl) (Ec .le (.a .v0 .n2) (.a (.a .n1 .n1) .v0) .e rfl)) (by exact Ec .le .n1 .v0 (.l .n2 .v0 .e) rfl hd)
 have key:∀{t:KasT (Array Nat×Nat×Nat)} {P P':Array Nat×Nat×Nat->Prop},Tr lt (r+2) t P->(∀a,P a->P' a)->Tr lt (r+2) t P':=λ{t}=>by
  induction t with
  |ret a=>exact λh k=>k _ h
  |ask i j k ih=>exact λh k'=>⟨h.1,h.2.1,ih _ h.2.2 k'⟩
 refine key go λa e=>?_
 subst e
 rw[if_neg (FA 0)]
 refine Tr.bind ?_
 dsimp only
 generalize hm:min (r+2) (d+1)=m at q ⊢
 have F:m<=r+2:=by exact HW .le .v0 (.a .v1 .n2) (.p .v2 .v0 (.l .v2 (.a .v1 .n2) .e)) rfl hm (Ce _ _)
 have B:0<m:=hm▸mS.mpr ⟨It _,It _⟩
 cases Z:r+2-m with
 |zero=>exact q
 |succ f=>
  have rr:=TF F
  have e1:(G6 (B8 (Ar (r+2))) 0 m).getD m 0=m:=by
   have:=OA (p:=G6 (B8 (Ar (r+2))) 0 m) (X:=(Ar m).reverse) (x:=m) (Y:=CL (m+1) f) (by rw[rr,Z,JG])
   rwa [BZ,BV] at this
  have e2:(G6 (B8 (Ar (r+2))) 0 m).getD (m-1) 0=0:=by
   obtain⟨k,rfl⟩:∃k,m=k+1:=⟨m-1,by exact BC (Dy .le .v0 (.a .v1 .n1) (.p (.a .v1 .n1) .v0 .e) rfl (Ag (Ec .le .n1 .v0 (.t .n0 .v0 .e) rfl B))) (Dy .le (.a .v0 .n1) .v1 (.q (.a .v0 .n1) .v1 .e) rfl (Ag (Ec .le .n1 .v0 (.t .n0 .v0 .e) rfl B)))⟩
   have:=OA (p:=G6 (B8 (Ar (r+2))) 0 (k+1)) (X:=(CL 1 k).reverse) (x:=0) (Y:=CL (k+1) (r+2-(k+1))) (by rw[rr,Fg,JG,K4,Aq];rfl)
   rwa [BZ,Ka] at this
  refine⟨by rw[e1];exact Ll .lt .v0 (.a .v1 .n2) (.q (.a .v2 .v0) (.a .v1 .n2) (.p .v2 (.a .v3 .n1) .e)) rfl (Ag (Dy .le .v0 (.a .v1 .n2) (.l .v0 (.a .v1 .n2) .e) rfl F)) Z,by rw[e2];exact Ec .lt .n0 (.a .v0 .n2) .e rfl,?_⟩
  rw[e1,e2,T.dn 0 m (by exact Ec .lt .n0 .v0 (.l .n2 .v0 .e) rfl hd) B (by exact Ll .lt .v0 (.a .v1 .n2) (.q (.a .v2 .v0) (.a .v1 .n2) (.p .v2 (.a .v3 .n1) .e)) rfl (Ag (Dy .le .v0 (.a .v1 .n2) (.l .v0 (.a .v1 .n2) .e) rfl F)) Z)];dsimp only;rw[if_pos rfl]
  exact q
theorem oO(h:m<=n):Fix (n-m) (G6 (B8 (Ar n)) 0 m) (Ar m).reverse where
 eq:=by rw[TF h,BZ,BV]
 perm:=by rw[BZ,BV];exact Pc _
theorem pv(T:UU lt d n)(h:m<=n)(hd:m<=d+1):(Ar m).reverse.Pairwise (Bf lt):=by
 rw[JE]
 refine Dh.mpr λi j hi F B=>?_
 rw[OT,OT]
 rw[BV] at F
 exact .inl (T.dn i j (by exact Ll .lt .v0 .v1 (.t .v0 .v2 (.t .v2 .v3 (.l .v3 (.a .v1 .n1) .e))) rfl B F hd) B (by exact HW .lt .v0 .v1 (.t .v0 .v2 (.l .v2 .v1 .e)) rfl F h))
theorem de(h:64<=n)(h':n<128):SJ n n 0=n / 2+n % 2:=by
 obtain⟨r,rfl⟩:∃r,n=r+2:=⟨n-2,by exact BC (Dy .le .v0 (.a .v1 .n2) (.p (.a .v1 .n2) .v0 .e) rfl (Ag (Ec .le .n2 .v0 (.l (.n 64) .v0 .e) rfl h))) (Dy .le (.a .v0 .n2) .v1 (.q (.a .v0 .n2) .v1 .e) rfl (Ag (Ec .le .n2 .v0 (.l (.n 64) .v0 .e) rfl h)))⟩
 rw[minRun'_succ,if_neg (by exact Ec .bZ (.a .v0 .n2) (.n 64) (.l (.n 64) (.a .v0 .n2) .e) rfl h),minRun'_succ,if_pos (by exact yJ 2 .lt .v0 (.n 64) (.l (.m 2 .v0) (.a .v1 .n2) (.t (.a .v1 .n2) (.n 128) .e)) rfl (oP _) h'),JO (BM _)]
end
section
variable {prog:DU} {w:IW} {A:Bb} {E:AV->Aj->Prop} {s:Aj} {κ:SortKind} {it:Array EM} {lt:Nat->Nat->Bool} {d n:Nat}
theorem iK(Z:∀i j (C:Bool->Aj->Prop),i<n->j<n->C (lt i j) s->SK prog w A κ it i j C s){i j:Nat}(hi:i<n)(B:j<n){st:BN}(F:kindOf st=κ){C:Option Bool->BN->Prop}(h:C (some (lt i j)) st) :
  wpS (Cz prog w) A E s (lt' (CY it i) (CY it j)) C st:=by
 rw[lt'_eq]
 refine Bd (W6 ?_)
 rw[F]
 refine Bd (wpS_lift (FL (Ax (Z i j (λb s'=>s'=s/\wpS (Cz prog w) A E s (pure (some b):StateT BN Sem (Option Bool)) C st) hi B ⟨rfl,BX h⟩) (λ_ _ x=>x) λ_ _ x=>x.elim)))
theorem pE(hc:∀i j (C:Bool->Aj->Prop),i<n->j<n->C (lt i j) s->SK prog w A κ it i j C s){i j x y:Nat}{p:Array Nat}(hx:p[i]?=some x)(hy:p[j]?=some y)(hi:x<n)(F:y<n){st:BN}(Z:kindOf st=κ)(B:Cd st=p.map (CY it)){C:Option Bool->BN->Prop}(h:C (some (lt x y)) st) :
  wpS (Cz prog w) A E s (ltAt' i j) C st:=by
 rw[ltAt'_eq]
 refine Bd (W6 ?_)
 show wpS _ _ _ _ (elem' (Cd st) i >>= _) _ _
 exact Bd (KR (by rw[B,KJ,hx];rfl) (Bd (KR (by rw[B,KJ,hy];rfl) (iK hc hi F Z h))))
theorem Xm{M:Lq}{lo B:Nat}{st:BN}{Q:Option Nat->BN->Prop}(Z:1<=B)(ask:∀k,1<=k->k<B->∀{C:Option Bool->BN->Prop},C (some false) st->wpS M A E s (ltAt' (lo+k) (lo+k-1)) C st)(q:Q (some B) st):wpS M A E s (countRun' lo B) Q st:=by
 refine Bd (wpS_mono (H0 (I:=λx c F=>c=(none,x)/\st=F) (Q:=λc F=>c=(none,B)/\st=F) ?_ ?_ ⟨rfl,rfl⟩) ?_)
 .rintro x _ _ Z hx ⟨rfl,rfl⟩
  exact Bd (ask x Z hx (BX ⟨rfl,rfl⟩))
 .rintro _ _ ⟨rfl,rfl⟩
  exact⟨by rw[JO Z],rfl⟩
 .rintro _ _ ⟨rfl,rfl⟩
  exact Ew (λ_=>BX q) λh=>absurd (beq_iff_eq.mpr rfl) h
theorem iM{M:Lq}{lo k F:Nat}(hk:F<=k){st:BN}{Q:Bool->BN->Prop}(q:Q true st):wpS M A E s (binarySort' lo F k) Q st:=by
 refine Bd (wpS_mono (H0 (I:=λx c B=>c=(none,())/\st=B) (Q:=λc B=>c=(none,())/\st=B) ?_ ?_ ⟨rfl,rfl⟩) ?_)
 .intro x _ _ Z hx _
  exact absurd (AF (Nat.le_max_left k 1) Z) (Dj.mpr (Ac hx hk))
 .exact λ_ _ h=>h
 .rintro _ _ ⟨rfl,rfl⟩
  exact BX q
theorem pH:((#[(0,a,0)]:Array (Nat×Nat×Nat)).modify ((#[(0,a,0)]:Array (Nat×Nat×Nat)).size-1) λx=>(x.1,x.2.1,B)).push x=#[(0,a,B),x]:=by
 simp[Array.modify,Array.modifyM]
theorem Zs{α:Type}{B:Nat->Nat->(Bool->Aj->Prop)->Aj->Prop}(hc:∀i j (C:Bool->Aj->Prop),i<n->j<n->C (lt i j) s->B i j C s){Qt:α->Prop}{Q:α->Aj->Prop}(Z:∀a,Qt a->Q a s){t:KasT α}:Tr lt n t Qt->t.kasWp B Q s:=by
 induction t with
 |ret a=>exact λh=>Z a h
 |ask i j k F=>exact λh=>hc i j _ h.1 h.2.1 (F _ h.2.2)
theorem d9(W:JB lt)(T:UU lt d n)(B:d<=n)(hn:2<=n):Tr lt n (kas_count n (B8 (Ar n))) λr=>∃L g,Fix g r.2 L/\L.length+g=n/\r.1=L.length/\1<=L.length/\L.Pairwise (Bf lt)/\(d<=1\/d<=L.length):=by
 by_cases hd:2<=d
 .refine df W T hd hn ⟨_,_,oO (Ce _ _),?_,?_,?_,pv T (Ce _ _) (C7 _ _),.inr ?_⟩ <;> rw[BZ,BV]
  .exact E2 (Ce _ _)
  .exact m5.mpr ⟨by exact Ec .le .n1 .v0 (.l .n2 .v0 .e) rfl hn,by exact Ec .le .n1 (.a .v0 .n1) .e rfl⟩
  .exact m5.mpr ⟨B,Cx d⟩
 .cases n with
  |zero=>cases hn
  |succ n=>exact Vj W λg p L hn F S Z=>⟨L,g,F,hn,rfl,Z,S,.inl (by exact Ec .le .v0 .n1 (.m .n2 .v0 .e) rfl hd)⟩
theorem pT{Q:Option Nat->BN->Prop}{B:BN}(e0:B=Nm κ it (B8 (Ar n)))(W:JB lt)(T:UU lt d n)(hdn:d<=n)(hn:2<=n)(hc:∀i j (C:Bool->Aj->Prop),i<n->j<n->C (lt i j) s->SK prog w A κ it i j C s)(q:∀p L g,Fix g p L->L.length+g=n->1<=L.length->L.Pairwise (Bf lt)->(d<=1\/d<=L.length)->Q (some L.length) (Nm κ it p)):wpS (Cz prog w) A E s (countRun' 0 n) Q B:=by
 subst e0
 exact kas_count_ (E:=E) (Q:=λa Z s'=>s'=s/\Q a Z) (G:=λr s'=>s'=s/\Q (some r.1) (Nm κ it r.2)) (Iu hn) (by simp) (λ_ _ _ _ _ _ hg=>hg) (Zs hc (λr z=>Ej z λL g F e e' h1 S h=>⟨rfl,e'▸q r.2 L g F e h1 S h⟩) (d9 W T hdn hn))
theorem Fix.size(F:Fix f p L):p.size=L.length+f:=by rw[<- A1,F.eq,AI,Ka]
theorem vZ{Q:Bool->BN->Prop}(W:JB lt)(F:Fix g p L)(hn:L.length+g=n)(h1:1<=L.length)(S:L.Pairwise (Bf lt))(hm:L.length<=m)(B:m<=n)(hc:∀i j (C:Bool->Aj->Prop),i<n->j<n->C (lt i j) s->SK prog w A κ it i j C s)(q:∀p L g,Fix g p L->L.length+g=n->L.length=m->L.Pairwise (Bf lt)->Q true (Nm κ it p)):wpS (Cz prog w) A E s (binarySort' 0 m L.length) Q (Nm κ it p):=by
 refine kas_bin_ (E:=E) (Q:=λa Z s'=>s'=s/\Q a Z) (G:=λr s'=>s'=s/\Q true (Nm κ it r)) (by rw[F.size,hn];exact B) (λ_ _ _ hg=>hg) (Zs hc (Qt:=λr=>Q true (Nm κ it r)) (λr hr=>⟨rfl,hr⟩) ?_)
 rw[Nat.max_eq_left h1]
 have e:m-L.length+(n-m)=g:=by exact BC (wt .le (.a .v0 .v1) .v2 (.q (.a .v0 .v3) .v4 (.q (.a .v1 .v4) .v5 (.p (.a .v3 .v2) .v5 .e))) rfl (Ag (Dy .le .v0 .v1 (.l .v0 .v1 .e) rfl hm)) (Ag (Dy .le .v0 .v1 (.l .v0 .v1 .e) rfl B)) hn) (wt .le .v0 (.a .v1 .v2) (.q (.a .v3 .v0) .v4 (.p (.a .v2 .v5) .v4 (.p (.a .v1 .v3) .v5 .e))) rfl hn (Ag (Dy .le .v0 .v1 (.l .v0 .v1 .e) rfl B)) (Ag (Dy .le .v0 .v1 (.l .v0 .v1 .e) rfl hm)))
 exact aV (g:=n-m) W (λp L F hn S=>q p L _ F hn (by exact BC (Ll .le .v0 .v1 (.q (.a .v0 .v2) .v3 (.p (.a .v2 .v1) .v3 .e)) rfl hn (Ag (Dy .le .v0 .v1 (.l .v0 .v1 .e) rfl B))) (Ll .le .v0 .v1 (.q (.a .v2 .v0) .v3 (.p (.a .v1 .v2) .v3 .e)) rfl (Ag (Dy .le .v0 .v1 (.l .v0 .v1 .e) rfl B)) hn)) S) (m-L.length) p L (by exact BC (Z5 .le (.a (.a .v0 .v1) .v2) .v3 (.q (.a .v1 .v2) .v4 (.q (.a .v0 .v4) .v3 .e)) rfl e hn) (Z5 .le .v0 (.a (.a .v1 .v2) .v3) (.p (.a .v1 .v4) .v0 (.p (.a .v2 .v3) .v4 .e)) rfl hn e)) (e.symm▸F) S
structure qB(lt:Nat->Nat->Bool)(d n:Nat)(p:Array Nat)(L:List Nat):Prop where
 F:Fix (n-L.length) p L
 len:L.length<=n
 pos:0<L.length
 dl:d<=L.length
 S:L.Pairwise (Bf lt)
noncomputable def lO(κ:SortKind)(it:Array EM)(p:Array Nat)(pd:Array (Nat×Nat×Nat)):BN:=Fh κ (p.map (CY it)) pd 7 none
def vS(it:Array EM)(lt:Nat->Nat->Bool)(n:Nat)(st:BN):Prop:=∃p:Array Nat,Cd st=p.map (CY it)/\Gb st=none/\(Pe st).size<=1/\p.toList.Perm (Ar n)/\p.toList.Pairwise (Bf lt)
theorem qB.fin(o:qB lt d n p L)(e:n<=L.length):p.toList.Perm (Ar n)/\p.toList.Pairwise (Bf lt):=by
 have F:=o.F
 rw[bg e] at F
 have ep:p.toList=L:=by rw[F.eq,List.range'_zero,Bl]
 rw[ep,BC e o.len]
 exact⟨F.perm,o.S⟩
theorem jd:∀{L:List Nat},L.Pairwise (λa b=>f b=true->f a=true)->L=L.filter f++L.filter (λx=>!f x):=λ{L}=>by
 induction L with
 |nil=>exact λ_=>rfl
 |cons a L ih=>
  intro h
  obtain⟨Z,h2⟩:=EU.mp h
  cases B:f a with
  |true=>rw[GG B,D3 (by rw[B];exact BD),List.cons_append,<- ih h2]
  |false=>
   have F:∀b∈L,f b=false:=λb m=>BQ.mpr λq=>RA (Z b m q) B
   rw[W8.mpr λb m=>by
    rcases Ao.mp m with rfl | m
    .rw[B];exact BD
    .rw[F b m];exact BD,MZ,eV.mpr λb m=>by
    rcases Ao.mp m with rfl | m
    .rw[B];rfl
    .rw[F b m];rfl]
theorem oX{Q:Bool->BN->Prop}(W:JB lt)(T:UU lt d n)(hc:∀i j (C:Bool->Aj->Prop),i<n->j<n->C (lt i j) s->SK prog w A κ it i j C s)(F:Fix g p L)(hn:L.length+g=n)(hg:0<g)(h0:0<L.length)(hd:d<=L.length)(S:L.Pairwise (Bf lt))(q:∀B,vS it lt n B->Q true B):wpS (Cz prog w) A E s (mergeAt' 0) Q (Fh κ (p.map (CY it)) #[(0,L.length,pw),(L.length,g,0)] 7 none):=by
 have low:∀x∈L,x<L.length:=λx m=>F.low m
 have sp:L=L.filter (λx=>decide (d<=x))++L.filter (λx=>!decide (d<=x)):=jd (G7 (λ{a b} Z hb h hb'=>by
  refine decide_eq_true (B1.mp λc=>?_)
  have c':=of_decide_eq_true hb'
  have t:=T.dn a b c (Ac c c') (by have:=low b hb;exact Ll .lt .v0 .v1 (.t .v0 .v2 (.q (.a .v2 .v3) .v1 .e)) rfl this hn)
  exact RA t (h.no W)) S)
 generalize h1:L.filter (λx=>decide (d<=x))=L1 at sp
 generalize h2:L.filter (λx=>!decide (d<=x))=L2 at sp
 have m1:∀x∈L1,d<=x/\x<L.length:=λx m=>by rw[<- h1] at m;have:=Dp.mp m;exact⟨of_decide_eq_true this.2,low x this.1⟩
 have m2:∀x∈L2,x<d/\x<L.length:=λx m=>by rw[<- h2] at m;have:=Dp.mp m;exact⟨Dj.mp (of_decide_eq_false ((CB _).mp this.2)),low x this.1⟩
 have m3:∀x∈CL L.length g,L.length<=x/\x<n:=λx m=>by have:=List.mem_range'_1.mp m;exact⟨Dy .le .v0 .v1 (.l .v0 .v1 .e) rfl this.1,Ll .lt .v0 .v1 (.t .v0 (.a .v2 .v3) (.q (.a .v2 .v3) .v1 .e)) rfl this.2 hn⟩
 have hl:L1.length+L2.length=L.length:=by rw[sp,AI]
 have S':=sp▸S
 have s:=BY.mp S'
 have arr:p.map (CY it)=(L1.map (CY it)).toArray++(L2.map (CY it)).toArray++((CL L.length g).map (CY it)).toArray:=by
  apply KH
  rw[m6,F.eq,CM,CM,Ai]
  conv=>lhs;arg 1;rw[sp]
  rw[Ai]
 have zx:∀l:List Nat,(l.map (CY it)).toArray.size=l.length:=λl=>by rw[CT,AA]
 have zz:((CL L.length g).map (CY it)).toArray.size=g:=(zx _).trans Ka
 have mem:∀{l:List Nat} {x:EM},x∈(l.map (CY it)).toArray->∃i∈l,CY it i=x:=λh=>Ab.mp (List.mem_toArray.mp h)
 have es:Fh κ (p.map (CY it)) #[(0,L.length,pw),(L.length,g,0)] 7 none=Fh κ ((L1.map (CY it)).toArray++(L2.map (CY it)).toArray++((CL L.length g).map (CY it)).toArray)
   #[(0,(L1.map (CY it)).toArray.size+(L2.map (CY it)).toArray.size,pw),((L1.map (CY it)).toArray.size+(L2.map (CY it)).toArray.size,((CL L.length g).map (CY it)).toArray.size,0)] 7 none:=by
  rw[arr,zz,zx,zx,hl]
 rw[es]
 have z0:((CL L.length g).map (CY it)).toArray[0]'(by rw[zz];exact hg)=CY it L.length:=by
  rw[List.getElem_toArray,Ld,List.getElem_range'];rfl
 refine Yu (by rw[zx,zx,hl];exact h0) (by rw[zz];exact hg) (λ{x} hx {B C} hk hC=>?_) (λ{x y} hx hy {B} hk C hC=>?_) λB ea ef ep=>q B ⟨(L1++CL L.length g++L2).toArray,?_,ef,by rw[ep];exact Az 1,?_,?_⟩
 .refine AW (mem hx) λi hi ze1=>?_;subst ze1
  rw[z0]
  refine iK hc (by exact HW .lt .v0 .v1 (.q (.a .v0 .v2) .v1 (.t .n0 .v2 .e)) rfl hn hg) (by have:=(m1 i hi).2;exact Ll .lt .v0 .v1 (.t .v0 .v2 (.q (.a .v2 .v3) .v1 .e)) rfl this hn) hk ?_
  rw[W.uV _ _ (T.up i L.length (m1 i hi).1 (m1 i hi).2 (by exact HW .lt .v0 .v1 (.q (.a .v0 .v2) .v1 (.t .n0 .v2 .e)) rfl hn hg))];exact hC
 .refine AW (mem hx) λi hi ze1=>?_;subst ze1
  refine AW (mem hy) λj hj ze1=>?_;subst ze1
  have b:=m2 i hi
  have b':=m3 j hj
  refine iK hc b'.2 (by exact Ll .lt .v0 .v1 (.t .v0 .v2 (.q (.a .v2 .v3) .v1 .e)) rfl b.2 hn) hk ?_
  rw[T.dn i j b.1 (by exact HW .lt .v0 .v1 (.t .v0 .v2 (.l .v2 .v1 .e)) rfl b.2 b'.1) b'.2];exact hC
 .rw[ea]
  apply KH
  rw[m6,CM,CM,Ai,Ai]
 .have e1:(L1++CL L.length g++L2).Perm (L1++L2++CL L.length g):=by rw[Aq,Aq];exact TZ _ Za
  refine e1.trans ?_
  rw[<- sp]
  have:=(F.perm.append_right (CL L.length g))
  have e2:=bf (s:=0) (m:=L.length) (n:=g)
  rw[Be,hn] at e2
  rw[Fg,e2,<- Fg] at this
  exact this
 .show (L1++CL L.length g++L2).Pairwise (Bf lt)
  refine BY.mpr ⟨BY.mpr ⟨s.1,?_,λa Z b hb=>.inl (T.up a b (m1 a Z).1 (Ac (m1 a Z).2 (m3 b hb).1) (m3 b hb).2)⟩,s.2.1,λa Z b hb=>?_⟩
  .exact G7 (λ{a b} Z hb h=>.inl (T.up a b (by have:=(m3 a Z).1;exact HW .le .v0 .v1 (.l .v0 .v2 (.l .v2 .v1 .e)) rfl hd this) h (m3 b hb).2)) List.pairwise_lt_range'
  .refine A7 (An.mp Z) (λZ=>?_) (λZ=>?_)
   .exact s.2.2 a Z b hb
   .exact .inl (T.dn b a (m2 b hb).1 (Ac (m2 b hb).2 (m3 a Z).1) (m3 a Z).2)
section
variable {α β:Type} {st:BN} {M:Lq}
theorem vF[Decidable c]{x y:StateT BN Sem α}{Q:α->BN->Prop}(hy:wpS M A E s y Q st)(B:c->wpS M A E s y Q st->wpS M A E s x Q st):wpS M A E s (if c then x else y) Q st:=by
 by_cases h:c
 .rw[if_pos h];exact B h hy
 .rw[if_neg h];exact hy
theorem mC{body:Nat->β->StateT BN Sem (ForInStep β)}(hn:0<n)(h:Wj M A E s (body 0 F) st (.done c) st):Wj M A E s (forIn [:n] F body) st c st:=λQ q=>by
 refine H0 (I:=λx Z B=>x=0/\Z=F/\B=st) ?_ ?_ ⟨rfl,rfl,rfl⟩
 .rintro _ _ _ _ _ ⟨rfl,rfl,rfl⟩
  exact h _ q
 .rintro _ _ ⟨h,_⟩
  exact absurd (h▸JP 0 n) (Dj.mpr hn)
theorem vB{body:Nat->β->StateT BN Sem (ForInStep β)}{Q:β->BN->Prop}(P:BN->Prop)(hn:1<n)(Z:∀R:ForInStep β->BN->Prop,(∀B,P B->R (.yield c) B)->wpS M A E s (body 0 c) R st)(F:∀B,P B->Wj M A E s (body 1 c) B (.done c) B)(q:∀B,P B->Q c B):wpS M A E s (forIn [:n] c body) Q st:=by
 refine H0 (I:=λx c' B=>c'=c/\((x=0/\B=st)\/(x=1/\P B))) ?_ ?_ ⟨rfl,.inl ⟨rfl,rfl⟩⟩
 .rintro _ _ _ _ _ ⟨rfl,⟨rfl,rfl⟩ | ⟨rfl,p⟩⟩
  .exact Z _ λB p=>⟨rfl,.inr ⟨rfl,p⟩⟩
  .exact F _ p _ (q _ p)
 .rintro _ _ ⟨_,⟨h,_⟩ | ⟨h,_⟩⟩
  .exact absurd (h▸JP 0 n) (Dj.mpr (K6 hn))
  .exact absurd (h▸JP 0 n) (Dj.mpr hn)
theorem ou{F:Type}{Z c2:β}{body:Nat->β->StateT BN Sem (ForInStep β)}{Q:β->BN->Prop}(P D:F->Prop)(c1:F->β)(s1:F->BN)(s2:F->Nat->BN)(hn:2<n)(h0:∀R:ForInStep β->BN->Prop,(∀i,P i->R (.yield (c1 i)) (s1 i))->wpS M A E s (body 0 Z) R st)(h1:∀i,P i->∀R:ForInStep β->BN->Prop,(¬D i->R (.done (c1 i)) (s1 i))->(D i->∀k,R (.yield c2) (s2 i k))->wpS M A E s (body 1 (c1 i)) R (s1 i))(h2:∀B,Wj M A E s (body 2 c2) B (.done c2) B)(q1:∀i,P i->¬D i->Q (c1 i) (s1 i))(q2:∀i k,P i->D i->Q c2 (s2 i k)):wpS M A E s (forIn [:n] Z body) Q st:=by
 refine H0 (I:=λx c B=>(x=0/\c=Z/\B=st)\/(x=1/\∃i,P i/\c=c1 i/\B=s1 i)\/(x=2/\c=c2/\∃i k,P i/\D i/\B=s2 i k)) ?_ ?_ (.inl ⟨rfl,rfl,rfl⟩)
 .rintro _ _ _ _ _ (⟨rfl,rfl,rfl⟩ | ⟨rfl,i,p,rfl,rfl⟩ | ⟨rfl,rfl,i,k,p,g,rfl⟩)
  .exact h0 _ λi p=>.inr (.inl ⟨rfl,i,p,rfl,rfl⟩)
  .exact h1 i p _ (q1 i p) λg k=>.inr (.inr ⟨rfl,rfl,i,k,p,g,rfl⟩)
  .exact h2 _ _ (q2 i k p g)
 .have no:∀{k},k<n->max 0 n≠k:=λhk e=>absurd (e▸JP 0 n) (Dj.mpr hk)
  rintro _ _ (⟨h,_⟩ | ⟨h,_⟩ | ⟨h,_⟩)
  .exact absurd h (no (B9 (by decide) hn))
  .exact absurd h (no (B9 (by decide) hn))
  .exact absurd h (no hn)
end
theorem oH{B:BN}{Q:Unit->BN->Prop}(e0:B=Nm κ it (B8 (Ar (Cd B).size)))(W:JB lt)(T:UU lt d (Cd B).size)(hdn:d<=(Cd B).size)(h64:64<=(Cd B).size)(h128:(Cd B).size<128)(hc:∀i j (C:Bool->Aj->Prop),i<(Cd B).size->j<(Cd B).size->C (lt i j) s->SK prog w A κ it i j C s)(q:∀(p:Array Nat) Z,Cd Z=p.map (CY it)->Gb Z=none->p.toList.Perm (Ar (Cd B).size)->p.toList.Pairwise (Bf lt)->Q () Z):wpS (Cz prog w) A E s sortRuns' Q B:=by
 have h0:0<(Cd B).size:=Ac (by decide) h64
 have h2:2<(Cd B).size:=Ac (by decide) h64
 have mr:=de h64 h128
 have mn:SJ (Cd B).size (Cd B).size 0<=(Cd B).size:=by rw[mr];exact AF (DH (Nat.le_mul_of_pos_left _ (by decide)) _) (CK (Nat.div_add_mod _ 2))
 have m2:2<=SJ (Cd B).size (Cd B).size 0:=by rw[mr];exact AF ((M5 (by decide)).mpr (AF (by decide:2*2<=64) h64)) (A0 _ _)
 refine wb Nz (Bd (ou (P:=λi:Array Nat×List Nat=>qB lt d (Cd B).size i.1 i.2) (D:=λi=>i.2.length<(Cd B).size) (c1:=λi=>(none,i.2.length)) (s1:=λi=>lO κ it i.1 #[(0,i.2.length,0)]) (c2:=(none,(Cd B).size))
  (s2:=λi pw=>lO κ it i.1 #[(0,i.2.length,pw),(i.2.length,(Cd B).size-i.2.length,0)]) h2 (λR hR=>?_) (λi o R hR hR'=>?_) (λZ=>λ_ q=>OB (Az _) (BX q)) (λi o hd=>?_) λi pw o hd=>?_))
 .clear q
  refine S4 (Dj.mpr h0) ?_
  refine Bd (pT (n:=(Cd B).size) e0 W T hdn (A4 h2) hc λp L g F hn h1 S hd=>?_)
  have eg:g=(Cd B).size-L.length:=(Jg (by rw[Ci];exact hn.symm)).symm
  have hl:L.length<=(Cd B).size:=hn▸A0 _ _
  refine Ew (λh=>?_) λh=>?_
  .refine wb Qr (Bd (vZ W F hn h1 S (m5.mpr ⟨hl,A4 h⟩) (Ce _ _) hc λp' L' g' F' hn' e S'=>?_))
   refine S4 BD (wb Nz (Bd (LU (BX ?_))))
   refine(?_:R (.yield (none,0+min ((Cd B).size-0) (SJ (Cd B).size (Cd B).size 0))) (lO κ it p' (#[].push (0,min ((Cd B).size-0) (SJ (Cd B).size (Cd B).size 0),0))))
   have e:L'.length=min ((Cd B).size-0) (SJ (Cd B).size (Cd B).size 0):=e
   rw[<- e,Be]
   have el:SJ (Cd B).size (Cd B).size 0=L'.length:=(C6 mn).symm.trans e.symm
   exact hR (p',L') ⟨(Jg (by rw[Ci];exact hn'.symm):(Cd B).size-L'.length=g').symm▸F',hn'▸A0 _ _,Ac (by decide) (el▸m2),hd.elim (λh=>AF h (AF (by decide) (el▸m2))) λhd=>AF hd (el▸A4 h),S'⟩
  .refine wb Nz (Bd (LU (BX ?_)))
   refine(?_:R (.yield (none,0+L.length)) (lO κ it p (#[].push (0,L.length,0))))
   rw[Be]
   exact hR (p,L) ⟨eg▸F,hl,h1,hd.elim (λhd=>AF hd h1) id,S⟩
 .clear q
  obtain⟨p,L⟩:=i
  have o:qB lt d (Cd B).size p L:=o
  refine Ew (λh=>BX (hR (B1.mpr h))) λh=>?_
  have h:L.length<(Cd B).size:=Dj.mp h
  have hg:0<(Cd B).size-L.length:=EE h
  have hn:L.length+((Cd B).size-L.length)=(Cd B).size:=E2 o.len
  have tail:∀k,k<(Cd B).size-L.length->p[L.length+k]?=some (L.length+k):=λk hk=>by
   rw[<- BA,o.F.eq,Ak (A0 _ _),BI,NI hk,Rg]
  have up:∀k,k<(Cd B).size-L.length->L.length+k<(Cd B).size:=λk hk=>hn▸Hq hk _
  refine Bd (Xm hg (λk h1 hk C hC=>?_) ?_)
  .cases k with
   |zero=>cases h1
   |succ k=>
    refine pE hc (p:=p) (tail _ hk) (tail k (K6 hk)) (up _ hk) (up _ (K6 hk)) rfl rfl ?_
    rw[W.uV _ _ (T.up (L.length+k) (L.length+(k+1)) (AF o.dl (A0 _ _)) (EZ _) (up _ hk))]
    exact hC
  refine vF ?_ λh Y=>wb Qr (Bd (iM (Ce _ _) (S4 BD ?_)))
  .refine wb Nz (wb (mC h0 (db Nz ZC)) (Bd (LU (Bd (LU (BX ?_))))))
   refine(?_:R (.yield (none,L.length+((Cd B).size-L.length))) (lO κ it p (((#[(0,L.length,0)]:Array (Nat×Nat×Nat)).modify ((#[(0,L.length,0)]:Array (Nat×Nat×Nat)).size-1) λx=>(x.1,x.2.1,_)).push (L.length,(Cd B).size-L.length,0))))
   rw[pH,hn]
   exact hR' h _
  .rw[C3 (A4 h)];exact Y
 .have f:=o.fin (B1.mp hd)
  exact wb (mC h0 (db Nz λ_ q=>OB (Az 1) (BX q))) (BX (q i.1 _ rfl rfl f.1 f.2))
 .refine Bd (vB (P:=vS it lt (Cd B).size) (K6 h2) (λR hR=>?_) (λZ f=>db Nz λ_ q=>OB (f.elim λ_ f=>f.2.2.1) (BX q)) λZ f=>BX (f.elim λp f=>q p Z f.1 f.2.1 f.2.2.2.1 f.2.2.2.2))
  exact wb Nz (S4 (by decide:¬(2<=1)) (Bd (oX W T hc o.F (E2 o.len) (EE hd) o.pos o.dl o.S λZ f=>S4 BD (BX (hR _ f)))))
theorem mB{Q:Unit->BN->Prop}(W:JB lt)(T:UU lt d n)(hdn:d<=n)(h64:64<=n)(Z:n<128)(hc:∀i j (C:Bool->Aj->Prop),i<n->j<n->C (lt i j) s->SK prog w A κ it i j C s)(q:∀(p:Array Nat) B,Cd B=p.map (CY it)->Gb B=none->p.toList.Perm (Ar n)->p.toList.Pairwise (Bf lt)->Q () B):wpS (Cz prog w) A E s sortRuns' Q (Nm κ it (B8 (Ar n))):=by
 have F:n=(Cd (Nm κ it (B8 (Ar n)))).size:=by
  refine(?_:n=((B8 (Ar n)).map (CY it)).size)
  rw[Array.size_map,CT,BV]
 exact oH (by rw[<- F]) W (F▸T) (F▸hdn) (F▸h64) (F▸Z) (λi j C hi hj=>hc i j C (F.symm▸hi) (F.symm▸hj)) λp B a b c=>q p B a b (F.symm▸c)
end
end Mine.Internal
namespace Mine.Internal
open PySem
theorem S5(h:Runs M F p t Z s e s'):s.toks<=s'.toks:=by
 induction h with
 |done | raise | yield=>exact Az _
 |fresh _ B=>exact Iu B
 |call _ _ i j | segRet _ _ i j | segGen _ _ i j=>exact AF i j
 |resumeFresh _ _ _ _ i j | resumeSuspended _ _ _ _ i j | segSuspGen _ _ _ _ i j=>exact AF i j
 |_=>assumption
theorem p8{α:Type}{M:Lq}{Z:PySem.Ctx}{t:Sem α}:∀{Q:α->Pos->Aj->Prop} {E:AV->Pos->Aj->Prop} {p:Pos} {s:Aj} {n:Nat},n<=s.toks->Sem.wp M Z t Q E p s->
  Sem.wp M Z t (λa p' s'=>n<=s'.toks/\Q a p' s') (λe p' s'=>n<=s'.toks/\E e p' s') p s:=by
 induction t with
 |pure a=>exact λhn h=>⟨hn,h⟩
 |raise a=>exact λhn h=>⟨hn,h⟩
 |load a b k B=>exact λhn x=>AW x λo e h=>⟨o,e,B o hn h⟩
 |update a b f k B=>exact λhn x=>⟨x.1,B _ hn x.2⟩
 |choose a b k B=>exact λhn x=>⟨x.1,B _ hn x.2⟩
 |fresh k B=>exact λhn h=>B _ (Fm hn) h
 |call c h g l k B=>exact λhn x=>EX x λr s1 h1 h2=>⟨r,s1,h1,B _ (AF hn (S5 h1)) h2⟩
 |genState g k B=>exact λhn x=>AW x λo e h=>⟨o,e,B _ hn h⟩
 |resume g r l k B=>exact λ{_ _ p s _} hn x=>EX x λF s1 hw h=>⟨F,s1,hw,B _ (AF hn (S5 ((PySem.Sem.runs_resume_iff M Z (k:=λ_=>.pure (.done .next)) (l:=l)).mpr ⟨F,s1,hw,.done⟩))) h⟩
 |unsupported | finish | register | yield | fork | await=>exact λ_ h=>h.elim
 |_=>rename_i B;exact λhn h=>B _ hn h
theorem wpAny_toks{F:Type}{M:Lq}{A:Bb}{t:Sem F}{Q:F->Aj->Prop}{E:AV->Aj->Prop}{s:Aj}{n:Nat}(hn:n<=s.toks)(h:Am M A t Q E s) :
  Am M A t (λa s'=>n<=s'.toks/\Q a s') (λe s'=>n<=s'.toks/\E e s') s:=λZ p B=>p8 hn (h Z p B)
end Mine.Internal
namespace Mine.Internal
open PySem
set_option genSizeOf false
set_option genInjectivity false
set_option genCtorIdx false
inductive V where
 |undef | none | bool (b:Bool) | int (i:Int) | str (s:Str) | tup (vs:List V) | ref (n:Nat)
noncomputable abbrev V.ctorIdx(x:V):Nat:=x.casesOn 0 1 (λ_=>2) (λ_=>3) (λ_=>4) (λ_=>5) (λ_=>6)
inductive O where
 |list (vs:List V)
 |tab (P:Addr)
 |gone
 |dict (ep:Nat) (kvs:List (Str×V))
 |inst (C:Addr) (m:Nat)
 |ns (fs:List (Str×V))
 |row (P:Addr) (ln col:Int) (m:Nat)
 |code (q:Str)
noncomputable abbrev O.ctorIdx(x:O):Nat:=x.casesOn (λ_=>0) (λ_=>1) 2 (λ_ _=>3) (λ_ _=>4) (λ_=>5) (λ_ _ _ _=>6) (λ_=>7)
abbrev Af:=List O
abbrev CP:=Nat->Af->Prop
abbrev BS:=V->Af->Prop
abbrev Hl:=Nat->List V->Af->BS->CP->Prop
abbrev Ex:=Hl->List V->Af->BS->CP->Prop
abbrev Es:=Hl->List V->Af->(List V->Af->Prop)->CP->Prop
abbrev Tx:=Hl->List V->Af->(Bool->Af->Prop)->CP->Prop
inductive Fl where
 |next
 |ret (v:V)
 |exc (c:Nat)
noncomputable abbrev Fl.ctorIdx(x:Fl):Nat:=x.casesOn 0 (λ_=>1) (λ_=>2)
abbrev HT:=Fl->List V->Af->Prop
abbrev Sx:=Hl->List V->Af->HT->Prop
inductive yN(u:Unit) where | bool | str
abbrev Ty:=yN ()
noncomputable def Cb:Nat:=1000000
noncomputable def Ih:Nat:=16000000
noncomputable def EO(i:Int):Bool:=decide (-(2 ^ 63)<=i)&&decide (i<2 ^ 63)
noncomputable def b2i(b:Bool):Int:=if b then 1 else 0
noncomputable def OG{α β:Type}(f:α->Option β):List α->Option (List β)
 | []=>some []
 |a::as=>(f a).bind λb=>(OG f as).map (b::·)
noncomputable def jo(f:V->Option GP):Option O->Option GP
 |some (.list vs)=>(OG f vs).map W9
 |_=>HC
noncomputable def Tp(σ:Af):Nat->V->Option GP
 | 0,_=>HC
 |n+1,v=>match v with
  | .none=>some .none
  | .bool b=>some (.bool b)
  | .int i=>some (.int i)
  | .str x=>some (.str x)
  | .tup vs=>(OG (Tp σ n) vs).map PyData.tuple
  | .ref k=>jo (Tp σ n) σ[k]?
  | .undef=>HC
noncomputable def put(k:Str)(v:V)(l:List (Str×V)):List (Str×V):=
 if l.any (λp=>p.1=k) then l.map (λp=>if p.1=k then (p.1,v) else p) else l++[(k,v)]
noncomputable def oG(k:Str)(l:List (Str×V)):List (Str×V):=l.filter λp=>p.1≠k
noncomputable def sign(c:Nat):Str:=⟨#[c]⟩
noncomputable def KA{α:Type}(l:List α):Nat->List α
 | 0=>[]
 |n+1=>l++KA l n
inductive iQ(σ:Af)(K:Bool->Prop):V->Prop
 |none:K false->iQ σ K .none
 |bool {b:Bool}:K b->iQ σ K (.bool b)
 |int {i:Int}:K (i != 0)->iQ σ K (.int i)
inductive Eb(σ:Af)(Q:BS):SM->V->V->Prop
 |add {x y:Int}:Q (.int (x+y)) σ->Eb σ Q .Add (.int x) (.int y)
 |RS {x y:Str}:x.length+y.length<=Cb->Q (.str (x++y)) σ->Eb σ Q .Add (.str x) (.str y)
 |mK {x y:List V}:x≠[]->y≠[]->x.length+y.length<=Cb->Q (.tup (x++y)) σ->Eb σ Q .Add (.tup x) (.tup y)
 |Pj {n m:Nat} {x y:List V}:σ[n]?=some (.list x)->σ[m]?=some (.list y)->x.length+y.length<=Cb->Q (.ref σ.length) (σ++[.list (x++y)])->Eb σ Q .Add (.ref n) (.ref m)
 |sub {x y:Int}:Q (.int (x-y)) σ->Eb σ Q .Sub (.int x) (.int y)
 |mul {x y:Int}:EO x=true\/EO y=true->Q (.int (x*y)) σ->Eb σ Q .Mult (.int x) (.int y)
 |mulL {n k:Nat} {x:List V}:σ[n]?=some (.list x)->k<2 ^ 40->x.length*k<=Cb->Q (.ref σ.length) (σ++[.list (KA x k)])->Eb σ Q .Mult (.ref n) (.int k)
 |pow {n:Nat}:0<n->n<=9->Q (.int (10 ^ n)) σ->Eb σ Q .Pow (.int 10) (.int n)
 |div {x y:Int}:y≠0->EO y=true->Q (.int (x.fdiv y)) σ->Eb σ Q .FloorDiv (.int x) (.int y)
 |mod {x y:Int}:y≠0->Q (.int (x.fmod y)) σ->Eb σ Q .Mod (.int x) (.int y)
noncomputable def D6:List Int->List Int->Bool
 | [],[]=>false
 | [],_::_=>true
 |_::_,[]=>false
 |a::as,b::bs=>if a=b then D6 as bs else decide (a<b)
noncomputable def isNone:V->Bool
 | .none=>true
 |_=>false
inductive F6(σ:Af)(K:Bool->Prop):Kj->V->V->Prop
 |eq {a b:V} {x y:GP}:Tp σ 6 a=some x->Tp σ 6 b=some y->x.canLay0=true->y.canLay0=true->K (Le x y)->F6 σ K .Eq a b
 |ne {a b:V} {x y:GP}:Tp σ 6 a=some x->Tp σ 6 b=some y->x.canLay0=true->y.canLay0=true->K (!Le x y)->F6 σ K .NotEq a b
 |lt {x y:Int}:K (decide (x<y))->F6 σ K .Lt (.int x) (.int y)
 |le {x y:Int}:K (decide (x<=y))->F6 σ K .LtE (.int x) (.int y)
 |gt {x y:Int}:K (decide (x>y))->F6 σ K .Gt (.int x) (.int y)
 |ge {x y:Int}:K (decide (x≥y))->F6 σ K .GtE (.int x) (.int y)
 |xx {x y:List Int}:K (D6 x y)->F6 σ K .Lt (.tup (x.map .int)) (.tup (y.map .int))
 |is {a:V}:K (isNone a)->F6 σ K .Is a .none
 |rI {a:V}:K (!isNone a)->F6 σ K .IsNot a .none
 |uM {a b:V} {x:GP} {ys:List GP}:Tp σ 6 a=some x->Tp σ 6 b=some (.tuple ys)->x.canLay0=true->FY ys=true->K (!ys.any λy=>Le y x)->F6 σ K .NotIn a b
 |inD {n ep:Nat} {kvs:List (Str×V)} {k:Str}:σ[n]?=some (.dict ep kvs)->K (kvs.any λp=>p.1=k)->F6 σ K .In (.str k) (.ref n)
 |wL {n ep:Nat} {kvs:List (Str×V)} {k:Str}:σ[n]?=some (.dict ep kvs)->K (!kvs.any λp=>p.1=k)->F6 σ K .NotIn (.str k) (.ref n)
 |qA {c:Nat} {y:Str}:K (decide (c∈y.cps.toList))->F6 σ K .In (.str (sign c)) (.str y)
def um(k:Int)(n j:Nat):Prop:=(k=j/\j<n)\/(k+n=j/\k<0)
inductive KD(σ:Af)(Q:BS):V->V->Prop
 |tup {vs:List V} {k:Int} {j:Nat} {v:V}:EO k=true->um k vs.length j->vs[j]?=some v->Q v σ->KD σ Q (.tup vs) (.int k)
 |list {n:Nat} {vs:List V} {k:Int} {j:Nat} {v:V}:σ[n]?=some (.list vs)->um k vs.length j->vs[j]?=some v->Q v σ->KD σ Q (.ref n) (.int k)
 |str {s:Str} {k:Int} {j c:Nat}:EO k=true->um k s.length j->s.cps[j]?=some c->Q (.str (sign c)) σ->KD σ Q (.str s) (.int k)
 |dict {n ep:Nat} {kvs:List (Str×V)} {k:Str} {v:V}:σ[n]?=some (.dict ep kvs)->kvs.lookup k=some v->Q v σ->KD σ Q (.ref n) (.str k)
inductive HU(n d:Nat):Option V->Nat->Prop
 |no:HU n d HC d
 |pos {i j:Nat}:EO i=true->j=min i n->HU n d (some (.int i)) j
 |neg {i:Int} {j:Nat}:i<0->EO i=true->j=(i+n).toNat->HU n d (some (.int i)) j
noncomputable def HS{α:Type}(l:List α)(a b:Nat):List α:=(l.take b).drop a
inductive J0(σ:Af)(Q:BS):V->Option V->Option V->Prop
 |list {n:Nat} {vs:List V} {lo hi:Option V} {x y:Nat}:σ[n]?=some (.list vs)->HU vs.length 0 lo x->HU vs.length vs.length hi y->Q (.ref σ.length) (σ++[.list (HS vs x y)])->J0 σ Q (.ref n) lo hi
 |str {s:Str} {lo hi:Option V} {x y:Nat}:s.length<=Cb->HU s.length 0 lo x->HU s.length s.length hi y->Q (.str ⟨(HS s.cps.toList x y).toArray⟩) σ->J0 σ Q (.str s) lo hi
 |tup {vs:List V} {lo hi:Option V} {x y:Nat}:vs.length<=Cb->HU vs.length 0 lo x->HU vs.length vs.length hi y->(HS vs x y).length<vs.length->Q (.tup (HS vs x y)) σ->J0 σ Q (.tup vs) lo hi
inductive MA(σ:Af)(Q:BS):Bool->V->Prop
 |ints {n:Nat} {ns:List Int}:σ[n]?=some (.list (ns.map .int))->ns.length<64->(∀ms:List Int,ms.Perm ns->ms.Pairwise (·<=·)->Q (.ref σ.length) (σ++[.list (ms.map .int)]))->MA σ Q false (.ref n)
 |rows {n:Nat} {rs:List (List Int)}:σ[n]?=some (.list (rs.map λr=>.tup (r.map .int)))->rs.length<64->(∀r∈rs,r≠[])->
   (∀ts:List (List Int),ts.Perm rs->ts.Pairwise (λa b=>D6 b a=false)->Q (.ref σ.length) (σ++[.list (ts.map λr=>.tup (r.map .int))]))->MA σ Q false (.ref n)
 |set {n:Nat} {ns:List Int}:σ[n]?=some (.list (ns.map .int))->ns.length<64->(∀ms:List Int,ms.Pairwise (·<·)->(∀x,x∈ms↔x∈ns)->Q (.ref σ.length) (σ++[.list (ms.map .int)]))->MA σ Q true (.ref n)
inductive Pr where | len | list | str | int | all | J3 (t:Ty)
noncomputable abbrev Pr.ctorIdx(x:Pr):Nat:=x.casesOn 0 1 2 3 4 (λ_=>5)
inductive Cu(σ:Af)(Q:BS):Pr->List V->Prop
 |LQ {n:Nat} {vs:List V}:σ[n]?=some (.list vs)->Q (.int vs.length) σ->Cu σ Q .len [.ref n]
 |qS {s:Str}:s.length<=Cb->Q (.int s.length) σ->Cu σ Q .len [.str s]
 |all {n:Nat} {bs:List Bool}:σ[n]?=some (.list (bs.map .bool))->Q (.bool (bs.all id)) σ->Cu σ Q .all [.ref n]
 |list {n:Nat} {vs:List V}:σ[n]?=some (.list vs)->Q (.ref σ.length) (σ++[.list vs])->Cu σ Q .list [.ref n]
 |str {i:Int}:EO i=true->Q (.str (AH (toString i))) σ->Cu σ Q .str [.int i]
 |mO {b:Bool}:Q (.int (b2i b)) σ->Cu σ Q .int [.bool b]
 |wM {s:Str} {n:Int}:intText? s=some n->s.length<=640->Q (.int n) σ->Cu σ Q .int [.str s]
 |yA {b:Bool}:Q (.bool true) σ->Cu σ Q (.J3 .bool) [.bool b]
 |wY {s:Str}:Q (.bool true) σ->Cu σ Q (.J3 .str) [.str s]
inductive oN(σ:Af)(Q:BS)(v:V):V->Prop
 |mk {n:Nat} {vs:List V}:σ[n]?=some (.list vs)->vs.length<Ih->n≠0->Q .none (σ.set n (.list (vs++[v])))->oN σ Q v (.ref n)
def isList(σ:Af)(v:V):Prop:=∃n vs,v=.ref n/\σ[n]?=some (.list vs)
noncomputable def OW(a:Int):Nat->List V
 | 0=>[]
 |n+1=>.int a::OW (a+1) n
noncomputable def V1(k:Int):List V->List V
 | []=>[]
 |v::r=>.tup [.int k,v]::V1 (k+1) r
inductive tS(u:Unit) where | plain | range | enum
abbrev Un:=tS ()
noncomputable abbrev tS.ctorIdx{u:Unit}(x:tS u):Nat:=x.casesOn 0 1 2
inductive Ko(σ:Af):Un->List V->List V->(Af->Prop)->Prop
 |list {n:Nat} {vs:List V}:σ[n]?=some (.list vs)->Ko σ .plain [.ref n] vs (λσ'=>σ'[n]?=some (.list vs))
 |str {s:Str}:s.cps.all (·<128)=true->Ko σ .plain [.str s] (s.cps.toList.map λc=>.str (sign c)) (λ_=>True)
 |dict {n ep:Nat} {kvs:List (Str×V)}:σ[n]?=some (.dict ep kvs)->Ko σ .plain [.ref n] (kvs.map λp=>.str p.1) (λσ'=>σ'[n]?=some (.dict ep kvs))
 |range {b:Int}:-(2 ^ 62)<=b->b<=Cb->Ko σ .range [.int b] (OW 0 b.toNat) (λ_=>True)
 |enum {n:Nat} {vs:List V}:σ[n]?=some (.list vs)->Ko σ .enum [.ref n] (V1 0 vs) (λσ'=>σ'[n]?=some (.list vs))
inductive j3 where
 |var (i:Nat)
 |tup (ps:List Nat)
noncomputable abbrev j3.ctorIdx(x:j3):Nat:=x.casesOn (λ_=>0) (λ_=>1)
noncomputable def RF:List Nat->List V->List V->List V
 |i::is,v::vs,ρ=>RF is vs (ρ.set i v)
 |_,_,ρ=>ρ
inductive aM(σ:Af)(K:List V->Prop)(ρ:List V):j3->V->Prop
 |var {i:Nat} {v:V}:K (ρ.set i v)->aM σ K ρ (.var i) v
 |tup {ps:List Nat} {vs:List V}:ps.length=vs.length->K (RF ps vs ρ)->aM σ K ρ (.tup ps) (.tup vs)
inductive iP(σ:Af)(K:Af->Prop)(v:V):V->V->Prop
 |dict {n ep:Nat} {kvs:List (Str×V)} {k:Str}:σ[n]?=some (.dict ep kvs)->n≠0->kvs.length<Cb->(∀ep',K (σ.set n (.dict ep' (put k v kvs))))->iP σ K v (.ref n) (.str k)
inductive Wm(σ:Af)(Q:BS)(C:Addr)(x:Str):V->Prop
 |mk {n m:Nat} {fs:List (Str×V)} {v:V}:σ[n]?=some (.inst C m)->σ[m]?=some (.ns fs)->fs.lookup x=some v->Q v σ->Wm σ Q C x (.ref n)
def X1(σ:Af)(C:Addr)(x:Str)(v:V):Prop:=∃n m fs,v=.ref n/\σ[n]?=some (.inst C m)/\σ[m]?=some (.ns fs)/\fs.lookup x=none
inductive cy(σ:Af)(K:Af->Prop)(C:Addr)(x:Str)(v:V):V->Prop
 |mk {n m:Nat} {fs:List (Str×V)}:σ[n]?=some (.inst C m)->σ[m]?=some (.ns fs)->m≠0->fs.length<=8->K (σ.set m (.ns (put x v fs)))->cy σ K C x v (.ref n)
inductive pj(σ:Af)(Q:BS):V->V->Prop
 |mk {n ep:Nat} {kvs:List (Str×V)} {k:Str} {v:V}:σ[n]?=some (.dict ep kvs)->n≠0->kvs.lookup k=some v->(∀ep',Q v (σ.set n (.dict ep' (oG k kvs))))->pj σ Q (.ref n) (.str k)
def xq(p:Prop):V->Prop
 | .undef=>False
 |_=>p
def vQ(K:V->Prop):Option V->Prop
 |some v=>xq (K v) v
 |HC=>False
def vU(K:V->Prop):Option V->Prop
 |some v=>K v
 |HC=>False
def W2(A B:Prop):Bool->Prop
 |true=>A
 |false=>B
def xn(d b:Bool)(A B:Prop):Prop:=match d with
 |true=>W2 A B b
 |false=>W2 B A b
set_option backward.match.sparseCases true in
def binI(σ:Af)(Q:BS)(a b:Int):SM->Prop
 | .Add=>Q (.int (a+b)) σ
 | .Sub=>Q (.int (a-b)) σ
 |op=>Eb σ Q op (.int a) (.int b)
def wi(σ:Af)(Q:BS)(op:SM)(a:Int):V->Prop
 | .int b=>binI σ Q a b op
 |y=>Eb σ Q op (.int a) y
def td(σ:Af)(Q:BS)(op:SM)(y:V):V->Prop
 | .int a=>wi σ Q op a y
 |x=>Eb σ Q op x y
def vf(σ:Af)(Q:BS):V->Prop
 | .int i=>Q (.int (-i)) σ
 |_=>False
def jV(σ:Af)(K:Bool->Prop):V->Prop
 | .none=>K false
 | .bool b=>K b
 | .int i=>K (i != 0)
 |v=>iQ σ K v
def xK(σ:Af)(K:Bool->Prop)(a b:Int):Kj->Prop
 | .Eq=>K (decide (a=b))
 | .NotEq=>K (!decide (a=b))
 | .Lt=>K (decide (a<b))
 | .LtE=>K (decide (a<=b))
 | .Gt=>K (decide (a>b))
 | .GtE=>K (decide (a≥b))
 |op=>F6 σ K op (.int a) (.int b)
def xM(σ:Af)(K:Bool->Prop)(x:V):Kj->Prop
 | .Is=>K (isNone x)
 | .IsNot=>K (!isNone x)
 |op=>F6 σ K op x .none
def wz(σ:Af)(K:Bool->Prop)(a b:Bool):Kj->Prop
 | .Eq=>K (a==b)
 | .NotEq=>K (!(a==b))
 |op=>F6 σ K op (.bool a) (.bool b)
def xQ(σ:Af)(K:Bool->Prop)(op:Kj)(b:Int):V->Prop
 | .int a=>xK σ K a b op
 |x=>F6 σ K op x (.int b)
def xG(σ:Af)(K:Bool->Prop)(op:Kj)(b:Bool):V->Prop
 | .bool a=>wz σ K a b op
 |x=>F6 σ K op x (.bool b)
def ie(σ:Af)(K:Bool->Prop)(op:Kj)(x:V):V->Prop
 | .int b=>xQ σ K op b x
 | .none=>xM σ K x op
 | .bool b=>xG σ K op b x
 |y=>F6 σ K op x y
def wG(σ:Af)(Q:BS)(vs:List V)(j:Nat):Bool->Prop
 |true=>vU (λv=>Q v σ) vs[j]?
 |false=>KD σ Q (.tup vs) (.int (.ofNat j))
def w8(σ:Af)(Q:BS)(vs:List V):Int->Prop
 | .ofNat j=>wG σ Q vs j (Nat.ble j 1000000)
 |k=>KD σ Q (.tup vs) (.int k)
def w7(σ:Af)(Q:BS)(vs:List V):V->Prop
 | .int k=>w8 σ Q vs k
 |y=>KD σ Q (.tup vs) y
def rY(σ:Af)(Q:BS)(y:V):V->Prop
 | .tup vs=>w7 σ Q vs y
 |x=>KD σ Q x y
def kQ(K:List V->Prop):List Nat->List V->List V->Prop
 | [],[],ρ=>K ρ
 |p::ps,v::vs,ρ=>kQ K ps vs (ρ.set p v)
 |_,_,_=>False
def wD(σ:Af)(K:List V->Prop)(ρ:List V)(ps:List Nat):V->Prop
 | .tup vs=>kQ K ps vs ρ
 |v=>aM σ K ρ (.tup ps) v
def VS(σ:Af)(K:List V->Prop)(ρ:List V)(v:V):j3->Prop
 | .var i=>K (ρ.set i v)
 | .tup ps=>wD σ K ρ ps v
def Hg:Ex:=λ_ _ σ Q _=>Q .none σ
def Fe(b:Bool):Ex:=λ_ _ σ Q _=>Q (.bool b) σ
def AU(i:Int):Ex:=λ_ _ σ Q _=>Q (.int i) σ
def BE(s:Str):Ex:=λ_ _ σ Q _=>Q (.str s) σ
def AD(i:Nat):Ex:=λ_ ρ σ Q _=>vQ (λv=>Q v σ) ρ[i]?
def Ah(op:SM)(a b:Ex):Ex:=λC ρ σ Q X=>a C ρ σ (λx σ₁=>b C ρ σ₁ (λy σ₂=>td σ₂ Q op y x) X) X
def ko(a:Ex):Ex:=λC ρ σ Q X=>a C ρ σ (λx σ₁=>vf σ₁ Q x) X
def ue(a:Ex):Ex:=λC ρ σ Q X=>a C ρ σ (λx σ₁=>jV σ₁ (λb=>Q (.bool (!b)) σ₁) x) X
def bM(l:List Ex):Es:=NJ (motive:=λ_=>Es) (λ_ _ σ Q _=>Q [] σ)
 (λe _ ih C ρ σ Q X=>e C ρ σ (λv σ₁=>ih C ρ σ₁ (λvs σ₂=>Q (v::vs) σ₂) X) X) l
def wk(d:Bool)(e ih:Ex):List Ex->Ex
 | []=>e
 |_::_=>λC ρ σ Q X=>e C ρ σ (λv σ₁=>jV σ₁ (λb=>xn d b (ih C ρ σ₁ Q X) (Q v σ₁)) v) X
def KC(d:Bool)(l:List Ex):Ex:=NJ (motive:=λ_=>Ex) (λ_ _ _ _ _=>False) (λe es ih=>wk d e ih es) l
def sX(op:Kj)(ih:List Ex->V->Tx):List Kj->List Ex->V->Tx
 | [],[r],x=>λC ρ σ Q X=>r C ρ σ (λy σ₁=>ie σ₁ (λb=>Q b σ₁) op x y) X
 |_::_,r::r'::rs,x=>λC ρ σ Q X=>r C ρ σ (λy σ₁=>ie σ₁ (λb=>W2 (ih (r'::rs) y C ρ σ₁ Q X) (Q false σ₁) b) op x y) X
 |_,_,_=>λ_ _ _ _ _=>False
def qv(ops:List Kj):List Ex->V->Tx:=NJ (motive:=λ_=>List Ex->V->Tx) (λ_ _ _ _ _ _ _=>False) (λop ops ih=>sX op ih ops) ops
def Bj(l:Ex)(ops:List Kj)(rs:List Ex):Tx:=λC ρ σ Q X=>l C ρ σ (λx σ₁=>qv ops rs x C ρ σ₁ Q X) X
def Jh(t:Tx):Ex:=λC ρ σ Q X=>t C ρ σ (λb σ₁=>Q (.bool b) σ₁) X
def Dw(es:List Ex):Ex:=λC ρ σ Q X=>bM es C ρ σ (λvs σ₁=>Q (.tup vs) σ₁) X
def CD(es:List Ex):Ex:=λC ρ σ Q X=>bM es C ρ σ (λvs σ₁=>Q (.ref σ₁.length) (σ₁++[.list vs])) X
def A8(a i:Ex):Ex:=λC ρ σ Q X=>a C ρ σ (λx σ₁=>i C ρ σ₁ (λy σ₂=>rY σ₂ Q y x) X) X
def xW:Option Ex->Hl->List V->Af->(Option V->Af->Prop)->CP->Prop
 |HC=>λ_ _ σ Q _=>Q HC σ
 |some e=>λC ρ σ Q X=>e C ρ σ (λv σ₁=>Q (some v) σ₁) X
def DD(a:Ex)(lo hi:Option Ex):Ex:=λC ρ σ Q X=>a C ρ σ (λx σ₁=>xW lo C ρ σ₁ (λy σ₂=>xW hi C ρ σ₂ (λz σ₃=>J0 σ₃ Q x y z) X) X) X
def A2(f:Nat)(es:List Ex):Ex:=λC ρ σ Q X=>bM es C ρ σ (λvs σ₁=>C f vs σ₁ Q X) X
def DW(p:Pr)(es:List Ex):Ex:=λC ρ σ Q X=>bM es C ρ σ (λvs σ₁=>Cu σ₁ Q p vs) X
def Mv(o x:Ex):Ex:=λC ρ σ Q X=>o C ρ σ (λv σ₁=>isList σ₁ v/\x C ρ σ₁ (λu σ₂=>oN σ₂ Q u v) X) X
def isStr:V->Prop
 | .str _=>True
 |_=>False
inductive Na(σ:Af)(Q:BS)(c:Nat):V->Prop
 |mk {x:Str}:x.length<Cb->Q (.ref σ.length) (σ++[.list ((EG x (sign c)).map .str)])->Na σ Q c (.str x)
def Oo(c:Nat)(a:Ex):Ex:=λC ρ σ Q X=>a C ρ σ (λv σ₁=>Na σ₁ Q c v) X
inductive ah(σ:Af)(Q:BS)(c:Nat):V->Prop
 |mk {x:Str}:Q (.bool (KL x (sign c))) σ->ah σ Q c (.str x)
def lE(c:Nat)(a:Ex):Ex:=λC ρ σ Q X=>a C ρ σ (λv σ₁=>ah σ₁ Q c v) X
noncomputable def Ly(c:Nat)(x z:Str)(k:Nat):Str:=if (QE x (sign c) 0 x.length k).isEmpty=true then x else Builtin.Str.glued z (Builtin.Str.partsBetween x (QE x (sign c) 0 x.length k) 1)
inductive ae(σ:Af)(Q:BS)(c:Nat):V->V->V->Prop
 |mk {x z:Str} {k:Nat}:z≠sign c->EO k=true->x.length+k*z.length<=Cb->Q (.str (Ly c x z k)) σ->ae σ Q c (.str x) (.str z) (.int k)
def iG(c:Nat)(a b n:Ex):Ex:=λC ρ σ Q X=>a C ρ σ (λv σ₁=>isStr v/\b C ρ σ₁ (λu σ₂=>n C ρ σ₂ (λw σ₃=>ae σ₃ Q c v u w) X) X) X
inductive hY(σ:Af)(Q:BS):V->Prop
 |mk {n:Nat} {vs:List V}:σ[n]?=some (.list vs)->Q (.ref σ.length) (σ++[.list vs.reverse])->hY σ Q (.ref n)
def dg(a:Ex):Ex:=λC ρ σ Q X=>a C ρ σ (λv σ₁=>hY σ₁ Q v) X
inductive gM(l:List Str)(K:Str->Prop):V->Prop
 |mk {j:Nat} {s:Str}:l[j]?=some s->K s->gM l K (.int j)
def i0(l:List Str)(a:Ex):Ex:=λC ρ σ Q X=>a C ρ σ (λv σ₁=>gM l (λs=>Q (.str s) σ₁) v) X
inductive ZK(T:Str->Prop):V->Prop
 |str {s:Str}:s.length<=Cb->T s->ZK T (.str s)
 |int {i:Int}:EO i=true->T (AH (toString i))->ZK T (.int i)
def Y2(l:List Ex):Str->Ex:=NJ (motive:=λ_=>Str->Ex) (λacc _ _ σ Q _=>Q (.str acc) σ)
 (λe _ ih acc C ρ σ Q X=>e C ρ σ (λv σ₁=>ZK (λs=>acc.length+s.length<=Cb/\ih (acc++s) C ρ σ₁ Q X) v) X) l
inductive TA(σ:Af)(Q:BS)(sep:Str):V->Prop
 |mk {n:Nat} {ss:List Str}:σ[n]?=some (.list (ss.map .str))->(ss.map (·.length)).sum+ss.length*sep.length<=Cb->Q (.str (Cr sep ss)) σ->TA σ Q sep (.ref n)
def L5(sep:Str)(a:Ex):Ex:=λC ρ σ Q X=>a C ρ σ (λv σ₁=>TA σ₁ Q sep v) X
def OJ(u:Bool)(a:Ex):Ex:=λC ρ σ Q X=>a C ρ σ (λv σ₁=>MA σ₁ Q u v) X
def E7(c:Addr)(x:Str)(a:Ex):Ex:=λC ρ σ Q X=>a C ρ σ (λv σ₁=>Wm σ₁ Q c x v) X
def FO(c:Addr)(x:Str)(f:Nat)(a:Ex)(es:List Ex):Ex:=λC ρ σ Q X=>a C ρ σ (λv σ₁=>X1 σ₁ c x v/\bM es C ρ σ₁ (λvs σ₂=>C f (v::vs) σ₂ Q X) X) X
def oI(c:Addr)(f:Nat)(es:List Ex):Ex:=λC ρ σ Q X=>bM es C ρ σ (λvs σ₁=>C f (.ref (σ₁.length+1)::vs) (σ₁++[.ns [],.inst c σ₁.length]) (λr σ₂=>r=.none/\Q (.ref (σ₁.length+1)) σ₂) X) X
def Zr:Ex:=λ_ _ σ Q _=>Q (.ref σ.length) (σ++[.dict 0 []])
def qF(a k:Ex):Ex:=λC ρ σ Q X=>a C ρ σ (λv σ₁=>(∃n ep kvs,v=.ref n/\σ₁[n]?=some (.dict ep kvs))/\k C ρ σ₁ (λu σ₂=>pj σ₂ Q v u) X) X
def Y7(P:Addr)(q:Str)(ln col:Int)(σ:Af)(K:Nat->Af->Prop):Prop:=
 (σ[1]?=some (.tab P)/\K σ.length (σ.set 1 (.row P ln col σ.length)++[.code q]))\/∃m,σ[1]?=some (.row P ln col m)/\σ[m]?=some (.code q)/\K m σ
inductive Xg(σ:Af):V->List V->Prop
 |dict {n ep:Nat} {kvs:List (Str×V)}:n≠1->σ[n]?=some (.dict ep kvs)->Xg σ (.ref n) (kvs.map λp=>.str p.1)
def SX(turn:V->Af->BS->Prop):List V->List V->Af->(List V->Af->Prop)->Prop
 | [],acc,σ,Q=>Q acc σ
 |v::vs,acc,σ,Q=>turn v σ λu σ'=>SX turn vs (acc++[u]) σ' Q
def LZ(ks:List (List Int))(i j:Nat):Prop:=D6 (ks.getD i []) (ks.getD j [])=true\/(D6 (ks.getD j []) (ks.getD i [])=false/\i<j)
def W3:CP:=λ_ _=>False
def Hm(a:Ex):Tx:=λC ρ σ Q X=>a C ρ σ (λv σ₁=>jV σ₁ (λb=>Q b σ₁) v) X
def JK(t:Tx):Tx:=λC ρ σ Q X=>t C ρ σ (λb σ₁=>Q (!b) σ₁) X
def LB(l:List Tx):Tx:=NJ (motive:=λ_=>Tx) (λ_ _ σ Q _=>Q true σ)
 (λt _ ih C ρ σ Q X=>t C ρ σ (λb σ₁=>W2 (ih C ρ σ₁ Q X) (Q false σ₁) b) X) l
def Uj(l:List Tx):Tx:=NJ (motive:=λ_=>Tx) (λ_ _ σ Q _=>Q false σ)
 (λt _ ih C ρ σ Q X=>t C ρ σ (λb σ₁=>W2 (Q true σ₁) (ih C ρ σ₁ Q X) b) X) l
def Hf(turn:V->Af->(Option V->Af->Prop)->Prop)(same:Af->Prop):List V->List V->Af->(List V->Af->Prop)->Prop
 | [],acc,σ,Q=>Q acc σ
 |v::vs,acc,σ,Q=>turn v σ λr σ'=>same σ'/\Hf turn same vs (acc++r.toList) σ' Q
def La(C:Hl)(elt:Ex)(i:Nat)(ifs:List Tx)(ρ:List V)(v:V)(σ:Af)(R:Option V->Af->Prop):Prop:=
 LB ifs C (ρ.set i v) σ (λb σ₁=>W2 (elt C (ρ.set i v) σ₁ (λx σ₂=>R (some x) σ₂) W3) (R HC σ₁) b) W3
def Gg(elt:Ex)(i:Nat)(k:Un)(src:List Ex)(ifs:List Tx):Ex:=λC ρ σ Q X=>bM src C ρ σ (λvs σ₁=>∃items same,Ko σ₁ k vs items same/\items.length<=Cb/\
 Hf (La C elt i ifs ρ) same items [] σ₁ λys σ₂=>Q (.ref σ₂.length) (σ₂++[.list ys])) X
def HE(rs:List (List Int)):Prop:=rs.length<64\/(rs.length<128/\∃d,d<=rs.length/\∀i j,i<j->j<rs.length->D6 (rs.getD (if d<=i then i else j) []) (rs.getD (if d<=i then j else i) [])=true)
def Tv(P:Addr)(q:Str)(ln col:Int)(a:Ex)(i:Nat)(b:Ex):Ex:=λC ρ σ Q X=>a C ρ σ (λv σ₁=>∃items,Xg σ₁ v items/\items.length<128/\Y7 P q ln col σ₁ λm σ₂=>SX (λy σ R=>σ[m]?=some (.code q)/\b C (ρ.set i y) σ R W3) items [] σ₂ λks σ₃=>
 ∃rs:List (List Int),ks=rs.map (λr=>.tup (r.map .int))/\(∀r∈rs,r≠[])/\HE rs/\∀p:List Nat,p.Perm (Ar items.length)->p.Pairwise (LZ rs)->Q (.ref σ₃.length) (σ₃++[.list (p.map λi=>items.getD i .none)])) X
def Eh(e:Ex):Sx:=λC ρ σ Q=>e C ρ σ (λ_ σ₁=>Q .next ρ σ₁) (λc σ₁=>Q (.exc c) ρ σ₁)
def CE(e:Ex):Sx:=λC ρ σ Q=>e C ρ σ (λv σ₁=>Q (.ret v) ρ σ₁) (λc σ₁=>Q (.exc c) ρ σ₁)
def qh:Sx:=λ_ ρ σ Q=>Q (.ret .none) ρ σ
def qu:Sx:=λ_ ρ σ Q=>Q .next ρ σ
def BR(p:j3)(e:Ex):Sx:=λC ρ σ Q=>e C ρ σ (λv σ₁=>VS σ₁ (λρ'=>Q .next ρ' σ₁) ρ v p) (λc σ₁=>Q (.exc c) ρ σ₁)
def gq:Sx:=λ_ _ _ _=>False
def Vd(c:Addr)(x:Str)(o e:Ex):Sx:=λC ρ σ Q=>e C ρ σ (λv σ₁=>o C ρ σ₁ (λu σ₂=>cy σ₂ (λσ₃=>Q .next ρ σ₃) c x v u) λc σ₂=>Q (.exc c) ρ σ₂) (λc σ₁=>Q (.exc c) ρ σ₁)
def GY(k:Nat)(e:Ex):Sx:=λC ρ σ Q=>e C ρ σ (λ_ σ₁=>Q (.exc k) ρ σ₁) (λc σ₁=>Q (.exc c) ρ σ₁)
def aI(o i e:Ex):Sx:=λC ρ σ Q=>e C ρ σ (λv σ₁=>o C ρ σ₁ (λx σ₂=>i C ρ σ₂ (λy σ₃=>iP σ₃ (λσ₄=>Q .next ρ σ₄) v x y) λc σ₃=>Q (.exc c) ρ σ₃) λc σ₂=>Q (.exc c) ρ σ₂) (λc σ₁=>Q (.exc c) ρ σ₁)
def L4(K:List V->Af->Prop)(Q:HT):HT
 | .next,ρ,σ=>K ρ σ
 |fl,ρ,σ=>Q fl ρ σ
def Ek(l:List Sx):Sx:=NJ (motive:=λ_=>Sx) (λ_ ρ σ Q=>Q .next ρ σ) (λs _ ih C ρ σ Q=>s C ρ σ (L4 (λρ₁ σ₁=>ih C ρ₁ σ₁ Q) Q)) l
def Fy(c:Tx)(b o:List Sx):Sx:=λC ρ σ Q=>c C ρ σ (λt σ₁=>W2 (Ek b C ρ σ₁ Q) (Ek o C ρ σ₁ Q) t) (λc σ₁=>Q (.exc c) ρ σ₁)
noncomputable def sJ:Option Nat->List V->List V
 |none,ρ=>ρ
 |some i,ρ=>ρ.set i .undef
def vY(hs:List (List Nat×V×Option Nat))(Q:HT):HT
 | .exc c,ρ,σ=>match hs.find? (λh=>h.1.contains c) with
  |some h=>Q (.ret h.2.1) (sJ h.2.2 ρ) σ
  |none=>Q (.exc c) ρ σ
 |fl,ρ,σ=>Q fl ρ σ
def dW(b:List Sx)(hs:List (List Nat×V×Option Nat)):Sx:=λC ρ σ Q=>Ek b C ρ σ (vY hs Q)
def QV(K:List V->Af->Prop)(Q:HT):HT
 | .next,ρ,σ=>K ρ σ
 |fl,ρ,σ=>Q fl ρ σ
def Nb(turn:V->List V->Af->HT->Prop)(same:Af->Prop):List V->List V->Af->HT->Prop
 | [],ρ,σ,Q=>Q .next ρ σ
 |v::vs,ρ,σ,Q=>turn v ρ σ (QV (λρ' σ'=>same σ'/\Nb turn same vs ρ' σ' Q) Q)
def MF(C:Hl)(p:j3)(body:List Sx)(v:V)(ρ:List V)(σ:Af)(Q:HT):Prop:=VS σ (λρ'=>Ek body C ρ' σ Q) ρ v p
def Hz(p:j3)(k:Un)(src:List Ex)(body:List Sx):Sx:=λC ρ σ Q=>bM src C ρ σ (λvs σ₁=>∃items same,Ko σ₁ k vs items same/\Nb (MF C p body) same items ρ σ₁ Q) (λc σ₁=>Q (.exc c) ρ σ₁)
def rZ(ks:List Nat)(e:Ex)(C:Hl)(Q:HT):HT
 | .exc c,ρ,σ=>W2 (e C ρ σ (λv σ₁=>Q (.ret v) ρ σ₁) W3) (Q (.exc c) ρ σ) (ks.contains c)
 |fl,ρ,σ=>Q fl ρ σ
def jk(b:List Sx)(ks:List Nat)(e:Ex):Sx:=λC ρ σ Q=>Ek b C ρ σ (rZ ks e C Q)
structure wW where
 ks:List Nat
 i:Nat
 x:Nat
 y:Nat
 z:Nat
def wW.e(r:wW):Ex:=Jh (Bj (A2 r.i [AD r.x,AD r.y,AD r.z]) [.Is] [Hg])
structure Fn where
 params:Nat
 slots:Nat
 body:List Sx
def Jt(Q:BS)(X:CP):HT
 | .ret v,_,σ=>Q v σ
 | .next,_,σ=>Q .none σ
 | .exc c,_,σ=>X c σ
def jb(P:List Fn):Nat->Hl
 | 0=>λ_ _ _ _ _=>False
 |d+1=>λf args σ Q X=>∃fn,P[f]?=some fn/\args.length=fn.params/\Ek fn.body (jb P d) (args++Dm (fn.slots-fn.params) V.undef) σ (Jt Q X)
@[irreducible] def callW (P:List Fn) (d:Nat):Hl:=jb P d
theorem Wi(h:vQ K o):∃v,o=some v/\v≠.undef/\K v:=by
 cases o with
 |none=>exact h.elim
 |some v=>cases v with
  |undef=>exact h.elim
  |_=>exact⟨_,rfl,(λh=>by injection h),h⟩
theorem sW(h:td σ Q op y x):Eb σ Q op x y:=by
 cases x with
 |int a=>cases y with
  |int b=>cases op with
   |Add=>exact .add h
   |Sub=>exact .sub h
   |_=>exact h
  |_=>exact h
 |_=>exact h
theorem iL(h:vf σ Q x):∃i,x=.int i/\Q (.int (-i)) σ:=by
 cases x with
 |int i=>exact⟨i,rfl,h⟩
 |_=>exact h.elim
theorem tA(h:jV σ K v):iQ σ K v:=by
 cases v with
 |none=>exact .none h
 |bool b=>exact .bool h
 |int i=>exact .int h
 |_=>exact h
theorem sm(h:ie σ K op x y):F6 σ K op x y:=by
 cases y with
 |int b=>cases x with
  |int a=>cases op with
   |Eq=>exact .eq (x:=.int a) (y:=.int b) rfl rfl rfl rfl h
   |NotEq=>exact .ne (x:=.int a) (y:=.int b) rfl rfl rfl rfl h
   |Lt=>exact .lt h
   |LtE=>exact .le h
   |Gt=>exact .gt h
   |GtE=>exact .ge h
   |_=>exact h
  |_=>exact h
 |none=>cases op with
  |Is=>exact .is h
  |IsNot=>exact .rI h
  |_=>exact h
 |bool b=>cases x with
  |bool a=>cases op with
   |Eq=>exact .eq (x:=.bool a) (y:=.bool b) rfl rfl rfl rfl h
   |NotEq=>exact .ne (x:=.bool a) (y:=.bool b) rfl rfl rfl rfl h
   |_=>exact h
  |_=>exact h
 |_=>exact h
theorem r7(h:rY σ Q y x):KD σ Q x y:=by
 cases x with
 |tup vs=>cases y with
  |int k=>cases k with
   |ofNat j=>
    have h:wG σ Q vs j (Nat.ble j 1000000):=h
    cases e:Nat.ble j 1000000 with
    |true=>
     rw[e] at h
     have h:vU (λv=>Q v σ) vs[j]?:=h
     cases g:vs[j]? with
     |none=>rw[g] at h;exact h.elim
     |some v=>
      rw[g] at h
      exact .tup (AJ.mpr ⟨decide_eq_true (Au (by decide) (AQ j)),decide_eq_true (DK (A9.mpr (Ap e)) (by decide))⟩) (.inl ⟨rfl,(AP.mp g).1⟩) g h
    |false=>rw[e] at h;exact h
   |negSucc j=>exact h
  |_=>exact h
 |_=>exact h
theorem Sa:∀{ps:List Nat} {vs ρ:List V},kQ K ps vs ρ->ps.length=vs.length/\K (RF ps vs ρ):=λ{ps}=>by
 induction ps with
 |nil=>intro vs ρ h;cases vs with
  |nil=>exact⟨rfl,h⟩
  |cons _ _=>exact h.elim
 |cons p ps B=>intro vs ρ h;cases vs with
  |nil=>exact h.elim
  |cons v vs=>exact⟨congrArg (·+1) (B h).1,(B h).2⟩
theorem nW(h:VS σ K ρ v p):aM σ K ρ p v:=by
 cases p with
 |var i=>exact .var h
 |tup ps=>cases v with
  |tup vs=>exact .tup (Sa h).1 (Sa h).2
  |_=>exact h
theorem jC(h:xn d b A B):if b=d then A else B:=by cases d <;> cases b <;> exact h
theorem c7(h:callW P (d+1) f args σ Q X):∃fn,P[f]?=some fn/\args.length=fn.params/\Ek fn.body (callW P d) (args++Dm (fn.slots-fn.params) V.undef) σ (Jt Q X):=by
 with_unfolding_all exact h
theorem BG(h:P[f]?=some fn)(B:args.length=fn.params)(q:Ek fn.body (callW P d) (args++Dm (fn.slots-fn.params) V.undef) σ (Jt Q X)):callW P (d+1) f args σ Q X:=by
 with_unfolding_all exact(⟨fn,h,B,q⟩:jb P (d+1) f args σ Q X)
theorem hX(h:callW P 0 f args σ Q X):False:=by
 with_unfolding_all exact h
inductive WL{α β:Type}(R:α->β->Prop):List α->List β->Prop
 |nil:WL R [] []
 |cons {a:α} {b:β} {as:List α} {bs:List β}:R a b->WL R as bs->WL R (a::as) (b::bs)
inductive Gl where
 |fn (i:Nat)
 |cls (C:Addr) (i:Nat)
 |exc (k:Nat) (kids:List Nat)
 |SD (c P:Addr)
 |str (s:Str)
 |int (i:Int)
noncomputable abbrev Gl.ctorIdx(x:Gl):Nat:=x.casesOn (λ_=>0) (λ_ _=>1) (λ_ _=>2) (λ_ _=>3) (λ_=>4) (λ_=>5)
abbrev PW:=List (Str×Gl)
abbrev Vs:=List (Str×Nat)
theorem j1(a:Int)(i:Nat):a+1+(i:Int)=a+((i+1:Nat):Int):=by rw[C2,OS,MU 1];rfl
theorem Sr(n:Nat):∀(a:Int) (i:Nat) (v:V),(OW a n)[i]?=some v->v=.int (a+i)/\i<n:=by
 induction n with
 |zero=>exact λ_ _ v h=>absurd h.symm (AY v)
 |succ n B=>intro a i v h;cases i with
  |zero=>exact⟨(AG h).symm.trans (congrArg V.int (Hi a).symm),It n⟩
  |succ i=>exact(B (a+1) i v h).imp (·.trans (congrArg V.int (j1 a i))) D4
theorem RG(n:Nat):∀(a:Int),(OW a n).length=n:=by
 induction n with
 |zero=>exact λ_=>rfl
 |succ n B=>exact λ_=>congrArg (·+1) (B _)
theorem WY(vs:List V):∀(a:Int) (i:Nat) (u:V),(V1 a vs)[i]?=some u->∃v,vs[i]?=some v/\u=.tup [.int (a+i),v]:=by
 induction vs with
 |nil=>exact λ_ _ v h=>absurd h.symm (AY v)
 |cons v vs B=>intro a i u h;cases i with
  |zero=>exact⟨v,rfl,(AG h).symm.trans (congrArg (λk=>V.tup [.int k,v]) (Hi a).symm)⟩
  |succ i=>exact(B (a+1) i u h).imp λw h=>h.imp id (·.trans (congrArg (λk=>V.tup [.int k,w]) (j1 a i)))
theorem Sq(vs:List V):∀(a:Int),(V1 a vs).length=vs.length:=by
 induction vs with
 |nil=>exact λ_=>rfl
 |cons _ vs B=>exact λ_=>congrArg (·+1) (B _)
end Mine.Internal
namespace Mine.Internal
open PySem PySem.Calls
set_option genSizeOf false
set_option genInjectivity false
def nz(h:Heap)(a:Addr):Prop:=∃o vs,h.get? a=some o/\o.data=.fields vs/\vs[2]?=some .none
def sf(A:Bb)(h:Heap):Prop:=∀v,A.handled=some v->∃a,v=.ref a/\nz h a
def pq(A:Bb)(h:Heap)(I:Addr):Prop:=∀v,A.handled=some v->∃a,v=.ref a/\a≠I/\nz h a
section
variable {prog:DU} {w:IW} {A A':Bb} {E:AV->Aj->Prop} {s:Aj}
theorem pq.upd(hd:pq A s.heap B):sf A (s.heap.update B f):=λv e=>by
 obtain⟨a,rfl,n,o,vs,ea,r⟩:=hd v e
 exact⟨a,rfl,o,vs,(B0 _ _ n.symm).trans ea,r⟩
theorem pq.ok{B:Addr}(hd:pq A s.heap B):sf A s.heap:=λv e=>by
 obtain⟨a,rfl,n,r⟩:=hd v e
 exact⟨a,rfl,r⟩
theorem Rx:entryFor table "proto.unchain"=some Nk.«proto.unchain»:=entryFor_of_fast (by kernel_rfl)
theorem UE{α:Type}{Q:Option AV->Aj->Prop}(M:A'.handled=A.handled)(hd:sf A s.heap)(F:∀h',(∀b o,s.heap.get? b=some o->h'.get? b=some o)->Q none { s with heap:=h' }) :
  Am (Cz prog w) A' (newExc (.type "StopIteration") [] >>= λe=>raiseNew e) (λ(_:α) _=>False)
   (λe s'=>Am (Cz prog w) A (do if <- isInstance e (.type "StopIteration") then pure none else throw e) Q E s') s:=by
 refine AB (AB (DI ?_ (Ap rfl)))
 refine AB (m:=O9 _ _) (VF (a:=Ba) (by first | rfl | (simp only[O9];rfl)) ?_)
 refine DI ?_ (Ap rfl)
 refine AB (wpAny_handled ?_)
 rw[M]
 have keep:∀b o,s.heap.get? b=some o->((s.heap.push { cls:=.type "tuple", data:=.seq ([]:List AV).toArray }).push { cls:=.type "StopIteration", data:=.fields (#[.ref s.heap.objs.size,.none,.none,.none,.bool false,.none]++ownMembersOf (.type "StopIteration") []) }).get? b=some o:=λb o e=>AN _ (AN _ e)
 have new:=Aw (s.heap.push { cls:=.type "tuple", data:=.seq ([]:List AV).toArray }) (o:={ cls:=.type "StopIteration", data:=.fields (#[.ref s.heap.objs.size,.none,.none,.none,.bool false,.none]++ownMembersOf (.type "StopIteration") []) }) rfl
 cases Z:A.handled with
 |none=>
  refine AB (AS (VG ?_))
  refine AB (J6 (T:="StopIteration") (b:=true) ⟨_,new,rfl⟩ ZR ?_)
  exact AS (F _ keep)
 |some v=>
  obtain⟨a,rfl,o,vs,ea,da,h2⟩:=hd v Z
  have B:∀b o,s.heap.get? b=some o->b≠(s.heap.push { cls:=.type "tuple", data:=.seq ([]:List AV).toArray }).objs.size:=λb o e=>Bo (B7 (AN _ e))
  show Am _ _ (if (Cm a != Cm _)=true then _ else _) _ _ _
  rw[if_pos (by rw[bne_iff_ne];exact λq=>B a o ea (by injection q))]
  refine AB (Bt (ZQ (HH Rx ?_)))
  show Am _ _ (fS (.ref a) 2 >>= _) _ _ _
  refine AB (Df (keep _ _ ea) da h2 ?_)
  refine AS ?_
  refine AB ?_
  refine(?_:Am _ _ (KG (.ref _) 2 (.ref a)) _ _ _)
  refine Dx new rfl (Ap rfl) ?_
  refine VG ?_
  refine AB (J6 (T:="StopIteration") (b:=true) ⟨_,Cv _ new rfl,rfl⟩ ZR ?_)
  exact AS (F _ λb o e=>(B0 _ _ (B b o e).symm).trans (keep b o e))
theorem gw(hd:pq A s.heap F)(hit:s.heap.IsListIter F l i)(hl:s.heap.IsList l items)(he:items[i]?=none)(hQ:∀h',JU F s.heap h'->Q none { s with heap:=h' }):Am (Cz prog w) A (J5 (.ref F)) Q E s:=by
 obtain⟨o,M,hc,B⟩:=id hit
 obtain⟨ol,Z,_,nl,hdl⟩:=hl
 unfold J5
 refine AB (FL (DE (name:="__next__") hit.typeIs slot_listiter_next
  (Ck slot_listiter_next hit.typeIs entry_listiter_next ?_ (args_listiter_next _))))
 refine(?_:Am _ _ (fS (.ref F) 0 >>= _) _ _ s)
 refine AB (Df M B (x:=.ref l) rfl ?_)
 refine(?_:Am _ _ (fS (.ref F) 1 >>= _) _ _ s)
 refine AB (Df M B (x:=.int i 0) rfl ?_)
 refine(?_:Am _ _ (seqItems? (.ref l) >>= _) _ _ s)
 refine AB (ZS Z hdl ?_)
 simp only[A6,he]
 refine AB (G4 (AB (Dx M B (Ap rfl) ?_)))
 exact Ax (UE (A:=A) (E:=E) rfl hd.upd λh' k=>hQ _ λb ob hb e=>k b ob ((B0 _ _ hb.symm).trans e)) (λ_ _ f=>f.elim) λ_ _ e=>e
theorem cW{x left B:Int}{Q:Option AV->Aj->Prop}(hd:pq A s.heap M)(hit:VH s.heap M x left B)(Z:left<=0)(hQ:∀h',JU M s.heap h'->Q none { s with heap:=h' }):Am (Cz prog w) A (J5 (.ref M)) Q E s:=by
 have hT:s.TypeIs (.ref M) "range_iterator":=⟨_,hit,rfl⟩
 unfold J5
 refine AB (FL (DE (name:="__next__") hT Wv
  (Ck Wv hT F.entry_range_iterator_next ?_ (F.args_range_iterator_next_1 _))))
 refine(?_:Am _ _ (fS (.ref M) 0 >>= _) _ _ s)
 refine AB (Df hit rfl (x:=Cc x) rfl ?_)
 refine(?_:Am _ _ (fS (.ref M) 1 >>= _) _ _ s)
 refine AB (Df hit rfl (x:=Cc left) rfl ?_)
 refine(?_:Am _ _ (fS (.ref M) 2 >>= _) _ _ s)
 refine AB (Df hit rfl (x:=Cc B) rfl ?_)
 refine(?_:Am _ _ (if left<=0 then _ else _) _ _ s)
 rw[if_pos Z]
 refine AB (G4 ?_)
 refine AB ?_
 exact Ax (UE (A:=A) (E:=E) rfl hd.ok λh' k=>hQ _ λb ob hb e=>k b ob e) (λ_ _ f=>f.elim) λ_ _ e=>e
theorem lW{knd:KeyKind prog w Str}{B d:Addr}{i ep:Nat}{kvs:List (Str×AV)}{Q:Option AV->Aj->Prop}(hd:pq A s.heap B)(hit:s.heap.IsKeyIter B d i kvs.length ep)(hm:s.heap.DictAt knd d kvs ep)(hx:kvs[i]?=none)(hQ:∀h',JU B s.heap h'->Q none { s with heap:=h' }):Am (Cz prog w) A (J5 (.ref B)) Q E s:=by
 obtain⟨o,ho,hc,hdt⟩:=id hit
 obtain⟨od,es,M,hcd,Z,hk,hp,hn⟩:=id hm
 unfold J5
 refine AB (FL (DE (name:="__next__") hit.typeIs U6
  (Ck U6 hit.typeIs F.entry_dict_keyiterator_next ?_ (F.args_dict_keyiterator_next_1 _))))
 have hsz:es.size=kvs.length:=by rw[<- hp.length];simp
 refine AB (AS (AB (AB ?_)))
 first | refine AB (VI hit.typeIs (AS ?_)) | refine AB (eW hit.typeIs (AS ?_))
 refine AB (wpAny_fieldsOf ho hdt ?_)
 refine(?_:Am _ _ (if (Cm d==Ba)=true then _ else _) _ _ s)
 rw[if_neg (show ¬((Cm d==Ba)=true) from BD)]
 refine AB (AS (AB (wpAny_dictEntries M Z ?_)))
 rw[if_neg (by rw[hsz];simp)]
 refine AB (AS (AB (wpAny_dictEpoch M Z ?_)))
 rw[if_neg (by simp)]
 refine AS ?_
 have hge:es.size<=i:=by rw[hsz];simpa using hx
 have e0:(if (i:Int)<0 then none else es[(i:Int).toNat]?)=none:=by rw[if_neg (CG.mpr (AQ i)),A6,CQ hge]
 dsimp only
 rw[e0]
 refine AB ?_
 first | refine AB (VI hit.typeIs (AS ?_)) | refine AB (eW hit.typeIs (AS ?_))
 refine(?_:Am _ _ (KG (.ref B) 0 .none >>= _) _ _ s)
 refine AB (Dx ho hdt (Ap rfl) ?_)
 exact Ax (UE (A:=A) (E:=E) rfl hd.upd λh' k=>hQ _ λb ob hb e=>k b ob ((B0 _ _ hb.symm).trans e)) (λ_ _ f=>f.elim) λ_ _ e=>e
theorem d8(hd:pq A s.heap M)(hit:s.heap.IsStrIter M "str_ascii_iterator" x t i)(hx:x.cps[i]?=none)(hQ:∀h',JU M s.heap h'->Q none { s with heap:=h' }):Am (Cz prog w) A (J5 (.ref M)) Q E s:=by
 obtain⟨o,Z,hc,B⟩:=id hit
 unfold J5
 refine AB (FL (DE (name:="__next__") hit.typeIs SN
  (Ck SN hit.typeIs F.entry_str_ascii_iterator_next ?_ (F.args_str_ascii_iterator_next_1 _))))
 refine(?_:Am _ _ (fS (.ref M) 0 >>= _) _ _ s)
 refine AB (Df Z B (x:=.str x t) rfl ?_)
 refine(?_:Am _ _ (fS (.ref M) 1 >>= _) _ _ s)
 refine AB (Df Z B (x:=.int i 0) rfl ?_)
 simp only[A6,hx]
 refine AB (G4 (AB (Dx Z B (Ap rfl) (AB (wpAny_letGo ?_)))))
 exact Ax (UE (A:=A) (E:=E) rfl hd.upd λh' k=>hQ _ λb ob hb e=>k b ob ((B0 _ _ hb.symm).trans e)) (λ_ _ f=>f.elim) λ_ _ e=>e
end
end Mine.Internal
namespace Mine.Internal
open PySem
theorem Ht:D6 (x::a) (y::b)=true↔x<y\/x=y/\D6 a b=true:=by
 show (if x=y then D6 a b else decide (x<y))=true↔_
 by_cases e:x=y
 .rw[if_pos e];exact⟨λh=>.inr ⟨e,h⟩,λh=>h.elim (λl=>absurd e (E9 l)) (·.2)⟩
 .rw[if_neg e];exact⟨λh=>.inl (of_decide_eq_true h),λh=>h.elim (λl=>decide_eq_true l) λk=>absurd k.1 e⟩
theorem Of(a:List Int):∀b:List Int,D6 a b=true->D6 b a=false:=by
 induction a with
 |nil=>intro b h;cases b with
  |nil=>rfl
  |cons _ _=>rfl
 |cons x a B=>intro b h;cases b with
  |nil=>exact absurd h BD
  |cons y b=>
   have h:=Ht.mp h
   exact BQ.mpr λk=>(Ht.mp k).elim (λl=>h.elim (λF=>JV _ (Ee l F)) λe=>E9 l e.1.symm)
    λe=>h.elim (λl=>E9 l e.1.symm) λp=>BD ((B b p.2).symm.trans e.2)
theorem dC(a:List Int):D6 a a=false:=BQ.mpr λh=>BD ((Of a a h).symm.trans h)
theorem cO(a:List Int):∀b c:List Int,D6 a c=true->D6 a b=true\/D6 b c=true:=by
 induction a with
 |nil=>intro b c h;cases b with
  |nil=>exact .inr h
  |cons _ _=>exact .inl rfl
 |cons x a B=>intro b c h;cases c with
  |nil=>exact absurd h BD
  |cons z c=>cases b with
   |nil=>exact .inr rfl
   |cons y b=>
    have h:=Ht.mp h
    exact(Int.lt_trichotomy x y).elim (λl=>.inl (Ht.mpr (.inl l))) λk=>k.elim
     (λe=>h.elim (λl=>.inr (Ht.mpr (.inl (e▸l)))) λk=>(B b c k.2).imp (λp=>Ht.mpr (.inr ⟨e,p⟩)) λp=>Ht.mpr (.inr ⟨e▸k.1,p⟩))
     λl=>.inr (Ht.mpr (.inl (h.elim (Ee l) λk=>k.1▸l)))
end Mine.Internal
namespace Mine.Internal
open PySem PySem.Calls
set_option genSizeOf false
set_option genInjectivity false
set_option genCtorIdx false
structure Bs where
 heap:Heap
 prog:DU
 w:IW
noncomputable abbrev Bs.get?(b:Bs)(a:Addr):Option Obj:=b.heap.get? a
mutual
def Rel(h:Heap)(φ:List Addr):V->AV->Prop
 | .undef,_=>False
 | .none,v=>v=.none
 | .bool b,v=>v=.bool b
 | .int i,v=>∃t,v=.int i t
 | .str s,v=>∃t,v=.str s t
 | .tup vs,v=>∃a items n,v=.ref a/\h.get? a=some { cls:=.type "tuple", data:=.seq items n }/\CF h φ vs items.toList
 | .ref n,v=>∃a,v=.ref a/\φ[n]?=some a
def CF(h:Heap)(φ:List Addr):List V->List AV->Prop
 | [],[]=>True
 |V::Vs,v::vs=>Rel h φ V v/\CF h φ Vs vs
 |_,_=>False
end
theorem Fq:Rel h φ (.int i) (.int i t):=⟨t,rfl⟩
theorem FQ:Rel h φ (.str x) (.str x t):=⟨t,rfl⟩
theorem H7:Rel h φ (.bool b) (.bool b):=rfl
theorem Kv:Rel h φ .none .none:=rfl
def Mz(h:Heap)(φ:List Addr)(kvs:List (Str×V))(us:List (Str×AV)):Prop:=us.map (·.1)=kvs.map (·.1)/\CF h φ (kvs.map (·.2)) (us.map (·.2))
def RJ(h:Heap)(φ:List Addr):Option V->Option AV->Prop
 |some V,ov=>∃v,ov=some v/\Rel h φ V v
 |none,ov=>ov=none
def O1(h₀:Bs)(h:Heap)(φ:List Addr):O->Addr->Prop
 | .list vs,a=>∃items n,h.get? a=some { cls:=.type "list", data:=.seq items n }/\CF h φ vs items.toList/\vs.length<=Ih
 | .tab P,a=>a=P/\h.get? a=some { cls:=.none,data:=.fields #[] }
 | .gone,a=>∃us,h.get? a=some { cls:=.none,data:=.fields us }
 | .dict ep kvs,a=>∃us,h.DictAt (strKind h₀.prog h₀.w) a us ep/\Mz h φ kvs us/\kvs.length<=Ih/\(a==Zb)=false
 | .inst C m,a=>∃dx,φ[m]?=some dx/\dx≠a/\∃ob,h.get? a=some ob/\ob.cls=.ref C/\(∀c,ob.data≠.cls c)/\ob.dict=some dx
 | .ns fs,a=>∃m,h.Ns1 a m/\∀y,RJ h φ (fs.lookup y) (m y)
 | .row P ln col m,a=>a=P/\∃c,φ[m]?=some c/\h.get? a=some { cls:=.none,data:=.fields #[Cc ln,Cc col,.ref c] }
 | .code q,a=>∃o vs t,h.get? a=some o/\o.data=.fields vs/\vs[1]?=some (.str q t)
structure Sw(h₀:Bs)(h:Heap)(φ:List Addr)(σ:Af):Prop where
 keep:∀b o,h₀.get? b=some o->h.get? b=some o
 len:φ.length=σ.length
 nodup:φ.Nodup
 new:∀(n:Nat) a,φ[n+1]?=some a->h₀.get? a=none
 obj:∀(n:Nat) o,σ[n]?=some o->∃a,φ[n]?=some a/\O1 h₀ h φ o a
def Lk(o o':Obj):Prop:=∃sl,o'={ o with slots:=sl }/\((∀es ep,o.data≠.dict es ep)->sl=o.slots)
theorem Lk.refl(o:Obj):Lk o o:=⟨o.slots,rfl,λ_=>rfl⟩
theorem Lk.trans(x:Lk o o1)(y:Lk o1 o2):Lk o o2:=AW x λZ e k=>AW y λB F M=>by subst e F;exact⟨B,rfl,λn=>(M n).trans (k n)⟩
theorem Lk.same(x:Lk o B)(n:∀es ep,o.data≠.dict es ep):B=o:=by refine AW x λ_ e k=>?_;exact e.trans (by rw[k n])
theorem Lk.data(x:Lk o B):B.data=o.data:=by refine AW x λ_ e _=>?_;exact by rw[e]
def xH(φ:List Addr)(own:Addr->Prop)(h h':Heap):Prop:=∀b o,b∉φ->¬own b->h.get? b=some o->∃o',h'.get? b=some o'/\Lk o o'
def Bv:Addr->Prop:=λ_=>False
def FC(h:Heap)(a:Addr):Prop:=∀items n,h.get? a≠some { cls:=.type "tuple", data:=.seq items n }
theorem Gw(e:h.get? a=some o)(k:o.cls≠.type "tuple"):FC h a:=λ_ _ B=>by
 rw[e] at B;cases B;exact k rfl
theorem Th(e:h.get? a=some o)(k:∀items n,o.data≠.seq items n):FC h a:=λ_ _ B=>by
 rw[e] at B;cases B;exact k _ _ rfl
theorem CF.nil:CF h φ [] []:=trivial
theorem CF.length{Vs:List V}:∀{vs:List AV},CF h φ Vs vs->Vs.length=vs.length:=by
 induction Vs with
 |nil=>intro vs r;cases vs with
  |nil=>rfl
  |cons _ _=>exact r.elim
 |cons V Vs B=>intro vs r;cases vs with
  |nil=>exact r.elim
  |cons v vs=>exact congrArg (·+1) (B r.2)
theorem CF.one{V:V}(r:CF h φ [V] vs):∃v,vs=[v]/\Rel h φ V v:=by
 cases vs with
 |nil=>exact r.elim
 |cons v vs=>cases vs with
  |nil=>exact⟨v,rfl,r.1⟩
  |cons _ _=>exact r.2.elim
theorem CF.get{Vs:List V}:∀{vs:List AV} {i:Nat} {V:V},CF h φ Vs vs->Vs[i]?=some V->∃v,vs[i]?=some v/\Rel h φ V v:=by
 induction Vs with
 |nil=>intro vs i V _ e;exact absurd e.symm (AY V)
 |cons V Vs B=>intro vs i W r e;cases vs with
  |nil=>exact r.elim
  |cons v vs=>cases i with
   |zero=>exact⟨v,rfl,AG e▸r.1⟩
   |succ i=>exact B (i:=i) r.2 e
theorem CF.append{Vs B:List V}:∀{vs:List AV},CF h φ Vs vs->CF h φ B ws->CF h φ (Vs++B) (vs++ws):=by
 induction Vs with
 |nil=>intro vs r y;cases vs with
  |nil=>exact y
  |cons _ _=>exact r.elim
 |cons V Vs F=>intro vs r y;cases vs with
  |nil=>exact r.elim
  |cons v vs=>exact⟨r.1,F r.2 y⟩
section
variable {h h':Heap} {φ φ':List Addr}
theorem IF{F:Type}{l B:List F}(h:l<+:B){n:Nat}{a:F}(e:l[n]?=some a):B[n]?=some a:=
 List.IsPrefix.getElem?_eq_some h e
where
 List.IsPrefix.getElem?_eq_some {l B:List F} (h:l<+:B) {n:Nat} {a:F} (e:l[n]?=some a):B[n]?=some a:=by
  refine Cq h λt M=>?_;subst M
  rw[A3 (AP.mp e).1];exact e
theorem Rel.keep(k:∀b items n,h.get? b=some { cls:=.type "tuple", data:=.seq items n }->h'.get? b=some { cls:=.type "tuple", data:=.seq items n })(hp:φ<+:φ')(V:V):∀(v:AV),Rel h φ V v->Rel h' φ' V v:=
 Mine.Internal.V.rec (motive_1:=λV=>∀v,Rel h φ V v->Rel h' φ' V v) (motive_2:=λVs=>∀vs,CF h φ Vs vs->CF h' φ' Vs vs) (λ_ x=>x) (λ_ x=>x) (λ_ _ x=>x) (λ_ _ x=>x) (λ_ _ x=>x)
  (λ_ B _ x=>CW x λa items n e g r=>⟨a,items,n,e,k a items n g,B _ r⟩) (λ_ _ x=>AW x λa e g=>⟨a,e,IF hp g⟩)
  (λvs x=>by cases vs <;> exact x) (λ_ _ M F vs x=>vs.casesOn (motive:=λvs=>CF h φ (_::_) vs->CF h' φ' (_::_) vs) (λx=>x) (λv vs x=>⟨M v x.1,F vs x.2⟩) x) V
theorem CF.keep(k:∀b items n,h.get? b=some { cls:=.type "tuple", data:=.seq items n }->h'.get? b=some { cls:=.type "tuple", data:=.seq items n })(hp:φ<+:φ')(Vs:List V):∀(vs:List AV),CF h φ Vs vs->CF h' φ' Vs vs:=by
 induction Vs with
 |nil=>exact λvs x=>by cases vs <;> exact x
 |cons V Vs B=>
  intro vs x
  cases vs with
  |nil=>exact x
  |cons v vs=>exact⟨Rel.keep k hp V v x.1,B vs x.2⟩
end
theorem Mz.keep(hp:φ<+:φ')(B:∀b items n,h.get? b=some { cls:=.type "tuple", data:=.seq items n }->h'.get? b=some { cls:=.type "tuple", data:=.seq items n })(x:Mz h φ kvs us):Mz h' φ' kvs us:=⟨x.1,CF.keep B hp _ _ x.2⟩
theorem RJ.keep(hp:φ<+:φ')(B:∀b items n,h.get? b=some { cls:=.type "tuple", data:=.seq items n }->h'.get? b=some { cls:=.type "tuple", data:=.seq items n })(x:RJ h φ o F):RJ h' φ' o F:=by
 cases o with
 |some V=>exact AW x λv e r=>⟨v,e,Rel.keep B hp _ _ r⟩
 |none=>exact x
theorem O1.keep(hp:φ<+:φ')(F:∀b items n,h.get? b=some { cls:=.type "tuple", data:=.seq items n }->h'.get? b=some { cls:=.type "tuple", data:=.seq items n })(k:∀ob,h.get? a=some ob->h'.get? a=some ob)(x:O1 M h φ o a):O1 M h' φ' o a:=by
 cases o with
 |list _=>refine ES x λitems n e r z=>?_;exact⟨items,n,k _ e,CF.keep F hp _ _ r,z⟩
 |tab _=>exact⟨x.1,k _ x.2⟩
 |gone=>refine Cq x λus e=>?_;exact⟨us,k _ e⟩
 |dict _ _=>refine DX x λus B r z=>EX B λo es e q=>?_;exact⟨us,⟨o,es,k _ e,q⟩,r.keep hp F,z⟩
 |inst _ _=>refine AW x λdx e zh=>FH zh λn ob g q=>?_;exact⟨dx,IF hp e,n,ob,k _ g,q⟩
 |ns _=>refine AW x λm n r=>?_;exact⟨m,n.at k,λy=>(r y).keep hp F⟩
 |row _ _ _ _=>refine FH x λe c e1 Z=>?_;exact⟨e,c,IF hp e1,k _ Z⟩
 |code _=>refine KU x λo vs t e r=>?_;exact⟨o,vs,t,k _ e,r⟩
theorem Gs:SG "list"≠SG "tuple":=by simp
inductive gE(h:Heap)(a:Addr):Prop
 |mk (ob:Obj):h.get? a=some ob->(∀items n,ob≠{ cls:=.type "tuple", data:=.seq items n })->(∀us n,ob.data=.fields us->ob.cls=.type n->∃x t,us[1]?=some (.str x t))->gE h a
theorem O1.there(x:O1 h0 h φ o a):gE h a:=by
 cases o with
 |list _=>refine EX x λit n e r=>?_;exact .mk _ e (λu v q=>Gs (congrArg Zc q)) λu v q=>by injection q
 |tab _=>exact .mk _ x.2 (λu v q=>by injection congrArg Zc q) λu v _ q=>by injection q
 |gone=>exact Cq x λus e=>.mk _ e (λu v q=>by injection congrArg Zc q) λu v _ q=>by injection q
 |dict _ _=>exact AW x λus B r=>EW B λo es e c d q=>.mk _ e (λu v q=>by injection d.symm.trans (congrArg Iv q)) λu v F=>by injection d.symm.trans F
 |inst _ _=>exact DX x λdx Z n zh=>DX zh λob e q r=>.mk _ e (λu v M=>by injection q.symm.trans (congrArg Zc M)) λu v w M=>by injection q.symm.trans M
 |ns _=>exact AW x λm B r=>CW B λo es ep e d q=>.mk _ e (λu v q=>by injection d.symm.trans (congrArg Iv q)) λu v F=>by injection d.symm.trans F
 |row _ _ _ _=>exact FH x λZ c e1 e=>.mk _ e (λu v q=>by injection congrArg Zc q) λu v _ q=>by injection q
 |code _=>exact CW x λo vs t e d q=>.mk _ e (λu v q=>by injection d.symm.trans (congrArg Iv q)) λus n F z=>⟨_,t,Data.fields.inj (d.symm.trans F)▸q⟩
theorem F0{h:Heap}{a:Addr}(l:h.objs.size<=a):h.get? a=none:=by
 cases e:h.get? a with
 |none=>rfl
 |some o=>exact absurd (B7 e) (B1.mpr l)
theorem Sw.at(x:Sw B h φ σ)(m:a∈φ):gE h a:=by
 obtain⟨n,hn,rfl⟩:=JT.mp m
 have hs:n<σ.length:=x.len▸hn
 refine AW (x.obj n σ[n] (AO hs)) λa e r=>?_
 rw[AO hn] at e
 exact AG e▸r.there
theorem Sw.Gw(x:Sw F h φ σ)(m:a∈φ):FC h a:=
 (x.at m).casesOn λ_ e k _=>λitems n B=>k items n (AG (e.symm.trans B))
theorem Sw.out(x:Sw B h φ σ)(n:h.get? a=none):a∉φ:=λm=>
 (x.at m).casesOn λ_ e _ _=>TH (n.symm.trans e)
theorem Sw.DL(x:Sw B h φ σ)(n:h.get? a=none):B.get? a=none:=by
 cases e:B.get? a with
 |none=>rfl
 |some o=>have:=x.keep a o e;rw[n] at this;exact absurd this.symm (AY _)
theorem Sw.keeps{own:Addr->Prop}(x:Sw h₀ h φ σ)(k:∀b o,¬own b->h.get? b=some o->h'.get? b=some o)(B:∀a,own a->FC h a/\a∉φ/\h₀.get? a=none):Sw h₀ h' φ σ where
 keep b o e:=k b o (λm=>by rw[(B b m).2.2] at e;cases e) (x.keep b o e)
 len:=x.len
 nodup:=x.nodup
 new:=x.new
 obj n o e:=by refine AW (x.obj n o e) λa g r=>?_;exact⟨a,g,r.keep (A5 _) (λb items n e=>k b _ (λm=>(B b m).1 items n e) e) λob=>k a ob λm=>(B a m).2.1 (Ae g)⟩
theorem He{B:Type}{l:List B}{a b:B}(h:b∈l++[a]):b∈l\/b=a:=(An.mp h).imp id AM.mp
theorem Sw.add(x:Sw h₀ h φ σ)(hn:a∉φ)(h0:h₀.get? a=none)(r:O1 h₀ h φ o a):Sw h₀ h (φ++[a]) (σ++[o]) where
 keep:=x.keep
 len:=by rw[AI,AI,x.len];rfl
 nodup:=G5.mpr ⟨x.nodup,Ds.mpr ⟨BU,GF⟩,λb M c hc e=>hn (AM.mp hc▸e▸M)⟩
 new m b M:=by
  refine A7 (Fp (m+1) φ.length) (λF=>?_) (λB=>?_)
  .rw[A3 F] at M;exact x.new m b M
  .rw[Ak B] at M
   exact AM.mp (Ae M)▸h0
 obj n ob e:=by
  have Z:∀{ob b},O1 h₀ h φ ob b->O1 h₀ h (φ++[a]) ob b:=λr=>r.keep (CU _ _) (λ_ _ _ e=>e) λ_ e=>e
  refine A7 (Fp n σ.length) (λF=>?_) (λB=>?_)
  .rw[A3 F] at e
   refine AW (x.obj n ob e) λb g r=>?_
   exact⟨b,IF (CU _ _) g,Z r⟩
  .rw[Ak B] at e
   have:n=φ.length:=by
    have:=(AP.mp e).1
    rw[x.len];exact BC (by rw[CV] at this;exact Nat.le_of_sub_eq_zero (Nat.lt_one_iff.mp this)) B
   refine⟨a,by rw[this];exact Co,Z ?_⟩
   exact AM.mp (Ae e)▸r
structure Cf(h₀:Bs) where
 s:Aj
 φ:List Addr
 σ:Af
 sim:Sw h₀ s.heap φ σ
section
variable {h₀:Bs}
structure Ho(own:Addr->Prop)(c c':Cf h₀):Prop where
 only:c'.s.os=c.s.os/\c'.s.gens=c.s.gens
 pre:c.φ<+:c'.φ
 keep:xH c.φ own c.s.heap c'.s.heap
 fresh:∀a∈c'.φ,a∈c.φ\/c.s.heap.get? a=none
structure Di(own:Addr->Prop)(c c':Cf h₀):Prop extends Ho own c c' where
 SE:∀b o,c.s.heap.get? b=some o->∃o',c'.s.heap.get? b=some o'
theorem Di.refl(c:Cf B):Di own c c:=⟨⟨⟨rfl,rfl⟩,A5 _,λ_ o _ _ e=>⟨o,e,.refl o⟩,λ_ m=>.inl m⟩,λ_ o e=>⟨o,e⟩⟩
theorem Di.gone(x:Di own c c')(e:c'.s.heap.get? a=none):c.s.heap.get? a=none:=by
 cases q:c.s.heap.get? a with
 |none=>rfl
 |some o=>refine Cq (x.SE a o q) λF B=>?_;rw[e] at B;exact absurd B.symm (AY _)
theorem Ho.out(x:Ho own c c')(e:c.s.heap.get? a=some o)(n:a∉c.φ):a∉c'.φ:=λm=>(x.fresh a m).elim n λB=>by rw[e] at B;exact absurd B (AY _)
theorem Di.trans(x:Di own c c1)(y:Di own c1 c2):Di own c c2 where
 only:=⟨y.only.1.trans x.only.1,y.only.2.trans x.only.2⟩
 pre:=x.pre.trans y.pre
 keep b o B F e:=by refine AW (x.keep b o B F e) λ_ e1 k1=>?_;exact AW (y.keep b _ (x.out e B) F e1) λo2 e2 k2=>⟨o2,e2,k1.trans k2⟩
 fresh a m:=(y.fresh a m).elim (x.fresh a) λe=>.inr (x.gone e)
 SE b o e:=by refine Cq (x.SE b o e) λZ M=>?_;exact y.SE b Z M
theorem Di.DR(x:Di own c c1)(y:Ho B c1 c2)(h:∀b,B b->c.s.heap.get? b=none):Di own c c2 where
 only:=⟨y.only.1.trans x.only.1,y.only.2.trans x.only.2⟩
 pre:=x.pre.trans y.pre
 keep b o Z h2 e:=by refine AW (x.keep b o Z h2 e) λ_ e1 k1=>?_;exact AW (y.keep b _ (x.out e Z) (λm=>TH ((h b m).symm.trans e)) e1) λM F k2=>⟨M,F,k1.trans k2⟩
 fresh a m:=(y.fresh a m).elim (x.fresh a) λe=>.inr (x.gone e)
 SE b o e:=by refine Cq (x.SE b o e) λo' e'=>?_;exact(Nn (b∈c1.φ)).elim (λm=>(c2.sim.at (y.pre.subset m)).casesOn λob e _ _=>⟨ob,e⟩) λm=>AW (y.keep b o' m (λm=>TH ((h b m).symm.trans e)) e') λM F _=>⟨M,F⟩
theorem Di.NH(x:Di own c c')(h:∀a,own a->B a):Di B c c':=⟨⟨x.only,x.pre,λb o F M=>x.keep b o F λm=>M (h b m),x.fresh⟩,x.SE⟩
theorem Di.any(x:Di Bv c c'):Di own c c':=x.NH λ_ f=>f.elim
noncomputable def Cf.EF(c:Cf h₀)(s:Aj){own:Addr->Prop}(k:∀b o,¬own b->c.s.heap.get? b=some o->s.heap.get? b=some o)(ho:∀a,own a->FC c.s.heap a/\a∉c.φ/\h₀.get? a=none):Cf h₀:=⟨s,c.φ,c.σ,c.sim.keeps k ho⟩
noncomputable def Cf.keep(c:Cf h₀)(s:Aj)(k:∀b o,c.s.heap.get? b=some o->s.heap.get? b=some o):Cf h₀:=c.EF s (own:=Bv) (λb o _ e=>k b o e) λ_ f=>f.elim
theorem Cf.GD{c:Cf h₀}{s:Aj}{own:Addr->Prop}{k:∀b o,¬own b->c.s.heap.get? b=some o->s.heap.get? b=some o}{F:∀a,own a->FC c.s.heap a/\a∉c.φ/\h₀.get? a=none}(only:s.os=c.s.os/\s.gens=c.s.gens)(B:∀b o,own b->c.s.heap.get? b=some o->∃M,s.heap.get? b=some M):Di own c (c.EF s k F):=
 ⟨⟨only,A5 _,λb o _ h e=>⟨o,k b o h e,.refl o⟩,λ_ m=>.inl m⟩,λb o e=>(Nn (own b)).elim (λh=>B b o h e) λh=>⟨o,k b o h e⟩⟩
theorem Cf.Cj{c:Cf h₀}{s:Aj}{k:∀b o,c.s.heap.get? b=some o->s.heap.get? b=some o}(only:s.os=c.s.os/\s.gens=c.s.gens):Di Bv c (c.keep s k):=GD only λ_ _ f=>f.elim
theorem Ho.PZ(x:Ho own c c')(F:b∉c.φ)(M:¬own b)(n:∀es ep,o.data≠.dict es ep)(e:c.s.heap.get? b=some o):c'.s.heap.get? b=some o:=
 by refine AW (x.keep b o F M e) λ_ B k=>?_;exact k.same n▸B
theorem Ho.ba(x:Ho own c c')(F:b∉c.φ)(Z:¬own b)(n:c.s.heap.Ns b m):c'.s.heap.Ns b m:=
 by refine CW n λ_ es ep e d q=>?_;exact AW (x.keep b _ F Z e) λM B k=>⟨M,es,ep,B,k.data.trans d,q⟩
theorem Ho.mP(x:Ho own c c')(B:b∉c.φ)(F:¬own b)(n:c.s.heap.IsCell b v):c'.s.heap.IsCell b v:=
 by refine AW n λ_ e d=>?_;exact⟨_,x.PZ B F (λ_ _ q=>by injection d.symm.trans q) e,d⟩
theorem Rel.own{own:Addr->Prop}{V:V}(r:Rel c.s.heap c.φ V v)(x:Ho own c c')(B:∀a,own a->FC c.s.heap a):Rel c'.s.heap c'.φ V v:=
 Rel.keep (λb items n e=>x.PZ (λm=>c.sim.Gw m items n e) (λm=>B b m items n e) (λ_ _ h=>by injection h) e) x.pre _ _ r
theorem CF.own{own:Addr->Prop}{Vs:List V}(r:CF c.s.heap c.φ Vs vs)(x:Ho own c c')(B:∀a,own a->FC c.s.heap a):CF c'.s.heap c'.φ Vs vs:=
 CF.keep (λb items n e=>x.PZ (λm=>c.sim.Gw m items n e) (λm=>B b m items n e) (λ_ _ h=>by injection h) e) x.pre _ _ r
theorem Rel.step{V:V}(r:Rel c.s.heap c.φ V v)(x:Di Bv c c'):Rel c'.s.heap c'.φ V v:=r.own x.toHo λ_ f=>f.elim
theorem CF.step{Vs:List V}(r:CF c.s.heap c.φ Vs vs)(x:Di Bv c c'):CF c'.s.heap c'.φ Vs vs:=r.own x.toHo λ_ f=>f.elim
theorem Il{F B:Type}{f:F->B}{v:B}{P:B->Prop}(h:∃t,v=f t)(k:∀t,P (f t)):P v:=h.elim λt e=>e▸k t
theorem Cf.list{c:Cf h₀}{n:Nat}{vs:List V}{v:AV}(e:c.σ[n]?=some (.list vs))(r:Rel c.s.heap c.φ (.ref n) v) :
  ∃a items k,v=.ref a/\c.φ[n]?=some a/\IsL c.s.heap a items k/\CF c.s.heap c.φ vs items.toList/\vs.length<=Ih:=
 AW r λ_ ev F=>AW (c.sim.obj n _ e) λZ B ro=>ES ro λitems k g M z=>⟨Z,items,k,ev.trans (congrArg Cm (AG (F.symm.trans B))),B,g,M,z⟩
theorem Cf.listE{c:Cf h₀}{n:Nat}{vs:List V}{v:AV}{P:AV->Prop}(e:c.σ[n]?=some (.list vs))(r:Rel c.s.heap c.φ (.ref n) v)(k:∀a items k,c.φ[n]?=some a->IsL c.s.heap a items k->CF c.s.heap c.φ vs items.toList->vs.length<=Ih->P (.ref a)):P v:=
 FZ (Cf.list e r) λa items j F B M h3 Z=>F▸k a items j B M h3 Z
end
structure Ctx where
 h₀:Bs
 C:Hl
 d:Nat
 
 O5:List Nat
 
 hx:Option Addr
 uI:∀a,hx=some a->nz h₀.heap a
noncomputable abbrev Ctx.prog(K:Ctx):DU:=K.h₀.prog
noncomputable abbrev Ctx.w(K:Ctx):IW:=K.h₀.w
noncomputable abbrev Ctx.M(K:Ctx):Lq:=Cz K.h₀.prog K.h₀.w
structure Loc where
 env:Env
 vs:Vs
 up:List Env
structure L6(K:Ctx)(up:List Env)(A:Bb):Prop where
 hd:A.handled=K.hx.map Cm
 depth:A.depth+3*K.d<902
 units:A.units+12*K.d<9006
 fr:A.frames=some up
theorem L6.pl(R:L6 K up A)(h:K.hx=none):A.handled=none:=R.hd.trans (congrArg (I0 Cm) h)
inductive Exc(h:Heap)(a:Addr)(k:Nat):List Addr->Option Addr->Prop
 |new (oe:Obj) (vs:Array AV) (a0:AV):h.get? a=some oe->oe.cls=.ref k->oe.data=.fields vs->vs[0]?=some a0->vs[1]?=some .none->vs[2]?=some .none->Exc h a k [a] none
 |seen (oe:Obj) (vs:Array AV) (a0:AV) (T:Addr) (oT:Obj) (ts:Array AV) (fl:Option Addr):h.get? a=some oe->oe.cls=.ref k->oe.data=.fields vs->vs[0]?=some a0->vs[1]?=some (.ref T)->T≠a->
   h.get? T=some oT->oT.data=.fields ts->ts[3]?=some (fl.elim .none λf=>Cc f)->vs[2]?=some .none->Exc h a k [a,T] fl
theorem Exc.fields(x:Exc h a k F fl):∀b∈F,∃o us,h.get? b=some o/\o.data=.fields us:=by
 cases x with
 |new M vs a0 e _ d=>intro b m;have B:=AM.mp m;subst B;exact⟨_,_,e,d⟩
 |seen M vs a0 T oT ts fl e _ d _ _ _ Z dT=>
  intro b m
  rcases Ao.mp m with rfl | m
  .exact⟨_,_,e,d⟩
  .have B:=AM.mp m;subst B;exact⟨_,_,Z,dT⟩
theorem Exc.mem(x:Exc h a k B fl):a∈B:=by cases x <;> exact AL
theorem bA{K:Ctx}{A:Bb}(hd:A.handled=K.hx.map Cm){c:Cf K.h₀}{I:Addr}(hI:K.h₀.get? I=none):pq A c.s.heap I:=λv e=>by
 rw[hd] at e
 refine AW (Av.mp e) λa M ev=>?_
 refine ES (K.uI a M) λo vs B Z F=>?_
 exact⟨a,ev.symm,(λq=>TH ((q▸hI).symm.trans B)),o,vs,c.sim.keep a o B,Z,F⟩
section
variable {K:Ctx}
inductive PV(c:Cf K.h₀)(Q:BS)(v:AV):Aj->Prop
 |mk (c':Cf K.h₀) (V:V):Di Bv c c'->Rel c'.s.heap c'.φ V v->Q V c'.σ->PV c Q v c'.s
inductive we(c:Cf K.h₀)(Q:List V->Af->Prop)(vs:List AV):Aj->Prop
 |mk (c':Cf K.h₀) (Vs:List V):Di Bv c c'->CF c'.s.heap c'.φ Vs vs->Q Vs c'.σ->we c Q vs c'.s
inductive PB(c:Cf K.h₀)(Q:Bool->Af->Prop)(b:Bool):Aj->Prop
 |mk (c':Cf K.h₀):Di Bv c c'->Q b c'.σ->PB c Q b c'.s
inductive PX(c:Cf K.h₀)(X:CP):AV->Aj->Prop
 |mk (c':Cf K.h₀) (k:Nat) (a:Addr) (fp:List Addr):(∀b∈fp,c.s.heap.get? b=none/\b∉c'.φ)->k∈K.O5->Di Bv c c'->Exc c'.s.heap a k fp none->X k c'.σ->PX c X (.ref a) c'.s
theorem PX.lift(x:Di Bv c0 c)(y:PX c X e s'):PX c0 X e s':=y.casesOn λc' k a B n F st M q=>.mk c' k a B (λb m=>⟨x.gone (n b m).1,(n b m).2⟩) F (x.trans st) M q
theorem PX.no(h:∀k σ,¬X k σ):¬PX c X e s':=λy=>y.casesOn λ_ _ _ _ _ _ _ _ q=>h _ _ q
variable {A:Bb} {c₀ c:Cf K.h₀} {X:CP}
theorem seq(st:Di Bv c0 c)(h:Am K.M A m (PV c Q) (PX c X) c.s)(k:∀(c1:Cf K.h₀) (V:V) (v:AV),Di Bv c0 c1->Di Bv c c1->Rel c1.s.heap c1.φ V v->Q V c1.σ->P v c1.s):Am K.M A m P (PX c0 X) c.s:=
 Ax h (λv _ y=>y.casesOn λc1 V s1 r q=>k c1 V v (st.trans s1) s1 r q) λ_ _ x=>x.lift st
theorem Vl(st:Di Bv c0 c)(h:Am K.M A m (we c Q) (PX c X) c.s)(k:∀(c1:Cf K.h₀) (Vs:List V) (vs:List AV),Di Bv c0 c1->Di Bv c c1->CF c1.s.heap c1.φ Vs vs->Q Vs c1.σ->P vs c1.s):Am K.M A m P (PX c0 X) c.s:=
 Ax h (λv _ y=>y.casesOn λc1 V s1 r q=>k c1 V v (st.trans s1) s1 r q) λ_ _ x=>x.lift st
theorem jZ(st:Di Bv c0 c)(h:Am K.M A m (PB c Q) (PX c X) c.s)(k:∀(c1:Cf K.h₀) (b:Bool),Di Bv c0 c1->Di Bv c c1->Q b c1.σ->P b c1.s):Am K.M A m P (PX c0 X) c.s:=
 Ax h (λb _ y=>y.casesOn λc1 s1 q=>k c1 b (st.trans s1) s1 q) λ_ _ x=>x.lift st
theorem fin(st:Di Bv c0 c)(h:Am K.M A m (PV c Q) (PX c X) c.s):Am K.M A m (PV c0 Q) (PX c0 X) c.s:=
 seq st h λc1 V _ s1 _ r q=>.mk c1 V s1 r q
theorem iO(st:Di Bv c0 c)(h:Am K.M A m (PB c Q) (PX c X) c.s):Am K.M A m (PB c0 Q) (PX c0 X) c.s:=
 jZ st h λc1 _ s1 _ q=>.mk c1 s1 q
theorem PV.lift(st:Di Bv c0 c)(x:PV c Q v s'):PV c0 Q v s':=x.casesOn λc1 V s1 r q=>.mk c1 V (st.trans s1) r q
theorem PB.lift(st:Di Bv c0 c)(x:PB c Q b s'):PB c0 Q b s':=x.casesOn λc1 s1 q=>.mk c1 (st.trans s1) q
noncomputable abbrev Cf.toks(c:Cf K.h₀)(tk:Nat):Cf K.h₀:=c.keep { c.s with toks:=tk } λ_ _ e=>e
theorem PV.plain{Q:BS}{V:V}{v:AV}{tk:Nat}(r:Rel c.s.heap c.φ V v)(q:Q V c.σ):PV c Q v { c.s with toks:=tk }:=PV.mk (c.toks tk) V (Cf.Cj ⟨rfl,rfl⟩) r q
theorem PV.same{V:V}(r:Rel c.s.heap c.φ V v)(q:Q V c.σ):PV c Q v c.s:=.mk c V (.refl c) r q
theorem PV.kept{Q:BS}{V:V}{v:AV}{h':Heap}{tk:Nat}(k:∀b o,c.s.heap.get? b=some o->h'.get? b=some o)(r:Rel h' c.φ V v)(q:Q V c.σ):PV c Q v { c.s with heap:=h',toks:=tk }:=
 PV.mk (c.keep { c.s with heap:=h',toks:=tk } k) V (Cf.Cj ⟨rfl,rfl⟩) r q
theorem gF{h h':Heap}(k:∀b o,h.get? b=some o->h'.get? b=some o):∀b items n,h.get? b=some { cls:=.type "tuple", data:=.seq items n }->h'.get? b=some { cls:=.type "tuple", data:=.seq items n }:=λb _ _ e=>k b _ e
noncomputable def Cf.add {h₀ : Bs} (c : Cf h₀) {o : O} {a : Addr} {h' : Heap} {tk : Nat} (k : ∀ b ob, c.s.heap.get? b = some ob → h'.get? b = some ob) (n : c.s.heap.get? a = none) (r : O1 h₀ h' c.φ o a) : Cf h₀ :=
  ⟨{ c.s with heap := h', toks := tk }, c.φ ++ [a], c.σ ++ [o], (c.keep { c.s with heap := h', toks := tk } k).sim.add (c.sim.out n) (c.sim.DL n) r⟩
theorem PV.new{tk:Nat}(k:∀b ob,c.s.heap.get? b=some ob->h'.get? b=some ob)(n:c.s.heap.get? a=none)(r:O1 K.h₀ h' c.φ o a)(q:Q (.ref c.σ.length) (c.σ++[o])) :
  PV c Q (.ref a) { c.s with heap:=h',toks:=tk }:=
 PV.mk (c.add k n r) (.ref c.σ.length)
  ⟨⟨⟨rfl,rfl⟩,CU _ _,λb o _ _ e=>⟨o,k b o e,.refl o⟩,λ_ m=>(He m).imp id λe=>(congrArg c.s.heap.get? e).trans n⟩,λb o e=>⟨o,k b o e⟩⟩ ⟨a,rfl,by rw[<- c.sim.len];exact Co⟩ q
theorem PV.list{Q:BS}{Vs:List V}{items:Array AV}{a:Addr}{h':Heap}{tk n:Nat}(r:CF c.s.heap c.φ Vs items.toList)(B:Vs.length<=Ih)(F:c.s.heap.get? a=none)(k:∀b ob,c.s.heap.get? b=some ob->h'.get? b=some ob)(e:h'.get? a=some { cls:=.type "list", data:=.seq items n })(q:Q (.ref c.σ.length) (c.σ++[.list Vs])):PV c Q (.ref a) { c.s with heap:=h',toks:=tk }:=
 PV.new (o:=.list Vs) k F ⟨items,n,e,CF.keep (gF k) (A5 _) _ _ r,B⟩ q
theorem PV.mL{Q:BS}{Vs:List V}{items:List AV}(r:CF c.s.heap c.φ Vs items)(B:Vs.length<=Ih)(q:Q (.ref c.σ.length) (c.σ++[.list Vs])) :
  PV c Q (.ref c.s.heap.objs.size) { c.s with heap:=c.s.heap.push { cls:=.type "list", data:=.seq items.toArray 0 } }:=
 PV.list (tk:=c.s.toks) r B (F0 (Az _)) (λ_ _ e=>AN _ e) (Aw _ rfl) q
theorem PV.tup{Q:BS}{Vs:List V}{items:Array AV}{a:Addr}{h':Heap}{tk n:Nat}(r:CF c.s.heap c.φ Vs items.toList)(k:∀b ob,c.s.heap.get? b=some ob->h'.get? b=some ob)(e:h'.get? a=some { cls:=.type "tuple", data:=.seq items n })(q:Q (.tup Vs) c.σ):PV c Q (.ref a) { c.s with heap:=h',toks:=tk }:=
 PV.kept (V:=.tup Vs) k ⟨a,items,n,rfl,e,CF.keep (gF k) (A5 _) _ _ r⟩ q
theorem PV.rB{Vs:List V}(r:CF c.s.heap c.φ Vs items)(q:Q (.tup Vs) c.σ) :
  PV c Q (.ref c.s.heap.objs.size) { c.s with heap:=c.s.heap.push { cls:=.type "tuple", data:=.seq items.toArray 0 } }:=
 PV.tup (tk:=c.s.toks) r (λ_ _ e=>AN _ e) (Aw _ rfl) q
end
def GL{h₀:Bs}(c:Cf h₀)(ρ:List V)(i:Nat)(ov:Option AV):Prop:=∀V,ρ[i]?=some V->V≠.undef->∃v,ov=some v/\Rel c.s.heap c.φ V v
inductive ur{h₀:Bs}(c:Cf h₀)(L:Loc)(ρ:List V):Prop
 |mk (m:Str->Option AV):c.s.heap.Ns L.env.locals m->(∀x i,L.vs.lookup x=some i->L.env.kindOf x=some .local->GL c ρ i (m x))->ur c L ρ
inductive ZF{h₀:Bs}(c:Cf h₀)(L:Loc)(ρ:List V)(x:Str)(i:Nat):Prop
 |mk (a:Addr) (ov:Option AV):L.env.cells.lookup x=some a->a∉c.φ->h₀.get? a=none->c.s.heap.IsCell a ov->GL c ρ i ov->ZF c L ρ x i
def LJ{h₀:Bs}(c:Cf h₀)(e:Env):Prop:=e.scope.kind≠.module/\∃f m,e.frame=some f/\h₀.get? f=none/\f∉c.φ/\c.s.heap.Ns f m
structure Fr{h₀:Bs}(c:Cf h₀)(L:Loc)(ρ:List V):Prop where
 fn:L.env.scope.kind=.function
 glob:L.env.globals=De
 blt:L.env.builtins=LV
 IP:h₀.get? L.env.locals=none
 G3:L.env.locals∉c.φ
 inj:∀x y i,L.vs.lookup x=some i->L.vs.lookup y=some i->x=y
 ns:ur c L ρ
 cell:∀x i,L.vs.lookup x=some i->L.env.kindOf x=some .cell\/L.env.kindOf x=some .free->ZF c L ρ x i
 GO:∀x y i j a,L.vs.lookup x=some i->L.vs.lookup y=some j->L.env.cells.lookup x=some a->L.env.cells.lookup y=some a->x=y
 up:∀e∈L.up,LJ c e
def Loc.own(L:Loc):Addr->Prop:=λa=>a=L.env.locals\/∃x i,L.vs.lookup x=some i/\L.env.kindOf x=some .cell/\L.env.cells.lookup x=some a
section
variable {h₀:Bs} {c c':Cf h₀} {L:Loc} {ρ:List V}
theorem IA{h:Heap}{a:Addr}{m:Str->Option AV}(n:h.Ns a m):∃o,h.get? a=some o/\∃es ep,o.data=.dict es ep:=by refine CW n λo es ep e d _=>?_;exact⟨o,e,es,ep,d⟩
theorem Px{h h':Heap}{a:Addr}{m:Str->Option AV}(n:h.Ns a m)(k:∀o,h.get? a=some o->h'.get? a=some o):h'.Ns a m:=by refine KU n λo es ep e d=>?_;exact⟨o,es,ep,k o e,d⟩
theorem Ox{h h':Heap}{a:Addr}{v:Option AV}(n:h.IsCell a v)(k:∀o,h.get? a=some o->h'.get? a=some o):h'.IsCell a v:=by refine AW n λo e d=>?_;exact⟨o,k o e,d⟩
theorem GL.own{own:Addr->Prop}{i:Nat}(x:GL c ρ i F)(st:Ho own c c')(hn:∀a,own a->FC c.s.heap a):GL c' ρ i F:=λV B M=>AW (x V B M) λv e r=>⟨v,e,r.own st hn⟩
theorem LJ.keep{own:Addr->Prop}{e:Env}(st:Ho own c c')(M:∀f m,c.s.heap.Ns f m->e.frame=some f->¬own f)(h:LJ c e):LJ c' e:=⟨h.1,EW h.2 λf m F Z B n=>⟨f,m,F,Z,AW (IA n) λ_ e _=>st.out e B,st.ba B (M f m n F) n⟩⟩
theorem Fr.keep{own:Addr->Prop}(F:Fr c L ρ)(st:Ho own c c')(hn:∀a,own a->FC c.s.heap a)(hl:∀f m,c.s.heap.Ns f m->f=L.env.locals\/(∃e∈L.up,e.frame=some f)->¬own f)(hc:∀a B,c.s.heap.IsCell a B->¬own a):Fr c' L ρ where
 fn:=F.fn
 glob:=F.glob
 blt:=F.blt
 IP:=F.IP
 G3:=F.ns.casesOn λ_ n _=>AW (IA n) λ_ e _=>st.out e F.G3
 inj:=F.inj
 ns:=F.ns.casesOn λm n q=>.mk m (st.ba F.G3 (hl _ _ n (.inl rfl)) n) λx i M h2=>(q x i M h2).own st hn
 cell x i M h2:=(F.cell x i M h2).casesOn λa B e o n Z r=>.mk a B e (AW Z λ_ e' _=>st.out e' o) n (st.mP o (hc a B Z) Z) (r.own st hn)
 GO:=F.GO
 up e m:=(F.up e m).keep st λf m' n e1=>hl f m' n (.inr ⟨e,m,e1⟩)
theorem Fr.step(F:Fr c L ρ)(st:Di Bv c c'):Fr c' L ρ:=F.keep st.toHo (λ_ f=>f.elim) (λ_ _ _ _ f=>f) λ_ _ _ f=>f
theorem I5{h:Heap}{a:Addr}{m:Str->Option AV}(n:h.Ns a m):FC h a:=by refine KY (IA n) λ_ e _ _ d=>?_;exact Th e λ_ _ B=>by injection d.symm.trans B
theorem QX(n:h.IsCell a v):FC h a:=by refine AW n λ_ e d=>?_;exact Th e λ_ _ B=>by injection d.symm.trans B
theorem Fr.Gw(F:Fr c L ρ)(x:L.own a):FC c.s.heap a:=
 x.elim (λh=>h▸F.ns.casesOn λ_ n _=>I5 n) λh=>ES h λx i Z B e=>(F.cell x i Z (.inl B)).casesOn λ_ _ e1 _ _ M _=>AG (e1.symm.trans e)▸QX M
theorem GL.undef(x:GL c (ρ.set i v) j M):GL c (ρ.set i .undef) j M:=λV h F=>x V (by
  by_cases B:i=j
  .subst B
   refine absurd ?_ F
   rw[Ib (by rw[<- Dt];exact(AP.mp h).1)] at h
   exact(AG h).symm
  .rw[JW B] at h ⊢;exact h) F
theorem Fr.undef(F:Fr c L (ρ.set i v)):Fr c L (ρ.set i .undef) where
 fn:=F.fn
 glob:=F.glob
 blt:=F.blt
 IP:=F.IP
 G3:=F.G3
 inj:=F.inj
 ns:=F.ns.casesOn λm n q=>.mk m n λx j B M=>(q x j B M).undef
 cell x j B M:=(F.cell x j B M).casesOn λa Z e o n ic r=>.mk a Z e o n ic r.undef
 GO:=F.GO
 up:=F.up
end
end Mine.Internal
namespace Mine.Internal
open PySem PySem.Calls
section
variable (K:Ctx) (L:Loc)
def FE(e:Expr)(a:Ex):Prop:=
 ∀(A:Bb) (c:Cf K.h₀) (ρ:List V) (Q:BS) (X:CP),L6 K L.up A->Fr c L ρ->a K.C ρ c.σ Q X->Am K.M A (eval e L.env) (PV c Q) (PX c X) c.s
def Wn(es:List Expr)(as:List Ex):Prop:=
 ∀(A:Bb) (c:Cf K.h₀) (ρ:List V) (Q:List V->Af->Prop) (X:CP) (pos:Pos),L6 K L.up A->Fr c L ρ->bM as K.C ρ c.σ Q X->
  Am K.M A (m7 (IS pos (Ef es L.env))) (we c λvs σ=>vs.length=es.length/\Q vs σ) (PX c X) c.s
def uT(es:List Expr)(as:List Ex):Prop:=
 ∀(A:Bb) (c:Cf K.h₀) (ρ:List V) (Q:BS) (X:CP) (pos:Pos) (op:BoolOp),L6 K L.up A->Fr c L ρ->KC (op==.And) as K.C ρ c.σ Q X->Am K.M A (boolOp pos op (M6 es L.env)) (PV c Q) (PX c X) c.s
def uS(ops:List Kj)(es:List Expr)(as:List Ex):Prop:=
 ∀(A:Bb) (c:Cf K.h₀) (ρ:List V) (Q:Bool->Af->Prop) (X:CP) (pos:Pos) (V:V) (v:AV),L6 K L.up A->Fr c L ρ->Rel c.s.heap c.φ V v->qv ops as V K.C ρ c.σ Q X->
  Am K.M A (compareChain pos v ops (M6 es L.env)) (λx s=>∃b,x=.bool b/\PB c Q b s) (PX c X) c.s/\Am K.M A (testChain pos v ops (M6 es L.env)) (PB c Q) (PX c X) c.s
def nA(e:Expr)(t:Tx):Prop:=
 ∀(A:Bb) (c:Cf K.h₀) (ρ:List V) (Q:Bool->Af->Prop) (X:CP),L6 K L.up A->Fr c L ρ->t K.C ρ c.σ Q X->Am K.M A (m8 e L.env (eval e L.env)) (PB c Q) (PX c X) c.s
def uQ(es:List Expr)(ts:List Tx):Prop:=
 ∀(A:Bb) (c:Cf K.h₀) (ρ:List V) (Q:Bool->Af->Prop) (X:CP),L6 K L.up A->Fr c L ρ->
  (LB ts K.C ρ c.σ Q X->Am K.M A (allTrue .And es L.env) (PB c Q) (PX c X) c.s)/\(Uj ts K.C ρ c.σ Q X->Am K.M A (allTrue .Or es L.env) (PB c Q) (PX c X) c.s)
end
def EL(e:Expr):Prop:=∀rest env,Ef (e::rest) env=(false,eval e env)::Ef rest env
def OC(e:Expr):Prop:=∀o i,subscripted e false o i=m9 [o,i] (SO o i)
section
variable {K:Ctx} {L:Loc}
theorem bG{k pos}:FE K L (.Constant .none k pos) Hg:=λ_ _ _ _ _ _ _ q=>wpAny_Constant_none (PV.same Kv q)
theorem n5{b k pos}:FE K L (.Constant (.bool b) k pos) (Fe b):=λ_ _ _ _ _ _ _ q=>wpAny_Constant_bool (PV.same H7 q)
theorem gj{i k pos}:FE K L (.Constant (.int i) k pos) (AU i):=λ_ _ _ _ _ _ _ q=>wpAny_Constant_int (PV.plain Fq q)
theorem RK{x k pos}:FE K L (.Constant (.str x) k pos) (BE x):=λ_ _ _ _ _ _ _ q=>LW (PV.plain FQ q)
noncomputable def Lb(sc:Bq)(x:Str):Bool:=decide (sc.names.lookup x=some .local)||(decide (sc.names.lookup x=some .cell)||decide (sc.names.lookup x=some .free))
theorem ZH(h:Lb sc x=true):sc.names.lookup x=some .local\/sc.names.lookup x=some .cell\/sc.names.lookup x=some .free:=
 ((Rh _ _).mp h).imp of_decide_eq_true λh=>((Rh _ _).mp h).imp of_decide_eq_true of_decide_eq_true
noncomputable def EB(x:Str):Bool:=!(x==("__debug__":Str))&&!(x==("__classdict__":Str))
theorem Gy(h:EB x=true):(x==("__debug__":Str))=false:=(CB _).mp (AJ.mp h).1
theorem km(h:EB x=true):(x==("__classdict__":Str))=false:=(CB _).mp (AJ.mp h).2
theorem T6{pos}(hx:L.vs.lookup x=some i)(hk:Lb L.env.scope x=true)(hn:EB x=true):FE K L (.Name x pos) (AD i):=λ_ c ρ _ _ _ F q=>by
 obtain⟨V,e,Z,q⟩:=Wi q
 refine wpAny_Name ?_ (Gy hn)
 refine A7 (ZH hk) (λB=>?_) (λB=>?_)
 .cases F.ns with
  |mk m n r=>refine AW (r x i hx B V e Z) λ_ hv M=>?_;exact PC F.fn B n hv (PV.same M q)
 .cases F.cell x i hx B with
  |mk a ov e1 _ _ ic r=>
   refine AW (r V e Z) λv ze M=>?_;subst ze
   exact B.elim (λB=>wpAny_loadName_cell F.fn B e1 ic (PV.same M q)) λB=>wpAny_loadName_free F.fn B e1 ic (PV.same M q) (km hn)
theorem Iz(h:n<=Cb):n<=HL:=AF h (by decide)
theorem I6(h:n<=Ih):n<=HL:=AF h (by decide)
theorem ag(h:n<=Ih):(n:Int)<2 ^ 63:=DK (A9.mpr h) (by decide)
theorem K1(h:n<=Cb):n<=Ih:=AF h (by decide)
theorem CF.size{h:Heap}{B:List Addr}{Vs:List V}{items:Array AV}(r:CF h B Vs items.toList):items.size=Vs.length:=A1.symm.trans r.length.symm
theorem Ol{A:Bb}{c:Cf K.h₀}{V:V}{v:AV}{T:Bool->Prop}{R:Bool->Aj->Prop}{E:AV->Aj->Prop}(r:Rel c.s.heap c.φ V v)(F:jV c.σ T V)(h:∀b tk,T b->R b { c.s with toks:=tk }):Am K.M A (Zd v) R E c.s:=by
 replace F:=tA F
 cases F with
 |none q=>subst r;exact λΓ p Z=>h _ c.s.toks q
 |bool q=>subst r;exact JQ (h _ c.s.toks q)
 |int q=>refine Cq r λt B=>?_;subst B;exact PyProof.Rows.truthy_int (h _ c.s.toks q)
theorem dI(h:EO i=true):i.natAbs<2 ^ 64:=by
 unfold EO at h
 have B:=of_decide_eq_true (AJ.mp h).1
 have F:=of_decide_eq_true (AJ.mp h).2
 exact BH.mp ((Int.natAbs_eq i).elim (λe=>Ee (e▸F) (by decide)) λe=>Int.lt_of_neg_lt_neg (Cn (by decide) (e▸B)))
theorem Jl(h:EO i=true):i.natAbs.log2<64:=by
 by_cases B:i.natAbs=0
 .rw[B];decide
 .exact(Nat.log2_lt B).mpr (dI h)
theorem QS(h:EO i=true):Lm i<=64:=by
 unfold Lm
 split
 .exact BM _
 .exact Jl h
theorem Mz.at:∀{us:List (Str×AV)},Mz h φ kvs us->(∀V,kvs.lookup k=some V->∃v,SP us k=some v/\Rel h φ V v)/\(SP us k).isSome=kvs.any (λp=>p.1=k):=by
 induction kvs with
 |nil=>intro us r;cases us with
  |nil=>exact⟨λV e=>absurd e.symm (AY V),rfl⟩
  |cons _ _=>exact absurd r.1 (Bi _ _)
 |cons p kvs F=>intro us r;cases us with
  |nil=>exact absurd r.1.symm (Bi _ _)
  |cons u us=>
   have e:=RX r.1
   have F:=F (us:=us) ⟨e.2,r.2.2⟩
   by_cases Z:u.1=k
   .have hp:p.1=k:=e.1.symm.trans Z
    have M:SP (u::us) k=some u.2:=by unfold SP;rw[Ma,decide_eq_true Z];rfl
    refine⟨λW B=>⟨u.2,M,?_⟩,by rw[M,Fu,decide_eq_true hp];rfl⟩
    rw[BL,hp,beq_self_eq_true] at B;exact AG B▸r.2.1
   .have hp:p.1≠k:=λz=>Z (e.1.trans z)
    have M:SP (u::us) k=SP us k:=by unfold SP;rw[Ma,decide_eq_false Z]
    rw[M]
    refine⟨λW B=>F.1 W ?_,?_⟩
    .rw[BL,beq_eq_false_iff_ne.mpr (HJ hp)] at B;exact B
    .rw[Fu,decide_eq_false hp,Bool.false_or];exact F.2
theorem Cf.dict{c:Cf K.h₀}{n ep:Nat}{kvs:List (Str×V)}{v:AV}(e:c.σ[n]?=some (.dict ep kvs))(r:Rel c.s.heap c.φ (.ref n) v) :
  ∃a us,v=.ref a/\c.φ[n]?=some a/\c.s.heap.DictAt (strKind K.h₀.prog K.h₀.w) a us ep/\Mz c.s.heap c.φ kvs us/\kvs.length<=Ih/\(a==Zb)=false:=
 AW (r) λ_ ev M=>
 Oj (c.sim.obj n _ e) λF B us q=>
 ⟨F,us,ev.trans (congrArg Cm (AG (M.symm.trans B))),B,q⟩
theorem Cf.Wq{c:Cf K.h₀}{n ep:Nat}{kvs:List (Str×V)}{v:AV}{P:AV->Prop}(e:c.σ[n]?=some (.dict ep kvs))(r:Rel c.s.heap c.φ (.ref n) v)(k:∀a us,c.φ[n]?=some a->c.s.heap.DictAt (strKind K.h₀.prog K.h₀.w) a us ep->Mz c.s.heap c.φ kvs us->kvs.length<=Ih->(a==Zb)=false->P (.ref a)):P v:=
 Ej (Cf.dict e r) λa us F B M h3 Z h5=>F▸k a us B M h3 Z h5
theorem YX{B:Type}(a:Array B)(n:Nat):∀(acc:Array B),(fT (λF Z=>F++Z) acc (Dm n a)).toList=acc.toList++KA a.toList n:=by
 induction n with
 |zero=>exact λacc=>(Bl _).symm
 |succ n M=>exact λacc=>(M _).trans (by rw[CM,Aq];rfl)
theorem gc{B:Type}(n):KA ([]:List B) n=[]:=by
 induction n with
 |zero=>rfl
 |succ n F=>exact F
theorem Vm{B:Type}(l:List B)(n):(KA l n).length=l.length*n:=by
 induction n with
 |zero=>rfl
 |succ n F=>exact AI.trans ((Ci _ _).trans (congrArg (·+l.length) F))
theorem CF.KA{Vs:List V}(r:CF h B Vs vs)(n):CF h B (KA Vs n) (KA vs n):=by
 induction n with
 |zero=>trivial
 |succ n F=>exact r.append F
theorem gg{Vs:List V}(r:CF h B Vs items.toList)(n:Nat):CF h B (KA Vs n) (fT (λF M=>F++M) #[] (Dm (if items.isEmpty=true then 0 else n) items)).toList:=by
 rw[YX]
 by_cases hi:items.isEmpty=true
 .rw[if_pos hi]
  have e:items.toList=[]:=By.mp (A1.trans (of_decide_eq_true hi))
  have:Vs=[]:=By.mp (r.length.trans (congrArg RY e))
  subst this
  rw[gc];exact trivial
 .rw[if_neg hi];exact r.KA n
theorem Q8{B:Type}{a b:Array B}:(a.toList++b.toList).toArray=a++b:=by simp
theorem V2{h:Heap}{B:List Addr}{Vs:List V}{items:Array AV}(r:CF h B Vs items.toList)(e:items.isEmpty=true):Vs=[]:=By.mp (r.size.symm.trans (of_decide_eq_true e))
theorem Nh{h:Heap}:h.get? h.objs.size=none:=F0 (Az _)
theorem jq:∀n:Nat,n<10->¬Builtin.Int.intTooBig ((Lm 10:Int)*n)=true:=by decide +kernel
theorem pP(B:s.heap.get? l=some { cls:=.type "list", dict:=none,data:=.seq items z,slots:=#[] })(Z:0<=x)(hk:x<((2 ^ 40:Nat):Int))(M:items.size*x.toNat<=1000000)(h:Q (.ref s.heap.objs.size) { s with heap:=s.heap.push { cls:=.type "list", data:=.seq (fT (λx1 x2=>x1++x2) #[] (Dm (if items.isEmpty=true then 0 else x.toNat) items)) } }) :
  Am (Cz prog w) A (binaryOp .Mult (.ref l) (.int x u)) Q E s:=
 wpAny_binaryOp_repeat_ref (T:="list") (U:="int") (by decide) ⟨_,B,rfl⟩ (λs'=>typeIs_int s' x u) noFill_list_mul F.fills_int_mul F.slot_int_rmul repeat_list F.slot_int_index.lookup
  (RZ F.slot_int_rmul (typeIs_int s x u) F.entry_int_rmul (F.args_int_rmul_2 _ _) (int___rmul___int_list x u l items z)
   ⟨B,rfl,⟨_,B,rfl⟩,RZ F.slot_list_mul ⟨_,B,rfl⟩ F.entry_list_mul (F.args_list_mul_2 _ _)
    (AutoListH.list___mul___list_int_3 l items z x u (by simp[Builtin.List.listFitsIndex];exact⟨Au (by decide) Z,Cn hk (by decide)⟩) (λh=>absurd (Ac h M) (by decide)) (by simp[Builtin.List.listTooLong,HL];exact Ec .le .v0 (.n 16777216) (.l .v0 (.n 1000000) .e) rfl M)) ⟨B,h⟩⟩)
theorem Xy{A:Bb}{c:Cf K.h₀}{Q:BS}{E:AV->Aj->Prop}{o:SM}{V W:Mine.Internal.V}{a b:AV}(Z:Rel c.s.heap c.φ V a)(F:Rel c.s.heap c.φ W b)(q:td c.σ Q o W V):Am K.M A (binaryOp o a b) (PV c Q) E c.s:=by
 replace q:=sW q
 cases q with
 |add q=>refine Cq Z λt B=>?_;subst B;refine Cq F λu B=>?_;subst B;exact PySem.P.add_int (PV.plain Fq q)
 |RS hz q=>refine Cq Z λt B=>?_;subst B;refine Cq F λu B=>?_;subst B;exact PyProof.Rows.add_str (λ_ _=>PV.plain FQ q) (Iz hz)
 | @mK xs ys h1 h2 hz q=>
  refine CW Z λt it n B g rl=>?_;subst B
  refine CW F λu iu k B gu rlu=>?_;subst B
  refine PySem.P.add_tuple g gu (λh=>h1 (V2 rl h)) (λh=>h2 (V2 rlu h)) ?_ (by rw[rl.size,rlu.size];exact Iz hz)
  rw[<- Q8]
  exact PV.rB (rl.append rlu) q
 |Pj e1 e2 hz q=>
  apply Cf.listE e1 Z;intro a ia k _ hA rla _
  apply Cf.listE e2 F;intro b ib k' _ hB rlb _
  refine PySem.P.add_list hA hB ?_ (by rw[rla.size,rlb.size];exact Iz hz)
  rw[<- Q8]
  exact PV.mL (rla.append rlb) (K1 (AI▸hz)) q
 | @mulL _ k x e1 hk hz q=>
  apply Cf.listE e1 Z;intro l items z _ hl rl _
  apply Il F;intro u
  exact pP hl (AQ k) (BH.mpr hk) (by rw[A6,rl.size];exact hz)
   (PV.list (tk:=c.s.toks) (gg rl _) (by rw[Vm];exact K1 hz) Nh (λ_ _ e=>AN _ e) (Aw _ rfl) q)
 | @pow n h0 h9 q=>
  refine Cq Z λt B=>?_;subst B;apply Il F;intro u
  refine PySem.AutoIntOps.pow_4 (AQ n) (λh=>Nat.pos_iff_ne_zero.mp h0 (Int.natCast_eq_zero.mp (beq_iff_eq.mp h))) (by decide) (by decide) ?_ (PV.plain Fq q)
  exact jq n (Nat.lt_succ_of_le h9)
 |sub q=>refine Cq Z λt B=>?_;subst B;refine Cq F λu B=>?_;subst B;exact PyProof.Rows.sub_int' (PV.plain Fq q)
 |mul hs q=>refine Cq Z λt B=>?_;subst B;refine Cq F λu B=>?_;subst B;exact PySem.P.mul_int (PV.plain Fq q) (hs.elim (λh=>IntMulOk.of_left (QS h)) λh=>IntMulOk.of_right (QS h))
 |div h0 hs q=>refine Cq Z λt B=>?_;subst B;refine Cq F λu B=>?_;subst B;exact PyProof.Rows.floordiv_int h0 (PV.plain Fq q) (Or.inl (PyProof.noPylong_of_log2 (Ac (Jl hs) (by decide))))
 |mod h0 q=>refine Cq Z λt B=>?_;subst B;refine Cq F λu B=>?_;subst B;exact PyProof.Rows.mod_int' h0 (PV.plain Fq q)
theorem tJ{pos}(B:FE K L l a)(hr:FE K L r b):FE K L (.BinOp l o r pos) (Ah o a b):=λA c ρ _ X R F q=>
 wpAny_BinOp (seq (.refl c) (B A c ρ _ X R F q) λc1 _ _ s1 _ r1 M=>seq s1 (hr A c1 ρ _ X R (F.step s1) M) λ_ _ _ s2 Z r2 q2=>fin s2 (Xy (r1.step Z) r2 q2))
theorem jt{pos}(h:FE K L x a):FE K L (.UnaryOp .USub x pos) (ko a):=λA c ρ _ X R F q=>
 wpAny_UnaryOp (seq (.refl c) (h A c ρ _ X R F q) λc1 _ _ s1 _ Z M=>fin s1 (by obtain⟨_,e,M⟩:=iL M;subst e;refine Cq Z λt B=>?_;subst B;exact PySem.P.neg_int (PV.plain Fq M)))
theorem tB{x:Expr}{a:Ex}{pos}(h:FE K L x a):FE K L (.UnaryOp .Not x pos) (ue a):=λA c ρ _ X R F q=>
 wpAny_UnaryOp (seq (.refl c) (h A c ρ _ X R F q) λc₁ _ _ B _ M Z=>not_value (Ol M Z λb tk q=>.mk (c₁.toks tk) _ (B.trans (Cf.Cj ⟨rfl,rfl⟩)) H7 q))
theorem Mp:Wn K L [] []:=λ_ c _ _ _ _ _ _ q=>HM (.mk c [] (.refl c) trivial ⟨rfl,q⟩)
theorem I9(hn:EL e)(Z:FE K L e a)(B:Wn K L es as):Wn K L (e::es) (a::as):=λA c ρ _ X pos R F q=>
 El (seq (.refl c) (Z A c ρ _ X R F q) λc1 V _ s1 _ r1 q1=>Vl s1 (B A c1 ρ _ X pos R (F.step s1) q1) λc2 Vs _ s2 t2 r2 M=>.mk c2 (V::Vs) s2 ⟨r1.step t2,r2⟩ ⟨congrArg (·+1) M.1,M.2⟩) (hn es L.env)
theorem tu{k pos}(h:Wn K L es as)(Z:es.length<=1000):FE K L (.Tuple es k pos) (Dw as):=λA c ρ _ X R F q=>
 wpAny_Tuple (Vl (.refl c) (h A c ρ _ X pos R F q) λc1 _ _ s1 _ B M=>⟨I6 (B.length▸M.1▸AF Z (by decide)),(PV.rB B M.2).lift s1⟩)
theorem qJ{pos}(h:Wn K L es as)(M:es.length<=1000):FE K L (.List es pos) (CD as):=λA c ρ _ X R F q=>
 wpAny_List (Vl (.refl c) (h A c ρ _ X pos R F q) λc1 _ _ s1 _ Z B=>⟨I6 (Z.length▸B.1▸AF M (by decide)),(PV.mL Z (B.1▸AF M (by decide)) B.2).lift s1⟩)
theorem oh(h:FE K L e a):uT K L [e] [a]:=λA c ρ Q X _ _ R F q=>h A c ρ Q X R F q
set_option backward.match.sparseCases true in
theorem kC{e e':Expr}{a a':Ex}{es:List Expr}{as:List Ex}(h:FE K L e a)(hs:uT K L (e'::es) (a'::as)):uT K L (e::e'::es) (a::a'::as):=λA c ρ Q X pos op R F q=>by
 show Am K.M A (do
  let v <- eval e L.env
  SQ pos
  let t <- J9 [v] (Zd v)
  match op,t with
  | .And,false | .Or,true=>pure v
  |_,_=>boolOp pos op (M6 (e'::es) L.env)) _ _ c.s
 refine AB (seq (.refl c) (h A c ρ _ X R F q) λZ V v s₁ _ r₁ q₁=>AB (Ep (AB (Bt (Ol r₁ q₁ λb tk B=>?_)))))
 have s₂:Di Bv c (Z.toks tk):=s₁.trans (Cf.Cj ⟨rfl,rfl⟩)
 have go:∀b',b=b'->(op==.And)=b'->Am K.M A (boolOp pos op (M6 (e'::es) L.env)) (PV c Q) (PX c X) (Z.toks tk).s:=λb' h1 h2=>fin s₂ (hs A (Z.toks tk) ρ Q X pos op R (F.step s₂) (by have B:=jC B;rw[if_pos (h1.trans h2.symm)] at B;exact B))
 have no:b≠(op==.And)->PV c Q v (Z.toks tk).s:=λhb=>.mk (Z.toks tk) V s₂ r₁ (by have B:=jC B;rw[if_neg hb] at B;exact B)
 cases op <;> cases b
 .exact AS (no λh=>by injection h)
 .exact go true rfl rfl
 .exact go false rfl rfl
 .exact AS (no λh=>by injection h)
theorem rW{pos}(h:uT K L es as):FE K L (.BoolOp .And es pos) (KC true as):=λA c ρ Q X R F q=>h A c ρ Q X pos .And R F q
theorem vN{pos}(h:uT K L es as):FE K L (.BoolOp .Or es pos) (KC false as):=λA c ρ Q X R F q=>h A c ρ Q X pos .Or R F q
theorem ct{F M:Type}{f:F->Option M}{a:F}{as:List F}{bs:List M}(h:OG f (a::as)=some bs):∃b B,f a=some b/\OG f as=some B/\bs=b::B:=
 by refine AW (B3.mp h) λb Z h2=>?_;exact AW (Av.mp h2) λB h3 h4=>⟨b,B,Z,h3,h4.symm⟩
inductive Xb(h:Heap)(v:AV)(n:Nat)(d:GP):Prop
 |mk (as:List Addr):Reads h v d as->d.depth<=n->Xb h v n d
theorem Qq(hf:∀V v F,f V=some F->Rel h φ V v->Xb h v n F)(Vs:List V):∀(vs:List AV) (B:List GP),OG f Vs=some B->CF h φ Vs vs->(∃as,ReadsAll h vs B as)/\PyData.depthAll B<=n:=by
 induction Vs with
 |nil=>intro vs B e r;cases vs with
  |nil=>exact AG e▸⟨⟨_,.nil⟩,BM _⟩
  |cons _ _=>exact r.elim
 |cons V Vs ih=>intro vs B e r;cases vs with
  |nil=>exact r.elim
  |cons v vs=>
   refine ES (ct e) λb bs e1 e2 e3=>?_
   cases hf V v b e1 r.1 with
   |mk _ Z d1=>
    have M:=ih vs bs e2 r.2
    refine Cq M.1 λ_ h3=>?_
    exact e3▸⟨⟨_,.cons Z h3⟩,Nat.max_le.mpr ⟨d1,M.2⟩⟩
theorem dU(e:jo f o=some d):∃vs B,o=some (.list vs)/\OG f vs=some B/\W9 B=d:=by
 cases o with
 |none=>exact absurd e.symm (AY d)
 |some o=>cases o with
  |list vs=>refine AW (Av.mp e) λB M F=>?_;exact⟨vs,B,rfl,M,F⟩
  |_=>exact absurd e.symm (AY d)
theorem Jk{h₀:Bs}{c:Cf h₀}(n:Nat):∀(V:V) (v:AV) (B:GP),Tp c.σ n V=some B->Rel c.s.heap c.φ V v->Xb c.s.heap v n B:=by
 induction n with
 |zero=>exact λ_ _ B e _=>absurd e.symm (AY B)
 |succ n ih=>
  intro V v B e r
  cases V with
  |undef=>exact r.elim
  |none=>exact AG e▸r▸.mk _ .none (BM _)
  |bool _=>exact AG e▸r▸.mk _ (.bool _) (BM _)
  |int _=>refine Cq r λ_ r=>?_;exact AG e▸r▸.mk _ (.int _ _) (BM _)
  |str _=>refine Cq r λ_ r=>?_;exact AG e▸r▸.mk _ (.str _ _) (BM _)
  |tup vs=>
   refine CW r λ_ _ _ r g F=>?_
   refine AW (Av.mp e) λds e1 Z=>?_
   have h:=Qq ih vs _ ds e1 F
   refine Cq h.1 λ_ M=>?_
   exact Z▸r▸.mk _ (.tuple g rfl rfl M) (C8 h.2)
  |ref k=>
   refine ES (dU e) λvs ds ek e1 Z=>?_
   refine FZ (Cf.list ek r) λ_ _ _ ev _ g F _=>?_
   have h:=Qq ih vs _ ds e1 F
   refine Cq h.1 λ_ M=>?_
   exact Z▸ev▸.mk _ (.list g rfl rfl M) (C8 h.2)
theorem L6.uO(R:L6 K up A):A.units+100<9900:=Ac (Nj (Al (A0 _ _) R.units) 100) (by decide)
theorem bO(R:L6 K up A)(h:n<=6):A.units+min n m<cLine:=
 Al (CO (AF (Ce _ _) h) _) (Ac (Al (CO (by decide) _) R.uO) (by decide))
theorem ft(R:L6 K up A)(h:m<=6):A.units+1+min n m<cLine:=
 Al (AF (CO (AF (C7 _ _) h) _) (CK (Ed _ 1 6))) (Ac (Al (CO (by decide) _) R.uO) (by decide))
theorem ints_map:∀{vs:List AV},CF h F (xs.map .int) vs->GW vs xs:=by
 induction xs with
 |nil=>intro vs r;cases vs with
  |nil=>exact .nil
  |cons _ _=>exact r.elim
 |cons x xs B=>intro vs r;cases vs with
  |nil=>exact r.elim
  |cons v vs=>refine Cq r.1 λ_ e=>?_;exact e▸.cons _ _ (B r.2)
theorem Qb(h:x=y):D6 (x::a) (y::b)=D6 a b:=if_pos h
theorem Vn(h:x≠y):D6 (x::a) (y::b)=decide (x<y):=if_neg h
theorem nS{F:Type}{M:Lq}{A:Bb}{E:AV->Aj->Prop}{s:Aj}{body:AV×AV->F->Sem (ForInStep F)}{Z:F}{R:F->Aj->Prop}{yes:Bool->F}(hb:∀(p q:Int) (t u:Tok) (R':ForInStep F->Aj->Prop),(p=q->R' (.yield Z) s)->(p≠q->R' (.done (yes (decide (p<q)))) s)->Am M A (body (.int p t,.int q u) Z) R' E s){a b:List Int}{vs us:List AV}(ha:GW vs a)(B:GW us b)(h:D6 a b=decide (vs.length<us.length)->R Z s)(hy:R (yes (D6 a b)) s):Am M A (forIn (vs.zip us) Z body) R E s:=by
 induction ha generalizing b us with
 |nil=>cases B with
  |nil=>exact AS (h rfl)
  |cons _ _ _=>exact AS (h (decide_eq_true (CS _)).symm)
 |cons p t ha ih=>cases B with
  |nil=>exact AS (h rfl)
  |cons q u B=>
   rw[H3,Eu]
   refine AB (hb p q t u _ (λe=>?_) λe=>?_)
   .exact ih B (λe'=>h ((Qb e).trans (e'.trans (decide_eq_decide.mpr eX.symm)))) (Qb e▸hy)
   .exact AS (Vn e▸hy)
theorem s7(gx:IsT s.heap a ix n)(B:IsT s.heap c Z k)(rx:GW ix.toList xs)(ry:GW Z.toList ys)(h:P (.done (.ret (.bool (D6 xs ys)))) s):Am K.M A (Nk.«tuple.__lt__» ⟨[.ref a,.ref c],[]⟩) P E s:=by
 show Am _ _ (isInstance (.ref c) (.type "tuple") >>= _) _ _ s
 refine AB (J6 (T:="tuple") ⟨_,B,rfl⟩ AutoSeq1.sub_tuple_tuple (AB (wpAny_tupleItemsOf gx rfl (AB (wpAny_tupleItemsOf B rfl (AB ?_))))))
 refine nS (yes:=λb=>(some (.done (.ret (.bool b))),())) (λp q t u R' F h2=>AB (wpAny_eqBool_int ?_)) rx ry (λe=>AS (e▸h :)) (AS h)
 by_cases e:p=q
 .rw[beq_iff_eq.mpr e];exact AS (F e)
 .rw[beq_eq_false_iff_ne.mpr e]
  exact AB (G4 (AB (Lf (AB (AS (AS (h2 e)))))))
theorem Uc{up:List Env}{A:Bb}{c:Cf K.h₀}{op:Kj}{V W:Mine.Internal.V}{v u:AV}{T:Bool->Prop}{P:AV->Aj->Prop}{E:AV->Aj->Prop}(R:L6 K up A)(Z:Rel c.s.heap c.φ V v)(r2:Rel c.s.heap c.φ W u)(q:ie c.σ T op V W)(h:∀b tk,T b->P (.bool b) { c.s with toks:=tk }) :
  Am K.M A (U7 op v u) P E c.s:=by
 have h₀:∀b,T b->P (.bool b) c.s:=λb q=>h b c.s.toks q
 replace q:=sm q
 cases q with
 |eq e1 e2 c1 c2 q=>exact(Jk 6 _ _ _ e1 Z).casesOn λ_ ra da=>(Jk 6 _ _ _ e2 r2).casesOn λ_ rb _=>SeqAt.compareEq_reads ra rb c1 c2 (bO R da) (h₀ _ q)
 |ne e1 e2 c1 c2 q=>exact(Jk 6 _ _ _ e1 Z).casesOn λ_ ra da=>(Jk 6 _ _ _ e2 r2).casesOn λ_ rb _=>SeqAt.compareNe_reads ra rb c1 c2 (bO R da) (h₀ _ q)
 |uM e1 e2 c1 c2 q=>exact(Jk 6 _ _ _ e1 Z).casesOn λ_ ra da=>(Jk 6 _ _ _ e2 r2).casesOn λ_ rb _=>SeqAt.notIn_tuple_reads rb ra c2 c1 (ft R da) (h₀ _ q)
 |lt q=>refine Cq Z λt B=>?_;subst B;refine Cq r2 λt' B=>?_;subst B;exact Lf (h₀ _ q)
 |le q=>refine Cq Z λt B=>?_;subst B;refine Cq r2 λt' B=>?_;subst B;exact PySem.P.le_int (h₀ _ q)
 |gt q=>refine Cq Z λt B=>?_;subst B;refine Cq r2 λt' B=>?_;subst B;exact PyProof.Rows.gt_int (h₀ _ q)
 |ge q=>refine Cq Z λt B=>?_;subst B;refine Cq r2 λt' B=>?_;subst B;exact PySem.P.ge_int (h₀ _ q)
 |xx q=>
  refine CW Z λa ix n B gx rx=>?_;subst B
  refine CW r2 λb iy k B gy ry=>?_;subst B
  exact wpAny_richCompare_same_room (op:=.Lt) (T:="tuple") ⟨_,gx,rfl⟩ ⟨_,gy,rfl⟩ F.slot_tuple_lt (Ck F.slot_tuple_lt ⟨_,gx,rfl⟩ F.entry_tuple_lt (s7 gx gy (ints_map rx) (ints_map ry) ⟨_,rfl,by simp,h₀ _ q⟩) (F.args_tuple_lt_2 _ _))
   (Ac (Al (A0 _ 100) R.uO) (by decide))
 |inD e q=>
  apply Cf.Wq e r2;intro a us _ D P _ hs
  apply Il Z;intro t
  exact wpAny_in_of (Ra _ _ _ t) hs D.dictOf.mapOf (by rw[P.at.2];exact h _ _ q)
 |wL e q=>
  apply Cf.Wq e r2;intro a us _ D P _ hs
  apply Il Z;intro t
  exact wpAny_notIn_of (Ra _ _ _ t) hs D.dictOf.mapOf (by rw[P.at.2];exact h _ _ q)
 |qA q=>
  apply Il Z;intro t
  apply Il r2;intro u
  exact PySem.P.in_str (by rw[show sign _=(⟨#[_]⟩:Str) from rfl,PySem.StrLaws.found_one];exact h₀ _ q)
 |is q=>subst r2;exact is_none (rel_isNone Z▸h₀ _ q)
 |rI q=>subst r2;exact isNot_none (rel_isNone Z▸h₀ _ q)
where
 rel_isNone {h:Heap} {φ:List Addr} {V:Mine.Internal.V} {v:AV} (r:Rel h φ V v):isNone V=(v==.none):=by
  cases V with
  |undef=>exact r.elim
  |none=>exact congrArg (·==Ba) r.symm
  |bool _=>exact congrArg (·==Ba) r.symm
  |int _=>exact r.elim λ_ r=>congrArg (·==Ba) r.symm
  |str _=>exact r.elim λ_ r=>congrArg (·==Ba) r.symm
  |tup _=>exact KU r λ_ _ _ r _=>congrArg (·==Ba) r.symm
  |ref _=>exact AW r λ_ r _=>congrArg (·==Ba) r.symm
theorem bH{op:Kj}{e:Expr}{a:Ex}(h:FE K L e a):uS K L [op] [e] [a]:=λA c ρ Q X pos V v R F r q=>by
 constructor
 .show Am K.M A (do
   let rv <- J9 [v] (eval e L.env)
   SQ pos
   m9 [v,rv] (U7 op v rv)) _ _ c.s
  exact AB (Bt (seq (.refl c) (h A c ρ _ X R F q) λc₁ _ _ s₁ _ r₁ q₁=>AB (Ep (OM (Uc R (r.step s₁) r₁ q₁ λb tk q=>⟨b,rfl,.mk (c₁.toks tk) (s₁.trans (Cf.Cj ⟨rfl,rfl⟩)) q⟩)))))
 .show Am K.M A (do
   let rv <- J9 [v] (eval e L.env)
   SQ pos
   let x <- m9 [v,rv] (U7 op v rv)
   J9 [x] (Zd x)) _ _ c.s
  exact AB (Bt (seq (.refl c) (h A c ρ _ X R F q) λc₁ _ _ s₁ _ r₁ q₁=>AB (Ep (AB (OM (Uc R (r.step s₁) r₁ q₁ λb tk q=>Bt (JQ (.mk (c₁.toks tk) (s₁.trans (Cf.Cj ⟨rfl,rfl⟩)) q))))))))
theorem hZ{op op':Kj}{ops:List Kj}{e e':Expr}{es:List Expr}{a a':Ex}{as:List Ex}(h:FE K L e a)(hs:uS K L (op'::ops) (e'::es) (a'::as)):uS K L (op::op'::ops) (e::e'::es) (a::a'::as):=λA c ρ Q X pos V v R F r q=>by
 constructor
 .show Am K.M A (do
   let rv <- J9 [v] (eval e L.env)
   SQ pos
   let x <- J9 [v,rv] (U7 op v rv)
   release [v,rv] [x]
   if <- J9 [x,rv] (Zd x) then compareChain pos rv (op'::ops) (M6 (e'::es) L.env) else pure x) _ _ c.s
  refine AB (Bt (seq (.refl c) (h A c ρ _ X R F q) λc₁ W u s₁ _ r₁ q₁=>?_))
  refine AB (Ep (AB (Bt (Uc R (r.step s₁) r₁ q₁ λb tk q=>?_))))
  have s₂:Di Bv c (c₁.toks tk):=s₁.trans (Cf.Cj ⟨rfl,rfl⟩)
  refine AB (ON (AB (Bt (JQ ?_))))
  cases b with
  |false=>exact AS ⟨false,rfl,.mk (c₁.toks tk) s₂ q⟩
  |true=>exact Ax (hs A (c₁.toks tk) ρ Q X pos W u R (F.step s₂) r₁ q).1 (λ_ _ zz=>AW zz λb e z=>⟨b,e,z.lift s₂⟩) λ_ _ z=>z.lift s₂
 .show Am K.M A (do
   let rv <- J9 [v] (eval e L.env)
   SQ pos
   let x <- J9 [v,rv] (U7 op v rv)
   release [v,rv] [x]
   if <- J9 [x,rv] (Zd x) then testChain pos rv (op'::ops) (M6 (e'::es) L.env) else pure false) _ _ c.s
  refine AB (Bt (seq (.refl c) (h A c ρ _ X R F q) λc₁ W u s₁ _ r₁ q₁=>?_))
  refine AB (Ep (AB (Bt (Uc R (r.step s₁) r₁ q₁ λb tk q=>?_))))
  have s₂:Di Bv c (c₁.toks tk):=s₁.trans (Cf.Cj ⟨rfl,rfl⟩)
  refine AB (ON (AB (Bt (JQ ?_))))
  cases b with
  |false=>exact AS (.mk (c₁.toks tk) s₂ q)
  |true=>exact iO s₂ (hs A (c₁.toks tk) ρ Q X pos W u R (F.step s₂) r₁ q).2
theorem iU{pos}(hm:lastMarks B es=false)(h:FE K L l a)(hs:uS K L B es as):FE K L (.Compare l B es pos) (Jh (Bj a B as)):=λA c ρ _ X R F q=>by
 rw[arm_eval_Compare,Mt _ _ _ hm]
 exact AB (seq (.refl c) (h A c ρ _ X R F q) λc1 V v s1 _ Z M=>Ax (hs A c1 ρ _ X pos V v R (F.step s1) Z M).1 (λ_ _ zz=>AW zz λ_ e z=>z.casesOn λc2 s2 q2=>e▸.mk c2 _ (s1.trans s2) H7 q2) λ_ _ z=>z.lift s1)
theorem pU{pos}(hm:lastMarks B es=false)(h:FE K L l a)(hs:uS K L B es as):nA K L (.Compare l B es pos) (Bj a B as):=λA c ρ _ X R F q=>by
 rw[arm_isTrue_Compare,Mt _ _ _ hm]
 exact AB (seq (.refl c) (h A c ρ _ X R F q) λc1 V v s1 _ Z M=>iO s1 (hs A c1 ρ _ X pos V v R (F.step s1) Z M).2)
theorem o5{pos}(h:nA K L x t):nA K L (.UnaryOp .Not x pos) (JK t):=λA c ρ _ X R F q=>by
 rw[arm_isTrue_UnaryOp]
 exact AB (jZ (.refl c) (h A c ρ _ X R F q) λc1 _ s1 _ B=>AS (.mk c1 s1 B))
theorem qG{pos}(h:uQ K L es B):nA K L (.BoolOp .And es pos) (LB B):=λA c ρ Q X R F q=>(h A c ρ Q X R F).1 q
theorem rR{pos}(h:uQ K L es B):nA K L (.BoolOp .Or es pos) (Uj B):=λA c ρ Q X R F q=>(h A c ρ Q X R F).2 q
theorem pV{e:Expr}{a:Ex}(he:∀env B,m8 e env B=(do let v <- B;SQ e.pos;J9 [v] (Zd v)))(h:FE K L e a):nA K L e (Hm a):=λA c ρ _ X R F q=>by
 rw[he]
 exact AB (seq (.refl c) (h A c ρ _ X R F q) λZ _ _ M _ r₁ q₁=>AB (Ep (Bt (Ol r₁ q₁ λ_ tk q=>.mk (Z.toks tk) (M.trans (Cf.Cj ⟨rfl,rfl⟩)) q))))
theorem qQ:uQ K L [] []:=λ_ c _ _ _ _ _=>⟨λq=>AS (.mk c (.refl c) q),λq=>AS (.mk c (.refl c) q)⟩
theorem mD(h:nA K L e t)(hs:uQ K L es M):uQ K L (e::es) (t::M):=λA c ρ Q X R F=>by
 rw[arm_allTrue_cons,arm_allTrue_cons]
 refine⟨λq=>AB (jZ (.refl c) (h A c ρ _ X R F q) λc1 b s1 _ B=>?_),λq=>AB (jZ (.refl c) (h A c ρ _ X R F q) λc1 b s1 _ B=>?_)⟩
 .cases b with
  |false=>exact AS (.mk c1 s1 B)
  |true=>exact iO s1 ((hs A c1 ρ Q X R (F.step s1)).1 B)
 .cases b with
  |true=>exact AS (.mk c1 s1 B)
  |false=>exact iO s1 ((hs A c1 ρ Q X R (F.step s1)).2 B)
theorem kv(x:um k n j):seqIndex? k n=some j/\j<n:=A7 x
 (λx=>And.elim (λe h=>⟨by subst e;unfold seqIndex?;simp only[if_neg (CG.mpr (AQ j))];rw[if_pos (by simp[h])];rfl,h⟩) x)
 λx=>have e:=x.1;have h:=x.2;have B:j<n:=BH.mp (e▸Int.add_lt_of_lt_sub_right (Int.sub_self _▸h))
  ⟨by unfold seqIndex?;simp only[if_pos h];rw[if_pos (by simp;exact⟨VD .le .n0 (.a .v0 .v1) (.p (.a .v0 .v1) .v2 (.l .n0 .v2 .e)) rfl e (AQ _),O0 .lt (.a .v0 .v1) .v1 (.t .v0 .n0 .e) rfl h⟩),e];rfl,B⟩
theorem RI(h:EO i=true):-(2 ^ 63)<=i:=of_decide_eq_true (AJ.mp h).1
theorem RL(h:EO i=true):i<2 ^ 63:=of_decide_eq_true (AJ.mp h).2
theorem tj{A:Bb}{c:Cf K.h₀}{Q:BS}{E:AV->Aj->Prop}{value B:Expr}{V W:Mine.Internal.V}{a i:AV}(ra:Rel c.s.heap c.φ V a)(ri:Rel c.s.heap c.φ W i)(hs:OC B)(q:rY c.σ Q W V):Am K.M A (PyProof.Rows.subscriptTail value B a i) (PV c Q) E c.s:=by
 replace q:=r7 q
 cases q with
 |tup Z hi e q=>
  refine CW ra λt items n ze1 g rl=>?_;subst ze1
  apply Il ri;intro u
  refine AW (rl.get e) λy ey ry=>?_
  exact PyProof.Rows.item_tupleT (l:=items.toList) ⟨_,g,rfl,n,rfl⟩ (RI Z) (RL Z) (rl.length▸(kv hi).1) ey (PV.same ry q) (hs _ _)
 |list em hi e q=>
  apply Cf.listE em ra;intro l items n _ g rl z
  apply Il ri;intro u
  refine AW (rl.get e) λy ey ry=>?_
  refine H2 (T:="list") ⟨_,g,rfl⟩ slot_list_getitem.lookup ?_ (hs _ _)
  rw[BA] at ey
  rcases hi with ⟨rfl,hj⟩ | ⟨hj,Z⟩
  .exact wpAny_getItem_list g.isList (AQ _) (BH.mpr (Ac hj (AF z (by decide)))) ey (PV.same ry q)
  .rw[<- rl.size] at hj
   have z':items.size<=16000000:=rl.size▸z
   have hk':=VD .le (.g .v0) .v1 (.p (.a .v1 .v0) .v2 (.l .n0 .v2 .e)) rfl hj (AQ _)
   exact wpAny_getItem_list_neg g.isList Z hk' (Au (Au (by decide) (Int.neg_le_neg (A9.mpr z'))) hk') (hj▸ey) (PV.same ry q)
 |str Z hi e q=>
  apply Il ra;intro t
  apply Il ri;intro u
  refine H2 (T:="str") (G8 _ _ _) F.slot_str_getitem.lookup ?_ (hs _ _)
  exact PySem.P.getItem_str (by rw[decide_eq_false (CG.mpr (RI Z)),decide_eq_false (FI.mpr (RL Z))];rfl) (by rw[(kv hi).1];exact e) (PV.plain FQ q)
 |dict em e q=>
  apply Cf.Wq em ra;intro a us _ D P _ _
  apply Il ri;intro t
  refine AW (P.at.1 _ e) λv ev rv=>?_
  exact H2 (T:="dict") D.dictOf.typeIs slot_dict_getitem.lookup (wpAny_getItem_of (Ra _ _ _ t) D.dictOf.mapOf ev (PV.plain rv q)) (hs _ _)
theorem tL{pos}(hs:OC r)(B:FE K L l a)(hr:FE K L r b):FE K L (.Subscript l r pos) (A8 a b):=λA c ρ _ X R F q=>
 Pm (seq (.refl c) (B A c ρ _ X R F q) λc1 _ _ s1 _ r1 M=>seq s1 (hr A c1 ρ _ X R (F.step s1) M) λ_ _ _ s2 Z r2 q2=>fin s2 (tj (r1.step Z) r2 hs q2))
end
end Mine.Internal
namespace Mine.Internal
open PySem PySem.Calls
theorem Q3(xs:List Str):∀(vs:List AV) (T:List (Str×AV)),xs.Nodup->xs.length=vs.length->(∀n∈xs,T.lookup n=(xs.zip vs).lookup n)->xs.filterMap (λn=>(T.lookup n).map (n,·))=xs.zip vs:=by
 induction xs with
 |nil=>intro _ _ _ _ _;rw[List.zip_nil_left];rfl
 |cons x xs ih=>
  intro vs T B M F
  cases vs with
  |nil=>cases M
  |cons v vs=>
   have Z:=Ds.mp B
   have h1:T.lookup x=some v:=(F x AL).trans (by rw[H3,BL,beq_self_eq_true])
   rw[List.filterMap_cons,h1]
   refine congrArg _ (ih vs T Z.2 (Et M) λn hn=>(F n (Ad _ hn)).trans ?_)
   rw[H3,BL,beq_eq_false_iff_ne.mpr (show n≠x from λe=>Z.1 (e▸hn))]
theorem Pg{B:List Str}:∀{vals:List AV},B.length=vals.length->∀n∈B,((B.zip vals).lookup n).isNone=false:=by
 induction B with
 |nil=>exact λ_ _ h=>absurd h BU
 |cons x xs M=>
  intro vals F n hn
  cases vals with
  |nil=>cases F
  |cons v vs=>
   rw[H3,BL]
   cases h:n==x with
   |true=>rfl
   |false=>exact M (Et F) n ((Ao.mp hn).resolve_left λe=>by rw[e,beq_self_eq_true] at h;cases h)
theorem YL{B:List Str}{vals:List AV}{k:Nat}(h:B.length=vals.length):(B.take k).filter (λn=>((B.zip vals).lookup n).isNone)=[]:=
 W8.mpr λn hn=>BQ.mp (Pg h n (D0 hn))
theorem Wa{B:List Str}{vals:List AV}{k:Nat}(h:B.length=vals.length):¬(!((B.take k).filter λn=>((B.zip vals).lookup n).isNone).isEmpty)=true:=by rw[YL h];exact(λh=>by injection h)
theorem MH{vals:List AV}(hp:fd.params=⟨[],args,none,[],[],none,[]⟩)(hd:fd.defaults=.none)(B:(args.map (·.arg)).length=vals.length)(F:(args.map (·.arg)).Nodup):bindArgs fd ⟨vals,[]⟩=pure ((args.map (·.arg)).zip vals):=by
 obtain⟨_,_,params⟩:=fd
 dsimp only at hp hd
 subst hp hd
 have e:((args.map Arg.arg)++[]).filterMap (λn=>(((args.map Arg.arg).zip vals).lookup n).map (n,·))=(args.map Arg.arg).zip vals:=(congrArg _ (Bl _)).trans (Q3 (args.map Arg.arg) vals _ F B λ_ _=>rfl)
 refine Eq.trans (if_neg ?_) (Eq.trans (if_neg ?_) ?_)
 .exact λh=>B1.mpr (CK B.symm) (of_decide_eq_true (AJ.mp h).1)
 .exact Wa B
 .refine Eq.trans (congrArg (λl=>forIn (m:=Sem) l _ _ >>= _) (show List.zip (QF _ (args.map (·.arg))) (QF _ ([]:List AV))=[] from ?_)) ?_
  .rw[VJ,List.zip_nil_right]
  .exact congrArg (pure (f:=Sem)) e
theorem Jn{h:Heap}{a b:Addr}{m:Str->Option AV}{F:Option AV}(n:h.Ns a m)(x:h.IsCell b F):b≠a:=λe=>by
 refine KY (IA n) λo e1 es ep d=>?_
 refine AW x λo' B M=>?_
 rw[e,e1] at B;have Z:=AG B;subst Z;cases d.symm.trans M
theorem NO{B:Type}{l:List B}{i j:Nat}{x:B}(h:i≠j):(l.set i x)[j]?=l[j]?:=JW h
theorem IL{B:Type}{l:List B}{i:Nat}{x y:B}(h:(l.set i x)[i]?=some y):x=y:=by
 rw[List.getElem?_set,if_pos rfl] at h
 split at h
 .exact AG h
 .exact absurd h.symm (AY _)
theorem GL.other{V:V}(x:GL c ρ j M)(h:i≠j):GL c (ρ.set i V) j M:=λW F B=>x W (NO h▸F) B
theorem GL.this{h₀:Bs}{c:Cf h₀}{ρ:List V}{i:Nat}{V:V}{v:AV}(r:Rel c.s.heap c.φ V v):GL c (ρ.set i V) i (some v):=λ_ B _=>⟨v,rfl,IL B▸r⟩
section
variable {K:Ctx} {L:Loc} {A:Bb} {c:Cf K.h₀} {ρ:List V} {E:AV->Aj->Prop}
theorem I4{V:V}(F:Fr c L ρ)(hx:L.vs.lookup x=some i)(hk:L.env.kindOf x=some .local)(r:Rel c.s.heap c.φ V v)(h:∀Z:Cf K.h₀,Z.φ=c.φ->Z.σ=c.σ->Di (·=L.env.locals) c Z->Fr Z L (ρ.set i V)->(c.s.toks<Z.s.toks/\∃m,Z.s.heap.Ns L.env.locals m/\m x=some v)->Q () Z.s):Am K.M A (fU L.env x v) Q E c.s:=by
 cases F.ns with
 |mk m n rn=>
 refine wpAny_storeName_local hk n (λh' hn hs=>?_) (by rw[F.fn];rfl)
 have ho:∀a,a=L.env.locals->FC c.s.heap a/\a∉c.φ/\K.h₀.get? a=none:=λa e=>e▸⟨I5 n,F.G3,F.IP⟩
 have kk:∀b o,¬b=L.env.locals->c.s.heap.get? b=some o->h'.get? b=some o:=λb o hb e=>(hs.2 b hb).trans e
 have st:Di (·=L.env.locals) c (c.EF { c.s with heap:=h',toks:=c.s.toks+1 } kk ho):=Cf.GD ⟨rfl,rfl⟩ λb _ e _=>e▸AW (IA hn) λo e' _=>⟨o,e'⟩
 have ht:∀a,a=L.env.locals->FC c.s.heap a:=λa e=>(ho a e).1
 have ij:∀{y j},L.vs.lookup y=some j->y≠x->i≠j:=λhy ne e=>ne (F.inj _ x i (e▸hy) hx)
 refine h (c.EF _ kk ho) rfl rfl st ⟨F.fn,F.glob,F.blt,F.IP,F.G3,F.inj,.mk _ hn λy j hy B=>?_,λy j hy B=>?_,F.GO,λe m'=>?_⟩ ⟨EZ _,_,hn,if_pos rfl⟩
 .by_cases hyx:y=x
  .subst hyx
   have zq:=AG (hx.symm.trans hy);subst zq
   rw[if_pos rfl];exact GL.this (r.own st.toHo ht)
  .rw[if_neg hyx];exact((rn y j hy B).own st.toHo ht).other (ij hy hyx)
 .cases F.cell y j hy B with
  |mk a ov e1 e2 e3 ic rc=>
  refine .mk a ov e1 e2 e3 (Ox ic λo e=>kk a o (Jn n ic) e) ((rc.own st.toHo ht).other (ij hy ?_))
  rintro rfl
  rw[hk] at B;refine A7 B (λq=>?_) (λq=>?_) <;> cases q
 .refine Io (F.up e m') λk f m1 f1 f2 f3 n1=>?_
  by_cases hf:f=L.env.locals
  .exact⟨k,f,_,f1,f2,f3,hf▸hn⟩
  .exact⟨k,f,m1,f1,f2,f3,Px n1 λo e=>kk f o hf e⟩
theorem Ye{V:V}(F:Fr c L ρ)(hx:L.vs.lookup x=some i)(hk:L.env.kindOf x=some .cell)(r:Rel c.s.heap c.φ V v)(h:∀c':Cf K.h₀,c'.φ=c.φ->c'.σ=c.σ->Di L.own c c'->Fr c' L (ρ.set i V)->Q () c'.s):Am K.M A (fU L.env x v) Q E c.s:=by
 cases F.ns with
 |mk m n rn=>
 cases F.cell x i hx (.inl hk) with
 |mk a ov e1 e2 e3 ic rc=>
 refine wpAny_storeName_cell F.fn hk e1 ic λh' ic' hs=>?_
 have ho:∀b,b=a->FC c.s.heap b/\b∉c.φ/\K.h₀.get? b=none:=λb e=>e▸⟨QX ic,e2,e3⟩
 have kk:∀b o,¬b=a->c.s.heap.get? b=some o->h'.get? b=some o:=λb o hb e=>(hs.2 b hb).trans e
 have st:Di (·=a) c (c.EF { c.s with heap:=h' } kk ho):=Cf.GD ⟨rfl,rfl⟩ λb _ e _=>e▸AW (ic') λo e' _=>⟨o,e'⟩
 have ht:∀b,b=a->FC c.s.heap b:=λb e=>(ho b e).1
 have ij:∀{y j},L.vs.lookup y=some j->y≠x->i≠j:=λhy ne e=>ne (F.inj _ x i (e▸hy) hx)
 refine h (c.EF _ kk ho) rfl rfl (st.NH λb e=>.inr ⟨x,i,hx,hk,e▸e1⟩) ⟨F.fn,F.glob,F.blt,F.IP,F.G3,F.inj,.mk m (Px n λo e=>kk _ o (HJ (Jn n ic)) e) λy j hy B=>?_,λy j hy B=>?_,F.GO,λe m'=>?_⟩
 .refine((rn y j hy B).own st.toHo ht).other (ij hy ?_)
  rintro rfl
  rw[hk] at B;cases B
 .by_cases Z:y=x
  .subst Z
   have zq:=AG (hx.symm.trans hy);subst zq
   exact .mk a (some v) e1 e2 e3 ic' (GL.this (r.own st.toHo ht))
  .cases F.cell y j hy B with
   |mk b ov' f1 f2 f3 ic2 rc2=>
   exact .mk b ov' f1 f2 f3 (Ox ic2 λo e=>kk b o (λe=>Z (F.GO y x j i a hy hx (e▸f1) e1)) e) ((rc2.own st.toHo ht).other (ij hy Z))
 .refine Io (F.up e m') λk f m1 f1 f2 f3 n1=>?_
  exact⟨k,f,m1,f1,f2,f3,Px n1 λo e=>kk f o (HJ (Jn n1 ic)) e⟩
theorem VV{V:V}(F:Fr c L ρ)(hx:L.vs.lookup x=some i)(Z:L.env.kindOf x=some .local\/L.env.kindOf x=some .cell)(r:Rel c.s.heap c.φ V v)(h:∀B:Cf K.h₀,B.φ=c.φ->B.σ=c.σ->Di L.own c B->Fr B L (ρ.set i V)->Q () B.s):Am K.M A (fU L.env x v) Q E c.s:=
 Z.elim (λZ=>I4 F hx Z r λB e1 e2 st F' _=>h B e1 e2 (st.NH λ_ e=>.inl e) F') λZ=>Ye F hx Z r h
inductive q5(L:Loc):Expr->Nat->Prop
 |mk {x:Str} {i:Nat} {p:Pos}:L.vs.lookup x=some i->L.env.kindOf x=some .local\/L.env.kindOf x=some .cell->q5 L (.Name x p) i
abbrev MQ(L:Loc):=WL (q5 L)
inductive X9(L:Loc):Expr->j3->Prop
 |name {x:Str} {i:Nat} {p:Pos}:L.vs.lookup x=some i->L.env.kindOf x=some .local\/L.env.kindOf x=some .cell->X9 L (.Name x p) (.var i)
 |tup {es:List Expr} {is:List Nat} {k:Nat} {p:Pos}:MQ L es is->X9 L (.Tuple es k p) (.tup is)
theorem MQ.len(h:MQ L es is):(LX es L.env).length=is.length:=by
 induction h with
 |nil=>rfl
 |cons h _ B=>cases h;exact congrArg (·+1) B
theorem MQ.noStar(h:MQ L es is):(LX es L.env).findIdx? (·.1)=none:=by
 induction h with
 |nil=>rfl
 |cons h _ B=>
  cases h
  show ((false,_)::LX _ L.env).findIdx? _=none
  rw[List.findIdx?_cons,B];rfl
theorem jF(h:MQ L es is):∀{c:Cf K.h₀} {ρ Vs:List V} {us:List AV} {Q:Unit->Aj->Prop},Fr c L ρ->CF c.s.heap c.φ Vs us->is.length=Vs.length->
  (∀B:Cf K.h₀,B.φ=c.φ->B.σ=c.σ->Di L.own c B->Fr B L (RF is Vs ρ)->Q () B.s)->Am K.M A (assignInOrder ((LX es L.env).map (·.2)) us) Q E c.s:=by
 induction h with
 |nil=>
  intro c ρ Vs us Q F r Z hQ
  have zq:=By.mp Z.symm;subst zq
  exact AS (hQ c rfl rfl (.refl c) F)
 |cons h _ ih=>
  intro c ρ Vs us Q F r Z hQ
  cases Vs with
  |nil=>exact absurd Z (DS _)
  |cons V Vs=>cases us with
  |nil=>exact r.elim
  |cons u us=>
   cases h with | mk hx hk=>exact AB (Bt (Ha (VV F hx hk r.1 λc1 e1 e2 st F1=>ih F1 (r.2.own st.toHo λ_ m=>F.Gw m) (Et Z) λc2 f1 f2 st2 F2=>hQ c2 (f1.trans e1) (f2.trans e2) (st.trans st2) F2)))
theorem TB(h:X9 L t p){V:V}(hh:(∃ps,p=.tup ps)->A.handled=none)(F:Fr c L ρ)(r:Rel c.s.heap c.φ V v)(e:VS c.σ T ρ V p)(hQ:∀(B:Cf K.h₀) (Z:List Mine.Internal.V),B.φ=c.φ->B.σ=c.σ->Di L.own c B->Fr B L Z->T Z->Q () B.s):Am K.M A (mf t L.env v) Q E c.s:=by
 have kx:∀{h':Heap} {m:Nat},(∀b o,b≠m->c.s.heap.get? b=some o->h'.get? b=some o)->c.s.heap.objs.size<=m->∀b o,c.s.heap.get? b=some o->h'.get? b=some o:=λkx hm b o e=>kx b o (Bo (Ac (B7 e) hm)) e
 have go:∀{es:List Expr} {is:List Nat} {Vs:List Mine.Internal.V} {us:List AV} {h':Heap},MQ L es is->CF c.s.heap c.φ Vs us->is.length=Vs.length->T (RF is Vs ρ)->(∀b o,c.s.heap.get? b=some o->h'.get? b=some o)->
   Am K.M A (assignInOrder ((LX es L.env).map (·.2)) us) Q E { c.s with heap:=h' }:=λhn rl hl q k=>
  have st:Di Bv c (c.keep { c.s with heap:=_ } k):=Cf.Cj ⟨rfl,rfl⟩
  jF (c:=c.keep { c.s with heap:=_ } k) hn (F.step st) (rl.step st) hl λB e1 e2 st2 F2=>hQ B _ e1 e2 (st.any.trans st2) F2 q
 cases h with
 |name hx hk=>exact Ha (VV F hx hk r λB e1 e2 st F'=>hQ B _ e1 e2 st F' e)
 | @tup es is k p hn=>
  replace e:=nW e
  cases e with
  |tup hl q=>
   refine CW r λa items n ze1 g rl=>?_;subst ze1
   exact wpAny_assign_Tuple (hh ⟨_,rfl⟩) ⟨_,g,rfl,n,rfl⟩ (by rw[hn.len,hl,rl.size]) hn.noStar λh' k'=>go hn rl hl q (kx k' (Az _))
end
end Mine.Internal
namespace Mine.Internal
open PySem PySem.Calls
set_option genSizeOf false
set_option genInjectivity false
section
variable {K:Ctx}
inductive PF(c:Cf K.h₀)(L:Loc)(Q:HT):Flow->Aj->Prop
 |next (c':Cf K.h₀) (ρ':List V):Di L.own c c'->Fr c' L ρ'->Q .next ρ' c'.σ->PF c L Q .next c'.s
 |ret (c':Cf K.h₀) (ρ':List V) (V:V) (v:AV):Di L.own c c'->Fr c' L ρ'->Rel c'.s.heap c'.φ V v->Q (.ret V) ρ' c'.σ->PF c L Q (.ret v) c'.s
inductive PE(c:Cf K.h₀)(L:Loc)(Q:HT):AV->Aj->Prop
 |mk (c':Cf K.h₀) (ρ':List V) (k:Nat) (a:Addr) (fp:List Addr) (fl:Option Addr):(∀b∈fp,c.s.heap.get? b=none/\b∉c'.φ)->k∈K.O5->Di L.own c c'->Fr c' L ρ'->Exc c'.s.heap a k fp fl->fl=none\/fl=L.env.frame->Q (.exc k) ρ' c'.σ->PE c L Q (.ref a) c'.s
variable {c₀ c:Cf K.h₀} {L:Loc} {ρ:List V} {Q:HT}
theorem PF.lift(st:Di L.own c0 c)(y:PF c L Q f s):PF c0 L Q f s:=
 y.casesOn (λc' B s F q=>.next c' B (st.trans s) F q) λc' B V v s F r q=>.ret c' B V v (st.trans s) F r q
theorem PE.lift(st:Di L.own c0 c)(y:PE c L Q e s):PE c0 L Q e s:=y.casesOn λc' B k a M fl n Z s F x h q=>.mk c' B k a M fl (λb m=>⟨st.gone (n b m).1,(n b m).2⟩) Z (st.trans s) F x h q
theorem PX.nF(F:Fr c L ρ)(y:PX c (λk σ=>Q (.exc k) ρ σ) e s):PE c L Q e s:=y.casesOn λc' k a B n M st x q=>.mk c' ρ k a B none n M st.any (F.step st) x (.inl rfl) q
noncomputable abbrev Loc.fM(L:Loc):List Addr:=L.up.filterMap (·.frame)
theorem dD{h:Heap}{l:List Env}(q:∀e∈l,e.scope.kind≠.module/\∃f m,e.frame=some f/\h.Ns f m):h.FunFrames {} l:=by
 induction l with
 |nil=>trivial
 |cons e l M=>exact Ml (q e AL) λk f _ Z n=>KY (IA n) λo F _ _ d=>⟨k,⟨f,o,Z,rfl,F,λ_ B=>by injection d.symm.trans B⟩,M λB m=>q B (Ad _ m)⟩
theorem oA{l:List Env}{f:Addr}(m:f∈l.filterMap (·.frame)):∃e∈l,e.frame=some f:=Kb.mp m
def Rv(own fM:List Addr)(h h':Heap):Prop:=∀b o,b∉own->h.get? b=some o->∃sl,h'.get? b=some { o with slots:=sl }/\(b∉fM->sl=o.slots)
theorem Rv.trans(x:Rv own B h M)(y:Rv own B M h'):Rv own B h h':=λb o n e=>by
 refine AW (x b o n e) λsl e1 k1=>?_
 refine AW (y b _ n e1) λF Z k2=>?_
 exact⟨F,Z,λm=>(k2 m).trans (k1 m)⟩
theorem Rv.one(m:a∈own):Rv own B h (h.update a f):=λb o n e=>⟨o.slots,(B0 _ _ λq:a=b=>n (q▸m)).trans e,λ_=>rfl⟩
theorem Zn{M:Lq}{A:Bb}{E:AV->Aj->Prop}{s:Aj}{env:Env}{F:List Env}{f a:Addr}{oe:Obj}{vs:Array AV}{head:AV}{hadNext:Bool}{Q:Unit->Aj->Prop}(hfr:A.frames=some (env::F))(hl:s.heap.FunFrames {} (env::F))(hf:env.frame=some f)(he:s.heap.get? a=some oe)(hd:oe.data=.fields vs)(hsz:1<vs.size)(h:∀h' oT ts,h'.get? a=some (F5 (·.setIfInBounds 1 (.ref s.heap.objs.size)) oe)->h'.get? s.heap.objs.size=some oT->oT.data=.fields ts->ts[3]?=some (Cc f)->Rv [a] ((env::F).filterMap (·.frame)) s.heap h'->Q () { s with heap:=h' }) :
  Am M A (do let x <- frameOf env;let pl <- entryPlaceOf f hadNext;let b <- EntryCells.newEntry head x .none (Cc f) .none pl;KG (.ref a) 1 b) Q E s:=by
 have hna:a∉(env::F).filterMap (·.frame):=λhm=>by
  refine FH (hl.mem hm) λ_ o ho hnf=>?_
  have zq:=AG (he.symm.trans ho);subst zq;exact hnf vs hd
 refine AB (wpAny_frameOf_fun hfr hl hf λh₁ B=>?_)
 refine AB (wpAny_entryPlaceOf λpl hpl=>?_)
 refine AB (DI ?_ (hpl.sizeOk5 _ _ _ _ _))
 have Z:h₁.get? a=some oe:=(B.2.1 a hna).trans he
 refine Dx (AN _ Z) hd hsz ?_
 have hT:=B.1
 rw[hT]
 have hTa:s.heap.objs.size≠a:=Bu (B7 he)
 refine h _ _ _ (Cv _ (AN _ Z) (bh (IT hd _))) ((B0 _ _ hTa.symm).trans (by rw[<- hT];exact Aw h₁ rfl)) rfl ?_ λb o nb eb=>?_
 .rcases hpl with rfl | ⟨_,_,_,_,_,_,_,rfl⟩ <;> rfl
 .refine Cq (B.2.2 b o eb) λsl es=>?_
  refine⟨sl,(B0 _ _ λq=>nb (AM.mpr q.symm)).trans (AN _ es),λm=>?_⟩
  have:=(B.2.1 b m).trans eb
  rw[es] at this
  exact congrArg Obj.slots (AG this)
theorem cn{c:Cf K.h₀}{L:Loc}{ρ:List V}{a:Addr}{k:Nat}{B:List Addr}{fl:Option Addr}{h':Heap}(F:Fr c L ρ)(x:Exc c.s.heap a k B fl)(hn:∀b∈B,K.h₀.get? b=none/\b∉c.φ)(hu:Rv B L.fM c.s.heap h'):∃c':Cf K.h₀,c'.s={ c.s with heap:=h' }/\c'.φ=c.φ/\c'.σ=c.σ/\Ho (·∈B) c c'/\Fr c' L ρ:=by
 have fr:∀f∈L.fM,∃m,K.h₀.get? f=none/\f∉c.φ/\c.s.heap.Ns f m:=λf m=>by
  refine AW (oA m) λe he hf=>?_
  refine Io (F.up e he) λ_ f' m' e1 e2 e3 n=>?_
  have Z:=AG (hf.symm.trans e1);subst Z
  exact⟨m',e2,e3,n⟩
 have ke:∀b o,b∉B->b∉L.fM->c.s.heap.get? b=some o->h'.get? b=some o:=λb o h1 h2 e=>AW (hu b o h1 e) λsl e1 q=>by rw[e1,q h2]
 have M:∀b∈B,FC c.s.heap b:=λb m=>EX (x.fields b m) λ_ _ e d=>Th e λ_ _ e'=>by injection d.symm.trans e'
 have S:Sw K.h₀ h' c.φ c.σ:=by
  refine c.sim.keeps (own:=λb=>b∈B\/b∈L.fM) (λb o hb e=>ke b o (λm=>hb (.inl m)) (λm=>hb (.inr m)) e) λb m=>?_
  refine A7 m (λm=>?_) (λm=>?_)
  .exact⟨M b m,(hn b m).2,(hn b m).1⟩
  .refine DX (fr b m) λ_ e2 e3 n=>?_
   exact⟨I5 n,e3,e2⟩
 have st:Ho (·∈B) c ⟨{ c.s with heap:=h' },c.φ,c.σ,S⟩:=⟨⟨rfl,rfl⟩,A5 _,λb o _ hb e=>by
  by_cases hf:b∈L.fM
  .refine DX (fr b hf) λ_ _ _ n=>?_
   refine KY (IA n) λo' e' es ep d=>?_
   have Z:=AG (e.symm.trans e');subst Z
   refine AW (hu b o hb e) λsl e2 _=>?_
   exact⟨_,e2,sl,rfl,λq=>absurd d (q es ep)⟩
  .exact⟨o,ke b o hb hf e,.refl o⟩,λ_ m=>.inl m⟩
 refine⟨⟨{ c.s with heap:=h' },c.φ,c.σ,S⟩,rfl,rfl,rfl,st,F.keep st M (λf m n _ hm=>?_) λb ov ic hm=>?_⟩
 .refine EX (x.fields f hm) λ_ _ e d=>?_
  refine KY (IA n) λ_ e' _ _ d'=>?_
  have Z:=AG (e.symm.trans e');subst Z;cases d.symm.trans d'
 .refine EX (x.fields b hm) λ_ _ e d=>?_
  refine AW ic λ_ e' d'=>?_
  have Z:=AG (e.symm.trans e');subst Z;cases d.symm.trans d'
structure Od(K:Ctx)(A:Bb)(L:Loc)(c:Cf K.h₀)(ρ:List V)(a:Addr)(k:Nat)(fp:List Addr)(fl:Option Addr):Prop where
 R:A.frames=some L.up
 hu:L.up=L.env::L.up.tail
 F:Fr c L ρ
 x:Exc c.s.heap a k fp fl
 rC:fl=none\/fl=L.env.frame
 hn:∀b∈fp,K.h₀.get? b=none/\b∉c.φ
def WK{K:Ctx}(c:Cf K.h₀)(L:Loc)(ρ:List V)(a:Addr)(k:Nat)(fp:List Addr)(fl:Option Addr)(P:Aj->Prop):Prop:=
 ∀(c':Cf K.h₀) (T:Addr),c'.φ=c.φ->c'.σ=c.σ->Ho (·∈fp) c c'->Fr c' L ρ->Exc c'.s.heap a k [a,T] fl->(∀b∈[a,T],b∈fp\/c.s.heap.get? b=none)->P c'.s
theorem WK.use(h:WK c L ρ a k B fl' P)(z:Od K A L c ρ a k B fl)(hu:Rv B L.fM c.s.heap h')(ex:Exc h' a k [a,T] fl')(hT:T∈B\/c.s.heap.get? T=none):P { c.s with heap:=h' }:=by
 refine H6 (cn z.F z.x z.hn hu) λc' M e2 Z st F'=>?_
 exact M▸h c' T e2 Z st F' (by rw[M];exact ex) λb m=>(Ao.mp m).elim (λq=>.inl (q▸z.x.mem)) λm=>AM.mp m▸hT
theorem P0{A:Bb}{L:Loc}{c:Cf K.h₀}{ρ:List V}{a:Addr}{k:Nat}{fp:List Addr}{fl:Option Addr}{E:AV->Aj->Prop}{P:Aj->Prop}(z:Od K A L c ρ a k fp fl)(h:WK c L ρ a k fp L.env.frame P) :
  Am K.M A (noteFrame (.ref a) L.env) (λ_ s=>P s) E c.s:=by
 refine IG (z.F.up L.env (z.hu▸AL)) λ_ f _ hf _ _=>?_
 have hfr:A.frames=some (L.env::L.up.tail):=z.hu▸z.R
 have hfe:some (Cc f)=some (L.env.frame.elim .none λf=>Cc f):=by rw[hf];rfl
 have fM:(L.env::L.up.tail).filterMap (·.frame)=L.fM:=congrArg (List.filterMap (·.frame)) z.hu.symm
 have ff:∀{h:Heap},(∀b m,c.s.heap.Ns b m->h.Ns b m)->h.FunFrames {} (L.env::L.up.tail):=λ{h} kn=>dD λe m=>by
  rw[<- z.hu] at m
  refine Io (z.F.up e m) λB f m' e1 _ _ n=>?_
  exact⟨B,f,m',e1,kn _ _ n⟩
 unfold noteFrame
 simp only[hf]
 cases hx:z.x with
 |new oe vs a0 e hc d h0 B h2=>
  have hsz:=(D8.mp B).1
  refine AB (Df e d B ?_)
  rw[if_neg (by decide)]
  refine Zn hfr (ff λ_ _ n=>n) hf e d hsz λh' oT ts g1 g2 g3 g4 g5=>?_
  exact h.use z (fM▸g5) (.seen _ _ a0 _ oT ts _ g1 ((Obj.cls_mapFields ..).trans hc) (IT d _) (by rw[Fv (by decide)];exact h0) (by rw[G9 hsz]) (Bu (B7 e)) g2 g3 (g4.trans hfe) (by rw[Fv (by decide)];exact h2)) (.inr Nh)
 |seen oe vs a0 T oT ts fl e hc d h0 B hne heT Z h3 h2=>
  have hsz:=(D8.mp B).1
  have ht:fl=none\/fl=some f:=z.rC.imp id λq=>q.trans hf
  refine AB (Df e d B ?_)
  rw[if_pos (show (Cm T != Ba)=true from rfl)]
  refine AB (Df heT Z h3 ?_)
  rcases ht with rfl | rfl
  .rw[if_neg (show ¬(((none:Option Addr).elim Ba (λf=>Cc f)==Cc f)=true) from by simp[Cc])]
   refine AB (Dx heT Z (D8.mp h3).1 ?_)
   have e':=(B0 c.s.heap (F5 (·.setIfInBounds 3 Ba)) hne).trans e
   have hs:(c.s.heap.update T (F5 (·.setIfInBounds 3 Ba))).objs.size=c.s.heap.objs.size:=Heap.size_after_update ..
   refine Zn hfr (ff λb m n=>?_) hf e' d hsz λh' oT ts g1 g2 g3 g4 g5=>?_
   .refine CW n λo es ep eo dd r=>?_
    exact⟨o,es,ep,(B0 _ _ λq=>by rw[<- q,heT] at eo;have zq:=AG eo;subst zq;cases dd.symm.trans Z).trans eo,dd,r⟩
   .rw[hs] at g1 g2
    exact h.use z ((Rv.one (Ad _ AL)).trans λb o nb eb=>fM▸g5 b o (λm=>nb (Ao.mpr (.inl (AM.mp m)))) eb) (.seen _ _ a0 _ oT ts _ g1 ((Obj.cls_mapFields ..).trans hc) (IT d _) (by rw[Fv (by decide)];exact h0) (by rw[G9 hsz]) (Bu (B7 e)) g2 g3 (g4.trans hfe) (by rw[Fv (by decide)];exact h2)) (.inr Nh)
  .rw[if_pos (show ((some f).elim Ba (λf=>Cc f)==Cc f)=true from by simp)]
   exact AS (h c T rfl rfl (Di.refl c).toHo z.F (hf▸z.x) λ_ m=>.inl m)
theorem Hu(z:Od K A L c ρ a k [a,T] fl)(h:WK c L ρ a k [a,T] fl' P) :
  Am K.M A (fV (.ref a) fl') (λ_ s=>P s) E c.s:=by
 have x:=z.x
 generalize hfp:[a,T]=fp at x
 cases x with
 |new=>cases hfp
 |seen oe vs a0 T' oT ts fl e hc d h0 h1 Z F B h3 h2=>
  cases hfp
  have hsz:3<ts.size:=(D8.mp h3).1
  refine AB (Df e d h1 ?_)
  rw[if_pos (show (Cm T != Ba)=true from rfl)]
  refine Dx F B hsz ?_
  exact h.use z (.one (Ad _ AL)) (.seen oe vs a0 T _ _ fl' ((B0 _ _ Z).trans e) hc d h0 h1 Z (Cv _ F (bh (IT B _))) (IT B _) (by rw[G9 hsz]) h2) (.inl (Ad _ AL))
theorem lN(z:Od K A L c ρ a k fp fl)(h:WK c L ρ a k fp none P) :
  Am K.M A (leaving L.env (.ref a)) (λ_ s=>P s) E c.s:=by
 refine AB (P0 (P:=λs=>Am K.M A (fV (.ref a) none) (λ_ s=>P s) E s) z λc' T F e2 st F' ex hp=>?_)
 have new:∀b∈[a,T],b∈fp\/c.s.heap.get? b=none:=hp
 refine Hu ⟨z.R,z.hu,F',ex,.inr rfl,λb m=>F.symm▸(hp b m).elim (z.hn b) λq=>⟨c.sim.DL q,c.sim.out q⟩⟩ λc'' T' f1 f2 B F'' ex' hp'=>h c'' T' (f1.trans F) (f2.trans e2) ⟨⟨B.only.1.trans st.only.1,B.only.2.trans st.only.2⟩,st.pre.trans B.pre,λb o h1 h2 e=>?_,λb m=>.inl (by rw[f1,F] at m;exact m)⟩ F'' ex' λb m=>(Nn (b∈fp)).imp id λhb=>?_
 .refine AW (st.keep b o h1 h2 e) λo1 Z k1=>?_
  exact AW (B.keep b o1 (F.symm▸h1) (λm=>(hp b m).elim h2 λq=>by rw[q] at e;cases e) Z) λo2 g2 k2=>⟨o2,g2,k1.trans k2⟩
 .cases e:c.s.heap.get? b with
  |none=>rfl
  |some o=>
   refine(hp' b m).elim (λm=>(hp b m).elim (λm=>absurd m hb) λq=>by rw[q] at e;cases e) λq=>?_
   refine(Nn (b∈c.φ)).elim (λm=>?_) λn=>AW (st.keep b o n hb e) λo1 Z _=>by rw[q] at Z;cases Z
   exact(c'.sim.at (F.symm▸m)).casesOn λob g _ _=>by rw[q] at g;exact absurd g.symm (AY _)
theorem PE.at(R:L6 K L.up A)(hu:L.up=L.env::L.up.tail)(x:PE c L Q e s):∃(c':Cf K.h₀) (B:List V) (k:Nat) (a:Addr) (M:List Addr) (fl:Option Addr),e=.ref a/\c'.s=s/\Od K A L c' B a k M fl/\k∈K.O5/\Q (.exc k) B c'.σ/\Di L.own c c'/\
  ∀b∈M,c.s.heap.get? b=none/\b∉c'.φ:=x.casesOn λc' B k a M fl n Z st F x h q=>⟨c',B,k,a,M,fl,rfl,rfl,⟨R.fr,hu,F,x,h,λb m=>⟨c.sim.DL (n b m).1,(n b m).2⟩⟩,Z,q,st,n⟩
theorem LI{c c' F:Cf K.h₀}{M B:List Addr}{own:Addr->Prop}(Z:F.φ=c'.φ)(st:Di own c c')(n:∀b∈M,c.s.heap.get? b=none/\b∉c'.φ)(h:∀b∈B,b∈M\/c'.s.heap.get? b=none):∀b∈B,c.s.heap.get? b=none/\b∉F.φ:=λb m=>
 Z▸(h b m).elim (n b) λe=>⟨st.gone e,c'.sim.out e⟩
inductive PN(c:Cf K.h₀)(L:Loc)(Q:HT):AV->Aj->Prop
 |mk (c':Cf K.h₀) (ρ':List V) (k:Nat) (a T:Addr):(∀b∈[a,T],c.s.heap.get? b=none/\b∉c'.φ)->k∈K.O5->Di L.own c c'->Fr c' L ρ'->Exc c'.s.heap a k [a,T] L.env.frame->Q (.exc k) ρ' c'.σ->PN c L Q (.ref a) c'.s
theorem PE.note{A:Bb}{e:AV}{s:Aj}(R:L6 K L.up A)(hu:L.up=L.env::L.up.tail)(x:PE c L Q e s):notedBy K.M A L.env (PN c L Q) e s:=by
 refine GR (x.at R hu) λc' B k a fp fl Z ze2 z hk q st n=>?_;subst Z;subst ze2
 exact P0 (P:=λs=>PN c L Q (.ref a) s) z λF T e1 e2 st' F' ex hp=>.mk F B k a T (LI e1 st n hp) hk (st.DR st' λb m=>(n b m).1) F' ex (e2▸q)
theorem Exc.mR(x:Exc h a k [a,T] fl):∃B vs,h.get? a=some B/\B.data=.fields vs/\vs[1]?=some (.ref T):=by
 cases x with
 |seen B vs a0 T' oT ts fl e hc d h0 F hne Z M h3 h2=>exact⟨B,vs,e,d,F⟩
theorem PN.x3{A:Bb}{e:AV}{s:Aj}(R:L6 K L.up A)(hu:L.up=L.env::L.up.tail)(y:PN c L Q e s):cameBackBy K.M A L.env (PE c L Q) e s:=y.casesOn λc' B k a T n hk st F x q=>by
  have z:Od K A L c' B a k [a,T] L.env.frame:=⟨R.fr,hu,F,x,.inr rfl,λb m=>⟨c.sim.DL (n b m).1,(n b m).2⟩⟩
  refine ES x.mR λoe vs e d h1=>?_
  refine AB (Df e d h1 ?_)
  rw[if_neg (show ¬(Cm T==Ba)=true from λh=>by injection h)]
  exact Hu (P:=λs=>PE c L Q (.ref a) s) z λZ T e1 e2 st' F' ex hp=>.mk Z B k a [a,T] L.env.frame (LI e1 st n hp) hk (st.DR st' λb m=>(n b m).1) F' ex (.inr rfl) (e2▸q)
end
section
variable (K:Ctx) (L:Loc)
def Wz(st:Stmt)(a:Sx):Prop:=∀(A:Bb) (c:Cf K.h₀) (ρ:List V) (Q:HT),L6 K L.up A->Fr c L ρ->a K.C ρ c.σ Q->Am K.M A (exec st L.env) (PF c L Q) (PE c L Q) c.s
def Oz(st:List Stmt)(a:List Sx):Prop:=∀(A:Bb) (c:Cf K.h₀) (ρ:List V) (Q:HT),L6 K L.up A->Fr c L ρ->Ek a K.C ρ c.σ Q->Am K.M A (execs st L.env) (PF c L Q) (PE c L Q) c.s
structure j8(K:Ctx)(up:List Env)(A:Bb):Prop where
 hd:A.handled=K.hx.map Cm
 depth:A.depth+3*K.d<901
 units:A.units+12*K.d<9000
 fr:A.frames=some up
def lC(st:List Stmt)(a:List Sx):Prop:=∀(A:Bb) (c:Cf K.h₀) (ρ:List V) (Q:HT),j8 K L.up A->Fr c L ρ->Ek a K.C ρ c.σ Q->Am K.M A (execs st L.env) (PF c L Q) (PE c L Q) c.s
end
theorem j8.ok{K:Ctx}{up:List Env}{A:Bb}(R:j8 K up A):L6 K up A:=⟨R.hd,ED R.depth,Ac R.units (by decide),R.fr⟩
theorem Oz.f(h:Oz K L st a):lC K L st a:=λA c ρ Q R F q=>h A c ρ Q R.ok F q
def YZ(e:Expr):Prop:=∀t l env,M7 e t l env=pure false
section
variable {K:Ctx} {L:Loc}
theorem qA(F:Fr c L ρ)(h:Am K.M A m (PV c T) (PX c λk σ=>Q (.exc k) ρ σ) c.s)(k:∀(c1:Cf K.h₀) (V:V) (v:AV),Di Bv c c1->Rel c1.s.heap c1.φ V v->T V c1.σ->P v c1.s):Am K.M A m P (PE c L Q) c.s:=
 Ax h (λv _ y=>y.casesOn λc1 V s1 r q=>k c1 V v s1 r q) λ_ _ x=>x.nF F
theorem lV(st:Di Bv c0 c)(F:Fr c0 L ρ)(h:Am K.M A m (PV c T) (PX c λk σ=>Q (.exc k) ρ σ) c.s)(k:∀(c1:Cf K.h₀) (V:V) (v:AV),Di Bv c0 c1->Di Bv c c1->Rel c1.s.heap c1.φ V v->T V c1.σ->P v c1.s):Am K.M A m P (PE c0 L Q) c.s:=
 Ax h (λv _ y=>y.casesOn λc1 V s1 r q=>k c1 V v (st.trans s1) s1 r q) λ_ _ x=>(x.lift st).nF F
theorem Qn(h:env.scope.kind=.function):interactive env=false:=by unfold interactive;rw[h];rfl
theorem kT{pos}(B:YZ e)(h:FE K L e a):Wz K L (.Expr e pos) (Eh a):=λA c ρ _ R F q=>
 wpAny_Expr_any (qA F (h A c ρ _ _ R F q) λc1 _ _ s1 _ M=>.next c1 ρ s1.any (F.step s1) M) (Qn F.fn) (B _ _ _)
theorem nY{pos}(h:FE K L e a):Wz K L (.Return (some e) pos) (CE a):=λA c ρ _ R F q=>
 Hb (qA F (h A c ρ _ _ R F q) λc1 V v s1 r B=>.ret c1 ρ V v s1.any (F.step s1) r B)
theorem gN{pos}:Wz K L (.Return none pos) qh:=λ_ c ρ _ _ F q=>wpAny_Return_none (.ret c ρ .none .none (.refl c) F Kv q)
theorem kW{pos}:Wz K L (.Pass pos) qu:=λ_ c ρ _ _ F q=>AB (Ep (AS (.next c ρ (.refl c) F q)))
theorem Ni{pos}(hc:M7 value (some t) pos.line L.env=pure false)(hw:swappedStores [t] value L.env=pure none)(M:(LX [t] L.env).map (·.2)=[mf t L.env])(ht:X9 L t p)(hp:(∃ps,p=.tup ps)->K.hx=none)(h:FE K L value a) :
  Wz K L (.Assign [t] value pos) (BR p a):=λA c ρ _ R F q=>
 Pn (qA F (h A c ρ _ _ R F q) λc1 _ v s1 r q1=>M▸TB ht (λh=>R.pl (hp h)) (F.step s1) r q1 λc2 B _ e2 s2 Z q2=>.next c2 B (s1.any.trans s2) Z (e2▸q2)) hc hw
theorem fm:Oz K L [] []:=λ_ c ρ _ _ F q=>Nv (.next c ρ (.refl c) F q)
theorem eC(h:Wz K L st a)(hs:Oz K L Z as):Oz K L (st::Z) (a::as):=λA c ρ Q R F q=>
 Em (Ax (h A c ρ _ R F q) (λ_ _ y=>y.casesOn (λc1 B s1 F1 q1=>Ax (hs A c1 B Q R F1 q1) (λ_ _ z=>z.lift s1) λ_ _ z=>z.lift s1)
  λc1 B V v s1 F1 r q1=>.ret c1 B V v s1 F1 r q1) λ_ _ x=>x.casesOn λc' M k a fp fl n hk s F x h q=>.mk c' M k a fp fl n hk s F x h q)
theorem t6{pos}(ht:nA K L B t)(hb:Oz K L b b')(Z:Oz K L o o'):Wz K L (.If B b o pos) (Fy t b' o'):=λA c ρ Q R F q=>
 wpAny_If (Ax (ht A c ρ _ _ R F q) (λx _ y=>by
  cases x with
  |true=>exact y.casesOn λc1 s1 M=>Ax (hb A c1 ρ Q R (F.step s1) M) (λ_ _ z=>z.lift s1.any) λ_ _ z=>z.lift s1.any
  |false=>exact y.casesOn λc1 s1 M=>Ax (Z A c1 ρ Q R (F.step s1) M) (λ_ _ z=>z.lift s1.any) λ_ _ z=>z.lift s1.any) λ_ _ x=>x.nF F)
end
inductive Jx(h:Heap)(b:Addr):Prop
 |mk (o:Obj) (us:Array AV) (n:String):h.get? b=some o->o.data=.fields us->o.cls=.type n->(∀x t,us[1]?≠some (.str x t))->Jx h b
theorem Jx.Gw(x:Jx h b):FC h b:=x.casesOn λ_ _ _ e d _ _=>Th e λ_ _ B=>by injection d.symm.trans B
theorem Jx.out(S:Sw Z h F σ)(x:Jx h b):b∉F:=λm=>x.casesOn λ_ us n e d k q=>(S.at m).casesOn λ_ B _ M=>FR (M us n (AG (B.symm.trans e)▸d) (AG (B.symm.trans e)▸k)) q
theorem Jx.mM(x:Jx h b)(n:h.Ns b m):False:=x.casesOn λ_ _ _ e d _ _=>KY (IA n) λ_ B _ _ F=>by injection d.symm.trans ((congrArg Iv (AG (e.symm.trans B))).trans F)
theorem Jx.b0(x:Jx h b)(n:h.IsCell b v):False:=x.casesOn λ_ _ _ e d _ _=>AW n λ_ B F=>by injection d.symm.trans ((congrArg Iv (AG (e.symm.trans B))).trans F)
theorem Jx.noDict(x:Jx h b)(e:h.get? b=some o):∀es ep,o.data≠.dict es ep:=λ_ _ q=>x.casesOn λ_ _ _ B d _ _=>by injection d.symm.trans ((congrArg Iv (AG (B.symm.trans e))).trans q)
section
variable {K:Ctx}
inductive nO(fp:List Addr)(c:Cf K.h₀)(P:Cf K.h₀->Prop):Aj->Prop
 |mk (c':Cf K.h₀):c'.φ=c.φ->c'.σ=c.σ->Ho (·∈fp) c c'->P c'->nO fp c P c'.s
def NX:AV->Aj->Prop:=λ_ _=>False
variable (K) in
structure pW(A:Bb)(t:Expr)(I:Addr)(fp:List Addr)(items:List V)(same:Af->Prop)(St:Nat->Cf K.h₀->Prop):Prop where
 new:∀b∈fp,K.h₀.get? b=none
 mine:∀i c,St i c->∀b∈fp,Jx c.s.heap b
 frame:∀i (c c':Cf K.h₀),St i c->c.φ<+:c'.φ->same c'.σ->(∀b∈fp,∀o,c.s.heap.get? b=some o->c'.s.heap.get? b=some o)->(∀V v,Rel c.s.heap c.φ V v->Rel c'.s.heap c'.φ V v)->St i c'
 item:∀i V c,items[i]?=some V->St i c->Am K.M A (J5 (.ref I)) (λr s₁=>∃v,r=some v/\Am K.M A (letOwnedTupleGo t (.ref I) v) (λ_ s₂=>nO fp c (λc'=>Rel c'.s.heap c'.φ V v/\St (i+1) c') s₂) NX s₁) NX c.s
 done:∀c,St items.length c->Am K.M A (J5 (.ref I)) (λr s₁=>r=none/\nO fp c (λ_=>True) s₁) NX c.s
variable (K) in
def Og(A:Bb)(I:Addr)(St:Nat->Cf K.h₀->Prop):Prop:=∀i c,St i c->Am K.M A (mW (.ref I)) (λv s₁=>v=.ref I/\s₁=c.s) NX c.s
variable {c c':Cf K.h₀} {L:Loc} {ρ:List V}
theorem Fr.iter{M:List Addr}(F:Fr c L ρ)(B:∀b∈M,Jx c.s.heap b)(st:Ho (·∈M) c c'):Fr c' L ρ:=
 F.keep st (λb m=>(B b m).Gw) (λf _ n _ m=>(B f m).mM n) λb _ Z m=>(B b m).b0 Z
theorem Fr.uE(F:Fr c L ρ)(x:Jx c.s.heap b):¬L.own b:=λh=>h.elim (λe=>F.ns.casesOn λ_ n _=>x.mM (e▸n)) λh=>ES h λy i hy B M=>(F.cell y i hy (.inl B)).casesOn λ_ _ e1 _ _ Z _=>x.b0 (AG (e1.symm.trans M)▸Z)
theorem hU{A:Bb}{Q:HT}{t:Expr}{p:j3}{I:Addr}{fp:List Addr}{items:List V}{same:Af->Prop}{St:Nat->Cf K.h₀->Prop}{body:List Stmt}{body':List Sx}{cp:Cf K.h₀}(hu:L.up=L.env::L.up.tail)(R:L6 K L.up A)(st₀:Di Bv cp c)(hfp:∀b∈fp,cp.s.heap.get? b=none)(W:pW K A t I fp items same St)(ht:X9 L t p)(hp:(∃ps,p=.tup ps)->K.hx=none)(hb:Oz K L body body')(F:Fr c L ρ)(h0:St 0 c)(q:Nb (MF K.C p body') same items ρ c.σ Q) :
  Lp K.M A (.forLoop t (.ref I) body [] L.env) (λr s'=>match r with | .ok f=>PF cp L Q f s' | .error e=>PN cp L Q e s') c.s:=by
 refine codeAny_forLoop_any (λn s'=>∃i c' ρ',c'.s=s'/\(i+n=items.length+1/\i<=items.length)/\Di L.own cp c'/\Fr c' L ρ'/\St i c'/\Nb (MF K.C p body') same (items.drop i) ρ' c'.σ Q) ?_ (items.length+1)
  ⟨0,c,ρ,rfl,⟨Be _,BM _⟩,st₀.any,F,h0,q⟩
 intro n s' hI
 refine Cq hI λi zh=>Ej zh λc' ρ' e hn stp F' st' q'=>?_;subst e
 refine A7 (Fp i items.length) (λhlt=>?_) (λhge=>?_)
 .rw[FX hlt] at q'
  have mine:=W.mine i c' st'
  refine Ax (W.item i items[i] c' (AO hlt) st') (λr s₁ z=>AW z λv e y=>?_) λ_ _ e=>e.elim
  subst e
  refine Ax y (λ_ s₂ z=>?_) λ_ _ e=>e.elim
  refine z.casesOn λc₂ e1 e2 s₂ rs=>?_
  have rl:=rs.1
  have st₂:=rs.2
  have F₂:=F'.iter mine s₂
  have stp₂:Di L.own cp c₂:=stp.DR s₂ hfp
  have mine₂:=W.mine (i+1) c₂ st₂
  refine TB (T:=λρ₁=>Ek body' K.C ρ₁ c₂.σ (QV (λρ₂ σ₂=>same σ₂/\Nb (MF K.C p body') same (items.drop (i+1)) ρ₂ σ₂ Q) Q)) ht (λh=>R.pl (hp h)) F₂ rl (e2▸q') λc₃ ρ₃ f1 f2 s₃ F₃ q₃=>?_
  refine Ax (hb A c₃ ρ₃ _ R F₃ (f2.symm▸q₃)) (λf B y=>?_) λe B y=>(PE.lift (stp₂.trans s₃) ?_:PE cp L Q e B).note R hu
  .have go:∀{Z:Cf K.h₀} {ρ₄:List V},Di L.own c₃ Z->Fr Z L ρ₄->same Z.σ->Nb (MF K.C p body') same (items.drop (i+1)) ρ₄ Z.σ Q->
     ∃m,m<n/\∃i c' ρ',c'.s=Z.s/\(i+m=items.length+1/\i<=items.length)/\Di L.own cp c'/\Fr c' L ρ'/\St i c'/\Nb (MF K.C p body') same (items.drop i) ρ' c'.σ Q:=λ{Z ρ₄} B F₄ hs hq=>
    ⟨n-1,by exact Dy .lt .v0 .v1 (.q (.a .v0 .n1) .v1 .e) rfl (Ag (HW .le .n1 .v0 (.t .v1 .v2 (.p (.a .v1 .v0) (.a .v2 .n1) .e)) rfl hlt hn.1)),i+1,Z,ρ₄,rfl,⟨by exact BC (Ll .le (.a (.a .v0 .n1) .v1) (.a .v2 .n1) (.q (.a .v1 .n1) .v3 (.q (.a .v0 .v3) (.a .v2 .n1) .e)) rfl (Ag (HW .le .n1 .v0 (.t .v1 .v2 (.p (.a .v1 .v0) (.a .v2 .n1) .e)) rfl hlt hn.1)) hn.1) (Ll .le (.a .v0 .n1) (.a (.a .v1 .n1) .v2) (.p (.a .v1 .v3) (.a .v0 .n1) (.p (.a .v2 .n1) .v3 .e)) rfl hn.1 (Ag (HW .le .n1 .v0 (.t .v1 .v2 (.p (.a .v1 .v0) (.a .v2 .n1) .e)) rfl hlt hn.1))),hlt⟩,(stp₂.trans s₃).trans B,F₄,W.frame (i+1) c₂ Z st₂ (f1▸s₃.pre.trans B.pre) hs
     (λb hb o e=>(s₃.trans B).PZ (Jx.out c₂.sim (mine₂ b hb)) (F₂.uE (mine₂ b hb)) ((mine₂ b hb).noDict e) e) λV v r=>r.own (s₃.trans B).toHo λ_ m=>F₂.Gw m,hq⟩
   exact y.casesOn (λZ ρ₄ B F₄ q₄=>go B F₄ q₄.1 q₄.2) λZ ρ₄ V u B F₄ r q₄=>.ret Z ρ₄ V u ((stp₂.trans s₃).trans B) F₄ r q₄
  .exact y.casesOn λZ ρ₄ k a fp fl n hk B F₄ ex h q₄=>.mk Z ρ₄ k a fp fl n hk B F₄ ex h q₄
 .have zq:=BC hn.2 hge;subst zq
  rw[EV] at q'
  refine Ax (W.done c' st') (λr s₁ zz=>zz.elim λe z=>?_) λ_ _ e=>e.elim
  subst e
  exact z.casesOn λc₂ e1 e2 s₂ _=>Nv (.next c₂ ρ' (stp.DR s₂ hfp) (F'.iter (W.mine _ c' st') s₂) (e2▸q'))
end
end Mine.Internal
namespace Mine.Internal
open PySem PySem.Calls
set_option genSizeOf false
set_option genInjectivity false
noncomputable def bz(n:String):Bool:=!["enumerate", "zip", "dict_itemiterator", "dict_reverseitemiterator", "odict_iterator", "itertools.zip_longest", "itertools.pairwise"].contains n
set_option backward.match.sparseCases true in
theorem IE(Z:s.heap.get? I=some o)(hc:o.cls=.type n)(hn:bz n=true)(B:Q () s):Am M A (letOwnedTupleGo t (.ref I) v) Q E s:=by
 have F:∀a:Addr,Am M A (do
   let o <- load I
   match o.cls,o.data with
   | .type n,.fields vs=>
    if ["enumerate", "zip", "dict_itemiterator", "dict_reverseitemiterator", "odict_iterator", "itertools.zip_longest", "itertools.pairwise"].contains n&&vs[0]?==some (Cc a) then
     rule "for.unpacks-the-owned-tuple"
     updateField I 0 .none
   |_,_=>pure ()) Q E s:=λa=>by
  refine AB (wpAny_load Z ?_)
  obtain⟨_,_,dt,_⟩:=o
  subst hc
  cases dt <;> first | exact AS B | skip
  refine(?_:Am M A (if (_&&_)=true then _ else pure ()) Q E s)
  rw[if_neg λh=>BQ.mp ((CB _).mp hn) (AJ.mp h).1]
  exact AS B
 cases t <;> first
  |exact AS B
  | (cases v <;> first | exact AS B | exact F _)
section
variable {K:Ctx} {A:Bb} {t:Expr} {c:Cf K.h₀}
theorem Rm(new:∀b∈F,K.h₀.get? b=none)(B:∀b∈F,Jx c.s.heap b)(k:∀b o,b∉F->c.s.heap.get? b=some o->h'.get? b=some o)(q:∀M:Cf K.h₀,M.φ=c.φ->M.σ=c.σ->M.s.heap=h'->Ho (·∈F) c M->P M):nO F c P { c.s with heap:=h',toks:=tk }:=
 have Z:∀a,a∈F->FC c.s.heap a/\a∉c.φ/\K.h₀.get? a=none:=λa m=>⟨(B a m).Gw,(B a m).out c.sim,new a m⟩
 have st:Ho (·∈F) c (c.EF { c.s with heap:=h',toks:=tk } k Z):=⟨⟨rfl,rfl⟩,A5 _,λb o _ hb e=>⟨o,k b o hb e,.refl o⟩,λ_ m=>.inl m⟩
 .mk (c.EF { c.s with heap:=h',toks:=tk } k Z) rfl rfl st (q _ rfl rfl rfl st)
theorem one{P:Addr->Prop}(h:P I):∀b∈[I],P b:=λ_ m=>AM.mp m▸h
theorem MD{I:Addr}{h h':Heap}(x:∀b o,b≠I->h.get? b=some o->h'.get? b=some o):∀b o,b∉[I]->h.get? b=some o->h'.get? b=some o:=λb o m e=>x b o (λq=>m (AM.mpr q)) e
theorem Gr(x:h.IsListIter I a i):Jx h I:=by refine DX x λo e k d=>?_;exact .mk o _ _ e d k (λ_ _ q=>by simp at q)
theorem Ke{h h':Heap}{I a:Addr}{i:Nat}(x:h.IsListIter I a i)(k:∀o,h.get? I=some o->h'.get? I=some o):h'.IsListIter I a i:=by refine AW x λo e r=>?_;exact⟨o,k o e,r⟩
theorem kR{I:Addr}{n:Nat}{Vs:List V}(hh:A.handled=K.hx.map Cm)(M:K.h₀.get? I=none):pW K A t I [I] Vs (λσ'=>σ'[n]?=some (.list Vs)) (λi c=>c.σ[n]?=some (.list Vs)/\∃a,c.φ[n]?=some a/\c.s.heap.IsListIter I a i) where
 new:=one M
 mine _ _ x:=by refine FH x λ_ _ _ it=>?_;exact one (Gr it)
 frame _ _ _ x hp hs k _:=by refine FH x λ_ a F it=>?_;exact⟨hs,a,IF hp F,Ke it (k I (AM.mpr rfl))⟩
 item i V c hV x:=by
  refine FH x λes a F hit=>?_
  refine FZ (Cf.list (v:=.ref a) es ⟨a,rfl,F⟩) λa' items z e1 ea' g Z _=>?_
  cases e1
  refine AW (Z.get hV) λv ev rv=>?_
  refine wpAny_pyNext_list_item hit ⟨_,g,rfl,z,rfl⟩ (BA▸ev) λh' B hs'=>⟨v,rfl,?_⟩
  refine DX (id B) λo' e' k' d'=>?_
  exact IE e' k' (by decide) (Rm (tk:=c.s.toks) (one M) (one (Gr hit)) (MD hs'.extBut) λc' f1 f2 f3 st=>⟨rv.own st (one (Gr hit).Gw),f2.symm▸es,a,f1.symm▸F,f3.symm▸B⟩)
 done c x:=by
  refine FH x λes a F hit=>?_
  refine FZ (Cf.list (v:=.ref a) es ⟨a,rfl,F⟩) λa' items z e1 ea' g Z _=>?_
  cases e1
  exact gw (bA hh M) hit ⟨_,g,rfl,z,rfl⟩ (CQ (CK Z.size)) λh' he'=>⟨rfl,Rm (tk:=c.s.toks) (one M) (one (Gr hit)) (MD he') λ_ _ _ _ _=>trivial⟩
theorem dS{n:Nat}{Vs:List V}:Og K A I (λi c=>c.σ[n]?=some (.list Vs)/\∃a,c.φ[n]?=some a/\c.s.heap.IsListIter I a i):=λ_ _ x=>FH (x) λ_ _ _ hit=>wpAny_pyIter_listiter hit ⟨rfl,rfl⟩
theorem LP(x:VH h I a b d):Jx h I:=.mk _ _ _ x rfl rfl (λ_ _ q=>by simp[Cc] at q)
theorem dY{I:Addr}{a:Int}{n:Nat}(hh:A.handled=K.hx.map Cm)(F:K.h₀.get? I=none):pW K A t I [I] (OW a n) (λ_=>True) (λi c=>VH c.s.heap I (a+i) ((n:Int)-i) 1) where
 new:=one F
 mine _ _ x:=one (LP x)
 frame _ _ _ x _ _ k _:=k I (AM.mpr rfl) _ x
 item i V c hV x:=by
  obtain⟨rfl,hi⟩:=Sr n a i V hV
  refine wpAny_pyNext_range_item x (Int.sub_pos_of_lt (BH.mpr hi)) λh' B M=>⟨_,rfl,IE B rfl (by decide) (Rm (one F) (one (LP x)) (MD M.extBut) λc' f1 f2 f3 st=>⟨Fq,?_⟩)⟩
  rw[f3,Int.natCast_succ,<- OS,<- Int.sub_sub]
  exact B
 done c x:=cW (bA hh F) x (by rw[RG,Int.sub_self];exact DG 0) λh' Z=>⟨rfl,Rm (tk:=c.s.toks) (one F) (one (LP x)) (MD Z) λ_ _ _ _ _=>trivial⟩
theorem Xf:Og K A I (λi c=>VH c.s.heap I (a+i) ((n:Int)-i) 1):=λ_ _ x=>wpAny_pyIter_rangeiter x ⟨rfl,rfl⟩
theorem two{P:Addr->Prop}(h:P I)(h':P J):∀b∈[I,J],P b:=λ_ m=>(Ao.mp m).elim (λe=>e▸h) λm=>AM.mp m▸h'
theorem Tj(x:IsEnum h I J i B):Jx h I:=.mk _ _ _ x rfl rfl (λ_ _ q=>by simp[Cc] at q)
theorem iF{I J:Addr}{n:Nat}{Vs:List V}{es:List Expr}{k:Nat}{p:Pos}(hh:A.handled=none)(hI:K.h₀.get? I=none)(hJ:K.h₀.get? J=none)(hIJ:I≠J) :
  pW K A (.Tuple es k p) I [I,J] (V1 0 Vs) (λσ'=>σ'[n]?=some (.list Vs)) (λi c=>c.σ[n]?=some (.list Vs)/\∃a old,c.φ[n]?=some a/\IsEnum c.s.heap I J i old/\c.s.heap.IsListIter J a i) where
 new:=two hI hJ
 mine _ _ x:=by refine IG x λ_ _ _ _ e it=>?_;exact two (Tj e) (Gr it)
 frame _ _ _ x hp hs k _:=by refine IG x λ_ a old ea e it=>?_;exact⟨hs,a,old,IF hp ea,k I AL _ e,Ke it (k J (Ad _ AL))⟩
 item i V c hV x:=by
  refine IG x λes a old ea he hit=>?_
  refine AW (WY Vs 0 i V hV) λW hW ze1=>?_;subst ze1
  refine FZ (Cf.list (v:=.ref a) es ⟨a,rfl,ea⟩) λa' items z e1 ea' g rl _=>?_
  cases e1
  refine AW (rl.get hW) λv ev rv=>?_
  refine wpAny_pyNext_enum_item he hit ⟨_,g,rfl,z,rfl⟩ (BA▸ev) hIJ λh₁ heo hit₁ ht₁ hz₁ hk₁=>⟨_,rfl,?_⟩
  refine wpAny_letOwnedTupleGo_enum heo λh₂ he₂ hs₂=>?_
  have mine:=two (P:=Jx c.s.heap) (Tj he) (Gr hit)
  refine Rm (two hI hJ) mine (λb o m e=>?_) λc' f1 f2 f3 st=>⟨?_,f2.symm▸es,a,v,f1.symm▸ea,?_,?_⟩
  .have hb:b≠I:=λq=>m (q▸AL)
   exact(hs₂.2 b hb).trans (hk₁ b o hb (λq=>m (q▸Ad _ AL)) e)
  .refine⟨_,_,0,rfl,(congrArg (λh=>Ww h c.s.heap.objs.size) f3).trans ((hs₂.2 _ (HJ (Bo (B7 he)))).trans ht₁),?_,rv.own st λb m=>(mine b m).Gw,trivial⟩
   rw[Ip];exact Fq
  .rw[f3,Int.natCast_succ];exact he₂
  .rw[f3];exact Ke hit₁ λo e=>(hs₂.2 J (HJ hIJ)).trans e
 done c x:=by
  refine IG x λes a old ea he hit=>?_
  rw[Sq] at he hit
  refine FZ (Cf.list (v:=.ref a) es ⟨a,rfl,ea⟩) λa' items z e1 ea' g rl _=>?_
  cases e1
  refine wpAny_pyNext_enum_end hh he hit ⟨_,g,rfl,z,rfl⟩ (CQ (CK rl.size)) λh' he'=>⟨rfl,Rm (tk:=c.s.toks) (two hI hJ) (two (Tj he) (Gr hit)) (λb o m e=>he' b o (λq=>m (q▸Ad _ AL)) e) λ_ _ _ _ _=>trivial⟩
theorem NU{h:Heap}{I:Addr}{B:String}{x:Str}{t:Tok}{i:Nat}(y:h.IsStrIter I B x t i):Jx h I:=by refine DX y λo e k d=>?_;exact .mk o _ _ e d k (λ_ _ q=>by simp at q)
theorem p6{I:Addr}{x:Str}{u:Tok}(hh:A.handled=K.hx.map Cm)(F:K.h₀.get? I=none):pW K A t I [I] (x.cps.toList.map λc=>V.str (sign c)) (λ_=>True) (λi c=>c.s.heap.IsStrIter I "str_ascii_iterator" x u i) where
 new:=one F
 mine _ _ y:=one (NU y)
 frame _ _ _ y _ _ k _:=by refine AW y λo e r=>?_;exact⟨o,k I (AM.mpr rfl) o e,r⟩
 item i V c hV y:=by
  rw[As] at hV
  refine AW (Av.mp hV) λn hn M=>?_;subst M
  refine wpAny_pyNext_ascii_item y (BA▸hn) λh' B Z=>⟨_,rfl,?_⟩
  refine DX (id B) λo' e' k' d'=>?_
  exact IE e' k' (by decide) (Rm (one F) (one (NU y)) (MD Z.extBut) λc' f1 f2 f3 st=>⟨FQ,f3.symm▸B⟩)
 done c y:=by
  rw[AA,A1] at y
  exact d8 (bA hh F) y (CQ (Az _)) λh' he'=>⟨rfl,Rm (tk:=c.s.toks) (one F) (one (NU y)) (MD he') λ_ _ _ _ _=>trivial⟩
theorem jv:Og K A I (λi c=>c.s.heap.IsStrIter I "str_ascii_iterator" x u i):=λ_ _ y=>wpAny_pyIter_striter_ascii y ⟨rfl,rfl⟩
theorem NP(y:h.IsKeyIter I d i n ep):Jx h I:=by refine DX y λo e k q=>?_;exact .mk o _ _ e q k (λ_ _ q=>by simp at q)
theorem Mz.key(r:Mz h Z kvs us){i:Nat}(e:(kvs.map λp=>Mine.Internal.V.str p.1)[i]?=some W):∃k v,us[i]?=some (k,v)/\W=.str k:=by
 rw[As] at e
 refine AW (Av.mp e) λp hp B=>?_;subst B
 have:=congrArg (λl=>l[i]?) r.1
 simp only[As,hp,Hr] at this
 obtain⟨⟨k,v⟩,F,M⟩:=Av.mp this
 exact⟨k,v,F,by rw[<- M]⟩
theorem Mz.len(r:Mz h B kvs us):us.length=kvs.length:=by
 have:=congrArg RY r.1
 rwa [AA,AA] at this
theorem jR{I:Addr}{n ep:Nat}{kvs:List (Str×V)}(hh:A.handled=K.hx.map Cm)(M:K.h₀.get? I=none) :
  pW K A t I [I] (kvs.map λp=>V.str p.1) (λσ'=>σ'[n]?=some (.dict ep kvs)) (λi c=>c.σ[n]?=some (.dict ep kvs)/\∃a,c.φ[n]?=some a/\c.s.heap.IsKeyIter I a i kvs.length ep) where
 new:=one M
 mine _ _ x:=by refine FH x λ_ _ _ it=>?_;exact one (NP it)
 frame _ _ _ x hp hs k _:=by refine L8 x λ_ a zh=>FH zh λF o e it=>?_;exact⟨hs,a,IF hp F,o,k I (AM.mpr rfl) o e,it⟩
 item i V c hV x:=by
  refine FH x λes a F hit=>?_
  refine Ej (Cf.dict (v:=.ref a) es ⟨a,rfl,F⟩) λa' us e1 ea' D P _ _=>?_
  cases e1
  refine EX (P.key hV) λk v ev Z=>?_;subst Z
  rw[<- P.len] at hit
  refine wpAny_pyNext_dict_item hit D ev λkey h' hk B hs'=>⟨key,rfl,?_⟩
  refine DX (id B) λo' e' k' d'=>?_
  apply Il (bj hk);intro u
  exact IE e' k' (by decide) (Rm (tk:=c.s.toks) (one M) (one (NP hit)) (MD hs'.extBut) λc' f1 f2 f3 st=>⟨FQ,f2.symm▸es,a,f1.symm▸F,f3.symm▸P.len▸B⟩)
 done c x:=by
  refine FH x λes a F hit=>?_
  refine Ej (Cf.dict (v:=.ref a) es ⟨a,rfl,F⟩) λa' us e1 ea' D P _ _=>?_
  cases e1
  rw[AA,<- P.len] at hit
  exact lW (bA hh M) hit D (EP (Az _)) λh' he'=>⟨rfl,Rm (tk:=c.s.toks) (one M) (one (NP hit)) (MD he') λ_ _ _ _ _=>trivial⟩
theorem dw{n ep:Nat}:Og K A I (λi c=>c.σ[n]?=some (.dict ep kvs)/\∃a,c.φ[n]?=some a/\c.s.heap.IsKeyIter I a i kvs.length ep):=λ_ _ x=>FH (x) λ_ _ _ hit=>wpAny_pyIter_keyiter hit ⟨rfl,rfl⟩
end
end Mine.Internal
namespace Mine.Internal
open PySem PySem.Calls
set_option genSizeOf false
set_option genInjectivity false
noncomputable def Gz:List Str:=["len", "list", "tuple", "sorted", "str", "int", "min", "max", "isinstance", "range", "enumerate", "set", "bool", "all", "ValueError"]
noncomputable def Ij:List Str:=["shelves", "boxes", "places"]
noncomputable def Um:List Str:=["__setattr__", "__getattribute__", "__getattr__", "shelves", "boxes", "places"]
def ZI(h₀:Heap)(mN:Str->Option AV)(m:Str)(a:Addr):Prop:=mN m=some (.ref a)/\∃o fd,h₀.get? a=some o/\o.cls=.type "function"/\o.data=.func fd
structure tU(h₀:Heap)(G:PW)(fa:Nat->Addr)(mg:Str->Option AV)(C:Addr)(i:Nat):Prop where
 bound:mg CR=some (.ref C)
 ns:∃N mN,Tb h₀ C N mN/\(∀n∈Um,mN n=none)/\(∀m j,G.lookup (CR++"."++m)=some (.fn j)->ZI h₀ mN m (fa j))/\ZI h₀ mN "__init__" (fa i)
noncomputable def wR:List AV:=[.type "ValueError", .type "Exception", .type "BaseException", .type "object"]
inductive MN(h₀:Heap)(k:Nat)(mro:List AV):Prop
 |mk (bm:List AV) (N:Addr) (nm q:Str) (bs:List AV) (hdct:Bool) (sn:List Str) (sub:List AV) (ab:Bool) (col:Option Bool) (dd:Option Addr) (k0 k1 k2 k3 k5:Option AV) (mN:Str->Option AV) :
  h₀.get? k=some (excClassObj nm q k N bs bm hdct sn sub ab col dd k0 k1 k2 k3 k5 "ValueError.__new__")->h₀.Ns N mN->mN "__init__"=none->OwnTail h₀ wR bm->.ref k::bm=mro->MN h₀ k mro
structure xT(h₀:Heap)(O5:List Nat)(mg:Str->Option AV)(x:Str)(k:Nat)(ks:List Nat):Prop where
 bound:mg x=some (.ref k)
 mem:k∈O5
 kids:∀k'∈O5,∃mro,MN h₀ k' mro/\mro.contains (.ref k)=ks.contains k'
noncomputable def KV:List Str:=["all", "enumerate", "set"]
noncomputable def wg:Gl->Bool
 | .exc _ _=>true
 | .SD _ _=>true
 |_=>false
structure NC(K:Ctx)(G:PW)(fa:Nat->Addr)(mg mb:Str->Option AV):Prop where
 ns:K.h₀.heap.Ns De mg
 wX:K.h₀.heap.Ns LV mb
 nolimit:K.h₀.heap.NoLimit
 fn:∀x i,G.lookup x=some (.fn i)->(∀m,x≠CR++"."++m)->mg x=some (.ref (fa i))
 eI:∀x i,G.lookup x=some (.fn i)->∃o fd,K.h₀.get? (fa i)=some o/\o.data=.func fd
 str:∀x z,G.lookup x=some (.str z)->∃t,mg x=some (.str z t)
 int:∀x z,G.lookup x=some (.int z)->∃t,mg x=some (.int z t)
 blt:∀x∈Gz,G.lookup x=none->mg x=none
 bv:∀x:Str,x≠"__name__"->mb x=DA x
 cls:∀C i,G.lookup CR=some (.cls C i)->tU K.h₀.heap G fa mg C i
 exc:∀x k ks,G.lookup x=some (.exc k ks)->xT K.h₀.heap K.O5 mg x k ks
 pl:∀x∈KV,G.lookup x=none->K.hx=none
 wN:∀x g,G.lookup x=some g->wg g=true->K.hx=none
 lam:∀c P,G.lookup ("<lambda>":Str)=some (.SD c P)->PySem.W.CodeHd K.h₀.heap c P/\K.h₀.heap.BuiltinsAt mg P/\De≠P
noncomputable def Ey(sc:Bq)(x:Str):Bool:=sc.names.lookup x==some NameKind.globalImplicit
noncomputable def Cs(G:PW)(sc:Bq)(x:Str):Bool:=Ey sc x&&(G.lookup x).isNone
section
variable {K:Ctx} {L:Loc} {G:PW} {fa:Nat->Addr} {mg mb:Str->Option AV}
theorem PQ{env:Env}{x:Str}(h:Ey env.scope x=true):env.kindOf x=some .globalImplicit:=beq_iff_eq.mp h
theorem Va(B:x∈Gz):x≠"__name__"/\(x==("__debug__":Str))=false:=
 (by decide +kernel:∀x∈Gz,x≠"__name__"/\(x==("__debug__":Str))=false) x B
section
variable {A:Bb} {c:Cf K.h₀} {ρ:List V} {x:Str} {pos:Pos} {Q:AV->Aj->Prop} {E:AV->Aj->Prop}
theorem HD(g:NC K G fa mg mb)(F:Fr c L ρ){v:AV}(B:mg x=some v)(Z:Ey L.env.scope x=true)(hd:(x==("__debug__":Str))=false)(h:Q v c.s):Am K.M A (eval (.Name x pos) L.env) Q E c.s:=
 Name_function_global F.fn (PQ Z) (loadGlobal_global (F.glob▸g.ns.keeps c.sim.keep) B h) hd
theorem Gv(g:NC K G fa mg mb)(F:Fr c L ρ){v:AV}(B:Cs G L.env.scope x=true)(Z:x∈Gz)(hv:DA x=some v)(h:Q v c.s):Am K.M A (eval (.Name x pos) L.env) Q E c.s:=
 have B:=AJ.mp B
 Name_function_global F.fn (PQ B.1) (loadGlobal_builtin (F.glob▸g.ns.keeps c.sim.keep) (g.blt x Z (DF.mp B.2)) (F.blt▸g.wX.keeps c.sim.keep) ((g.bv x (Va Z).1).trans hv) h) (Va Z).2
end
theorem pN(g:NC K G fa mg mb)(B:G.lookup x=some (.str z))(M:Ey L.env.scope x=true)(hd:EB x=true):FE K L (.Name x pos) (BE z):=λ_ _ _ _ _ _ F q=>
 (g.str x z B).elim λ_ e=>HD g F e M (Gy hd) (PV.same FQ q)
theorem nZ(g:NC K G fa mg mb)(B:G.lookup x=some (.int z))(M:Ey L.env.scope x=true)(hd:EB x=true):FE K L (.Name x pos) (AU z):=λ_ _ _ _ _ _ F q=>
 (g.int x z B).elim λ_ e=>HD g F e M (Gy hd) (PV.same Fq q)
def IJ(es:List Expr):Prop:=∀env pos,(IS pos (Ef es env)).any (·.1)=false
theorem G1:IJ []:=λ_ _=>rfl
theorem GJ(h:EL e)(hs:IJ es):IJ (e::es):=λenv pos=>by
 rw[h es env]
 show (false||(IS pos (Ef es env)).any (·.1))=false
 rw[hs env pos];rfl
theorem II:eval (.Call (.Name f B) es [] pos) env=(do Ze pos (<- eval (.Name f B) env) [] (IS pos (Ef es env)) []):=rfl
theorem Z8(R:L6 K L.up A)(hn:EL e)(Z:Wn K L (e::es) as)(F:Fr c L ρ)(q:bM as K.C ρ c.σ Q X)(h:∀(c1:Cf K.h₀) (Vs:List V) (vals:List AV),Di Bv c c1->CF c1.s.heap c1.φ Vs vals->Q Vs c1.σ->P ⟨vals,[]⟩ c1.s):Am K.M A (evalArgs f true (IS pos (Ef (e::es) L.env)) []) P (PX c X) c.s:=by
 have B:=Vl (.refl c) (Z A c ρ Q X pos R F q) λc1 Vs vals s1 _ r q=>h c1 Vs vals s1 r q.2
 rw[hn es L.env] at B ⊢
 exact Ez B
theorem jz(R:L6 K L.up A)(hn:EL e)(Z:Wn K L (e::es) as)(F:Fr c L ρ)(q:bM as K.C ρ c.σ Q X)(h:∀(c1:Cf K.h₀) (Vs:List V) (vals:List AV),Di Bv c c1->CF c1.s.heap c1.φ Vs vals->Vs.length=(e::es).length->Q Vs c1.σ->P ⟨vals,[]⟩ c1.s):Am K.M A (evalArgs f true (IS pos (Ef (e::es) L.env)) []) P (PX c X) c.s:=by
 have B:=Vl (.refl c) (Z A c ρ Q X pos R F q) λc1 Vs vals s1 _ r q=>h c1 Vs vals s1 r q.1 q.2
 rw[hn es L.env] at B ⊢
 exact Ez B
theorem L9(hf:(∃T,f=.type T)\/∃T,f=.builtin T)(R:L6 K L.up A)(hn:EL e)(B:IJ (e::es))(hl:Wn K L (e::es) as)(F:Fr c L ρ)(q:bM as K.C ρ c.σ Q X)(h:∀(c1:Cf K.h₀) (Vs:List V) (vals:List AV),Di Bv c c1->CF c1.s.heap c1.φ Vs vals->Q Vs c1.σ->Am K.M A (call f vals) P (PX c X) c1.s) :
  Am K.M A (Ze pos f [] (IS pos (Ef (e::es) L.env)) []) P (PX c X) c.s:=by
 have Z:Am K.M A (evalArgs f true (IS pos (Ef (e::es) L.env)) []) (λa s1=>Am K.M A (call f ([]++a.pos) a.kw) P (PX c X) s1) (PX c X) c.s:=Z8 R hn hl F q h
 rcases hf with ⟨T,rfl⟩ | ⟨T,rfl⟩
 .exact PySem.callWith_type (B _ _) Z
 .exact FV (B _ _) Z
variable (K) in
inductive sv(A:Bb)(c:Cf K.h₀)(k:Un)(t:Expr)(Q:List V->(Af->Prop)->Af->Prop):AV->Aj->Prop
 |mk (c₁:Cf K.h₀) (items:List V) (same:Af->Prop) (I:Addr) (fp:List Addr) (St:Nat->Cf K.h₀->Prop):Di Bv c c₁->Q items same c₁.σ->same c₁.σ->pW K A t I fp items same St->St 0 c₁->(∀b∈fp,c.s.heap.get? b=none)->(k≠.enum->Og K A I St)->sv A c k t Q (.ref I) c₁.s
variable (K L) in
def PT(iter:Expr)(k:Un)(as:List Ex)(t:Expr):Prop:=
 ∀(A:Bb) (c:Cf K.h₀) (ρ:List V) (Q:List V->(Af->Prop)->Af->Prop) (X:CP),L6 K L.up A->Fr c L ρ->bM as K.C ρ c.σ (λVs σ₁=>∃items same,Ko σ₁ k Vs items same/\Q items same σ₁) X->
  Am K.M A (eval iter L.env) (λx s₁=>Am K.M A (mW x) (sv K A c k t Q) (PX c X) s₁) (PX c X) c.s
theorem E0{h:Heap}{o:Obj}:∀b ob,h.get? b=some ob->(h.push o).get? b=some ob:=λ_ _ e=>AN _ e
theorem K9{h:Heap}{o B:Obj}:∀b ob,h.get? b=some ob->((h.push o).push B).get? b=some ob:=λ_ _ e=>AN _ (AN _ e)
theorem DB{h:Heap}:h.get? h.objs.size=none:=F0 (Az _)
theorem NS{h:Heap}{o:Obj}:h.get? (h.push o).objs.size=none:=F0 (by rw[DO];exact Cx _)
theorem d6{iter:Expr}{a:Ex}{t:Expr}(h:FE K L iter a):PT K L iter .plain [a] t:=λA c ρ Q X R F q=>
 seq (.refl c) (h A c ρ _ X R F q) λB V v M _ r zz=>EX zz λitems same sk Z=>by
  cases sk with
  |list en=>
   apply Cf.listE en r;intro l its z el g rr hz
   have st:Di Bv B (B.keep { B.s with heap:=B.s.heap.push { cls:=.type "list_iterator", data:=.fields #[.ref l,.int 0 0] } } E0):=Cf.Cj ⟨rfl,rfl⟩
   exact SH g.isList (.mk (B.keep _ E0) _ _ _ _ _ (M.trans st) Z en (kR R.hd (B.sim.DL DB)) ⟨en,l,el,⟨_,Aw _ rfl,rfl,rfl⟩⟩ (one (M.gone DB)) λ_=>dS)
  | @str x ha=>
   apply Il r;intro u
   have st:Di Bv B (B.keep { B.s with heap:=B.s.heap.push { cls:=.type "str_ascii_iterator", data:=.fields #[.str x u,.int 0 0] } } E0):=Cf.Cj ⟨rfl,rfl⟩
   exact wpAny_pyIter_ascii ha (.mk (B.keep _ E0) _ _ _ _ _ (M.trans st) Z trivial (p6 R.hd (B.sim.DL DB)) ⟨_,Aw _ rfl,rfl,rfl⟩ (one (M.gone DB)) λ_=>jv)
  | @dict n ep kvs en=>
   apply Cf.Wq en r;intro l us el D P _ hs
   have st:Di Bv B (B.keep { B.s with heap:=B.s.heap.push { cls:=.type "dict_keyiterator", data:=.fields #[.ref l,.int 0 0,.int us.length 0,.int ep 0] } } E0):=Cf.Cj ⟨rfl,rfl⟩
   exact wpAny_pyIter_dict hs D (.mk (B.keep _ E0) _ _ _ _ _ (M.trans st) Z en (jR R.hd (B.sim.DL DB)) ⟨en,l,el,⟨_,Aw _ rfl,rfl,by rw[<- P.len];rfl⟩⟩ (one (M.gone DB)) λ_=>dw)
theorem boot_range:DA "range"=some (.type "range"):=by decide +kernel
theorem boot_enumerate:DA "enumerate"=some (.type "enumerate"):=by decide +kernel
theorem kO{A:Bb}{c B:Cf K.h₀}{a b:Int}{tk:Nat}{t1 t2 t3:Tok}{o:Obj}{t:Expr}{n:Nat}{Q:List V->(Af->Prop)->Af->Prop}{E:AV->Aj->Prop}(hh:A.handled=K.hx.map Cm)(F:Di Bv c B)(ha:-(2 ^ 62)<=a)(Z:a<2 ^ 62)(hb:-(2 ^ 62)<=b)(hb':b<2 ^ 62)(hr:IsRange (B.s.heap.push o) B.s.heap.objs.size a b 1 t1 t2 t3)(hn:Builtin.Range.rangeSize a b 1=n)(q:Q (OW a n) (λ_=>True) B.σ):Am K.M A (mW (.ref B.s.heap.objs.size)) (sv K A c .range t Q) E { B.s with heap:=B.s.heap.push o,toks:=tk }:=by
 refine wpAny_pyIter_range hr (small_one ha Z hb hb') ?_
 rw[hn]
 exact .mk (B.keep { B.s with heap:=(B.s.heap.push o).push _,toks:=_ } K9) _ _ _ _ _ (F.trans (Cf.Cj ⟨rfl,rfl⟩)) q trivial (dY (a:=a) (n:=n) hh (B.sim.DL NS)) ((Aw _ rfl).trans (by simp)) (one (F.gone NS)) λ_=>Xf
theorem yO(a b:Int):(if a<b then b-a else 0)=((b-a).toNat:Int):=by
 split
 .rename_i h;exact(EH (Int.sub_nonneg_of_le (C0 h))).symm
 .rename_i h;rw[Int.toNat_of_nonpos (Fi (CG.mp h))];rfl
theorem src_range(g:NC K G fa mg mb)(hx:Cs G L.env.scope ("range":Str)=true)(hn:EL e)(B:IJ (e::es))(hl:Wn K L (e::es) as) :
  PT K L (.Call (.Name ("range":Str) pf) (e::es) [] pos) .range as t:=λA c ρ Q X R F q=>by
 rw[II]
 refine AB (Gv g F hx (by decide) boot_range (L9 (.inl ⟨_,rfl⟩) R hn B hl F q λc1 Vs vals s1 r zz=>EX zz λitems same sk q1=>?_))
 have h62:((Cb:Nat):Int)<2 ^ 62:=by decide
 cases sk with
 | @range b h1 h2=>
  refine Oj r.one λ_ Z u M=>?_;subst Z;subst M
  exact call_range_1 (kO R.hd s1 (by decide) (by decide) h1 (DK h2 h62) (IsRange.new _ _ _ _ _ _ _) (by rw[rangeSize_one,yO,Int.sub_zero]) q1)
theorem jT(g:NC K G fa mg mb){e:Expr}{a:Ex}{ts:List Expr}{kt:Nat}{pt pf pos:Pos}(hx:Cs G L.env.scope ("enumerate":Str)=true)(hn:EL e)(hl:Wn K L [e] [a]) :
  PT K L (.Call (.Name ("enumerate":Str) pf) [e] [] pos) .enum [a] (.Tuple ts kt pt):=λA c ρ Q X R F q=>by
 rw[II]
 refine AB (Gv g F hx (by decide) boot_enumerate (L9 (.inl ⟨_,rfl⟩) R hn (GJ hn G1) hl F q λB Vs vals M r zz=>EX zz λitems same sk Z=>?_))
 cases sk with
 |enum en=>
  refine AW r.one λ_ ze1 r'=>?_;subst ze1
  apply Cf.listE en r';intro l its z el gl rr hz
  refine call_enumerate_list gl.isList λh' he hit hsz kk=>wpAny_pyIter_enum he ?_
  have n1:B.s.heap.get? (B.s.heap.objs.size+1)=none:=F0 (Cx _)
  exact .mk (B.keep { B.s with heap:=h' } kk) _ _ _ _ _ (M.trans (Cf.Cj ⟨rfl,rfl⟩)) Z en (iF (R.pl (g.pl _ (by decide) (DF.mp (AJ.mp hx).2))) (B.sim.DL n1) (B.sim.DL DB) (Nat.succ_ne_self _)) ⟨en,l,.none,el,he,hit⟩ (two (M.gone n1) (M.gone DB)) λh=>absurd rfl h
theorem o7{pos}(hu:L.up=L.env::L.up.tail)(hs:∀x,Hc M L.env x=pure x)(ht:X9 L t p)(hp:(∃ps,p=.tup ps)->K.hx=none)(hi:PT K L M k as t)(hb:Oz K L body B) :
  Wz K L (.For t M body [] pos) (Hz p k as B):=λA c ρ Q R F q=>
 wpAny_For (Ax (hi A c ρ (λitems Z σ1=>Nb (MF K.C p B) Z items ρ σ1 Q) _ R F q) (λ_ _ y=>Ax y (λ_ _ z=>z.casesOn λc1 _ _ _ _ _ s1 q1 _ W st0 hfp _=>K3 (hU hu R s1 hfp W ht hp hb (F.step s1) st0 q1) λr _ hr=>by
   cases r with
   |ok _=>exact hr
   |error _=>exact PN.x3 R hu hr) λ_ _ e=>e.nF F) λ_ _ e=>e.nF F) hs
variable (K) in
def Vp(c:Cf K.h₀)(Q:BS)(X:CP):Result->Aj->Prop
 | .ok (.ret v),s=>PV c Q v s
 | .ok _,_=>False
 | .error e,s=>PX c X e s
structure aJ(K:Ctx)(up:List Env)(A:Bb):Prop where
 hd:A.handled=K.hx.map Cm
 depth:A.depth+3*K.d<903
 units:A.units+12*K.d<9009
 fr:A.frames=some up
theorem L6.call(R:L6 K up A):aJ K up A:=⟨R.hd,ED R.depth,Ac R.units (by decide),R.fr⟩
variable (K G) in
def Lx(fa:Nat->Addr):Prop:=∀(x:Str) (i:Nat),G.lookup x=some (.fn i)->∀(A:Bb) (up:List Env) (c:Cf K.h₀) (Vs:List V) (vals:List AV) (Q:BS) (X:CP),aJ K up A->(∀e∈up,LJ c e)->CF c.s.heap c.φ Vs vals->K.C i Vs c.σ Q X->
 Lp K.M A (.call (.ref (fa i)) ⟨vals,[]⟩) (Vp K c Q X) c.s
theorem call_in{vals:List AV}(s1:Di Bv c c1)(h:Lp K.M A (.call (.ref a) ⟨vals,[]⟩) (Vp K c1 Q X) c1.s):Am K.M A (call (.ref a) vals) (PV c Q) (PX c X) c1.s:=
 wpAny_call (K3 h λr _ B=>by
  cases r with
  |ok o=>cases o with
   |ret _=>exact PV.lift s1 B
   |_=>exact B.elim
  |error _=>exact PX.lift s1 B)
theorem aj(g:NC K G fa mg mb)(hC:Lx K G fa)(M:G.lookup x=some (.fn i))(hm:∀m,x≠CR++"."++m)(hk:Ey L.env.scope x=true)(hd:EB x=true)(hn:EL e)(Z:Wn K L (e::es) as) :
  FE K L (.Call (.Name x pf) (e::es) [] pos) (A2 i as):=λA c ρ Q X R F q=>by
 rw[II]
 refine EX (g.eI x i M) λo fd ho B=>?_
 refine AB (HD g F (g.fn x i M hm) hk (Gy hd) (callWith_function (o:=o) (fd:=fd) (Z8 R hn Z F q λc1 Vs vals s1 r q1=>?_)))
 exact⟨⟨c1.sim.keep _ _ ho,B⟩,call_in s1 (hC x i M A L.up c1 Vs vals Q X R.call (F.step s1).up r q1)⟩
end
end Mine.Internal
namespace Mine.Internal
open PySem PySem.Calls
noncomputable def Y8:Ty->String
 | .bool=>"bool" | .str=>"str"
theorem boot_len:DA "len"=some (.builtin "len"):=by decide +kernel
theorem boot_list:DA "list"=some (.type "list"):=by decide +kernel
theorem boot_sorted:DA "sorted"=some (.builtin "sorted"):=by decide +kernel
theorem boot_str:DA "str"=some (.type "str"):=by decide +kernel
theorem boot_int:DA "int"=some (.type "int"):=by decide +kernel
theorem boot_bool:DA "bool"=some (.type "bool"):=by decide +kernel
theorem boot_isinstance:DA "isinstance"=some (.builtin "isinstance"):=by decide +kernel
theorem boot_all:DA "all"=some (.builtin "all"):=by decide +kernel
theorem boot_set:DA "set"=some (.type "set"):=by decide +kernel
section
variable {K:Ctx} {L:Loc} {G:PW} {fa:Nat->Addr} {mg mb:Str->Option AV}
noncomputable def Qz:Pr->AV
 | .len=>.builtin "len" | .list=>.type "list" | .str=>.type "str" | .int=>.type "int" | .all=>.builtin "all" | .J3 _=>.builtin "isinstance"
noncomputable def Yx:Pr->List AV->List AV
 | .J3 t,vs=>vs++[.type (Y8 t)]
 |_,vs=>vs
theorem all_range{bs:List Bool}:(Ar bs.length).all (λi=>(bs[i]?).getD true)=bs.all id:=by
 rw[Bool.eq_iff_iff,BF,BF]
 constructor
 .intro h b B
  obtain⟨i,hi,rfl⟩:=List.getElem_of_mem B
  have:=h i (Dl.mpr hi)
  rwa [AO hi] at this
 .intro h i hi
  rw[AO (Dl.mp hi)]
  exact h _ (Dc _)
theorem dv{A:Bb}{c:Cf K.h₀}{a:Addr}{items:Array AV}{k:Nat}{bs:List Bool}{Q:BS}{E:AV->Aj->Prop}(hh:A.handled=none)(g:IsL c.s.heap a items k)(rl:CF c.s.heap c.φ (bs.map .bool) items.toList)(q:Q (.bool (bs.all id)) c.σ) :
  Am K.M A (call (.builtin "all") [.ref a]) (PV c Q) E c.s:=by
 have hz:items.size=bs.length:=by rw[rl.size,AA]
 refine call_all_walk (SH g.isList ⟨_,[_,a],[_],items.size,_,_,λi=>(bs[i]?).getD true,rfl,Walks.list (A:=A.in1) hh c.s.heap.objs.size a (Bo (B7 g)) items,⟨⟨_,Aw _ rfl,rfl,rfl⟩,g.isList.push _⟩,λi v s Q E hP hQ=>?_,λh' tk hk=>?_⟩)
 .obtain⟨V,hV⟩:∃b,bs[i]?=some b:=by
   have:=(D8.mp hP).1
   exact⟨_,AO (hz▸this)⟩
  refine AW (rl.get (i:=i) (V:=.bool V) (by rw[As,hV];rfl)) λu eu ru=>?_
  rw[BA,hP] at eu
  have zq:=AG eu;subst zq;subst ru
  dsimp only at hQ
  rw[hV] at hQ
  exact JQ hQ
 .rw[hz,all_range]
  exact PV.kept (λb o e=>hk b o (λm=>by rw[AM.mp m,DB] at e;cases e) (AN _ e)) H7 q
theorem Z0{A:Bb}{c:Cf K.h₀}{p:Pr}{Vs:List V}{vals:List AV}{Q:BS}{E:AV->Aj->Prop}(hh:p=.all->A.handled=none)(r:CF c.s.heap c.φ Vs vals)(q:Cu c.σ Q p Vs):Am K.M A (call (Qz p) (Yx p vals)) (PV c Q) E c.s:=by
 cases q with
 |LQ e q=>
  refine AW r.one λv B r'=>?_;subst B
  apply Cf.listE e r';intro a items k _ g Z z
  exact call_len_list g.isList (Z.size▸ag z) (by rw[Z.size];exact PV.plain Fq q)
 |qS hz q=>
  refine Oj r.one λv B t F=>?_;subst B;subst F
  exact PySem.P.len_str (FI.mpr (ag (K1 hz))) (PV.plain Fq q)
 |all e q=>
  refine AW r.one λv B r'=>?_;subst B
  apply Cf.listE e r';intro a items k _ g Z z
  exact dv (hh rfl) g Z q
 |list e q=>
  refine AW r.one λv B r'=>?_;subst B
  apply Cf.listE e r';intro a items k _ g Z z
  exact PySem.call_list_seq (hsz:=I6 (Z.size▸z)) a (.inl rfl) g rfl rfl λh' c' hk hD=>PV.list (tk:=c.s.toks) Z z DB hk hD q
 |str hb q=>
  refine Oj r.one λv B t F=>?_;subst B;subst F
  exact PySem.P.str_of_int (Ac (Jl hb) (by decide)) (PV.plain FQ q)
 |mO q=>refine AW r.one λv B F=>?_;subst B;subst F;exact call_int_bool (PV.plain Fq q)
 |wM hn hz q=>
  refine Oj r.one λv B t F=>?_;subst B;subst F
  exact PySem.W.KIN.call_text hn hz (PV.plain Fq q)
 |yA q=>refine AW r.one λv B F=>?_;subst B;subst F;exact IsiPair.bool_bool (PV.same H7 q)
 |wY q=>refine Oj r.one λv B u F=>?_;subst B;subst F;exact IsiPair.str_str (PV.same H7 q)
theorem r9(g:NC K G fa mg mb)(B:p=.all->K.hx=none)(hp:∀vs,Yx p vs=vs)(hx:Cs G L.env.scope x=true)(hb:x∈Gz)(Z:DA x=some (Qz p))(hf:(∃T,Qz p=.type T)\/∃T,Qz p=.builtin T)(hn:EL e)(M:IJ (e::es))(hl:Wn K L (e::es) as):FE K L (.Call (.Name x pf) (e::es) [] pos) (DW p as):=λA c ρ Q X R F q=>by
 rw[II]
 exact AB (Gv g F hx hb Z (L9 hf R hn M hl F q λc1 Vs vals s1 r q1=>fin s1 (hp vals▸Z0 (λh=>R.pl (B h)) r q1)))
theorem cF(g:NC K G fa mg mb)(hi:Cs G L.env.scope ("isinstance":Str)=true)(hx:Cs G L.env.scope x=true)(hb:x∈Gz)(hv:DA x=some (.type (Y8 Z)))(hn:EL e)(h:FE K L e a):FE K L (.Call (.Name ("isinstance":Str) pf) [e,.Name x pt] [] pos) (DW (.J3 Z) [a]):=λA c ρ Q X R F q=>by
 rw[II]
 refine AB (Gv g F hi (by decide) boot_isinstance (FV (by rw[hn];rfl) ?_))
 have B:Am K.M A (m7 (IS pos (Ef [e,.Name x pt] L.env))) (λvals s1=>Am K.M A (call (.builtin "isinstance") ([]++vals) []) (PV c Q) (PX c X) s1) (PX c X) c.s:=
  El (seq (.refl c) (h A c ρ _ X R F q) λc1 V v s1 _ r q1=>El (Gv g (F.step s1) hx hb hv (HM (fin s1 (Z0 (p:=.J3 Z) (c:=c1) (Vs:=[V]) (vals:=[v]) (λh=>by injection h) ⟨r,trivial⟩ q1))))) (hn _ _)
 rw[hn] at B ⊢
 exact Ez B
theorem cS{F:Type}{l:List F}(h:l.Nodup){i j:Nat}{a:F}(hi:l[i]?=some a)(B:l[j]?=some a):i=j:=by
 refine(AP.mp hi).elim λhi Z=>?_
 refine(AP.mp B).elim λB M=>?_
 rw[List.nodup_iff_pairwise_ne,Dh] at h
 refine bE (Nat.lt_trichotomy i j) (λq=>?_) (λq=>?_) (λq=>?_)
 .exact absurd (Z.trans M.symm) (h i j hi B q)
 .exact q
 .exact absurd (M.trans Z.symm) (h j i B hi q)
theorem Cf.eJ(M:c.φ[n]?=some a)(hn0:n≠0)(B:∀b ob,b≠a->c.s.heap.get? b=some ob->h'.get? b=some ob)(hr:∀(_:∀Vs us,CF c.s.heap c.φ Vs us->CF h' c.φ Vs us),O1 K.h₀ h' c.φ o a) :
  ∃F:Cf K.h₀,F.s={ c.s with heap:=h',toks:=tk }/\F.φ=c.φ/\F.σ=c.σ.set n o/\Di Bv c F:=by
 have ma:a∈c.φ:=Ae M
 have kt:∀b items n,c.s.heap.get? b=some { cls:=.type "tuple", data:=.seq items n }->h'.get? b=some { cls:=.type "tuple", data:=.seq items n }:=λb items n e=>B b _ (λq=>c.sim.Gw ma items n (q▸e)) e
 have hr:=hr λVs us r=>CF.keep kt (A5 _) Vs us r
 have S:Sw K.h₀ h' c.φ (c.σ.set n o):=by
  refine⟨λb ob e=>B b ob (λq=>?_) (c.sim.keep b ob e),by rw[Dt];exact c.sim.len,c.sim.nodup,c.sim.new,λm ob e=>?_⟩
  .cases n with
   |zero=>exact absurd rfl hn0
   |succ n=>rw[q,c.sim.new n a M] at e;exact absurd e.symm (AY _)
  .by_cases hm:n=m
   .subst hm;exact⟨a,M,IL e▸hr⟩
   .rw[NO hm] at e
    refine AW (c.sim.obj m ob e) λb eb r=>?_
    exact⟨b,eb,r.keep (A5 _) kt λob e=>B b ob (λq=>hm (cS c.sim.nodup M (q▸eb))) e⟩
 refine⟨⟨{ c.s with heap:=h',toks:=tk },c.φ,c.σ.set n o,S⟩,rfl,rfl,rfl,⟨⟨rfl,rfl⟩,A5 _,λb ob Z _ e=>⟨ob,B b ob (λq=>Z (q▸ma)) e,.refl ob⟩,λ_ m=>.inl m⟩,λb ob e=>?_⟩
 by_cases Z:b=a
 .subst Z;exact hr.there.casesOn λo' e' _ _=>⟨o',e'⟩
 .exact⟨ob,B b ob Z e⟩
theorem dN{V W:Mine.Internal.V}(r:Rel c.s.heap c.φ V v)(r':Rel c.s.heap c.φ W u)(q:oN c.σ Q W V):Am K.M A (call (.builtin "list.append") [v,u]) (PV c Q) E c.s:=by
 cases q with
 |mk en B hn q=>
  apply Cf.listE en r;intro a items k ea g F z
  refine fW ⟨k,g⟩ (λh' hp hs=>?_) (I6 (A4 (F.size▸B)))
  refine Cq hp λk' e'=>?_
  refine Ge (Cf.eJ (o:=.list _) (tk:=c.s.toks) ea hn (λb ob hb e=>(hs.2 b hb).trans e) λkeep=>⟨_,k',e',by rw[Fd];exact(keep _ _ F).append (keep [W] [u] ⟨r',trivial⟩),by rw[AI];exact B⟩) λc' e1 e2 Z st=>?_
  exact e1▸.mk c' .none st Kv (Z▸q)
theorem eE(B:∀env,Er o ("append":Str) env (eval o env)=eval o env)(M:(Z.endLine==pos.line)=true)(hn:EL e)(ho:FE K L o a)(he:FE K L e b):FE K L (.Call (.Attribute o ("append":Str) Z) [e] [] pos) (Mv a b):=λA c ρ Q X R F q=>
 wpAny_Call_append (B L.env) (by rw[hn];rfl) M (by rw[hn];rfl) (seq (.refl c) (ho A c ρ _ X R F q) λc1 V v s1 _ r1 q1=>by
  obtain⟨⟨n,us,rfl,en⟩,q1⟩:=q1
  refine FZ (Cf.list en r1) λl items k ze1 el gl rr hz=>?_;subst ze1
  exact⟨l,items,rfl,⟨_,k,gl,rfl,rfl,rfl⟩,seq s1 (he A c1 ρ _ X R (F.step s1) q1) λc2 W u s2 t2 r2 q2=>fin s2 (dN (r1.step t2) r2 q2)⟩)
theorem CF.ind{P:List V->List AV->Prop}(n:P [] [])(c:∀{V v Vs vs},Rel h B V v->CF h B Vs vs->P Vs vs->P (V::Vs) (v::vs)){Vs:List V}:∀{vs:List AV},CF h B Vs vs->P Vs vs:=by
 induction Vs with
 |nil=>intro vs r;cases vs with
  |nil=>exact n
  |cons _ _=>exact r.elim
 |cons V Vs F=>intro vs r;cases vs with
  |nil=>exact r.elim
  |cons v vs=>exact c r.1 r.2 (F r.2)
theorem oL(k:Str)(v:V)(kvs:List (Str×V)):(put k v kvs).length<=kvs.length+1:=by
 unfold put
 split
 .rw[AA];exact Cx _
 .rw[AI];exact Az _
theorem tI{B F:Type}{f:B->Str}{g:F->Str}{k:Str}{as:List B}{bs:List F}(e:bs.map g=as.map f):(bs.any λp=>decide (g p=k))=as.any λp=>decide (f p=k):=
 (XA (f:=g) (p:=λx=>decide (x=k))).symm.trans ((congrArg (List.any · λx=>decide (x=k)) e).trans XA)
theorem kH{h:Heap}{M:List Addr}{k:Str}{v:V}{u:AV}(r:Rel h M v u){kvs:List (Str×V)}:∀{us:List (Str×AV)},us.map (·.1)=kvs.map (·.1)->CF h M (kvs.map (·.2)) (us.map (·.2))->
  (us.map λp=>if p.1=k then (p.1,u) else p).map (·.1)=(kvs.map λp=>if p.1=k then (p.1,v) else p).map (·.1)/\CF h M ((kvs.map λp=>if p.1=k then (p.1,v) else p).map (·.2)) ((us.map λp=>if p.1=k then (p.1,u) else p).map (·.2)):=by
 induction kvs with
 |nil=>intro us e _;cases us with
  |nil=>exact⟨rfl,trivial⟩
  |cons _ _=>cases e
 |cons p kvs B=>intro us e q;cases us with
  |nil=>cases e
  |cons w us=>
   have e:w.1::us.map (·.1)=p.1::kvs.map (·.1):=e
   have e:=RX e
   have B:=B e.2 q.2
   rw[B6,B6 (l:=kvs)]
   by_cases F:w.1=k
   .rw[if_pos F,if_pos (e.1▸F)];exact⟨congr (congrArg List.cons e.1) B.1,r,B.2⟩
   .rw[if_neg F,if_neg (e.1▸F)];exact⟨congr (congrArg List.cons e.1) B.1,q.1,B.2⟩
theorem Mz.put(P:Mz h B kvs us)(keep:∀Vs vs,CF h B Vs vs->CF h' B Vs vs)(r:Rel h B v u):Mz h' B (Mine.Internal.put k v kvs) (stored us k u):=by
 have r':Rel h' B v u:=(keep [v] [u] ⟨r,trivial⟩).1
 have M:=keep _ _ P.2
 unfold Mine.Internal.put stored
 rw[tI (k:=k) P.1]
 by_cases F:kvs.any (λp=>decide (p.1=k))=true
 .rw[if_pos F,if_pos F];exact kH r' P.1 M
 .rw[if_neg F,if_neg F]
  exact⟨by rw[Ai,Ai,P.1];rfl,by rw[Ai,Ai];exact M.append ⟨r',trivial⟩⟩
theorem sZ(ro:Rel c.s.heap c.φ o ov)(ri:Rel c.s.heap c.φ i iv)(rv:Rel c.s.heap c.φ v u)(q:iP c.σ T v o i)(h:∀B:Cf K.h₀,Di Bv c B->T B.σ->P () B.s):Am K.M A (setItem ov iv u) P E c.s:=by
 cases q with
 | @dict n ep kvs k en hn hz q=>
  apply Cf.Wq en ro;intro a us ea D P _ hs
  apply Il ri;intro t
  refine wpAny_setItem_pairs (Ra _ _ k t) D.dictOf (λh' Z hb=>?_) (Iz (A4 (P.len.symm▸hz)))
  refine Cq Z.dictAt λF Z=>?_
  refine Ge (Cf.eJ (c:=c) (o:=.dict F (put k v kvs)) (tk:=c.s.toks+1) ea hn (λb ob h e=>(hb.2 b h).trans e) λkeep=>⟨_,Z,P.put (λ_ _ r=>keep _ _ r) rv,K1 (AF (oL k v kvs) hz),hs⟩) λB e1 e2 e3 st=>?_
  exact e1▸h B st (e3▸q F)
theorem kJ(hs:M7 value (some (.Subscript o i B)) pos.line L.env=pure false)(ho:FE K L o a)(hi:FE K L i b)(hv:FE K L value e):Wz K L (.Assign [.Subscript o i B] value pos) (aI a b e):=λA c ρ Q R F q=>
 wpAny_Assign_Subscript (lV (.refl c) F (hv A c ρ _ _ R F q) λc1 _ _ s1 _ r1 q1=>lV s1 F (ho A c1 ρ _ _ R (F.step s1) q1) λc2 _ _ s2 t2 r2 q2=>lV s2 F (hi A c2 ρ _ _ R (F.step s2) q2) λc3 _ _ M Z r3 q3=>
  sZ (r2.step Z) r3 ((r1.step t2).step Z) q3 λc4 s4 q4=>.next c4 ρ (M.trans s4).any (F.step (M.trans s4)) q4) hs
theorem Q6{h:Heap}{o B:Obj}(k:B.isFreed=false:=by rfl):((h.push o).push B).get? (h.objs.size+1)=some B:=by rw[<- DO h o];exact Aw _ k
theorem Uu{i:Int}{n:Nat}(h:i<0):i+n<=n:=by have:=Np (C0 h) (n:Int);rwa [Ip] at this
theorem gB(i n:Nat):((min i n:Nat):Int)=min (i:Int) n:=(Nat.le_total i n).elim (λh=>by rw[C3 h,SR (A9.mpr h)]) λh=>by rw[C6 h,Int.min_eq_right (A9.mpr h)]
theorem We{n d:Nat}{z:Nat}(b:HU n d o z)(r:Rel h M (o.getD .none) v):∃a,Rb v a/\(match a with | none=>(d:Int) | some i=>max 0 (min (if i<0 then i+n else i) n))=(z:Int):=by
 cases b with
 |no=>exact⟨none,by subst r;exact .none,rfl⟩
 | @pos i _ _ B=>
  refine Cq r λt e=>?_
  refine⟨some i,e▸.int _ t,?_⟩
  show max 0 (min (if (i:Int)<0 then _ else _) _)=_
  rw[if_neg (CG.mpr (AQ i)),<- gB,Int.max_eq_right (AQ _),B]
 | @neg i _ F _ B=>
  refine Cq r λt e=>?_
  refine⟨some i,e▸.int _ t,?_⟩
  show max 0 (min (if i<0 then _ else _) _)=_
  rw[if_pos F,SR (Uu F),Int.max_comm,<- Int.toNat_eq_max,B]
theorem O3(hx:HU n 0 lo x)(hy:HU n n hi y)(rl:Rel h B (lo.getD .none) vl)(ru:Rel h B (hi.getD .none) M) :
  ∃a b,Rb vl a/\Rb M b/\I1 a b none n=((x:Int),(y:Int),1):=by
 refine AW (We hx rl) λa pa Z=>?_
 refine AW (We hy ru) λb F eb=>?_
 refine⟨a,b,pa,F,?_⟩
 rw[<- Z,<- eb]
 cases a <;> cases b <;> rfl
theorem TG{Vs:List V}(n:Nat)(r:CF h B Vs us):CF h B (Vs.drop n) (us.drop n):=by
 revert n
 refine CF.ind (P:=λVs us=>∀n:Nat,CF h B (Vs.drop n) (us.drop n)) (λn=>?_) (λa b F n=>?_) r
 .rw[VJ,VJ];exact trivial
 .cases n with
  |zero=>exact⟨a,b⟩
  |succ n=>exact F n
theorem Sg{Vs:List V}(n:Nat)(r:CF h B Vs us):CF h B (Vs.take n) (us.take n):=by
 revert n
 refine CF.ind (P:=λVs us=>∀n:Nat,CF h B (Vs.take n) (us.take n)) (λn=>?_) (λa b F n=>?_) r
 .rw[List.take_nil,List.take_nil];exact trivial
 .cases n with
  |zero=>exact trivial
  |succ n=>exact⟨a,F n⟩
variable (K L) in
def vK(e:Option Expr)(a:Option Ex):Prop:=
 ∀(A:Bb) (c:Cf K.h₀) (ρ:List V) (Q:Option V->Af->Prop) (X:CP),L6 K L.up A->Fr c L ρ->xW a K.C ρ c.σ Q X->Am K.M A (evalPart e L.env) (PV c λx σ=>∃o,x=Option.getD o .none/\Q o σ) (PX c X) c.s
theorem jh:vK K L none none:=λ_ c _ _ _ _ _ q=>AS (.mk c .none (.refl c) Kv ⟨none,rfl,q⟩)
theorem WA(h:FE K L e a):vK K L (some e) (some a):=λA c ρ Q X R F q=>by
 rw[evalPart_some]
 exact seq (.refl c) (h A c ρ _ X R F q) λc1 V _ s1 _ r B=>.mk c1 V s1 r ⟨some V,rfl,B⟩
theorem eF(hm:∀{A:Bb} {E:AV->Aj->Prop} {s:Aj} {o r:AV} {P:Unit->Aj->Prop},P () s->Am M A (PD value o r) P E s)(h:Am M A (eval value env) (λo s1=>Am M A (eval (.Slice Z F none p) env) (λi s2=>(∃T id,RW (.type T) "__getitem__"=pure (some (.builtin id))/\s2.TypeIs o T)/\Am M A (SO o i) Q E s2) E s1) E s) :
  Am M A (eval (.Subscript value (.Slice Z F none p) pos) env) Q E s:=by
 rw[eval_Subscript]
 refine AB (Ax h (λo s1 h1=>AB (Bt (Ax h1 (λi s2 h2=>AB (Ep ?_)) λ_ _ x=>x))) λ_ _ x=>x)
 obtain⟨⟨T,id,hl,hT⟩,h2⟩:=h2
 have B:Am M A (m9 [i,o] (SO o i)) (λr s3=>Am M A (PD value o r >>= λ_=>pure r) Q E s3) E s2:=wpAny_operating (Ax h2 (λr s3 h3=>AB (hm (AS h3))) λ_ _ x=>x)
 refine AB ?_
 rw[getitemInPython_of_ne hT.not_modules]
 refine AB (Wt hT hl ?_)
 first
  |exact AS (AB B)
  |exact AB (AS (AB B))
  |exact AB B
theorem V3{n d j:Nat}(h:HU n d o j)(hd:d<=n):j<=n:=by
 cases h with
 |no=>exact hd
 |pos _ e=>exact HW .le .v0 .v1 (.q .v0 .v2 (.l .v2 .v1 .e)) rfl e (C7 _ _)
 |neg B _ e=>exact e▸Int.toNat_le.mpr (Uu B)
theorem WN(h:Rb v o):∃l,v=partValue l/\l.map (·.1)=o:=h.casesOn ⟨none,rfl,rfl⟩ λi t=>⟨some (i,t),rfl,rfl⟩
theorem oZ{B:Type}{l:List B}{x y:Nat}(h:(HS l x y).length=l.length):HS l x y=l:=((Pb _ _).trans (Pa _ _)).eq_of_length h
theorem tx{B:Type}{l:List B}{x y:Nat}:(HS l x y).length<=l.length:=by
 unfold HS;rw[CC,B2];exact AF (Ga _ _) (C7 _ _)
theorem gd{B:Type}{l:List B}{x y:Nat}(h:y<=l.length):(HS l x y).length=y-x:=by
 unfold HS;rw[CC,B2,C3 h]
theorem Rr{n x y:Nat}(h:I1 a b none n=((x:Int),(y:Int),1)):OU a b 1 (n:Int)=((x:Int),(y:Int)):=by
 have F:∀v:Int,(if v<0 then max (v+n) 0 else min v n)=max 0 (min (if v<0 then v+n else v) n):=λv=>by
  by_cases B:v<0
  .rw[if_pos B,if_pos B,SR (Uu B),Int.max_comm]
  .rw[if_neg B,if_neg B,Int.max_eq_right (Int.le_min.mpr ⟨CG.mp B,AQ n⟩)]
 have M:(I1 a b none n).1=x:=congrArg Prod.fst h
 have Z:(I1 a b none n).2.1=y:=congrArg (λp=>p.2.1) h
 rw[<- M,<- Z]
 refine Prod.ext ?_ ?_
 .cases a with
  |none=>rfl
  |some v=>exact F v
 .cases b with
  |none=>rfl
  |some v=>exact F v
theorem Rp(x y:Nat):Gm (x:Int) (y:Int) 1=y-x:=by
 unfold Gm
 have B:(1:Int)>0:=by exact t9 [] .lt .n0 .n1 .e rfl
 simp only[B,if_true,Int.ediv_one]
 split
 .rw[Int.sub_add_cancel];exact Int.toNat_sub y x
 .rename_i h;exact(bg (A9.mp (CG.mp h))).symm
section
variable {prog:DU} {w:IW} {A:Bb} {E:AV->Aj->Prop} {s:Aj}
theorem TS(p:Rb v k)(h:Q k s):Am (Cz prog w) A (Builtin.Slice.slicePartIndex v) Q E s:=by
 cases p with
 |none=>exact OO h
 |int i t=>exact PyProof.Rows.slicePart_int h
theorem Oa{n x y:Nat}{Q:Int×Int×Nat->Aj->Prop}(hs:s.heap.IsSliceOf sl Z M .none)(pl:Rb Z a)(pu:Rb M b)(hb:I1 a b none n=((x:Int),(y:Int),1))(h:Q ((x:Int),1,y-x) s) :
  Am (Cz prog w) A (Builtin.Slice.sliceApplied (.ref sl) (pure (n:Int))) Q E s:=by
 refine DX (id hs) λos B hcs F=>?_
 refine AB (AB (Df B F (x:=Z) rfl (AB (Df B F (x:=M) rfl (AB (Df B F (x:=.none) rfl (AS ?_)))))))
 refine AB (OO ?_)
 rw[if_neg (by decide)]
 refine AB (TS pl (AB (TS pu (AB (AS ?_)))))
 show Am _ _ (match OU a b 1 (n:Int) with | (lo,hi)=>pure (lo,(1:Int),Gm lo hi 1)) _ _ s
 rw[Rr hb]
 show Am _ _ (pure ((x:Int),(1:Int),Gm (x:Int) (y:Int) 1)) _ _ s
 rw[Rp x y]
 exact AS h
theorem gV(xs:Array AV)(a k:Nat):((Ar k).filterMap λ(j:Nat)=>xs[((a:Int)+(j:Int)*1).toNat]?)=(xs.toList.drop a).take k:=by
 have e:(λ(j:Nat)=>xs[((a:Int)+(j:Int)*1).toNat]?)=λj=>xs[a+j]?:=by
  funext j
  rw[eM,<- C2,A6]
 rw[e]
 have:=pick_run xs a k
 rw[List.filterMap_map] at this
 exact this
theorem M0{z:Nat}{x y:Nat}{Q:AV->Aj->Prop}(ht:IsT s.heap t items z)(hs:s.heap.IsSliceOf sl vl vu .none)(pl:Rb vl a)(pu:Rb vu b)(hb:I1 a b none items.size=((x:Int),(y:Int),1))(F:y-x<items.size)(hsz:items.size<=HL)(h:Q (.ref s.heap.objs.size) { s with heap:=s.heap.push { cls:=.type "tuple", data:=.seq ((items.toList.drop x).take (y-x)).toArray } }):Am (Cz prog w) A (SO (.ref t) (.ref sl)) Q E s:=by
 have B:sizeOk (.seq ((items.toList.drop x).take (y-x)).toArray):=by
  show ((items.toList.drop x).take (y-x)).toArray.size<=HL
  rw[CT,B2]
  exact AF (Ce _ _) (AF (A4 F) hsz)
 refine DX (id hs) λos hos hcs hds=>?_
 have hTs:s.TypeIs (.ref sl) "slice":=⟨os,hos,hcs⟩
 have M:PyProof.Rows.IsTup s.heap t items:=⟨_,ht,rfl,z,rfl⟩
 unfold SO
 try with_reducible refine Bt ?_
 first | refine AB (AS ?_) | skip
 refine AB (wpAny_sequenceKey M.typeIs (by decide) ?_)
 refine AB (DE (name:="__getitem__") M.typeIs Hx
  (Ck Hx M.typeIs PyProof.Rows.entry_tuple_getitem ?_ (PyProof.Rows.args_tuple_getitem _ _)))
 show Am _ _ (Builtin.Tuple.tupleItemsOf (.ref t) >>= _) _ _ s
 refine AB (PyProof.Rows.tupleItemsOf_ M ?_)
 refine AB (SI hTs ?_)
 rw[if_pos (by decide)]
 refine AB (Oa hs pl pu hb ?_)
 have Z:¬(((x:Int)==0&&(1:Int)==1&&(y-x)==items.size)=true):=λq=>by
  have:=beq_iff_eq.mp (AJ.mp q).2
  exact W0 (.p .v0 .v1 (.t .v0 .v1 .e)) rfl this F
 show Am _ _ (if ((x:Int)==0&&(1:Int)==1&&(y-x)==items.size)=true then _ else _) _ _ s
 rw[if_neg Z,gV items x (y-x)]
 first
  |exact AB (m:=HA _) (DI (AS ⟨_,rfl,AS h⟩) B)
  |exact AB (m:=HA _) (DI (AB (AS (AS ⟨_,rfl,AS h⟩))) B)
  |exact AB (AB (m:=HA _) (DI (AS (AS ⟨_,rfl,AS h⟩)) B))
  |exact AB (AB (m:=HA _) (DI (AS ⟨_,rfl,AS h⟩) B))
end
theorem gW{value:Expr}{lo hi:Option Expr}{a:Ex}{x y:Option Ex}{p pos:Pos}(hv:FE K L value a)(hl:vK K L lo x)(hh:vK K L hi y):FE K L (.Subscript value (.Slice lo hi none p) pos) (DD a x y):=λA c ρ Q X R F q=>
 eF (λh=>wpAny_letTemporaryGo h) (seq (.refl c) (hv A c ρ _ X R F q) λc₁ V u s₁ _ B q₁=>wpAny_Slice (seq s₁ (hl A c₁ ρ _ X R (F.step s₁) q₁) λc₂ V₂ vl s₂ t₂ r₂ zz=>AW zz λlv e₂ q₂=>seq s₂ (hh A c₂ ρ _ X R (F.step s₂) q₂) λc₃ V₃ vu Z M r₃ zz=>AW zz λhv e₃ q₃=>by
  rw[evalPart_none]
  refine AS ?_
  subst e₂ e₃
  have B:=(B.step t₂).step M
  cases q₃ with
  |list en hx hy q=>
   apply Cf.listE en B;intro l items k _ g rL z
   rw[<- rL.size] at hx hy
   refine ES (O3 hx hy (r₂.step M) r₃) λpa pb p1 p2 hb=>?_
   refine⟨⟨"list", _,list_getitem_lookup,(g.isList.push _).typeIs⟩,e7 (g.isList.push _) (Lg ..) p1 p2 .none (by simp) ?_ (I6 (rL.size▸z))⟩
   rw[DO]
   refine PV.lift Z (PV.list (tk:=c₃.s.toks) ?_ ?_ (F0 (Cx _)) K9 Q6 q)
   .show CF _ _ _ (slicePick items pa pb none).toList
    unfold slicePick
    rw[hb]
    simp only[sliceRange_one,pick_run]
    unfold HS
    rw[Tc]
    exact Sg _ (TG _ rL)
   .unfold HS;rw[CC,B2];exact AF (Ga _ _) (AF (C7 _ _) z)
  | @tup vs lv hv' x y hz hx hy hc q=>
   refine CW (id B) λT items z ze1 g rL=>?_;subst ze1
   have hl:=rL.size
   rw[<- hl] at hx hy hc hz
   refine ES (O3 hx hy (r₂.step M) r₃) λpa pb p1 p2 hb=>?_
   have hy':=V3 hy (Az _)
   have hlen:(HS vs x y).length=y-x:=gd (hl▸hy')
   rw[hlen] at hc
   refine⟨⟨"tuple", _,Hx.lookup,⟨_,AN _ g,rfl⟩⟩,M0 (z:=z) (AN _ g) (Lg ..) p1 p2 hb hc (Iz hz) ?_⟩
   rw[DO]
   refine PV.lift Z (PV.tup (tk:=c₃.s.toks) (Vs:=HS vs x y) ?_ K9 Q6 q)
   show CF _ _ (HS vs x y) ((items.toList.drop x).take (y-x))
   unfold HS
   rw[Tc]
   exact Sg _ (TG _ rL)
  | @str z lv hv' x y hz hx hy q=>
   apply Il B;intro t
   refine ES (O3 hx hy (r₂.step M) r₃) λpa pb p1 p2 hb=>?_
   refine AW (WN p1) λl1 ze1 m1=>?_;subst ze1
   refine AW (WN p2) λl2 ze1 m2=>?_;subst ze1
   refine⟨⟨"str", _,PySem.F.slot_str_getitem.lookup,G8 _ _ _⟩,wpAny_getItem_str_slice (l:=l1) (u:=l2) (st:=none) ⟨_,Aw _ rfl,rfl,rfl⟩ rfl ?_⟩
   have e:PG z l1 l2 none=(Ar (y-x)).map (x+·):=by
    have:PG z l1 l2 none=sliceRange (I1 pa pb none z.length).1 (I1 pa pb none z.length).2.1 1:=by
     unfold PG
     rw[m1,m2]
     rfl
    rw[this,hb,sliceRange_one]
   have hp:(PG z l1 l2 none).filterMap (z.cps[·]?)=HS z.cps.toList x y:=by
    rw[e,pick_run]
    unfold HS
    rw[Tc]
   have hl:z.length=z.cps.toList.length:=A1.symm
   have hy':=V3 hy (Az _)
   have hlen:(PG z l1 l2 none).length=(HS z.cps.toList x y).length:=by
    rw[e,AA,BV,gd (hl▸hy')]
   unfold sliceMade
   rw[hp,hlen]
   split
   .rename_i hc
    have hc:=beq_iff_eq.mp (AJ.mp hc).2
    rw[oZ (hc.trans hl)] at q
    exact PV.lift Z (PV.kept (tk:=c₃.s.toks) E0 FQ q)
   .refine⟨?_,PV.lift Z (PV.kept E0 FQ q)⟩
    show (HS z.cps.toList x y).toArray.size<=HL
    rw[CT]
    exact Iz (AF tx (hl▸hz))))
end
end Mine.Internal
namespace Mine.Internal
open PySem PySem.Calls
set_option genSizeOf false
set_option genInjectivity false
section
variable {K:Ctx} {L:Loc}
theorem kz:∀{us:List (Str×AV)},us.map (·.1)=kvs.map (·.1)->CF h M (kvs.map (·.2)) (us.map (·.2))->
  (without us k).map (·.1)=(oG k kvs).map (·.1)/\CF h M ((oG k kvs).map (·.2)) ((without us k).map (·.2)):=by
 induction kvs with
 |nil=>intro us e _;cases us with
  |nil=>exact⟨rfl,trivial⟩
  |cons _ _=>cases e
 |cons p kvs B=>intro us e q;cases us with
  |nil=>cases e
  |cons w us=>
   have e:w.1::us.map (·.1)=p.1::kvs.map (·.1):=e
   have e:=RX e
   have B:=B e.2 q.2
   unfold without oG at *
   by_cases F:w.1=k
   .rw[D3 (by rw[decide_eq_true_iff];exact λz=>z F),D3 (by rw[decide_eq_true_iff];exact λz=>z (e.1▸F))];exact B
   .rw[GG (by exact decide_eq_true F),GG (by exact decide_eq_true (e.1▸F))];exact⟨congr (congrArg List.cons e.1) B.1,q.1,B.2⟩
theorem th(M:∀env,Er o ("pop":Str) env (eval o env)=eval o env)(Z:(apos.endLine==pos.line)=true)(hn:EL e)(ho:FE K L o a)(he:FE K L e b):FE K L (.Call (.Attribute o ("pop":Str) apos) [e] [] pos) (qF a b):=λA c ρ Q X R F q=>
 I2 (M L.env) Z (by rw[hn];rfl) (seq (.refl c) (ho A c ρ _ X R F q) λc1 V v s1 _ r1 q1=>by
  obtain⟨⟨n,ep,kvs,rfl,en⟩,q1⟩:=q1
  refine Ej (Cf.dict en r1) λl us B el D P z hs=>?_;subst B
  refine⟨"dict", "dict.pop", PySem.F.plainAttrs_dict,PySem.F.slot_dict_pop,PySem.F.type_dict_pop,D.dictOf.typeIs,D.dictOf.mapOf.noDict,?_⟩
  refine method1_meetsIn PySem.F.slot_dict_pop PySem.F.entry_dict_pop (seq s1 (he A c1 ρ _ X R (F.step s1) q1) λc2 W u s2 t2 r2 q2=>?_)
  cases q2 with
  | @mk n ep kvs k V en hn hv q=>
   refine Ej (Cf.dict en (r1.step t2)) λl' us' e1 el1 D1 P1 z1 hs1=>?_
   cases e1
   refine Cq r2 λt B=>?_;subst B
   refine AW (P1.at.1 V hv) λv hv' rv=>?_
   refine⟨D1.dictOf.typeIs,PySem.F.args_dict_pop_2 _ _,_,meets_dict_pop_there (knd:=strKind K.h₀.prog K.h₀.w) (k:=k) l (Ra _ _ k t) [] (.inl rfl) rfl,us',v,D1.dictOf,I6 (P1.len.symm▸z1),hv',λh' D2 hb=>?_⟩
   refine Cq D2.dictAt λep' D2=>?_
   refine Ge (Cf.eJ (c:=c2) (o:=.dict ep' (oG k kvs)) (tk:=c2.s.toks+1) el1 hn (λb ob h e=>(hb.2 b h).trans e) λkeep=>⟨_,D2,kz P1.1 (keep _ _ P1.2),AF (Cw ..) z1,hs1⟩) λc' e1 e2 e3 st=>?_
   exact PV.lift s2 (e1▸.mk c' V st (rv.step st) (e3▸q ep')))
end
end Mine.Internal
namespace Mine.Internal
open PySem PySem.Calls
set_option genSizeOf false
set_option genInjectivity false
section
variable {K:Ctx} {L:Loc}
inductive PS(c:Cf K.h₀)(T:Str->Af->Prop):AV->Aj->Prop
 |mk (c':Cf K.h₀) (y:Str) (t:Tok):Di Bv c c'->T y c'.σ->PS c T (.str y t) c'.s
def xF(K:Ctx)(L:Loc)(e:Expr)(a:Ex):Prop:=
 ∀(A:Bb) (c:Cf K.h₀) (ρ:List V) (T:Str->Af->Prop) (X:CP),L6 K L.up A->Fr c L ρ->a K.C ρ c.σ (λv σ=>ZK (λs=>T s σ) v) X->Am K.M A (eval e L.env) (PS c T) (PX c X) c.s
theorem PS.plain(st:Di Bv c0 c)(q:T y c.σ):PS c0 T (.str y t) { c.s with toks:=tk }:=.mk (c.toks tk) y t (st.trans (Cf.Cj ⟨rfl,rfl⟩)) q
theorem cj:xF K L (.Constant (.str s) k p) (BE s):=λA c ρ T X R F q=>
 Ax (RK (k:=k) (pos:=p) A c ρ (λv σ=>v=.str s/\ZK (λs=>T s σ) v) X R F ⟨rfl,q⟩) (λv s' y=>y.casesOn λB V st r h=>by
  obtain⟨rfl,h⟩:=h
  apply Il r;intro t
  cases h with
  |str _ h=>exact .mk B s t st h) λ_ _ x=>x
theorem qM(h:FE K L e a):xF K L (.FormattedValue e (-1) none p) a:=λA c ρ T X R F q=>
 wpAny_FormattedValue_plain (seq (.refl c) (h A c ρ _ X R F q) λc1 V v s1 _ B Z=>by
  cases Z with
  | @str s M q=>
   apply Il B;intro t
   exact wpAny_formatField_str (PS.mk c1 s t s1 q) (.plain s1 q) (Iz M)
  | @int i hi q=>
   apply Il B;intro t
   exact wpAny_formatField_int (Ac (Jl hi) (by decide)) (.plain s1 q))
abbrev sx(K:Ctx)(L:Loc):=WL (xF K L)
theorem lq(h:sx K L es as):∀{A:Bb} {B c:Cf K.h₀} {ρ:List V} {Q:BS} {X:CP} {acc:Str},L6 K L.up A->Fr c L ρ->Di Bv B c->acc.length<=Cb->Y2 as acc K.C ρ c.σ Q X->
  Joins K.M A (PX B X) (M6 es L.env) acc (λout s1=>out.length<=HL/\PV B Q (.str out s1.toks) { s1 with toks:=s1.toks+1 }) c.s:=by
 induction h with
 |nil=>exact λ{A B c ρ Q X acc} _ _ st hz q=>⟨Iz hz,.lift st (.plain FQ q)⟩
 |cons h _ ih=>
  intro A B c ρ Q X acc R F st hz q
  refine Ax (h A c ρ _ X R F q) (λv s' y=>y.casesOn λc1 y t s1 Z=>⟨y,t,rfl,?_,ih R (F.step s1) (st.trans s1) ?_ Z.2⟩) λ_ _ x=>x.lift st
  .rw[strLen_append];exact Iz Z.1
  .rw[strLen_append];exact Z.1
theorem sU(h:sx K L (e::B::es) as):FE K L (.JoinedStr (e::B::es) p) (Y2 as IV):=λ_ c _ _ _ R F q=>
 wpAny_JoinedStr (lq h R F (.refl c) (BM _) q)
theorem pJ:∀{vs:List AV},CF h F (ss.map V.str) vs->PyProof.Rows.StrsAre vs ss:=by
 induction ss with
 |nil=>intro vs r;cases vs with
  |nil=>exact .nil
  |cons _ _=>exact r.elim
 |cons s ss B=>intro vs r;cases vs with
  |nil=>exact r.elim
  |cons v vs=>exact r.1.elim λt e=>e▸.cons s t (B r.2)
theorem qO(M:(Z.endLine==pos.line)=true)(hn:EL e)(he:FE K L e b):FE K L (.Call (.Attribute (.Constant (.str B) k cp) ("join":Str) Z) [e] [] pos) (L5 B b):=λA c ρ Q X R F q=>
 I2 rfl M (by rw[hn];rfl) (seq (Q:=λv σ=>v=.str B/\L5 B b K.C ρ σ Q X) (.refl c) (RK (k:=k) (pos:=cp) A c ρ _ X R F ⟨rfl,q⟩) λc1 V v s1 _ r1 q1=>by
  obtain⟨rfl,q1⟩:=q1
  apply Il r1;intro t
  refine⟨"str", "str.join", PySem.F.plainAttrs_str,PySem.F.slot_str_join,PySem.F.type_str_join,G8 _ _ _,(λ_ h=>by injection h),?_⟩
  refine FV rfl (Ez (K5 (seq s1 (he A c1 ρ _ X R (F.step s1) q1) λc2 W u s2 t2 r2 q2=>VK ?_)))
  cases q2 with
  | @mk n ss en hz q=>
   apply Cf.listE en r2;intro l items k el gl rr _
   refine PyProof.Rows.join_list (PySem.IsL.isList gl) (pJ rr) (AF hz (by decide)) λt' tk=>?_
   rw[show Txt.join B ss=Cr B ss from StrLaws.glued_eq_join B ss]
   exact .lift s2 (.plain FQ q))
end
end Mine.Internal
namespace Mine.Internal
open PySem PySem.Calls Builtin Builtin.Str
set_option genSizeOf false
set_option genInjectivity false
section
variable {prog:DU} {w:IW} {A:Bb} {E:AV->Aj->Prop} {s:Aj}
theorem dG(hy:(y.length==0)=false)(Z:x.length+2<=HL)(q:∀l tk,l.map (·.1)=EG x y->Q (.ref s.heap.objs.size) { s with toks:=tk,heap:=s.heap.push { cls:=.type "list", data:=.seq (strValues l).toArray } }):Am (Cz prog w) A (call (.builtin "str.split") [.str x t,.str y u]) Q E s:=by
 have hp:(F9 x (Dg x y 0 x.length (x.length+1)) y.length).length<=HL:=by
  have:=Ic x y 0 x.length (x.length+1)
  simp only[F9,AA,Mb,Bn]
  exact AF (Ce _ _) (AF (C8 this) Z)
 cases B:(decide (x.length<y.length)||decide (strKind x<strKind y)) with
 |true=>exact RZ SS (G8 _ _ _) Rc (Po _ _) (meets_str_split_cannot_occur x y t u B) (q [(x,t)] _ (if_pos B).symm)
 |false=>cases M:(Dg x y 0 x.length (x.length+1)).isEmpty with
  |true=>exact RZ SS (G8 _ _ _) Rc (Po _ _) (meets_str_split_not_found x y t u B hy M) (q [(x,t)] _ ((if_neg (ne_true_of_eq_false B)).trans (if_pos M)).symm)
  |false=>
   refine RZ SS (G8 _ _ _) Rc (Po _ _) (meets_str_split_sep x y t u B hy M (AF (A0 _ 2) Z) hp) ?_
   show wants Q E _ { s with toks:=_,heap:=s.heap.push { cls:=.type "list", data:=.seq (PH s.toks (F9 x (Dg x y 0 x.length (x.length+1)) y.length)).toArray } }
   rw[strsFrom_eq]
   exact q (numbered s.toks _) _ ((numbered_texts _ _).trans ((if_neg (ne_true_of_eq_false B)).trans (if_neg (ne_true_of_eq_false M))).symm)
end
theorem jw(l:List (Str×Tok)):CF h F ((l.map (·.1)).map V.str) (strValues l):=by
 induction l with
 |nil=>exact trivial
 |cons p l B=>exact⟨FQ,B⟩
theorem split_len(x y:Str):(EG x y).length<=x.length+2:=by
 unfold EG
 split
 .exact DP 1 _
 .split
  .exact DP 1 _
  .have:=Ic x y 0 x.length (x.length+1)
   simp only[F9,AA,Mb,Bn]
   exact AF (Ce _ _) (C8 this)
section
variable {K:Ctx} {L:Loc}
theorem gR(B:∀env,Er o ("split":Str) env (eval o env)=eval o env)(M:(Z.endLine==pos.line)=true)(ho:FE K L o a) :
  FE K L (.Call (.Attribute o ("split":Str) Z) [.Constant (.str (sign d)) k cp] [] pos) (Oo d a):=λA c ρ Q X R F q=>
 I2 (B L.env) M rfl (seq (.refl c) (ho A c ρ _ X R F q) λc1 V v s1 _ r1 q1=>by
  cases q1 with
  | @mk x hz q=>
   apply Il r1;intro t
   refine⟨"str", "str.split", PySem.F.plainAttrs_str,PySem.F.slot_str_split,PySem.F.type_str_split,G8 _ _ _,(λ_ h=>by injection h),?_⟩
   refine FV rfl (Ez (K5 (seq s1 (RK (k:=k) (pos:=cp) A c1 ρ (λv σ=>v=.str (sign d)/\Na σ Q d (.str x)) X R (F.step s1) ⟨rfl,.mk hz q⟩) λc2 W u s2 t2 r2 q2=>VK ?_)))
   obtain⟨rfl,q2⟩:=q2
   apply Il r2;intro t'
   cases q2 with
   |mk hz q=>
    refine dG rfl (AF (DH (A4 hz) 2) (by decide)) λl tk e=>?_
    refine PV.lift s2 (PV.list (tk:=tk) (Vs:=(EG x (sign d)).map .str) ?_ ?_ DB (λ_ _ e=>AN _ e) (Aw _ rfl) q)
    .rw[<- e];exact jw l
    .rw[AA];exact AF (split_len _ _) (AF (DH (A4 hz) 2) (by decide)))
theorem oR(B:∀env,Er o ("endswith":Str) env (eval o env)=eval o env)(M:(Z.endLine==pos.line)=true)(ho:FE K L o a) :
  FE K L (.Call (.Attribute o ("endswith":Str) Z) [.Constant (.str (sign d)) k cp] [] pos) (lE d a):=λA c ρ Q X R F q=>
 I2 (B L.env) M rfl (seq (.refl c) (ho A c ρ _ X R F q) λc1 V v s1 _ r1 q1=>by
  cases q1 with
  | @mk x q=>
   apply Il r1;intro t
   refine⟨"str", "str.endswith", PySem.F.plainAttrs_str,PySem.F.slot_str_endswith,PySem.F.type_str_endswith,G8 _ _ _,(λ_ h=>by injection h),?_⟩
   refine FV rfl (Ez (K5 (seq s1 (RK (k:=k) (pos:=cp) A c1 ρ (λv σ=>v=.str (sign d)/\ah σ Q d (.str x)) X R (F.step s1) ⟨rfl,.mk q⟩) λc2 W u s2 t2 r2 q2=>VK ?_)))
   obtain⟨rfl,q2⟩:=q2
   apply Il r2;intro t'
   cases q2 with
   |mk q=>exact call_gives PySem.F.slot_str_endswith (G8 _ _ _) PySem.F.entry_str_endswith (PySem.F.args_str_endswith_2 _ _) (gives_str_endswith x (sign d) t t') (PV.lift s2 (PV.same H7 q)))
theorem ZD{M:Lq}{A:Bb}{E:AV->Aj->Prop}{s:Aj}{env:Env}{value:Expr}{lower Z:Option Expr}{step:Expr}{p pos:Pos}{Q:AV->Aj->Prop}(hm:∀{A:Bb} {E:AV->Aj->Prop} {s:Aj} {o r:AV} {P:Unit->Aj->Prop},P () s->Am M A (PD value o r) P E s)(h:Am M A (eval value env) (λo s₁=>Am M A (eval (.Slice lower Z (some step) p) env) (λi B=>(∃T id,RW (.type T) "__getitem__"=pure (some (.builtin id))/\B.TypeIs o T)/\Am M A (SO o i) Q E B) E s₁) E s) :
  Am M A (eval (.Subscript value (.Slice lower Z (some step) p) pos) env) Q E s:=by
 rw[eval_Subscript]
 refine AB (Ax h (λo s₁ h₁=>AB (Bt (Ax h₁ (λi B F=>AB (Ep ?_)) λ_ _ x=>x))) λ_ _ x=>x)
 obtain⟨⟨T,id,hl,hT⟩,F⟩:=F
 have last:Am M A (m9 [o,i] (SO o i)) (λr s₃=>Am M A (PD value o r >>= λ_=>pure r) Q E s₃) E B:=wpAny_operating (Ax F (λr s₃ h₃=>AB (hm (AS h₃))) λ_ _ x=>x)
 refine AB ?_
 rw[getitemInPython_of_ne hT.not_modules]
 refine AB (Wt hT hl ?_)
 first
  |exact AS (AB last)
  |exact AB (AS (AB last))
  |exact AB last
theorem gO{Vs:List V}:∀{vs:List AV},CF h B Vs vs->CF h B Vs.reverse vs.reverse:=by
 induction Vs with
 |nil=>intro vs r;cases vs with
  |nil=>exact trivial
  |cons _ _=>exact r.elim
 |cons V Vs F=>intro vs r;cases vs with
  |nil=>exact r.elim
  |cons v vs=>rw[K4,K4];exact(F r.2).append ⟨r.1,trivial⟩
theorem s6{value step:Expr}{a:Ex}{p pos:Pos}(hv:FE K L value a)(hs:FE K L step (ko (AU 1))):FE K L (.Subscript value (.Slice none none (some step) p) pos) (dg a):=λA c ρ Q X R F q=>by
  refine ZD (λh=>wpAny_letTemporaryGo h) (seq (.refl c) (hv A c ρ _ X R F q) λc₁ V u Z _ M q₁=>?_)
  refine wpAny_Slice ?_
  rw[evalPart_none]
  refine AS (AS ?_)
  refine seq Z (WA hs A c₁ ρ (λo σ=>o=some (.int (-1))/\hY σ Q V) X R (F.step Z) ⟨rfl,q₁⟩) λc₂ V₂ vk s₂ t₂ r₂ B=>?_
  obtain⟨ov,e₂,rfl,B⟩:=B
  subst e₂
  apply Il r₂;intro t
  have M:=M.step t₂
  cases B with
  |mk en q=>
   apply Cf.listE en M;intro l items k _ g rL z
   refine⟨⟨"list", _,list_getitem_lookup,(g.isList.push _).typeIs⟩,e7 (g.isList.push _) (Lg ..) .none .none (.int _ t) (by simp) ?_ (I6 (rL.size▸z))⟩
   rw[DO,PySem.W.krv_pick]
   exact PV.lift s₂ (PV.list (tk:=c₂.s.toks) (gO rL) (by rw[BZ];exact z) (F0 (Cx _)) K9 Q6 q)
end
end Mine.Internal
namespace Mine.Internal
open PySem PySem.Calls Builtin Builtin.Str
set_option genSizeOf false
set_option genInjectivity false
theorem YQ {x y z : Str} {k : Nat} {t u v w : Tok} (hk : (decide ((k : Int) < -(2 ^ 63 : Int)) || decide ((k : Int) ≥ 2 ^ 63)) = false) (h0 : (u == 0 || v == 0) = false) (huv : (u == v) = false) (hyz : (y == z) = false) (hy : (y.length == 0) = false)
    (hl : tooLong (x.length + (Dg x y 0 x.length k).length * z.length) = false) :
    Gives («str.replace» ⟨[.str x t, .str y u, .str z v, .int k w], []⟩) (if (Dg x y 0 x.length k).isEmpty = true then .val (.str x t) else .str (glued z (F9 x (Dg x y 0 x.length k) y.length))) := by
  show Gives (do let limit ← countLimit "str.replace" (some (.int k w)) (x.length + 1); _) _
  rw [countLimit_int "str.replace" k w (x.length + 1) hk, if_neg (CG.mpr (AQ k)), A6]
  show Gives (if ((Dg x y 0 x.length k).isEmpty || (y.length == 0 && z.length == 0)) = true then (do rule "str.replace.nothing"; ret (.str x t)) else
          (do let same ← isSame (.str y u) (.str z v)
              if same = true then (do rule "str.replace.old-is-new"; ret (.str x t)) else
              if tooLong (x.length + (Dg x y 0 x.length k).length * z.length) = true then unsupported "str.replace:memory" else
              retStr (glued z (F9 x (Dg x y 0 x.length k) y.length)))) _
  rw [hy, Kc, OP]
  cases hc : (Dg x y 0 x.length k).isEmpty with
  | true => exact .rule (.of_eq rfl)
  | false =>
    rw [isSame_str_other y z u v h0 huv hyz, hl]
    exact .of_eq rfl
theorem cA(h:x.length+k*z.length<=Cb):(glued z (F9 x (Dg x y 0 x.length k) y.length)).length<=HL:=by
 have B:=Ic x y 0 x.length k
 have hy:(glued y (F9 x (Dg x y 0 x.length k) y.length)).length=x.length:=by rw[StrLaws.glued_between_self]
 rw[Zf,Kk,DZ] at hy
 rw[Zf,Kk,DZ]
 refine AF (BJ (AF (A0 _ _) (CK hy)) (B4 _ B)) (AF h (by decide))
theorem n8{h:Heap}{a:Addr}{m m':Str->Option AV}(x:h.Ns a m)(y:h.Ns a m'):m=m':=by
 refine EJ x λo es ep e d _ f=>?_
 refine EJ y λo' es' ep' F B _ M=>?_
 have Z:=AG (e.symm.trans F);subst Z;cases d.symm.trans B
 funext n;rw[<- f,<- M]
theorem WV{V:V}(r:Rel h B V (.str z t)):V=.str z:=by
 cases V with
 |str F=>exact r.elim λM e=>by cases e;rfl
 |undef=>exact r.elim
 |none=>cases r
 |bool b=>cases r
 |int i=>exact r.elim λ_ e=>by injection e
 |tup vs=>exact KU r λ_ _ _ e _=>nomatch e
 |ref k=>exact AW r λ_ e _=>nomatch e
section
variable {K:Ctx} {L:Loc} {y:Str} {n:Nat}
structure ZA(c:Cf K.h₀)(L:Loc)(y:Str)(n:Nat):Prop where
 tk:n<=c.s.toks
 at_:∃m z t,c.s.heap.Ns L.env.locals m/\m y=some (.str z t)/\0<t/\t<n
theorem ZA.step(J:ZA c L y n)(F:Fr c L ρ)(st:Di Bv c B)(h:n<=B.s.toks):ZA B L y n:=⟨h,KU J.at_ λm z t hn r=>⟨m,z,t,st.toHo.ba F.G3 (λf=>f) hn,r⟩⟩
theorem vM(st:Di Bv c0 c)(F:Fr c L ρ)(J:ZA c L y n)(h:Am K.M A m (PV c Q) (PX c X) c.s)(k:∀(c1:Cf K.h₀) (V:V) (v:AV),Di Bv c0 c1->Di Bv c c1->ZA c1 L y n->Rel c1.s.heap c1.φ V v->Q V c1.σ->P v c1.s):Am K.M A m P (PX c0 X) c.s:=
 Ax (wpAny_toks J.tk h) (λv _ Z=>Z.elim λB z=>by
  cases z with
  |mk c1 V s1 r q=>exact k c1 V v (st.trans s1) s1 (J.step F s1 B) r q) λ_ _ z=>z.2.lift st
variable (K L y n) in
def Rw(e:Expr)(a:Ex):Prop:=
 ∀(A:Bb) (c:Cf K.h₀) (ρ:List V) (Q:BS) (X:CP),L6 K L.up A->Fr c L ρ->ZA c L y n->a K.C ρ c.σ Q X->Am K.M A (eval e L.env) (PV c Q) (PX c X) c.s
theorem j6{pos}(M:FE K L l a)(hr:Rw K L y n r b):Rw K L y n (.BinOp l o r pos) (Ah o a b):=λA c ρ _ X R F J q=>
 wpAny_BinOp (vM (.refl c) F J (M A c ρ _ X R F q) λc1 _ _ s1 _ J1 r1 B=>seq s1 (hr A c1 ρ _ X R (F.step s1) J1 B) λ_ _ _ s2 Z r2 q2=>fin s2 (Xy (r1.step Z) r2 q2))
theorem jM{pos}(B:Rw K L y n l a)(hr:FE K L r b):Rw K L y n (.BinOp l o r pos) (Ah o a b):=λA c ρ _ X R F J q=>
 wpAny_BinOp (seq (.refl c) (B A c ρ _ X R F J q) λc1 _ _ s1 _ r1 M=>seq s1 (hr A c1 ρ _ X R (F.step s1) M) λ_ _ _ s2 Z r2 q2=>fin s2 (Xy (r1.step Z) r2 q2))
theorem dh{pos}(hn:EL e)(h:Rw K L y n e a):Rw K L y n (.List [e] pos) (CD [a]):=λA c ρ _ X R F J q=>
 wpAny_List (El (seq (.refl c) (h A c ρ _ X R F J q) λc1 V v s1 _ M B=>HM ⟨Ap rfl,(PV.mL (c:=c1) (Vs:=[V]) (items:=[v]) ⟨M,trivial⟩ (Ap rfl) B).lift s1⟩) (hn [] L.env))
theorem kI{mg mb:Str->Option AV}(g:NC K G fa mg mb)(hC:Lx K G fa)(hx:G.lookup x=some (.fn i))(hm:∀m,x≠CR++"."++m)(hk:Ey L.env.scope x=true)(hd:EB x=true)(hn:EL e)(h:Rw K L y n e a) :
  Rw K L y n (.Call (.Name x pf) [e] [] pos) (A2 i [a]):=λA c ρ Q X R F J q=>by
 rw[II]
 refine EX (g.eI x i hx) λo fd ho B=>?_
 refine AB (HD g F (g.fn x i hx hm) hk (Gy hd) (callWith_function (o:=o) (fd:=fd) ?_))
 have Z:Am K.M A (m7 (IS pos (Ef [e] L.env))) (λvals s1=>(s1.heap.get? (fa i)=some o/\o.data=.func fd)/\Am K.M A (call (.ref (fa i)) ([]++vals) []) (PV c Q) (PX c X) s1) (PX c X) c.s:=
  El (seq (.refl c) (h A c ρ _ X R F J q) λc1 V v s1 _ r1 q1=>HM ⟨⟨c1.sim.keep _ _ ho,B⟩,call_in s1 (hC x i hx A L.up c1 [V] [v] Q X R.call (F.step s1).up ⟨r1,trivial⟩ q1)⟩) (hn [] L.env)
 rw[hn] at Z ⊢
 exact Ez Z
theorem lH {o ek : Expr} {a k : Ex} {d i kd : Nat} {cp yp Z pos : Pos} (hbase : ∀ env, Er o ("replace" : Str) env (eval o env) = eval o env) (hline : (Z.endLine == pos.line) = true) (ho : FE K L o a) (hn : EL ek) (hk : FE K L ek k) (hy : L.vs.lookup y = some i) (hl : L.env.kindOf y = some .local) (hd : EB y = true) :
    Rw K L y n (.Call (.Attribute o ("replace" : Str) Z) [.Constant (.str (sign d)) kd cp, .Name y yp, ek] [] pos) (iG d a (AD i) k) := fun A c ρ Q X R F J q => by
  have st3 : IS pos (Ef [.Constant (.str (sign d)) kd cp, .Name y yp, ek] L.env) = [(false, eval (.Constant (.str (sign d)) kd cp) L.env), (false, eval (.Name y yp) L.env), (false, eval ek L.env)] := by
    show IS pos ((false, _) :: (false, _) :: Ef [ek] L.env) = _
    rw [hn [] L.env]; rfl
  refine wpAny_Call_method_late (hbase L.env) (by rw [st3]; rfl) hline st3 (vM (.refl c) F J (ho A c ρ _ X R F q) fun c₁ V v s₁ _ J₁ r₁ B => ?_)
  obtain ⟨hs, B⟩ := B
  cases V with
  | str x =>
    apply Il r₁; intro t
    refine ⟨"str", "str.replace", PySem.F.plainAttrs_str, PySem.F.slot_str_replace, PySem.F.type_str_replace, G8 _ _ _, (fun _ h => by injection h), FV rfl (Ez (K5 (LW (K5 ?_))))⟩
    have s₂ : Di Bv c₁ (c₁.toks (c₁.s.toks + 1)) := Cf.Cj ⟨rfl, rfl⟩
    have M := (F.step s₁).step s₂
    obtain ⟨W, e, hW, q₂⟩ := Wi B
    refine wpAny_Name ?_ (Gy hd)
    refine EJ J₁.at_ fun m z t' hm hmy h0 hlt => ?_
    refine PC F.fn hl hm hmy (K5 (seq (c := c₁.toks (c₁.s.toks + 1)) (s₁.trans s₂) (hk A _ ρ _ X R M q₂) fun c₃ U w s₃ t₃ r₃ q₃ => VK ?_))
    have hz : W = .str z := by
      refine M.ns.casesOn fun m' hm' rr => ?_
      refine AW (rr y i hy hl W e hW) fun v' e' r' => ?_
      rw [show m' = m from n8 hm' hm, hmy] at e'
      have zq := AG e'; subst zq
      exact WV r'
    subst hz
    cases q₃ with
    | @mk _ _ k hzd hk3 hlen q =>
      apply Il r₃; intro tw
      have hu : 0 < c₁.s.toks := Ac (B9 h0 hlt) J₁.tk
      have hne : c₁.s.toks ≠ t' := Bu (Ac hlt J₁.tk)
      refine call_gives PySem.F.slot_str_replace (G8 _ _ _) PySem.F.entry_str_replace (PySem.F.args_str_replace_4 _ _ _ _) (YQ ?_ ?_ ?_ ?_ rfl ?_) ?_
      · rw [decide_eq_false (CG.mpr (RI hk3)), decide_eq_false (FI.mpr (RL hk3))]; rfl
      · rw [JX]; exact ⟨beq_eq_false_iff_ne.mpr (Bu hu), beq_eq_false_iff_ne.mpr (Bu h0)⟩
      · exact beq_eq_false_iff_ne.mpr hne
      · exact beq_eq_false_iff_ne.mpr fun q => hzd q.symm
      · unfold tooLong
        refine decide_eq_false (B1.mpr ?_)
        refine AF ?_ (AF hlen (by decide))
        exact CO (B4 _ (Ic x (sign d) 0 x.length k)) _
      · unfold Ly at q
        cases he : (Dg x (sign d) 0 x.length k).isEmpty with
        | true => rw [he] at q; exact PV.lift s₃ (PV.same FQ q)
        | false => rw [he] at q; exact ⟨cA hlen, PV.lift s₃ (PV.plain FQ q)⟩
  | _ => exact hs.elim
inductive vv:Expr->Str->Prop
 |mk {x:Str} {kd:Nat} {p:Pos}:vv (.Constant (.str x) kd p) x
abbrev Vx:=WL vv
theorem d5(h:Vx B ss):∀{s:Aj} {Q:List AV->Aj->Prop},Q (PH s.toks ss) { s with toks:=s.toks+ss.length }->Am M A (m7 (IS pos (Ef B env))) Q E s:=by
 induction h with
 |nil=>exact λq=>HM q
 | @cons _ _ _ xs h _ ih=>
  intro s Q q
  cases h
  refine El (LW (ih ?_)) rfl
  rw[Bn,Ci xs.length 1,<- Ed] at q
  exact q
theorem n9:∀{tk j:Nat} {s:Str},ss[j]?=some s->(PH tk ss)[j]?=some (.str s (tk+j)):=by
 induction ss with
 |nil=>intro tk j s h;exact absurd h.symm (AY s)
 |cons x ss B=>
  intro tk j s h
  cases j with
  |zero=>have F:=AG h;subst F;rfl
  |succ j=>exact(B (tk:=tk+1) h).trans (by rw[Ed,Ci 1])
theorem lz:∀{tk:Nat},(PH tk ss).length=ss.length:=by
 induction ss with
 |nil=>intro tk;rfl
 |cons x ss B=>intro tk;exact congrArg (·+1) (B (tk:=tk+1))
variable (K L) in
def Wl(st:List Stmt)(a:List Sx):Prop:=∀(A:Bb) (c:Cf K.h₀) (ρ:List V) (Q:HT),L6 K L.up A->Fr c L ρ->0<c.s.toks->Ek a K.C ρ c.σ Q->Am K.M A (execs st L.env) (PF c L Q) (PE c L Q) c.s
theorem XN(h:Wz K L st a)(hs:Wl K L Z as):Wl K L (st::Z) (a::as):=λA c ρ Q R F t q=>
 Em (Ax (wpAny_toks t (h A c ρ _ R F q)) (λ_ _ zz=>zz.elim λt' y=>by
  cases y with
  |next c1 B s1 F1 M=>exact Ax (hs A c1 B Q R F1 t' M) (λ_ _ z=>z.lift s1) λ_ _ z=>z.lift s1
  |ret c1 B V v s1 F1 r M=>exact .ret c1 B V v s1 F1 r M) λ_ _ x=>x.2.casesOn λc' ρ' k a fp fl n hk s F x h q=>.mk c' ρ' k a fp fl n hk s F x h q)
theorem YA(hc:M7 value (some (.Name x M)) pos.line L.env=pure false)(hx:L.vs.lookup x=some i)(hl:L.env.kindOf x=some .local)(h:FE K L value a)(hs:Wl K L B as) :
  Oz K L (.Assign [.Name x M] value pos::B) (BR (.var i) a::as):=λA c ρ Q R F q=>
 Em (Pn (qA F (h A c ρ _ _ R F q) λc1 V v s1 r q1=>Ha (I4 (F.step s1) hx hl r λc2 e1 Z st F2 k=>by
  have s2:Di L.own c c2:=s1.any.trans (st.NH λ_ e=>.inl e)
  exact Ax (hs A c2 _ Q R F2 (Al (BM _) k.1) (Z▸q1)) (λ_ _ z=>z.lift s2) λ_ _ z=>z.lift s2)) hc rfl)
theorem V0{lp sp yp pos rp:Pos}(hcs:Vx cs ss)(hz:ss.length<=1000)(hsl:OC ix)(hix:FE K L ix a)(hy:L.vs.lookup y=some i)(hl:L.env.kindOf y=some .local)(he:∀n,Rw K L y n e₂ e) :
  Wl K L [.Assign [.Name y yp] (.Subscript (.List cs lp) ix sp) pos,.Return (some e₂) rp] [BR (.var i) (i0 ss a),CE e]:=λA c ρ Q R F t q=>by
 have hz':(PH c.s.toks ss).length<=HL:=by rw[lz];exact AF hz (by decide)
 refine Em (Pn (Pm (wpAny_List (d5 hcs ⟨hz',?_⟩))) rfl rfl)
 have B:Di Bv c (c.keep { c.s with heap:=c.s.heap.push { cls:=.type "list", data:=.seq (PH c.s.toks ss).toArray },toks:=c.s.toks+ss.length } E0):=Cf.Cj ⟨rfl,rfl⟩
 refine Ax (wpAny_toks (Az _) (hix A (c.keep _ E0) ρ _ _ R (F.step B) q)) (λv s' z=>?_) λ_ _ z=>((z.2:PX _ _ _ _).lift B).nF F
 obtain⟨tk,z⟩:=z
 cases z with
 |mk c₂ V s₂ r q₂=>
  have M:c₂.s.heap.get? c.s.heap.objs.size=some { cls:=.type "list", data:=.seq (PH c.s.toks ss).toArray }:=s₂.PZ (c.sim.out DB) (λf=>f) (λ_ _ h=>by injection h) (Aw _ rfl)
  cases q₂ with
  | @mk j s hj q₂=>
   apply Il r;intro u
   have hjl:j<ss.length:=(AP.mp hj).1
   refine H2 (T:="list") ⟨_,M,rfl⟩ slot_list_getitem.lookup (wpAny_getItem_list ⟨_,M,rfl,0,rfl⟩ (AQ _) (BH.mpr (Ac hjl (AF hz (by decide)))) (by rw[A6,List.getElem?_toArray];exact n9 hj) ?_) (hsl _ _)
   have s₃:=B.trans s₂
   refine Ha (I4 (F.step s₃) hy hl (FQ (t:=c.s.toks+j)) λc₄ e1 e2 st Z k=>?_)
   have s₄:Di L.own c c₄:=s₃.any.trans (st.NH λ_ e=>.inl e)
   refine FH k λkt m hm hmy=>?_
   have J:ZA c₄ L y (c.s.toks+ss.length):=⟨AF tk (A4 kt),m,s,_,hm,hmy,Ac t (A0 _ _),Hq hjl _⟩
   exact Ax (Em (Hb (qA Z (he _ A c₄ _ _ _ R Z J (e2▸q₂)) λc₅ V v s₅ r q₅=>PF.ret (Q:=Q) c₅ _ V v s₅.any (Z.step s₅) r q₅))) (λ_ _ z=>z.lift s₄) λ_ _ z=>z.lift s₄
end
end Mine.Internal
namespace Mine.Internal
open PySem PySem.Calls
set_option genSizeOf false
set_option genInjectivity false
noncomputable def Kq:Nat->List Str->Vs
 |_,[]=>[]
 |n,x::r=>(x,n)::Kq (n+1) r
theorem c6(xs:List Str):∀(n:Nat) {x:Str} {i:Nat},(Kq n xs).lookup x=some i->∃j,i=n+j/\xs[j]?=some x:=by
 induction xs with
 |nil=>exact λ_ _ i h=>absurd h.symm (AY i)
 |cons y r F=>
  intro n x i h
  replace h:((y,n)::Kq (n+1) r).lookup x=some i:=h
  rw[BL] at h
  cases e:x==y with
  |true=>rw[e] at h;exact⟨0,(AG h).symm,congrArg some (beq_iff_eq.mp e).symm⟩
  |false=>rw[e] at h;refine AW (F (n+1) h) λj B M=>?_;exact⟨j+1,B.trans (by rw[Ed,Ci 1]),M⟩
theorem OD(h:(Kq 0 xs).lookup x=some i):xs[i]?=some x:=by refine AW (c6 xs 0 h) λ_ e q=>?_;exact(e.trans (Be _))▸q
theorem dy(ps:List Str):∀(vs:List AV) (m:Str->Option AV) {x:Str},x∉ps->bindL k (ps.zip vs) m x=m x:=by
 induction ps with
 |nil=>exact λ_ _ _ _=>rfl
 |cons p ps M=>intro vs m x h;cases vs with
  |nil=>rfl
  |cons v vs=>
   refine(M vs _ λF=>h (Ad _ F)).trans ?_
   by_cases B:k p=some .local
   .rw[if_pos B];exact if_neg (show ¬x=p from λe=>h (e▸AL))
   .rw[if_neg B]
theorem dm(ps:List Str):∀(vs:List AV) (m:Str->Option AV) {x:Str},x∉ps->bindC k (ps.zip vs) m x=m x:=by
 induction ps with
 |nil=>exact λ_ _ _ _=>rfl
 |cons p ps M=>intro vs m x h;cases vs with
  |nil=>rfl
  |cons v vs=>
   refine(M vs _ λF=>h (Ad _ F)).trans ?_
   by_cases B:k p=some .local
   .rw[if_pos B]
   .rw[if_neg B];exact if_neg (show ¬x=p from λe=>h (e▸AL))
theorem cH(ps:List Str):∀(vs:List AV) (m:Str->Option AV) {i:Nat} {x:Str} {v:AV},ps.Nodup->ps[i]?=some x->vs[i]?=some v->k x=some .local->bindL k (ps.zip vs) m x=some v:=by
 induction ps with
 |nil=>intro vs m i x v _ h;exact absurd h.symm (AY x)
 |cons p ps M=>intro vs m i x v B h h' F;cases vs with
  |nil=>exact absurd h'.symm (AY v)
  |cons u vs=>
   cases i with
   |zero=>
    have z:=AG h;subst z;have z:=AG h';subst z
    refine(dy ps vs _ (Ds.mp B).1).trans ?_
    rw[if_pos F,if_pos rfl]
   |succ i=>exact M vs _ (Ds.mp B).2 h h' F
theorem cV(ps:List Str):∀(vs:List AV) (m:Str->Option AV) {i:Nat} {x:Str} {v:AV},ps.Nodup->ps[i]?=some x->vs[i]?=some v->k x≠some .local->bindC k (ps.zip vs) m x=some v:=by
 induction ps with
 |nil=>intro vs m i x v _ h;exact absurd h.symm (AY x)
 |cons p ps M=>intro vs m i x v B h h' F;cases vs with
  |nil=>exact absurd h'.symm (AY v)
  |cons u vs=>
   cases i with
   |zero=>
    have z:=AG h;subst z;have z:=AG h';subst z
    refine(dm ps vs _ (Ds.mp B).1).trans ?_
    rw[if_neg F,if_pos rfl]
   |succ i=>exact M vs _ (Ds.mp B).2 h h' F
theorem Qf(B:List (Str×PJ)):∀(n:Nat) (acc:List (Str×Addr)) {x:Str},(acc.lookup x).isSome=true\/(x,Hd)∈B->((cellsFrom n B acc).lookup x).isSome=true:=by
 induction B with
 |nil=>exact λ_ _ _ h=>h.elim id λh=>absurd h BU
 |cons p r F=>
  intro n acc x h
  cases p with | mk y k=>
  refine(?_:((if k==Hd then cellsFrom (n+1) r ((y,n)::acc) else cellsFrom n r acc).lookup x).isSome=true)
  cases Z:k==Hd with
  |false=>exact F n acc (h.imp id λm=>(Ao.mp m).resolve_left λe=>by cases e;cases Z)
  |true=>
   refine F (n+1) _ ?_
   rw[BL]
   cases e:x==y with
   |true=>exact .inl rfl
   |false=>exact h.imp id λm=>(Ao.mp m).resolve_left λM=>by cases M;rw[beq_self_eq_true] at e;cases e
noncomputable def ownOf(sc:Bq):List Str:=(sc.names.filter λx=>(x.2==.local||x.2==.cell)&&x.1 != (".0":Str)).map (·.1)
noncomputable def FN(ps:List Str)(sc:Bq):List Str:=ps++(ownOf sc).filter λx=>!ps.contains x
noncomputable def QY(sc:Bq)(x:Str):Bool:=sc.names.lookup x==some .local||sc.names.lookup x==some .cell
theorem Jp(h:QY sc x=true):sc.names.lookup x=some .local\/sc.names.lookup x=some .cell:=(GA.mp h).imp beq_iff_eq.mp beq_iff_eq.mp
structure aU(scope:Bq)(args:List Str):Prop where
 nodup:args.Nodup
 own:∀x∈FN args scope,QY scope x=true
 kind:scope.kind=.function
 co:scope.isCoroutine=false
 gen:scope.isGenerator=false
noncomputable abbrev Iy(args:List Str)(sc:Bq):Vs:=Kq 0 (FN args sc)
theorem Vz{h₀:Bs}{c Z:Cf h₀}{ps xs:List Str}{Vs:List V}{vals:List AV}{i k:Nat}{x:Str}{M:Option AV}(hl:ps.length=Vs.length)(rl:CF c.s.heap c.φ Vs vals)(hx:(ps++xs)[i]?=some x)(st:Ho Bv c Z)(h:∀v,ps[i]?=some x->vals[i]?=some v->M=some v):GL Z (Vs++Dm k V.undef) i M:=λW B F=>by
 have hi:i<Vs.length:=Nat.lt_of_not_le λh=>F (by
  rw[Ak h,List.getElem?_replicate] at B
  split at B
  .exact(AG B).symm
  .cases B)
 rw[A3 hi] at B
 rw[A3 (hl▸hi)] at hx
 refine AW (rl.get B) λv e r=>?_
 exact⟨v,h v hx e,r.own st λ_ f=>f.elim⟩
section
variable {K:Ctx}
theorem Xi{c:Cf K.h₀}{B:Aj}{fd:ZP}{a:Addr}{args:List Str}{Vs:List V}{vals:List AV}{k:Nat}(D:aU fd.scope args)(hg:fd.globals=De)(hb:fd.builtins=LV)(rl:CF c.s.heap c.φ Vs vals)(hl:args.length=Vs.length){up:List Env}(hup:∀e∈up,LJ c e)(x:InCallC c.s (Hs fd c.s.heap.objs.size a).locals (bindL (Hs fd c.s.heap.objs.size a).kindOf (args.zip vals) λ_=>none) (Hs fd c.s.heap.objs.size a).cells (bindC (Hs fd c.s.heap.objs.size a).kindOf (args.zip vals) λ_=>none) B) :
  Fr (c.keep B x.toInCall.keep) ⟨Hs fd c.s.heap.objs.size a,Iy args fd.scope,Hs fd c.s.heap.objs.size a::up⟩ (Vs++Dm k V.undef):=by
 have st:Ho Bv c (c.keep B x.toInCall.keep):=by
  refine EX x.done λh₁ tk ze1 _=>?_;subst ze1
  exact(Cf.Cj (c:=c) (k:=x.toInCall.keep) ⟨rfl,rfl⟩).toHo
 exact {
  fn:=D.kind
  glob:=hg
  blt:=hb
  IP:=c.sim.DL DB
  G3:=c.sim.out DB
  inj:=λy z i hy hz=>AG ((OD hy).symm.trans (OD hz))
  ns:=.mk _ x.toInCall.ns λy i hy hk=>Vz hl rl (OD hy) st λv Z h2=>cH _ _ _ D.nodup Z h2 hk
  cell:=λy i hy hk=>by
   have F:=OD hy
   have hc:fd.scope.names.lookup y=some .cell:=(Jp (D.own y (Ae F))).resolve_left λe=>by
    rw[show (Hs fd c.s.heap.objs.size a).kindOf y=_ from e] at hk
    refine A7 hk (λq=>?_) (λq=>?_) <;> cases q
   refine Cq (Km.mp (Qf fd.scope.names (c.s.heap.objs.size+1) [] (.inr (mem_of_lookup hc)))) λb ec=>?_
   have M:(Hs fd c.s.heap.objs.size a).cells.lookup y=some b:=ec
   have n:c.s.heap.get? b=none:=F0 (A4 (x.above y b (mem_of_lookup M)))
   exact .mk b _ M (c.sim.out n) (c.sim.DL n) (x.cell y b M) (Vz hl rl F st λv Z h2=>cV _ _ _ D.nodup Z h2 (by rw[show (Hs fd c.s.heap.objs.size a).kindOf y=_ from hc];exact(λh=>absurd h (by decide))))
  GO:=λy z i j b _ _ Z h2=>name_of_addr x.apart (mem_of_lookup Z) (mem_of_lookup h2)
  up:=λe m=>(Ao.mp m).elim (λq=>by subst q;exact⟨(λq=>by injection D.kind.symm.trans q),_,_,rfl,c.sim.DL DB,c.sim.out DB,x.toInCall.ns⟩) λm=>(hup e m).keep st λ_ _ _ _ f=>f }
theorem pD(hd:K.d=d){Vs:List V}{vals:List AV}(hp:fd.params=⟨[],args,none,[],[],none,[]⟩)(D:aU fd.scope (args.map (·.arg)))(hg:fd.globals=De)(hb:fd.builtins=LV)(hbody:fd.body=.stmts body)(hclo:fd.closure=[])(hdf:fd.defaults=.none)(hup:∀e∈up,LJ c e)(R:A.handled=K.hx.map Cm/\A.depth+3*(d+1)<903/\A.units+12*(d+1)<9009/\A.frames=some up)(ho:c.s.heap.get? a=some o)(hdat:o.data=.func fd)(hlim:c.s.heap.NoLimit)(hcd:c.s.heap.CodeRec fd.code fd.qualname)(rl:CF c.s.heap c.φ Vs vals)(hl:(args.map (·.arg)).length=Vs.length)(hB:∀env,env.scope=fd.scope->env.code=fd.code->env.qual=fd.qualname++".<locals>."->lC K ⟨env,Iy (args.map (·.arg)) fd.scope,env::up⟩ body body')(q:Ek body' K.C (Vs++Dm k V.undef) c.σ (Jt Q X)):Lp K.M A (.call (.ref a) ⟨vals,[]⟩) (Vp K c Q X) c.s:=by
 refine Gx R λhh Z hun hfr=>?_
 have hroom:A.depth<recursionLimit:=Ac (Al (A0 _ _) Z) (by decide)
 refine codeAny_call_cells (binds:=(args.map (·.arg)).zip vals) hroom ho hdat hlim hcd hbody (MH hp hdf (hl.trans rl.length) D.nodup) hclo (λy hy=>?_) (λs1 x=>?_) D.co D.gen D.kind
 .exact(Jp (D.own y.1 (Cg _ (List.of_mem_zip hy).1))).imp id λe=>⟨e,Qf _ _ _ (.inr (mem_of_lookup e))⟩
 .have F:=Xi (k:=k) (a:=a) D hg hb rl hl hup x
  have B:Di Bv c (c.keep s1 x.toInCall.keep):=by
   refine EX x.done λh1 tk ze1 _=>?_;subst ze1
   exact Cf.Cj ⟨rfl,rfl⟩
  have new:∀b,Loc.own ⟨Hs fd c.s.heap.objs.size a,Iy (args.map (·.arg)) fd.scope,Hs fd c.s.heap.objs.size a::up⟩ b->c.s.heap.get? b=none:=λb h=>h.elim (λe=>e▸DB) λh=>ES h λy i _ _ ec=>F0 (A4 (x.above y b (mem_of_lookup ec)))
  have R':j8 K (Hs fd c.s.heap.objs.size a::up) (A.deeper (Hs fd c.s.heap.objs.size a)):=⟨hh,by rw[hd];show A.depth+1+3*d<901;exact Dy .lt (.a (.a .v0 .n1) (.m 3 .v1)) (.n 901) (.t (.a .v0 (.m 3 (.a .v1 .n1))) (.n 903) .e) rfl Z,by rw[hd];show A.units+3+12*d<9000;exact Dy .lt (.a (.a .v0 .n3) (.m 12 .v1)) (.n 9000) (.t (.a .v0 (.m 12 (.a .v1 .n1))) (.n 9009) .e) rfl hun,by show A.frames.map _=_;rw[hfr];rfl⟩
  refine Ax (hB _ rfl rfl rfl _ (c.keep s1 x.toInCall.keep) _ _ R' F q) (λf s' y=>?_) λe s' y=>?_
  .cases y with
   |next c' _ st _ q=>exact .mk c' .none (B.DR st.toHo new) Kv q
   |ret c' _ V _ st _ r q=>exact .mk c' V (B.DR st.toHo new) r q
  .refine GR (y.at R'.ok rfl) λc' ρ' k a' fp fl ze1 ze2 z hk q st n=>?_;subst ze1;subst ze2
   exact lN (P:=λs=>PX c X (.ref a') s) z λc'' T e1 e2 st' F' ex hp=>.mk c'' k a' [a',T] (λb m=>⟨B.gone (LI e1 st n hp b m).1,(LI e1 st n hp b m).2⟩) hk ((B.DR st.toHo new).DR st' λb m=>B.gone (n b m).1) ex (e2▸q)
end
end Mine.Internal
namespace Mine.Internal
open PySem PySem.Calls
set_option genSizeOf false
set_option genInjectivity false
noncomputable def I7(env:Env):List (Str×PJ)->List (Str×Addr)->List (Str×Addr)
 | [],acc=>acc
 | (n,k)::r,acc=>if k==.free then I7 env r ((n,(env.cells.lookup n).getD 0)::acc) else I7 env r acc
theorem Oe:I7 env (p::r) acc=if p.2==.free then I7 env r ((p.1,(env.cells.lookup p.1).getD 0)::acc) else I7 env r acc:=rfl
theorem Yc(names:List (Str×PJ)):∀(acc:List (Str×Addr)),(∀y∈names,y.2=.free->∃a,env.cells.lookup y.1=some a)->
  (forIn names acc λx cs=>(if x.2==DM then do let a <- cellOf env x.1;pure (FF ((x.1,a)::cs)) else pure (FF cs):Sem (ForInStep (List (Str×Addr)))))=pure (I7 env names acc):=by
 induction names with
 |nil=>exact λ_ _=>rfl
 |cons p r ih=>
  intro acc hh
  cases p with | mk n k=>
  rw[Eu,Oe]
  dsimp only
  cases hk:k==DM with
  |false=>exact ih acc λy hy=>hh y (Ad _ hy)
  |true=>
   refine Cq (hh (n,k) AL (beq_iff_eq.mp hk)) λa ha=>?_
   rw[if_pos rfl,if_pos rfl,show cellOf env n=pure a by unfold cellOf;rw[ha],ha]
   exact ih _ λy hy=>hh y (Ad _ hy)
theorem Yq(h:∀y∈sc.names,y.2=.free->∃a,env.cells.lookup y.1=some a):closureFor sc env=pure (I7 env sc.names []):=by
 exact congrArg (λm:Sem (List (Str×Addr))=>m >>= pure) (Yc sc.names [] h)
theorem jU(env:Env)(B:List (Str×PJ)):∀(acc:List (Str×Addr)) (y:Str),(∀p∈acc,p.2=(env.cells.lookup p.1).getD 0)->(acc.lookup y).isSome=true\/(y,DM)∈B->
  (I7 env B acc).lookup y=some ((env.cells.lookup y).getD 0):=by
 induction B with
 |nil=>
  intro acc y F h
  refine Cq (Km.mp (h.resolve_right BU)) λa Z=>?_
  exact Z.trans (congrArg some (F (y,a) (mem_of_lookup Z)))
 |cons p r M=>
  intro acc y F h
  cases p with | mk n k=>
  rw[Oe]
  cases hk:k==DM with
  |false=>exact M acc y F (h.imp id λm=>(Ao.mp m).resolve_left λe=>by cases e;cases hk)
  |true=>
   refine M _ y (λp hp=>(Ao.mp hp).elim (λe=>e▸rfl) (F p)) ?_
   rw[BL]
   cases e:y==n with
   |true=>exact .inl rfl
   |false=>exact h.imp id λm=>(Ao.mp m).resolve_left λe'=>by cases e';rw[beq_self_eq_true] at e;cases e
theorem TU(env:Env)(B:List (Str×PJ)):∀(acc:List (Str×Addr)) (y:Str),acc.lookup y=none->(y,DM)∉B->(I7 env B acc).lookup y=none:=by
 induction B with
 |nil=>exact λ_ _ h _=>h
 |cons p r F=>
  intro acc y h hn
  cases p with | mk n k=>
  rw[Oe]
  cases M:k==DM with
  |false=>exact F acc y h λm=>hn (Ad _ m)
  |true=>
   refine F _ y ?_ λm=>hn (Ad _ m)
   rw[BL,beq_eq_false_iff_ne.mpr λe=>hn (by rw[e,<- beq_iff_eq.mp M];exact AL)]
   exact h
theorem Qo{env:Env}{x:Str}(B:List (Str×PJ)) :
  (B.map λ(n,k)=>if (k==DM&&env.scope.kind==.function&&env.kindOf n==some .cell) then (n,Hd) else (n,k)).lookup x =
  (B.lookup x).map λk=>if (k==DM&&env.scope.kind==.function&&env.kindOf x==some .cell) then Hd else k:=by
 induction B with
 |nil=>rfl
 |cons p r M=>
  cases p with | mk n k=>
  show bk x ((if (k==DM&&env.scope.kind==.function&&env.kindOf n==some .cell)=true then (n,Hd) else (n,k))::_)=I0 _ (bk x ((n,k)::r))
  by_cases F:(k==DM&&env.scope.kind==.function&&env.kindOf n==some .cell)=true
  .rw[if_pos F,BL,BL]
   cases e:x==n with
   |true=>rw[beq_iff_eq.mp e];exact congrArg some (if_pos F).symm
   |false=>exact M
  .rw[if_neg F,BL,BL]
   cases e:x==n with
   |true=>rw[beq_iff_eq.mp e];exact congrArg some (if_neg F).symm
   |false=>exact M
theorem ML{env:Env}{sc:Bq}{x:Str}:(Nq sc env).names.lookup x=(sc.names.lookup x).map λk=>if (k==DM&&env.scope.kind==.function&&env.kindOf x==some .cell) then Hd else k:=Qo sc.names
theorem Tg(h:sc.names.lookup y=some .free):(Nq sc env).names.lookup y=some .cell\/(Nq sc env).names.lookup y=some .free:=by
 rw[ML,h,Hr]
 split
 .exact .inl rfl
 .exact .inr rfl
structure H8(L:Loc)(sc:Bq)(vs':Vs)(x:Str)(i:Nat):Prop where
 kind:sc.kind=.function
 cell:∀y∈sc.names,y.2≠.cell
 names:∀y∈sc.names,y.2=.local->sc.names.lookup y.1=some .local
 var:sc.names.lookup x=some .local
 once:(x,DM)∉sc.names
 slot:vs'.lookup x=some i
 free:∀y∈sc.names,y.2=.free->∃j,L.vs.lookup y.1=some j/\(L.env.kindOf y.1=some .cell\/L.env.kindOf y.1=some .free)
 vars:∀y j,vs'.lookup y=some j->(y=x/\j=i)\/(y≠x/\sc.names.lookup y=some .free/\L.vs.lookup y=some j/\j≠i)
noncomputable abbrev G2(L:Loc)(sc:Bq)(vs':Vs)(C:Addr):Loc:=⟨compEnvC sc (I7 L.env sc.names []) C L.env,vs',L.up⟩
section
variable {h₀:Bs} {c c':Cf h₀} {L:Loc} {ρ:List V} {sc:Bq} {vs':Vs} {x:Str} {i:Nat} {C:Addr}
theorem TC(B:H8 L sc vs' x i):(G2 L sc vs' C).env.kindOf x=some .local:=lookup_relabel_local B.var
theorem Jj(cs:H8 L sc vs' x i)(F:Fr c L ρ)(Z:sc.names.lookup y=some .free)(M:L.vs.lookup y=some j):ZF c L ρ y j/\∀a,L.env.cells.lookup y=some a->(I7 L.env sc.names []).lookup y=some a:=by
 refine AW (cs.free (y,.free) (mem_of_lookup Z) rfl) λj' B hk=>?_
 have zq:=AG (M.symm.trans B);subst zq
 exact⟨F.cell y j M hk,λa e=>by rw[jU L.env sc.names [] y Hn (.inr (mem_of_lookup Z)),e];rfl⟩
theorem Xj(B:H8 L sc vs' x i)(F:Fr c L ρ)(st:Ho Bv c c')(n:c'.s.heap.Ns C m)(hC:c.s.heap.get? C=none)(ho:C∉c'.φ):Fr c' (G2 L sc vs' C) (ρ.set i .undef) where
 fn:=B.kind
 glob:=F.glob
 blt:=F.blt
 IP:=c.sim.DL hC
 G3:=ho
 inj y z j hy hz:=by
  rcases B.vars y j hy with ⟨rfl,rfl⟩ | ⟨h1,_,h2,h3⟩
  .rcases B.vars z _ hz with ⟨rfl,_⟩ | ⟨_,_,_,h3⟩
   .rfl
   .exact absurd rfl h3
  .rcases B.vars z j hz with ⟨rfl,rfl⟩ | ⟨_,_,h4,_⟩
   .exact absurd rfl h3
   .exact F.inj y z j h2 h4
 ns:=.mk m n λy j hy hk=>by
  rcases B.vars y j hy with ⟨rfl,rfl⟩ | ⟨_,Z,_,_⟩
  .exact λV hV hne=>absurd (IL hV).symm hne
  .refine A7 (Tg (env:=L.env) Z) (λe=>?_) (λe=>?_) <;> cases e.symm.trans hk
 cell y j hy hk:=by
  rcases B.vars y j hy with ⟨rfl,rfl⟩ | ⟨_,Z,hv,hj⟩
  .rw[TC B] at hk;refine A7 hk (λq=>?_) (λq=>?_) <;> cases q
  .obtain⟨ca,hl⟩:=Jj B F Z hv
   exact ca.casesOn λa ov e1 M e3 ic rr=>.mk a ov (hl a e1) (AW (ic) λ_ e _=>st.out e M) e3 (st.mP M (λf=>f) ic) ((rr.own st λ_ f=>f.elim).other (HJ hj))
 GO y z j j' a hy hz h1 h2:=by
  have nx:(I7 L.env sc.names []).lookup x=none:=TU L.env sc.names [] x rfl B.once
  rcases B.vars y j hy with ⟨rfl,rfl⟩ | ⟨_,Z,hv,_⟩
  .exact absurd (nx.symm.trans h1).symm (AY _)
  .rcases B.vars z j' hz with ⟨rfl,rfl⟩ | ⟨_,hf',hv',_⟩
   .exact absurd (nx.symm.trans h2).symm (AY _)
   .obtain⟨⟨a1,_,e1,_⟩,l1⟩:=Jj B F Z hv
    obtain⟨⟨a2,_,M,_⟩,l2⟩:=Jj B F hf' hv'
    have zq:=AG ((l1 a1 e1).symm.trans h1);subst zq
    have zq:=AG ((l2 a2 M).symm.trans h2);subst zq
    exact F.GO y z j j' _ hv hv' e1 M
 up e m:=(F.up e m).keep st λ_ _ _ _ f=>f
end
section
variable {K:Ctx} {L:Loc}
variable (K L) in
def Tw(es:List Expr)(ts:List Tx):Prop:=
 ∀(A:Bb) (c:Cf K.h₀) (ρ:List V) (Q:Bool->Af->Prop),L6 K L.up A->Fr c L ρ->LB ts K.C ρ c.σ Q W3->
  Am K.M A (forIn es true λe r=>if r=true then do let ok <- m8 e L.env (eval e L.env);pure (FF ok) else pure (FF r)) (PB c Q) (PX c W3) c.s
theorem kM(es:List Expr)(h:Q false s) :
  Am K.M A (forIn es false λe r=>if r=true then do let ok <- m8 e env (eval e env);pure (FF ok) else pure (FF r)) Q E s:=by
 induction es with
 |nil=>exact AS h
 |cons _ es ih=>rw[Eu];exact AB (AS ih)
theorem kB:Tw K L [] []:=λ_ c _ _ _ _ q=>wpAny_tests_nil (.mk c (.refl c) q)
theorem dz(h:nA K L e t)(hs:Tw K L es ts):Tw K L (e::es) (t::ts):=λA c ρ Q R F q=>by
 rw[Eu]
 refine AB (AB (jZ (.refl c) (h A c ρ _ W3 R F q) λc1 b s1 _ q1=>AS ?_))
 cases b with
 |false=>exact kM es (.mk c1 s1 q1)
 |true=>exact iO s1 (hs A c1 ρ Q R (F.step s1) q1)
theorem oo{P:Prop}(x:PX c W3 e s):P:=absurd x (PX.no λ_ _ f=>f)
end
end Mine.Internal
namespace Mine.Internal
open PySem PySem.Calls
set_option genSizeOf false
set_option genInjectivity false
section
variable {K:Ctx} {L:Loc} {A:Bb} {vs':Vs}
theorem g9{Z:Type}{M:Lq}{P:Aj->Prop}{E E':AV->Aj->Prop}{s:Aj}{t:Sem Z}{Q:Z->Aj->Prop}(h:Am M A (pure ():Sem Unit) (λ_ s'=>P s') E' s)(k:P s->Am M A t Q E s):Am M A t Q E s:=λF p B=>k (h F p B) F p B
inductive AccAt(c:Cf K.h₀)(D:Addr)(acc:List V):Prop
 |mk (arr:Array AV) (n:Nat):D∉c.φ->IsL c.s.heap D arr n->CF c.s.heap c.φ acc arr.toList->AccAt c D acc
theorem AccAt.own{own:Addr->Prop}(st:Ho own c M)(F:∀a,own a->FC c.s.heap a)(Z:¬own D)(x:AccAt c D acc):AccAt M D acc:=x.casesOn λB n o e r=>.mk B n (st.out e o) (st.PZ o Z (λ_ _ h=>by injection h) e) (r.own st F)
theorem AccAt.step(st:Di Bv c B)(x:AccAt c D acc):AccAt B D acc:=x.own st.toHo (λ_ f=>f.elim) λf=>f
theorem AccAt.uN(x:Jx c.s.heap D)(y:AccAt c D acc):False:=y.casesOn λ_ _ _ e _=>x.casesOn λ_ _ _ B d _ _=>by injection d.symm.trans (congrArg Iv (AG (B.symm.trans e)))
theorem AccAt.eH(n:c.s.heap.Ns D m)(y:AccAt c D acc):False:=y.casesOn λ_ _ _ e _=>KY (IA n) λ_ B _ _ d=>by injection d.symm.trans (congrArg Iv (AG (B.symm.trans e)))
theorem AccAt.ZN(n:c.s.heap.IsCell D v)(y:AccAt c D acc):False:=y.casesOn λ_ _ _ e _=>AW n λ_ B d=>by injection d.symm.trans (congrArg Iv (AG (B.symm.trans e)))
theorem AccAt.Gw(y:AccAt c D acc):FC c.s.heap D:=y.casesOn λ_ _ _ e _=>Mine.Internal.Gw e Gs
inductive VT(c:Cf K.h₀)(Lc:Loc)(ρ:List V)(D:Addr)(St:Nat->Cf K.h₀->Prop)(items:List V)(W:Nat->List V->Af->Prop)(n:Nat):Aj->Prop
 |mk (c':Cf K.h₀) (j:Nat) (acc:List V):j+n=items.length+1->j<=items.length->Di Bv c c'->Fr c' Lc ρ->St j c'->AccAt c' D acc->acc.length<=j->W j acc c'.σ->VT c Lc ρ D St items W n c'.s
theorem dO{i:Nat}{same:Af->Prop}{St:Nat->Cf K.h₀->Prop}{Qc:List V->Af->Prop}{E:AV->Aj->Prop}(R:L6 K L.up A)(cs:H8 L scope vs' x i)(hfp:∀b∈fp,c.s.heap.get? b=none)(hD:c.s.heap.get? D=none)(hC:c.s.heap.get? C=none)(W:pW K A (.Name x px) I fp items same St)(helt:FE K (G2 L scope vs' C) elt a)(hts:Tw K (G2 L scope vs' C) ifs ts)(hz:items.length<=Cb){n j:Nat}(hn:j+n=items.length+1)(hlt:j<items.length)(stp:Di Bv c c')(F:Fr c' (G2 L scope vs' C) (ρ.set i .undef))(st:St j c')(ac:AccAt c' D acc)(hal:acc.length<=j)(q:La K.C a i ts ρ items[j] c'.σ λr σ'=>same σ'/\Hf (La K.C a i ts ρ) same (items.drop (j+1)) (acc++r.toList) σ' Qc) :
  Am K.M A (J5 (.ref I)) (λr s₁=>∃v,r=some v/\Am K.M A (mf (.Name x px) (G2 L scope vs' C).env v) (λ_ s₂=>Am K.M A (forIn ifs true λe r=>if r=true then do let ok <- m8 e (G2 L scope vs' C).env (eval e (G2 L scope vs' C).env);pure (FF ok) else pure (FF r)) (λok B=>
    if ok=true then Am K.M A (eval elt (G2 L scope vs' C).env) (λy s₄=>Am K.M A (call (.builtin "list.append") [.ref D,y]) (λ_ s₅=>∃m,m<n/\VT c (G2 L scope vs' C) (ρ.set i .undef) D St items (λj acc σ=>Hf (La K.C a i ts ρ) same (items.drop j) acc σ Qc) m s₅) E s₄) E B
    else ∃m,m<n/\VT c (G2 L scope vs' C) (ρ.set i .undef) D St items (λj acc σ=>Hf (La K.C a i ts ρ) same (items.drop j) acc σ Qc) m B) E s₂) E s₁) E c'.s:=by
 have mine:=W.mine j c' st
 refine Ax (W.item j items[j] c' (AO hlt) st) (λr s₁ zz=>AW zz λv e y=>⟨v,e,g9 y λz=>?_⟩) λ_ _ e=>e.elim
 refine z.casesOn λc₁ e1 e2 s₁ zp00=>?_
 have rl:=zp00.1
 have st₁:=zp00.2
 have F₁:=F.iter mine s₁
 have mine₁:=W.mine (j+1) c₁ st₁
 have ac₁:=ac.own s₁ (λb m=>(mine b m).Gw) λm=>ac.uN (mine D m)
 have stp₁:=stp.DR s₁ hfp
 refine Ha (I4 F₁ cs.slot (TC cs) rl λc₂ f1 f2 s₂ F₂ _=>?_)
 rw[XB] at F₂
 have hns:∀b,b=C->FC c₁.s.heap b/\∃m,c₁.s.heap.Ns b m:=λb e=>F₁.ns.casesOn λm n _=>e▸⟨I5 n,m,n⟩
 have ac₂:=ac₁.own s₂.toHo (λb e=>(hns b e).1) λe=>(hns D e).2.elim λ_ n=>ac₁.eH n
 have stp₂:=stp₁.DR s₂.toHo λb e=>e▸hC
 have go:∀{Z:Cf K.h₀} {acc':List V},Di Bv c Z->Ho (λb=>b=C\/b=D) c₁ Z->Fr Z (G2 L scope vs' C) (ρ.set i items[j])->AccAt Z D acc'->acc'.length<=j+1->same Z.σ/\Hf (La K.C a i ts ρ) same (items.drop (j+1)) acc' Z.σ Qc->
   ∃m,m<n/\VT c (G2 L scope vs' C) (ρ.set i .undef) D St items (λj acc σ=>Hf (La K.C a i ts ρ) same (items.drop j) acc σ Qc) m Z.s:=λ{Z acc'} stp₃ B F₃ ac₃ hl q=>
  ⟨n-1,by exact Dy .lt .v0 .v1 (.q (.a .v0 .n1) .v1 .e) rfl (Ag (HW .le .n1 .v0 (.t .v1 .v2 (.p (.a .v1 .v0) (.a .v2 .n1) .e)) rfl hlt hn)),.mk Z (j+1) acc' (by exact BC (Ll .le (.a (.a .v0 .n1) .v1) (.a .v2 .n1) (.q (.a .v1 .n1) .v3 (.q (.a .v0 .v3) (.a .v2 .n1) .e)) rfl (Ag (HW .le .n1 .v0 (.t .v1 .v2 (.p (.a .v1 .v0) (.a .v2 .n1) .e)) rfl hlt hn)) hn) (Ll .le (.a .v0 .n1) (.a (.a .v1 .n1) .v2) (.p (.a .v1 .v3) (.a .v0 .n1) (.p (.a .v2 .n1) .v3 .e)) rfl hn (Ag (HW .le .n1 .v0 (.t .v1 .v2 (.p (.a .v1 .v0) (.a .v2 .n1) .e)) rfl hlt hn)))) hlt stp₃ F₃.undef (W.frame (j+1) c₁ Z st₁ B.pre q.1 (λb hb o e=>B.PZ ((mine₁ b hb).out c₁.sim) (λm=>m.elim (λm=>((hns b m).2).elim λ_ n=>(mine₁ b hb).mM n) λm=>ac₁.uN (m▸mine₁ b hb)) ((mine₁ b hb).noDict e) e)
   λV v r=>r.own B λb m=>m.elim (λe=>(hns b e).1) λe=>e▸ac₁.Gw) ac₃ hl q.2⟩
 refine Ax (hts A c₂ (ρ.set i items[j]) _ R F₂ (by rw[f2,e2];exact q)) (λok B y=>?_) λ_ _ e=>oo e
 cases ok with
 |false=>
  exact y.casesOn λZ B q₃=>go (stp₂.trans B) ((s₂.NH λ_ e=>.inl e).trans B.any).toHo (F₂.step B) (ac₂.step B) (Fm hal) (by have q₃:same Z.σ/\Hf (La K.C a i ts ρ) same (items.drop (j+1)) (acc++[]) Z.σ Qc:=q₃;rw[Bl] at q₃;exact q₃)
 |true=>
  refine y.casesOn λZ B q₃=>?_
  refine Ax (helt A Z (ρ.set i items[j]) _ W3 R (F₂.step B) q₃) (λu s₄ y=>?_) λ_ _ e=>oo e
  refine y.casesOn λc₄ V s₄ r₄ q₄=>?_
  have F₄:=(F₂.step B).step s₄
  have ac₄:=(ac₂.step B).step s₄
  refine ac₄.casesOn λarr k oD eD rD=>?_
  refine fW ⟨k,eD⟩ (λh₅ hp hs=>?_) (Iz (by rw[rD.size];exact AF hal (AF (A4 hlt) hz)))
  refine Cq hp λk' e'=>?_
  have ho:∀b,b=D->FC c₄.s.heap b/\b∉c₄.φ/\K.h₀.get? b=none:=λb e=>e▸⟨Mine.Internal.Gw eD Gs,oD,c.sim.DL hD⟩
  have s₅:Di (·=D) c₄ (c₄.EF { c₄.s with heap:=h₅ } (λb o hb e=>(hs.2 b hb).trans e) ho):=Cf.GD ⟨rfl,rfl⟩ λb _ e _=>e▸⟨_,e'⟩
  have F₅:=F₄.keep s₅.toHo (λb e=>(ho b e).1) (λf _ n _ e=>ac₄.eH (e▸n)) λb _ ic e=>ac₄.ZN (e▸ic)
  refine go (((stp₂.trans B).trans s₄).DR s₅.toHo λb e=>e▸hD) (((s₂.NH λ_ e=>.inl e).trans (B.trans s₄).any).trans (s₅.NH λ_ e=>.inr e)).toHo F₅ (.mk _ k' oD e' ?_) (by rw[AI];exact C8 hal) q₄
  rw[Fd]
  exact(rD.own s₅.toHo λb e=>(ho b e).1).append ⟨r₄.own s₅.toHo λb e=>(ho b e).1,trivial⟩
inductive Made(c:Cf K.h₀)(Qc:List V->Af->Prop)(D C:Addr):Aj->Prop
 |mk (c':Cf K.h₀) (acc:List V) (m:Str->Option AV):Di Bv c c'->c.s.heap.get? D=none->c.s.heap.get? C=none->C∉c'.φ->c'.s.heap.Ns C m->AccAt c' D acc->acc.length<=Cb->Qc acc c'.σ->Made c Qc D C c'.s
theorem Sy{i:Nat}{same:Af->Prop}{St:Nat->Cf K.h₀->Prop}{Qc:List V->Af->Prop}{RR:AV->Addr->Result->Aj->Prop}{E:AV->Aj->Prop}(R:L6 K L.up A)(F:Fr c L ρ)(st:Di Bv c B)(cs:H8 L scope vs' x i)(hfp:∀b∈fp,c.s.heap.get? b=none)(W:pW K A (.Name x px) I fp items same St)(self:Og K A I St)(st0:St 0 B)(hsame:same B.σ)(helt:∀C,FE K (G2 L scope vs' C) elt a)(hts:∀C,Tw K (G2 L scope vs' C) ifs ts)(hz:items.length<=Cb)(q:Hf (La K.C a i ts ρ) same items [] B.σ Qc)(hfin:∀D C s',Made c Qc D C s'->RR (.ref D) C (.ok .next) s') :
  Am K.M A (newList []) (λacc s₃=>Am K.M A (newFunctionEnv scope L.env.globals (I7 L.env scope.names []) [] L.env.qual none .none (some L.env)) (λcenv s₄=>
   Lp K.M A (.compStart (.ListComp elt [⟨.Name x px,iter,ifs,0⟩] scope pos) 0 (.ref I) acc { cenv with scope:=Nq scope L.env }) (RR acc cenv.locals) s₄) E s₃) E B.s:=by
 refine DI (wpAny_newFunctionEnv cs.cell Hn (λh₁ hns hsb=>?_) cs.kind)
 have nD:B.s.heap.get? B.s.heap.objs.size=none:=DB
 have nC:B.s.heap.get? (B.s.heap.push { cls:=.type "list", dict:=none,data:=.seq ([]:List AV).toArray }).objs.size=none:=NS
 have below:∀{b o},(B.s.heap.push { cls:=.type "list", dict:=none,data:=.seq ([]:List AV).toArray }).get? b=some o->b≠(B.s.heap.push { cls:=.type "list", dict:=none,data:=.seq ([]:List AV).toArray }).objs.size:=λe=>Bo (B7 e)
 have old:∀b o,(B.s.heap.push { cls:=.type "list", dict:=none,data:=.seq ([]:List AV).toArray }).get? b=some o->h₁.get? b=some o:=λb o e=>hsb.extBut b o (below e) (AN _ e)
 have eD:=old _ _ (Aw B.s.heap (o:={ cls:=.type "list", dict:=none,data:=.seq ([]:List AV).toArray }) rfl)
 generalize (B.s.heap.push { cls:=.type "list", dict:=none,data:=.seq ([]:List AV).toArray }).objs.size=C at hns nC ⊢
 have keep:∀b o,B.s.heap.get? b=some o->h₁.get? b=some o:=λb o e=>old b o (AN _ e)
 have s₃:Di Bv B (B.keep { B.s with heap:=h₁,toks:=B.s.toks+([]:List (Str×AV)).length } keep):=Cf.Cj ⟨rfl,rfl⟩
 have F₃:=Xj cs (F.step st) s₃.toHo hns nC (B.sim.out nC)
 have h0:St 0 (B.keep { B.s with heap:=h₁,toks:=B.s.toks+([]:List (Str×AV)).length } keep):=W.frame 0 B _ st0 (A5 _) hsame (λb _ o e=>keep b o e) λV v r=>r.step s₃
 have loop:Lp K.M A (.compLoop (.ListComp elt [⟨.Name x px,iter,ifs,0⟩] scope pos) 0 (.ref I) (.ref B.s.heap.objs.size) (G2 L scope vs' C).env) (RR (.ref B.s.heap.objs.size) C) { B.s with heap:=h₁,toks:=B.s.toks+([]:List (Str×AV)).length }:=by
  refine codeAny_compLoop_tests (λn s'=>VT c (G2 L scope vs' C) (ρ.set i .undef) B.s.heap.objs.size St items (λj acc σ=>Hf (La K.C a i ts ρ) same (items.drop j) acc σ Qc) n s') (λn s' y=>?_) (items.length+1)
   (.mk _ 0 [] (Be _) (BM _) (st.trans s₃) F₃ h0 (.mk #[] _ (B.sim.out nD) eD trivial) (Az _) q)
  refine y.casesOn λc' j acc hn hj stp F' st' ac hal q'=>?_
  refine A7 (Fp j items.length) (λhlt=>?_) (λhge=>?_)
  .rw[FX hlt] at q'
   refine Ax (dO R cs hfp (st.gone nD) (st.gone nC) W (helt C) (hts C) hz hn hlt stp F' st' ac hal q') (λr Z h=>AW h λv e z=>by subst e;exact z) λ_ _ e=>e
  .have zq:=BC hj hge;subst zq
   rw[EV] at q'
   refine Ax (W.done c' st') (λr Z zz=>zz.elim λe z=>?_) λ_ _ e=>e.elim
   subst e
   exact z.casesOn λc₁ e1 e2 Z _=>have mine:=W.mine _ c' st';have F₁:=F'.iter mine Z
    F₁.ns.casesOn λm n _=>hfin _ C _ (.mk c₁ acc m (stp.DR Z hfp) (st.gone nD) (st.gone nC) F₁.G3 n (ac.own Z (λb m=>(mine b m).Gw) λm=>ac.uN (mine _ m)) (AF hal hz) (e2▸q'))
 refine codeAny_compStart_list loop (Ax (self 0 _ h0) (λv Z zz=>zz.elim λe1 e2=>?_) λ_ _ e=>e.elim)
 subst e1 e2;exact loop
theorem Made.join(st:Di Bv c B)(M:c.s.heap.get? D=none)(Z:acc.length<=Cb)(x:AccAt B D acc):∃c2:Cf K.h₀,c2.s=B.s/\c2.φ=B.φ++[D]/\c2.σ=B.σ++[.list acc]/\Di Bv c c2/\Rel c2.s.heap c2.φ (.ref B.σ.length) (.ref D):=
 x.casesOn λF n o e r=>⟨⟨B.s,B.φ++[D],B.σ++[.list acc],B.sim.add (o:=.list acc) o (c.sim.DL M) ⟨F,n,e,r,K1 Z⟩⟩,rfl,rfl,rfl,
  ⟨⟨st.only,st.pre.trans (CU _ _),st.keep,λa m=>(He m).elim (st.fresh a) λe=>.inr (e▸M)⟩,st.SE⟩,⟨D,rfl,by rw[<- B.sim.len];exact Co⟩⟩
theorem letGo(st:Di own c B)(n:B.s.heap.Ns C m)(hC:C∉B.φ)(Z:c.s.heap.get? C=none)(hs:HY C B.s.heap h') :
  ∃c2:Cf K.h₀,c2.s={ B.s with heap:=h' }/\c2.φ=B.φ/\c2.σ=B.σ/\Di own c c2/\Ho (·=C) B c2:=
 have M:∀a,a=C->FC B.s.heap a/\a∉B.φ/\K.h₀.get? a=none:=λa e=>e▸⟨I5 n,hC,c.sim.DL Z⟩
 have s2:Ho (·=C) B (B.EF { B.s with heap:=h' } (λb o F e=>(hs.2 b F).trans e) M):=⟨⟨rfl,rfl⟩,A5 _,λb o _ F e=>⟨o,(hs.2 b F).trans e,.refl o⟩,λ_ m=>.inl m⟩
 ⟨B.EF { B.s with heap:=h' } (λb o F e=>(hs.2 b F).trans e) M,rfl,rfl,rfl,st.DR s2 λb e=>e▸Z,s2⟩
theorem Jc(M:H8 L scope vs' x i)(F:Fr c L ρ):closureFor scope L.env=pure (I7 L.env scope.names []):=
 Yq λy hy hf=>AW (M.free y hy hf) λj Z B=>(F.cell y.1 j Z B).casesOn λa _ e _ _ _ _=>⟨a,e⟩
theorem aY(cs:H8 L scope vs' x i)(hs:∀x,Hc iter L.env x=pure x)(hsrc:PT K L iter k src (.Name x px))(hk:k≠.enum)(helt:∀C,FE K (G2 L scope vs' C) elt a)(hts:∀C,Tw K (G2 L scope vs' C) ifs ts) :
  FE K L (.ListComp elt [⟨.Name x px,iter,ifs,0⟩] scope pos) (Gg a i k src ts):=λA c ρ Q X R F q=>by
 rw[eval_ListComp]
 refine e9 (use:=none) rfl hs (Jc cs F) cs.kind cs.names (Ax (hsrc A c ρ (λitems Z σ1=>items.length<=Cb/\Hf (La K.C a i ts ρ) Z items [] σ1 λys σ2=>Q (.ref σ2.length) (σ2++[O.list ys])) X R F q) (λxv s1 h1=>Ax h1 (λit s2 h2=>?_) λ_ _ e=>e) λ_ _ e=>e)
 refine h2.casesOn λc1 items Z I fp St s1 B hsm W st0 hfp self=>?_
 have hz:=B.1
 have q1:=B.2
 refine Sy (RR:=λacc C=>compPost K.M A (PX c X) none (PV c Q) acc C) R F s1 cs hfp W (self hk) st0 hsm helt hts hz q1 λD C s' y=>?_
 refine y.casesOn λc' acc m st nD nC oC n ac hal q'=>?_
 refine⟨m,n,λh' hs'=>?_⟩
 refine H6 (Made.join st nD hal ac) λc2 e1 e2 e3 s2 r2=>?_
 have oC2:C∉c2.φ:=e2▸λmm=>(He mm).elim oC λe=>ac.eH (e▸n)
 refine H6 (letGo s2 (e1▸n) oC2 nC (e1▸hs')) λc3 f1 f2 f3 s3 t3=>?_
 have:=PV.mk (c:=c) (Q:=Q) c3 _ s3 (r2.own t3 λb e=>e▸I5 (e1.symm▸n)) (by rw[f3,e3];exact q')
 rw[f1,e1] at this;exact this
theorem gH(cs:H8 L scope vs' x i)(hs:∀x,Hc B L.env x=pure x)(hsrc:PT K L B k src (.Name x px))(hk:k≠.enum)(helt:∀C,FE K (G2 L scope vs' C) elt a)(hts:∀C,Tw K (G2 L scope vs' C) ifs ts)(hy:L.vs.lookup y=some iy)(hky:L.env.kindOf y=some .local)(hsw:M7 (.ListComp elt [⟨.Name x px,B,ifs,0⟩] scope pos) (some (.Name y py)) spos.line L.env=pure true) :
  Wz K L (.Assign [.Name y py] (.ListComp elt [⟨.Name x px,B,ifs,0⟩] scope pos) spos) (BR (.var iy) (Gg a i k src ts)):=λA c ρ Q R F q=>by
 rw[exec_Assign_Name_used _ _ _ _ hsw]
 refine AB (Ep (AB ?_))
 refine AB (Ax (e9 (use:=some (mf (.Name y py) L.env)) (Q:=λ_ s'=>PF c L Q .next s') (E:=PE c L Q) rfl hs (Jc cs F) cs.kind cs.names
  (Ax (hsrc A c ρ (λitems same σ1=>items.length<=Cb/\Hf (La K.C a i ts ρ) same items [] σ1 λys σ2=>VS (σ2++[O.list ys]) (λρ'=>Q .next ρ' (σ2++[O.list ys])) ρ (.ref σ2.length) (.var iy)) (λk σ=>Q (.exc k) ρ σ) R F q) (λxv s1 h1=>Ax h1 (λit s2 h2=>?_) λ_ _ e=>e.nF F) λ_ _ e=>e.nF F)) (λ_ s' hq=>AS (AS hq)) λ_ _ e=>e)
 refine h2.casesOn λc1 items same I fp St s1 Z hsm W st0 hfp self=>?_
 have hz:=Z.1
 have q1:=Z.2
 refine Sy (RR:=λacc C=>compPost K.M A (PE c L Q) (some (mf (.Name y py) L.env)) (λ_ s'=>PF c L Q .next s') acc C) R F s1 cs hfp W (self hk) st0 hsm helt hts hz q1 λD C s' y'=>?_
 refine y'.casesOn λc' acc m st nD nC oC n ac hal q'=>?_
 refine H6 (Made.join st nD hal ac) λc2 e1 e2 e3 s2 r2=>?_
 have oC2:C∉c2.φ:=e2▸λmm=>(He mm).elim oC λe=>ac.eH (e▸n)
 have n2:c2.s.heap.Ns C m:=e1.symm▸n
 have hLe:L.env.locals≠C:=λe=>F.ns.casesOn λ_ n _=>AW (IA n) λ_ e' _=>TH (((congrArg c.s.heap.get? e).trans nC).symm.trans e')
 rw[<- e1]
 refine Ha (I4 (F.step s2) hy hky r2 λc3 f1 f2 s3 F3 _=>?_)
 have oC3:C∉c3.φ:=f1▸oC2
 have n3:c3.s.heap.Ns C m:=s3.toHo.ba oC2 (λh=>hLe h.symm) n2
 refine⟨m,n3,λh' hs'=>?_⟩
 refine H6 (letGo (s2.any.trans (s3.NH λ_ e=>.inl e):Di L.own c c3) n3 oC3 nC hs') λc4 g1 g2 g3 s4 t4=>?_
 have F4:=F3.keep t4 (λb e=>e▸I5 n3) (λf _ _ hf e=>hf.elim (λq=>hLe (q.symm.trans e)) λzz=>AW zz λe' m' q=>by
  refine Io (F.up e' m') λ_ f' _ e1 _ _ n'=>?_
  have zq:=AG (q.symm.trans e1);subst zq
  refine AW (IA n') λ_ e2 _=>?_
  rw[show f=C from e,nC] at e2;cases e2) λb ov ic e=>Jn n3 ic e
 exact g1▸PF.next c4 _ s4 F4 (by rw[g3,f2,e3];exact q')
end
end Mine.Internal
namespace Mine.Internal
open PySem PySem.Calls
set_option genSizeOf false
set_option genInjectivity false
section
variable {K:Ctx} {L:Loc} {G:PW} {fa:Nat->Addr} {mg mb:Str->Option AV}
theorem not_modules{h:Heap}{m:Str->Option AV}(n:h.Ns De m){a:Addr}(B:h.objs.size<=a):(a==Zb)=false:=
 beq_eq_false_iff_ne.mpr λe=>B1.mpr (AF B (CK e)) (Al (by decide) n.lt)
theorem oB(g:NC K G fa mg mb):FE K L (.Dict [] [] pos) Zr:=λA c ρ Q X R F q=>
 wpAny_Dict_empty (PV.new (tk:=c.s.toks) (o:=.dict 0 []) (λ_ _ e=>AN _ e) DB
  ⟨[],⟨_,#[],Aw _ rfl,⟨rfl,rfl,rfl⟩,rfl,λ_ B=>absurd B (by simp),.nil,GF⟩,⟨rfl,trivial⟩,BM _,not_modules (g.ns.keeps c.sim.keep) (Az _)⟩ q)
theorem Cf.inst{c:Cf K.h₀}{n m:Nat}{C:Addr}{fs:List (Str×V)}{v:AV}(e1:c.σ[n]?=some (.inst C m))(e2:c.σ[m]?=some (.ns fs))(r:Rel c.s.heap c.φ (.ref n) v) :
  ∃a Z M,v=.ref a/\c.φ[m]?=some Z/\Z≠a/\a∈c.φ/\c.s.heap.Inst a C M/\(∀o,c.s.heap.get? a=some o->o.dict=some Z)/\(∀y,RJ c.s.heap c.φ (fs.lookup y) (M y)):=by
 refine AW r λB ev ea=>?_
 refine AW (c.sim.obj n _ e1) λa ea' zh=>DX zh λZ ed ne zh=>Ge zh λob g hc hd hk=>?_
 refine JZ (c.sim.obj m _ e2) λF ed' M n1 at'=>?_
 obtain rfl:=AG (ed'.symm.trans ed)
 obtain rfl:=AG (ea.symm.trans ea')
 exact⟨B,F,M,ev,ed,ne,Ae ea,⟨ob,g,hc,hd,.inr ⟨F,hk,ne,n1⟩⟩,λo e=>AG (g.symm.trans e)▸hk,at'⟩
theorem kh{V:V}(r:Rel h B V v):handedOut v=pure v:=by
 cases V with
 |undef=>exact r.elim
 |none=>exact r▸rfl
 |bool _=>exact r▸rfl
 |int _=>exact r.elim λ_ r=>r▸rfl
 |str _=>exact r.elim λ_ r=>r▸rfl
 |tup _=>exact KU r λ_ _ _ r _=>r▸rfl
 |ref _=>exact AW r λ_ r _=>r▸rfl
theorem WI:∀n∈Ij,RW (.type "object") n=pure none:=by
 intro n hn
 rcases Ao.mp hn with rfl | hn
 .rw[HI,Ff];kernel_rfl
 rcases Ao.mp hn with rfl | hn
 .rw[HI,Ff];kernel_rfl
 have B:=AM.mp hn;subst B
 rw[HI,Ff];kernel_rfl
theorem QO(h:n∈Ij):n∈Um:=Ad _ (Ad _ (Ad _ h))
theorem tU.now{c:Cf K.h₀}{C:Addr}{i:Nat}(x:tU K.h₀.heap G fa mg C i):∃N B,Tb c.s.heap C N B/\(∀n∈Um,B n=none)/\(∀m j,G.lookup (CR++"."++m)=some (.fn j)->ZI c.s.heap B m (fa j))/\ZI c.s.heap B "__init__" (fa i):=by
 refine EW x.ns λN B Z q me F=>?_
 have k:∀{m a},ZI K.h₀.heap B m a->ZI c.s.heap B m a:=λzz=>IG zz λe o fd M h2 h3=>⟨e,o,fd,c.sim.keep _ _ M,h2,h3⟩
 exact⟨N,B,Z.keeps c.sim.keep,q,λm j h=>k (me m j h),k F⟩
theorem nG(g:NC K G fa mg mb){C:Addr}{i:Nat}{x nm:Str}{a:Ex}{xp pos:Pos}(hc:G.lookup CR=some (.cls C i))(hn:nm∈Ij)(h:FE K L (.Name x xp) a):FE K L (.Attribute (.Name x xp) nm pos) (E7 C nm a):=λA c ρ Q X R F q=>
 PyProof.Rows.Attribute_any_ (seq (.refl c) (h A c ρ _ X R F q) λZ V v B _ r M=>by
  cases M with
  | @mk n m fs W e1 e2 e3 q=>
   refine GI (Cf.inst e1 e2 r) λad dx mA ze1 _ _ _ I _ at'=>?_;subst ze1
   refine EW ((g.cls C i hc).now (c:=Z)) λN mN cl hq _ _=>?_
   refine Ei cl.obj λnm' q' bs sn sub col dd k0 k1 k2 k3 k5 hC=>?_
   have hv:=at' nm
   rw[e3] at hv
   refine AW hv λv ev rv=>?_
   exact load_attr hC cl.ns (hq _ (by decide)) (hq _ (QO hn)) (WI nm hn) I ev (kh rv) (PV.lift B (PV.plain rv q)))
theorem sN(g:NC K G fa mg mb){A:Bb}{c:Cf K.h₀}{C:Addr}{i:Nat}{nm:Str}{V W:Mine.Internal.V}{v u:AV}{T:Af->Prop}{P:Unit->Aj->Prop}{E:AV->Aj->Prop}(hc:G.lookup CR=some (.cls C i))(hn:nm∈Ij)(rv:Rel c.s.heap c.φ V v)(ro:Rel c.s.heap c.φ W u)(q:cy c.σ T C nm V W)(h:∀c':Cf K.h₀,Di Bv c c'->T c'.σ->P () c'.s):Am K.M A (setAttr u nm v) P E c.s:=by
 cases q with
 | @mk n m B e1 e2 hm hz q=>
  refine GI (Cf.inst e1 e2 ro) λad dx mA ze1 ed ne ma I hdx at'=>?_;subst ze1
  refine EW ((g.cls C i hc).now (c:=c)) λN mN cl hq _ _=>?_
  refine Ei cl.obj λnm' q' bs sn sub col dd k0 k1 k2 k3 k5 hC=>?_
  have hxC:ad≠C:=λe=>by
   refine DX I λob g' hc' _=>?_
   rw[e,hC] at g';have zq:=AG g';subst zq;cases hc'
  have hw:Within mA (B.map (·.1)):=λy hy=>by
   have:=at' y
   cases hl:B.lookup y with
   |none=>rw[hl] at this;exact absurd this hy
   |some V=>exact Ab.mpr ⟨(y,V),mem_of_lookup hl,rfl⟩
  refine store_attr PySem.F.store_object hC cl.ns (hq _ (by decide)) (hq _ (QO hn)) (WI nm hn) hxC I (λh' tk' I' hk hsame=>?_) hw (by rw[AA];exact AF hz (by decide))
  refine Ge (id I) λox hx hcx hnc _=>?_
  refine H6 (hsame ox hx) λo₁ f1 f2 f3 f4 f5=>?_
  have ho:o₁=ox:=by
   obtain⟨c1,d1,t1,l1⟩:=o₁
   obtain⟨c2,d2,t2,l2⟩:=ox
   have:=(f5 dx (hdx _ hx)).trans (hdx _ hx).symm
   simp only at f2 f3 f4 this
   rw[f2,f3,f4,this]
  subst ho
  have kk:∀b o,b≠dx->c.s.heap.get? b=some o->h'.get? b=some o:=λb o hb e=>by
   by_cases hba:b=ad
   .subst hba;have zq:=AG (hx.symm.trans e);subst zq;exact f1
   .exact hk b o hba (λo₀ d' e₀ ed'=>by have zq:=AG (hx.symm.trans e₀);subst zq;have zq:=AG ((hdx _ hx).symm.trans ed');subst zq;exact hb) e
  obtain⟨c',e1',e2',e3',st⟩:=Cf.eJ (c:=c) (o:=.ns (put nm V B)) (tk:=tk') ed hm kk λkeep=>by
   refine Ge I' λo' f1' _ _ hd'=>?_
   have zq:=AG (f1.symm.trans f1');subst zq
   rcases hd' with ⟨h0,_⟩ | ⟨d',hd',_,n1⟩
   .exact absurd ((hdx _ hx).symm.trans h0) (AY _)
   .have zq:=AG ((hdx _ hx).symm.trans hd');subst zq
    refine⟨_,n1,λy=>?_⟩
    rw[put_lookup]
    by_cases hy:y=nm
    .rw[if_pos hy,if_pos hy];exact⟨v,rfl,(keep [V] [v] ⟨rv,trivial⟩).1⟩
    .rw[if_neg hy,if_neg hy]
     have:=at' y
     cases hl:B.lookup y with
     |none=>rw[hl] at this;exact this
     |some U=>rw[hl] at this;refine AW this λw ew rw'=>?_;exact⟨w,ew,(keep [U] [w] ⟨rw',trivial⟩).1⟩
  exact e1'▸h c' st (e3'▸q)
where
 put_lookup {nm:Str} {V:Mine.Internal.V}:∀{B:List (Str×Mine.Internal.V)} {y:Str},(put nm V B).lookup y=if y=nm then some V else B.lookup y:=by
  intro B y
  unfold put
  by_cases ha:B.any (λp=>decide (p.1=nm))=true
  .rw[if_pos ha]
   induction B with
   |nil=>exact absurd ha BD
   |cons p B ih=>
    obtain⟨k,u⟩:=p
    rw[B6,BL]
    by_cases hk:k=nm
    .rw[if_pos hk,BL]
     dsimp only
     rw[hk]
     cases hy:y==nm with
     |true=>rw[if_pos (beq_iff_eq.mp hy)]
     |false=>
      rw[if_neg (beq_eq_false_iff_ne.mp hy)]
      dsimp only
      by_cases Z:B.any (λp=>decide (p.1=nm))=true
      .rw[ih Z,if_neg (beq_eq_false_iff_ne.mp hy)]
      .have:B.map (λp=>if p.1=nm then (p.1,V) else p)=B:=by
        rw[CZ (g:=id)]
        .exact bo B
        .intro p hp
         exact if_neg λe=>Z (QG.mpr ⟨p,hp,decide_eq_true e⟩)
       rw[this]
    .rw[if_neg hk,BL]
     have Z:B.any (λp=>decide (p.1=nm))=true:=by rw[Fu,decide_eq_false hk,Bool.false_or] at ha;exact ha
     cases hy:y==k with
     |true=>rw[if_neg λe=>hk ((beq_iff_eq.mp hy).symm.trans e)]
     |false=>exact ih Z
  .rw[if_neg ha]
   induction B with
   |nil=>rw[MZ,BL];cases hy:y==nm with
    |true=>rw[if_pos (beq_iff_eq.mp hy)]
    |false=>rw[if_neg (beq_eq_false_iff_ne.mp hy)]
   |cons p B ih=>
    obtain⟨k,u⟩:=p
    have hk:¬k=nm:=λe=>ha (by rw[Fu,decide_eq_true e,Bool.true_or])
    have Z:¬B.any (λp=>decide (p.1=nm))=true:=λe=>ha (by rw[Fu,e,XC])
    rw[List.cons_append,BL,BL]
    cases hy:y==k with
    |true=>rw[if_neg λe=>hk ((beq_iff_eq.mp hy).symm.trans e)]
    |false=>exact ih Z
theorem i8(g:NC K G fa mg mb)(hc:G.lookup CR=some (.cls C i))(hn:nm∈Ij)(hs:M7 value (some (.Attribute o nm B)) pos.line L.env=pure false)(Z:FE K L o a)(hv:FE K L value e) :
  Wz K L (.Assign [.Attribute o nm B] value pos) (Vd C nm a e):=λA c ρ Q R F q=>
 plainObj_wpAny_Assign_Attribute (lV (.refl c) F (hv A c ρ _ _ R F q) λc1 _ _ s1 _ r1 q1=>lV s1 F (Z A c1 ρ _ _ R (F.step s1) q1) λc2 _ _ s2 t2 r2 q2=>
  sN g hc hn (r1.step t2) r2 q2 λc3 M q3=>.next c3 ρ (s2.trans M).any (F.step (s2.trans M)) q3) hs
theorem og{α F:Type}{M:Lq}{A:Bb}{P:F->Aj->Prop}{E E':AV->Aj->Prop}{s:Aj}{x:F}{t:Sem α}{Q:α->Aj->Prop}(h:Am M A (pure x:Sem F) P E' s)(k:P x s->Am M A t Q E s):Am M A t Q E s:=λZ p B=>k (h Z p B) Z p B
theorem cq(hns:IJ es)(hst:∀e r,es=e::r->EL e)(Z:o.data=.func fd)(ho:K.h₀.get? f=some o)(hl:Wn K L es as)(R:L6 K L.up A)(F:Fr c L ρ)(q:bM as K.C ρ c.σ Q X)(h:∀(c1:Cf K.h₀) (Vs:List V) (vals:List AV),Di Bv c c1->CF c1.s.heap c1.φ Vs vals->Q Vs c1.σ->Am K.M A (call (.ref f) (first++vals)) P (PX c X) c1.s) :
  Am K.M A (Ze pos (.ref f) first (IS pos (Ef es L.env)) []) P (PX c X) c.s:=by
 have B:=Vl (P:=λvals s1=>(∀b o,K.h₀.heap.get? b=some o->s1.heap.get? b=some o)/\Am K.M A (call (.ref f) (first++vals)) P (PX c X) s1) (.refl c) (hl A c ρ Q X pos R F q) λc1 Vs vals s1 _ r q=>⟨c1.sim.keep,h c1 Vs vals s1 r q.2⟩
 cases es with
 |nil=>
  refine og (show Am K.M A (pure []) _ _ c.s from B) λB=>PyProof.Rows.callWith_meth0 Z (c.sim.keep _ _ ho) ?_
  have:=B.2
  rwa [Bl] at this
 |cons e es=>exact PyProof.Rows.callWith_meth Z ho B (hst e es rfl es L.env)
theorem dq(F:Er o name env (eval o env)=eval o env)(hns:IJ args)(hz:args.length<30)(hline:(B.endLine==pos.line)=true)(h:Am M A (eval o env) (λov s1=>∀pl,Am M A (getMethod ov name pl) (λfx s2=>Am M A (Ze pos fx.1 fx.2 (IS pos (Ef args env)) []) Q E s2) E s1) E s):Am M A (eval (.Call (.Attribute o name B) args [] pos) env) Q E s:=by
 rw[arm_eval_Call,F]
 refine AB (Ax h (λov s1 h1=>AB (Ep ?_)) λ_ _ e=>e)
 have hpos:methodCallPos true o env B pos=pure pos:=by unfold methodCallPos;simp[hline]
 have Z:methodCallForm (args.length+([]:List Keyword).length) (IS pos (Ef args env)) (backToKw pos (keywordEach [] env))=true:=by
  have hn:=hns env pos
  rw[List.any_eq_false] at hn
  unfold methodCallForm
  rw[AJ,AJ]
  refine⟨⟨BF.mpr λx hx=>?_,rfl⟩,decide_eq_true hz⟩
  rw[BQ.mpr (hn x hx)];rfl
 unfold methodCall
 rw[Z]
 exact AB (Bt (Ax (h1 _) (λfx s2 h2=>AB (VF hpos h2)) λ_ _ e=>e))
theorem qL(g:NC K G fa mg mb)(hC:Lx K G fa){C:Addr}{i j:Nat}{x nm:Str}{a:Ex}{es:List Expr}{as:List Ex}{xp apos pos:Pos}(hc:G.lookup CR=some (.cls C i))(hj:G.lookup (CR++"."++nm)=some (.fn j))(hz:es.length<30)(hline:(apos.endLine==pos.line)=true)(h:FE K L (.Name x xp) a)(hns:IJ es)(hst:∀e r,es=e::r->EL e)(hl:Wn K L es as) :
  FE K L (.Call (.Attribute (.Name x xp) nm apos) es [] pos) (FO C nm j a as):=λA c ρ Q X R F q=>
 dq rfl hns hz hline (seq (.refl c) (h A c ρ _ X R F q) λc₁ V v B _ r Z pl=>by
  obtain⟨⟨n,m,fs,rfl,e1,e2,e3⟩,Z⟩:=Z
  refine GI (Cf.inst e1 e2 r) λad dx mA ze1 _ _ _ I _ at'=>?_;subst ze1
  refine EW ((g.cls C i hc).now (c:=c₁)) λN mN cl hq me _=>?_
  refine Ei cl.obj λnm' q' bs sn sub col dd k0 k1 k2 k3 k5 hCo=>?_
  refine IG (me nm j hj) λef o fd ho hfc hdat=>?_
  have hsh:=at' nm
  rw[e3] at hsh
  refine EX (g.eI _ j hj) λo' fd' ho' hdat'=>?_
  refine method_of hCo cl.ns (hq _ (by decide)) (hq _ (by decide)) ef ho hfc (HI _ _) I hsh ?_
  refine Ax (cq (P:=PV c Q) (c:=c₁) (first:=[.ref ad]) hns hst hdat' ho' hl R (F.step B) Z λc₂ Vs vals M r₂ q₂=>?_) (λ_ _ z=>z) λ_ _ z=>z.lift B
  exact Ax (call_in M (hC _ j hj A L.up c₂ (.ref n::Vs) (.ref ad::vals) Q X R.call ((F.step B).step M).up ⟨r.step M,r₂⟩ q₂)) (λ_ _ z=>z.lift B) λ_ _ z=>z)
theorem XY(hm:Heap.MadeObj c.s.heap h' x F C):∃Z:Cf K.h₀,Z.s={ c.s with heap:=h',toks:=tk }/\Z.φ=c.φ++[F,x]/\Z.σ=c.σ++[.ns [],.inst C c.σ.length]/\Di Bv c Z:=by
 refine Ge hm.inst λob hx hc hd M=>?_
 have B:F≠x/\h'.Ns1 F (λ_=>none):=by
  rcases M with ⟨h0,_⟩ | ⟨d,h0,h1,h2⟩
  .exact absurd ((hm.dict ob hx).symm.trans h0) (AY _)
  .have zq:=AG ((hm.dict ob hx).symm.trans h0);subst zq;exact⟨h1,h2⟩
 have r1:O1 K.h₀ h' c.φ (.ns []) F:=⟨_,B.2,λ_=>rfl⟩
 have nx:x∉(c.add (tk:=tk) hm.keeps hm.newD r1).φ:=λm=>(He m).elim (c.sim.out hm.newX) λe=>B.1 e.symm
 have S:Sw K.h₀ h' (c.φ++[F]++[x]) (c.σ++[.ns []]++[.inst C c.σ.length]):=(c.add (tk:=tk) hm.keeps hm.newD r1).sim.add (o:=.inst C c.σ.length) nx (c.sim.DL hm.newX) ⟨F,by rw[<- c.sim.len];exact Co,B.1,ob,hx,hc,hd,hm.dict ob hx⟩
 refine⟨⟨{ c.s with heap:=h',toks:=tk },c.φ++[F]++[x],c.σ++[.ns []]++[.inst C c.σ.length],S⟩,rfl,Aq ..,Aq ..,⟨⟨rfl,rfl⟩,?_,λb o _ _ e=>⟨o,hm.keeps b o e,.refl o⟩,λa m=>?_⟩,λb o e=>⟨o,hm.keeps b o e⟩⟩
 .exact(CU _ _).trans (CU _ _)
 .rcases He m with m | rfl
  .rcases He m with m | rfl
   .exact .inl m
   .exact .inr hm.newD
  .exact .inr hm.newX
theorem XM(args:Args):(Code.builtin "type.__call__" args).cUnits<=3:=Ap rfl
theorem sV(g:NC K G fa mg mb)(hC:Lx K G fa){C:Addr}{i:Nat}{e:Expr}{es:List Expr}{as:List Ex}{pf pos:Pos}(hc:G.lookup CR=some (.cls C i))(hi:G.lookup (CR++"."++"__init__")=some (.fn i))(hk:Ey L.env.scope CR=true)(hn:EL e)(hns:IJ es)(hl:Wn K L (e::es) as) :
  FE K L (.Call (.Name CR pf) (e::es) [] pos) (oI C i as):=λA c ρ Q X R F q=>by
 rw[II]
 have cg:=g.cls C i hc
 refine EW cg.ns λN₀ mN₀ cl₀ _ _ _=>?_
 refine AB (HD g F cg.bound hk (by decide) (PyProof.Rows.callWith_cls cl₀ (Vl (.refl c) (hl A c ρ _ X pos R F q) λB Vs vals Z _ r zz=>zz.elim λ_ q₁=>⟨B.sim.keep,?_⟩) (hn _ _) (hns _ _)))
 refine EW (cg.now (c:=B)) λN mN cl hq _ ini=>?_
 refine Ei cl.obj λnm' q' bs sn sub col dd k0 k1 k2 k3 k5 hCo=>?_
 refine IG ini λef o fd ho hfc hdat=>?_
 refine wpAny_call_obj_init PySem.F.objNew hCo cl.ns ef ho hfc λh' x dx hm=>?_
 refine Ge (XY (tk:=B.s.toks) hm) λc₂ e1 e2 e3 M=>?_
 have hx:c₂.φ[B.σ.length+1]?=some x:=by rw[e2,Ak (by rw[B.sim.len];exact Cx _),B.sim.len,BI];rfl
 have Ru:aJ K L.up (A.under (.builtin "type.__call__" ⟨.ref C::vals,[]⟩)):=⟨R.hd,by have:=R.depth;exact Dy .lt (.a (.a .v0 .n1) (.m 3 .v1)) (.n 903) (.t (.a .v0 (.m 3 .v1)) (.n 902) .e) rfl this,by have:=R.units;exact Al (DH (CO (XM _) _) _) (by exact Dy .lt (.a (.a .v0 .n3) (.m 12 .v1)) (.n 9009) (.t (.a .v0 (.m 12 .v1)) (.n 9006) .e) rfl this),R.fr⟩
 have key:=call_in (.refl c₂) (hC _ i hi _ L.up c₂ (.ref (B.σ.length+1)::Vs) (.ref x::vals) _ X Ru ((F.step Z).step M).up ⟨⟨x,rfl,hx⟩,r.step M⟩ (e3▸q₁))
 rw[e1] at key
 exact Ax key (λr' s' z=>by
  cases z with
  |mk c₃ V s₃ rV qV=>
   obtain⟨rfl,qV⟩:=qV
   subst rV
   exact⟨rfl,.mk c₃ (.ref (B.σ.length+1)) ((Z.trans M).trans s₃) ⟨x,rfl,IF s₃.pre hx⟩ qV⟩) λ_ _ z=>z.lift (Z.trans M)
theorem MN.keep(x:MN h k F)(B:∀b o,h.get? b=some o->h'.get? b=some o):MN h' k F:=by
 cases x with
 |mk M N nm q bs hdct sn sub ab col dd k0 k1 k2 k3 k5 Z e n i t r=>exact .mk M N nm q bs hdct sn sub ab col dd k0 k1 k2 k3 k5 Z (B _ _ e) (n.keeps B) i (t.keeps B) r
theorem c5(g:NC K G fa mg mb)(Z:G.lookup x=some (.exc k ks))(hg:Ey L.env.scope x=true)(hd:EB x=true)(hn:EL e)(he:FE K L e a) :
  Wz K L (.Raise (some (.Call (.Name x np) [e] [] M)) none pos) (GY k a):=λA c ρ Q R F q=>by
 have B:=g.exc x k ks Z
 refine AW (B.kids k B.mem) λmro xc _=>?_
 cases xc with
 |mk bm N nm q' bs hdct sn sub ab col dd k0 k1 k2 k3 k5 mN e1 n i t r=>
 refine wpAny_Raise_call_subT (nm:=nm) (q:=q') (C:=k) (N:=N) (bs:=bs) (hdct:=hdct) (sn:=sn) (sub:=sub) (ab:=ab) (col:=col) (dd:=dd) (k0:=k0) (k1:=k1) (k2:=k2) (k3:=k3) (k5:=k5) PySem.F.excBase_ValueError (t.hasType (by decide)) (R.pl (g.wN _ _ Z rfl)) (GJ hn G1 _ _) i (HD g F B.bound hg (Gy hd) ⟨rfl,?_⟩)
 refine Ax (jz (P:=λa s2=>∃c1:Cf K.h₀,c1.s=s2/\Di Bv c c1/\a.kw=[]/\a.pos.length<=HL/\Q (.exc k) ρ c1.σ) (Q:=λ_ σ=>Q (.exc k) ρ σ) (as:=[a]) R hn (I9 hn he Mp) F q λc1 Vs vals s1 r hz q=>⟨c1,rfl,s1,rfl,?_,q⟩) (λa s2 zz=>H6 zz λc1 e2 s1 h1 h2 q1=>?_) λ_ _ z=>z.nF F
 .rw[show vals.length=1 from r.length.symm.trans hz];decide
 .subst e2
  refine⟨h1,h2,c1.sim.keep _ _ e1,n.keeps c1.sim.keep,t.keeps c1.sim.keep,λh' ex hm=>?_⟩
  refine DX hm.there λt' e3 _ _=>?_
  have st:Di Bv c1 (c1.keep { c1.s with heap:=h' } hm.keeps):=Cf.Cj ⟨rfl,rfl⟩
  exact .mk (c1.keep { c1.s with heap:=h' } hm.keeps) ρ k ex [ex] none (λb m=>by cases AM.mp m;exact⟨s1.gone hm.new,c1.sim.out hm.new⟩) B.mem (s1.trans st).any (F.step (s1.trans st)) (.new _ _ _ e3 rfl rfl rfl rfl rfl) (.inl rfl) q1
theorem NT(hk:MN s.heap k m)(hx:MN s.heap B mx)(he:s.heap.get? a=some oe)(hc:oe.cls=.ref k)(hq:Q (m.contains (.ref B)) s) :
  Am M A (excMatches (.ref a) (.ref B)) Q E s:=by
 obtain⟨h,g,d,t,os⟩:=s
 cases hk with
 |mk bm N nm q bs hdct sn sub ab col dd k0 k1 k2 k3 k5 mN e n i t' r=>
 cases hx with
 |mk bm' N' nm' q' bs' F sn' sub' ab' col' dd' l0 l1 l2 l3 l5 mN' e' n' i' t'' r'=>
 have Z:(Cm B::bm').contains (.type "BaseException")=true:=by rw[fX,t''.hasType (show wR.contains (.type "BaseException")=true by decide),XC]
 have f:=tc_notTuple
 rw[<- r] at hq
 unfold excMatches
 repeat (first | (with_reducible refine SU he ?_;rw[hc]) | with_reducible refine SU e' ?_ | (with_reducible refine Pp e' ?_;rw[Z]) | with_reducible refine Pp e ?_ | wp_step)
 cases hb:(Cm k::bm).contains (.ref B) <;> (rw[hb] at hq;wp_walk;exact hq)
noncomputable def om:Const->Option V
 | .none=>some .none
 | .bool b=>some (.bool b)
 | .str x=>some (.str x)
 | .int i=>some (.int i)
 |_=>none
theorem lI{A:Bb}{env:Env}{c:Cf K.h₀}{B:Const}{Z:Nat}{p:Pos}{V:V}{E:AV->Aj->Prop}{P:AV->Aj->Prop}(F:om B=some V)(h:∀v tk,Rel c.s.heap c.φ V v->P v { c.s with toks:=tk }):Am K.M A (eval (.Constant B Z p) env) P E c.s:=by
 cases B with
 |none=>exact wpAny_Constant_none (h _ c.s.toks (AG F▸Kv))
 |bool b=>exact wpAny_Constant_bool (h _ c.s.toks (AG F▸H7))
 |str x=>exact LW (h _ _ (AG F▸FQ))
 |int i=>exact wpAny_Constant_int (h _ _ (AG F▸Fq))
 |_=>exact absurd F.symm (AY _)
variable (K L) in
def nN(hs:List HP)(as:List (List Nat×V×Option Nat)):Prop:=
 ∀(A:Bb) (c₀ c:Cf K.h₀) (ρ:List V) (Q:HT) (a T:Addr) (k:Nat),Od K A L c ρ a k [a,T] none->k∈K.O5->Di L.own c₀ c->(∀b∈[a,T],c₀.s.heap.get? b=none/\b∉c.φ)->vY as Q (.exc k) ρ c.σ->
  Am K.M A (handleBy (.ref a) L.env hs) (PF c₀ L Q) (PE c₀ L Q) c.s
theorem bV:nN K L [] []:=λA c0 c ρ Q a T k z hk st n q=>by
 refine ES z.x.mR λoe vs e d F=>?_
 refine wpAny_handleBy_nil ?_
 unfold passOn
 refine AB (Df e d F ?_)
 rw[if_neg (show ¬(Cm T==Ba)=true from λh=>by injection h)]
 exact AB (Hu (fl':=L.env.frame) (P:=λs=>Am K.M A (throw (.ref a)) _ _ s) z λc' T' e1 e2 B Z ex hp=>VG (.mk c' ρ k a [a,T'] L.env.frame (LI e1 st n hp) hk (st.DR B λb m=>(n b m).1) Z ex (.inr rfl) (e2▸q)))
theorem RD(x:Exc h a k F fl):∃B,h.get? a=some B/\B.cls=.ref k:=by
 cases x with
 |new B _ _ e c=>exact⟨B,e,c⟩
 |seen B _ _ _ _ _ _ e c=>exact⟨B,e,c⟩
theorem iC(g:NC K G fa mg mb){x:Str}{kx:Nat}{ks:List Nat}{Z:Const}{kd:Nat}{V:V}{np cp rp pos:Pos}{rest:List HP}{as:List (List Nat×Mine.Internal.V×Option Nat)}(hx:G.lookup x=some (.exc kx ks))(hg:Ey L.env.scope x=true)(hd:EB x=true)(hv:om Z=some V)(hr:nN K L rest as) :
  nN K L (.ExceptHandler (some (.Name x np)) none [.Return (some (.Constant Z kd cp)) rp] pos::rest) ((ks,V,none)::as):=λA c₀ c ρ Q a T k z hk st n q=>by
 have xg:=g.exc x kx ks hx
 refine AW (RD z.x) λoe he hc=>?_
 refine AW (xg.kids k hk) λm hm hmc=>?_
 refine AW (xg.kids kx xg.mem) λmx hmx _=>?_
 refine Pt (OQ (HD g z.F xg.bound hg (Gy hd) (NT (hm.keep c.sim.keep) (hmx.keep c.sim.keep) he hc ?_))) (λh=>by injection h)
 rw[hmc]
 replace q:match List.find? (λh=>h.1.contains k) ((ks,V,none)::as) with
  |some h=>Q (.ret h.2.1) (sJ h.2.2 ρ) c.σ
  |none=>Q (.exc k) ρ c.σ:=q
 rw[Ma] at q
 cases hb:ks.contains k with
 |false=>rw[hb] at q;exact hr A c₀ c ρ Q a T k z hk st n q
 |true=>
  rw[hb] at q
  have z':Od K (A.mark (some (.ref a))) L c ρ a k [a,T] none:=⟨z.R,z.hu,z.F,z.x,z.rC,z.hn⟩
  refine mh (Hu (P:=λs=>Am K.M (A.mark (some (.ref a))) (execs [.Return (some (.Constant Z kd cp)) rp] L.env) _ _ s) z' λc' T' e1 e2 st' F' ex hp=>?_)
  refine Em (Hb (lI (c:=c') hv λv tk rv=>?_))
  have B:Di Bv c' (c'.toks tk):=Cf.Cj ⟨rfl,rfl⟩
  exact .ret (c'.toks tk) ρ V v ((st.DR st' λb m=>(n b m).1).trans B.any) (F'.step B) rv (by show Q _ _ c'.σ;rw[e2];exact q)
theorem aS(hu:L.up=L.env::L.up.tail)(hb:Oz K L body b)(hh:nN K L (h::hs) as):Wz K L (.Try body (h::hs) [] [] pos) (dW b as):=λA c ρ Q R F q=>
 wpAny_Try_except (Ax (hb A c ρ _ R F q) (λf s1 y=>y.casesOn (λc1 Z s1 F1 q1=>Nv (.next c1 Z s1 F1 q1)) λc1 Z V v s1 F1 r q1=>.ret c1 Z V v s1 F1 r q1) λe s1 y=>by
  refine GR (y.at R hu) λc' ρ' k a fp fl ze1 ze2 z hk q' st n=>?_;subst ze1;subst ze2
  refine P0 (P:=λs=>Am K.M A (fV (.ref a) none) _ _ s) z λc'' T e1 e2 st' F' ex hp=>?_
  have n':=LI e1 st n hp
  have B:Di L.own c c'':=st.DR st' λb m=>(n b m).1
  have z':Od K A L c'' ρ' a k [a,T] L.env.frame:=⟨R.fr,hu,F',ex,.inr rfl,λb m=>⟨c.sim.DL (n' b m).1,(n' b m).2⟩⟩
  refine Hu (fl':=none) (P:=λs=>Am K.M A (handleBy (.ref a) L.env (h::hs)) _ _ s) z' λc3 T' f1 f2 st3 F3 ex3 hp3=>?_
  have n3:=LI f1 B n' hp3
  exact hh A c c3 ρ' Q a T' k ⟨R.fr,hu,F3,ex3,.inl rfl,λb m=>⟨c.sim.DL (n3 b m).1,(n3 b m).2⟩⟩ hk (B.DR st3 λb m=>(n' b m).1) n3 (by rw[f2,e2];exact q'))
end
end Mine.Internal
namespace Mine.Internal
open PySem PySem.Calls
set_option genSizeOf false
set_option genInjectivity false
def qf(o:Obj):Prop:=∃vs,o.data=.fields vs/\vs[2]?=some .none
noncomputable def xD:Obj:={ cls:=.none,data:=.freed }
noncomputable def WE(h:Heap)(a:Addr)(o:Obj):Heap:=⟨(QA (h.objs.size+(a+1))).map λb=>if b=a then o else h.objs.getD b xD,h.life⟩
theorem Nf(w:qf o):(WE h a o).get? a=some o:=by
 obtain⟨vs,d,_⟩:=w
 have e:(WE h a o).objs[a]?=some o:=by
  show ((QA (h.objs.size+(a+1))).map λb=>if b=a then o else h.objs.getD b xD)[a]?=some o
  rw[KJ,M8,if_pos (Ac (EZ a) (DP _ _))]
  exact congrArg some (if_pos rfl)
 unfold Ww
 rw[e]
 obtain⟨_,_,dt,_⟩:=o
 subst d;rfl
set_option backward.match.sparseCases true in
theorem Kx(n:b≠a):(WE h a o).get? b=h.get? b:=by
 unfold Ww
 show (match ((QA (h.objs.size+(a+1))).map λb=>if b=a then o else h.objs.getD b xD)[b]? with | some ⟨_,_,.freed,_⟩=>none | o=>o)=_
 rw[KJ]
 by_cases B:b<h.objs.size
 .rw[M8,if_pos (Ac B (A0 _ _)),Hr,if_neg n,Bp B,DT,Bp B];rfl
 .rw[CQ (B1.mp B)]
  by_cases F:b<h.objs.size+(a+1)
  .rw[M8,if_pos F,Hr,if_neg n,DT,CQ (B1.mp B)];rfl
  .rw[CQ (by rw[Array.size_range];exact B1.mp F)];rfl
theorem Gu(n:h.get? a=none):∀b ob,h.get? b=some ob->(WE h a o).get? b=some ob:=λb ob e=>(Kx λq=>by rw[q,n] at e;cases e).trans e
noncomputable def Bs.ext(b:Bs)(a:Addr)(o:Obj):Bs:=⟨WE b.heap a o,b.prog,b.w⟩
noncomputable def Ctx.ext(K:Ctx)(a:Addr)(o:Obj)(w:qf o):Ctx:=⟨K.h₀.ext a o,K.C,K.d,K.O5,some a,λb e=>AG e▸w.elim λvs q=>⟨o,vs,Nf w,q⟩⟩
noncomputable def Tt:List Str:=["_law_apart", "_law_good", "_law_outline", "_law_others", "_law_pairs", "_law_first"]
noncomputable def fnOf(x:Str):Option Gl->Option (Str×Gl)
 |some (.fn i)=>some (x,.fn i)
 |_=>none
noncomputable def fH(G:PW):PW:=KV.map (λx=>(x,.cls 0 0))++Tt.filterMap λx=>fnOf x (G.lookup x)
theorem mG(h:fnOf x g=some p):∃i,g=some (.fn i)/\p=(x,.fn i):=by
 cases g with
 |none=>cases h
 |some g=>cases g with
  |fn i=>exact⟨i,rfl,(AG h).symm⟩
  |_=>exact absurd h.symm (AY _)
theorem LD(h:(fH G).lookup x=some g):(x∈KV/\g=.cls 0 0)\/∃i,x∈Tt/\g=.fn i/\G.lookup x=some (.fn i):=by
 refine(An.mp (mem_of_lookup h)).imp (λm=>?_) λm=>?_
 .refine AW (Ab.mp m) λy hy e=>?_
  cases e;exact⟨hy,rfl⟩
 .refine AW (Kb.mp m) λy hy e=>?_
  refine AW (mG e) λi F B=>?_
  cases B;exact⟨i,hy,rfl,F⟩
theorem Y6(h:(fH G).lookup x=some (.fn i)):x∈Tt/\G.lookup x=some (.fn i):=by
 rcases LD h with ⟨_,e⟩ | ⟨j,m,e,q⟩
 .cases e
 .cases e;exact⟨m,q⟩
section
variable {K:Ctx} {L:Loc} {G:PW} {fa:Nat->Addr} {mg mb:Str->Option AV} {a:Addr} {o:Obj} {w:qf o}
noncomputable def Cf.ext (c:Cf K.h₀) (n:K.h₀.get? a=none) (e:c.s.heap.get? a=some o) (m:a∉c.φ):Cf (K.ext a o w).h₀:=⟨c.s,c.φ,c.σ,
  { keep:=λb ob h=>by
      by_cases q:b=a
      . subst q
        have zq:=AG ((Nf w).symm.trans h);subst zq;exact e
      . exact c.sim.keep b ob ((Kx q).symm.trans h)
    len:=c.sim.len
    nodup:=c.sim.nodup
    new:=λk b h=>(Kx λq:b=a=>m (q▸Ae h)).trans (c.sim.new k b h)
    obj:=c.sim.obj }⟩
noncomputable def Cf.back (c:Cf (K.ext a o w).h₀) (n:K.h₀.get? a=none):Cf K.h₀:=⟨c.s,c.φ,c.σ,
  { keep:=λb ob h=>c.sim.keep b ob (Gu n b ob h)
    len:=c.sim.len
    nodup:=c.sim.nodup
    new:=λk b h=>by
      cases e:K.h₀.get? b with
      |none=>rfl
      |some ob=>have:=c.sim.new k b h;rw[show (K.ext a o w).h₀.get? b=some ob from Gu n b ob e] at this;exact absurd this (AY _)
    obj:=c.sim.obj }⟩
theorem Fr.ext(F:Fr c L ρ)(n:K.h₀.get? a=none)(e:c.s.heap.get? a=some o)(m:a∉c.φ)(d:o.data=.fields vs):Fr (c.ext (w:=w) n e m) L ρ:=by
 have ns:∀{b:Addr} {f:Str->Option AV},c.s.heap.Ns b f->b≠a:=λ{b f} h q=>by
  refine CW h λob es ep B d' _=>?_
  rw[q,e] at B;have zq:=AG B;subst zq;cases d.symm.trans d'
 refine { fn:=F.fn,glob:=F.glob,blt:=F.blt,IP:=?_,G3:=F.G3,inj:=F.inj,ns:=?_,cell:=?_,GO:=F.GO,up:=?_ }
 .refine(Kx ?_).trans F.IP
  exact F.ns.casesOn λ_ h _=>ns h
 .exact F.ns.casesOn λZ h q=>.mk Z h q
 .exact λx i hx hk=>(F.cell x i hx hk).casesOn λb ov e1 e2 M ic q=>.mk b ov e1 e2 ((Kx λz=>by
   refine AW ic λob B d'=>?_
   rw[z,e] at B;have zq:=AG B;subst zq;cases d.symm.trans d').trans M) ic q
 .exact λen hm=>Io (F.up en hm) λh1 f Z e1 e2 M h=>⟨h1,f,Z,e1,(Kx (ns h)).trans e2,M,h⟩
theorem iW(x:Exc h a k Z fl):∃o vs,h.get? a=some o/\o.data=.fields vs/\vs[2]?=some .none:=by
 cases x with
 |new B vs M e _ d _ _ F=>exact⟨B,vs,e,d,F⟩
 |seen B vs M T oT ts fl e _ d _ _ _ _ _ _ F=>exact⟨B,vs,e,d,F⟩
theorem ay(g:NC K G fa mg mb)(n:K.h₀.get? a=none)(F:∀x∈Gz,G.lookup x=none):NC (K.ext a o w) (fH G) fa mg mb where
 ns:=g.ns.keeps (Gu n)
 wX:=g.wX.keeps (Gu n)
 nolimit:=g.nolimit.keeps (Gu n)
 fn x i B:=g.fn x i (Y6 B).2
 eI x i B:=EX (g.eI x i (Y6 B).2) λob fd e d=>⟨ob,fd,Gu n _ _ e,d⟩
 str x z B:=by rcases LD B with ⟨_,e⟩ | ⟨_,_,e,_⟩ <;> cases e
 int x z B:=by rcases LD B with ⟨_,e⟩ | ⟨_,_,e,_⟩ <;> cases e
 blt x B _:=g.blt x B (F x B)
 bv:=g.bv
 cls C i B:=by
  rcases LD B with ⟨m,_⟩ | ⟨_,_,e,_⟩
  .exact absurd m (by decide)
  .cases e
 exc x k ks B:=by rcases LD B with ⟨_,e⟩ | ⟨_,_,e,_⟩ <;> cases e
 pl x B hn:=by
  have:∀x∈KV,((KV.map λx=>(x,Gl.cls 0 0)).lookup x).isSome=true:=by decide
  have:=this x B
  have e:(fH G).lookup x=((KV.map λx=>(x,Gl.cls 0 0)).lookup x).or _:=fY
  rw[hn] at e
  cases h:(KV.map λx=>(x,Gl.cls 0 0)).lookup x with
  |none=>rw[h] at this;exact absurd this BD
  |some v=>rw[h] at e;exact absurd e.symm (AY _)
 wN x g' B hp:=by rcases LD B with ⟨_,e⟩ | ⟨_,_,e,_⟩ <;> (subst e;cases hp)
 lam c P B:=by rcases LD B with ⟨_,e⟩ | ⟨_,_,e,_⟩ <;> cases e
theorem jf(g:NC K G fa mg mb)(hu:L.up=L.env::L.up.tail)(hx:G.lookup x=some (.exc kx ks))(hg:Ey L.env.scope x=true)(hd:EB x=true)(hb:Oz K L body b)(he:∀(a:Addr) (o:Obj) (w:qf o),K.h₀.get? a=none->FE (K.ext a o w) L e ea):Wz K L (.Try body [.ExceptHandler (some (.Name x np)) none [.Return (some e) rp] hp] [] [] tp) (jk b ks ea):=λA c ρ Q R F q=>
 wpAny_Try_except (Ax (hb A c ρ _ R F q) (λf s₁ y=>y.casesOn (λc₁ ρ₁ s₁ F₁ q₁=>Nv (.next c₁ ρ₁ s₁ F₁ q₁)) λc₁ ρ₁ V v s₁ F₁ r q₁=>.ret c₁ ρ₁ V v s₁ F₁ r q₁) λev s₁ y=>by
  refine GR (y.at R hu) λc' ρ' k a fp fl ze1 ze2 z hk q' st n=>?_;subst ze1;subst ze2
  refine P0 (P:=λs=>Am K.M A (fV (.ref a) none) _ _ s) z λc'' T e1 e2 st' F' ex hp=>?_
  have n':=LI e1 st n hp
  have st'':Di L.own c c'':=st.DR st' λb m=>(n b m).1
  have z':Od K A L c'' ρ' a k [a,T] L.env.frame:=⟨R.fr,hu,F',ex,.inr rfl,λb m=>⟨c.sim.DL (n' b m).1,(n' b m).2⟩⟩
  refine Hu (fl':=none) (P:=λs=>Am K.M A (handleBy (.ref a) L.env _) _ _ s) z' λZ T' f1 f2 st₃ F₃ ex₃ hp₃=>?_
  have n₃:=LI f1 st'' n' hp₃
  have B:Od K A L Z ρ' a k [a,T'] none:=⟨R.fr,hu,F₃,ex₃,.inl rfl,λb m=>⟨c.sim.DL (n₃ b m).1,(n₃ b m).2⟩⟩
  have st₄:=st''.DR st₃ λb m=>(n' b m).1
  have q₃:rZ ks ea K.C Q (.exc k) ρ' Z.σ:=by rw[f2,e2];exact q'
  have xg:=g.exc x kx ks hx
  refine AW (RD ex₃) λoe hoe hc=>?_
  refine AW (xg.kids k hk) λm hm hmc=>?_
  refine AW (xg.kids kx xg.mem) λmx hmx _=>?_
  refine Pt (OQ (HD g F₃ xg.bound hg (Gy hd) (NT (hm.keep Z.sim.keep) (hmx.keep Z.sim.keep) hoe hc ?_))) (λh=>by injection h)
  rw[hmc]
  replace q₃:W2 (ea K.C ρ' Z.σ (λv σ₁=>Q (.ret v) ρ' σ₁) W3) (Q (.exc k) ρ' Z.σ) (ks.contains k):=q₃
  cases hbk:ks.contains k with
  |false=>rw[hbk] at q₃;exact bV A c Z ρ' Q a T' k B hk st₄ n₃ q₃
  |true=>
   rw[hbk] at q₃
   have z₅:Od K (A.mark (some (.ref a))) L Z ρ' a k [a,T'] none:=⟨B.R,B.hu,B.F,B.x,B.rC,B.hn⟩
   refine mh (Hu (P:=λs=>Am K.M (A.mark (some (.ref a))) (execs [.Return (some e) rp] L.env) _ _ s) z₅ λc₆ T₆ g1 g2 st₆ F₆ ex₆ hp₆=>?_)
   refine ES (iW ex₆) λox vx hox dx hx2=>?_
   have na:K.h₀.get? a=none:=(B.hn a AL).1
   have ma:a∉c₆.φ:=g1.symm▸(B.hn a AL).2
   have w:qf ox:=⟨vx,dx,hx2⟩
   have st₇:Di L.own c c₆:=st₄.DR st₆ λb m=>(n₃ b m).1
   refine Em (Hb (Ax (he a ox w na (A.mark (some (.ref a))) (c₆.ext (w:=w) na hox ma) ρ' (λv σ₁=>Q (.ret v) ρ' σ₁) W3 ⟨rfl,R.depth,R.units,R.fr⟩ (F₆.ext na hox ma dx) (show ea K.C ρ' c₆.σ _ _ from g2.symm▸q₃)) (λv s' y=>?_) λ_ _ x=>oo x))
   exact y.casesOn λc₈ V s₈ r q₈=>by
    have s₉:Di Bv c₆ (c₈.back na):=⟨⟨s₈.only,s₈.pre,s₈.keep,s₈.fresh⟩,s₈.SE⟩
    exact .ret (c₈.back na) ρ' V v (st₇.trans s₉.any) (F₆.step s₉) r q₈)
end
end Mine.Internal
namespace Mine.Internal
open PySem PySem.Calls
set_option maxRecDepth 100000
section
variable {K:Ctx} {L:Loc} {A:Bb} {G:PW} {fa:Nat->Addr} {mg mb:Str->Option AV}
theorem Vu(F:Fr c L ρ)(hx:L.vs.lookup x=some i)(hk:L.env.kindOf x=some .local)(n:c.s.heap.Ns L.env.locals m)(rn:∀y j,L.vs.lookup y=some j->L.env.kindOf y=some .local->y≠x->GL c ρ j (m y))(n':h'.Ns L.env.locals m')(hm:∀y,y≠x->m' y=m y)(hs:HY L.env.locals c.s.heap h') :
  ∃Z:Cf K.h₀,Z.s={ c.s with heap:=h',toks:=tk }/\Z.φ=c.φ/\Z.σ=c.σ/\Di (·=L.env.locals) c Z/\Fr Z L (ρ.set i .undef)/\(∀y j,L.vs.lookup y=some j->L.env.kindOf y=some .local->y≠x->GL Z (ρ.set i .undef) j (m' y)):=by
 have ho:∀a,a=L.env.locals->FC c.s.heap a/\a∉c.φ/\K.h₀.get? a=none:=λa e=>e▸⟨I5 n,F.G3,F.IP⟩
 have kk:∀b o,¬b=L.env.locals->c.s.heap.get? b=some o->h'.get? b=some o:=λb o hb e=>(hs.2 b hb).trans e
 have st:Di (·=L.env.locals) c (c.EF { c.s with heap:=h',toks:=tk } kk ho):=Cf.GD ⟨rfl,rfl⟩ λb _ e _=>e▸AW (IA n') λo e' _=>⟨o,e'⟩
 have ht:∀a,a=L.env.locals->FC c.s.heap a:=λa e=>(ho a e).1
 have ij:∀{y j},L.vs.lookup y=some j->y≠x->i≠j:=λhy ne e=>ne (F.inj _ x i (e▸hy) hx)
 have rn':∀y j,L.vs.lookup y=some j->L.env.kindOf y=some .local->y≠x->GL (c.EF { c.s with heap:=h',toks:=tk } kk ho) (ρ.set i .undef) j (m' y):=λy j hy B M=>by
  rw[hm y M];exact((rn y j hy B M).own st.toHo ht).other (ij hy M)
 refine⟨c.EF _ kk ho,rfl,rfl,rfl,st,⟨F.fn,F.glob,F.blt,F.IP,F.G3,F.inj,.mk _ n' λy j hy B=>?_,λy j hy B=>?_,F.GO,λe m1=>?_⟩,rn'⟩
 .by_cases M:y=x
  .subst M
   have zq:=AG (hx.symm.trans hy);subst zq
   exact λV hV hne=>absurd (IL hV).symm hne
  .exact rn' y j hy B M
 .cases F.cell y j hy B with
  |mk a ov e1 e2 e3 ic rc=>
  refine .mk a ov e1 e2 e3 (Ox ic λo e=>kk a o (Jn n ic) e) ((rc.own st.toHo ht).other (ij hy ?_))
  rintro rfl
  rw[hk] at B;refine A7 B (λq=>?_) (λq=>?_) <;> cases q
 .refine Io (F.up e m1) λk f m2 f1 f2 f3 n1=>?_
  by_cases hf:f=L.env.locals
  .exact⟨k,f,_,f1,f2,f3,hf▸n'⟩
  .exact⟨k,f,m2,f1,f2,f3,Px n1 λo e=>kk f o hf e⟩
theorem YE(M:MN s.heap k m)(F:s.heap.get? a=some oe)(hc:oe.cls=.ref k)(Z:Q (.bool true) s) :
  Am (Cz prog w) A (call (.builtin "isinstance") [.ref a,.type "ValueError"]) Q E s:=by
 refine call_isinstance (S:=λA R t=>t=s/\R (.ok (.ret (.bool true))) s) ?_ ⟨rfl,Z⟩
 rintro prog' w' A' R t ⟨rfl,hR⟩
 obtain⟨h,g,d,tk,os⟩:=t
 cases M with
 |mk bm N nm q bs hdct sn sub ab col dd k0 k1 k2 k3 k5 mN e n i t' r=>
 have B:(Cm k::bm).contains (.type "ValueError")=true:=by rw[fX,t'.hasType (show wR.contains (.type "ValueError")=true by decide),XC]
 have hty:typeOf (.type "ValueError")=pure (.type "type"):=by kernel_rfl
 refine isinstance_outer ?_ (λh=>by injection h)
 repeat (any_goals (first | assumption | (with_reducible refine SU F ?_;rw[hc]) | (with_reducible refine Pp e ?_;rw[B]) | wp_step))
theorem Ph:DA "ValueError"=some (.type "ValueError"):=by decide +kernel
theorem Vq{env:Env}(h:env.scope.kind=.function):(env.scope.kind==.class||(env.scope.kind==.module&&env.locals != env.globals))=false:=by rw[h];rfl
theorem te{B:Type}{M:Lq}{A:Bb}{t:Sem B}{Q:B->Aj->Prop}{E:AV->Aj->Prop}{s:Aj}(h:∀(F:B->Aj->Prop) (Z:AV->Aj->Prop),(∀a s,Q a s->F a s)->Am M A t F Z s):Am M A t Q E s:=h Q E λ_ _ h=>h
theorem su(g:NC K G fa mg mb){x n:Str}{kx:Nat}{ks:List Nat}{i:Nat}{np ip ep vp cp rp pos:Pos}{rest:List HP}{as:List (List Nat×V×Option Nat)}(hx:G.lookup x=some (.exc kx ks))(hg:Ey L.env.scope x=true)(hd:EB x=true)(hn:L.vs.lookup n=some i)(hl:L.env.kindOf n=some .local)(hno:EB n=true)(hi:Cs G L.env.scope ("isinstance":Str)=true)(hv:Cs G L.env.scope ("ValueError":Str)=true)(hr:nN K L rest as) :
  nN K L (.ExceptHandler (some (.Name x np)) (some n) [.Return (some (.Call (.Name ("isinstance":Str) ip) [.Name n ep,.Name ("ValueError":Str) vp] [] cp)) rp] pos::rest) ((ks,.bool true,some i)::as):=λA c₀ c ρ Q a T k z hk st nn q=>by
 have xg:=g.exc x kx ks hx
 refine AW (RD z.x) λoe he hc=>?_
 refine AW (xg.kids k hk) λm hm hmc=>?_
 refine AW (xg.kids kx xg.mem) λmx hmx _=>?_
 refine Pt (OQ (HD g z.F xg.bound hg (Gy hd) (NT (hm.keep c.sim.keep) (hmx.keep c.sim.keep) he hc ?_))) (λh=>by injection h)
 rw[hmc]
 replace q:match List.find? (λh=>h.1.contains k) ((ks,V.bool true,some i)::as) with
  |some h=>Q (.ret h.2.1) (sJ h.2.2 ρ) c.σ
  |none=>Q (.exc k) ρ c.σ:=q
 rw[Ma] at q
 cases hb:ks.contains k with
 |false=>rw[hb] at q;exact hr A c₀ c ρ Q a T k z hk st nn q
 |true=>
  rw[hb] at q
  have z':Od K (A.mark (some (.ref a))) L c ρ a k [a,T] none:=⟨z.R,z.hu,z.F,z.x,z.rC,z.hn⟩
  refine codeAny_handlers_suite_as (Hu (P:=λs=>Am K.M (A.mark (some (.ref a))) (fU L.env n (.ref a)) _ _ s) z' λc' T' e1 e2 st' F' ex hp=>te λQ' E' hQ=>?_)
  cases F'.ns with
  |mk mm nsm rn=>
  refine wpAny_storeName_local hl nsm (λh₁ hn₁ hs₁=>?_) (Vq F'.fn)
  refine Kw (Vu (tk:=c'.s.toks+1) F' hn hl nsm (λy j h1 h2 _=>rn y j h1 h2) hn₁ (λy hy=>if_neg hy) hs₁) λZ f1 f2 f3 s₁ B rn₁=>?_
  have hne:a≠L.env.locals:=λe=>by
   refine AW (RD ex) λoe' he' _=>?_
   refine EX (ex.fields a ex.mem) λ_ us he2 hd2=>?_
   refine KY (IA nsm) λ_ e3 _ _ d3=>?_
   rw[e] at he2
   have zq:=AG (he2.symm.trans e3);subst zq;cases hd2.symm.trans d3
  refine AW (RD ex) λoe₁ he₁ hc₁=>?_
  have he₁':h₁.get? a=some oe₁:=(hs₁.2 a hne).trans he₁
  rw[<- f1]
  refine hQ _ _ ?_
  have n₁:Z.s.heap.Ns L.env.locals (λy=>if y=n then some (.ref a) else mm y):=by rw[f1];exact hn₁
  refine Em (Hb ?_)
  rw[II]
  refine AB (Gv g B hi (by decide) boot_isinstance (FV rfl ?_))
  refine Ez (El (wpAny_Name (PC B.fn hl n₁ (if_pos rfl) (El (Gv g B hv (by decide) Ph (HM (YE (hm.keep Z.sim.keep) (by rw[f1];exact he₁') hc₁ ?_))))) (Gy hno)))
  refine wpAny_nameGoes_keeps hl n₁ (Vq B.fn) λh₂ v hn₂ hs₂=>?_
  refine Kw (Vu (tk:=Z.s.toks+1) B hn hl n₁ rn₁ hn₂ (λy hy=>if_neg hy) hs₂) λc₂ g1 g2 g3 s₂ F₂ _=>?_
  rw[<- g1]
  exact .ret c₂ _ (.bool true) (.bool true) ((st.DR st' λb m=>(nn b m).1).trans ((s₁.trans s₂).NH λ_ e=>.inl e)) F₂ H7 (by
   rw[g3,f3,e2,XB]
   exact q)
end
end Mine.Internal
namespace Mine.Internal
open PySem PySem.Calls
set_option genSizeOf false
set_option genInjectivity false
set_option genCtorIdx false
noncomputable def Uq(sc:Bq)(x:Str):Bool:=sc.names.lookup x==some .cell||sc.names.lookup x==some .free
theorem d7(h:Uq sc x=true):sc.names.lookup x=some .cell\/sc.names.lookup x=some .free:=(GA.mp h).imp beq_iff_eq.mp beq_iff_eq.mp
structure Agree(env:Env)(sc:Bq):Prop where
 var:∀x,Lb env.scope x=Lb sc x
 glob:∀x,Ey env.scope x=Ey sc x
 cf:∀x,Uq sc x=true->Uq env.scope x=true
theorem Agree.of_eq(h:env.scope=sc):Agree env sc:=⟨λ_=>by rw[h],λ_=>by rw[h],λ_ q=>by rw[h];exact q⟩
theorem LK(x:Str):(Nq sc env).names.lookup x=sc.names.lookup x\/(sc.names.lookup x=some .free/\(Nq sc env).names.lookup x=some .cell):=by
 rw[ML]
 cases h:sc.names.lookup x with
 |none=>exact .inl rfl
 |some k=>
  rw[Hr]
  by_cases B:(k==DM&&env.scope.kind==.function&&env.kindOf x==some .cell)=true
  .rw[if_pos B]
   exact .inr ⟨congrArg some (beq_iff_eq.mp (AJ.mp (AJ.mp B).1).1),rfl⟩
  .rw[if_neg B];exact .inl rfl
theorem Agree.comp:Agree (compEnvC sc B C env) sc where
 var x:=by show Lb (Nq sc env) x=_;unfold Lb;rcases LK (env:=env) (sc:=sc) x with e | ⟨e,e'⟩ <;> first | (rw[e,e'];rfl) | rw[e]
 glob x:=by show Ey (Nq sc env) x=_;unfold Ey;rcases LK (env:=env) (sc:=sc) x with e | ⟨e,e'⟩ <;> first | (rw[e,e'];rfl) | rw[e]
 cf x h:=by
  show Uq (Nq sc env) x=true
  unfold Uq at h ⊢
  rcases LK (env:=env) (sc:=sc) x with e | ⟨_,e'⟩
  .rw[e];exact h
  .rw[e'];rfl
noncomputable def JC(sc:Bq)(vs:Vs)(x:Str)(nx:Nat):Vs:=(x,nx)::sc.names.filterMap λy=>if y.2==.free then (vs.lookup y.1).map (y.1,·) else none
noncomputable def Tu(sc:Bq)(vs:Vs)(csc:Bq)(x:Str)(nx:Nat):Bool:=
 csc.kind==.function&&csc.names.all (λy=>y.2 != .cell&&(y.2 != .local||csc.names.lookup y.1==some .local)&&(y.2 != .free||(csc.names.lookup y.1==some .free&&Uq sc y.1&&(vs.lookup y.1).isSome))) &&
  csc.names.lookup x==some .local&&vs.all (λp=>p.2 != nx)
theorem MS{names:List (Str×PJ)}{vs:Vs}{y:Str}{j:Nat}(h:(names.filterMap λy=>if y.2==.free then (vs.lookup y.1).map (y.1,·) else none).lookup y=some j):(y,DM)∈names/\vs.lookup y=some j:=by
 obtain⟨⟨n,k⟩,hp,e⟩:=Kb.mp (mem_of_lookup h)
 split at e
 .rename_i hf
  refine AW (Av.mp e) λj' hj e=>?_
  cases e
  cases beq_iff_eq.mp hf
  exact⟨hp,hj⟩
 .cases e
theorem bD{env:Env}{up:List Env}{sc csc:Bq}{vs:Vs}{x:Str}{nx:Nat}(M:∀y,Uq sc y=true->Uq env.scope y=true)(h:Tu sc vs csc x nx=true):H8 ⟨env,vs,up⟩ csc (JC csc vs x nx) x nx:=by
 unfold Tu at h
 simp only[BK,beq_iff_eq,BF,bne_iff_ne,ne_eq,Rh,Km] at h
 obtain⟨⟨⟨h1,Z⟩,h3⟩,h4⟩:=h
 have B:∀y,(y,DM)∈csc.names->csc.names.lookup y=some .free/\Uq sc y=true/\∃j,vs.lookup y=some j:=λy hy=>by
  have:=(Z _ hy).2.resolve_left λn=>n rfl
  exact⟨this.1.1,this.1.2,this.2⟩
 refine⟨h1,λy hy=>(Z y hy).1.1,λy hy hl=>(Z y hy).1.2.resolve_left λn=>n hl,h3,λm=>?_,?_,λy hy hf=>?_,λy j F=>?_⟩
 .cases h3.symm.trans (B x m).1
 .rw[JC,BL,beq_self_eq_true]
 .obtain⟨n,k⟩:=y
  cases hf
  refine jy (B n hy) λ_ c j F=>?_
  exact⟨j,F,d7 (M n c)⟩
 .rw[JC,BL] at F
  cases e:y==x with
  |true=>rw[e] at F;exact .inl ⟨beq_iff_eq.mp e,(AG F).symm⟩
  |false=>
   rw[e] at F
   obtain⟨m,hv⟩:=MS F
   exact .inr ⟨beq_eq_false_iff_ne.mp e,(B y m).1,hv,h4 (y,j) (mem_of_lookup hv)⟩
structure RE where
 v:Ex
 t:Tx
noncomputable abbrev rv(a:Ex):RE:=⟨a,Hm a⟩
structure Vf(K:Ctx)(L:Loc)(e:Expr)(a:RE):Prop where
 star:EL e
 slice:OC e
 ok:FE K L e a.v
 test:nA K L e a.t
abbrev Mx(K:Ctx)(L:Loc):=WL (Vf K L)
structure Bg(K:Ctx)(G:PW)(fa:Nat->Addr)(mg mb:Str->Option AV):Prop where
 g:NC K G fa mg mb
 hC:Lx K G fa
 hH:K.hx=none->∀(a:Addr) (o:Obj) (w:qf o),K.h₀.get? a=none->Lx (K.ext a o w) (fH G) fa/\NC (K.ext a o w) (fH G) fa mg mb
noncomputable abbrev vals(as:List RE):List Ex:=as.map RE.v
noncomputable abbrev Vc(as:List RE):List Tx:=as.map RE.t
section
variable {K:Ctx} {L:Loc}
theorem gv(M:EL e)(Z:OC e)(F:∀env B,m8 e env B=(do let v <- B;SQ e.pos;J9 [v] (Zd v)))(h:FE K L e a):Vf K L e (rv a):=⟨M,Z,h,pV F h⟩
theorem Mx.all(h:Mx K L es as):Wn K L es (vals as)/\uQ K L es (Vc as)/\IJ es/\Tw K L es (Vc as):=by
 induction h with
 |nil=>exact⟨Mp,qQ,G1,kB⟩
 |cons h _ B=>exact⟨I9 h.star h.ok B.1,mD h.test B.2.1,GJ h.star B.2.2.1,dz h.test B.2.2.2⟩
theorem Mx.B(h:Mx K L es as):∀{e:Expr} {a:RE},Vf K L e a->uT K L (e::es) (vals (a::as)):=by
 induction h with
 |nil=>exact λh=>oh h.ok
 |cons h _ F=>exact λh'=>kC h'.ok (F h)
theorem Mx.C(h:Mx K L es as):∀{e:Expr} {a:RE} {B:List Kj},Vf K L e a->B.length=(e::es).length->uS K L B (e::es) (vals (a::as)):=by
 induction h with
 |nil=>intro _ _ B h F;cases B with
  |nil=>exact absurd F.symm (DS _)
  |cons _ os=>cases os with
   |nil=>exact bH h.ok
   |cons _ _=>exact absurd (Et F) (DS _)
 |cons h _ M=>intro _ _ B h' F;cases B with
  |nil=>exact absurd F.symm (DS _)
  |cons _ os=>cases os with
   |nil=>exact absurd (Et F).symm (DS _)
   |cons _ _=>exact hZ h'.ok (M h (Et F))
end
section
variable {K:Ctx} {G:PW} {fa:Nat->Addr} {mg mb:Str->Option AV}
variable (K) in
abbrev Good(sc:Bq)(vs:Vs)(e:Expr):Type:={ a:RE // ∀env up,Agree env sc->Vf K ⟨env,vs,up⟩ e a }
variable (K) in
abbrev vq(sc:Bq)(vs:Vs)(es:List Expr):Type:={ as:List RE // ∀env up,Agree env sc->Mx K ⟨env,vs,up⟩ es as }
variable (K) in
abbrev rq:=(sc:Bq)->(vs:Vs)->(e:Expr)->Option (Good K sc vs e)
noncomputable def rL{sc:Bq}{vs:Vs}(f:(e:Expr)->Option (Good K sc vs e))(es:List Expr):Option (vq K sc vs es):=es.rec (some ⟨[],λ_ _ _=>.nil⟩) λe _ g=>(f e).bind λa=>g.map λas=>⟨a.1::as.1,λenv up h=>.cons (a.2 env up h) (as.2 env up h)⟩
noncomputable def rz{sc:Bq}{vs:Vs}{k:Nat}{p:Pos}:(c:Const)->Option (Good K sc vs (.Constant c k p))
 | .none=>some ⟨rv Hg,λ_ _ _=>gv (λ_ _=>rfl) (λ_ _=>rfl) (λ_ _=>rfl) bG⟩
 | .bool b=>some ⟨rv (Fe b),λ_ _ _=>gv (λ_ _=>rfl) (λ_ _=>rfl) (λ_ _=>rfl) n5⟩
 | .int i=>some ⟨rv (AU i),λ_ _ _=>gv (λ_ _=>rfl) (λ_ _=>rfl) (λ_ _=>rfl) gj⟩
 | .str s=>some ⟨rv (BE s),λ_ _ _=>gv (λ_ _=>rfl) (λ_ _=>rfl) (λ_ _=>rfl) RK⟩
 |_=>none
noncomputable def Ry{α:Type}(o:Option α):Option { a:α // o=some a }:=match o with
 |some a=>some ⟨a,rfl⟩
 |none=>none
noncomputable def mJ(B:Bg K G fa mg mb)(sc:Bq)(vs:Vs)(x:Str)(p:Pos):Option (Good K sc vs (.Name x p)):=
 if hn:EB x=true then
  if hv:Lb sc x=true then (Ry (vs.lookup x)).map λi=>⟨rv (AD i.1),λ_ _ hA=>gv (λ_ _=>rfl) (λ_ _=>rfl) (λ_ _=>rfl) (T6 i.2 ((hA.var x).trans hv) hn)⟩
  else if hg:Ey sc x=true then (Ry (G.lookup x)).bind fun
   | ⟨.str s,e⟩=>some ⟨rv (BE s),λ_ _ hA=>gv (λ_ _=>rfl) (λ_ _=>rfl) (λ_ _=>rfl) (pN B.g e ((hA.glob x).trans hg) hn)⟩
   | ⟨.int i,e⟩=>some ⟨rv (AU i),λ_ _ hA=>gv (λ_ _=>rfl) (λ_ _=>rfl) (λ_ _=>rfl) (nZ B.g e ((hA.glob x).trans hg) hn)⟩
   |_=>none
  else none
 else none
theorem Agree.free(B:Agree env sc)(h:Cs G sc x=true):Cs G env.scope x=true:=by unfold Cs at h ⊢;rw[B.glob x];exact h
abbrev nv(K:Ctx)(sc:Bq)(vs:Vs)(t e:Expr):Type:={ r:Un×List RE // ∀env up,Agree env sc->PT K ⟨env,vs,up⟩ e r.1 (vals r.2) t/\∀x,Hc e env x=pure x }
noncomputable def qi:Expr->Bool
 | .Set ..=>true
 |_=>false
theorem cm(h:qi e=false)(env:Env)(x:AV):Hc e env x=pure x:=by
 cases e <;> first | rfl | cases h
noncomputable def lj{sc:Bq}{vs:Vs}(f:(e:Expr)->Option (Good K sc vs e))(t e:Expr):Option (nv K sc vs t e):=
 if hs:qi e=false then (f e).map λb=>⟨(.plain,[b.1]),λenv up h=>⟨d6 (b.2 env up h).ok,cm hs env⟩⟩ else none
noncomputable def uo(B:Bg K G fa mg mb){sc:Bq}{vs:Vs}(f:(e:Expr)->Option (Good K sc vs e))(pf pos:Pos)(a:Expr):(t:Expr)->Option (nv K sc vs t (.Call (.Name ("enumerate":Str) pf) [a] [] pos))
 | .Tuple _ _ _=>if hf:Cs G sc ("enumerate":Str)=true then (f a).map λb=>⟨(.enum,[b.1]),λenv up h=>⟨jT B.g (h.free hf) (b.2 env up h).star (Mx.all (.cons (b.2 env up h) .nil)).1,λ_=>rfl⟩⟩ else none
 |_=>none
noncomputable def tE(B:Bg K G fa mg mb){sc:Bq}{vs:Vs}(f:(e:Expr)->Option (Good K sc vs e))(t:Expr)(pf pos:Pos)(a:Expr)(as:List Expr):Option (nv K sc vs t (.Call (.Name ("range":Str) pf) (a::as) [] pos)):=
 if hf:Cs G sc ("range":Str)=true then (f a).bind λb=>(rL f as).map λbs=>⟨(.range,b.1::bs.1),λenv up h=>
  have al:=(Mx.all (.cons (b.2 env up h) (bs.2 env up h)))
  ⟨src_range B.g (h.free hf) (b.2 env up h).star al.2.2.1 al.1,λ_=>rfl⟩⟩ else none
noncomputable def uX(B:Bg K G fa mg mb){sc:Bq}{vs:Vs}(f:(e:Expr)->Option (Good K sc vs e))(t:Expr):(e:Expr)->Option (nv K sc vs t e)
 | .Call (.Name x pf) (a::as) [] pos=>
  if hr:x=("range":Str) then (tE B f t pf pos a as).map λr=>⟨r.1,λenv up h=>by subst hr;exact r.2 env up h⟩
  else if he:x=("enumerate":Str) then (match as with
   | []=>(uo B f pf pos a t).map λr=>⟨r.1,λenv up h=>by subst he;exact r.2 env up h⟩
   |_::_=>none)
  else lj f t (.Call (.Name x pf) (a::as) [] pos)
 |e=>lj f t e
noncomputable def vm(x:Str):Option { p:Pr // x∈Gz/\DA x=some (Qz p)/\(∀vs,Yx p vs=vs)/\((∃T,Qz p=.type T)\/∃T,Qz p=.builtin T)/\(p=.all->x=("all":Str)) }:=
 if h:x=("len":Str) then some ⟨.len,by subst h;exact⟨by decide,boot_len,λ_=>rfl,.inr ⟨_,rfl⟩,(λh=>by injection h)⟩⟩
 else if h:x=("list":Str) then some ⟨.list,by subst h;exact⟨by decide,boot_list,λ_=>rfl,.inl ⟨_,rfl⟩,(λh=>by injection h)⟩⟩
 else if h:x=("str":Str) then some ⟨.str,by subst h;exact⟨by decide,boot_str,λ_=>rfl,.inl ⟨_,rfl⟩,(λh=>by injection h)⟩⟩
 else if h:x=("int":Str) then some ⟨.int,by subst h;exact⟨by decide,boot_int,λ_=>rfl,.inl ⟨_,rfl⟩,(λh=>by injection h)⟩⟩
 else if h:x=("all":Str) then some ⟨.all,by subst h;exact⟨by decide,boot_all,λ_=>rfl,.inr ⟨_,rfl⟩,λ_=>rfl⟩⟩
 else none
noncomputable def wj(x:Str):Option { t:Ty // x∈Gz/\DA x=some (.type (Y8 t)) }:=
 if h:x=("bool":Str) then some ⟨.bool,by subst h;exact⟨by decide,boot_bool⟩⟩
 else if h:x=("str":Str) then some ⟨.str,by subst h;exact⟨by decide,boot_str⟩⟩
 else none
structure KW(K:Ctx)(G:PW):Prop where
 one:∀{L:Loc} {e:Expr} {a:Ex} {pf pos:Pos},Cs G L.env.scope ("sorted":Str)=true->EL e->FE K L e a->FE K L (.Call (.Name ("sorted":Str) pf) [e] [] pos) (OJ false a)
 set:∀{L:Loc} {e:Expr} {a:Ex} {pf pf' pos pos':Pos},Cs G L.env.scope ("sorted":Str)=true->Cs G L.env.scope ("set":Str)=true->EL e->FE K L e a->
  FE K L (.Call (.Name ("sorted":Str) pf) [.Call (.Name ("set":Str) pf') [e] [] pos'] [] pos) (OJ true a)
noncomputable def wu(B:Bg K G fa mg mb){sc:Bq}{vs:Vs}(f:(e:Expr)->Option (Good K sc vs e))(pf pos:Pos)(a:Expr):(as:List Expr)->Option (Good K sc vs (.Call (.Name ("isinstance":Str) pf) (a::as) [] pos))
 | [.Name y _]=>if hf:(Cs G sc ("isinstance":Str)&&Cs G sc y)=true then (wj y).bind λty=>(f a).map λb=>⟨rv (DW (.J3 ty.1) [b.1.v]),λenv up h=>
   have hf:=AJ.mp hf
   gv (λ_ _=>rfl) (λ_ _=>rfl) (λ_ _=>rfl) (cF B.g (h.free hf.1) (h.free hf.2) ty.2.1 ty.2.2 (b.2 env up h).star (b.2 env up h).ok)⟩ else none
 |_=>none
noncomputable def oE(S:KW K G){sc:Bq}{vs:Vs}(f:(e:Expr)->Option (Good K sc vs e))(pf pos:Pos):(as:List Expr)->Option (Good K sc vs (.Call (.Name ("sorted":Str) pf) as [] pos))
 | [.Call (.Name y pf') [e] [] pos']=>if hy:y=("set":Str) then
   if hf:(Cs G sc ("sorted":Str)&&Cs G sc ("set":Str))=true then (f e).map λb=>⟨rv (OJ true b.1.v),λenv up h=>gv (λ_ _=>rfl) (λ_ _=>rfl) (λ_ _=>rfl) (by
    have hf:=AJ.mp hf
    subst hy;exact S.set (h.free hf.1) (h.free hf.2) (b.2 env up h).star (b.2 env up h).ok)⟩ else none
  else if hf:Cs G sc ("sorted":Str)=true then (f (.Call (.Name y pf') [e] [] pos')).map λb=>⟨rv (OJ false b.1.v),λenv up h=>gv (λ_ _=>rfl) (λ_ _=>rfl) (λ_ _=>rfl) (S.one (h.free hf) (b.2 env up h).star (b.2 env up h).ok)⟩ else none
 | [e]=>if hf:Cs G sc ("sorted":Str)=true then (f e).map λb=>⟨rv (OJ false b.1.v),λenv up h=>gv (λ_ _=>rfl) (λ_ _=>rfl) (λ_ _=>rfl) (S.one (h.free hf) (b.2 env up h).star (b.2 env up h).ok)⟩ else none
 |_=>none
noncomputable def Qe(x:Str):Bool:=!x.cps.toList.contains 46
theorem Kr(h:Qe x=true)(m:Str):x≠CR++"."++m:=λe=>by
 rw[e] at h
 unfold Qe at h
 have:(CR++"."++m:Str).cps.toList=CR.cps.toList++[46]++m.cps.toList:=by
  show ((CR.cps++(⟨#[46]⟩:Str).cps)++m.cps).toList=_
  rw[CM,CM]
 rw[this,Dk.mpr (Cg _ (BB _ AL))] at h
 cases h
noncomputable def isFn(g:Option Gl)(i:Nat):Bool:=match g with
 |some (.fn j)=>j==i
 |_=>false
theorem Z7(h:isFn g i=true):g=some (.fn i):=by
 cases g with
 |none=>exact absurd h BD
 |some g=>cases g with
  |fn j=>exact beq_iff_eq.mp h▸rfl
  |_=>exact absurd h BD
theorem tb(g:NC K G fa mg mb){x:Str}{p:Pr}(h:p=.all->x=("all":Str))(B:G.lookup x=none)(e:p=.all):K.hx=none:=g.pl x ((h e).symm▸(by decide:("all":Str)∈KV)) B
noncomputable def vJ(B:Bg K G fa mg mb)(S:KW K G){sc:Bq}{vs:Vs}(f:(e:Expr)->Option (Good K sc vs e))(x:Str)(pf pos:Pos):(as:List Expr)->Option (Good K sc vs (.Call (.Name x pf) as [] pos))
 | []=>none
 |a::as=>
  if hi:x=("isinstance":Str) then (wu B f pf pos a as).map λr=>⟨r.1,λenv up h=>by subst hi;exact r.2 env up h⟩
  else if hs:x=("sorted":Str) then (oE S f pf pos (a::as)).map λr=>⟨r.1,λenv up h=>by subst hs;exact r.2 env up h⟩
  else if hg:(Ey sc x&&EB x)=true then (f a).bind λb=>(rL f as).bind λbs=>(match hl:G.lookup x with
   |some (.fn i)=>if hd:Qe x=true then some ⟨rv (A2 i (vals (b.1::bs.1))),λenv up h=>
     have hg:=AJ.mp hg
     gv (λ_ _=>rfl) (λ_ _=>rfl) (λ_ _=>rfl) (aj B.g B.hC hl (Kr hd) ((h.glob x).trans hg.1) hg.2 (b.2 env up h).star (Mx.all (.cons (b.2 env up h) (bs.2 env up h))).1)⟩ else none
   |some (.cls C i)=>if hx:x=CR then (if hj:isFn (G.lookup (CR++"."++"__init__")) i=true then some ⟨rv (oI C i (vals (b.1::bs.1))),λenv up h=>
     have hg:=AJ.mp hg
     have al:=(Mx.all (.cons (b.2 env up h) (bs.2 env up h)))
     gv (λ_ _=>rfl) (λ_ _=>rfl) (λ_ _=>rfl) (by subst hx;exact sV B.g B.hC hl (Z7 hj) ((h.glob CR).trans hg.1) (b.2 env up h).star (bs.2 env up h).all.2.2.1 al.1)⟩ else none) else none
   |some _=>none
   |none=>(vm x).map λp=>⟨rv (DW p.1 (vals (b.1::bs.1))),λenv up h=>
     have al:=(Mx.all (.cons (b.2 env up h) (bs.2 env up h)))
     gv (λ_ _=>rfl) (λ_ _=>rfl) (λ_ _=>rfl) (r9 B.g (tb B.g p.2.2.2.2.2 hl) p.2.2.2.1 (h.free (by unfold Cs;rw[hl,(AJ.mp hg).1];rfl)) p.2.1 p.2.2.1 p.2.2.2.2.1 (b.2 env up h).star al.2.2.1 al.1)⟩)
  else none
end
end Mine.Internal
namespace Mine.Internal
open PySem PySem.Calls
set_option genSizeOf false
set_option genInjectivity false
set_option genCtorIdx false
section
variable {K:Ctx} {G:PW} {fa:Nat->Addr} {mg mb:Str->Option AV}
structure tH(K:Ctx)(L:Loc)(elt:Expr)(x:Str)(px:Pos)(iter:Expr)(ifs:List Expr)(csc:Bq)(vs':Vs)(nx:Nat)(a:Ex)(k:Un)(as:List Ex)(ts:List Tx):Prop where
 sc:H8 L csc vs' x nx
 fold:∀x,Hc iter L.env x=pure x
 src:PT K L iter k as (.Name x px)
 kind:k≠.enum
 elt:∀C,FE K (G2 L csc vs' C) elt a
 ifs:∀C,Tw K (G2 L csc vs' C) ifs ts
structure vH where
 a:Ex
 k:Un
 as:List Ex
 ts:List Tx
noncomputable def pQ:(k:Un)->Option { _u:Unit // k≠.enum }
 | .plain=>some ⟨(),(λh=>by injection h)⟩
 | .range=>some ⟨(),(λh=>by injection h)⟩
 | .enum=>none
noncomputable def qU(B:Bg K G fa mg mb)(nx:Nat)(ff:rq K)(sc:Bq)(vs:Vs)(elt:Expr)(x:Str)(px:Pos)(iter:Expr)(ifs:List Expr)(csc:Bq) :
  Option { r:vH // ∀env up,Agree env sc->tH K ⟨env,vs,up⟩ elt x px iter ifs csc (JC csc vs x nx) nx r.a r.k r.as r.ts }:=
 if hc:Tu sc vs csc x nx=true then (uX B (ff sc vs) (.Name x px) iter).bind λs=>(ff csc (JC csc vs x nx) elt).bind λa=>(rL (ff csc (JC csc vs x nx)) ifs).bind λts=>(pQ s.1.1).map λhk=>
  ⟨⟨a.1.v,s.1.1,vals s.1.2,Vc ts.1⟩,λenv up h=>⟨bD h.cf hc,(s.2 env up h).2,(s.2 env up h).1,hk.2,λ_=>(a.2 _ _ Agree.comp).ok,λ_=>(ts.2 _ _ Agree.comp).all.2.2.2⟩⟩ else none
noncomputable def vi{sc:Bq}{vs:Vs}(f:(e:Expr)->Option (Good K sc vs e)):(o:Option Expr)->Option { a:Option Ex // ∀env up,Agree env sc->vK K ⟨env,vs,up⟩ o a }
 |none=>some ⟨none,λ_ _ _=>jh⟩
 |some e=>(f e).map λa=>⟨some a.1.v,λenv up h=>WA (a.2 env up h).ok⟩
noncomputable def xR(B:Bg K G fa mg mb){sc:Bq}{vs:Vs}(f:(e:Expr)->Option (Good K sc vs e))(pos:Pos)(a:Expr):(i:Expr)->Option (Good K sc vs (.Subscript a i pos))
 | .Slice lo hi none _=>(f a).bind λx=>(vi f lo).bind λy=>(vi f hi).map λz=>⟨rv (DD x.1.v y.1 z.1),λenv up h=>gv (λ_ _=>rfl) (λ_ _=>rfl) (λ_ _=>rfl) (gW (x.2 env up h).ok (y.2 env up h) (z.2 env up h))⟩
 | .Slice none none (some (.UnaryOp .USub (.Constant (.int 1) _ _) _)) _=>(f a).map λx=>⟨rv (dg x.1.v),λenv up h=>gv (λ_ _=>rfl) (λ_ _=>rfl) (λ_ _=>rfl) (s6 (x.2 env up h).ok (jt gj))⟩
 |i=>(f a).bind λx=>(f i).map λy=>⟨rv (A8 x.1.v y.1.v),λenv up h=>gv (λ_ _=>rfl) (λ_ _=>rfl) (λ_ _=>rfl) (tL (y.2 env up h).slice (x.2 env up h).ok (y.2 env up h).ok)⟩
noncomputable def w3{sc:Bq}{vs:Vs}(f:(e:Expr)->Option (Good K sc vs e))(apos pos:Pos)(o:Expr)(hb:∀env,Er o ("append":Str) env (eval o env)=eval o env):(as:List Expr)->Option (Good K sc vs (.Call (.Attribute o ("append":Str) apos) as [] pos))
 | [a]=>if hl:(apos.endLine==pos.line)=true then (f o).bind λx=>(f a).map λy=>⟨rv (Mv x.1.v y.1.v),λenv up h=>gv (λ_ _=>rfl) (λ_ _=>rfl) (λ_ _=>rfl) (eE hb hl (y.2 env up h).star (x.2 env up h).ok (y.2 env up h).ok)⟩ else none
 |_=>none
theorem Mx.star(h:Mx K L es as):∀e r,es=e::r->EL e:=λe r q=>by
 subst q
 cases h with
 |cons h _=>exact h.star
noncomputable def rQ:(g:Option Gl)->Option { j:Nat // g=some (.fn j) }
 |some (.fn j)=>some ⟨j,rfl⟩
 |_=>none
noncomputable def iD:(g:Option Gl)->Option { p:Addr×Nat // g=some (.cls p.1 p.2) }
 |some (.cls C i)=>some ⟨(C,i),rfl⟩
 |_=>none
noncomputable def aC:(g:Option Gl)->Option { p:Nat×List Nat // g=some (.exc p.1 p.2) }
 |some (.exc k ks)=>some ⟨(k,ks),rfl⟩
 |_=>none
noncomputable def va(B:Bg K G fa mg mb){sc:Bq}{vs:Vs}(f:(e:Expr)->Option (Good K sc vs e))(m:Str)(apos pos:Pos)(o:Str)(po:Pos)(as:List Expr):Option (Good K sc vs (.Call (.Attribute (.Name o po) m apos) as [] pos)):=
 (iD (G.lookup CR)).bind λc=>(rQ (G.lookup (CR++"."++m))).bind λj=>if hl:(decide (as.length<30)&&(apos.endLine==pos.line))=true then (mJ B sc vs o po).bind λx=>(rL f as).map λys=>
  ⟨rv (FO c.1.1 m j.1 x.1.v (vals ys.1)),λenv up h=>
   have hl:=AJ.mp hl
   gv (λ_ _=>rfl) (λ_ _=>rfl) (λ_ _=>rfl) (qL B.g B.hC c.2 j.2 (of_decide_eq_true hl.1) hl.2 (x.2 env up h).ok (ys.2 env up h).all.2.2.1 (ys.2 env up h).star (ys.2 env up h).all.1)⟩ else none
noncomputable def xJ{sc:Bq}{vs:Vs}(f:(e:Expr)->Option (Good K sc vs e))(apos pos:Pos)(o:Expr)(hb:∀env,Er o ("pop":Str) env (eval o env)=eval o env):(as:List Expr)->Option (Good K sc vs (.Call (.Attribute o ("pop":Str) apos) as [] pos))
 | [a]=>if hl:(apos.endLine==pos.line)=true then (f o).bind λx=>(f a).map λy=>⟨rv (qF x.1.v y.1.v),λenv up h=>gv (λ_ _=>rfl) (λ_ _=>rfl) (λ_ _=>rfl) (th hb hl (y.2 env up h).star (x.2 env up h).ok (y.2 env up h).ok)⟩ else none
 |_=>none
noncomputable def YN(s:Str):Option { d:Nat // s=sign d }:=if h:s=sign (s.cps.getD 0 0) then some ⟨_,h⟩ else none
noncomputable def tW{sc:Bq}{vs:Vs}(f:(e:Expr)->Option (Good K sc vs e))(apos pos:Pos)(o:Expr)(hb:∀env,Er o ("split":Str) env (eval o env)=eval o env):(as:List Expr)->Option (Good K sc vs (.Call (.Attribute o ("split":Str) apos) as [] pos))
 | [.Constant (.str s) _ _]=>if hl:(apos.endLine==pos.line)=true then (YN s).bind λd=>(f o).map λx=>⟨rv (Oo d.1 x.1.v),λenv up h=>by obtain⟨d,rfl⟩:=d;exact gv (λ_ _=>rfl) (λ_ _=>rfl) (λ_ _=>rfl) (gR hb hl (x.2 env up h).ok)⟩ else none
 |_=>none
noncomputable def uz{sc:Bq}{vs:Vs}(f:(e:Expr)->Option (Good K sc vs e))(apos pos:Pos)(o:Expr)(hb:∀env,Er o ("endswith":Str) env (eval o env)=eval o env):(as:List Expr)->Option (Good K sc vs (.Call (.Attribute o ("endswith":Str) apos) as [] pos))
 | [.Constant (.str s) _ _]=>if hl:(apos.endLine==pos.line)=true then (YN s).bind λd=>(f o).map λx=>⟨rv (lE d.1 x.1.v),λenv up h=>by obtain⟨d,rfl⟩:=d;exact gv (λ_ _=>rfl) (λ_ _=>rfl) (λ_ _=>rfl) (oR hb hl (x.2 env up h).ok)⟩ else none
 |_=>none
noncomputable def wV{sc:Bq}{vs:Vs}(f:(e:Expr)->Option (Good K sc vs e))(m:Str)(apos pos:Pos)(o:Expr)(hb:∀m env,Er o m env (eval o env)=eval o env)(as:List Expr):Option (Good K sc vs (.Call (.Attribute o m apos) as [] pos)):=
 if hm:m=("append":Str) then (w3 f apos pos o (hb _) as).map λr=>⟨r.1,λenv up h=>by subst hm;exact r.2 env up h⟩
 else if hm:m=("split":Str) then (tW f apos pos o (hb _) as).map λr=>⟨r.1,λenv up h=>by subst hm;exact r.2 env up h⟩
 else if hm:m=("endswith":Str) then (uz f apos pos o (hb _) as).map λr=>⟨r.1,λenv up h=>by subst hm;exact r.2 env up h⟩
 else if hm:m=("pop":Str) then (xJ f apos pos o (hb _) as).map λr=>⟨r.1,λenv up h=>by subst hm;exact r.2 env up h⟩
 else none
noncomputable def xE(m:Str):Bool:=m==("append":Str)||m==("split":Str)||m==("endswith":Str)||m==("pop":Str)
abbrev xU(K:Ctx)(sc:Bq)(vs:Vs)(es:List Expr):=Option { as:List Ex // ∀env up,Agree env sc->sx K ⟨env,vs,up⟩ es as }
noncomputable def yR{sc:Bq}{vs:Vs}(f:(e:Expr)->Option (Good K sc vs e))(r:List Expr)(g:xU K sc vs r):(e:Expr)->xU K sc vs (e::r)
 | .Constant (.str s) _ _=>g.map λas=>⟨BE s::as.1,λenv up h=>.cons cj (as.2 env up h)⟩
 | .FormattedValue e (.negSucc 0) none _=>(f e).bind λa=>g.map λas=>⟨a.1.v::as.1,λenv up h=>.cons (qM (a.2 env up h).ok) (as.2 env up h)⟩
 |_=>none
noncomputable def yW{sc:Bq}{vs:Vs}(f:(e:Expr)->Option (Good K sc vs e))(es:List Expr):xU K sc vs es:=es.rec (some ⟨[],λ_ _ _=>.nil⟩) λe r g=>yR f r g e
noncomputable def wm{sc:Bq}{vs:Vs}(f:(e:Expr)->Option (Good K sc vs e))(p:Pos):(es:List Expr)->Option (Good K sc vs (.JoinedStr es p))
 |e::e'::es=>(yW f (e::e'::es)).map λas=>⟨rv (Y2 as.1 IV),λenv up h=>gv (λ_ _=>rfl) (λ_ _=>rfl) (λ_ _=>rfl) (sU (as.2 env up h))⟩
 |_=>none
noncomputable def vh{sc:Bq}{vs:Vs}(f:(e:Expr)->Option (Good K sc vs e))(m:Str)(apos pos:Pos)(s:Str)(k:Nat)(cp:Pos):(as:List Expr)->Option (Good K sc vs (.Call (.Attribute (.Constant (.str s) k cp) m apos) as [] pos))
 | [a]=>if hm:m=("join":Str) then if hl:(apos.endLine==pos.line)=true then (f a).map λy=>⟨rv (L5 s y.1.v),λenv up h=>by subst hm;exact gv (λ_ _=>rfl) (λ_ _=>rfl) (λ_ _=>rfl) (qO hl (y.2 env up h).star (y.2 env up h).ok)⟩ else none else none
 |_=>none
noncomputable def vD(B:Bg K G fa mg mb){sc:Bq}{vs:Vs}(f:(e:Expr)->Option (Good K sc vs e))(m:Str)(apos pos:Pos):(o:Expr)->(as:List Expr)->Option (Good K sc vs (.Call (.Attribute o m apos) as [] pos))
 | .Name o po,as=>if xE m=true then wV f m apos pos (.Name o po) (λ_ _=>rfl) as else va B f m apos pos o po as
 | .Constant (.str s) k cp,as=>vh f m apos pos s k cp as
 | .Subscript o i po,as=>wV f m apos pos (.Subscript o i po) (λ_ _=>rfl) as
 | .Attribute o x po,as=>wV f m apos pos (.Attribute o x po) (λ_ _=>rfl) as
 | .Call (.Attribute o x pa) bs ks po,as=>wV f m apos pos (.Call (.Attribute o x pa) bs ks po) (λ_ _=>rfl) as
 |_,_=>none
noncomputable def xP(B:Bg K G fa mg mb){sc:Bq}{vs:Vs}(m:Str)(pos:Pos):(o:Expr)->Option (Good K sc vs (.Attribute o m pos))
 | .Name o po=>(iD (G.lookup CR)).bind λc=>if hm:m∈Ij then (mJ B sc vs o po).map λx=>⟨rv (E7 c.1.1 m x.1.v),λenv up h=>gv (λ_ _=>rfl) (λ_ _=>rfl) (λ_ _=>rfl) (nG B.g c.2 hm (x.2 env up h).ok)⟩ else none
 |_=>none
noncomputable def vE{sc:Bq}{vs:Vs}(f:(e:Expr)->Option (Good K sc vs e))(pos:Pos)(op:BoolOp):(es:List Expr)->Option (Good K sc vs (.BoolOp op es pos))
 | []=>none
 |e::es=>(f e).bind λa=>(rL f es).bind λas=>(match op with
  | .And=>some ⟨⟨KC true (vals (a.1::as.1)),LB (Vc (a.1::as.1))⟩,λenv up h=>⟨λ_ _=>rfl,λ_ _=>rfl,rW ((as.2 env up h).B (a.2 env up h)),qG (Mx.all (.cons (a.2 env up h) (as.2 env up h))).2.1⟩⟩
  | .Or=>some ⟨⟨KC false (vals (a.1::as.1)),Uj (Vc (a.1::as.1))⟩,λenv up h=>⟨λ_ _=>rfl,λ_ _=>rfl,vN ((as.2 env up h).B (a.2 env up h)),rR (Mx.all (.cons (a.2 env up h) (as.2 env up h))).2.1⟩⟩)
noncomputable def xA{sc:Bq}{vs:Vs}(f:(e:Expr)->Option (Good K sc vs e))(pos:Pos)(l:Expr)(ops:List Kj):(es:List Expr)->Option (Good K sc vs (.Compare l ops es pos))
 | []=>none
 |e::es=>if hm:lastMarks ops (e::es)=false then if hl:ops.length=(e::es).length then (f l).bind λx=>(f e).bind λa=>(rL f es).map λas=>
   ⟨⟨Jh (Bj x.1.v ops (vals (a.1::as.1))),Bj x.1.v ops (vals (a.1::as.1))⟩,λenv up h=>⟨λ_ _=>rfl,λ_ _=>rfl,iU hm (x.2 env up h).ok ((as.2 env up h).C (a.2 env up h) hl),pU hm (x.2 env up h).ok ((as.2 env up h).C (a.2 env up h) hl)⟩⟩ else none else none
noncomputable def yF{sc:Bq}{vs:Vs}(f:(e:Expr)->Option (Good K sc vs e))(pos:Pos)(x:Expr):(op:UnaryOp)->Option (Good K sc vs (.UnaryOp op x pos))
 | .USub=>(f x).map λa=>⟨rv (ko a.1.v),λenv up h=>gv (λ_ _=>rfl) (λ_ _=>rfl) (λ_ _=>rfl) (jt (a.2 env up h).ok)⟩
 | .Not=>(f x).map λ(a:Good K sc vs x)=>⟨RE.mk (ue a.1.v) (JK a.1.t),λenv up h=>⟨λ_ _=>rfl,λ_ _=>rfl,tB (a.2 env up h).ok,o5 (a.2 env up h).test⟩⟩
 |_=>none
noncomputable def yX(B:Bg K G fa mg mb)(nx:Nat)(ff:rq K)(sc:Bq)(vs:Vs)(elt:Expr)(csc:Bq)(pos:Pos):(gs:List Comprehension)->Option (Good K sc vs (.ListComp elt gs csc pos))
 | [⟨.Name x px,iter,ifs,0⟩]=>(qU B nx ff sc vs elt x px iter ifs csc).map λr=>⟨rv (Gg r.1.a nx r.1.k r.1.as r.1.ts),λenv up h=>have q:=r.2 env up h
   gv (λ_ _=>rfl) (λ_ _=>rfl) (λ_ _=>rfl) (aY q.sc q.fold q.src q.kind q.elt q.ifs)⟩
 |_=>none
noncomputable def yZ(B:Bg K G fa mg mb)(S:KW K G)(nx:Nat)(g:rq K):rq K:=λsc vs e=>match e with
  | .Constant c _ _=>rz c
  | .Name x p=>mJ B sc vs x p
  | .BinOp l o r _=>(g sc vs l).bind λa=>(g sc vs r).map λb=>⟨rv (Ah o a.1.v b.1.v),λenv up h=>gv (λ_ _=>rfl) (λ_ _=>rfl) (λ_ _=>rfl) (tJ (a.2 env up h).ok (b.2 env up h).ok)⟩
  | .UnaryOp op x p=>yF (g sc vs) p x op
  | .BoolOp op es p=>vE (g sc vs) p op es
  | .Compare l ops es p=>xA (g sc vs) p l ops es
  | .Tuple es _ _=>if hz:es.length<=1000 then (rL (g sc vs) es).map λas=>⟨rv (Dw (vals as.1)),λenv up h=>gv (λ_ _=>rfl) (λ_ _=>rfl) (λ_ _=>rfl) (tu (as.2 env up h).all.1 hz)⟩ else none
  | .List es _=>if hz:es.length<=1000 then (rL (g sc vs) es).map λas=>⟨rv (CD (vals as.1)),λenv up h=>gv (λ_ _=>rfl) (λ_ _=>rfl) (λ_ _=>rfl) (qJ (as.2 env up h).all.1 hz)⟩ else none
  | .Subscript a i p=>xR B (g sc vs) p a i
  | .Call (.Name x pf) as [] p=>vJ B S (g sc vs) x pf p as
  | .Call (.Attribute o m ap) as [] p=>vD B (g sc vs) m ap p o as
  | .JoinedStr es p=>wm (g sc vs) p es
  | .ListComp elt gs csc p=>yX B nx g sc vs elt csc p gs
  | .Attribute o m p=>xP B m p o
  | .Dict [] [] _=>some ⟨rv Zr,λ_ _ _=>gv (λ_ _=>rfl) (λ_ _=>rfl) (λ_ _=>rfl) (oB B.g)⟩
  |_=>none
noncomputable def rE(B:Bg K G fa mg mb)(S:KW K G)(nx n:Nat):rq K:=n.rec (λ_ _ _=>none) λ_=>yZ B S nx
abbrev Jw(K:Ctx)(sc:Bq)(vs:Vs)(st:Stmt):Type:={ a:Sx // ∀env up,env.scope=sc->Wz K ⟨env,vs,env::up⟩ st a }
abbrev T4(K:Ctx)(sc:Bq)(vs:Vs)(st:List Stmt):Type:={ a:List Sx // ∀env up,env.scope=sc->Oz K ⟨env,vs,env::up⟩ st a }
noncomputable def rA{sc:Bq}{vs:Vs}{st:Stmt}:Jw K sc vs st:=⟨gq,λ_ _ _ _ _ _ _ _ _ q=>q.elim⟩
noncomputable def uP{sc:Bq}{vs:Vs}(f:(st:Stmt)->Option (Jw K sc vs st))(sts:List Stmt):T4 K sc vs sts:=sts.rec ⟨[],λ_ _ _=>fm⟩ λs _ as=>have a:=(f s).getD rA;⟨a.1::as.1,λenv up h=>eC (a.2 env up h) (as.2 env up h)⟩
abbrev xN(sc:Bq)(vs:Vs)(es:List Expr):=Option { is:List Nat // ∀env up,env.scope=sc->MQ ⟨env,vs,up⟩ es is }
noncomputable def yK(sc:Bq)(vs:Vs)(r:List Expr)(g:xN sc vs r):(e:Expr)->xN sc vs (e::r)
 | .Name x _=>if ho:QY sc x=true then (Ry (vs.lookup x)).bind λi=>g.map λis=>⟨i.1::is.1,λenv up h=>.cons ⟨i.2,by have:=Jp ho;rw[<- h] at this;exact this⟩ (is.2 env up h)⟩ else none
 |_=>none
noncomputable def sj(sc:Bq)(vs:Vs)(es:List Expr):xN sc vs es:=es.rec (some ⟨[],λ_ _ _=>.nil⟩) λe r g=>yK sc vs r g e
theorem jL(h:∃ps,j3.var i=.tup ps):K.hx=none:=h.elim λ_ e=>by injection e
noncomputable def tC(B:Bg K G fa mg mb)(sc:Bq)(vs:Vs):(e:Expr)->Option { p:j3 // (∀env up,env.scope=sc->X9 ⟨env,vs,up⟩ e p/\(LX [e] env).map (·.2)=[mf e env])/\((∃ps,p=.tup ps)->K.hx=none) }
 | .Name x _=>if ho:QY sc x=true then (Ry (vs.lookup x)).map λi=>⟨.var i.1,λenv up h=>⟨.name i.2 (by have:=Jp ho;rw[<- h] at this;exact this),rfl⟩,jL⟩ else none
 | .Tuple es _ _=>if hp:(G.lookup ("all":Str)).isNone=true then (sj sc vs es).map λis=>⟨.tup is.1,λenv up h=>⟨.tup (is.2 env up h),rfl⟩,λ_=>B.g.pl ("all":Str) (by decide) (DF.mp hp)⟩ else none
 |_=>none
noncomputable def dK:Expr->Bool
 | .ListComp .. | .SetComp .. | .DictComp ..=>true
 |_=>false
theorem Kt(h:dK e=false):YZ e:=by
 cases e <;> first | exact λ_ _ _=>rfl | cases h
noncomputable def u3(B:Bg K G fa mg mb){sc:Bq}{vs:Vs}(f:(e:Expr)->Option (Good K sc vs e))(p:Pos)(value t:Expr)(hl:YZ value)(ht:∀env,swappedStores [t] value env=pure none):Option (Jw K sc vs (.Assign [t] value p)):=
 (tC B sc vs t).bind λq=>(f value).map λa=>⟨BR q.1 a.1.v,λenv up h=>Ni (hl _ _ _) (ht _) (q.2.1 env (env::up) h).2 (q.2.1 env (env::up) h).1 q.2.2 (a.2 env (env::up) (.of_eq h)).ok⟩
noncomputable def ug(B:Bg K G fa mg mb){sc:Bq}{vs:Vs}(f:(e:Expr)->Option (Good K sc vs e))(p:Pos)(value:Expr)(y:Str)(py:Pos):Option (Jw K sc vs (.Assign [.Name y py] value p)):=
 if hl:dK value=false then (tC B sc vs (.Name y py)).bind λq=>(f value).map λa=>⟨BR q.1 a.1.v,λenv up h=>Ni (Kt hl _ _ _) rfl (q.2.1 env (env::up) h).2 (q.2.1 env (env::up) h).1 q.2.2 (a.2 env (env::up) (.of_eq h)).ok⟩ else none
noncomputable def u7(B:Bg K G fa mg mb)(nx:Nat)(ff:rq K)(sc:Bq)(vs:Vs)(p:Pos)(elt:Expr)(csc:Bq)(pc:Pos)(y:Str)(py:Pos):(gs:List Comprehension)->Option (Jw K sc vs (.Assign [.Name y py] (.ListComp elt gs csc pc) p))
 | [⟨.Name x px,iter,ifs,0⟩]=>if ho:QY sc y=true then (Ry (vs.lookup y)).bind λi=>(qU B nx ff sc vs elt x px iter ifs csc).map λr=>⟨BR (.var i.1) (Gg r.1.a nx r.1.k r.1.as r.1.ts),λenv up h=>by
   have q:=r.2 env (env::up) (.of_eq h)
   have hk:=Jp ho
   rw[<- h] at hk
   obtain⟨b,hb,hl⟩:∃b,M7 (.ListComp elt [⟨.Name x px,iter,ifs,0⟩] csc pc) (some (.Name y py)) p.line env=pure b/\(b=true->env.kindOf y=some .local):=
    ⟨_,rfl,λe=>beq_iff_eq.mp (AJ.mp (AJ.mp (AJ.mp e).1).1).2⟩
   cases b with
   |true=>exact gH q.sc q.fold q.src q.kind q.elt q.ifs i.2 (hl rfl) hb
   |false=>exact Ni hb rfl rfl (.name i.2 hk) jL (aY q.sc q.fold q.src q.kind q.elt q.ifs)⟩ else none
 |_=>none
noncomputable def vR{sc:Bq}{vs:Vs}(f:(e:Expr)->Option (Good K sc vs e))(p:Pos)(value o i:Expr)(q:Pos):Option (Jw K sc vs (.Assign [.Subscript o i q] value p)):=
 if hl:dK value=false then (f o).bind λa=>(f i).bind λb=>(f value).map λe=>⟨aI a.1.v b.1.v e.1.v,λenv up h=>kJ (Kt hl _ _ _) (a.2 env (env::up) (.of_eq h)).ok (b.2 env (env::up) (.of_eq h)).ok (e.2 env (env::up) (.of_eq h)).ok⟩ else none
noncomputable def wc(B:Bg K G fa mg mb){sc:Bq}{vs:Vs}(f:(e:Expr)->Option (Good K sc vs e))(p:Pos)(value o:Expr)(m:Str)(q:Pos):Option (Jw K sc vs (.Assign [.Attribute o m q] value p)):=
 if hl:dK value=false then (iD (G.lookup CR)).bind λc=>if hm:m∈Ij then (f o).bind λa=>(f value).map λe=>⟨Vd c.1.1 m a.1.v e.1.v,λenv up h=>i8 B.g c.2 hm (Kt hl _ _ _) (a.2 env (env::up) (.of_eq h)).ok (e.2 env (env::up) (.of_eq h)).ok⟩ else none else none
noncomputable def vw:(c:Const)->Option { v:V // om c=some v }:=λc=>Ry (om c)
abbrev xI(K:Ctx)(sc:Bq)(vs:Vs)(hs:List HP):=Option { as:List (List Nat×V×Option Nat) // ∀env up,env.scope=sc->nN K ⟨env,vs,env::up⟩ hs as }
set_option backward.match.sparseCases true in
noncomputable def yS(B:Bg K G fa mg mb)(sc:Bq)(vs:Vs)(r:List HP)(g:xI K sc vs r):(h:HP)->xI K sc vs (h::r)
 | .ExceptHandler (some (.Name x _)) none [.Return (some (.Constant c _ _)) _] _=>if hg:(Ey sc x&&EB x)=true then (aC (G.lookup x)).bind λk=>(vw c).bind λv=>g.map λas=>⟨(k.1.2,v.1,none)::as.1,λenv up h=>
   have hg:=AJ.mp hg
   iC B.g k.2 (((Agree.of_eq h).glob x).trans hg.1) hg.2 v.2 (as.2 env up h)⟩ else none
 | .ExceptHandler (some (.Name x np)) (some n) [.Return (some (.Call (.Name f ip) [.Name n' ep,.Name v vp] [] cp)) rp] pos=>if hq:f=("isinstance":Str)/\n'=n/\v=("ValueError":Str) then
   if hg:(Ey sc x&&EB x&&(sc.names.lookup n==some .local)&&EB n&&Cs G sc ("isinstance":Str)&&Cs G sc ("ValueError":Str))=true then (aC (G.lookup x)).bind λk=>(Ry (vs.lookup n)).bind λi=>g.map λas=>⟨(k.1.2,.bool true,some i.1)::as.1,λenv up h=>by
    refine FD hq λze1 ze2 ze3=>?_;subst ze1;subst ze2;subst ze3
    simp only[BK,beq_iff_eq] at hg
    have hA:=Agree.of_eq h
    exact su B.g k.2 ((hA.glob x).trans hg.1.1.1.1.1) hg.1.1.1.1.2 i.2 (by show env.scope.names.lookup _=_;rw[h];exact hg.1.1.1.2) hg.1.1.2 (hA.free hg.1.2) (hA.free hg.2) (as.2 env up h)⟩ else none else none
 |_=>none
noncomputable def xf(B:Bg K G fa mg mb)(sc:Bq)(vs:Vs)(hs:List HP):xI K sc vs hs:=hs.rec (some ⟨[],λ_ _ _=>bV⟩) λh r g=>yS B sc vs r g h
noncomputable def iT(sc:Bq)(vs:Vs)(x:Str):Option { i:Nat // vs.lookup x=some i/\Lb sc x=true/\EB x=true }:=if h:(Lb sc x&&EB x)=true then (Ry (vs.lookup x)).map λi=>⟨i.1,i.2,AJ.mp h⟩ else none
theorem jl{F M pz:Pos}(B:Agree env sc)(a:{ i:Nat // vs.lookup x=some i/\Lb sc x=true/\EB x=true })(b:{ i:Nat // vs.lookup y=some i/\Lb sc y=true/\EB y=true })(c:{ i:Nat // vs.lookup z=some i/\Lb sc z=true/\EB z=true }) :
  Wn K ⟨env,vs,up⟩ [.Name x F,.Name y M,.Name z pz] [AD a.1,AD b.1,AD c.1]:=
 I9 (λ_ _=>rfl) (T6 a.2.1 ((B.var x).trans a.2.2.1) a.2.2.2) (I9 (λ_ _=>rfl) (T6 b.2.1 ((B.var y).trans b.2.2.1) b.2.2.2) (I9 (λ_ _=>rfl) (T6 c.2.1 ((B.var z).trans c.2.2.1) c.2.2.2) Mp))
set_option backward.match.sparseCases true in
noncomputable def uY(B:Bg K G fa mg mb)(sc:Bq)(vs:Vs)(body:List Stmt)(b:T4 K sc vs body)(tp:Pos):(h:HP)->Option (Jw K sc vs (.Try body [h] [] [] tp))
 | .ExceptHandler (some (.Name e _)) none [.Return (some (.Compare (.Call (.Name f _) [.Name x _,.Name y _,.Name z _] [] _) [.Is] [.Constant .none _ _] _)) _] _=>
  if hg:(Ey sc e&&EB e&&Ey sc f&&EB f&&Qe f)=true then (aC (G.lookup e)).bind λk=>(rQ ((fH G).lookup f)).bind λi=>(iT sc vs x).bind λa=>(iT sc vs y).bind λb'=>(iT sc vs z).map λc=>
   ⟨jk b.1 k.1.2 (wW.e ⟨k.1.2,i.1,a.1,b'.1,c.1⟩),λenv up h=>by
    simp only[BK] at hg
    have hA:=Agree.of_eq h
    refine jf B.g rfl k.2 ((hA.glob e).trans hg.1.1.1.1) hg.1.1.1.2 (b.2 env up h) λad o w n=>?_
    have H:=B.hH (B.g.wN _ _ k.2 rfl) ad o w n
    exact iU rfl (aj H.2 H.1 i.2 (Kr hg.2) ((hA.glob f).trans hg.1.1.2) hg.1.2 (λ_ _=>rfl) (jl hA a b' c)) (bH bG)⟩ else none
 |_=>none
noncomputable def oS(B:Bg K G fa mg mb)(nx:Nat)(ff:rq K)(sc:Bq)(vs:Vs)(p:Pos)(value:Expr):(t:Expr)->Option (Jw K sc vs (.Assign [t] value p))
 | .Name y py=>(match value with
  | .ListComp elt gs csc pc=>u7 B nx ff sc vs p elt csc pc y py gs
  |value=>ug B (ff sc vs) p value y py)
 | .Subscript o i q=>vR (ff sc vs) p value o i q
 | .Attribute o m q=>wc B (ff sc vs) p value o m q
 | .Tuple es k q=>(match value with
  | .Name x r=>u3 B (ff sc vs) p (.Name x r) (.Tuple es k q) (λ_ _ _=>rfl) (λ_=>rfl)
  | .Call g as ks r=>u3 B (ff sc vs) p (.Call g as ks r) (.Tuple es k q) (λ_ _ _=>rfl) (λ_=>rfl)
  |_=>none)
 |_=>none
set_option backward.match.sparseCases true in
noncomputable def yM(B:Bg K G fa mg mb)(S:KW K G)(nx:Nat)(sc:Bq)(vs:Vs)(m:Nat)(g:(st:Stmt)->Option (Jw K sc vs st))(st:Stmt):Option (Jw K sc vs st):=match st with
  | .Expr e _=>if hl:dK e=false then (rE B S nx m sc vs e).map λa=>⟨Eh a.1.v,λenv up h=>kT (Kt hl) (a.2 env (env::up) (.of_eq h)).ok⟩ else none
  | .Return none _=>some ⟨qh,λ_ _ _=>gN⟩
  | .Return (some e) _=>(rE B S nx m sc vs e).map λa=>⟨CE a.1.v,λenv up h=>nY (a.2 env (env::up) (.of_eq h)).ok⟩
  | .Assign [t] value p=>oS B nx (rE B S nx m) sc vs p value t
  | .If test b o _=>(rE B S nx m sc vs test).bind λa=>have b':=uP g b;have o':=uP g o;some ⟨Fy a.1.t b'.1 o'.1,λenv up h=>t6 (a.2 env (env::up) (.of_eq h)).test (b'.2 env up h) (o'.2 env up h)⟩
  | .For t iter body [] _=>(tC B sc vs t).bind λp=>(uX B (rE B S nx m sc vs) t iter).bind λs=>have b:=uP g body;some ⟨Hz p.1 s.1.1 (vals s.1.2) b.1,λenv up h=>o7 rfl (s.2 env (env::up) (.of_eq h)).2 (p.2.1 env (env::up) h).1 p.2.2 (s.2 env (env::up) (.of_eq h)).1 (b.2 env up h)⟩
  | .Raise (some (.Call (.Name x _) [e] [] _)) none _=>if hg:(Ey sc x&&EB x)=true then (aC (G.lookup x)).bind λk=>(rE B S nx m sc vs e).map λa=>⟨GY k.1.1 a.1.v,λenv up h=>
    have hg:=AJ.mp hg
    c5 B.g k.2 (((Agree.of_eq h).glob x).trans hg.1) hg.2 (a.2 env (env::up) (.of_eq h)).star (a.2 env (env::up) (.of_eq h)).ok⟩ else none
  | .Try body [h] [] [] tp=>have b:=uP g body;(match uY B sc vs body b tp h with
   |some r=>some r
   |none=>(xf B sc vs [h]).map λa=>⟨dW b.1 a.1,λenv up h=>aS rfl (b.2 env up h) (a.2 env up h)⟩)
  | .Try body (h::hs) [] [] _=>(xf B sc vs (h::hs)).map λa=>have b:=uP g body;⟨dW b.1 a.1,λenv up h=>aS rfl (b.2 env up h) (a.2 env up h)⟩
  | .Pass _=>some ⟨qu,λ_ _ _=>kW⟩
  |_=>none
noncomputable def rS(B:Bg K G fa mg mb)(S:KW K G)(nx:Nat)(sc:Bq)(vs:Vs)(m n:Nat):(st:Stmt)->Option (Jw K sc vs st):=n.rec (λ_=>none) λ_=>yM B S nx sc vs m
set_option backward.match.sparseCases true in
noncomputable def yL(r:List Expr)(g:Option { ss:List Str // Vx r ss }):(e:Expr)->Option { ss:List Str // Vx (e::r) ss }
 | .Constant (.str x) _ _=>g.map λss=>⟨x::ss.1,.cons .mk ss.2⟩
 |_=>none
noncomputable def uZ(es:List Expr):Option { ss:List Str // Vx es ss }:=es.rec (some ⟨[],.nil⟩) λe r g=>yL r g e
abbrev fu(K:Ctx)(sc:Bq)(vs:Vs)(st:List Stmt):Type:={ a:List Sx // ∀env up,env.scope=sc->Wl K ⟨env,vs,env::up⟩ st a }
set_option backward.match.sparseCases true in
noncomputable def xS(B:Bg K G fa mg mb){sc:Bq}{vs:Vs}(ff:(e:Expr)->Option (Good K sc vs e)):(st:List Stmt)->Option (fu K sc vs st)
 | [.Assign [.Name y _] (.Subscript (.List cs _) ix _) _,.Return (some (.Call (.Name f _) [.BinOp (.BinOp ea .Add (.List [.Call (.Attribute (.Subscript o oi op) m mp) [.Constant (.str s) _ _,.Name y' _,ek] [] rp] _) _) .Add eb _] [] _)) _]=>
  if hq:y'=y/\m=("replace":Str) then if hg:(Ey sc f&&EB f&&Qe f&&(mp.endLine==rp.line)&&(sc.names.lookup y==some .local)&&EB y&&decide (cs.length<=1000))=true then
   (uZ cs).bind λss=>if hz:ss.1.length<=1000 then (ff ix).bind λxi=>(Ry (vs.lookup y)).bind λi=>(rQ (G.lookup f)).bind λj=>(YN s).bind λd=>(ff ea).bind λa=>(ff (.Subscript o oi op)).bind λxo=>(ff ek).bind λxk=>(ff eb).map λb=>
    ⟨[BR (.var i.1) (i0 ss.1 xi.1.v),CE (A2 j.1 [Ah .Add (Ah .Add a.1.v (CD [iG d.1 xo.1.v (AD i.1) xk.1.v])) b.1.v])],λenv up h=>by
     simp only[BK,beq_iff_eq] at hg
     have hA:=Agree.of_eq h
     obtain⟨rfl,rfl⟩:=hq
     obtain⟨d,rfl⟩:=d
     have hl:env.kindOf y'=some .local:=by show env.scope.names.lookup _=_;rw[h];exact hg.1.1.2
     exact V0 ss.2 hz (xi.2 env (env::up) hA).slice (xi.2 env (env::up) hA).ok i.2 hl λn=>kI B.g B.hC j.2 (Kr hg.1.1.1.1.2) ((hA.glob f).trans hg.1.1.1.1.1.1) hg.1.1.1.1.1.2 (λ_ _=>rfl)
      (jM (o:=.Add) (j6 (o:=.Add) (a.2 env (env::up) hA).ok (dh (λ_ _=>rfl) (lH (λ_=>rfl) (beq_iff_eq.mpr hg.1.1.1.2) (xo.2 env (env::up) hA).ok (xk.2 env (env::up) hA).star (xk.2 env (env::up) hA).ok i.2 hl hg.1.2))) (b.2 env (env::up) hA).ok)⟩ else none else none else none
 |_=>none
noncomputable def rP(B:Bg K G fa mg mb){sc:Bq}{vs:Vs}(ff:(e:Expr)->Option (Good K sc vs e))(f:(st:Stmt)->Option (Jw K sc vs st))(st:List Stmt):Option (fu K sc vs st):=st.rec none λs ss g=>(xS B ff (s::ss)).or (g.map λas=>have a:=(f s).getD rA;⟨a.1::as.1,λenv up h=>XN (a.2 env up h) (as.2 env up h)⟩)
set_option backward.match.sparseCases true in
noncomputable def yP(B:Bg K G fa mg mb){sc:Bq}{vs:Vs}(ff:(e:Expr)->Option (Good K sc vs e))(f:(st:Stmt)->Option (Jw K sc vs st)):(st:List Stmt)->Option (T4 K sc vs st)
 | .Assign [.Name x _] value _::ss=>if hl:dK value=false then if hg:sc.names.lookup x=some .local then (Ry (vs.lookup x)).bind λi=>(rP B ff f ss).bind λas=>(ff value).map λa=>⟨BR (.var i.1) a.1.v::as.1,λenv up h=>
   YA (Kt hl _ _ _) i.2 (by show env.scope.names.lookup _=_;rw[h];exact hg) (a.2 env (env::up) (.of_eq h)).ok (as.2 env up h)⟩ else none else none
 |_=>none
noncomputable def vX(B:Bg K G fa mg mb){sc:Bq}{vs:Vs}(ff:(e:Expr)->Option (Good K sc vs e))(f:(st:Stmt)->Option (Jw K sc vs st))(st:List Stmt):T4 K sc vs st:=match yP B ff f st with
 |some r=>r
 |none=>uP f st
structure si(K:Ctx)(cd:AV)(ql:Str)(params:I3)(body:List Stmt)(sc:Bq)(fn:Fn)(args:List Arg):Prop where
 params:params=⟨[],args,none,[],[],none,[]⟩
 len:fn.params=(args.map (·.arg)).length
 ok:aU sc (args.map (·.arg))
 body:∀env up,env.scope=sc->env.code=cd->env.qual=ql->lC K ⟨env,Iy (args.map (·.arg)) sc,env::up⟩ body fn.body
noncomputable def yE(B:Bg K G fa mg mb)(S:KW K G)(extra:Nat)(body:List Stmt)(sc:Bq):(params:I3)->Option { fn:Fn // ∃args,∀cd ql,si K cd ql params body sc fn args }
 | ⟨[],args,none,[],[],none,[]⟩=>
  if hc:(decide ((args.map (·.arg)).Nodup)&&(FN (args.map (·.arg)) sc).all (QY sc)&&(sc.kind==.function)&&!sc.isCoroutine&&!sc.isGenerator)=true then
   have b:=vX B (rE B S (FN (args.map (·.arg)) sc).length 40 sc (Iy (args.map (·.arg)) sc)) (rS B S (FN (args.map (·.arg)) sc).length sc (Iy (args.map (·.arg)) sc) 40 20) body
   some ⟨⟨(args.map (·.arg)).length,(FN (args.map (·.arg)) sc).length+extra,b.1⟩,args,by
    simp only[BK,decide_eq_true_eq,CB,BF,beq_iff_eq] at hc
    exact λ_ _=>⟨rfl,rfl,⟨hc.1.1.1.1,hc.1.1.1.2,hc.1.1.2,hc.1.2,hc.2⟩,λenv up h _ _=>(b.2 env up h).f⟩⟩
  else none
 |_=>none
end
end Mine.Internal
namespace Mine.Internal
open PySem PySem.Calls PyProof.Rows PySem.W
set_option maxRecDepth 100000
noncomputable def QZ(rs:List (List Int))(i j:Nat):Bool:=D6 (rs.getD i []) (rs.getD j [])
theorem Py(rs:List (List Int)):JB (QZ rs) where
 wH:=λi=>dC _
 uV:=λi j=>Of _ _
 neg:=λi j k=>cO _ _ _
theorem HE.x6(h:HE rs):rs.length<64\/(rs.length<128/\∃d,d<=rs.length/\UU (QZ rs) d rs.length):=h.imp id λh=>FH h λh d M q=>⟨h,d,M,λi j hd B F=>by
  have:=q i j B F
  rwa [if_pos hd,if_pos hd] at this,λi j hd B F=>by
  have:=q i j B F
  rwa [if_neg (Dj.mpr hd),if_neg (Dj.mpr hd)] at this⟩
theorem pZ{prog:DU}{w:IW}{A:Bb}{E:AV->Aj->Prop}{s:Aj}{M:SortKind}{ks vs:List AV}{rs:List (List Int)}(Z:ks.length=vs.length)(hr:rs.length=vs.length)(h2:2<=vs.length)(tr:HE rs)(hc:∀i j (C:Bool->Aj->Prop),i<vs.length->j<vs.length->C (QZ rs i j) s->kas_ask prog w A M ks i j C s) :
  Am (Cz prog w) A ((sortRuns').run (Fh M (ks.toArray.zip vs.toArray) #[] 7 none)) (λr s'=>s'=s/\∃p:Array Nat,Cd r.2=p.map (CY (ks.toArray.zip vs.toArray))/\Gb r.2=none/\p.toList.Perm (Ar vs.length)/\p.toList.Pairwise (Bf (QZ rs))) E s:=by
 by_cases F:vs.length<64
 .exact kat_run (Q:=λB s'=>s'=s/\∃p:Array Nat,Cd B=p.map (CY (ks.toArray.zip vs.toArray))/\Gb B=none/\p.toList.Perm (Ar vs.length)/\p.toList.Pairwise (Bf (QZ rs))) (G:=λp s'=>s'=s/\p.toList.Perm (Ar vs.length)/\p.toList.Pairwise (Bf (QZ rs)))
   Z h2 F (λp B s' _ a2 a3 a4=>⟨a4.1,p,a2,a3,a4.2.1,a4.2.2⟩) (Zs (lt:=QZ rs) hc (λp hp=>⟨rfl,hp.1,hp.2⟩) (Zm (Py rs) (Iu h2)))
 .obtain⟨h128,d,hd,T⟩:=tr.x6.resolve_left (hr▸F)
  rw[kat_ask_eq Z] at hc
  rw[hr] at h128 hd T
  have e:=kas_range (ks.toArray.zip vs.toArray)
  rw[show (ks.toArray.zip vs.toArray).size=vs.length by simp[Z]] at e
  have est:Fh M (ks.toArray.zip vs.toArray) #[] 7 none=Nm M (ks.toArray.zip vs.toArray) (B8 (Ar vs.length)):=by
   show _=Fh M ((B8 (Ar vs.length)).map (CY (ks.toArray.zip vs.toArray))) #[] 7 none
   rw[e]
  rw[est]
  exact mB (E:=E) (Q:=λ_ B=>∃p:Array Nat,Cd B=p.map (CY (ks.toArray.zip vs.toArray))/\Gb B=none/\p.toList.Perm (Ar vs.length)/\p.toList.Pairwise (Bf (QZ rs))) (Py rs) T hd (B1.mp F) h128 hc λp B a b c d=>⟨p,a,b,c,d⟩
section
variable {prog:DU} {w:IW} {A:Bb} {E:AV->Aj->Prop} {s:Aj}
theorem gG{fin:Bool}(a b:List Int)(vs us:List AV)(i:Nat)(M:JN vs a)(B:JN us b)(F:fin=decide (vs.length<us.length))(q:Q (D6 a b) s):KatLex prog w A true fin Q (vs.zip us) i s:=by
 induction M generalizing b us i with
 |nil=>
  refine kat_nil ?_
  subst F
  cases B with
  |nil=>exact q
  |cons y u B=>exact q
 |cons x t M Z=>
  cases B with
  |nil=>
   refine kat_nil ?_
   subst F
   exact q
  |cons y u B=>
   rw[H3]
   refine kat_cons (wpAny_eqBool_int ?_)
   replace q:Q (if x=y then D6 _ _ else decide (x<y)) s:=q
   by_cases e:x=y
   .rw[if_pos e] at q
    rw[show (x==y)=true from beq_iff_eq.mpr e]
    exact kat_yes (Z _ _ (i+1) B (F.trans (decide_eq_decide.mpr eX)) q)
   .rw[if_neg e] at q
    rw[show (x==y)=false from beq_eq_false_iff_ne.mpr e]
    refine kat_no ?_
    cases i with
    |zero=>exact oneLt_int q
    |succ i=>exact kat_one _ _ (Lf q)
abbrev qo(h:Heap)(v:AV)(r:List Int):Prop:=∃a items n,v=.ref a/\h.get? a=some { cls:=.type "tuple", data:=.seq items n }/\JN items.toList r
abbrev GN(h:Heap):=WL (qo h)
theorem GN.len(x:GN h vs rs):vs.length=rs.length:=by
 induction x with
 |nil=>rfl
 |cons _ _ B=>exact congrArg (·+1) B
theorem GN.keeps(k:∀b o,o.cls=.type "tuple"->h.get? b=some o->h'.get? b=some o)(x:GN h vs rs):GN h' vs rs:=by
 induction x with
 |nil=>exact .nil
 |cons r _ F=>exact .cons (CW r λa B n e g i=>⟨a,B,n,e,k a _ rfl g,i⟩) F
theorem GN.at'(x:GN h vs rs):∀{i:Nat},i<vs.length->qo h (vs.getD i .none) (rs.getD i []):=by
 induction x with
 |nil=>exact λhi=>absurd hi (Dv _)
 |cons r _ B=>intro i hi;cases i with
  |zero=>exact r
  |succ i=>exact B (Ir hi)
theorem GN.wO(x:GN h vs rs):(∀r∈rs,r≠[])->∃B,KatTups h vs B/\B.length=vs.length/\∀v∈B,∃i t,v=VE i t:=by
 induction x with
 |nil=>exact λ_=>⟨[],trivial,rfl,λv Z=>absurd Z BU⟩
 |cons x _ ih=>
  intro F
  refine DX (ih λr hr=>F r (Ad _ hr)) λB t hl Z=>?_
  refine CW x λa it n e g hi=>?_
  subst e
  generalize hL:it.toList=L at hi
  cases hi with
  |nil=>exact absurd rfl (F _ AL)
  |cons i tk M=>exact⟨.int i tk::B,KatTups.cons g rfl rfl (by rw[<- BA,hL];rfl) t,congrArg (·+1) hl,λv hv'=>(Ao.mp hv').elim (λe=>⟨_,_,e⟩) (Z v)⟩
theorem TP:Looks M h (typeOf (.int i t)) (.type "int"):=λA Q E s _ q=>SI (typeIs_int s i t) q
theorem dB(ho:s.heap.get? a=some (Bm "list" vs.toArray n))(hr:GN s.heap vs rs)(hne:∀r∈rs,r≠[])(h64:vs.length<64)(h:∀p:List Nat,p.Perm (Ar vs.length)->p.Pairwise (LZ rs)->P (.done (.ret .none)) { s with heap:=ZV s.heap a vs (p.map λi=>vs.getD i Ba).toArray }) :
  Am (Cz prog w) A (Nk.«list.sort» ⟨[.ref a],[]⟩) P E s:=by
 rw[list_sort_plain]
 have hsl:vs.length<=HL:=by rw[F8];exact Ec .le .v0 (.n 16777216) (.t .v0 (.n 64) .e) rfl h64
 refine AB (mi ho rfl ?_)
 refine AB (IX ho rfl ?_ (by rw[CT];exact hsl) (BM _))
 obtain⟨e1,ho1⟩:∃e1,(s.heap.update a (Bh λ_=>(#[]:Array AV))).get? a=some (Bm "list" #[] e1):=⟨_,E8 ho λ_=>#[]⟩
 refine AB (PK ho1 rfl ?_)
 refine AB (ZT ?_ (by exact hsl))
 refine AB (MW ?_ (BM _))
 refine Bt ?_
 have B:(((s.heap.update a (Bh λ_=>(#[]:Array AV))).push (Bm "tuple" vs.toArray 0)).push (Bm "list" #[] 0)).get? a=some (Bm "list" #[] e1):=AN _ (AN _ ho1)
 have hr6:GN (((s.heap.update a (Bh λ_=>(#[]:Array AV))).push (Bm "tuple" vs.toArray 0)).push (Bm "list" #[] 0)) vs rs:=hr.keeps λb o hc e=>by
  refine AN _ (AN _ ?_)
  refine(CN _ _ _ _ λhb=>?_).trans e
  rw[hb,ho] at e;have zq:=AG e;subst zq;exact absurd hc (by simp[Bm])
 refine(?_:Am (Cz prog w) A _ P E { s with heap:=((s.heap.update a (Bh λ_=>(#[]:Array AV))).push (Bm "tuple" vs.toArray 0)).push (Bm "list" #[] 0) })
 dsimp only
 have M:(Ar vs.length).map (λi=>vs.getD i Ba)=vs:=by
  apply Eo
  intro i
  rw[As]
  by_cases hi:i<vs.length
  .simp[hi]
  .simp[hi]
 by_cases h2:vs.toArray.size<2
 .rw[if_pos h2,if_pos h2]
  refine AB (AS ?_)
  rw[mj]
  refine AB (AS ?_)
  dsimp only
  refine AB (PK B rfl ?_)
  refine AB (IX B rfl ?_ (BM _) (by rw[Array.size_map];show (pairsOf vs).size<=_;rw[pairsOf_size,F8];exact Ec .le .v0 (.a (.n 16777216) .n1) (.t .v0 (.n 64) .e) rfl h64))
  simp only[bne_self_eq_false,Kd,if_false]
  refine AS ?_
  have e:(Cd (Fh general' (vs.toArray.zip vs.toArray) #[] 7 none)).map (·.2)=((Ar vs.length).map λi=>vs.getD i Ba).toArray:=by
   rw[M]
   show (vs.toArray.zip vs.toArray).map (·.2)=vs.toArray
   apply Pu.mp
   simp[List.map_snd_zip]
  have hp:=h (Ar vs.length) (ET _) ?_
  .rw[<- e] at hp;exact hp
  .have hlt:vs.length<2:=by simpa using h2
   exact Dh.mpr λi j _ hj hij=>(Dv i (Ac hij (Fj (Ac (BV (n:=vs.length)▸hj) (Fj hlt))))).elim
 .rw[if_neg h2,if_neg h2]
  have h2':2<=vs.length:=by simp only[CT] at h2;exact Ec .le .n2 .v0 (.o .v0 .n2 .e) rfl h2
  refine DX (hr6.wO hne) λfs tup rC hfi=>?_
  refine AB (kat_kind tup (by exact Dy .lt .n0 .v0 (.l .n2 .v1 (.p .v0 .v1 .e)) rfl h2' rC) (T:=.type "int") (λv hv=>by refine FR (hfi v hv) λi t ze1=>?_;subst ze1;exact TP) rfl ?_)
  refine AB (Ax (kat_run (Q:=λF s'=>s'={ s with heap:=((s.heap.update a (Bh λ_=>(#[]:Array AV))).push (Bm "tuple" vs.toArray 0)).push (Bm "list" #[] 0) }/\∃p:Array Nat,Cd F=p.map (CY (vs.toArray.zip vs.toArray))/\Gb F=none/\p.toList.Perm (Ar vs.length)/\p.toList.Pairwise (Bf (QZ rs)))
   (G:=λp s'=>s'={ s with heap:=((s.heap.update a (Bh λ_=>(#[]:Array AV))).push (Bm "tuple" vs.toArray 0)).push (Bm "list" #[] 0) }/\p.toList.Perm (Ar vs.length)/\p.toList.Pairwise (Bf (QZ rs)))
   rfl h2' h64 (λp F s' _ a2 a3 a4=>⟨a4.1,p,a2,a3,a4.2.1,a4.2.2⟩) (Zs (lt:=QZ rs) (λi j C hi hj hC=>?_) (λp hp=>⟨rfl,hp.1,hp.2⟩) (Zm (Py rs) (by exact Ec .le .n1 .v0 (.l .n2 .v0 .e) rfl h2')))) ?_ λ_ _ e=>e)
  .refine CW (hr6.at' hi) λx ix nx ex gx hx=>?_
   refine CW (hr6.at' hj) λy iy ny ey gy hy=>?_
   show Am _ _ (keyLt' _ (vs.getD i Ba) (vs.getD j Ba)) _ _ _
   rw[ex,ey]
   refine kat_lt (b:=true) gx rfl gy rfl (gG _ _ _ _ 0 hx hy (by simp) hC)
  .rintro ⟨⟨⟩,F⟩ s' ⟨rfl,p,har,hf,hp1,hp2⟩
   have Z:=kat_snds (ks:=vs) rfl har
   have hsz:(B8 (p.toList.map λi=>vs.getD i Ba)).size=vs.length:=by rw[CT,AA,hp1.length_eq,BV]
   refine AB (PK B rfl ?_)
   refine AB (IX B rfl ?_ (BM _) (by rw[Z];exact AF (CK hsz) (Fm hsl)))
   rw[hf]
   simp only[bne_self_eq_false,Kd,if_false]
   rw[Z]
   exact AS (h p.toList hp1 hp2)
end
end Mine.Internal
namespace Mine.Internal
open PySem PySem.Calls PyProof.Rows PySem.W
set_option maxRecDepth 100000
theorem Ou(x:JN vs xs):CF h F (xs.map V.int) vs:=by
 induction x with
 |nil=>exact .nil
 |cons n t _ B=>exact⟨⟨t,rfl⟩,B⟩
theorem UZ:∀{vs:List AV},CF h F (ns.map .int) vs->JN vs ns:=by
 induction ns with
 |nil=>intro vs r;cases vs with
  |nil=>exact .nil
  |cons _ _=>exact r.elim
 |cons n ns B=>intro vs r;cases vs with
  |nil=>exact r.elim
  |cons v vs=>exact r.1.elim λt e=>e▸.cons n t (B r.2)
theorem ar:∀{vs:List AV},CF h Z (rs.map λr=>.tup (r.map .int)) vs->GN h vs rs:=by
 induction rs with
 |nil=>intro vs r;cases vs with
  |nil=>exact .nil
  |cons _ _=>exact r.elim
 |cons _ rs F=>intro vs r;cases vs with
  |nil=>exact r.elim
  |cons v vs=>exact .cons (CW r.1 λx B n e g M=>⟨x,B,n,e,g,UZ M⟩) (F r.2)
theorem TK{Vs:List V}(r:CF h B Vs vs)(p:List Nat):(∀i∈p,i<Vs.length)->CF h B (p.map λi=>Vs.getD i .none) (p.map λi=>vs.getD i Ba):=by
 induction p with
 |nil=>exact λ_=>.nil
 |cons i p F=>
  intro hp
  refine⟨?_,F λj Z=>hp j (Ad _ Z)⟩
  have hi:=hp i AL
  refine AW (r.get (AO hi)) λv e M=>?_
  refine(?_:Rel h B (Vs.getD i V.none) (vs.getD i Ba))
  rw[Ay,Ay,e,AO hi]
  exact M
theorem PV.listIn{K:Ctx}{c:Cf K.h₀}{Q:BS}{Vs:List V}{items:Array AV}{a:Addr}{h':Heap}{s':Aj}{n:Nat}(r:CF c.s.heap c.φ Vs items.toList)(F:Vs.length<=Ih)(B:c.s.heap.get? a=none)(k:∀b ob,c.s.heap.get? b=some ob->h'.get? b=some ob)(e:h'.get? a=some { cls:=.type "list", data:=.seq items n })(only:s'.os=c.s.os/\s'.gens=c.s.gens)(q:Q (.ref c.σ.length) (c.σ++[.list Vs])):PV c Q (.ref a) { s' with heap:=h' }:=
 PV.mk ⟨{ s' with heap:=h' },c.φ++[a],c.σ++[.list Vs],(c.keep { s' with heap:=h' } k).sim.add (o:=.list Vs) (c.sim.out B) (c.sim.DL B) ⟨items,n,e,CF.keep (gF k) (A5 _) _ _ r,F⟩⟩ (.ref c.σ.length)
  ⟨⟨only,CU _ _,λb o _ _ e=>⟨o,k b o e,.refl o⟩,λ_ m=>(He m).imp id λe=>(congrArg c.s.heap.get? e).trans B⟩,λb o e=>⟨o,k b o e⟩⟩ ⟨a,rfl,by rw[<- c.sim.len];exact Co⟩ q
section
variable {prog:DU} {w:IW} {s:Aj} {A:Bb} {E:AV->Aj->Prop}
theorem LY:h.get? (h.objs.size+1)=none/\(∃c,(fZ h vs out).get? (h.objs.size+1)=some { cls:=.type "list", data:=.seq out c })/\∀b o,h.get? b=some o->(fZ h vs out).get? b=some o:=by
 have hsz:((h.push (Bm "list" #[] 0)).update h.objs.size (Bh (·++vs.toArray))).objs.size=h.objs.size+1:=by rw[QH,size_push']
 have Z:(((h.push (Bm "list" #[] 0)).update h.objs.size (Bh (·++vs.toArray))).push (Bm "list" vs.toArray 0)).get? (h.objs.size+1)=some (Bm "list" vs.toArray 0):=by rw[<- hsz];exact Aw _ rfl
 obtain⟨c1,g1⟩:∃c1,((((h.push (Bm "list" #[] 0)).update h.objs.size (Bh (·++vs.toArray))).push (Bm "list" vs.toArray 0)).update (h.objs.size+1) (Bh λ_=>(#[]:Array AV))).get? (h.objs.size+1)=some (Bm "list" #[] c1):=⟨_,E8 Z λ_=>#[]⟩
 have g2:=AN (Bm "list" #[] 0) (AN (Bm "tuple" vs.toArray 0) g1)
 refine⟨bc (Cx _),⟨_,E8 g2 λ_=>out⟩,λb o e=>?_⟩
 have B:b<h.objs.size:=B7 e
 have M:b≠h.objs.size:=Bo B
 have F:b≠h.objs.size+1:=Bo (ED B)
 unfold fZ ZV
 rw[CN _ _ _ _ F]
 refine AN _ (AN _ ?_)
 rw[CN _ _ _ _ F]
 refine AN _ ?_
 rw[CN _ _ _ _ M]
 exact AN _ e
theorem Vi(hl:s.heap.IsList l vs.toArray)(hr:GN s.heap vs rs)(M:∀r∈rs,r≠[])(B:vs.length<64)(h:∀p:List Nat,p.Perm (Ar vs.length)->p.Pairwise (LZ rs)->P (.ref (s.heap.objs.size+1)) { s with heap:=fZ s.heap vs (p.map λi=>vs.getD i Ba).toArray }) :
  Am (Cz prog w) A (call (.builtin "sorted") [.ref l]) P E s:=by
 refine Ta kind_sorted mY mZ (args_sorted1 _) ?_
 refine AB (m:=checkCount "sorted" 1 1 _) (AS ?_)
 refine AB (collect_list hl ?_ (by rw[F8];exact Ec .le .v0 (.n 16777216) (.t .v0 (.n 64) .e) rfl B))
 refine AB (MW ?_ (by rw[F8];exact Ec .le .v0 (.n 16777216) (.t .v0 (.n 64) .e) rfl B))
 have hsz:((s.heap.push (Bm "list" #[] 0)).update s.heap.objs.size (Bh (·++vs.toArray))).objs.size=s.heap.objs.size+1:=by
  rw[QH,size_push']
 have F:(((s.heap.push (Bm "list" #[] 0)).update s.heap.objs.size (Bh (·++vs.toArray))).push (Bm "list" vs.toArray 0)).get? (s.heap.objs.size+1)=some (Bm "list" vs.toArray 0):=by
  rw[<- hsz];exact Aw _ rfl
 have Z:GN (((s.heap.push (Bm "list" #[] 0)).update s.heap.objs.size (Bh (·++vs.toArray))).push (Bm "list" vs.toArray 0)) vs rs:=hr.keeps λb o _ e=>by
  refine AN _ ?_
  rw[CN _ _ _ _ (Bo (B7 e))]
  exact AN _ e
 rw[hsz]
 refine AB (Bt (Ck (s:={ s with heap:=((s.heap.push (Bm "list" #[] 0)).update s.heap.objs.size (Bh (·++vs.toArray))).push (Bm "list" vs.toArray 0) }) ZU ⟨_,F,rfl⟩ Wu
  (dB (s:={ s with heap:=((s.heap.push (Bm "list" #[] 0)).update s.heap.objs.size (Bh (·++vs.toArray))).push (Bm "list" vs.toArray 0) }) F Z M B λp a1 a2=>⟨_,rfl,?_⟩) (args_list_sort _)))
 exact AS ⟨_,rfl,h p a1 a2⟩
end
section
variable {K:Ctx} {L:Loc} {G:PW} {fa:Nat->Addr} {mg mb:Str->Option AV}
theorem dQ{A:Bb}{E:AV->Aj->Prop}{c:Cf K.h₀}{Q:BS}{V:V}{v:AV}(r:Rel c.s.heap c.φ V v)(q:MA c.σ Q false V):Am K.M A (call (.builtin "sorted") [v]) (PV c Q) E c.s:=by
 cases q with
 | @«ints» n ns en hl q=>
  apply Cf.listE en r;intro a items k _ g Z z
  have gl:c.s.heap.IsList a items.toList.toArray:=by rw[HN];exact g.isList
  have hi:=UZ Z
  refine sorted_ints gl hi (by rw[RV hi];exact hl) λout ns' a1 a2 a3=>?_
  refine FD (LY (h:=c.s.heap) (vs:=items.toList) (out:=out)) λf1 F f3=>Cq F λ_ f2=>?_
  exact PV.listIn (s':=c.s) (Ou a1) (by rw[AA,a2.length_eq,<- AA (f:=V.int)];exact z) f1 f3 f2 ⟨rfl,rfl⟩ (q ns' a2 a3)
 | @rows n rs en hl hne q=>
  apply Cf.listE en r;intro a items k _ g Z z
  have gl:c.s.heap.IsList a items.toList.toArray:=by rw[HN];exact g.isList
  have hsz:items.toList.length=rs.length:=by rw[<- Z.length,AA]
  refine Vi gl (ar Z) hne (by rw[hsz];exact hl) λp a1 a2=>?_
  refine FD (LY (h:=c.s.heap) (vs:=items.toList) (out:=(p.map λi=>items.toList.getD i Ba).toArray)) λf1 F f3=>Cq F λ_ f2=>?_
  rw[hsz] at a1
  have hin:∀i∈p,i<rs.length:=λi hi=>Dl.mp (a1.mem_iff.mp hi)
  have hts:(p.map λi=>rs.getD i []).map (λr=>V.tup (r.map V.int))=p.map λi=>(rs.map λr=>V.tup (r.map V.int)).getD i .none:=by
   rw[BW]
   refine CZ λi hi=>?_
   rw[Function.comp_apply,Ay,Ay,As,AO (hin i hi)];rfl
  have B:(p.map λi=>rs.getD i []).Perm rs:=by
   refine(a1.map λi=>rs.getD i []).trans (K7 ?_)
   apply List.ext_getElem (by rw[AA,BV])
   intro i h1 h2
   rw[Ld,OT,Ay,AO h2];rfl
  refine PV.listIn (s':=c.s) (Vs:=(p.map λi=>rs.getD i []).map λr=>V.tup (r.map V.int)) ?_ ?_ f1 f3 f2 ⟨rfl,rfl⟩ (q _ B ?_)
  .rw[hts];exact TK Z p λi hi=>by rw[AA];exact hin i hi
  .rw[AA,B.length_eq,<- AA (f:=λr:List Int=>V.tup (r.map V.int))];exact z
  .rw[Ia]
   exact a2.imp λ{i j} hb=>Bf.no (Py rs) (i:=i) (j:=j) hb
theorem T1{A:Bb}{E:AV->Aj->Prop}{c:Cf K.h₀}{Q:BS}{ns:List Int}{D:Addr}{ks:List Int}(hh:A.handled=none)(R:Lj K.prog K.w c.s.heap D (NB K.w) ks)(F:ks.length<64)(hm:∀x,x∈ks↔x∈ns)(q:∀B:List Int,B.Pairwise (·<·)->(∀x,x∈B↔x∈ns)->Q (.ref c.σ.length) (c.σ++[.list (B.map .int)])):Am K.M A (call (.builtin "sorted") [.ref D]) (PV c Q) E c.s:=by
 have Z:ks.Nodup:=by refine Cq R λ_ zh=>GI zh λ_ _ _ _ _ _ _ _ h _=>?_;exact h
 refine YI hh R F λD' out B h' s' n a1 a2 a3 f1 f2 f3 ho hg=>?_
 refine PV.listIn (Ou a1) (by rw[AA,a2.length_eq];exact AF (A4 F) (by decide)) f1 f3 f2 ⟨ho,hg⟩ (q B ?_ λx=>(a2.mem_iff).trans (hm x))
 have hn:B.Nodup:=a2.nodup_iff.mpr Z
 exact(a3.and hn).imp λ{x y} h=>Int.lt_iff_le_and_ne.mpr h
def tX(P:V->Af->Prop):List V->Af->Prop
 | [v],σ=>P v σ
 |_,_=>False
theorem WO:∀{vs:List V},tX P vs σ->∃v,vs=[v]/\P v σ
 | [v],h=>⟨v,rfl,h⟩
variable (K) in
inductive qa(c:Cf K.h₀)(Q:BS):AV->Aj->Prop
 |mk (c₁:Cf K.h₀) (D:Addr) (ks ns:List Int):Di Bv c c₁->Lj K.prog K.w c₁.s.heap D (NB K.w) ks->ks.length<64->(∀x,x∈ks↔x∈ns)->(∀ms:List Int,ms.Pairwise (·<·)->(∀x,x∈ms↔x∈ns)->Q (.ref c₁.σ.length) (c₁.σ++[.list (ms.map .int)]))->qa c Q (.ref D) c₁.s
theorem Z6(g:NC K G fa mg mb):KW K G where
 one {L e a pf pos} hf hn he:=λA c ρ Q X R F q=>by
  rw[II]
  refine AB (Gv g F hf (by decide) boot_sorted (L9 (.inr ⟨_,rfl⟩) R hn (GJ hn G1) (I9 hn he Mp) F (Q:=tX λv σ=>MA σ Q false v) q λc₁ Vs vals B r y=>?_))
  refine AW (WO y) λV Z y=>?_;subst Z
  refine AW r.one λv Z r'=>?_;subst Z
  exact fin B (dQ r' y)
 set {L e a pf pf' pos pos'} hf hf' hn he:=λA c ρ Q X R F q=>by
  rw[II]
  have hns:EL (.Call (.Name ("set":Str) pf') [e] [] pos'):=λ_ _=>rfl
  refine AB (Gv g F hf (by decide) boot_sorted (FV (GJ hns G1 L.env pos) ?_))
  have inner:Am K.M A (eval (.Call (.Name ("set":Str) pf') [e] [] pos') L.env) (qa K c Q) (PX c X) c.s:=by
   rw[II]
   refine AB (Gv g F hf' (by decide) boot_set (L9 (.inl ⟨_,rfl⟩) R hn (GJ hn G1) (I9 hn he Mp) F (Q:=tX λv σ=>MA σ Q true v) q λc₁ Vs vals B r y=>?_))
   refine AW (WO y) λV Z y=>?_;subst Z
   refine AW r.one λv Z r'=>?_;subst Z
   cases y with
   | @set n ns en hl y'=>
    apply Cf.listE en r';intro l items k _ gl rr z
    have hsz:items.size=ns.length:=by rw[<- A1,<- rr.length,AA]
    refine iR (R.pl (g.pl _ (by decide) (DF.mp (AJ.mp hf').2))) gl.isList (UZ rr) (by rw[hsz];exact Ac (D4 hl) (by decide)) λh' tk ks hS hm hkl kk=>?_
    exact .mk (c₁.keep { c₁.s with heap:=h',toks:=tk } λb o e=>kk b o (B7 e) e) _ ks ns (B.trans (Cf.Cj ⟨rfl,rfl⟩)) hS (Al (hsz▸hkl) hl) hm y'
  have hl':Am K.M A (m7 (IS pos (Ef [.Call (.Name ("set":Str) pf') [e] [] pos'] L.env))) (λvals B=>Am K.M A (call (.builtin "sorted") ([]++vals) []) (PV c Q) (PX c X) B) (PX c X) c.s:=
   El (Ax inner (λx B y=>y.casesOn λc₁ D ks ns B hS hkl hm y=>HM (fin B (T1 (R.pl (g.pl _ (by decide) (DF.mp (AJ.mp hf').2))) hS hkl hm y))) λ_ _ e=>e) (hns [] L.env)
  rw[hns [] L.env] at hl' ⊢
  exact Ez hl'
end
end Mine.Internal
namespace Mine.Internal
open PySem PySem.Calls PyProof.Rows PySem.W
set_option maxRecDepth 100000
set_option genSizeOf false
set_option genInjectivity false
theorem YW(vs:List AV):(Ar vs.length).map (λi=>vs.getD i Ba)=vs:=by
 apply Eo
 intro i
 rw[As]
 by_cases hi:i<vs.length
 .simp[hi]
 .simp[hi]
section
variable {prog:DU} {w:IW} {A:Bb} {E:AV->Aj->Prop} {s:Aj}
theorem qE{a kS:Addr}{vs kvs:List AV}{rs:List (List Int)}{e e1:Nat}{P:PySem.Fin->Aj->Prop}(hkS:s.heap.get? kS=some (Bm "list" kvs.toArray e))(ha:s.heap.get? a=some (Bm "list" #[] e1))(hne:a≠kS)(Z:kvs.length=vs.length)(hr:GN s.heap kvs rs)(hnr:∀r∈rs,r≠[])(tr:HE rs)(h64:vs.length<128)(h:∀p:List Nat,p.Perm (Ar vs.length)->p.Pairwise (LZ rs)->∀h' c,h'.get? a=some (Bm "list" (p.map λi=>vs.getD i Ba).toArray c)->(∀b o,b≠a->b≠kS->s.heap.get? b=some o->h'.get? b=some o)->(∃o,h'.get? kS=some o)->P (.done (.ret .none)) { s with heap:=h' }) :
  Am (Cz prog w) A (ksk_end a false vs.toArray e1 (.ref kS) kvs.toArray) P E s:=by
 have M:∀(st:BN) (p:List Nat),(Cd st).map (·.2)=(p.map λi=>vs.getD i Ba).toArray->Gb st=none->p.Perm (Ar vs.length)->p.Pairwise (LZ rs)->Am (Cz prog w) A (ksk_tail a false e1 (.ref kS) st) P E s:=λst p hout hf B hp2=>by
  unfold ksk_tail
  dsimp only
  refine hout.symm▸?_
  have hsz:(p.map λi=>vs.getD i Ba).toArray.size=vs.length:=by rw[CT,AA,B.length_eq,BV]
  obtain⟨ck,hck⟩:∃ck,(s.heap.update kS (Bh λ_=>(#[]:Array AV))).get? kS=some (Bm "list" #[] ck):=⟨_,E8 hkS λ_=>#[]⟩
  have ha1:(s.heap.update kS (Bh λ_=>(#[]:Array AV))).get? a=some (Bm "list" #[] e1):=(CN _ _ _ _ hne).trans ha
  obtain⟨c2,hc2⟩:∃c2,((s.heap.update kS (Bh λ_=>(#[]:Array AV))).update a (Bh λ_=>(p.map λi=>vs.getD i Ba).toArray)).get? a=some (Bm "list" (p.map λi=>vs.getD i Ba).toArray c2):=⟨_,E8 ha1 λ_=>(p.map λi=>vs.getD i Ba).toArray⟩
  refine AB (IX hkS rfl ?_ (by rw[CT,F8];exact Dy .le .v0 (.n 16777216) (.q .v0 .v1 (.t .v1 (.n 128) .e)) rfl Z h64) (BM _))
  refine AB (wpAny_letGo ?_)
  refine AB (PK ha1 rfl ?_)
  refine AB (IX ha1 rfl ?_ (BM _) (AF (CK hsz) (by rw[F8];exact Ec .le .v0 (.a (.n 16777216) .n1) (.t .v0 (.n 128) .e) rfl h64)))
  rw[hf]
  simp only[bne_self_eq_false,Kd,if_false]
  refine AS (h p B hp2 _ c2 hc2 (λb o h1 F eb=>?_) ⟨_,(CN _ _ _ _ (HJ hne)).trans hck⟩)
  exact(CN _ _ _ _ h1).trans ((CN _ _ _ _ F).trans eb)
 unfold ksk_end
 dsimp only
 simp only[Kd,if_false]
 by_cases F:vs.toArray.size<2
 .rw[if_pos F,if_pos F]
  refine AB (AS ?_)
  rw[mj]
  refine AB (AS ?_)
  dsimp only
  refine M _ (Ar vs.length) ?_ rfl (ET _) ?_
  .rw[YW]
   show (kvs.toArray.zip vs.toArray).map (·.2)=vs.toArray
   apply Pu.mp
   simp[List.map_snd_zip,Z]
  .have hlt:vs.length<2:=by simpa using F
   match hv:vs.length,hlt with
   | 0,_=>simp
   | 1,_=>simp
 .rw[if_neg F,if_neg F]
  have h2':2<=vs.length:=by simp only[CT] at F;exact Ec .le .n2 .v0 (.o .v0 .n2 .e) rfl F
  refine DX (hr.wO hnr) λfs tup rC hfi=>?_
  refine AB (kat_kind tup (by exact HW .lt .n0 .v0 (.l .n2 .v1 (.p .v2 .v1 (.p .v0 .v2 .e))) rfl h2' Z rC) (T:=.type "int") (λv hv=>by refine FR (hfi v hv) λi t ze1=>?_;subst ze1;exact TP) rfl ?_)
  refine AB (Ax (pZ (ks:=kvs) (vs:=vs) (rs:=rs) Z (hr.len.symm.trans Z) h2' tr λi j C hi hj hC=>?_) ?_ λ_ _ e=>e)
  .refine CW (hr.at' (i:=i) (by exact HW .lt .v0 .v1 (.t .v0 .v2 (.p .v1 .v2 .e)) rfl hi Z)) λx ix nx ex gx hx=>?_
   refine CW (hr.at' (i:=j) (by exact HW .lt .v0 .v1 (.t .v0 .v2 (.p .v1 .v2 .e)) rfl hj Z)) λy iy ny ey gy hy=>?_
   show Am _ _ (keyLt' _ (kvs.getD i Ba) (kvs.getD j Ba)) _ _ _
   rw[ex,ey]
   exact kat_lt (b:=true) gx rfl gy rfl (gG _ _ _ _ 0 hx hy (by simp) hC)
  .rintro ⟨⟨⟩,st'⟩ s' ⟨rfl,p,har,hf,B,hp2⟩
   exact M st' p.toList (kat_snds (ks:=kvs) Z har) hf B hp2
end
def Ve{h₀:Bs}(c:Cf h₀)(φ₀:List Addr)(kS:Addr)(objs:List (Addr×Obj)):Prop:=φ₀<+:c.φ/\∀p∈objs,c.s.heap.get? p.1=some p.2/\p.1∉c.φ/\p.1≠kS/\∀es ep,p.2.data≠.dict es ep
section
variable {K:Ctx} {L:Loc} {A:Bb}
theorem Ve.step(x:Ve c φ0 kS objs)(st:Ho own c c')(ho:∀b,own b->b=kS):Ve c' φ0 kS objs:=⟨x.1.trans st.pre,λp hp=>
 Gx (x.2 p hp) λB M F Z=>
 ⟨st.PZ M (λm=>F (ho _ m)) Z B,st.out B M,F,Z⟩⟩
theorem j5{turn:V->Af->BS->Prop}(h0:K.h₀.get? kS=none)(hkey:∀(c:Cf K.h₀) (V:V) (v:AV) (R:BS),Fr c L ρ->Ve c φ₀ kS objs->Rel c.s.heap c.φ V v->turn V c.σ R->Am K.M A (call f [v]) (PV c R) NX c.s)(hb:∀x (s:Aj) (Q':ForInStep PUnit->Aj->Prop),Am K.M A (call f [x]) (λk s'=>∃kvs e,s'.heap.get? kS=some (Bm "list" kvs.toArray e)/\kvs.length<128/\
   ∀c,(s'.heap.update kS (Bh (·.push k))).get? kS=some (Bm "list" (kvs++[k]).toArray c)->Q' (.yield ⟨⟩) { s' with heap:=s'.heap.update kS (Bh (·.push k)) }) NX s->Am K.M A (body x ⟨⟩) Q' E s) :
  ∀(vs:List AV) (Vs:List V) (c:Cf K.h₀) (acc:List V),Fr c L ρ->Ve c φ₀ kS objs->AccAt c kS acc->acc.length+vs.length<128->CF c.s.heap c.φ Vs vs->SX turn Vs acc c.σ Qk->
   Am K.M A (forIn vs PUnit.unit body) (λ_ s'=>∃(c':Cf K.h₀) (acc':List V),c'.s=s'/\Di (·=kS) c c'/\Fr c' L ρ/\Ve c' φ₀ kS objs/\AccAt c' kS acc'/\acc'.length=acc.length+vs.length/\Qk acc' c'.σ) E c.s:=by
 intro vs
 induction vs with
 |nil=>
  intro Vs c acc F O ac hl rv q
  cases By.mp rv.length
  rw[List.forIn_nil]
  exact AS ⟨c,acc,rfl,.refl c,F,O,ac,rfl,q⟩
 |cons v vs ih=>
  intro Vs c acc F O ac hl rv q
  cases Vs with
  |nil=>exact rv.elim
  |cons V Vs=>
   rw[Bn] at hl
   rw[Eu]
   refine AB (hb v c.s _ (Ax (hkey c V v _ F O rv.1 q) (λu Z y=>?_) λ_ _ x=>x))
   refine y.casesOn λB U Z ru q₁=>?_
   have ac₁:=ac.step Z
   refine ac₁.casesOn λarr e oD eD rD=>?_
   have hz:arr.toList.length=acc.length:=rD.length.symm
   refine⟨arr.toList,e,HN▸eD,by exact HW .lt .v0 (.n 128) (.q .v0 .v1 (.t (.a .v1 (.a .v2 .n1)) (.n 128) .e)) rfl hz hl,λk hk=>?_⟩
   have ho:∀b,b=kS->FC B.s.heap b/\b∉B.φ/\K.h₀.get? b=none:=λb e=>e▸⟨Mine.Internal.Gw eD Gs,oD,h0⟩
   have kk:∀b o,¬b=kS->B.s.heap.get? b=some o->(B.s.heap.update kS (Bh (·.push u))).get? b=some o:=λb o h e=>(CN _ _ _ _ h).trans e
   have s₂:Di (·=kS) B (B.EF { B.s with heap:=B.s.heap.update kS (Bh (·.push u)) } kk ho):=Cf.GD ⟨rfl,rfl⟩ λb _ e _=>⟨_,(congrArg (Ww (B.s.heap.update kS (Bh (·.push u)))) e).trans hk⟩
   have F₂:=(F.step Z).keep s₂.toHo (λb e=>(ho b e).1) (λf _ n _ e=>ac₁.eH (e▸n)) λb _ ic e=>ac₁.ZN (e▸ic)
   have O₂:=(O.step Z.toHo λ_ f=>f.elim).step s₂.toHo λ_ h=>h
   have rk:∀{Ws us},CF B.s.heap B.φ Ws us->CF (B.s.heap.update kS (Bh (·.push u))) B.φ Ws us:=λr=>r.own s₂.toHo λb e=>(ho b e).1
   refine Ax (ih Vs (B.EF { B.s with heap:=B.s.heap.update kS (Bh (·.push u)) } kk ho) (acc++[U]) F₂ O₂ (.mk _ k oD hk (by rw[J7];exact rk (rD.append ⟨ru,trivial⟩))) (AI▸CV▸Dy .lt (.a (.a .v0 .n1) .v1) (.n 128) (.t (.a .v0 (.a .v1 .n1)) (.n 128) .e) rfl hl) (rk (rv.2.step Z)) q₁) (λ_ s' y=>?_) λ_ _ x=>x
   refine EW y λc' acc' e1 st F' zh=>Gx zh λO' ac' hl' q'=>?_
   exact⟨c',acc',e1,(Z.any.trans s₂).trans st,F',O',ac',by rw[hl',AI,CV,Bn];exact BC (Dy .le (.a (.a .v0 .n1) .v1) (.a .v0 (.a .v1 .n1)) .e rfl) (Dy .le (.a .v0 (.a .v1 .n1)) (.a (.a .v0 .n1) .v1) .e rfl),q'⟩
theorem fh{E:AV->Aj->Prop}{f:AV}{c:Cf K.h₀}{a:Addr}{objs:List (Addr×Obj)}{turn:V->Af->BS->Prop}{ρ:List V}{Vs:List V}{vs:List AV}{n:Nat}{P:PySem.Fin->Aj->Prop}{Q:BS}{c₀:Cf K.h₀}(Z:Di Bv c₀ c)(ha0:c₀.s.heap.get? a=none)(haφ:a∉c.φ)(F:Fr c L ρ)(hO:∀p∈objs,c.s.heap.get? p.1=some p.2/\p.1∉c.φ/\p.1≠a/\∀es ep,p.2.data≠.dict es ep)(ha:c.s.heap.get? a=some (Bm "list" vs.toArray n))(rv:CF c.s.heap c.φ Vs vs)(h64:vs.length<128)(hkey:∀(kS:Addr) (t:Cf K.h₀) (V:V) (v:AV) (R:BS),Fr t L ρ->Ve t c.φ kS objs->Rel t.s.heap t.φ V v->turn V t.σ R->Am K.M A (call f [v]) (PV t R) NX t.s)(q:SX turn Vs [] c.σ λks σ₂=>∃rs:List (List Int),ks=rs.map (λr=>.tup (r.map .int))/\(∀r∈rs,r≠[])/\HE rs/\∀p:List Nat,p.Perm (Ar Vs.length)->p.Pairwise (LZ rs)->Q (.ref σ₂.length) (σ₂++[.list (p.map λi=>Vs.getD i .none)]))(h:∀s',PV c₀ Q (.ref a) s'->P (.done (.ret .none)) s'):Am K.M A (ksk_tree a f false) P E c.s:=by
 have hlen:Vs.length=vs.length:=rv.length
 have haS:a<c.s.heap.objs.size:=B7 ha
 have hsl:vs.length<=HL:=by rw[F8];exact Ec .le .v0 (.n 16777216) (.t .v0 (.n 128) .e) rfl h64
 obtain⟨e1,ha1⟩:∃e1,(c.s.heap.update a (Bh λ_=>(#[]:Array AV))).get? a=some (Bm "list" #[] e1):=⟨_,E8 ha λ_=>#[]⟩
 have hsz:((c.s.heap.update a (Bh λ_=>(#[]:Array AV))).push (Bm "tuple" vs.toArray 0)).objs.size=c.s.heap.objs.size+1:=by rw[size_push',QH]
 generalize B:((c.s.heap.update a (Bh λ_=>(#[]:Array AV))).push (Bm "tuple" vs.toArray 0)).push (Bm "list" #[] 0)=h₁
 have kk:∀b o,¬b=a->c.s.heap.get? b=some o->h₁.get? b=some o:=λb o hb e=>by
  rw[<- B]
  exact AN _ (AN _ ((CN _ _ _ _ hb).trans e))
 have ga:h₁.get? a=some (Bm "list" #[] e1):=B▸AN _ (AN _ ha1)
 have gk:h₁.get? (c.s.heap.objs.size+1)=some (Bm "list" ([]:List AV).toArray 0):=B▸hsz▸Aw _ rfl
 have hka:c.s.heap.objs.size+1≠a:=Bu (ED haS)
 have fk:c.s.heap.get? (c.s.heap.objs.size+1)=none:=F0 (Cx _)
 have ho:∀b,b=a->FC c.s.heap b/\b∉c.φ/\K.h₀.get? b=none:=λb e=>e▸⟨Mine.Internal.Gw ha Gs,haφ,c₀.sim.DL ha0⟩
 have ac₀:AccAt c a Vs:=.mk _ n haφ ha (J7▸rv)
 have s₁:Di (·=a) c (c.EF { c.s with heap:=h₁ } kk ho):=Cf.GD ⟨rfl,rfl⟩ λb _ e _=>e▸⟨_,ga⟩
 have F₁:=F.keep s₁.toHo (λb e=>(ho b e).1) (λf _ n _ e=>ac₀.eH (e▸n)) λb _ ic e=>ac₀.ZN (e▸ic)
 have rv₁:CF h₁ c.φ Vs vs:=rv.own s₁.toHo λb e=>(ho b e).1
 unfold ksk_tree
 refine AB (mi ha rfl ?_)
 refine AB (IX ha rfl ?_ (by rw[CT];exact hsl) (BM _))
 refine AB (PK ha1 rfl ?_)
 refine AB (ZT ?_ (by show vs.length<=_;exact hsl))
 refine AB (MW ?_ (BM _))
 refine Bt ?_
 show Am K.M A (ksk_rest a f false vs.toArray e1 (.ref ((c.s.heap.update a (Bh λ_=>(#[]:Array AV))).push (Bm "tuple" vs.toArray 0)).objs.size)) P E { c.s with heap:=((c.s.heap.update a (Bh λ_=>(#[]:Array AV))).push (Bm "tuple" vs.toArray 0)).push (Bm "list" #[] 0) }
 rw[hsz,B]
 unfold ksk_rest
 refine AB (G4 ?_)
 first
  |rw[List.forIn_toArray]
  | (rw[<- ee];simp only[J7])
  |rw[<- ee]
 generalize hkS:c.s.heap.objs.size+1=kS at *
 have hks:∀b o,c.s.heap.get? b=some o->b≠kS:=λb o e=>hkS▸Bo (ED (B7 e))
 have O₁:Ve (c.EF { c.s with heap:=h₁ } kk ho) c.φ kS ((a,Bm "list" #[] e1)::objs):=⟨A5 _,λp hp=>by
  rcases Ao.mp hp with rfl | hp
  .exact⟨ga,haφ,HJ hka,(λ_ _ h=>by injection h)⟩
  .refine Gx (hO p hp) λo1 o2 o3 o4=>?_
   exact⟨kk p.1 p.2 o3 o1,o2,hks _ _ o1,o4⟩⟩
 refine AB (Ax (j5 (L:=L) (ρ:=ρ) (kS:=kS) (objs:=(a,Bm "list" #[] e1)::objs) (turn:=turn) (c.sim.DL fk) (λt V v R F O r k=>hkey kS t V v R F ⟨O.1,λp hp=>O.2 p (Ad _ hp)⟩ r k) (λx s' Q' hx=>?_) vs Vs (c.EF { c.s with heap:=h₁ } kk ho) [] F₁ O₁ (.mk #[] 0 (c.sim.out fk) gk trivial) (Gk▸Ec .lt (.a .n0 .v0) (.n 128) (.t .v0 (.n 128) .e) rfl h64) rv₁ q) (λ_ s' y=>?_) λ_ _ x=>x)
 .refine AB (FL (Ax hx (λk s'' hk=>?_) λ_ _ hF=>hF.elim))
  refine ES hk λkvs e g hz hQ=>?_
  have ea:kvs.toArray.push k=(kvs++[k]).toArray:=by simp
  obtain⟨c2,hc2⟩:∃c2,(s''.heap.update kS (Bh (·.push k))).get? kS=some (Bm "list" (kvs++[k]).toArray c2):=⟨_,ea▸E8 g (·.push k)⟩
  try dsimp only
  refine AB (IX g rfl ?_ (by rw[CT,F8];exact Ec .le .v0 (.n 16777216) (.t .v0 (.n 128) .e) rfl hz) (AF (CK (Array.size_push ..)) (by rw[CT,F8];exact Ec .le (.a .v0 .n1) (.a (.n 16777216) .n1) (.t .v0 (.n 128) .e) rfl hz)))
  exact AS (hQ c2 hc2)
 .refine EW y λc' acc' e1' st' F' zh=>Gx zh λO' ac' hl' zh=>DX zh λrs hrs hne q'=>?_
  subst e1' hrs
  obtain⟨tr,q'⟩:=q'
  refine ac'.casesOn λarr z oK eK rK=>?_
  try dsimp only
  have eK':c'.s.heap.get? kS=some (Bm "list" arr.toList.toArray z):=HN▸eK
  refine AB (mi eK rfl ?_)
  have hl'':arr.toList.length=vs.length:=by rw[<- rK.length,hl',Gk,Be]
  have oa:=O'.2 (a,Bm "list" #[] e1) AL
  have key:=qE (prog:=K.h₀.prog) (w:=K.h₀.w) (A:=A) (E:=E) (P:=P) eK' oa.1 (HJ hka) hl'' (ar rK) hne tr h64 λp hp1 hp2 h' c2 f1 f2 f3=>h _ ?_
  .rw[HN] at key;exact key
  have hoK:∀b,(b=a\/b=kS)->FC c'.s.heap b/\b∉c'.φ/\K.h₀.get? b=none:=λb hb=>by
   rcases hb with rfl | rfl
   .exact⟨Mine.Internal.Gw oa.1 Gs,oa.2.1,c₀.sim.DL ha0⟩
   .exact⟨Mine.Internal.Gw eK Gs,oK,c.sim.DL fk⟩
  have kk':∀b o,¬(b=a\/b=kS)->c'.s.heap.get? b=some o->h'.get? b=some o:=λb o hb e=>f2 b o (λh=>hb (.inl h)) (λh=>hb (.inr h)) e
  have s₃:Di (λb=>b=a\/b=kS) c' (c'.EF { c'.s with heap:=h' } kk' hoK):=Cf.GD ⟨rfl,rfl⟩ λb o hb _=>hb.elim (λe=>e▸⟨_,f1⟩) λe=>e▸f3
  have stF:Di Bv c₀ (c'.EF { c'.s with heap:=h' } kk' hoK):=((Z.DR s₁.toHo λb e=>e▸ha0).DR st'.toHo λb e=>e▸Z.gone fk).DR s₃.toHo λb hb=>hb.elim (λe=>e▸ha0) λe=>e▸Z.gone fk
  have rvF:CF h' c'.φ Vs vs:=((rv₁.own st'.toHo λb e=>e▸Mine.Internal.Gw gk Gs:CF c'.s.heap c'.φ Vs vs)).own s₃.toHo λb e=>(hoK b e).1
  rw[<- hlen] at hp1
  have hin:∀i∈p,i<Vs.length:=λi hi=>Dl.mp (hp1.mem_iff.mp hi)
  refine H6 (Made.join (D:=a) (acc:=p.map λi=>Vs.getD i .none) stF ha0 (by rw[AA,hp1.length_eq,BV];unfold Cb;exact Dy .le .v0 (.n 1000000) (.q .v0 .v1 (.t .v1 (.n 128) .e)) rfl hlen h64) (.mk (c:=c'.EF { c'.s with heap:=h' } kk' hoK) _ c2 oa.2.1 f1 (by rw[J7];exact TK rvF p hin))) λc₄ g1 g2 g3 s₄ r₄=>?_
  have:=PV.mk (c:=c₀) (Q:=Q) c₄ _ s₄ r₄ (by rw[g3];exact q' p hp1 hp2)
  rw[g1] at this;exact this
end
end Mine.Internal
namespace Mine.Internal
open PySem PySem.Calls PyProof.Rows PySem.W
set_option maxRecDepth 100000
set_option genSizeOf false
set_option genInjectivity false
structure qy(params:I3)(scope:Bq)(x:Str)(arg:Arg):Prop where
 plain:params=⟨[],[arg],none,[],[],none,[]⟩
 name:arg.arg=x
 co:scope.isCoroutine=false
 gen:scope.isGenerator=false
noncomputable abbrev jc(L:Loc)(scope:Bq)(N:Addr)(q:Str)(f:Addr)(cv:AV):Env:=newEnv scope N De (I7 L.env scope.names []) (q++".<locals>.") (some f) cv none LV
noncomputable abbrev oU(L:Loc)(scope:Bq)(vs':Vs)(N:Addr)(q:Str)(f:Addr)(cv:AV):Loc:=⟨jc L scope N q f cv,vs',jc L scope N q f cv::L.up⟩
section
variable {K:Ctx} {L:Loc} {A:Bb} {vs':Vs} {G:PW} {fa:Nat->Addr} {mg mb:Str->Option AV}
theorem dk{V:V}(B:H8 L scope vs' x i)(F:Fr c L ρ)(st:Ho Bv c M)(n:M.s.heap.Ns N m)(hN:c.s.heap.get? N=none)(ho:N∉M.φ)(hm:m x=some v)(rv:Rel M.s.heap M.φ V v) :
  Fr M (oU L scope vs' N q f cv) (ρ.set i V) where
 fn:=B.kind
 glob:=rfl
 blt:=rfl
 IP:=c.sim.DL hN
 G3:=ho
 inj y z j hy hz:=by
  rcases B.vars y j hy with ⟨rfl,rfl⟩ | ⟨h1,_,h2,h3⟩
  .rcases B.vars z _ hz with ⟨rfl,_⟩ | ⟨_,_,_,h3⟩
   .rfl
   .exact absurd rfl h3
  .rcases B.vars z j hz with ⟨rfl,rfl⟩ | ⟨_,_,h4,_⟩
   .exact absurd rfl h3
   .exact F.inj y z j h2 h4
 ns:=.mk m n λy j hy hk=>by
  rcases B.vars y j hy with ⟨rfl,rfl⟩ | ⟨_,Z,_,_⟩
  .exact λW hW _=>⟨v,hm,IL hW▸rv⟩
  .cases (show scope.names.lookup y=some .local from hk).symm.trans Z
 cell y j hy hk:=by
  rcases B.vars y j hy with ⟨rfl,rfl⟩ | ⟨_,Z,hv,hj⟩
  .rw[show (oU L scope vs' N q f cv).env.kindOf y=some .local from B.var] at hk;refine A7 hk (λq=>?_) (λq=>?_) <;> cases q
  .obtain⟨ca,hl⟩:=Jj B F Z hv
   exact match ca with
   | .mk a ov e1 e2 e3 ic rr=>.mk a ov (hl a e1) (AW (ic) λ_ e _=>st.out e e2) e3 (st.mP e2 (λf=>f) ic) ((rr.own st λ_ f=>f.elim).other (HJ hj))
 GO y z j j' a hy hz h1 h2:=by
  have nx:(I7 L.env scope.names []).lookup x=none:=TU L.env scope.names [] x rfl B.once
  rcases B.vars y j hy with ⟨rfl,rfl⟩ | ⟨_,Z,hv,_⟩
  .exact absurd (nx.symm.trans h1).symm (AY _)
  .rcases B.vars z j' hz with ⟨rfl,rfl⟩ | ⟨_,hf',hv',_⟩
   .exact absurd (nx.symm.trans h2).symm (AY _)
   .obtain⟨⟨a1,_,e1,_⟩,l1⟩:=Jj B F Z hv
    obtain⟨⟨a2,_,e2,_⟩,l2⟩:=Jj B F hf' hv'
    have zq:=AG ((l1 a1 e1).symm.trans h1);subst zq
    have zq:=AG ((l2 a2 e2).symm.trans h2);subst zq
    exact F.GO y z j j' _ hv hv' e1 e2
 up e m':=(Ao.mp m').elim (λq=>by subst q;exact⟨(λq=>by injection B.kind.symm.trans q),_,_,rfl,c.sim.DL hN,ho,n⟩) λm'=>(F.up e m').keep st λ_ _ _ _ f=>f
theorem iw(g:NC K G fa mg mb){c:Cf K.h₀}{ρ:List V}{f c':Addr}{qual:Str}{params:I3}{body:Expr}{scope:Bq}{pm Z:AV}{x:Str}{i:Nat}{arg:Arg}{b:Ex}{V:V}{v:AV}{Q:BS}(lo:qy params scope x arg)(cs:H8 L scope vs' x i)(hh:A.handled=K.hx.map Cm)(hd:A.depth+3*K.d<901)(hu:A.units+12*K.d<9003)(hfr:A.frames=some L.up)(F:Fr c L ρ)(hf:c.s.heap.get? f=some (XD "<lambda>" qual params body scope (I7 L.env scope.names []) pm c' Z))(hcd:c.s.heap.CodeRec (.ref c') qual)(r:Rel c.s.heap c.φ V v)(hB:∀N f cv,FE K (oU L scope vs' N qual f cv) body b)(q:b K.C (ρ.set i V) c.σ Q W3):Am K.M A (call (.ref f) [v]) (PV c Q) NX c.s:=by
 have hroom:A.depth<recursionLimit:=Ac (Al (A0 _ _) hd) (by decide)
 refine wpAny_call (kla_callFunE (fd:=kla_fn "<lambda>" qual params body scope (I7 L.env scope.names []) pm (.ref c') Z) hroom hf rfl lo.co lo.gen rfl hcd ?_)
 have hb:bindArgs (kla_fn "<lambda>" qual params body scope (I7 L.env scope.names []) pm (.ref c') Z) ⟨[v],[]⟩=pure [(x,v)]:=by
  have:=MH (fd:=kla_fn "<lambda>" qual params body scope (I7 L.env scope.names []) pm (.ref c') Z) (args:=[arg]) (vals:=[v]) lo.plain rfl rfl (by simp)
  rw[this,<- lo.name];rfl
 rw[hb]
 refine AS (wpAny_newFunctionEnv cs.cell (λy hy=>by rw[AM.mp hy];exact cs.var) (λh₁ hns hsb=>⟨(g.nolimit.keeps c.sim.keep).fresh _ hsb,?_⟩) cs.kind)
 have kk:∀b o,c.s.heap.get? b=some o->h₁.get? b=some o:=λb o e=>hsb.extBut b o (Bo (B7 e)) (AN _ e)
 have B:Di Bv c (c.keep { c.s with heap:=h₁,toks:=c.s.toks+[(x,v)].length } kk):=Cf.Cj ⟨rfl,rfl⟩
 have F':=dk (q:=qual) (f:=f) (cv:=.ref c') (V:=V) (v:=v) cs F B.toHo hns DB (c.sim.out DB) (by show bk x [(x,v)]=_;rw[BL,beq_self_eq_true]) (r.step B)
 refine kla_codeExpr (Ax (hB _ _ _ (A.deeper _) (c.keep { c.s with heap:=h₁,toks:=c.s.toks+[(x,v)].length } kk) (ρ.set i V) Q W3 ⟨hh,by exact Dy .lt (.a (.a .v0 .n1) (.m 3 .v1)) (.n 902) (.t (.a .v0 (.m 3 .v1)) (.n 901) .e) rfl hd,by exact Dy .lt (.a (.a .v0 .n3) (.m 12 .v1)) (.n 9006) (.t (.a .v0 (.m 12 .v1)) (.n 9003) .e) rfl hu,by show A.frames.map _=_;rw[hfr];rfl⟩ F' q) (λu s' y=>y.lift B) λ_ _ e=>oo e)
inductive lu(c:Cf K.h₀)(K':Nat->Af->Prop)(f:Addr)(mk:Addr->AV->Obj)(qual:Str):Aj->Prop
 |mk (c₂:Cf K.h₀) (m:Nat) (c':Addr) (ctv:AV):Di Bv c c₂->K' m c₂.σ->c₂.s.heap.get? f=some (mk c' ctv)->f∉c₂.φ->c₂.φ[m]?=some c'->c₂.σ[m]?=some (.code qual)->lu c K' f mk qual c₂.s
theorem ik(g:NC K G fa mg mb){c:Cf K.h₀}{ρ:List V}{cN P:Addr}{qual:Str}{params:I3}{body:Expr}{scope:Bq}{x:Str}{i:Nat}{B:Pos}{K':Nat->Af->Prop}{Q:AV->Aj->Prop}{E:AV->Aj->Prop}(hG:G.lookup ("<lambda>":Str)=some (.SD cN P))(hdef:defaultsOf params L.env=([],[]))(cs:H8 L scope vs' x i)(F:Fr c L ρ)(hcode:L.env.code=.ref cN)(hq:L.env.qual++"<lambda>"=qual)(tw:Y7 P qual B.line B.col c.σ K')(h:∀f s',lu c K' f (λc' Z=>XD "<lambda>" qual params body scope (I7 L.env scope.names []) ((mg "__name__").getD .none) c' Z) qual s'->Q (.ref f) s'):Am K.M A (eval (.Lambda params body scope B) L.env) Q E c.s:=by
 refine FD (g.lam cN P hG) λhC hb hgP=>?_
 have hb':c.s.heap.BuiltinsAt mg P:=by refine Ej hb λbm ob b1 b2 b3 b4 b5 b6=>?_;exact⟨bm,ob,b1,b2,b3,b4,c.sim.keep _ _ b5,b6⟩
 refine kla_eval hdef ?_
 rw[hq]
 rcases tw with ⟨e1,k⟩ | ⟨m,e1,e2,k⟩
 .refine DX (c.sim.obj 1 _ e1) λaP ea ze1 gP=>?_;subst ze1
  refine kla_makeFunction (mg:=mg) (Jc cs F) F.glob (g.ns.keeps c.sim.keep) hcode (hC.keeps c.sim.keep) gP trivial rfl hgP hb' λc' Z h' tk hext hge hlt hrec htb=>h _ _ ?_
  refine Cq hrec λc₂' zh=>EJ zh λoc ocv tq e2 hoc hocd hocq=>?_
  cases e2
  have nc:c.s.heap.get? c'=none:=F0 hge
  have kk:∀b o,b≠aP->c.s.heap.get? b=some o->(h'.push (XD "<lambda>" qual params body scope (I7 L.env scope.names []) ((mg "__name__").getD .none) c' Z)).get? b=some o:=λb o hb e=>AN _ (hext b o hb e)
  refine Ge (Cf.eJ (c:=c) (o:=.gone) (tk:=tk) ea (by decide) kk λ_=>⟨_,AN _ htb⟩) λca f1 f2 f3 sa=>?_
  have Sb:Sw K.h₀ ca.s.heap (ca.φ++[c']) (ca.σ++[.code qual]):=ca.sim.add (o:=.code qual) (f2▸c.sim.out nc) (c.sim.DL nc) ⟨oc,ocv,tq,by rw[f1];exact AN _ hoc,hocd,hocq⟩
  have sb:Di Bv c ⟨ca.s,ca.φ++[c'],ca.σ++[.code qual],Sb⟩:=⟨⟨sa.only,sa.pre.trans (CU _ _),sa.keep,λa m=>(He m).elim (sa.fresh a) λe=>.inr (e▸nc)⟩,sa.SE⟩
  have hlen:c.φ.length=c.σ.length:=c.sim.len
  obtain⟨cc,g1,g2,g3,sc⟩:=Cf.eJ (c:=⟨ca.s,ca.φ++[c'],ca.σ++[.code qual],Sb⟩) (n:=1) (a:=aP) (o:=.row aP B.line B.col c.σ.length) (tk:=ca.s.toks) (IF (CU _ _) (f2▸ea)) (by decide) (h':=ca.s.heap) (λ_ _ _ e=>e)
   λ_=>⟨rfl,c',by show (ca.φ++[c'])[c.σ.length]?=_;rw[f2,<- hlen];exact Co,by rw[f1];exact AN _ htb⟩
  have hσ:cc.σ=c.σ.set 1 (.row aP B.line B.col c.σ.length)++[.code qual]:=by
   rw[g3]
   show (ca.σ++[O.code qual]).set 1 _=_
   rw[f3,bp _ _ (by rw[Dt];exact(AP.mp e1).1),XB]
  have hs:cc.s={ c.s with heap:=h'.push (XD "<lambda>" qual params body scope (I7 L.env scope.names []) ((mg "__name__").getD .none) c' Z),toks:=tk }:=by rw[g1,f1]
  have:=lu.mk (c:=c) (K':=K') (f:=h'.objs.size) (mk:=λc' Z=>XD "<lambda>" qual params body scope (I7 L.env scope.names []) ((mg "__name__").getD .none) c' Z) (qual:=qual) cc c.σ.length c' Z (sb.trans sc) (by rw[hσ];exact k) (by rw[hs];exact Aw _ rfl)
   (by rw[g2];show _∉ca.φ++[c'];rw[f2];exact λm=>(He m).elim (c.sim.out (F0 (AF hge (A4 hlt)))) λe=>Bu hlt e) (by rw[g2];show (ca.φ++[c'])[c.σ.length]?=_;rw[f2,<- hlen];exact Co)
   (by rw[hσ,Ak (by rw[Dt];exact Az _),Dt,Fo];rfl)
  rw[hs] at this;exact this
 .refine AW (c.sim.obj 1 _ e1) λaP ea zh=>FH zh λze1 c' ec gP=>?_;subst ze1
  refine kla_makeFunctionHit (mg:=mg) (cv:=.ref c') (Jc cs F) F.glob (g.ns.keeps c.sim.keep) hcode (hC.keeps c.sim.keep) gP ?_ ?_ hb' λZ h' tk hk hsz=>h _ _ ?_
  .exact trivial
  .show (if _=true then _ else _)=_
   rw[if_pos (by simp)]
  .have s₂:Di Bv c (c.keep { c.s with heap:=h'.push { cls:=.type "function", data:=.func (kla_fn "<lambda>" qual params body scope (I7 L.env scope.names []) ((mg "__name__").getD .none) (.ref c') Z) },toks:=tk } λb o e=>AN _ (hk b o e)):=Cf.Cj ⟨rfl,rfl⟩
   exact .mk (c.keep _ _) m c' Z s₂ k (Aw _ rfl) (c.sim.out (F0 hsz)) ec e2
end
end Mine.Internal
namespace Mine.Internal
open PySem PySem.Calls PyProof.Rows PySem.W
set_option maxRecDepth 100000
set_option genSizeOf false
set_option genInjectivity false
section
variable {K:Ctx} {L:Loc} {A:Bb} {vs':Vs} {G:PW} {fa:Nat->Addr} {mg mb:Str->Option AV}
theorem c9(P:Mz h Z kvs us)(hi:ItemsOf (λi v=>∃k x,us[i]?=some (k,x)/\(strKind prog w).is k v=true) acc us.length):CF h Z (kvs.map λp=>V.str p.1) acc.toList:=by
 have:∀(ks:List V) (vs:List AV),ks.length=vs.length->(∀(i:Nat) (V:V) (v:AV),ks[i]?=some V->vs[i]?=some v->Rel h Z V v)->CF h Z ks vs:=by
  intro ks
  induction ks with
  |nil=>intro vs M _;cases vs with | nil=>trivial | cons=>cases M
  |cons k ks ih=>intro vs M hv;cases vs with
   |nil=>cases M
   |cons v vs=>exact⟨hv 0 k v rfl rfl,ih vs (Et M) λi V v h1 F=>hv (i+1) V v h1 F⟩
 refine this _ _ (by rw[AA];exact(P.len.symm.trans hi.1.symm).trans A1.symm) λi V v h1 F=>?_
 refine EX (P.key h1) λk x e1 B=>?_;subst B
 rw[BA] at F
 refine EX (hi.2 i v F) λk' x' e2 hk=>?_
 cases e1.symm.trans e2
 refine Cq (bj hk) λt B=>?_;subst B
 exact FQ
theorem Y7.ext{M col:Int}{K:Nat->Af->Prop}(h:Y7 P q M col σ K):Y7 P q M col σ λm B=>(∀n o,n≠1->σ[n]?=some o->B[n]?=some o)/\K m B:=by
 rcases h with ⟨e,k⟩ | ⟨m,e1,e2,k⟩
 .refine .inl ⟨e,λn o hn F=>?_,k⟩
  rw[A3 (by rw[Dt];exact(AP.mp F).1),NO (HJ hn)]
  exact F
 .exact .inr ⟨m,e1,e2,λ_ _ _ e=>e,k⟩
theorem Ya(g:NC K G fa mg mb){c:Cf K.h₀}{ρ:List V}{cN P:Addr}{qual:Str}{params:I3}{e body:Expr}{scope:Bq}{x:Str}{i:Nat}{arg:Arg}{lpos kp pf pos:Pos}{a b:Ex}{Q:BS}{X:CP}(hG:G.lookup ("<lambda>":Str)=some (.SD cN P))(hs:Cs G L.env.scope ("sorted":Str)=true)(hn:EL e)(he:FE K L e a)(lo:qy params scope x arg)(cs:H8 L scope vs' x i)(hdef:defaultsOf params L.env=([],[]))(hcode:L.env.code=.ref cN)(hq:L.env.qual++"<lambda>"=qual)(hB:∀N f cv,FE K (oU L scope vs' N qual f cv) body b)(R:j8 K L.up A)(F:Fr c L ρ)(q:Tv P qual lpos.line lpos.col a i b K.C ρ c.σ Q X) :
  Am K.M A (eval (.Call (.Name ("sorted":Str) pf) [e] [⟨some "key", .Lambda params body scope lpos,kp⟩] pos) L.env) (PV c Q) (PX c X) c.s:=by
 show Am K.M A (do Ze pos (<- eval (.Name ("sorted":Str) pf) L.env) [] (IS pos (Ef [e] L.env)) (backToKw pos (keywordEach [⟨some "key", .Lambda params body scope lpos,kp⟩] L.env))) _ _ c.s
 refine AB (Gv g F hs (by decide) boot_sorted ?_)
 refine callWith_kw ?_ (by rw[hn [] L.env];rfl) (GJ hn G1 L.env pos) rfl rfl
 refine Vl (.refl c) (I9 hn he Mp A c ρ (λvs σ₁=>∃items,Xg σ₁ (vs.headD .none) items/\items.length<128/\Y7 P qual lpos.line lpos.col σ₁ λm σ₂=>SX (λy σ R=>σ[m]?=some (.code qual)/\b K.C (ρ.set i y) σ R W3) items [] σ₂ λks σ₃=>
   ∃rs:List (List Int),ks=rs.map (λr=>.tup (r.map .int))/\(∀r∈rs,r≠[])/\HE rs/\∀p:List Nat,p.Perm (Ar items.length)->p.Pairwise (LZ rs)->Q (.ref σ₃.length) (σ₃++[.list (p.map λi=>items.getD i .none)])) X pos R.ok F (by unfold Tv at q;exact q)) λc₁ Vs vals s₁ _ rl q₁=>?_
 refine L8 q₁ λhl1 items zh=>FD zh λks h64 tw=>?_
 refine Cq (List.length_eq_one_iff.mp hl1) λV ze0=>?_;subst ze0
 refine AW rl.one λv' ze1 r=>?_;subst ze1
 refine kws_cons (ik (body:=body) (params:=params) g hG hdef cs (F.step s₁) hcode hq tw.ext λf s' y=>kws_nil ?_)
 refine y.casesOn λB m c' ctv s₂ zp00 gf fo ec ek=>?_
 have hext:=zp00.1
 have k:=zp00.2
 have r₂:Rel B.s.heap B.φ V v':=r.step s₂
 obtain⟨n,ep,kvs,rfl,rfl,en⟩:∃n ep kvs,V=.ref n/\items=kvs.map (λp=>.str p.1)/\B.σ[n]?=some (.dict ep kvs):=by
  cases ks with
  | @dict n ep kvs hn1 en=>exact⟨n,ep,kvs,rfl,rfl,hext n _ hn1 en⟩
 refine Ej (Cf.dict en r₂) λd us ze1 ed D Pd hz hsm=>?_;subst ze1
 refine(?_:Am K.M A (call (.builtin "sorted") [.ref d] [("key", .ref f)]) _ _ B.s)
 refine call_function_entry_kw kind_sorted mY mZ (ksk_s1 _ _) ?_
 refine AB (m:=checkCount "sorted" 1 1 _) (AS ?_)
 refine AB (kdu_collect (kdl_dict (knd:=strKind K.h₀.prog K.h₀.w) (kvs:=us) (ep:=ep) hsm) (R.ok.pl (g.wN _ _ hG rfl)) D (by rw[Pd.len];exact I6 hz) λZ tk acc hk hi=>?_)
 have hl:acc.toList.length<128:=by rw[A1,hi.1,Pd.len];rw[AA] at h64;exact h64
 have s₃:Di Bv B (B.keep { B.s with heap:=Z,toks:=tk } hk):=Cf.Cj ⟨rfl,rfl⟩
 refine AB (MW ?_ (by rw[F8];exact Ec .le .v0 (.n 16777216) (.t .v0 (.n 128) .e) rfl hl))
 have s₄:Di Bv (B.keep { B.s with heap:=Z,toks:=tk } hk) ((B.keep { B.s with heap:=Z,toks:=tk } hk).keep { B.s with heap:=Z.push (Bm "list" acc.toList.toArray 0),toks:=tk } E0):=Cf.Cj ⟨rfl,rfl⟩
 have hoL:(Z.push (Bm "list" acc.toList.toArray 0)).get? Z.objs.size=some (Bm "list" acc.toList.toArray 0):=Aw _ rfl
 have nD:B.s.heap.get? Z.objs.size=none:=s₃.gone (DB (h:=Z))
 have F₄:=(((F.step s₁).step s₂).step s₃).step s₄
 refine AB (Bt (wpAny_call_entry_kw (s:={ B.s with heap:=Z.push (Bm "list" acc.toList.toArray 0),toks:=tk }) ZU ⟨_,hoL,rfl⟩ Wu ?_ (ksk_l1 _ _)))
 rw[ksk_t1]
 refine fh (L:=L) (ρ:=ρ) (c:=(B.keep { B.s with heap:=Z,toks:=tk } hk).keep { B.s with heap:=Z.push (Bm "list" acc.toList.toArray 0),toks:=tk } E0) (c₀:=B) (Vs:=kvs.map λp=>.str p.1) (turn:=λy σ R=>σ[m]?=some (.code qual)/\b K.C (ρ.set i y) σ R W3) (Q:=Q)
  (objs:=[(f,XD "<lambda>" qual params body scope (I7 L.env scope.names []) ((mg "__name__").getD .none) c' ctv)]) (s₃.trans s₄) nD (B.sim.out nD) F₄ (λp hp=>?_) hoL ((c9 Pd hi).step (s₃.trans s₄)) hl (λkS t V v Rt Ft O r k=>?_) k λs' hpv=>⟨_,rfl,AS ⟨_,rfl,hpv.lift (s₁.trans s₂)⟩⟩
 .have zq:=AM.mp hp;subst zq
  exact⟨E0 _ _ (hk _ _ gf),fo,(λ(e:f=Z.objs.size)=>by rw[e,nD] at gf;cases gf),(λ_ _ h=>by injection h)⟩
 .have o1:=O.2 _ AL
  refine AW (t.sim.obj m _ k.1) λa' ea' zh=>CW zh λo vs tq e1 e2 e3=>?_
  have zq:=AG ((IF O.1 ec).symm.trans ea');subst zq
  have hu:=R.units
  exact iw g lo cs R.hd R.depth (by exact Dy .lt (.a (.a (.a .v0 .n1) .n1) (.m 12 .v1)) (.n 9003) (.t (.a .v0 (.m 12 .v1)) (.n 9000) .e) rfl hu) R.fr Ft o1.1 ⟨c',o,vs,tq,rfl,e1,e2,e3⟩ r hB k.2
end
end Mine.Internal
namespace Mine.Internal
open PySem PySem.Calls
set_option genSizeOf false
set_option genInjectivity false
section
variable {K:Ctx} {G:PW} {fa:Nat->Addr} {mg mb:Str->Option AV}
noncomputable def Zv:Str:="Rack.names.<locals>.<lambda>"
noncomputable def u0:(g:Option Gl)->Option { p:Addr×Addr // g=some (.SD p.1 p.2) }
 |some (.SD c P)=>some ⟨(c,P),rfl⟩
 |_=>none
noncomputable def r8:(p:I3)->Option { a:Arg // p=⟨[],[a],none,[],[],none,[]⟩ }
 | ⟨[],[a],none,[],[],none,[]⟩=>some ⟨a,rfl⟩
 |_=>none
noncomputable def UH(sc:Bq)(args:List Arg):Bool:=decide ((args.map (·.arg)).Nodup)&&(FN (args.map (·.arg)) sc).all (QY sc)&&(sc.kind==.function)&&!sc.isCoroutine&&!sc.isGenerator
theorem ZM(h:UH sc args=true):aU sc (args.map (·.arg)):=by
 simp only[UH,BK,decide_eq_true_eq,CB,BF,beq_iff_eq] at h
 exact⟨h.1.1.1.1,h.1.1.1.2,h.1.1.2,h.1.2,h.2⟩
abbrev uq(G:PW)(cd:AV)(ql:Str):Prop:=(∀c P,G.lookup ("<lambda>":Str)=some (.SD c P)->cd=.ref c)/\ql++"<lambda>"=Zv
abbrev uf(K:Ctx)(G:PW)(body:List Stmt)(sc:Bq)(params:I3):Type:={ r:Fn×Bool // ∃args,∀cd ql,(r.2=true->uq G cd ql)->si K cd ql params body sc r.1 args }
noncomputable def w6(B:Bg K G fa mg mb)(S:KW K G)(extra:Nat)(sc:Bq)(args:List Arg):(body:List Stmt)->Option (uf K G body sc ⟨[],args,none,[],[],none,[]⟩)
 | [.Return (some (.Call (.Name f _) [e] [⟨some kn,.Lambda lp lb lsc lpos,_⟩] _)) _]=>
  if hc:(UH sc args&&Cs G sc ("sorted":Str)&&!lsc.isCoroutine&&!lsc.isGenerator)=true then if hf:f=("sorted":Str)/\kn=("key":Str) then
   (r8 lp).bind λa=>(u0 (G.lookup ("<lambda>":Str))).bind λt=>
    if ho:Tu sc (Iy (args.map (·.arg)) sc) lsc a.1.arg (FN (args.map (·.arg)) sc).length=true then
     (rE B S (FN (args.map (·.arg)) sc).length 40 sc (Iy (args.map (·.arg)) sc) e).bind λx=>
      (rE B S ((FN (args.map (·.arg)) sc).length+1) 40 lsc (JC lsc (Iy (args.map (·.arg)) sc) a.1.arg (FN (args.map (·.arg)) sc).length) lb).map λy=>
       ⟨(⟨(args.map (·.arg)).length,(FN (args.map (·.arg)) sc).length+extra,[CE (Tv t.1.2 Zv lpos.line lpos.col x.1.v (FN (args.map (·.arg)) sc).length y.1.v)]⟩,true),args,λcd ql hk=>by
        have hk:=hk rfl
        have g1:=AJ.mp hc
        have g2:=AJ.mp g1.1
        have g3:=AJ.mp g2.1
        obtain⟨rfl,rfl⟩:=hf
        refine⟨rfl,rfl,ZM g3.1,λenv up he hcd hql A c ρ Q R F q=>?_⟩
        have hA:=Agree.of_eq he
        refine Em (Hb (Ax (Ya (vs':=JC lsc (Iy (args.map (·.arg)) sc) a.1.arg (FN (args.map (·.arg)) sc).length) (x:=a.1.arg) (arg:=a.1) (cN:=t.1.1) (Q:=λv σ=>Q (.ret v) ρ σ) (X:=λk σ=>Q (.exc k) ρ σ) B.g t.2 (hA.free g3.2) (x.2 env (env::up) hA).star (x.2 env (env::up) hA).ok ⟨a.2,rfl,(CB _).mp g2.2,(CB _).mp g1.2⟩ (bD hA.cf ho) (by rw[a.2];rfl) (hcd.trans (hk.1 _ _ t.2)) (by rw[hql];exact hk.2) (λN f' cv=>(y.2 _ _ (Agree.of_eq rfl)).ok) R F q) (λv s z=>?_) λe s z=>z.nF F))
        cases z with
        |mk c₁ V s₁ r q₁=>exact .ret c₁ ρ V v s₁.any (F.step s₁) r q₁⟩
    else none else none else none
 |_=>none
noncomputable def wF(B:Bg K G fa mg mb)(S:KW K G)(extra:Nat)(body:List Stmt)(sc:Bq):(params:I3)->Option (uf K G body sc params)
 | ⟨[],args,none,[],[],none,[]⟩=>match w6 B S extra sc args body with
  |some r=>some r
  |none=>(yE B S extra body sc ⟨[],args,none,[],[],none,[]⟩).map λr=>⟨(r.1,false),(r.2).elim λa h=>⟨a,λcd ql _=>h cd ql⟩⟩
 |_=>none
end
end Mine.Internal
namespace Mine.Internal
open PySem PySem.Calls PySem.W PyProof.Rows
set_option genSizeOf false
set_option genInjectivity false
set_option genCtorIdx false
structure Lw where
 h₀:Bs
 O5:List Nat
 G:PW
 fa:Nat->Addr
 mg:Str->Option AV
 mb:Str->Option AV
 hx:Option Addr
 uI:∀a,hx=some a->nz h₀.heap a
noncomputable abbrev Lw.K(l:Lw)(P:List Fn)(d:Nat):Ctx:=⟨l.h₀,callW P d,d,l.O5,l.hx,l.uI⟩
structure vT(l:Lw)(P:List Fn)(i:Nat)(fn:Fn)(o:Obj)(fd:ZP)(body:List Stmt):Prop where
 get:l.h₀.get? (l.fa i)=some o
 data:o.data=.func fd
 code:l.h₀.heap.CodeRec fd.code fd.qualname
 glob:fd.globals=De
 blt:fd.builtins=LV
 y5:fd.body=.stmts body
 y3:fd.closure=[]
 oj:fd.defaults=.none
 ok:∀d,Bg (l.K P d) l.G l.fa l.mg l.mb->KW (l.K P d) l.G->∃args,si (l.K P d) fd.code (fd.qualname++".<locals>.") fd.params body fd.scope fn args
structure rg(l:Lw)(P:List Fn):Prop where
 g:∀d,NC (l.K P d) l.G l.fa l.mg l.mb
 so:∀d,KW (l.K P d) l.G
 fn:∀x i fn,l.G.lookup x=some (.fn i)->P[i]?=some fn->∃o fd body,vT l P i fn o fd body
theorem gz{l:Lw}{P:List Fn}{d:Nat}{c:Cf l.h₀}{Q:BS}{X:CP}{r:Result}{s:Aj}(y:Vp (l.K P d) c Q X r s):Vp (l.K P (d+1)) c Q X r s:=by
 cases r with
 |ok o=>cases o with
  |ret _=>exact PV.casesOn y λB V st r q=>PV.mk (K:=l.K P (d+1)) B V st r q
  |_=>exact y
 |error _=>exact PX.casesOn y λB k a F n M st e q=>PX.mk (K:=l.K P (d+1)) B k a F n M st e q
def Lw.nN(l:Lw)(P:List Fn):Prop:=l.hx=none->∀(a:Addr) (o:Obj) (w:qf o),l.h₀.get? a=none->∀d,Lx ((l.K P d).ext a o w) (fH l.G) l.fa/\NC ((l.K P d).ext a o w) (fH l.G) l.fa l.mg l.mb
theorem fj(h:rg l P)(e:l.nN P)(d):Lx (l.K P d) l.G l.fa:=by
 induction d with
 |zero=>exact λ_ _ _ _ _ _ _ _ _ _ _ _ _ q=>(hX q).elim
 |succ d ih=>
  intro x i hx A up c Vs vals Q X R F r q
  refine DX (c7 q) λfn Z hl q=>?_
  refine EA (h.fn x i fn hx Z) λo fd body B=>?_
  refine Cq (B.ok d ⟨h.g d,ih,λz a o w n=>e z a o w n d⟩ (h.so d)) λargs ok=>?_
  refine K3 (pD (K:=l.K P d) (c:=c) (Q:=Q) (X:=X) rfl (fd:=fd) (body:=body) ok.params ok.ok B.glob B.blt B.y5 B.y3 B.oj F ⟨R.hd,R.depth,R.units,R.fr⟩ (c.sim.keep _ _ B.get) B.data ((h.g d).nolimit.keeps c.sim.keep) (B.code.keeps c.sim.keep) r (ok.len.symm.trans hl.symm)
   (λenv M hc hq=>ok.body env up M hc hq) q) λ_ _ y=>gz y
end Mine.Internal
namespace Mine.Internal
open PySem PySem.Calls PySem.W PyProof.Rows
set_option genSizeOf false
set_option genInjectivity false
set_option genCtorIdx false
structure Jd where
 name:Str
 params:I3
 body:List Stmt
 scope:Bq
noncomputable def tD(d:DefRec):Jd:=⟨d.name,d.params,d.body,d.scope⟩
noncomputable def sd(m:MethRec):Jd:=⟨CR++"."++m.name,m.params,m.body,m.scope⟩
noncomputable def IZ(p:DU)(c:Mc):List Jd:=(Nr p).map tD++c.meths.map sd
noncomputable def Ua:Nat->List Jd->PW
 |_,[]=>[]
 |n,d::r=>(d.name,.fn n)::Ua (n+1) r
theorem Xk(B:List Jd):∀(n:Nat) {x:Str} {g:Gl},(Ua n B).lookup x=some g->∃j d,g=.fn (n+j)/\B[j]?=some d/\d.name=x:=by
 induction B with
 |nil=>intro n x g h;cases h
 |cons y r M=>
  intro n x g h
  replace h:((y.name,Gl.fn n)::Ua (n+1) r).lookup x=some g:=h
  rw[BL] at h
  cases e:x==y.name with
  |true=>rw[e] at h;exact⟨0,y,(AG h).symm,rfl,(beq_iff_eq.mp e).symm⟩
  |false=>rw[e] at h;refine ES (M (n+1) h) λj d h1 F Z=>?_;exact⟨j+1,d,h1.trans (by rw[Ed,Ci 1]),F,Z⟩
noncomputable def q0(x:Str):Option GP->Option (Str×Gl)
 |some (.str z)=>some (x,.str z)
 |some (.int i)=>some (x,.int i)
 |_=>none
noncomputable def r5(p:DU):PW:=(litsOf p).filterMap λx=>q0 x.1 (valOf p x.1)
noncomputable def Jq(p:DU)(c:Mc)(wh:Wh):PW:=Ua 0 (IZ p c)++((CR,.cls wh.C wh.i)::("<lambda>", .SD wh.cN wh.tP)::wh.xt.map λe=>(e.name,.exc e.k e.kids))++r5 p
theorem Qi{B:Type}{x:Str}(a b:List (Str×B)){v:B}(h:(a++b).lookup x=some v):a.lookup x=some v\/b.lookup x=some v:=by rw[fY] at h;exact(Option.or_eq_some_iff.mp h).imp id And.right
theorem eG:∀{o:Option GP},q0 x o=some (y,g)->x=y/\((∃z,g=.str z/\o=some (.str z))\/∃i,g=.int i/\o=some (.int i))
 |some (.str z),h=>by cases h;exact⟨rfl,.inl ⟨z,rfl,rfl⟩⟩
 |some (.int z),h=>by cases h;exact⟨rfl,.inr ⟨z,rfl,rfl⟩⟩
inductive Xn(p:DU)(c:Mc)(wh:Wh)(x:Str):Gl->Prop
 |fn (i:Nat) (d:Jd):(IZ p c)[i]?=some d->d.name=x->Xn p c wh x (.fn i)
 |cls:x=CR->Xn p c wh x (.cls wh.C wh.i)
 |lam:Xn p c wh x (.SD wh.cN wh.tP)
 |exc (e:tm):e∈wh.xt->e.name=x->Xn p c wh x (.exc e.k e.kids)
 |str (z:Str):valOf p x=some (.str z)->Xn p c wh x (.str z)
 |int (z:Int):valOf p x=some (.int z)->Xn p c wh x (.int z)
theorem dF(h:(Jq p c F).lookup x=some g):Xn p c F x g:=by
 refine A7 (Qi _ _ h) (λh=>?_) (λh=>?_)
 .refine A7 (Qi _ _ h) (λh=>?_) (λh=>?_)
  .refine ES (Xk _ 0 h) λj d B Z M=>?_;subst B
   exact .fn _ d (by rw[Be];exact Z) M
  .have h:=mem_of_lookup h
   refine A7 (Ao.mp h) (λe=>?_) (λh=>?_)
   .cases e;exact .cls rfl
   refine A7 (Ao.mp h) (λe=>?_) (λh=>?_)
   .cases e;exact .lam
   refine AW (Ab.mp h) λe he q=>?_
   cases q;exact .exc e he rfl
 .refine AW (Kb.mp (mem_of_lookup h)) λy _ e=>?_
  obtain⟨rfl,⟨z,rfl,q⟩ | ⟨z,rfl,q⟩⟩:=eG e
  .exact .str z q
  .exact .int z q
noncomputable def UB(mg:Str->Option AV)(x:Str):Addr:=match mg x with
 |some (.ref a)=>a
 |_=>0
theorem Sv(e:mg x=some (.ref a)):UB mg x=a:=by unfold UB;rw[e]
noncomputable def MT(mg mN:Str->Option AV)(p:DU)(c:Mc)(i:Nat):Addr:=match (Nr p)[i]? with
 |some d=>UB mg d.name
 |none=>match c.meths[i-(Nr p).length]? with
  |some m=>UB mN m.name
  |none=>0
theorem kf(h:(IZ p c)[i]?=some d):(∃e,(Nr p)[i]?=some e/\d=tD e)\/((Nr p)[i]?=none/\∃m,c.meths[i-(Nr p).length]?=some m/\d=sd m):=by
 unfold IZ at h
 refine A7 (Fp i (Nr p).length) (λhi=>?_) (λhi=>?_)
 .rw[A3 (by rw[AA];exact hi),As] at h
  refine AW (Av.mp h) λe B q=>?_
  exact .inl ⟨e,B,q.symm⟩
 .rw[Ak (by rw[AA];exact hi),AA,As] at h
  refine AW (Av.mp h) λm hm q=>?_
  exact .inr ⟨EP hi,m,hm,q.symm⟩
def y1(p:DU)(c:Mc)(wh:Wh)(x:Str):Gl->Prop
 | .fn i=>∃d:Jd,(IZ p c)[i]?=some d/\d.name=x
 | .cls C i=>C=wh.C/\i=wh.i
 | .SD a b=>a=wh.cN/\b=wh.tP
 | .exc k ks=>∃e:tm,e∈wh.xt/\e.name=x/\e.k=k/\e.kids=ks
 | .str z=>valOf p x=some (.str z)
 | .int z=>valOf p x=some (.int z)
theorem IB(h:(Jq p c B).lookup x=some g):y1 p c B x g:=by
 cases dF h with
 |fn i d a b=>exact⟨d,a,b⟩
 |cls _=>exact⟨rfl,rfl⟩
 |lam=>exact⟨rfl,rfl⟩
 |exc e a b=>exact⟨e,a,b,rfl,rfl⟩
 |str z a=>exact a
 |int z a=>exact a
theorem P2{B:Type}{x:B}{P:Prop}(h:(none:Option B)=some x):P:=by injection h
theorem P9{P:Prop}(h:false=true):P:=(BD h).elim
theorem pO(h:vStr v=true):∃x t,v=.str x t:=by
 cases v with
 |str x t=>exact⟨x,t,rfl⟩
 |_=>exact P9 h
theorem Z4(h:vInt v=true):∃x t,v=.int x t:=by
 cases v with
 |int x t=>exact⟨x,t,rfl⟩
 |_=>exact P9 h
theorem j4(h:vBool v=true):∃x,v=.bool x:=by
 cases v with
 |bool x=>exact⟨x,rfl⟩
 |_=>exact P9 h
theorem qN(h:vW v=some a):v=.ref a:=by
 cases v with
 |ref b=>exact congrArg Cm (AG h)
 |_=>exact P2 h
theorem ai(h:rT d=some vs):d=.fields vs:=by
 cases d with
 |fields us=>exact congrArg Data.fields (AG h)
 |_=>exact P2 h
theorem aX(h:rh d=some c):d=.cls c:=by
 cases d with
 |cls b=>exact congrArg Data.cls (AG h)
 |_=>exact P2 h
theorem nh(h:vz d=some f):d=.func f:=by
 cases d with
 |func b=>exact congrArg Data.func (AG h)
 |_=>exact P2 h
theorem IH{B:Type}{o:Option B}{p:B->Bool}(h:o.any p=true):∃x,o=some x/\p x=true:=by
 cases o with
 |none=>exact P9 h
 |some x=>exact⟨x,rfl,h⟩
structure N3(wh:Wh)(mg:Str->Option AV)(h:Heap):Prop where
 cls:mg CR=some (.ref wh.C)
 exc:∀e∈wh.xt,mg e.name=some (.ref e.k)/\∃o cd,h.get? e.k=some o/\o.data=.cls cd/\cd.mro=e.mro
 names:∃oC cd m f o fd,h.get? wh.C=some oC/\oC.data=.cls cd/\h.Ns cd.ns m/\m "names"=some (.ref f)/\h.get? f=some o/\o.data=.func fd/\fd.code=.ref wh.cN
 code:CodeHd h wh.cN wh.tP
 tab:h.get? wh.tP=some (tabObj #[])
theorem n6(h:US wh s=true):N3 wh (s.heap.nsMap De) s.heap:=by
 unfold US at h
 simp only[BK,decide_eq_true_eq,BF] at h
 obtain⟨⟨⟨⟨h1,h2⟩,h3⟩,h4⟩,h5⟩:=h
 refine⟨h1,λe Z=>⟨(h2 e Z).1,?_⟩,?_,?_,?_⟩
 .refine AW (IH (h2 e Z).2) λo B h=>?_
  refine AW (IH h) λcd hd h=>?_
  exact⟨o,cd,B,aX hd,of_decide_eq_true h⟩
 .refine AW (IH h3) λoC B h=>?_
  refine AW (IH h) λcd hd h=>?_
  have h:=AJ.mp h
  refine AW (IH h.2) λf hf h'=>?_
  refine AW (B3.mp hf) λv hv hr=>?_
  refine AW (IH h') λo hfd h'=>?_
  refine AW (IH h') λfd Z h'=>?_
  exact⟨oC,cd,_,f,o,fd,B,aX hd,.of_isNs h.1,hv.trans (congrArg some (qN hr)),hfd,nh Z,of_decide_eq_true h'⟩
 .refine AW (IH h4) λo B h=>?_
  have h:=AJ.mp h
  refine AW (IH h.2) λvs hd h'=>?_
  have h':=AJ.mp h'
  have M:=AJ.mp h'.2
  have F:=AJ.mp M.2
  have b3:=AJ.mp F.2
  have b4:=AJ.mp b3.2
  have k1:=of_decide_eq_true h'.1
  refine FR (pO M.1) λ_ _ k2=>?_
  refine FR (Z4 F.1) λ_ _ k3=>?_
  refine Cq (j4 b3.1) λ_ k4=>?_
  refine FR (Z4 b4.1) λ_ _ k5=>?_
  exact⟨_,vs,_,_,_,_,_,_,_,B,of_decide_eq_true h.1,ai hd,k1,by rw[DT,k1];rfl,k2,k3,k4,k5,of_decide_eq_true b4.2⟩
 .refine AW (IH h5) λo B h=>?_
  have h:=AJ.mp h
  have M:=AJ.mp h.2
  have F:=AJ.mp M.2
  refine AW (IH F.2) λvs hd h'=>?_
  rw[B]
  show some (⟨o.cls,o.dict,o.data,o.slots⟩:Obj)=_
  rw[of_decide_eq_true h.1,DF.mp M.1,JF (of_decide_eq_true F.1),ai hd,JF (of_decide_eq_true h')]
theorem N3.keeps(x:N3 wh mg h)(k:∀b o,h.get? b=some o->h'.get? b=some o):N3 wh mg h' where
 cls:=x.cls
 exc e he:=by refine Ml (x.exc e he) λa o M B r=>?_;exact⟨a,o,M,k _ _ B,r⟩
 names:=by refine Cq x.names λoC F=>EA F λM m f F=>Ej F λo fd B e2 n Z e4 r=>?_;exact⟨oC,M,m,f,o,fd,k _ _ B,e2,n.keeps k,Z,k _ _ e4,r⟩
 code:=x.code.keeps k
 tab:=k _ _ x.tab
end Mine.Internal
namespace Mine.Internal
open PySem PySem.Calls PySem.W PyProof.Rows
set_option genSizeOf false
set_option genInjectivity false
section
variable {h:Heap} {P:Addr} (hP:h.get? P=some (tabObj #[]))
include hP
theorem Z2(e:h.get? b=some o)(hd:o.data≠.fields #[]):(h.hide P).get? b=some o:=
 (Heap.hide_ne _ λq=>by rw[q,hP] at e;cases e;exact hd rfl).trans e
theorem Oh(x:h.Ns a m):(h.hide P).Ns a m:=by refine CW x λo es ep e d r=>?_;exact⟨o,es,ep,Z2 hP e (by rw[d];exact λh=>by injection h),d,r⟩
theorem uw(x:h.Ns a m):a≠P:=λq=>by
 refine CW x λo es ep e d r=>?_
 rw[q,hP] at e;cases e;cases d
theorem bF(x:h.CodeRec v q):(h.hide P).CodeRec v q:=by
 refine Cq x λc B=>EJ B λo vs t e g d r=>?_
 refine⟨c,o,vs,t,e,Z2 hP g λz=>?_,d,r⟩
 rw[d] at z;cases z;simp at r
theorem lZ(x:OwnTail h B F):OwnTail (h.hide P) B F:=by
 induction x with
 |base=>exact .base
 |own e n i _ M=>exact .own (Z2 hP e λh=>by injection h) (Oh hP n) i M
theorem qP(x:ClsAt h C N B):ClsAt (h.hide P) C N B:=
 by refine Ei x.obj λnm q bs sn sub col dd k0 k1 k2 k3 k5 e=>?_;exact⟨⟨nm,q,bs,sn,sub,col,dd,k0,k1,k2,k3,k5,Z2 hP e λh=>by injection h⟩,Oh hP x.ns⟩
theorem rN(x:CodeHd h c P):CodeHd (h.hide P) c P:=by
 refine EA x λo vs F Z=>EA Z λtf B tg Z=>FZ Z λinF M tt e1 e2 e3 e4 r=>?_
 refine⟨o,vs,F,tf,B,tg,inF,M,tt,Z2 hP e1 λz=>?_,e2,e3,e4,r⟩
 rw[e3] at z;cases z;simp at e4
end
theorem nr(m:Str):(CR++"."++m:Str).cps.toList=(CR.cps.toList++[46])++m.cps.toList:=by
 show ((CR.cps++(⟨#[46]⟩:Str).cps)++m.cps).toList=_
 rw[CM,CM]
theorem aW(e:CR++"."++a=CR++"."++b):a=b:=by
 have:=congrArg (λs:Str=>s.cps.toList) e
 simp only[nr] at this
 have:=Pu.mp (Lh this)
 cases a;cases b
 simp only at this
 rw[this]
structure QT(p:DU)(loose:List Str)(c:Mc)(wh:Wh):Prop where
 mem:c∈plainsOf p loose
 name:c.name=CR
 quiet:Um.all (c.withCmp.quiet.contains ·)=true
 uH:((Nr p).all λd=>Qe d.name)=true
 init:isFn ((Jq p c wh).lookup (CR++"."++"__init__")) wh.i=true
 wI:(wh.xt.all λe=>(ownsOf p).any λo=>o.name==e.name&&o.bm==wR&&o.newId=="ValueError.__new__")=true
 kids:(wh.xt.all λe=>wh.xt.all λe'=>e'.mro.contains (.ref e.k)==e.kids.contains e'.k)=true
 uL:(Gz.all λx=>((Jq p c wh).lookup x).isNone)=true
 blt:(Gz.all λx=>!(startupNames.contains x||loose.contains x||((Nr p).map (·.name)).contains x||((litsOf p).map (·.1)).contains x||((clssOf p loose).map (·.name)).contains x)||((Jq p c wh).lookup x).isSome)=true
 lit:((litsOf p).all λx=>((Nr p).map (·.name)).contains x.1==false)=true
theorem sO{h:Heap}{a:Addr}{m m':Str->Option AV}(x:h.Ns a m)(y:h.Ns a m'):m=m':=by
 refine EJ x λo es ep e d _ f=>?_
 refine EJ y λo' es' Z F B _ M=>?_
 cases e.symm.trans F;cases d.symm.trans B
 funext n;rw[<- f,<- M]
section
variable {p q:DU} {w:IW} {loose:List Str} {mean:ExcName->Option AV} {mg mb:Str->Option AV} {h:Heap} {c:Mc} {wh:Wh}
noncomputable abbrev nH(p q:DU)(w:IW)(c:Mc)(wh:Wh)(h:Heap)(mg mb mN:Str->Option AV):Lw:=⟨⟨h.hide wh.tP,p,w⟩,wh.xt.map (·.k),Jq q c wh,MT mg mN q c,mg,mb,none,(λ_ h=>by injection h)⟩
inductive j2(q:DU)(c:Mc)(mg mN:Str->Option AV)(a:Addr)(i:Nat)(d:Jd)(o:Obj)(fd:ZP):Prop
 |fn (e:DefRec):(Nr q)[i]?=some e->d=tD e->mg e.name=some (.ref a)->j2 q c mg mN a i d o fd
 |me (m:MethRec):d=sd m->mN m.name=some (.ref a)->o.cls=.type "function"->fd.qualname=CR++"."++m.name->j2 q c mg mN a i d o fd
inductive xe(h:Heap)(q:DU)(c:Mc)(mg mN:Str->Option AV)(a:Addr)(i:Nat)(d:Jd):Prop
 |mk (o:Obj) (fd:ZP):h.get? a=some o->o.data=.func fd->h.CodeRec fd.code fd.qualname->fd.globals=De->fd.builtins=LV->fd.body=.stmts d.body->fd.closure=[]->fd.defaults=.none->fd.params=d.params->fd.scope=d.scope->j2 q c mg mN a i d o fd->xe h q c mg mN a i d
theorem VX(T:Top q loose mean mg mb h)(A:PlainAt h c.withCmp wh.C N B)(hd:(IZ q c)[i]?=some d)(hn:c.name=CR):xe h q c mg B (MT mg B q c i) i d:=by
 rcases kf hd with ⟨e,he,rfl⟩ | ⟨h0,m,hm,rfl⟩
 .refine FR (T.fn e (Ae he)) λa o M=>EJ M λpm cd F h1 h2 h3 h4=>?_
  have Z:MT mg B q c i=a:=by unfold MT;rw[he];exact Sv h1
  rw[Z]
  exact .mk o _ h2 h3 h4 rfl rfl rfl rfl rfl rfl rfl (.fn e he rfl h1)
 .refine FR (A.meths m (Ae hm)) λf o M=>FZ M λpm cd F e1 e2 e3 e4 e5=>?_
  have Z:MT mg B q c i=f:=by unfold MT;rw[h0];dsimp only;rw[hm];exact Sv e1
  rw[Z]
  exact .mk o _ e2 e4 e5 rfl rfl rfl rfl rfl rfl rfl (.me m rfl e1 e3 (by show c.name++"."++m.name=_;rw[hn]))
theorem Uh(T:Top q loose mean mg mb h)(S:N3 wh mg h)(A:PlainAt h c.withCmp wh.C N mN)(ok:QT q loose c wh):NC ((nH p q w c wh h mg mb mN).K P d) (Jq q c wh) (MT mg mN q c) mg mb where
 ns:=Oh S.tab T.g
 wX:=Oh S.tab T.b
 nolimit:=by refine AW T.nolimit λmc a b=>?_;exact⟨mc,Oh S.tab a,b⟩
 fn x i B hm:=by
  refine AW (IB B) λd hd M=>?_
  cases VX T A hd ok.name with
  |mk o fd _ _ _ _ _ _ _ _ _ _ alt=>cases alt with
   |fn e _ z h1=>exact M▸z▸h1
   |me m z _ _ _=>exact absurd (M.symm.trans (congrArg Jd.name z)) (hm m.name)
 eI x i B:=by
  refine AW (IB B) λd hd M=>?_
  .exact(VX T A hd ok.name).casesOn λo fd h1 h2 _ _ _ _ _ _ _ _ _=>⟨o,fd,Z2 S.tab h1 (by rw[h2];nofun),h2⟩
 str x z B:=AW (T.const x _ (IB B)) λv hv r=>AW (PyProof.Rows.reads_str_inv (r h)) λt e _=>⟨t,e▸hv⟩
 int x z B:=AW (T.const x _ (IB B)) λv hv r=>AW (PyProof.Rows.reads_int_inv (r h)) λt e _=>⟨t,e▸hv⟩
 blt x B hn:=by
  have:=BF.mp ok.blt x B
  rw[hn] at this
  simp only[Option.isSome_none,OP,CB,JX] at this
  obtain⟨⟨⟨⟨a1,a2⟩,a3⟩,a4⟩,a5⟩:=this
  exact T.free x (λm=>BQ.mp a1 (Dk.mpr m)) (λm=>BQ.mp a2 (Dk.mpr m)) (λm=>BQ.mp a3 (Dk.mpr m)) (λm=>BQ.mp a4 (Dk.mpr m)) (λm=>BQ.mp a5 (Dk.mpr m))
 bv:=T.builtins
 cls C i B:=by
  have key:∀m j,(Jq q c wh).lookup (CR++"."++m)=some (.fn j)->ZI (h.hide wh.tP) mN m (MT mg mN q c j):=λm j hj=>by
   refine AW (IB hj) λd hd M=>?_
   cases VX T A hd ok.name with
   |mk o fd h1 h2 _ _ _ _ _ _ _ _ alt=>cases alt with
    |fn e F z _=>exact absurd ((congrArg Jd.name z).symm.trans M) (Kr (BF.mp ok.uH e (Ae F)) m)
    |me m' z h3 h4 _=>exact⟨aW ((congrArg Jd.name z).symm.trans M)▸h3,o,fd,Z2 S.tab h1 (by rw[h2];nofun),h4,h2⟩
  obtain⟨rfl,rfl⟩:=IB B
  exact⟨S.cls,N,mN,qP S.tab A.cls,λn hn=>A.quiet n (Dk.mp (BF.mp ok.quiet n hn)),key,key _ _ (Z7 ok.init)⟩
 exc x k ks B:=by
  refine Ge (IB B) λe M hn zk zs=>?_
  .subst zk;subst zs
   refine⟨hn▸(S.exc e M).1,Ab.mpr ⟨e,M,rfl⟩,λk' hk'=>?_⟩
   refine AW (Ab.mp hk') λe' F ze1=>?_;subst ze1
   refine IG (S.exc e' F) λb1 o cd b2 Z b4=>?_
   refine AW (QG.mp (BF.mp ok.wI e' F)) λow ho hq=>?_
   simp only[BK,beq_iff_eq] at hq
   obtain⟨⟨q1,q2⟩,q3⟩:=hq
   refine AW (T.own ow ho) λC' O _=>?_
   have O':=O.own
   cases (q1▸O'.bound).symm.trans b1
   refine FR O'.obj λbm N' zh=>Ei zh λnm qn bs hdct sn sub ab col dd k0 k1 k2 zh=>EJ zh λk3 k5 mN' hC hN hni TL=>?_
   rw[q3] at hC
   have e3:=Data.cls.inj (Z.symm.trans (congrArg Iv (AG (b2.symm.trans hC))))
   refine⟨e'.mro,.mk bm N' nm qn bs hdct sn sub ab col dd k0 k1 k2 k3 k5 mN' (Z2 S.tab hC λh=>by injection h) (Oh S.tab hN) hni (lZ S.tab (q2▸TL)) ((congrArg ClassData.mro e3).symm.trans b4),?_⟩
   exact beq_iff_eq.mp (BF.mp (BF.mp ok.kids e M) e' F)
 pl _ _ _:=rfl
 wN _ _ _ _:=rfl
 lam cN P' B:=by
  obtain⟨rfl,rfl⟩:=IB B
  .refine⟨rN S.tab S.code,?_,uw S.tab T.g⟩
   refine Ej T.bmain λbm ob b1 b2 Z b4 b5 b6=>?_
   refine⟨bm,ob,b1,b2,λz=>?_,λz=>?_,Z2 S.tab Z (by rw[b6];exact λh=>by injection h),b4,b5,b6⟩
   .refine CW T.g λo' es ep e dd _=>?_
    rw[z,e] at Z;cases Z;rw[b6] at dd;cases dd
   .rw[z,S.tab] at Z;cases Z;cases b6
abbrev Reads(G:PW)(ds:List Jd)(extra:Nat)(P:List (Fn×Bool)):Prop:=∀(K:Ctx) (fa:Nat->Addr) (mg mb:Str->Option AV) (B:Bg K G fa mg mb) (S:KW K G),OG (λd:Jd=>(wF B S extra d.body d.scope d.params).map Subtype.val) ds=some P
theorem gh{α Z:Type}{f:α->Option Z}(as:List α):∀{bs:List Z} {i:Nat} {b:Z},OG f as=some bs->bs[i]?=some b->∃a,as[i]?=some a/\f a=some b:=by
 induction as with
 |nil=>intro bs i b h B;rw[<- AG h] at B;exact absurd B.symm (AY b)
 |cons a as ih=>
  intro bs i b h B
  refine AW (B3.mp h) λy hy h=>?_
  refine AW (Av.mp h) λys F M=>?_
  rw[<- M] at B
  cases i with
  |zero=>exact⟨a,rfl,AG B▸hy⟩
  |succ i=>exact ih F B
noncomputable abbrev se(ds:List Jd)(P:List (Fn×Bool)):List (Jd×(Fn×Bool)):=(ds.zip P).filter λz=>Tt.contains z.1.name
abbrev Ym(G:PW)(ds:List Jd)(extra:Nat)(P:List (Fn×Bool)):Prop:=∀(K:Ctx) (fa:Nat->Addr) (mg mb:Str->Option AV) (B:Bg K (fH G) fa mg mb) (S:KW K (fH G)),OG (λz:Jd×(Fn×Bool)=>(wF B S extra z.1.body z.1.scope z.1.params).map Subtype.val) (se ds P)=some ((se ds P).map (·.2))
theorem cD{B M:Type}{f:B->Option M}{g:B->M}{l:List B}(h:OG f l=some (l.map g)):∀z∈l,f z=some (g z):=by
 induction l with
 |nil=>intro z m;cases m
 |cons a l Z=>
  refine AW (B3.mp h) λy hy h=>?_
  refine AW (Av.mp h) λys F e=>?_
  injection e with e1 e2
  intro z m
  rcases Ao.mp m with rfl | m
  .rw[hy,e1]
  .exact Z (e2▸F) z m
noncomputable abbrev Lw.ext(l:Lw)(a:Addr)(o:Obj)(w:qf o):Lw:=⟨l.h₀.ext a o,l.O5,fH l.G,l.fa,l.mg,l.mb,some a,λb e=>AG e▸w.elim λvs q=>⟨o,vs,Nf w,q⟩⟩
theorem tF(T:Top q loose mean mg mb h)(S:N3 wh mg h)(A:PlainAt h c.withCmp wh.C N mN)(ok:QT q loose c wh)(hP:Ym (Jq q c wh) (IZ q c) extra P)(hk:∀(i:Nat) (r:Fn×Bool),P[i]?=some r->r.2=true->∃d:Jd,(IZ q c)[i]?=some d/\d.name=CR++"."++"names")(n:(h.hide wh.tP).get? a=none):rg ((nH p q w c wh h mg mb mN).ext a ob x) (P.map (·.1)) where
 g d:=ay (o:=ob) (w:=x) (Uh (p:=p) (w:=w) (P:=P.map Prod.fst) (d:=d) T S A ok) n λy hy=>DF.mp (BF.mp ok.uL y hy)
 so d:=Z6 (ay (o:=ob) (w:=x) (Uh (p:=p) (w:=w) (P:=P.map Prod.fst) (d:=d) T S A ok) n λy hy=>DF.mp (BF.mp ok.uL y hy))
 fn y i fn F hi:=by
  rw[As] at hi
  refine AW (Av.mp hi) λr hr ze1=>?_;subst ze1
  have F:=Y6 F
  refine AW (IB F.2) λd hd he=>?_
  refine(VX T A hd ok.name).casesOn λo fd h1 h2 h3 h4 h5 h6 h7 h8 h9 Z _=>?_
  refine⟨o,fd,d.body,Gu n _ _ (Z2 S.tab h1 (by rw[h2];exact λh=>by injection h)),h2,(bF S.tab h3).keeps (Gu n),h4,h5,h6,h7,h8,λm B S'=>?_⟩
  have hz:(d,r)∈se (IZ q c) P:=Dp.mpr ⟨Ae (i:=i) (by rw[Hj];exact⟨hd,hr⟩),by rw[Dk,he];exact F.1⟩
  have e:=cD (hP _ _ _ _ B S') _ hz
  refine AW (Av.mp e) λz _ e=>?_
  have e:z.1=r:=e
  refine Cq (z.2) λargs hz=>?_
  rw[h9,Z]
  refine⟨args,e▸hz _ _ λhb=>?_⟩
  refine AW (hk i r hr (e▸hb)) λd'' M hn=>?_
  cases hd.symm.trans M
  rw[<- he,hn] at F
  exact absurd F.1 (by decide +kernel)
theorem uv(T:Top q loose mean mg mb h)(S:N3 wh mg h)(A:PlainAt h c.withCmp wh.C N mN)(ok:QT q loose c wh)(hP:Reads (Jq q c wh) (IZ q c) extra P)(hk:∀(i:Nat) (r:Fn×Bool),P[i]?=some r->r.2=true->∃d:Jd,(IZ q c)[i]?=some d/\d.name=CR++"."++"names"):rg (nH p q w c wh h mg mb mN) (P.map (·.1)) where
 g d:=Uh T S A ok
 so d:=Z6 (Uh (P:=P.map (·.1)) (d:=d) T S A ok)
 fn x i fn hx hi:=by
  rw[As] at hi
  refine AW (Av.mp hi) λr hr Z=>?_;subst Z
  refine AW (IB hx) λd hd he=>?_
  refine(VX T A hd ok.name).casesOn λo fd h1 h2 h3 h4 h5 h6 h7 h8 h9 h10 alt=>?_
  refine⟨o,fd,d.body,Z2 S.tab h1 (by rw[h2];exact λh=>by injection h),h2,bF S.tab h3,h4,h5,h6,h7,h8,λn B S'=>?_⟩
  refine AW (gh _ (hP _ _ _ _ B S') hr) λd' hd' e=>?_
  cases hd.symm.trans hd'
  refine AW (Av.mp e) λz _ e=>?_
  refine Cq (z.2) λargs hz=>?_
  rw[h9,h10]
  refine⟨args,e▸hz _ _ λhb=>?_⟩
  refine AW (hk i r hr (e▸hb)) λd'' M hn=>?_
  cases hd.symm.trans M
  cases alt with
  |fn e' he' z _=>exact absurd ((congrArg Jd.name z).symm.trans hn) (Kr (BF.mp ok.uH e' (Ae he')) _)
  |me m z hm _ hq=>
   have F:m.name="names":=aW ((congrArg Jd.name z).symm.trans hn)
   refine⟨λc' P' hl=>?_,by rw[hq,F];decide +kernel⟩
   have ec:c'=wh.cN:=(IB hl).1
   rw[ec]
   refine GR S.names λoC cd m' f o' fd' g1 g2 g3 g4 g5 g6 g7=>?_
   refine Ei A.cls.obj λnm q' bs sn sub col dd k0 k1 k2 k3 k5 gC=>?_
   have e2:=Data.cls.inj (g2.symm.trans (congrArg Iv (AG (g1.symm.trans gC))))
   have en:cd.ns=N:=congrArg ClassData.ns e2
   have e3:m'=mN:=sO (en▸g3) A.cls.ns
   have e4:=Rd (AG (g4.symm.trans (by rw[e3,<- F];exact hm)))
   have e5:=AG (g5.symm.trans (by rw[e4];exact h1))
   have e6:=Data.func.inj (g6.symm.trans (by rw[e5];exact h2))
   exact e6▸g7
end
theorem kG:∀{vs:List AV},WellAll P h vs (ofPys (xs.map PyData.int))->JN vs xs:=by
 induction xs with
 |nil=>intro vs x;rw[XE,ofPys] at x;cases x;exact .nil
 |cons i xs B=>
  intro vs x
  rw[B6,ofPys,ofPy] at x
  cases x with
  |cons a b=>cases a;exact .cons i _ (B b)
theorem dE(x:Well P h (.ref l) (ofPy (.list (xs.map PyData.int)))):∃vs,h.get? l=some { cls:=.type "list", data:=.seq vs.toArray }/\JN vs xs:=by
 rw[ofPy] at x
 cases x with
 |list e a=>exact⟨_,e,kG a⟩
section
variable {p q:DU} {w:IW} {loose:List Str} {mean:ExcName->Option AV} {mg mb:Str->Option AV} {c:Mc} {wh:Wh}
noncomputable def vI{s:Aj}{l:Addr}{vs:List AV}{xs:List Int}{P:Addr}(hl:s.heap.get? l=some { cls:=.type "list", data:=.seq vs.toArray })(hv:JN vs xs)(hz:xs.length<=63)(hP:s.heap.get? P=some (tabObj #[])):Cf ⟨s.heap.hide P,p,w⟩:=
 ⟨s,[l,P],[.list (xs.map .int),.tab P],λ_ _ e=>Heap.of_hide e,rfl,Ds.mpr ⟨(λm=>by rw[AM.mp m,hP] at hl;cases hl),Ds.mpr ⟨BU,GF⟩⟩,λn a e=>by
   cases n with
   |zero=>exact AG e▸Heap.hide_self _ _
   |succ n=>exact absurd (e:none=some a).symm (AY a),λn o e=>by
   cases n with
   |zero=>exact⟨l,rfl,AG e▸⟨vs.toArray,0,hl,Ou hv,by rw[AA];exact AF hz (by decide)⟩⟩
   |succ n=>cases n with
    |zero=>exact⟨P,rfl,AG e▸⟨rfl,hP⟩⟩
    |succ n=>exact absurd (e:none=some o).symm (AY o)⟩
theorem tY(T:Top q loose mean mg mb s1.heap)(TE:TopE q loose mg s1.heap)(S:N3 wh mg s1.heap)(ok:QT q loose c wh)(hP:Reads (Jq q c wh) (IZ q c) extra P)(hPH:Ym (Jq q c wh) (IZ q c) extra P)(hk:∀(i:Nat) (r:Fn×Bool),P[i]?=some r->r.2=true->∃d:Jd,(IZ q c)[i]?=some d/\d.name=CR++"."++"names")(hi:(Jq q c wh).lookup name=some (.fn i))(Z:Qe name=true)(hd:d<=100)(hmg:mg name=some (.ref a))(hg:s1.gens=#[])(hl:s1.heap.get? l=some { cls:=.type "list", data:=.seq vs.toArray })(hv:JN vs xs)(hz:xs.length<=63)(hr:∀cls,cl.raises args cls=false)(F:cl.post args (.bool true) args=true)(plain:callW (P.map (·.1)) d i [.ref 0] [.list (xs.map .int),.tab wh.tP] (λv σ=>v=.bool true/\∃o,σ[1]?=some o/\(o=.tab wh.tP\/∃ln col m,o=.row wh.tP ln col m)) λ_ _=>False) :
  Lp (Cz p w) callerA (.call (.ref a) ⟨[.ref l],[]⟩) (GoodWG cl cw mean args s1) s1:=by
 refine KU (TE c ok.mem) λC N mN hC A=>?_
 have z:=Rd (AG ((ok.name▸hC).symm.trans S.cls));subst z
 have lo:=uv (p:=p) (w:=w) T S A ok hP hk
 have g:=lo.g d
 have z:=Rd (AG (hmg.symm.trans (g.fn name i hi (Kr Z))));subst z
 have R:aJ ((nH p q w c wh s1.heap mg mb mN).K (P.map (·.1)) d) [] callerA:=⟨rfl,by show 1+claimMargin+3*d<903;unfold claimMargin;exact Ec .lt (.a (.a .n1 (.n 300)) (.m 3 .v0)) (.n 903) (.w 3 (.l .v0 (.n 100) .e)) rfl hd,by show 4+12*d<9009;exact Ec .lt (.a (.n 4) (.m 12 .v0)) (.n 9009) (.w 12 (.l .v0 (.n 100) .e)) rfl hd,rfl⟩
 refine K3 (fj lo (λ_ a ob x n d'=>have lx:=tF (p:=p) (w:=w) (ob:=ob) (x:=x) T S A ok hPH hk n;⟨fj lx (λh=>by injection h) d',lx.g d'⟩) d name i hi callerA [] (vI hl hv hz S.tab) [.ref 0] [.ref l] _ _ R (λ_ m=>(absurd m BU)) ⟨⟨l,rfl,rfl⟩,trivial⟩ plain) λr s' y=>?_
 cases r with
 |error e=>exact(PX.no (λ_ _ f=>f) y).elim
 |ok o=>cases o with
  |ret v=>
   obtain⟨c',V,st,r,rfl,o,ho,hrow⟩:=(y:PV _ _ _ _)
   cases r
   have eP:c'.φ[1]?=some wh.tP:=IF st.pre rfl
   have B:∃us,c'.s.heap.get? wh.tP=some (tabObj us):=by
    refine AW (c'.sim.obj 1 o ho) λa' ea ra=>?_
    have z:=AG (eP.symm.trans ea);subst z
    rcases hrow with rfl | ⟨ln,col,m,rfl⟩
    .exact⟨_,ra.2⟩
    .refine FH ra λ_ _ _ e=>?_;exact⟨_,e⟩
   refine Cq B λus B=>?_
   have kp:∀b o,b≠wh.tP->s1.heap.get? b=some o->c'.s.heap.get? b=some o:=λb o M e=>c'.sim.keep b o ((Heap.hide_ne _ M).trans e)
   refine⟨.inl ⟨.bool true,.bool true,[],rfl,hr,.bool true,F,λ_=>⟨GF,λ_ h=>nomatch h⟩⟩,⟨λb o e=>?_,λb o e=>?_⟩,st.only.1,.of_eq (st.only.2.trans hg)⟩
   .by_cases M:b=wh.tP
    .subst M
     rw[S.tab] at e;cases e
     exact .inr (.inl ⟨(S.code.tab S.tab).isCodeTable,rfl,#[],us,rfl,by rw[B];simp⟩)
    .exact .inl (kp b o M e)
   .by_cases M:b=wh.tP
    .subst M;exact⟨_,B⟩
    .exact⟨o,kp b o M e⟩
  |_=>exact y.elim
end
end Mine.Internal
namespace Mine.Internal
open PySem PySem.Calls PySem.W PyProof.Rows
theorem rX(e:opening p=plainProg p.main.scope.names)(hN:Nat.ble 600 N=true)(f:∀s,fenceModules? p s=some s)(M:∀w os,tn p q Xt N w os=some (openGood q [])):LeftO p q [] Xt (λ_=>()) (λ_=>()) N:=λw=>by
 obtain⟨⟨h,gs,d,k,os⟩,e1,e2⟩:=Av.mp (boot_open e hN f w)
 obtain⟨rfl,rfl,rfl,rfl⟩:h=D7 w.params/\gs=M3 []/\d=LR/\k=M4:=by simpa using e2
 unfold openEnds
 rw[e1]
 have r:=M w os
 unfold tn at r
 rw[<- PySem.W.Fast.te5923862056798008813,<- PySem.W.Fast.te4187177175401517315] at r
 show (topFrom U1 p w N _).map _=_
 unfold topFrom
 cases h1:(D7 w.params).isNs De with
 |false=>rw[h1] at r;exact absurd r.symm (AY _)
 |true=>
  rw[h1] at r
  dsimp only at r ⊢
  obtain⟨s1,F,r2⟩:=B3.mp r
  have F:=ZE F
  refine(?_:((topRun U1 p w (D7 w.params).objs.size ((D7 w.params).nsMap De "__annotations__") N ⟨D7 w.params,M3 [],LR,M4,os⟩ (topStub p)).bind _).map _=_)
  have Z:topRun U1 p w (D7 w.params).objs.size ((D7 w.params).nsMap De "__annotations__") N ⟨D7 w.params,M3 [],LR,M4,os⟩ (topStub p)=some s1.abs:=by
   rw[show (⟨D7 w.params,M3 [],LR,M4,os⟩:Aj)=SharedT.abs ⟨Q0 w.params,11,{},M3 [],LR,M4,os⟩ from congrArg (λh=>(⟨h,M3 [],LR,M4,os⟩:Aj)) (Vv w.params)]
   exact F
  rw[Z]
  cases B:(staticsOk (importedModules p.main.body) (D7 w.params) s1.abs.heap&&namesBound p s1.abs.heap&&gensDone s1.abs&&laidKept (D7 w.params) s1.abs.heap) with
  |false=>rw[B] at r2;exact absurd r2.symm (AY _)
  |true=>
   rw[B] at r2
   show ((match (staticsOk (importedModules p.main.body) (D7 w.params) s1.abs.heap&&namesBound p s1.abs.heap&&gensDone s1.abs&&laidKept (D7 w.params) s1.abs.heap) with | true=>some s1.abs | false=>none):Option Aj).map _=_
   rw[B]
   exact congrArg (λx=>some (x,())) (AG r2)
end Mine.Internal
namespace Mine.Internal
open PySem
set_option genSizeOf false
set_option genInjectivity false
noncomputable def s8:V->Bool
 | .undef=>false
 |_=>true
section
variable {C:Hl} {ρ:List V} {σ:Af} {P:BS} {X:CP} {i:Nat}
theorem PM(h:ρ[i]?=some v)(hd:s8 v=true)(q:P v σ):AD i C ρ σ P X:=by
 unfold AD;rw[h]
 cases v with
 |undef=>cases hd
 |_=>exact q
end
section
variable {σ:Af} {K:Bool->Prop} {x y:Int} {n:Nat}
theorem Q9{x y:Str}(F:Br x=true)(hy:Br y=true)(q:K (x==y)):F6 σ K .Eq (.str x) (.str y):=.eq (x:=.str x) (y:=.str y) rfl rfl F hy q
theorem j9{a b:V}{x:GP}(Z:Tp σ 6 a=some x)(M:Tp σ 6 b=some x)(F:x.canLay0=true)(q:K true):F6 σ K .Eq a b:=.eq Z M F F (by rw[PySem.SeqAt.eqv_refl x F];exact q)
theorem UL{a b:V}{x:GP}(Z:Tp σ 6 a=some x)(M:Tp σ 6 b=some x)(F:x.canLay0=true)(q:K false):F6 σ K .NotEq a b:=.ne Z M F F (by rw[PySem.SeqAt.eqv_refl x F];exact q)
variable {Q:BS}
theorem IK(h:-1000000000000000<=x)(h':x<=1000000000000000):EO x=true:=AJ.mpr ⟨decide_eq_true (Au (by decide) h),decide_eq_true (DK h' (by decide))⟩
theorem Ql(h:EO (GQ k)=true)(q:Q (.int (x*GQ k)) σ):Eb σ Q .Mult (.int x) (.int (GQ k)):=.mul (.inr h) q
theorem Sp(h:(-1000000000000000<=x/\x<=1000000000000000)\/(-1000000000000000<=y/\y<=1000000000000000))(q:Q (.int (x*y)) σ):Eb σ Q .Mult (.int x) (.int y):=.mul (h.imp (λh=>IK h.1 h.2) λh=>IK h.1 h.2) q
theorem IY(h:0<y)(q:Q (.int (x % y)) σ):Eb σ Q .Mod (.int x) (.int y):=.mod (KN h) (Int.fmod_eq_emod_of_nonneg x (C0 h)▸q)
theorem B5(h:decide ((0:Int)<GQ k)=true)(q:Q (.int (x % GQ k)) σ):Eb σ Q .Mod (.int x) (.int (GQ k)):=IY (of_decide_eq_true h) q
theorem Zx(h:0<y/\y<=1000000000000000)(q:Q (.int (x / y)) σ):Eb σ Q .FloorDiv (.int x) (.int y):=
 .div (KN h.1) (IK (Au (by decide) (C0 h.1)) h.2) (Int.fdiv_eq_ediv_of_nonneg x (C0 h.1)▸q)
theorem EK(h:(decide ((0:Int)<GQ k)&&decide ((GQ k:Int)<=1000000000000000))=true)(q:Q (.int (x / GQ k)) σ):Eb σ Q .FloorDiv (.int x) (.int (GQ k)):=
 have h:=AJ.mp h
 Zx ⟨of_decide_eq_true h.1,of_decide_eq_true h.2⟩ q
theorem aG(h:0<=k)(h':k.toNat<m):um k m k.toNat:=.inl ⟨(EH h).symm,h'⟩
theorem FG(e:σ[n]?=some (.list vs))(h:0<=k)(h':vs[k.toNat]?=some v)(q:Q v σ):KD σ Q (.ref n) (.int k):=.list e (aG h (AP.mp h').1) h' q
theorem Eg(e:σ[n]?=some (.list vs))(h:decide (0<=k)=true)(h':vs[k.toNat]?=some v)(q:Q v σ):KD σ Q (.ref n) (.int k):=FG e (of_decide_eq_true h) h' q
theorem Kg(e:σ[n]?=some (.list vs))(q:B):isList σ (.ref n)/\B:=⟨⟨n,vs,rfl,e⟩,q⟩
theorem Gq(e:σ[n]?=some (.list vs))(hn:n≠0)(F:vs.length<1000000)(q:Q .none (σ.set n (.list (vs++[v])))):oN σ Q v (.ref n):=.mk e (B9 F (by decide)) hn q
variable {A B:Prop}
theorem jm(x:b=true->A)(y:b=false->B):W2 A B b:=by
 cases b with
 |true=>exact x rfl
 |false=>exact y rfl
theorem Ca[Decidable c](a:c->A)(b:¬c->B):W2 A B (decide c):=jm (λh=>a (of_decide_eq_true h)) λh=>b (of_decide_eq_false h)
theorem lU[Decidable c](a:¬c->A)(b:c->B):W2 B A (decide c):=Ca b a
theorem MK[Decidable c](a:¬c->A)(b:c->B):W2 A B (!decide c):=by
 by_cases h:c
 .rw[decide_eq_true h];exact b h
 .rw[decide_eq_false h];exact a h
end
section
variable {σ:Af} {Q:BS} {K:Bool->Prop}
theorem w9(h:s8 v=true)(q:p):xq p v:=by
 cases v with
 |undef=>cases h
 |_=>exact q
end
theorem LO(n:Nat)(h:Ek (l.take n) C ρ σ (L4 (λM F=>Ek (l.drop n) C M F Q) Q)):Ek l C ρ σ Q:=by
 have key:∀(n:Nat) (l:List Sx) (ρ:List V) (σ:Af),Ek (l.take n) C ρ σ (L4 (λM F=>Ek (l.drop n) C M F Q) Q)=Ek l C ρ σ Q:=by
  intro n
  induction n with
  |zero=>intro l ρ σ;rfl
  |succ n ih=>
   intro l ρ σ
   cases l with
   |nil=>rfl
   |cons s ss=>
    refine congrArg (s C ρ σ) (funext λfl=>funext λρ1=>funext λZ=>?_)
    cases fl <;> first | rfl | exact ih ss ρ1 Z
 exact key n l ρ σ▸h
theorem kE(n:Nat)(h:Ek (l.take n) C ρ σ (L4 (λM F=>Ek (l.drop n) C M F Q) Q)):L4 (λM F=>Ek l C M F Q) Q .next ρ σ:=LO n h
theorem kj(n:Nat)(I:List V->Af->Prop)(h:∀R:List V->Af->Prop,(∀M F,I M F->R M F)->Ek (l.take n) C ρ σ (L4 R Q))(rest:∀M F,I M F->Ek (l.drop n) C M F Q):Ek l C ρ σ Q:=LO n (h _ rest)
noncomputable def cellAt(xs:List Int)(k:Int):Int:=xs.getD k.toNat 0
end Mine.Internal
namespace Mine.Internal
open PySem
section
variable {turn:V->List V->Af->HT->Prop} {same:Af->Prop} {Q:HT}
theorem N7(I:Nat->List V->Af->Prop)(items:List V):∀(k:Nat) (ρ:List V) (σ:Af),
  (∀i v ρ σ (R:List V->Af->Prop),items[i]?=some v->I (k+i) ρ σ->(∀F B,same B->I (k+i+1) F B->R F B)->turn v ρ σ (QV R Q))->
  (∀ρ σ,I (k+items.length) ρ σ->Q .next ρ σ)->I k ρ σ->Nb turn same items ρ σ Q:=by
 induction items with
 |nil=>exact λk ρ σ _ fin Z=>fin ρ σ Z
 |cons v vs ih=>exact λk ρ σ M fin Z=>M 0 v ρ σ _ rfl Z λF B s i=>⟨s,ih (k+1) F B (λj v ρ σ K hv hI h1=>by
   have e:k+1+j=k+(j+1):=by rw[Ed,Ci 1]
   rw[e] at hI h1
   exact M (j+1) v ρ σ K hv hI h1) (λρ σ h=>fin ρ σ (by rw[Bn,Ci vs.length,<- Ed];exact h)) i⟩
variable {ρ:List V} {σ:Af}
theorem vj(B:-1000000<=b):-(2 ^ 62)<=b:=Au (by decide) B
theorem Mm(I:Nat->List V->Af->Prop)(hb:-1000000<=b/\b<=1000000)(h0:I 0 ρ σ)(M:∀(i:Nat) ρ σ (R:List V->Af->Prop),(i:Int)<b->I i ρ σ->(∀F B,I (i+1) F B->R F B)->turn (.int i) ρ σ (QV R Q))(fin:∀ρ σ,I b.toNat ρ σ->Q .next ρ σ):∃items same,Ko σ .range [.int b] items same/\Nb turn same items ρ σ Q:=
 ⟨_,_,.range (vj hb.1) hb.2,N7 I _ 0 ρ σ (λi v ρ σ K hv hI Z=>by
  obtain⟨rfl,hi⟩:=Sr _ _ _ _ hv
  rw[Be] at hI Z
  rw[Ip]
  exact M i ρ σ K (Int.lt_toNat.mp hi) hI λF B h=>Z F B trivial h) (λρ σ h=>fin ρ σ (by rw[RG,Be] at h;exact h)) h0⟩
theorem HV(I:Nat->List V->Af->Prop)(e:σ[n]?=some (.list vs))(h0:I 0 ρ σ)(M:∀(i:Nat) v ρ σ (R:List V->Af->Prop),vs[i]?=some v->I i ρ σ->(∀F B,B[n]?=some (.list vs)->I (i+1) F B->R F B)->turn v ρ σ (QV R Q))(fin:∀ρ σ,I vs.length ρ σ->Q .next ρ σ):∃items same,Ko σ .plain [.ref n] items same/\Nb turn same items ρ σ Q:=
 ⟨_,_,.list e,N7 I _ 0 ρ σ (λi v ρ σ K hv hI Z=>by rw[Be] at hI Z;exact M i v ρ σ K hv hI Z) (λρ σ h=>fin ρ σ (by rw[Be] at h;exact h)) h0⟩
theorem tR(I:Nat->List V->Af->Prop)(e:σ[n]?=some (.list vs))(h0:I 0 ρ σ)(M:∀(i:Nat) v ρ σ (R:List V->Af->Prop),vs[i]?=some v->I i ρ σ->(∀F B,B[n]?=some (.list vs)->I (i+1) F B->R F B)->turn (.tup [.int i,v]) ρ σ (QV R Q))(fin:∀ρ σ,I vs.length ρ σ->Q .next ρ σ):∃items same,Ko σ .enum [.ref n] items same/\Nb turn same items ρ σ Q:=
 ⟨_,_,.enum e,N7 I _ 0 ρ σ (λi v ρ σ K hv hI h1=>by
  refine AW (WY _ _ _ _ hv) λu hu Z=>?_;subst Z
  rw[Be] at hI h1
  rw[Ip]
  exact M i u ρ σ K hu hI h1) (λρ σ h=>fin ρ σ (by rw[Sq,Be] at h;exact h)) h0⟩
end
section
variable {turn:V->Af->(Option V->Af->Prop)->Prop} {same:Af->Prop} {Q:List V->Af->Prop}
theorem c8(I:Nat->List V->Af->Prop)(items:List V):∀(k:Nat) (acc:List V) (σ:Af),
  (∀i v acc σ (K:Option V->Af->Prop),items[i]?=some v->I (k+i) acc σ->(∀r B,same B->I (k+i+1) (acc++r.toList) B->K r B)->turn v σ K)->
  (∀acc σ,I (k+items.length) acc σ->Q acc σ)->I k acc σ->Hf turn same items acc σ Q:=by
 induction items with
 |nil=>exact λk acc σ _ fin M=>fin acc σ M
 |cons v vs ih=>exact λk acc σ F fin M=>F 0 v acc σ _ rfl M λr B s i=>⟨s,ih (k+1) _ B (λj v acc σ K hv hI Z=>by
   have e:k+1+j=k+(j+1):=by rw[Ed,Ci 1]
   rw[e] at hI Z
   exact F (j+1) v acc σ K hv hI Z) (λacc σ h=>fin acc σ (by rw[Bn,Ci vs.length,<- Ed];exact h)) i⟩
theorem Sd{B:Type}{σ:Af}{g:B->V}(f:B->Option V)(hs:same σ)(l:List B):∀(acc:List V),(∀x∈l,∀K:Option V->Af->Prop,K (f x) σ->turn (g x) σ K)->Q (acc++l.filterMap f) σ->Hf turn same (l.map g) acc σ Q:=by
 induction l with
 |nil=>exact λacc _ q=>(Bl acc).subst (motive:=(Q · σ)) q
 |cons v vs M=>exact λacc h q=>h v AL _ ⟨hs,M _ (λu Z=>h u (Ad _ Z)) (by
  rw[Aq]
  cases F:f v with
  |none=>rw[VL F] at q;exact q
  |some x=>rw[VM F] at q;exact q)⟩
variable {σ:Af}
theorem Xs{B:Type}{n:Nat}{l:List B}{g:B->V}(f:B->Option V)(e:σ[n]?=some (.list (l.map g)))(F:l.length<=1000000)(h:∀x∈l,∀K:Option V->Af->Prop,K (f x) σ->turn (g x) σ K)(q:Q (l.filterMap f) σ):∃items same,Ko σ .plain [.ref n] items same/\items.length<=Cb/\Hf turn same items [] σ Q:=
 ⟨_,_,.list e,by rw[AA];exact F,Sd f e l [] h q⟩
end
theorem AX{σ τ:Af}{n:Nat}{o:O}(h:σ[n]?=some o):(σ++τ)[n]?=some o:=by
 rw[A3 (AP.mp h).1];exact h
theorem BP{σ B:Af}(p:σ<+:B){n:Nat}{o:O}(h:σ[n]?=some o):B[n]?=some o:=(p).elim λ_ e=>e▸AX h
theorem AZ:σ<+:σ++τ:=CU _ _
theorem Aa:(σ++[o])[σ.length]?=some o:=Co
theorem BO{σ:Af}{n m:Nat}{o x:O}(hn:n≠m)(h:σ[m]?=some o):(σ.set n x)[m]?=some o:=by
 rw[JW hn];exact h
theorem EI{σ:Af}{n:Nat}{o x:O}(h:σ[n]?=some o):(σ.set n x)[n]?=some x:=by
 rw[Ib (AP.mp h).1]
theorem lY{B:Type}{f:V->Option GP}{g:B->V}{dat:B->GP}(l:List B):(∀x∈l,f (g x)=some (dat x))->OG f (l.map g)=some (l.map dat):=by
 induction l with
 |nil=>exact λ_=>rfl
 |cons r rs F=>
  intro h
  refine(?_:(f (g r)).bind (λb=>(OG f (rs.map g)).map (b::·))=_)
  rw[F λx M=>h x (Ad _ M),h r AL];rfl
theorem Ub{B:Type}{σ:Af}{n m:Nat}{l:List B}{g:B->V}{dat:B->GP}(e:σ[n]?=some (.list (l.map g)))(h:∀x∈l,Tp σ m (g x)=some (dat x)):Tp σ (m+1) (.ref n)=some (.list (l.map dat)):=by
 show jo (Tp σ m) σ[n]?=_
 rw[e]
 show I0 _ (OG (Tp σ m) (l.map g))=_
 rw[lY l h];rfl
theorem YB{B:Type}{dat:B->GP}(l:List B):(∀x∈l,(dat x).canLay0=true)->FY (l.map dat)=true:=by
 induction l with
 |nil=>exact λ_=>rfl
 |cons r rs F=>exact λh=>by rw[B6,FY,F λx M=>h x (Ad _ M),h r AL];rfl
theorem Tz{B:Type}{l:List B}{dat:B->GP}(h:∀x∈l,(dat x).canLay0=true):(W9 (l.map dat)).canLay0=true:=by
 rw[Ri];exact YB l h
noncomputable def WG(b:Bool):V:=.str (if b then "low" else "left")
noncomputable def vt(b:Bool):GP:=.str (if b then "low" else "left")
theorem Tf:Br (AH "low")=true:=by decide +kernel
theorem bP:Br (AH "left")=true:=by decide +kernel
theorem iX:(AH "left"==AH "low")=false:=by decide +kernel
theorem UT(q:K b):F6 σ K .Eq (WG b) (.str (AH "low")):=by
 cases b
 .exact Q9 (x:=AH "left") bP Tf (by rw[iX];exact q)
 .exact Q9 (x:=AH "low") Tf Tf (by rw[beq_self_eq_true];exact q)
theorem nX:(vt b).canLay0=true:=by
 cases b
 .exact bP
 .exact Tf
end Mine.Internal
namespace Mine.Internal
noncomputable def GH(size b:Int)(r:Int×Int):Int:=if r.1<b+size/\r.2>b then r.2 else b
def JH(size:Int)(rows:List (Int×Int))(b:Int):Prop:=∀r∈rows,¬(r.1<b+size/\r.2>b)
theorem Kz:JH size (done++[r]) c↔JH size done c/\¬(r.1<c+size/\r.2>c):=
 ⟨λh=>⟨λx B=>h x (Cg _ B),h r (BB _ AL)⟩,λh x B=>(An.mp B).elim (h.1 x) λB=>AM.mp B▸h.2⟩
theorem ng(rest:List (Int×Int)):∀(done:List (Int×Int)) (b:Int),(done++rest).Pairwise (λx y=>x.1<=y.1)->JH size done b->(∀c,0<=c->c<b->¬JH size done c)->0<=b->
  JH size (done++rest) (rest.foldl (GH size) b)/\0<=rest.foldl (GH size) b/\(∀c,0<=c->c<rest.foldl (GH size) b->¬JH size (done++rest) c):=by
 induction rest with
 |nil=>intro done b _ h1 h2 h3;rw[Bl];exact⟨h1,h3,h2⟩
 |cons r rest ih=>
  intro done b hp h1 h2 h3
  have hle:∀x∈done,x.1<=r.1:=λx hx=>(BY.mp hp).2.2 x hx r AL
  rw[QC] at hp ⊢
  by_cases B:r.1<b+size/\r.2>b
  .have:=ih (done++[r]) r.2 hp (Kz.mpr ⟨λx hx hn=>h1 x hx ⟨DK (hle x hx) B.1,Ee B.2 hn.2⟩,λhn=>JV _ hn.2⟩)
    (λc Z F hf=>(Md c b).elim (λM=>h2 c Z M (Kz.mp hf).1) λM=>(Kz.mp hf).2 ⟨Cn B.1 (Np M size),F⟩) (Au h3 (C0 B.2))
   rw[Gj,show GH size b r=r.2 from if_pos B];exact this
  .have:=ih (done++[r]) b hp (Kz.mpr ⟨h1,B⟩) (λc Z F hf=>h2 c Z F (Kz.mp hf).1) h3
   rw[Gj,show GH size b r=b from if_neg B];exact this
theorem tZ(rest:List (Int×Int)):∀b:Int,rest.foldl (GH size) b=b\/∃r∈rest,rest.foldl (GH size) b=r.2:=by
 induction rest with
 |nil=>exact λb=>.inl rfl
 |cons r rest M=>
  intro b
  refine A7 (M (GH size b r)) (λh=>?_) λh=>.inr (h.elim λx F=>⟨x,Ad _ F.1,F.2⟩)
  by_cases B:r.1<b+size/\r.2>b
  .exact .inr ⟨r,AL,h.trans (if_pos B)⟩
  .exact .inl (h.trans (if_neg B))
structure bI(size room:Int)(rows:List (Int×Int))(g:Option Int):Prop where
 some:∀b,g=some b->0<=b/\b+size<=room/\JH size rows b/\(∀c,0<=c->JH size rows c->b<=c)/\(b=0\/∃r∈rows,b=r.2)
 none:g=none->∀c,0<=c->c+size<=room->¬JH size rows c
theorem wA{size room:Int}{rows B:List (Int×Int)}(hp:B.Perm rows)(hs:B.Pairwise λx y=>x.1<=y.1){g:Int}(F:g=B.foldl (GH size) 0) :
  bI size room rows (if g+size>room then none else some g):=by
 subst F
 refine FD (ng (size:=size) B [] 0 hs Hn (λc h h'=>absurd h' (CG.mpr h)) (DG 0)) λh1 h2 h3=>?_
 have M:∀c,JH size B c↔JH size rows c:=λc=>⟨λh x hx=>h x (hp.mem_iff.mpr hx),λh x hx=>h x (hp.mem_iff.mp hx)⟩
 by_cases F:B.foldl (GH size) 0+size>room
 .rw[if_pos F]
  exact⟨(λ_ h=>by injection h),λ_ c h h' hn=>h3 c h (Int.lt_of_add_lt_add_right (DK h' F)) ((M c).mpr hn)⟩
 .rw[if_neg F]
  refine⟨λb hb=>?_,(λh=>by injection h)⟩
  rw[<- AG hb]
  exact⟨h2,CG.mp F,(M _).mp h1,λc hc Z=>CG.mp λhlt=>h3 c hc hlt ((M c).mpr Z),(tZ B 0).imp id λh=>h.elim λr h=>⟨r,hp.mem_iff.mp h.1,h.2⟩⟩
structure Bx where
 p:Int
 s:Int
 pl:Int
 sl:Int
def Clear(a b p s:Int)(o:Bx):Prop:=p+a<=o.p\/o.p+o.pl<=p\/s+b<=o.s\/o.s+o.sl<=s
structure Gd(O:List Bx)(P S a b p s:Int):Prop where
 p0:0<=p
 s0:0<=s
 p1:p+a<=P
 s1:s+b<=S
 clear:∀o∈O,Clear a b p s o
structure MM(G:Int->Int->Prop)(p s:Int):Prop where
 good:G p s
 least:∀p' s',G p' s'->p<p'\/(p=p'/\s<=s')
def N0(G:Int->Int->Prop):Option (Int×Int)->Prop
 |none=>∀p s,¬G p s
 |some (p,s)=>MM G p s
theorem Qg{O:List Bx}(g:Gd O P S a b p s):∃e,e<=p/\(e=0\/(0<e/\∃o∈O,e=o.p+o.pl))/\Gd O P S a b e s:=by
 have key:∀(L:List Bx),∃e,0<=e/\e<=p/\(e=0\/(0<e/\∃o∈L,e=o.p+o.pl))/\∀o∈L,o.p+o.pl<=p->o.p+o.pl<=e:=by
  intro L
  induction L with
  |nil=>exact⟨0,DG 0,g.p0,.inl rfl,λ_ h=>nomatch h⟩
  |cons x L ih=>
   refine Ge ih λe B M h2 h3=>?_
   by_cases F:x.p+x.pl<=p/\e<x.p+x.pl
   .exact⟨x.p+x.pl,Au B (C0 F.2),F.1,.inr ⟨DK B F.2,x,AL,rfl⟩,Dz.mpr ⟨λ_=>DG _,λo Z hp=>Au (h3 o Z hp) (C0 F.2)⟩⟩
   .exact⟨e,B,M,h2.imp id λh=>⟨h.1,h.2.elim λo h=>⟨o,Ad _ h.1,h.2⟩⟩,Dz.mpr ⟨λhp=>CG.mp λh=>F ⟨hp,h⟩,h3⟩⟩
 refine Ge (key O) λe B M h2 h3=>?_
 have a1:=Np M a
 exact⟨e,M,h2,B,g.s0,Au a1 g.p1,g.s1,λo Z=>(g.clear o Z).imp (Au a1) λh=>h.imp (h3 o Z) id⟩
theorem TO:Clear a b p s o↔(o.p<p+a->p<o.p+o.pl->¬(o.s<s+b/\o.s+o.sl>s)):=
 ⟨λh F M B=>PO h (λh=>CG.mpr h F) (λh=>CG.mpr h M) (λh=>CG.mpr h B.1) λh=>CG.mpr h B.2,
  λh=>(Md o.p (p+a)).elim (λF=>(Md p (o.p+o.pl)).elim (λM=>(Md o.s (s+b)).elim (λB=>.inr (.inr (.inr (CG.mp λZ=>h F M ⟨B,Z⟩)))) λh=>.inr (.inr (.inl h))) λh=>.inr (.inl h)) .inl⟩
noncomputable def Xp(a p:Int)(O:List Bx):List Bx:=O.filter λo=>decide (o.p<p+a)&&decide (p<o.p+o.pl)
noncomputable def Ig(O:List Bx):List (Int×Int):=O.map λo=>(o.s,o.s+o.sl)
theorem Oc{O:List Bx}:JH b (Ig (Xp a p O)) s↔∀o∈O,Clear a b p s o:=
 ⟨λh o B=>TO.mpr λM Z=>h (o.s,o.s+o.sl) (Ab.mpr ⟨o,Dp.mpr ⟨B,AJ.mpr ⟨decide_eq_true M,decide_eq_true Z⟩⟩,rfl⟩),
  λh r hr=>AW (Ab.mp hr) λo B e=>by
   have F:=AJ.mp (Dp.mp B).2
   rw[<- e];exact TO.mp (h o (Dp.mp B).1) (of_decide_eq_true F.1) (of_decide_eq_true F.2)⟩
inductive Kf(O:List Bx)(P S a b:Int):List Int->Option (Int×Int)->Prop
 |nil:Kf O P S a b [] none
 |hit {p s:Int} {ms:List Int}:bI b S (Ig (Xp a p O)) (some s)->p+a<=P->Kf O P S a b (p::ms) (some (p,s))
 |miss {p:Int} {ms:List Int} {g:Option Int} {r:Option (Int×Int)}:bI b S (Ig (Xp a p O)) g->(g=none\/¬p+a<=P)->Kf O P S a b ms r->Kf O P S a b (p::ms) r
def vd(O:List Bx)(P S a b:Int)(ms:List Int):Option (Int×Int)->Prop
 |none=>∀e∈ms,∀s',¬Gd O P S a b e s'
 |some (p,s)=>p∈ms/\Gd O P S a b p s/\(s=0\/∃o∈O,s=o.s+o.sl)/\∀e∈ms,∀s',Gd O P S a b e s'->p<e\/(p=e/\s<=s')
theorem UX{O:List Bx}(h:Kf O P S a b Z r)(hs:Z.Pairwise (·<·))(h0:∀m∈Z,0<=m):vd O P S a b Z r:=by
 induction h with
 |nil=>exact λ_ h=>nomatch h
 | @hit p s Z g hp=>
  refine FD (g.some s rfl) λg0 g1 zh=>FD zh λg2 g3 g4=>?_
  exact⟨AL,⟨h0 p AL,g0,hp,g1,Oc.mp g2⟩,g4.imp id λh=>AW h λr hr h=>AW (Ab.mp hr) λo ho e=>⟨o,(Dp.mp ho).1,h.trans (congrArg Prod.snd e).symm⟩,
   Dz.mpr ⟨λs' B=>.inr ⟨rfl,g3 s' B.s0 (Oc.mpr B.clear)⟩,λe he s' _=>.inl ((EU.mp hs).1 e he)⟩⟩
 | @miss p Z g r hg hn _ F=>
  have M:∀s',¬Gd O P S a b p s':=λs' B=>hn.elim (λhn=>hg.none hn s' B.s0 B.s1 (Oc.mpr B.clear)) λhn=>hn B.p1
  have F:=F (EU.mp hs).2 λm hm=>h0 m (Ad _ hm)
  cases r with
  |none=>exact Dz.mpr ⟨M,F⟩
  |some x=>exact⟨Ad _ F.1,F.2.1,F.2.2.1,Dz.mpr ⟨λs' B=>absurd B (M s'),F.2.2.2⟩⟩
noncomputable def K0(O:List Bx)(a P:Int):List Int:=0::(O.map λo=>o.p+o.pl).filter λe=>decide (0<e)&&decide (e<=P-a)
def NV(O:List Bx):Option (Int×Int)->Prop
 |none=>True
 |some (p,s)=>(p=0\/∃o∈O,p=o.p+o.pl)/\(s=0\/∃o∈O,s=o.s+o.sl)
theorem Ja{O:List Bx}(h:Kf O P S a b Z r)(hs:Z.Pairwise (·<·))(hm:∀x,x∈Z↔x∈K0 O a P):N0 (Gd O P S a b) r/\NV O r:=by
 have B:∀x,x∈K0 O a P↔x=0\/(0<x/\x<=P-a/\∃o∈O,x=o.p+o.pl):=by
  exact λx=>Ao.trans (or_congr Iff.rfl ⟨λh=>by
   have a:=Dp.mp h
   have b:=AJ.mp a.2
   exact(Ab.mp a.1).elim λo M=>⟨of_decide_eq_true b.1,of_decide_eq_true b.2,o,M.1,M.2.symm⟩,λh=>
   Dp.mpr ⟨Ab.mpr (h.2.2.elim λo M=>⟨o,M.1,M.2.symm⟩),AJ.mpr ⟨decide_eq_true h.1,decide_eq_true h.2.1⟩⟩⟩)
 have h0:∀m∈Z,0<=m:=λm hm'=>((B m).mp ((hm m).mp hm')).elim (λh=>EC h.symm) λh=>C0 h.1
 have F:=UX h hs h0
 have hd:∀p s,Gd O P S a b p s->∃e∈Z,e<=p/\Gd O P S a b e s:=λp s g=>DX (Qg g) λe e1 e2 e3=>
  ⟨e,(hm e).mpr ((B e).mpr (e2.imp id λh=>⟨h.1,Int.le_sub_right_of_add_le e3.p1,h.2⟩)),e1,e3⟩
 cases r with
 |none=>exact⟨λp s g=>DX (hd p s g) λe he _ ge=>F e he s ge,trivial⟩
 |some r=>
  refine⟨⟨F.2.1,λp' s' g=>DX (hd p' s' g) λe he hle ge=>?_⟩,((B _).mp ((hm _).mp F.1)).imp id λh=>h.2.2,F.2.2.1⟩
  have:=F.2.2.2 e he s' ge
  exact(Ki hle).elim (λh=>.inl (this.elim (λz=>Ee z h) λz=>z.1.symm▸h)) λh=>h▸this
end Mine.Internal
namespace Mine.Internal
def qb(x y:Int×Int):Prop:=x.1<y.1\/(x.1=y.1/\x.2<=y.2)
end Mine.Internal
namespace Mine.Internal
open PySem
noncomputable def j7:Option Int->V
 |none=>.none
 |some b=>.int b
noncomputable def L7(r:Int×Int):V:=.tup [.int r.1,.int r.2]
noncomputable def V7:Option (Int×Int)->V
 |none=>.none
 |some (p,s)=>.tup [.int p,.int s]
noncomputable def qd:Option (Int×Int)->V
 |none=>.none
 |some (p,s)=>.tup [.int s,.int p]
structure Ot where
 l:Int
 u:Int
 w:Int
 h:Int
noncomputable def Ot.v(o:Ot):V:=.tup [.int o.l,.int o.u,.int o.w,.int o.h]
noncomputable def Ot.low(o:Ot):Bx:=⟨o.u,o.l,o.h,o.w⟩
noncomputable def Ot.b7(o:Ot):Bx:=⟨o.l,o.u,o.w,o.h⟩
noncomputable def MC:Option (Int×Int)->Option (Int×Int)
 |none=>none
 |some (p,s)=>some (s,p)
theorem PR(r):MC (MC r)=r:=by cases r <;> rfl
theorem gJ{r}:qd r=V7 (MC r):=by cases r <;> rfl
def OY(os:List Ot)(W H w h:Int):Bool->Option (Int×Int)->Prop
 |true,r=>N0 (Gd (os.map Ot.low) H W h w) r/\NV (os.map Ot.low) r
 |false,r=>N0 (Gd (os.map Ot.b7) W H w h) (MC r)/\NV (os.map Ot.b7) (MC r)
theorem List.CA{F B:Type}{f:F->B}{l:List F}{i:Nat}{y:B}(h:(l.map f)[i]?=some y):∃x,l[i]?=some x/\y=f x:=by
 rw[As] at h
 refine AW (Av.mp h) λx M e=>?_
 exact⟨x,M,e.symm⟩
theorem Tn{F:Type}{l:List F}{i:Nat}{x:F}(h:l[i]?=some x):l.drop i=x::l.drop (i+1):=by
 refine(AP.mp h).elim λhi B=>?_;subst B
 exact FX hi
theorem N4{B M:Type}{f:B->Bool}{g:B->M}(l:List B):l.filterMap (λx=>if f x=true then some (g x) else none)=(l.filter f).map g:=by
 induction l with
 |nil=>rfl
 |cons x l F=>
  cases h:f x with
  |true=>rw[GG h,VM (by rw[h];rfl),F];rfl
  |false=>rw[D3 (h▸BD),VL (by rw[h];rfl),F]
theorem ME{B F:Type}{f:B->F}(l:List B):l.filterMap (λx=>some (f x))=l.map f:=by
 induction l with
 |nil=>rfl
 |cons x l M=>exact congrArg (f x::·) M
section
variable {turn:V->Af->(Option V->Af->Prop)->Prop} {Q:List V->Af->Prop} {σ:Af}
theorem M9{F M:Type}{n:Nat}{l:List F}{g:F->V}(f:F->M)(k:M->V)(e:σ[n]?=some (.list (l.map g)))(Z:l.length<=1000000)(h:∀x∈l,∀K:Option V->Af->Prop,K (some (k (f x))) σ->turn (g x) σ K)(q:Q ((l.map f).map k) σ):∃items B,Ko σ .plain [.ref n] items B/\items.length<=Cb/\Hf turn B items [] σ Q:=
 Xs (λx=>some (k (f x))) e Z h (by rw[ME];rw[BW] at q;exact q)
theorem Qh{M:Type}{n:Nat}{l:List M}{g:M->V}(p:M->Bool)(e:σ[n]?=some (.list (l.map g)))(Z:l.length<=1000000)(h:∀x∈l,∀K:Option V->Af->Prop,(p x=true->K (some (g x)) σ)->(p x=false->K none σ)->turn (g x) σ K)(q:Q ((l.filter p).map g) σ):∃items B,Ko σ .plain [.ref n] items B/\items.length<=Cb/\Hf turn B items [] σ Q:=
 Xs (λx=>if p x=true then some (g x) else none) e Z (λx hx K F=>h x hx K (λe=>by rw[if_pos e] at F;exact F) λe=>by rw[if_neg (BQ.mp e)] at F;exact F) (by rw[N4];exact q)
end
theorem HF{B:Type}{l:List B}{i:Nat}{y:B}(hy:l[i]?=some y):l.take (i+1)=l.take i++[y]:=by rw[Pf,hy];rfl
theorem Zw{os:List Ot}{W H w h l u:Int}(g:Gd (os.map Ot.low) H W h w u l):Gd (os.map Ot.b7) W H w h l u:=
 ⟨g.s0,g.p0,g.s1,g.p1,λo F=>by
  refine AW (Ab.mp F) λx M B=>?_;subst B
  have:=g.clear x.low (Ab.mpr ⟨x,M,rfl⟩)
  unfold Clear Ot.low at this;dsimp only at this ⊢
  refine PO this (λh=>?_) (λh=>?_) (λh=>?_) (λh=>?_)
  .exact .inr (.inr (.inl h))
  .exact .inr (.inr (.inr h))
  .exact .inl h
  .exact .inr (.inl h)⟩
theorem i5{os:List Ot}{W H w h l u:Int}(g:Gd (os.map Ot.b7) W H w h l u):Gd (os.map Ot.low) H W h w u l:=
 ⟨g.s0,g.p0,g.s1,g.p1,λo F=>by
  refine AW (Ab.mp F) λx M B=>?_;subst B
  have:=g.clear x.b7 (Ab.mpr ⟨x,M,rfl⟩)
  unfold Clear Ot.b7 at this;dsimp only at this ⊢
  refine PO this (λh=>?_) (λh=>?_) (λh=>?_) (λh=>?_)
  .exact .inr (.inr (.inl h))
  .exact .inr (.inr (.inr h))
  .exact .inl h
  .exact .inr (.inl h)⟩
theorem gU{x y:Int×Int}(h:D6 [y.1,y.2] [x.1,x.2]=false):x.1<=y.1:=by
 replace h:(if y.1=x.1 then _ else decide (y.1<x.1))=false:=h
 by_cases e:y.1=x.1
 .exact EC e.symm
 .rw[if_neg e] at h;exact CG.mp (of_decide_eq_false h)
theorem cI(hp:B.Perm (rows.map λr=>[r.1,r.2]))(hs:B.Pairwise λa b=>D6 b a=false):∃rs:List (Int×Int),B=(rs.map λr=>[r.1,r.2])/\rs.Perm rows/\rs.Pairwise λx y=>x.1<=y.1:=by
 have e:B=(B.map λl=>(l.getD 0 0,l.getD 1 0)).map λr:Int×Int=>[r.1,r.2]:=by
  rw[BW]
  refine(bo B).symm.trans (CZ λl M=>?_)
  refine AW (Ab.mp (hp.mem_iff.mp M)) λr _ F=>?_;subst F;rfl
 refine⟨_,e,?_,?_⟩
 .have:=hp.map λl=>(l.getD 0 0,l.getD 1 0)
  rw[BW] at this
  exact this.trans (K7 (bo rows))
 .rw[e,Ia] at hs
  exact hs.imp gU
end Mine.Internal
namespace Mine.Internal
open PySem
abbrev WH:=Int×Int×Bool
noncomputable def OX:Option (Int×Int)->Option (Int×Int)->Option WH
 |none,none=>none
 |some x,none=>some (x.1,x.2,false)
 |none,some y=>some (y.1,y.2,true)
 |some x,some y=>if y.1<x.1\/(y.1=x.1/\y.2<x.2) then some (y.1,y.2,true) else some (x.1,x.2,false)
structure wU(O:List Bx)(P S a b:Int)(turns:Bool)(d:Option WH):Prop where
 ex:∃d1 d2,N0 (Gd O P S a b) d1/\(turns=true->N0 (Gd O P S b a) d2)/\(turns=false->d2=none)/\d=OX d1 d2
structure tO(O:List Bx)(P S a b:Int)(turns:Bool)(d:Option WH):Prop where
 ex:∃d1 d2,N0 (Gd O P S a b) d1/\NV O d1/\(turns=true->N0 (Gd O P S b a) d2/\NV O d2)/\(turns=false->d2=none)/\d=OX d1 d2
noncomputable def y8(m:Int):Option WH->Option WH
 |none=>none
 |some (p,s,t)=>some (p*m,s*m,t)
section
variable {O:List Bx} {P S a b:Int} {turns:Bool}
end
structure Sh where
 W:Int
 H:Int
 b:Bool
noncomputable def Sh.v(s:Sh):V:=.tup [.int s.W,.int s.H,WG s.b]
noncomputable def Sh.dat(s:Sh):GP:=.tuple [.int s.W,.int s.H,vt s.b]
noncomputable def iJ:Option WH->Option WH
 |none=>none
 |some (p,s,t)=>some (s,p,t)
def dZ(w h:Int)(turns:Bool)(sh:Sh)(os:List Ot)(r:Option WH):Prop:=match sh.b with
 |true=>wU (os.map Ot.low) sh.H sh.W h w turns r
 |false=>wU (os.map Ot.b7) sh.W sh.H w h turns (iJ r)
def fK(w h:Int)(turns:Bool)(sh:Sh)(os:List Ot)(r:Option WH):Prop:=match sh.b with
 |true=>tO (os.map Ot.low) sh.H sh.W h w turns r
 |false=>tO (os.map Ot.b7) sh.W sh.H w h turns (iJ r)
def V6:Bool->Int×Int->Int×Int->Prop
 |true,y,x=>y.1<x.1\/(y.1=x.1/\y.2<x.2)
 |false,y,x=>y.2<x.2\/(y.2=x.2/\y.1<x.1)
inductive Rz(b:Bool):Option (Int×Int)->Option (Int×Int)->Option WH->Prop
 |no:Rz b none none none
 |up {x:Int×Int}:Rz b (some x) none (some (x.1,x.2,false))
 |turned {y:Int×Int}:Rz b none (some y) (some (y.1,y.2,true))
 |less {x y:Int×Int}:V6 b y x->Rz b (some x) (some y) (some (y.1,y.2,true))
 |more {x y:Int×Int}:¬V6 b y x->Rz b (some x) (some y) (some (x.1,x.2,false))
theorem Rz.low(h:Rz true B F r):r=OX B F:=by
 cases h with
 |less h=>exact(if_pos h).symm
 |more h=>exact(if_neg h).symm
 |_=>rfl
theorem Rz.left(h:Rz false B F r):iJ r=OX (MC B) (MC F):=by
 cases h with
 |less h=>exact(if_pos h).symm
 |more h=>exact(if_neg h).symm
 |_=>rfl
theorem NZ{w h:Int}{turns:Bool}{sh:Sh}{os:List Ot}{Z B:Option (Int×Int)}{r:Option WH}(F:OY os sh.W sh.H w h sh.b Z)(M:turns=true->OY os sh.W sh.H h w sh.b B)(f3:turns=false->B=none)(hb:Rz sh.b Z B r):fK w h turns sh os r:=by
 obtain⟨W,H,b⟩:=sh
 cases b with
 |true=>exact⟨Z,B,F.1,F.2,λe=>⟨(M e).1,(M e).2⟩,f3,hb.low⟩
 |false=>exact⟨MC Z,MC B,F.1,F.2,λe=>⟨(M e).1,(M e).2⟩,λe=>congrArg MC (f3 e),hb.left⟩
noncomputable def TX(b:Bool)(n:Int)(x:Int×Int)(t:Bool):List Int:=if b then [n,x.1,x.2,b2i t] else [n,x.2,x.1,b2i t]
theorem Zk:D6 [n,a,b,1] [n,c,d,0]=true↔a<c\/(a=c/\b<d):=by
 rw[show D6 [n,a,b,1] [n,c,d,0]=if a=c then (if b=d then false else decide (b<d)) else decide (a<c) from if_pos rfl]
 by_cases h:a=c
 .rw[if_pos h]
  by_cases h':b=d
  .rw[if_pos h']
   exact⟨(λh=>by injection h),λe=>(e.elim (λz=>E9 z h) λz=>E9 z.2 h').elim⟩
  .rw[if_neg h',decide_eq_true_iff];exact⟨λz=>.inr ⟨h,z⟩,λz=>z.elim (λz=>absurd h (E9 z)) And.right⟩
 .rw[if_neg h,decide_eq_true_iff];exact⟨.inl,λz=>z.elim id λz=>absurd z.1 h⟩
theorem Vw:D6 (TX b n y true) (TX b n x false)=true↔V6 b y x:=by
 cases b
 .exact Zk
 .exact Zk
abbrev pn:=Int×Int×Int×Bool
inductive FP(On:Sh->List Ot->Option WH->Prop):Nat->List (Sh×List Ot)->Option pn->Prop
 |nil {n:Nat}:FP On n [] none
 |hit {n:Nat} {sh:Sh} {os:List Ot} {l:List (Sh×List Ot)} {p:WH}:On sh os (some p)->FP On n ((sh,os)::l) (some ((n:Int),p.1,p.2.1,p.2.2))
 |miss {n:Nat} {sh:Sh} {os:List Ot} {l:List (Sh×List Ot)} {r:Option pn}:On sh os none->FP On (n+1) l r->FP On n ((sh,os)::l) r
noncomputable def y9(m:Int):Option pn->Option pn
 |none=>none
 |some (n,p,s,t)=>some (n,p*m,s*m,t)
theorem FP.cons_inv(h:FP B n (x::l) r):(∃p,B x.1 x.2 (some p)/\r=some ((n:Int),p.1,p.2.1,p.2.2))\/(B x.1 x.2 none/\FP B (n+1) l r):=by
 cases h with
 |hit o=>exact .inl ⟨_,o,rfl⟩
 |miss o h=>exact .inr ⟨o,h⟩
noncomputable def sL:Option pn->V
 |none=>.none
 |some (n,u,l,t)=>.tup [.int n,.int u,.int l,.bool t]
noncomputable def wo(n:Nat):Option WH->V
 |none=>.none
 |some (u,l,t)=>.tup [.int n,.int u,.int l,.bool t]
def Yf(σ:Af)(ks:List Nat)(oss:List (List Ot)):Prop:=ks.length=oss.length/\∀(i:Nat) k os,ks[i]?=some k->oss[i]?=some os->σ[k]?=some (.list (os.map Ot.v))
def Kp(σ σ':Af):Prop:=∀(x:Nat) (o:O),σ[x]?=some o->σ'[x]?=some o
theorem tG{turn:V->Af->(Option V->Af->Prop)->Prop}(I:Nat->List V->Af->Prop)(e:σ[n]?=some (.list vs))(hz:vs.length<=1000000)(h0:I 0 [] σ)(M:∀(i:Nat) v acc σ (K:Option V->Af->Prop),vs[i]?=some v->I i acc σ->(∀v B,B[n]?=some (.list vs)->I (i+1) (acc++[v]) B->K (some v) B)->turn v σ K)(fin:∀acc B,I vs.length acc B->Q acc B):∃items F,Ko σ .plain [.ref n] items F/\items.length<=Cb/\Hf turn F items [] σ Q:=
 ⟨_,_,.list e,hz,c8 I _ 0 [] σ (λi v acc σ K hv hI Z=>by
  rw[Be] at hI Z
  exact M i v acc σ K hv hI λv B h h'=>Z (some v) B h h') (λacc σ h=>fin acc σ (by rw[Be] at h;exact h)) h0⟩
end Mine.Internal
namespace Mine.Internal
open PySem
set_option genSizeOf false
set_option genInjectivity false
set_option genCtorIdx false
section
variable {C:Hl} {ρ:List V} {σ:Af} {Q:HT} {P:BS} {X:CP} {e a b:Ex} {es:List Ex} {ss:List Sx} {c:Addr} {x:Str} {k:Nat} {hs:List (List Nat×V×Option Nat)}
end
section
variable {σ:Af} {K:Bool->Prop} {x y:Str}
theorem bR(h:(Br x&&(x==y))=true)(q:K true):F6 σ K .Eq (.str x) (.str y):=by
 have h:=AJ.mp h
 have e:=eq_of_beq h.2
 subst e
 exact Q9 h.1 h.1 (by rw[beq_self_eq_true];exact q)
theorem Z9(h:(Br x&&Br y&&!(x==y))=true)(q:K false):F6 σ K .Eq (.str x) (.str y):=by
 simp only[BK,CB] at h
 exact Q9 h.1.1 h.1.2 (by rw[h.2];exact q)
end
noncomputable def NY(S B P:Nat):List (Str×V):=[("shelves", .ref S),("boxes", .ref B),("places", .ref P)]
structure JI(C:Addr)(σ:Af)(r S B P:Nat):Prop where
 ex:∃m,σ[r]?=some (.inst C m)/\σ[m]?=some (.ns (NY S B P))
theorem nQ:(NY S B P).lookup ("shelves":Str)=some (.ref S):=rfl
theorem nR:(NY S B P).lookup ("boxes":Str)=some (.ref B):=rfl
theorem pk:(NY S B P).lookup ("places":Str)=some (.ref P):=rfl
noncomputable def Yy(x:Str):Bool:=!(x=="shelves")&&!(x=="boxes")&&!(x=="places")
theorem oM(h:Yy x=true):(NY S B P).lookup x=none:=by
 unfold Yy at h
 simp only[BK,CB] at h
 unfold NY
 rw[BL,h.1.1,BL,h.1.2,BL,h.2];rfl
section
variable {C:Addr} {σ:Af} {r S B P:Nat} {Q:BS} {A:Prop} {x:Str}
theorem SA(R:JI C σ r S B P)(q:Q (.ref S) σ):Wm σ Q C "shelves" (.ref r):=AW (R.ex) λ_ F M=>.mk F M nQ q
theorem cU(R:JI C σ r S B P)(q:Q (.ref B) σ):Wm σ Q C "boxes" (.ref r):=AW (R.ex) λ_ F M=>.mk F M nR q
theorem Wf(R:JI C σ r S B P)(q:Q (.ref P) σ):Wm σ Q C "places" (.ref r):=AW (R.ex) λ_ F M=>.mk F M pk q
theorem E6(R:JI C σ r S B P)(h:Yy x=true)(q:A):X1 σ C x (.ref r)/\A:=AW (R.ex) λm F M=>⟨⟨r,m,_,rfl,F,M,oM h⟩,q⟩
end
theorem JJ(p:σ<+:σ'):Kp σ σ':=λ_ _ h=>BP p h
theorem JI.keeps(R:JI C σ r S B P)(k:Kp σ σ'):JI C σ' r S B P:=AW (R.ex) λm F M=>⟨m,k _ _ F,k _ _ M⟩
theorem kU(R:JI C σ r S B P):JI C (σ++τ) r S B P:=R.keeps (JJ AZ)
structure En where
 name:Str
 w:Int
 h:Int
 t:Bool
 n:Nat
 u:Int
 l:Int
 r:Bool
noncomputable def En.box(e:En):V:=.tup [.str e.name,.int e.w,.int e.h,.bool e.t]
noncomputable def En.pl(e:En):V:=.tup [.int e.n,.int e.u,.int e.l,.bool e.r]
noncomputable def En.ot(e:En):Ot:=if e.r=true then ⟨e.l,e.u,e.h,e.w⟩ else ⟨e.l,e.u,e.w,e.h⟩
noncomputable def LH(es:List En):List (Str×V):=es.map λe=>(e.name,e.box)
noncomputable def L3(es:List En):List (Str×V):=es.map λe=>(e.name,e.pl)
structure Rk(C:Addr)(σ:Af)(r:Nat)(shs:List Sh)(es:List En)(S B P epB epP:Nat):Prop where
 at_:JI C σ r S B P
 sh:σ[S]?=some (.list (shs.map Sh.v))
 bx:σ[B]?=some (.dict epB (LH es))
 pl:σ[P]?=some (.dict epP (L3 es))
section
variable {C:Addr} {σ σ':Af} {r S B P epB epP:Nat} {shs:List Sh} {es:List En}
theorem Rk.keeps(R:Rk C σ r shs es S B P epB epP)(k:Kp σ σ'):Rk C σ' r shs es S B P epB epP:=⟨R.at_.keeps k,k _ _ R.sh,k _ _ R.bx,k _ _ R.pl⟩
end
theorem LL{f:En->V}{es:List En}{e:En}(hn:(es.map (·.name)).Nodup)(hm:e∈es):(es.map λe=>(e.name,f e)).lookup e.name=some (f e):=by
 induction es with
 |nil=>cases hm
 |cons x xs M=>
  rw[B6,BL]
  rw[B6] at hn
  have hn:=Ds.mp hn
  rcases Ao.mp hm with rfl | hm
  .rw[beq_self_eq_true]
  .have F:(e.name==x.name)=false:=beq_eq_false_iff_ne.mpr λq=>hn.1 (q▸Ab.mpr ⟨e,hm,rfl⟩)
   rw[F]
   exact M hn.2 hm
theorem Ys{f:En->V}{es:List En}{k:Str}:((es.map λe=>(e.name,f e)).any λp=>decide (p.1=k))=decide (k∈es.map (·.name)):=by
 rw[XA]
 rw[Bool.eq_iff_iff,QG,decide_eq_true_iff,Ab]
 exact⟨λF=>AW F λe h q=>⟨e,h,of_decide_eq_true q⟩,λF=>AW F λe h q=>⟨e,h,decide_eq_true q⟩⟩
noncomputable def Jr(skip:Option Str)(x:Str):Bool:=!(skip==some x)
noncomputable def Gi(es:List En)(skip:Option Str)(i:Nat):List Ot:=(es.filter λe=>decide (e.n=i)&&Jr skip e.name).map En.ot
noncomputable def rowsOf(n:Nat)(es:List En)(skip:Option Str):List (List Ot):=(Ar n).map (Gi es skip)
noncomputable def kN:Option Str->V
 |none=>.none
 |some s=>.str s
theorem Fc:(rowsOf n es skip).length=n:=by rw[rowsOf,AA,BV]
theorem Ik(h:i<n):(rowsOf n es skip)[i]?=some (Gi es skip i):=by
 rw[rowsOf,As,fA h];rfl
theorem Sm:Gi (es++[e]) skip i=if (decide (e.n=i)&&Jr skip e.name)=true then Gi es skip i++[e.ot] else Gi es skip i:=by
 unfold Gi
 rw[f6,Ai]
 by_cases h:(decide (e.n=i)&&Jr skip e.name)=true
 .rw[if_pos h,GG (p:=λe:En=>decide (e.n=i)&&Jr skip e.name) h];rfl
 .rw[if_neg h,D3 (p:=λe:En=>decide (e.n=i)&&Jr skip e.name) h];exact Bl _
theorem ZG(F:Jr skip e.name=true):rowsOf n (es++[e]) skip=(rowsOf n es skip).set e.n (Gi es skip e.n++[e.ot]):=by
 apply Eo
 intro i
 refine A7 (Fp i n) (λhi=>?_) (λhi=>?_)
 .rw[Ik hi,Sm,F,Bool.and_true]
  by_cases h:e.n=i
  .rw[h,Ib (by rw[Fc];exact hi),if_pos (decide_eq_true rfl)]
  .rw[JW h,Ik hi,if_neg (by rw[decide_eq_true_iff];exact h)]
 .rw[EP (by rw[Fc];exact hi),EP (by rw[Dt,Fc];exact hi)]
theorem VU(F:Jr skip e.name=false):rowsOf n (es++[e]) skip=rowsOf n es skip:=by
 exact CZ λi _=>by rw[Sm,F,Ie];rfl
theorem Yj:rowsOf n [] skip=Dm n []:=by
 exact List.eq_replicate_iff.mpr ⟨Fc,λb M=>by refine AW (Ab.mp M) λi _ F=>?_;subst F;rfl⟩
noncomputable def T8(os:List Ot):O:=.list (os.map Ot.v)
theorem aw{σ:Af}{L T:List O}{i:Nat}{o:O}(h:L[i]?=some o):(σ++L++T)[σ.length+i]?=some o:=by
 have hi:=(AP.mp h).1
 rw[Aq,Ak (A0 _ _),BI,A3 hi];exact h
theorem bU{σ:Af}{L T:List O}{i:Nat}{o:O}(h:i<L.length):(σ++L++T).set (σ.length+i) o=σ++L.set i o++T:=by
 rw[Aq,Ms _ _ (A0 _ _),BI,bp _ _ h,Aq]
theorem bX(h:L.length=n):(σ++L++[o])[σ.length+n]?=some o:=by
 rw[<- h,<- AI];exact Aa
theorem YD{σ:Af}{F:List (List Ot)}{T:List O}{n:Nat}(h:F.length=n):Yf (σ++F.map T8++T) (CL σ.length n) F:=by
 refine⟨by rw[Ka,h],λi k os M Z=>?_⟩
 have hi:i<n:=h▸(AP.mp Z).1
 rw[NI hi,Rg] at M
 have zq:=AG M;subst zq
 exact aw (by rw[As,Z];rfl)
noncomputable def signs:List Nat:=(AH "abcdefghijklmnopqrstuvwxyz0123456789").cps.toList
noncomputable def Bk(x:Str):Bool:=decide (0<x.length)&&(decide (x.length<=12)&&x.cps.toList.all λc=>decide (c∈signs))
theorem jJ{turn:V->Af->(Option V->Af->Prop)->Prop}(f:Nat->V)(M:x.cps.all (·<128)=true)(Z:x.length<=1000)(h:∀c∈x.cps.toList,∀K:Option V->Af->Prop,K (some (f c)) σ->turn (.str (sign c)) σ K)(q:Q (x.cps.toList.map f) σ):∃items F,Ko σ .plain [.str x] items F/\items.length<=Cb/\Hf turn F items [] σ Q:=
 ⟨_,_,.str M,by rw[AA];exact AF Z (by decide),Sd (g:=λc=>.str (sign c)) (λc=>some (f c)) trivial _ [] h (by rw[ME];exact q)⟩
end Mine.Internal
namespace Mine.Internal
open PySem
set_option genSizeOf false
set_option genInjectivity false
set_option genCtorIdx false
structure Nu where
 W:Int
 H:Int
 s:Str
noncomputable def Nu.v(x:Nu):V:=.tup [.int x.W,.int x.H,.str x.s]
noncomputable def Sh.x(s:Sh):Nu:=⟨s.W,s.H,if s.b then "low" else "left"⟩
structure Nu.Good(x:Nu):Prop where
 w:1<=x.W/\x.W<=1000000
 h:1<=x.H/\x.H<=1000000
 s:x.s="low"\/x.s="left"
structure fL(xs:List Nu):Prop where
 n:1<=xs.length/\xs.length<=9
 all:∀x∈xs,x.Good
theorem Mq:Le (.str x) (.str y)=(x==y):=rfl
theorem ki(hs:Br s=true)(q:(s="low"\/s="left")->K false)(B:¬(s="low"\/s="left")->K true):F6 σ K .NotIn (.str s) (.tup [.str "low",.str "left"]):=by
 refine .uM (x:=.str s) (ys:=[.str "low",.str "left"]) rfl rfl hs (by decide +kernel) ?_
 rw[Fu,Fu,List.any_nil,Mq,Mq,OP]
 by_cases h:s="low"\/s="left"
 .rw[show (("low"==s)||("left"==s))=true from GA.mpr (h.imp (λe=>beq_iff_eq.mpr e.symm) λe=>beq_iff_eq.mpr e.symm)]
  exact q h
 .rw[show (("low"==s)||("left"==s))=false from JX.mpr ⟨beq_eq_false_iff_ne.mpr λe=>h (.inl e.symm),beq_eq_false_iff_ne.mpr λe=>h (.inr e.symm)⟩]
  exact B h
theorem t7:put "shelves" v []=[(("shelves":Str),v)]:=rfl
theorem rU:put "boxes" v [(("shelves":Str),u)]=[(("shelves":Str),u),(("boxes":Str),v)]:=rfl
theorem sI:put "places" v [(("shelves":Str),u),(("boxes":Str),w)]=[(("shelves":Str),u),(("boxes":Str),w),(("places":Str),v)]:=rfl
def my(m:Nat)(σ σ':Af):Prop:=∀(x:Nat) (o:O),x≠m->σ[x]?=some o->σ'[x]?=some o
end Mine.Internal
namespace Mine.Internal
open PySem
set_option genSizeOf false
set_option genInjectivity false
theorem mI{turn:V->List V->Af->HT->Prop}(I:Nat->List V->Af->Prop)(e:σ[n]?=some (.dict ep kvs))(h0:I 0 ρ σ)(Z:∀(i:Nat) (p:Str×V) ρ σ (R:List V->Af->Prop),kvs[i]?=some p->I i ρ σ->(∀M F,F[n]?=some (.dict ep kvs)->I (i+1) M F->R M F)->turn (.str p.1) ρ σ (QV R Q))(fin:∀ρ σ,I kvs.length ρ σ->Q .next ρ σ):∃items B,Ko σ .plain [.ref n] items B/\Nb turn B items ρ σ Q:=
 ⟨_,_,.dict e,N7 I _ 0 ρ σ (λi v ρ σ K hv hI h1=>by
  rw[Be] at hI h1
  refine AW (List.CA hv) λp hp ze1=>?_;subst ze1
  exact Z i p ρ σ K hp hI h1) (λρ σ h=>fin ρ σ (by rw[Be,AA] at h;exact h)) h0⟩
theorem nT(B:Br x=true)(hs:∀s,skip=some s->Br s=true)(q:K (Jr skip x)):ie σ K .NotEq (.str x) (kN skip):=by
 cases skip with
 |none=>exact .ne (x:=.str x) (y:=.none) rfl rfl B rfl q
 |some s=>exact .ne (x:=.str x) (y:=.str s) rfl rfl B (hs s rfl) (by
  have e:Jr (some s) x=!(Le (.str x) (.str s)):=by
   rw[Mq]
   show (!(s==x))=!(x==s)
   rw[Bool.beq_comm]
  rw[e] at q;exact q)
theorem jB:s8 (kN skip)=true:=by cases skip <;> rfl
abbrev CI(k:Int):Prop:=1<=k/\k<=1000000
theorem Yp{c M:Int}(h:1<=M):1+c % M<=M:=by rw[MU];exact Bw c h
theorem Ow{c M:Int}(h:CI M):CI (1+c % M):=⟨U8 (C4 c (KN h.1)),Au (Yp h.1) h.2⟩
theorem oV(h:(l.any λp=>decide (p.1=k))=false):put k v l=l++[(k,v)]:=by
 unfold put;rw[if_neg (by rw[h];exact BD)]
theorem aD{f:En->V}(h:e.name∉es.map (·.name)):put e.name (f e) (es.map λe=>(e.name,f e))=(es++[e]).map λe=>(e.name,f e):=by
 rw[oV (by rw[Ys];exact decide_eq_false h),Ai];rfl
noncomputable def stood(σ:Af)(B P ep1 ep2:Nat)(es:List En):Af:=(σ.set B (.dict ep1 (LH es))).set P (.dict ep2 (L3 es))
theorem Rk.stood(R:Rk C σ r Z es S B P epB epP)(h:B≠P)(M F:Nat):Rk C (stood σ B P M F es') r Z es' S B P M F:=by
 have kp:∀(x:Nat) (o:O),σ[x]?=some o->(∀ep kvs,o≠.dict ep kvs)->(Mine.Internal.stood σ B P M F es')[x]?=some o:=λx o e hd=>
  BO (λz=>by rw[<- z,R.pl] at e;have zq:=AG e;subst zq;exact hd _ _ rfl) (BO (λz=>by rw[<- z,R.bx] at e;have zq:=AG e;subst zq;exact hd _ _ rfl) e)
 refine AW R.at_.ex λm h1 h2=>?_
 exact⟨⟨m,kp _ _ h1 λ_ _ h=>by injection h,kp _ _ h2 λ_ _ h=>by injection h⟩,kp _ _ R.sh λ_ _ h=>by injection h,BO h.symm (EI R.bx),EI (BO h R.pl)⟩
theorem oW(h:FP On n l r):∀p:pn,r=some p->∃k:Nat,p.1=k/\n<=k/\k<n+l.length:=by
 induction h with
 |nil=>intro p e;cases e
 | @hit n sh os l q _=>intro p e;have F:=AG e;subst F;exact⟨n,rfl,Az _,CJ (CS _)⟩
 | @miss n sh os l r _ _ ih=>intro p e;refine DX (ih p e) λk Z B M=>?_;exact⟨k,Z,Iu B,mT M (Wx n l.length)⟩
theorem gS(h:FP B n l (some p)):∃k:Nat,p.1=k/\n<=k/\k<n+l.length:=oW h p rfl
structure Oq(shs:List Sh)(es:List En):Prop where
 nodup:(es.map (·.name)).Nodup
 num:∀e∈es,e.n<shs.length
 str:∀e∈es,Br e.name=true
 len:es.length<127
end Mine.Internal
namespace Mine.Internal
open PySem
set_option genSizeOf false
set_option genInjectivity false
noncomputable def En.key(shs:List Sh)(e:En):List Int:=TX ((shs.getD e.n ⟨0,0,false⟩).b) e.n (e.u,e.l) e.r
theorem cQ{B:Type}{turn:V->Af->BS->Prop}{g:B->V}{σ:Af}(f:B->V){Q:List V->Af->Prop}(l:List B):∀(acc:List V),(∀x∈l,∀K:BS,K (f x) σ->turn (g x) σ K)->Q (acc++l.map f) σ->SX turn (l.map g) acc σ Q:=by
 induction l with
 |nil=>exact λacc _ q=>(Bl acc).subst (motive:=(Q · σ)) q
 |cons x l F=>exact λacc h q=>h x AL _ (F _ (λy hy=>h y (Ad _ hy)) (by rw[Aq];exact q))
inductive TabAt(T:Addr)(σ:Af)(ln col:Int)(q:Str):Prop
 |tab:σ[1]?=some (.tab T)->TabAt T σ ln col q
 |row (m:Nat):σ[1]?=some (.row T ln col m)->σ[m]?=some (.code q)->TabAt T σ ln col q
theorem TabAt.w(t:TabAt T σ Z col q)(h:∀m B,my 1 σ B->B[m]?=some (.code q)->B[1]?=some (.row T Z col m)->K m B):Y7 T q Z col σ K:=by
 cases t with
 |tab e=>exact .inl ⟨e,h _ _ (λx o hx F=>AX (BO hx.symm F)) (by
   rw[Ak (by rw[Dt];exact Az _),Dt,Fo];rfl) (AX (EI e))⟩
 |row m e M=>exact .inr ⟨m,e,M,h m σ (λ_ _ _ F=>F) M e⟩
theorem Rk.RT(R:Rk C σ r Z es S B P epB epP)(t:TabAt T σ ln col q)(k:my 1 σ F):Rk C F r Z es S B P epB epP:=by
 have M:∀(x:Nat) (o:O),(∀T ln col m,o≠.tab T/\o≠.row T ln col m)->σ[x]?=some o->F[x]?=some o:=λx o hd e=>k x o (λz=>by
  subst z
  cases t with
  |tab e'=>rw[e'] at e;have zq:=AG e;subst zq;exact(hd T 0 0 0).1 rfl
  |row m e' _=>rw[e'] at e;have zq:=AG e;subst zq;exact(hd T ln col m).2 rfl) e
 refine AW R.at_.ex λm h1 h2=>?_
 exact⟨⟨m,M _ _ (λ_ _ _ _=>⟨(λh=>by injection h),(λh=>by injection h)⟩) h1,M _ _ (λ_ _ _ _=>⟨(λh=>by injection h),(λh=>by injection h)⟩) h2⟩,M _ _ (λ_ _ _ _=>⟨(λh=>by injection h),(λh=>by injection h)⟩) R.sh,M _ _ (λ_ _ _ _=>⟨(λh=>by injection h),(λh=>by injection h)⟩) R.bx,M _ _ (λ_ _ _ _=>⟨(λh=>by injection h),(λh=>by injection h)⟩) R.pl⟩
theorem Rk.wJ(R:Rk C σ r M es S B P epB Z)(t:TabAt T σ ln col q):P≠1:=λz=>by
 have:=R.pl
 rw[z] at this
 cases t with
 |tab F=>rw[F] at this;cases this
 |row m F _=>rw[F] at this;cases this
theorem rM{B:List Sh}{e:En}:e.key B≠[]:=by unfold En.key TX;split <;> exact Bi _ _
end Mine.Internal
namespace Mine.Internal
open PySem
def JD(shs:List Sh)(es:List En)(skip:Option Str)(e:En):Prop:=∃sh,shs[e.n]?=some sh/\(e.r=true->e.t=true)/\Gd ((Gi es skip e.n).map Ot.low) sh.H sh.W e.ot.h e.ot.w e.ot.u e.ot.l
end Mine.Internal
namespace Mine.Internal
open PySem
set_option genSizeOf false
set_option genInjectivity false
noncomputable def E4(l:List Nat):Str:=⟨l.toArray⟩
theorem Mr:(E4 l).length=l.length:=by
 exact CT ..
theorem Kn{x y:Str}:(x++y).cps.toList=x.cps.toList++y.cps.toList:=by
 exact CM
theorem len_list{x:Str}:x.length=x.cps.toList.length:=by
 exact A1.symm
theorem Ct{x:Str}:x.cps.all (·<128)=true↔∀c∈x.cps.toList,c<128:=by
 rw[<- mq,BF]
 exact⟨λh c B=>of_decide_eq_true (h c B),λh c B=>decide_eq_true (h c B)⟩
theorem Z3{B:Type}{l:List B}{a b:Nat}{x:B}(h:x∈HS l a b):x∈l:=D0 (JY h)
theorem pe{B:Type}{l:List B}{a b:Nat}:(HS l a b).length<=l.length:=by
 unfold HS
 rw[CC,B2];exact HW .le .v0 .v1 (.l .v0 .v2 (.l .v2 .v1 .e)) rfl (Ga _ _) (C7 _ _)
theorem P6(h:0<=k)(h':k<=1000000):HU n d (some (.int k)) (min k.toNat n):=by
 have:=HU.pos (n:=n) (d:=d) (i:=k.toNat) (j:=min k.toNat n) (IK (Au (by decide) (AQ _)) (Au (EH h▸h') (by decide))) rfl
 rwa [EH h] at this
theorem uu(h:0<=k)(B:k<1000000)(e:s.cps[k.toNat]?=some c)(q:Q (.str (sign c)) σ):KD σ Q (.str s) (.int k):=
 .str (IK (Au (by decide) h) (Au (C0 B) (by decide))) (aG h (by
  have:=(D8.mp e).1
  exact this)) e q
theorem vo(hs:s.length<=1000)(h:0<=k)(B:k<=1000000)(q:Q (.str (E4 (HS s.cps.toList 0 (min k.toNat s.length)))) σ):J0 σ Q (.str s) none (some (.int k)):=
 .str (AF hs (by decide)) .no (P6 h B) q
theorem u5(hs:s.length<=1000)(h:0<=k)(B:k<=1000000)(q:Q (.str (E4 (HS s.cps.toList (min k.toNat s.length) s.length))) σ):J0 σ Q (.str s) (some (.int k)) none:=
 .str (AF hs (by decide)) (P6 h B) .no q
theorem Vb{B M:Type}{f:B->M}{l:List B}(n):KA (l.map f) n=(KA l n).map f:=by
 induction n with
 |zero=>rfl
 |succ n F=>exact(congrArg (l.map f++·) F).trans Ai.symm
theorem VZ{B:Type}{l:List B}(n):(KA l n).length=l.length*n:=by
 induction n with
 |zero=>rfl
 |succ n F=>exact AI.trans ((Ci _ _).trans (congrArg (·+l.length) F))
theorem WX{B:Type}{l:List B}{x:B}{n}:x∈KA l n->x∈l:=by
 induction n with
 |zero=>exact λh=>absurd h BU
 |succ n F=>exact λh=>(An.mp h).elim id F
section
variable {σ:Af} {Q:BS} {n:Nat} {vs:List V} {k:Int}
theorem Lu(e:σ[n]?=some (.list vs))(h:0<=k)(B:k<=1000000)(q:Q (.ref σ.length) (σ++[.list (HS vs 0 (min k.toNat vs.length))])):J0 σ Q (.ref n) none (some (.int k)):=.list e .no (P6 h B) q
theorem OZ(e:σ[n]?=some (.list vs))(h:0<=k)(B:k<=1000000)(q:Q (.ref σ.length) (σ++[.list (HS vs (min k.toNat vs.length) vs.length)])):J0 σ Q (.ref n) (some (.int k)) none:=.list e (P6 h B) .no q
end
end Mine.Internal
namespace Mine.Internal
set_option genSizeOf false
set_option genInjectivity false
set_option genCtorIdx false
structure Qp where
 n:Nat
 p:Int
 s:Int
 r:Bool
abbrev yI:=Nat->Qp
section
variable (A B:Nat->Nat->Bool->Int) (Ins:Nat->Qp->Prop) (N:Nat)
end
section
variable {A B:Nat->Nat->Bool->Int} {Ins:Nat->Qp->Prop} {N:Nat}
end
section
variable {A B:Nat->Nat->Bool->Int} {Ins:Nat->Qp->Prop} {N:Nat}
variable {Yk:Nat->yI} {M:Nat}
end
end Mine.Internal
namespace Mine.Internal
open PySem
set_option genSizeOf false
set_option genInjectivity false
noncomputable def oj:En:=⟨"", 1,1,false,0,0,0,false⟩
theorem o8{e:En}:e.ot.u=e.u/\e.ot.l=e.l:=by unfold En.ot;cases e.r <;> exact⟨rfl,rfl⟩
theorem WM:(A\/B\/C\/D)↔(C\/D\/A\/B):=⟨λh=>PO h (λh=>.inr (.inr (.inl h))) (λh=>.inr (.inr (.inr h))) .inl λh=>.inr (.inl h),λh=>PO h (λh=>.inr (.inr (.inl h))) (λh=>.inr (.inr (.inr h))) .inl λh=>.inr (.inl h)⟩
theorem Ng{a b:En}(h:a.n=b.n->Clear a.ot.h a.ot.w a.ot.u a.ot.l b.ot.low)(e:b.n=a.n):Clear b.ot.h b.ot.w b.ot.u b.ot.l a.ot.low:=
 PO (h e.symm) (λh=>.inr (.inl h)) .inl (λh=>.inr (.inr (.inr h))) λh=>.inr (.inr (.inl h))
noncomputable def mz(r:Bool)(a b:Int):Int:=if r=true then b else a
theorem lG{p B s s':Int}{R:Prop}(h:p<B\/(p=B/\s<=s'))(F:R):p<B\/(p=B/\(s<s'\/(s=s'/\R))):=h.imp id λh=>⟨h.1,(Ki h.2).imp id λe=>⟨e,F⟩⟩
theorem xC{p B s s':Int}{R:Prop}(h:p<B\/(p=B/\s<s')):p<B\/(p=B/\(s<s'\/(s=s'/\R))):=h.imp id λh=>⟨h.1,.inl h.2⟩
theorem pK{x y u v:Int}(n:¬(y<x\/(y=x/\v<u))):x<y\/(x=y/\u<=v):=
 (Md x y).elim .inl λh=>(λe:x=y=>.inr ⟨e,CG.mp λz=>n (.inr ⟨e.symm,z⟩)⟩) (C5 (CG.mp λz=>n (.inl z)) h)
def il(O:List Bx)(P S a b:Int)(t:Bool):Option WH->Prop
 |none=>∀p' s' r',(r'=true->t=true)->¬Gd O P S (mz r' a b) (mz r' b a) p' s'
 |some (p,s,r)=>(r=true->t=true)/\Gd O P S (mz r a b) (mz r b a) p s/\
  ∀p' s' r',(r'=true->t=true)->Gd O P S (mz r' a b) (mz r' b a) p' s'->p<p'\/(p=p'/\(s<s'\/(s=s'/\(r=true->r'=true))))
theorem OF{C:Bool->Prop}(F:C false)(B:C true):∀r,C r:=Bool.rec F B
theorem O2{O:List Bx}{P S a b:Int}{t:Bool}(h:wU O P S a b t d):il O P S a b t d:=by
 refine EW h.ex λd1 d2 Z M f3 e=>?_
 subst e
 cases d2 with
 |none=>
  cases d1 with
  |none=>exact λB s'=>OF (λ_=>Z B s') λhr=>M (hr rfl) B s'
  |some x=>exact⟨nofun,MM.good Z,λB s'=>OF (λ_ g=>lG (MM.least Z B s' g) nofun) λhr g=>absurd g (M (hr rfl) B s')⟩
 |some y=>
  have ht:t=true:=by
   cases t with
   |true=>rfl
   |false=>exact by injection f3 rfl
  have M:=M ht
  cases d1 with
  |none=>exact⟨λ_=>ht,MM.good M,λB s'=>OF (λ_ g=>absurd g (Z B s')) λ_ g=>lG (MM.least M B s' g) λ_=>rfl⟩
  |some x=>
   by_cases F:y.1<x.1\/(y.1=x.1/\y.2<x.2)
   .rw[show OX (some x) (some y)=some (y.1,y.2,true) from if_pos F]
    exact⟨λ_=>ht,MM.good M,λB s'=>OF (λ_ g=>xC (XS Ee Cn F (MM.least Z B s' g))) λ_ g=>lG (MM.least M B s' g) λ_=>rfl⟩
   .rw[show OX (some x) (some y)=some (x.1,x.2,false) from if_neg F]
    exact⟨nofun,MM.good Z,λB s'=>OF (λ_ g=>lG (MM.least Z B s' g) nofun) λ_ g=>lG (XS Ee Au (pK F) (MM.least M B s' g)) nofun⟩
theorem lg(h:FP B n l r) :
  (r=none/\∀x∈l,B x.1 x.2 none)\/(∃k x p,l[k]?=some x/\B x.1 x.2 (some p)/\r=some (((n+k:Nat):Int),p.1,p.2.1,p.2.2)/\∀j y,j<k->l[j]?=some y->B y.1 y.2 none):=by
 induction h with
 |nil=>exact .inl ⟨rfl,λx h=>absurd h BU⟩
 | @hit n sh os l p o=>exact .inr ⟨0,(sh,os),p,rfl,o,rfl,λj y F=>absurd F (Dv j)⟩
 | @miss n sh os l r o _ ih=>
  refine ih.elim (λh=>.inl ⟨h.1,Dz.mpr ⟨o,h.2⟩⟩) λh=>EJ h λk x p M Z h3 h4=>?_
  refine .inr ⟨k+1,x,p,M,Z,h3.trans (by rw[Wx]),λj y F hy=>?_⟩
  cases j with
  |zero=>exact AG hy▸o
  |succ j=>exact h4 j y (Ir F) hy
noncomputable def En.to(e:En)(n:Nat)(u l:Int)(r:Bool):En:={ e with n:=n,u:=u,l:=l,r:=r }
theorem ta{ss:List Sh}{hs:List En}{skip:Option Str}{k:Nat}{x:Sh×List Ot}(h:(ss.zip (rowsOf ss.length hs skip))[k]?=some x):ss[k]?=some x.1/\x.2=Gi hs skip k:=by
 rw[Hj] at h
 obtain⟨B,F⟩:=h
 rw[Ik (AP.mp B).1] at F
 exact⟨B,(AG F).symm⟩
theorem X8{ss:List Sh}{hs:List En}{skip:Option Str}{k:Nat}{sh:Sh}(h:ss[k]?=some sh):(ss.zip (rowsOf ss.length hs skip))[k]?=some (sh,Gi hs skip k):=by
 rw[Hj]
 exact⟨h,Ik (AP.mp h).1⟩
end Mine.Internal
namespace Mine.Internal
open PySem
set_option genSizeOf false
set_option genInjectivity false
noncomputable def En.one(e:En):V:=.tup [.str e.name,.int e.w,.int e.h,.bool e.t,e.pl]
noncomputable def En.uK(e:En):GP:=.tuple [.str e.name,.int e.w,.int e.h,.bool e.t]
noncomputable def En.xY(e:En):GP:=.tuple [.int e.n,.int e.u,.int e.l,.bool e.r]
theorem jr{e:En}:e.xY.canLay0=true:=rfl
theorem oF{e:En}(h:Br e.name=true):e.uK.canLay0=true:=by
 unfold En.uK
 simp only[Ri,FY,h,Bool.and_self]
section
variable {σ:Af} {K:Bool->Prop} {e:En}
theorem aL(q:K false):F6 σ K .NotEq e.pl e.pl:=UL (x:=e.xY) rfl rfl jr q
theorem aA(q:K true):F6 σ K .Eq e.pl e.pl:=j9 (x:=e.xY) rfl rfl jr q
theorem kP(h:Br e.name=true)(q:K false):F6 σ K .NotEq e.box e.box:=UL (x:=e.uK) rfl rfl (oF h) q
theorem Ky(F:Br x=true)(hy:Br y=true)(q:x=y->K true)(B:x≠y->K false):F6 σ K .Eq (.str x) (.str y):=Q9 F hy (by
 by_cases h:x=y
 .rw[beq_iff_eq.mpr h];exact q h
 .rw[beq_eq_false_iff_ne.mpr h];exact B h)
theorem QM(F:Br x=true)(hy:Br y=true)(q:x≠y->K true)(B:x=y->K false):F6 σ K .NotEq (.str x) (.str y):=.ne (x:=.str x) (y:=.str y) rfl rfl F hy (by
 rw[Mq]
 by_cases h:x=y
 .rw[beq_iff_eq.mpr h];exact B h
 .rw[beq_eq_false_iff_ne.mpr h];exact q h)
end
theorem qI(q:Q (.tup [a,b,c,d]) σ):J0 σ Q (.tup [a,b,c,d,e]) none (some (.int 4)):=
 .tup (x:=0) (y:=4) (show 5<=Cb by decide) .no (HU.pos (i:=4) (by decide) rfl) (by refine(?_:4<5);decide) q
structure Vt(x:Str):Prop where
 low:x.cps.all (·<128)=true
 len:x.length<=1000
 good:Bk x=true
 str:Br x=true
theorem RO(h:x.cps.all (·<128)=true):Br x=true:=by
 refine(?_:x.cps.all (·<0x110000)=true)
 rw[<- mq,BF]
 exact λc B=>decide_eq_true (Ac (Ct.mp h c B) (by decide))
theorem SW:∀c∈signs,c<128:=by decide +kernel
theorem iI(hw:∀c∈w,c∈signs)(hl:w.length<=11)(hk:k<=w.length)(hc:c∈signs):Vt (E4 (HS w 0 k)++sign c++E4 (HS w k w.length)):=by
 have e:(E4 (HS w 0 k)++sign c++E4 (HS w k w.length)).cps.toList=HS w 0 k++[c]++HS w k w.length:=by rw[Kn,Kn];rfl
 have F:∀x∈HS w 0 k++[c]++HS w k w.length,x∈signs:=λx Z=>by
  refine A7 (An.mp Z) (λh=>?_) (λh=>?_)
  .refine A7 (An.mp h) (λh=>?_) (λh=>?_)
   .exact hw x (Z3 h)
   .exact AM.mp h▸hc
  .exact hw x (Z3 h)
 have B:(HS w 0 k++[c]++HS w k w.length).length=w.length+1:=by
  unfold HS
  rw[AI,AI,CC,B2,CC,B2,CV,C3 hk,Nat.min_self,ZX,DY,E2 hk]
 have M:(E4 (HS w 0 k)++sign c++E4 (HS w k w.length)).cps.all (·<128)=true:=Ct.mpr λx Z=>SW x (F x (e▸Z))
 refine⟨M,?_,?_,?_⟩
 .rw[len_list,e,B];exact Ec .le (.a .v0 .n1) (.n 1000) (.l .v0 (.n 11) .e) rfl hl
 .unfold Bk
  rw[len_list,e,B]
  simp only[BK,decide_eq_true_eq,BF]
  exact⟨by exact Ec .lt .n0 (.a .v0 .n1) .e rfl,by exact Ec .le (.a .v0 .n1) (.n 12) (.l .v0 (.n 11) .e) rfl hl,λx Z=>F x Z⟩
 .exact RO M
noncomputable def LN:List Nat:=(AH "abcdxyz0189mnoefg").cps.toList
theorem i6:LN.Nodup/\LN.length=17/\∀c∈LN,c∈signs:=by decide +kernel
structure Iw(ns:List Str):Prop where
 len:ns.length=17
 nodup:ns.Nodup
 good:∀x∈ns,Vt x
 g:∃a b,ns[16]?=some (a++sign 103++b)
theorem dP(hw:∀c∈w,c∈signs)(hl:w.length<=11)(hk:k<=w.length):Iw (LN.map λc=>E4 (HS w 0 k)++sign c++E4 (HS w k w.length)):=by
 refine⟨by rw[AA];exact i6.2.1,?_,λx hx=>?_,⟨_,_,by rw[As,(by decide +kernel:LN[16]?=some 103)];rfl⟩⟩
 .refine Ia.mpr (List.Pairwise.imp (λ{a b} h e=>h ?_) i6.1)
  have e1:=congrArg (λs:Str=>s.cps.toList) e
  simp only[Kn] at e1
  have e2:=List.append_cancel_right e1
  have e3:=Lh e2
  exact Wy (show [a]=[b] from e3)
 .refine AW (Ab.mp hx) λc hc ze1=>?_;subst ze1
  exact iI hw hl hk (i6.2.2 c hc)
theorem signs_at(h:j<36):∃c,(AH "abcdefghijklmnopqrstuvwxyz0123456789").cps[j]?=some c/\c∈signs:=by
 have B:signs.length=36:=by decide +kernel
 have e:(AH "abcdefghijklmnopqrstuvwxyz0123456789").cps[j]?=signs[j]?:=BA.symm
 rw[e,AO (B▸h)]
 exact⟨_,rfl,Dc _⟩
end Mine.Internal
namespace Mine.Internal
noncomputable def ju(x:Nat):List (List Nat)->List (List Nat)
 | []=>[[x]]
 |w::ws=>(x::w)::ws
noncomputable def HG(c:Nat):List Nat->List (List Nat)
 | []=>[[]]
 |x::l=>if x=c then []::HG c l else ju x (HG c l)
noncomputable def S7(c:Nat):List (List Nat)->List Nat
 | []=>[]
 |w::ws=>ws.foldl (λa b=>a++c::b) w
noncomputable def K2(rs:List (List Nat)):List Nat:=(rs.map (·++[10])).flatten
theorem s9:ju x ws≠[]:=by cases ws <;> exact Bi _ _
theorem UK:HG c l≠[]:=by
 cases l with
 |nil=>exact Bi _ _
 |cons x l=>
  refine(?_:(if x=c then []::HG c l else ju x (HG c l))≠[])
  split
  .exact Bi _ _
  .exact s9
theorem qD(h:a≠[]):ju x (a++b)=ju x a++b:=by
 cases a with
 |nil=>exact absurd rfl h
 |cons w ws=>rfl
theorem QL:HG c (a++c::b)=HG c a++HG c b:=by
 induction a with
 |nil=>exact if_pos rfl
 |cons x a B=>
  refine(?_:(if x=c then []::HG c (a++c::b) else ju x (HG c (a++c::b)))=(if x=c then []::HG c a else ju x (HG c a))++HG c b)
  rw[B]
  by_cases h:x=c
  .rw[if_pos h,if_pos h];rfl
  .rw[if_neg h,if_neg h,qD UK]
theorem Ob(h:c∉a):HG c a=[a]:=by
 induction a with
 |nil=>rfl
 |cons x a B=>
  refine(?_:(if x=c then []::HG c a else ju x (HG c a))=_)
  rw[if_neg (show ¬x=c from λe=>h (e▸AL)),B λm=>h (Ad _ m)];rfl
theorem du{c:Nat}{ws:List (List Nat)}:∀{w:List Nat},HG c (ws.foldl (λa b=>a++c::b) w)=HG c w++(ws.map (HG c)).flatten:=by
 induction ws with
 |nil=>intro w;exact(Bl _).symm
 |cons v ws B=>intro w;rw[Gj,B,QL,Aq];rfl
theorem XU(h:ws≠[]):HG c (S7 c ws)=(ws.map (HG c)).flatten:=by
 cases ws with
 |nil=>exact absurd rfl h
 |cons w ws=>exact du
theorem cC{c:Nat}{ws:List (List Nat)}(h:∀w∈ws,c∉w):(ws.map (HG c)).flatten=ws:=by
 induction ws with
 |nil=>rfl
 |cons w ws B=>rw[B6,Ob (h w AL),mu,B λv m=>h v (Ad _ m)];rfl
theorem S2{c:Nat}{ws:List (List Nat)}(hn:ws≠[])(h:∀w∈ws,c∉w):HG c (S7 c ws)=ws:=(XU hn).trans (cC h)
theorem Yi:K2 (r::rs)=r++10::K2 rs:=by
 unfold K2
 rw[B6,mu,Aq];rfl
theorem TR:K2 (rs++B)=K2 rs++K2 B:=by
 unfold K2
 rw[Ai,List.flatten_append]
theorem S9(h:∀r∈rs,10∉r):HG 10 (K2 rs)=rs++[[]]:=by
 induction rs with
 |nil=>rfl
 |cons r rs B=>rw[Yi,QL,Ob (h r AL),B λv m=>h v (Ad _ m)];rfl
theorem pC(h:a≠[]):(ju x a).length=a.length:=by
 cases a with
 |nil=>exact absurd rfl h
 |cons w ws=>rfl
theorem RP:(HG c l).length=l.count c+1:=by
 induction l with
 |nil=>rfl
 |cons x l B=>
  refine(?_:(if x=c then []::HG c l else ju x (HG c l)).length=_)
  by_cases h:x=c
  .rw[if_pos h,Bn,B,h,List.count_cons_self]
  .rw[if_neg h,pC UK,B,List.count_cons_of_ne h]
theorem cT:S7 c (w::v::ws)=w++c::S7 c (v::ws):=by
 refine(?_:(v::ws).foldl _ w=w++c::ws.foldl _ v)
 rw[Gj]
 induction ws generalizing v with
 |nil=>rfl
 |cons u ws B=>
  rw[Gj,Gj]
  have e:(w++c::v)++c::u=w++c::(v++c::u):=by rw[Aq];rfl
  rw[e,B]
theorem V5(hn:ws≠[])(h:∀w∈ws,c∉w)(e:S7 c ws=l):HG c l=ws:=e▸S2 hn h
end Mine.Internal
namespace Mine.Internal
open PySem NumText
set_option genSizeOf false
set_option genInjectivity false
set_option genCtorIdx false
abbrev ND(x:Str):Prop:=x.cps.all (·<128)=true
theorem ND.ok{x:Str}(h:ND x):Br x=true:=RO h
noncomputable def Qu:List Nat:=(AH "0123456789").cps.toList
noncomputable def H9(w:List Nat):Bool:=decide (0<w.length)&&(decide (w.length<=7)&&(w.all (λc=>decide (c∈Qu))&&!(decide (w.head?=some 48)&&decide (1<w.length))))
noncomputable def HR(w:Str):Option Int:=if H9 w.cps.toList=true then some (digitsVal w.cps.toList:Nat) else none
noncomputable def dR(w yes no:Str):Option Bool:=if w=yes then some true else if w=no then some false else none
noncomputable def mw(a b h:Str):Option Nu:=if h="low"\/h="left" then (HR a).bind λx=>(HR b).map λy=>⟨x,y,h⟩ else none
noncomputable def wd(ws:List Str)(i:Nat):Str:=ws.getD i ""
noncomputable def aQ(ws:List Str):Option Nu:=cond (Nw ws.length 4) (mw (wd ws 1) (wd ws 2) (wd ws 3)) none
structure Nt where
 name:Str
 w:Int
 h:Int
 t:Bool
 n:Int
 u:Int
 l:Int
 r:Bool
noncomputable def Nt.v(b:Nt):V:=.tup [.str b.name,.int b.w,.int b.h,.bool b.t,.tup [.int b.n,.int b.u,.int b.l,.bool b.r]]
noncomputable def bN(k x a b t n u l r:Str):Option Nt:=if k="box"/\x≠"" then (dR t "turns" "stays").bind λt=>(HR n).bind λn=>(HR u).bind λu=>(HR l).bind λl=>(dR r "turned" "upright").bind λr=>
   (HR a).bind λw=>(HR b).map λh=>⟨x,w,h,t,n,u,l,r⟩ else none
noncomputable def Qw(ws:List Str):Option Nt:=cond (Nw ws.length 9) (bN (wd ws 0) (wd ws 1) (wd ws 2) (wd ws 3) (wd ws 4) (wd ws 5) (wd ws 6) (wd ws 7) (wd ws 8)) none
noncomputable def GC(p:List Nu×List Nt)(ws:List Str):Option (List Nu×List Nt):=
 if ws.head?=some "shelf"/\p.2=[] then (aQ ws).map λs=>(p.1++[s],p.2) else (Qw ws).map λb=>(p.1,p.2++[b])
noncomputable def Fw:List (List Str)->List Nu×List Nt->Option (List Nu×List Nt)
 | [],p=>some p
 |ws::r,p=>(GC p ws).bind (Fw r)
noncomputable def FT(x:Str):List Str:=(EG x (sign 10)).dropLast
noncomputable def wordsOf(x:Str):List Str:=EG x (sign 32)
noncomputable def Gf(x:Str):Option (List Nu×List Nt):=if KL x (sign 10)=true then (Fw ((FT x).map wordsOf) ([],[])).bind λp=>if p.1=[] then none else some p else none
def Yo{α:Type}:Nat->(List α->Prop)->Prop
 | 0,P=>P []
 |n+1,P=>∃a,Yo n λr=>P (a::r)
theorem o9{B:Type}(l:List B):∀P:List B->Prop,P l->Yo l.length P:=by
 induction l with
 |nil=>exact λ_ h=>h
 |cons a l F=>exact λP h=>⟨a,F (λr=>P (a::r)) h⟩
theorem iq{B:Type}{l:List B}{n:Nat}(h:l.length=n):Yo n λr=>l=r:=h▸o9 l _ rfl
theorem vr{B:Type}{l:List B}(h:l.length=4):∃a b c d,l=[a,b,c,d]:=iq h
theorem qH{B:Type}{l:List B}(h:l.length=9):∃a b c d e f g i j,l=[a,b,c,d,e,f,g,i,j]:=iq h
theorem Wg{B:Type}{n k:Nat}{x:Option B}(h:n≠k):cond (Nw n k) x none=none:=by
 cases e:Nw n k with
 |true=>exact absurd (Nat.eq_of_beq_eq_true e) h
 |false=>rfl
theorem Ue(h:ws.length≠4):aQ ws=none:=Wg h
theorem N9(h:ws.length≠9):Qw ws=none:=Wg h
theorem Ku(e:mw a b h=some s):(h="low"\/h="left")/\HR a≠none/\HR b≠none:=by
 unfold mw at e
 split at e
 .rename_i F
  simp only[B3,Av] at e
  refine JZ e λ_ B _ M _=>?_
  exact⟨F,by rw[B];nofun,by rw[M];nofun⟩
 .cases e
theorem EY(e:bN k x a b t n u l r=some s):(k="box"/\x≠"")/\dR t "turns" "stays"≠none/\HR n≠none/\HR u≠none/\HR l≠none/\dR r "turned" "upright"≠none/\HR a≠none/\HR b≠none:=by
 unfold bN at e
 split at e
 .rename_i hc
  simp only[B3,Av] at e
  refine AW e λ_ F B=>JZ B λ_ Z _ h3 B=>JZ B λ_ h4 _ h5 B=>JZ B λ_ M _ h7 _=>?_
  exact⟨hc,by rw[F];nofun,by rw[Z];nofun,by rw[h3];nofun,by rw[h4];nofun,by rw[h5];nofun,by rw[M];nofun,by rw[h7];nofun⟩
 .cases e
theorem Fx{B:Type}{o:Option B}(h:∀s,o≠some s):o=none:=by
 cases o with
 |none=>rfl
 |some s=>exact absurd rfl (h s)
theorem rO(F:h=AH "low"\/h=AH "left")(M:HR a=some x)(B:HR b=some y):mw a b h=some ⟨x,y,h⟩:=by
 unfold mw
 rw[if_pos F,M,B];rfl
theorem sT(Z:k=AH "box"/\x≠AH "")(ht:dR t (AH "turns") (AH "stays")=some t')(hn:HR n=some B)(hu:HR u=some u')(M:HR l=some l')(hr:dR r (AH "turned") (AH "upright")=some r')(F:HR a=some w)(hb:HR b=some h):bN k x a b t n u l r=some ⟨x,w,h,t',B,u',l',r'⟩:=by
 unfold bN
 rw[if_pos Z,ht,hn,hu,M,hr,F,hb];rfl
theorem gI(h:c∈Qu):48<=c/\c<=57:=(by decide +kernel:∀c∈Qu,48<=c/\c<=57) c h
theorem nf(h:H9 w.cps.toList=true):intText? w=some (digitsVal w.cps.toList:Nat)/\w.length<=640:=by
 unfold H9 at h
 have B:=AJ.mp h
 have F:=AJ.mp B.2
 have Z:=AJ.mp F.2
 have M:w.length<=7:=of_decide_eq_true F.1
 refine⟨intText_digits (λc hc=>gI (of_decide_eq_true (BF.mp Z.1 c hc))) (λe=>?_) (AF M (by decide)),AF M (by decide)⟩
 have:=of_decide_eq_true B.1
 rw[e] at this
 cases this
end Mine.Internal
namespace Mine.Internal
open PySem
set_option genSizeOf false
set_option genInjectivity false
theorem FJ:∀{p:List Nu×List Nt},Fw (rs++B) p=(Fw rs p).bind (Fw B):=by
 induction rs with
 |nil=>intro p;rfl
 |cons r rs F=>
  intro p
  refine(?_:(GC p r).bind (Fw (rs++B))=((GC p r).bind (Fw rs)).bind _)
  cases h:GC p r with
  |none=>rfl
  |some q=>exact F
theorem Y9(h:Fw (rs.take i) p=none):Fw rs p=none:=by
 rw[<- Gp i rs,FJ,h];rfl
noncomputable def Ro(x:Nu):Sh:=⟨x.W,x.H,decide (x.s="low")⟩
theorem tQ(h:x.Good):(Ro x).v=x.v:=by
 obtain⟨W,H,s⟩:=x
 refine(?_:V.tup [.int W,.int H,WG (decide (s="low"))]=.tup [.int W,.int H,.str s])
 have:WG (decide (s="low"))=V.str s:=by
  by_cases e:s="low"
  .rw[decide_eq_true e,e];rfl
  .rw[decide_eq_false e,show s="left" from h.s.resolve_left e];rfl
 rw[this]
theorem vL(h:fL xs):xs.map Nu.v=(xs.map Ro).map Sh.v:=by
 rw[BW]
 exact CZ λx B=>(tQ (h.all x B)).symm
noncomputable def Nt.en(b:Nt):En:=⟨b.name,b.w,b.h,b.t,b.n.toNat,b.u,b.l,b.r⟩
inductive OV(ss:List Sh)(es:List En)(b:Nt):Except Nat (List En)->Prop
 |box:¬(Bk b.name=true/\CI b.w/\CI b.h)->OV ss es b (.error 56)
 |twice:Bk b.name=true->CI b.w->CI b.h->b.name∈es.map (·.name)->OV ss es b (.error 68)
 |room:Bk b.name=true->CI b.w->CI b.h->b.name∉es.map (·.name)->(∀k:Nat,b.n=k->¬JD ss es none b.en)->OV ss es b (.error 80)
 |ok (k:Nat):Bk b.name=true->CI b.w->CI b.h->b.name∉es.map (·.name)->b.n=k->JD ss es none b.en->OV ss es b (.ok (es++[b.en]))
inductive Hh(ss:List Sh):List En->List Nt->Except Nat (List En)->Prop
 |nil {es:List En}:Hh ss es [] (.ok es)
 |err {es:List En} {b:Nt} {bs:List Nt} {k:Nat}:OV ss es b (.error k)->Hh ss es (b::bs) (.error k)
 |ok {es es':List En} {b:Nt} {bs:List Nt} {r:Except Nat (List En)}:OV ss es b (.ok es')->Hh ss es' bs r->Hh ss es (b::bs) r
inductive I8(x:Str):Except Nat (List Sh×List En)->Prop
 |note:Gf x=none->I8 x (.error 104)
 |JS {xs:List Nu} {bs:List Nt}:Gf x=some (xs,bs)->¬fL xs->I8 x (.error 44)
 |err {xs:List Nu} {bs:List Nt} {k:Nat}:Gf x=some (xs,bs)->fL xs->Hh (xs.map Ro) [] bs (.error k)->I8 x (.error k)
 |ok {xs:List Nu} {bs:List Nt} {es:List En}:Gf x=some (xs,bs)->fL xs->Hh (xs.map Ro) [] bs (.ok es)->I8 x (.ok (xs.map Ro,es))
theorem NQ(h:Hh ss es bs (.ok es'))(g:OV ss es' b r):Hh ss es (bs++[b]) r:=by
 generalize e:(Except.ok es':Except Nat (List En))=r0 at h
 induction h with
 |nil=>
  have F:=Mu e;subst F
  cases g with
  |box a=>exact .err (.box a)
  |twice a b c d=>exact .err (.twice a b c d)
  |room a b c d e=>exact .err (.room a b c d e)
  |ok k a b c d e f=>exact .ok (.ok k a b c d e f) .nil
 |err _=>cases e
 |ok p _ B=>exact .ok p (B e)
theorem Sk(h:Hh ss es bs (.error k)):Hh ss es (bs++F) (.error k):=by
 generalize e:(Except.error k:Except Nat (List En))=r0 at h
 induction h with
 |nil=>cases e
 |err p=>cases e;exact .err p
 |ok p _ B=>exact .ok p (B e)
theorem ji(h:Qw ws=some b):b.name∈ws:=by
 by_cases M:ws.length=9
 .refine Jf (qH M) λk x a c t m u l r B=>?_;subst B
  replace h:bN k x a c t m u l r=some b:=h
  unfold bN at h
  split at h
  .simp only[B3,Av] at h
   refine AW h λ_ _ F=>JZ F λ_ _ _ _ F=>JZ F λ_ _ _ _ F=>JZ F λ_ _ _ _ B=>?_;subst B
   exact Ad _ AL
  .exact absurd h.symm (AY _)
 .rw[N9 M] at h;exact absurd h.symm (AY _)
theorem p7(h:aQ ws=some s):s.s="low"\/s.s="left":=by
 by_cases F:ws.length=4
 .refine Cq (vr F) λk Z=>EA Z λx a c B=>?_;subst B
  replace h:mw x a c=some s:=h
  unfold mw at h
  split at h
  .rename_i M
   simp only[B3,Av] at h
   refine JZ h λ_ _ _ _ B=>?_;subst B
   exact M
  .exact absurd h.symm (AY _)
 .rw[Ue F] at h;exact absurd h.symm (AY _)
theorem Se{T:Str->Prop}:∀{p F:List Nu×List Nt},Fw rs p=some F->(∀ws∈rs,∀w∈ws,T w)->(∀b∈p.2,T b.name)->(∀s∈p.1,s.s="low"\/s.s="left")->(∀b∈F.2,T b.name)/\∀s∈F.1,s.s="low"\/s.s="left":=by
 induction rs with
 |nil=>intro p F h _ M Z;have zq:=AG h;subst zq;exact⟨M,Z⟩
 |cons ws rs ih=>
  intro p F h hw M Z
  refine AW (B3.mp h) λq hq h=>?_
  have B:=λws m=>hw ws (Ad _ m)
  unfold GC at hq
  split at hq
  .refine AW (Av.mp hq) λs hs e=>?_
   subst e
   exact ih h B M λy hy=>(An.mp hy).elim (Z y) λm=>AM.mp m▸p7 hs
  .refine AW (Av.mp hq) λs hs e=>?_
   subst e
   exact ih h B (λy hy=>(An.mp hy).elim (M y) λm=>AM.mp m▸hw ws AL _ (ji hs)) Z
theorem cK:∀{p B:List Nu×List Nt},Fw rs p=some B->B.1.length+B.2.length=p.1.length+p.2.length+rs.length:=by
 induction rs with
 |nil=>intro p B h;have Z:=AG h;subst Z;rfl
 |cons ws rs M=>
  intro p B h
  refine AW (B3.mp h) λq F h=>?_
  rw[M h,Bn]
  unfold GC at F
  split at F
  .refine AW (Av.mp F) λs hs e=>?_
   subst e
   refine(?_:(p.1++[s]).length+p.2.length+rs.length=_)
   rw[AI];show p.1.length+1+_+_=_;exact BC (HW .le (.a (.a (.a .v0 .n1) .v1) .v2) (.a (.a .v0 .v1) (.a .v2 .n1)) .e rfl) (HW .le (.a (.a .v0 .v1) (.a .v2 .n1)) (.a (.a (.a .v0 .n1) .v1) .v2) .e rfl)
  .refine AW (Av.mp F) λs hs e=>?_
   subst e
   rw[AI];show p.1.length+(p.2.length+1)+_=_;exact BC (HW .le (.a (.a .v0 (.a .v1 .n1)) .v2) (.a (.a .v0 .v1) (.a .v2 .n1)) .e rfl) (HW .le (.a (.a .v0 .v1) (.a .v2 .n1)) (.a (.a .v0 (.a .v1 .n1)) .v2) .e rfl)
theorem Jo(h:Bk x=true):ND x:=by
 unfold Bk at h
 have:=(AJ.mp (AJ.mp h).2).2
 exact Ct.mpr λc B=>SW c (of_decide_eq_true (BF.mp this c B))
theorem VP(h:Hh ss es bs (.ok es'))(E:Oq ss es)(F:es.length+bs.length<127):Oq ss es'/\es'.length=es.length+bs.length:=by
 generalize e:(Except.ok es':Except Nat (List En))=r0 at h
 induction h with
 |nil=>have M:=Mu e;subst M;exact⟨E,rfl⟩
 |err _=>cases e
 | @ok es e1 b bs r p _ ih=>
  cases p with
  |ok k g1 g2 g3 g4 g5 g6=>
   have B:(es++[b.en]).length=es.length+1:=AI
   rw[Bn] at F
   have:=ih ⟨?_,λy hy=>(An.mp hy).elim (E.num y) λm=>?_,λy hy=>(An.mp hy).elim (E.str y) λm=>AM.mp m▸(Jo g1).ok,by rw[B];exact Dy .lt (.a .v0 .n1) (.n 127) (.t (.a .v0 (.a .v1 .n1)) (.n 127) .e) rfl F⟩ (by rw[B];exact Dy .lt (.a (.a .v0 .n1) .v1) (.n 127) (.t (.a .v0 (.a .v1 .n1)) (.n 127) .e) rfl F) e
   .refine⟨this.1,this.2.trans ?_⟩
    rw[B,Bn];exact BC (Dy .le (.a (.a .v0 .n1) .v1) (.a .v0 (.a .v1 .n1)) .e rfl) (Dy .le (.a .v0 (.a .v1 .n1)) (.a (.a .v0 .n1) .v1) .e rfl)
   .rw[Ai,G5]
    exact⟨E.nodup,Ds.mpr ⟨BU,GF⟩,λy hy z Z q=>g4 (by rw[AM.mp Z] at q;have q:y=b.name:=q;exact q▸hy)⟩
   .have M:=AM.mp m;subst M
    exact AW g6 λsh e _=>(AP.mp e).1
theorem VN(x:Str)(c:Nat):EG x (sign c)≠[]:=λe=>by
 have:=PyProof.Rows.split_pos x (sign c)
 rw[e] at this
 exact absurd this (by decide)
theorem V8{B:Type}{l:List B}:HS l 0 (((-1:Int)+(l.length:Nat)).toNat)=l.dropLast:=by
 unfold HS
 rw[KZ,List.dropLast_eq_take,MU]
 exact congrArg l.take (Int.toNat_sub l.length 1)
theorem LC{σ B:Af}{n:Nat}{o:O}(p:σ<+:B)(h:σ.length<=n):σ<+:B.set n o:=by
 refine Cq p λτ F=>?_;subst F
 rw[Ms _ _ h]
 exact CU _ _
end Mine.Internal
namespace Mine.Internal
open PySem
set_option genSizeOf false
set_option genInjectivity false
noncomputable abbrev tl(x:Str):List Nat:=x.cps.toList
theorem WT:E4 (tl x)=x:=rfl
theorem iS:tl (E4 l)=l:=rfl
theorem RC(h:tl x=tl y):x=y:=by rw[<- WT (x:=x),h];rfl
theorem DJ:tl (x++y)=tl x++tl y:=Kn
theorem aR:tl (Cr (sign c) ps)=S7 c (ps.map tl):=by
 induction ps with
 |nil=>rfl
 |cons p ps B=>cases ps with
  |nil=>rfl
  |cons q ps=>
   refine(?_:tl (p++sign c++Cr (sign c) (q::ps))=_)
   rw[DJ,DJ,B,B6,B6,B6,cT,Aq];rfl
theorem O4{ps:List Str}:(ps.map tl).map E4=ps:=by rw[BW];exact(CZ λx _=>WT).trans (XF ps)
theorem OI:EG x (sign c)=(HG c (tl x)).map E4:=by
 have h:=V5 (c:=c) (l:=tl x) (ws:=(EG x (sign c)).map tl) (λe=>VN x c (Cy.mp e)) (λw B=>by
  refine AW (Ab.mp B) λp hp e=>?_
  exact e▸StrLaws.split_free x c p hp) (by rw[<- aR,StrLaws.join_split])
 rw[h,O4]
noncomputable abbrev Zt:Str:="\n"
noncomputable abbrev q7:Str:=""
theorem nq:tl (Cr q7 ps)=(ps.map tl).flatten:=by
 induction ps with
 |nil=>rfl
 |cons p ps B=>cases ps with
  |nil=>exact(Bl _).symm
  |cons q ps=>
   refine(?_:tl (p++q7++Cr q7 (q::ps))=_)
   rw[DJ,DJ,B]
   refine(?_:(tl p++[])++_=_)
   rw[Bl];rfl
noncomputable def DN(rs:List Str):Str:=Cr q7 (rs.map (·++Zt))
theorem KS:tl (DN rs)=K2 (rs.map tl):=by
 unfold DN K2
 rw[nq,BW,BW]
 congr 1
 exact CZ λr _=>Kn
theorem Nx:DN (rs++B)=DN rs++DN B:=RC (by rw[DJ,KS,KS,KS,Ai,TR])
theorem Q7:DN [r]=r++Zt:=rfl
theorem Qm:KL x (sign c)=true↔(tl x).getLast?=some c:=by
 have B:=StrLaws.subAt_one x c (x.length-1)
 unfold KL
 rw[AJ,decide_eq_true_iff,List.getLast?_eq_getElem?,show (tl x).length=x.length from A1]
 constructor
 .intro h
  refine B.mp ⟨?_,h.2⟩
  exact CK (Ag h.1)
 .intro h
  have F:x.length-1<x.length:=by have:=(AP.mp h).1;rwa [show (tl x).length=x.length from A1] at this
  exact⟨Al (BM _) F,(B.mpr h).2⟩
theorem cx(h:rs≠[]):(K2 rs).getLast?=some 10:=by
 rw[<- Jm h,TR]
 refine(?_:(K2 _++((_++[10])++[])).getLast?=some 10)
 rw[Bl,<- Aq,List.getLast?_concat]
theorem Mf(h:∀r∈rs,10∉tl r):FT (DN rs)=rs:=by
 unfold FT
 rw[OI,KS,S9 λr B=>by refine AW (Ab.mp B) λp hp e=>?_;exact e▸h p hp]
 rw[Ai,B6,XE,bq,O4]
theorem ky:∀w∈HG c l,(∀a∈w,a∈l)/\w.length<=l.length:=by
 induction l with
 |nil=>intro w m;have F:=AM.mp m;subst F;exact⟨λ_ h=>h,Az _⟩
 |cons x l B=>
  refine(?_:∀w∈(if x=c then []::HG c l else ju x (HG c l)),_)
  have up:∀{w:List Nat},((∀a∈w,a∈l)/\w.length<=l.length)->(∀a∈w,a∈x::l)/\w.length<=(x::l).length:=λh=>⟨λa m=>Ad _ (h.1 a m),Fm h.2⟩
  by_cases h:x=c
  .rw[if_pos h]
   intro w m
   refine A7 (Ao.mp m) (λe=>?_) (λm=>?_)
   .subst e;exact⟨Hn,BM _⟩
   .exact up (B w m)
  .rw[if_neg h]
   have hn:=UK (c:=c) (l:=l)
   generalize HG c l=ws at B hn
   cases ws with
   |nil=>exact absurd rfl hn
   |cons v ws=>
    intro w m
    refine A7 (Ao.mp m) (λe=>?_) (λm=>?_)
    .subst e
     have:=B v AL
     exact⟨λa m=>(Ao.mp m).elim (λe=>e▸AL) λm=>Ad _ (this.1 a m),C8 this.2⟩
    .exact up (B w (Ad _ m))
theorem Mi(h:r∈EG x (sign c)):(ND x->ND r)/\r.length<=x.length:=by
 rw[OI] at h
 refine AW (Ab.mp h) λw M e=>?_;subst e
 have:=ky w M
 exact⟨λF=>Ct.mpr λc B=>Ct.mp F c (this.1 c B),by rw[Mr,show x.length=(tl x).length from A1.symm];exact this.2⟩
theorem Ji(hn:rs≠[])(h:∀r∈rs,10∉tl r):Gf (DN rs)=(Fw (rs.map wordsOf) ([],[])).bind λp=>if p.1=[] then none else some p:=by
 unfold Gf
 rw[if_pos (Qm.mpr (by rw[KS];exact cx λe=>hn (Cy.mp e))),Mf h]
theorem lL:Gf (DN [])=none:=by
 unfold Gf
 rw[if_neg]
 intro h
 have:=Qm.mp h
 exact absurd this.symm (AY _)
def VC(ws:List Str):Prop:=(ws.head?=some "shelf"->aQ ws=none)/\Qw ws=none
theorem VC.step(h:VC ws)(p:List Nu×List Nt):GC p ws=none:=by
 unfold GC
 split
 .rename_i B;rw[h.1 B.1];rfl
 .rw[h.2];rfl
theorem dJ(h:VC ws)(hm:ws∈rs):Fw rs p=none:=by
 refine FR (List.append_of_mem hm) λa b B=>?_;subst B
 rw[FJ]
 cases Fw a p with
 |none=>rfl
 |some q=>show (GC q ws).bind _=none;rw[h.step q];rfl
theorem UM(B:ws.length≠4)(F:ws.length≠9):VC ws:=⟨λ_=>Ue B,N9 F⟩
theorem RQ(F:k≠AH "shelf")(M:k≠AH "box"):VC (k::ws):=⟨λe=>absurd (AG e) F,by
 by_cases B:(k::ws).length=9
 .refine Jf (qH B) λZ x a c t m u l r e=>?_
  rw[e]
  cases e
  exact if_neg λz=>M z.1
 .exact N9 B⟩
theorem fv(h:∀r∈rs,10∉tl r)(hm:r∈rs)(B:VC (wordsOf r)):Gf (DN rs)=none:=by
 rw[Ji (List.ne_nil_of_mem hm) h,dJ B (Ab.mpr ⟨r,hm,rfl⟩)];rfl
theorem Q5:wordsOf r=(HG 32 (tl r)).map E4:=OI
theorem Mh:(wordsOf r).length=(tl r).count 32+1:=by rw[Q5,AA,RP]
noncomputable def Jb(ws:List Str):Str:=Cr (sign 32) ws
theorem Js(hn:ws≠[])(h:∀w∈ws,32∉tl w):wordsOf (Jb ws)=ws:=by
 unfold Jb
 rw[Q5,aR,S2 (λe=>hn (Cy.mp e)) λw B=>by refine AW (Ab.mp B) λp hp e=>?_;exact e▸h p hp]
 exact O4
theorem Mj(F:c≠32)(h:∀w∈ws,c∉tl w):c∉tl (Jb ws):=by
 unfold Jb
 induction ws with
 |nil=>exact BU
 |cons p ws B=>cases ws with
  |nil=>exact h p AL
  |cons q ws=>
   refine(?_:c∉tl (p++sign 32++Cr (sign 32) (q::ws)))
   rw[DJ,DJ]
   intro m
   refine A7 (An.mp m) (λm=>?_) (λm=>?_)
   .refine A7 (An.mp m) (λm=>?_) (λm=>?_)
    .exact h p AL m
    .exact F (AM.mp m)
   .exact B (λw M=>h w (Ad _ M)) m
end Mine.Internal
namespace Mine.Internal
open PySem NumText
set_option genSizeOf false
set_option genInjectivity false
noncomputable def Cp(i:Int):Str:=AH (toString i)
noncomputable def Mw(t:Bool):Str:=if t then "turns" else "stays"
noncomputable def My(t:Bool):Str:=if t then "turned" else "upright"
noncomputable def UO(t:Bool):Str:=if t then "low" else "left"
noncomputable def En.words(e:En):List Str:=["box", e.name,Cp e.w,Cp e.h,Mw e.t,Cp e.n,Cp e.u,Cp e.l,My e.r]
noncomputable def Sh.words(s:Sh):List Str:=["shelf", Cp s.W,Cp s.H,UO s.b]
theorem lX:∀n:Nat,0<n->((KO 10 n).map Td).head?≠some 48:=by
 intro n
 induction n using Nat.strongRecOn with
 |_ n F=>
  intro hn
  by_cases h:n<10
  .rw[Nat.toDigits_of_lt_base h]
   exact(by decide:∀n:Nat,n<10->0<n->([Nat.digitChar n].map Td).head?≠some 48) n h hn
  .have hm:n % 10<10:=mX n (by decide)
   have B:0<n / 10:=Nat.div_pos (B1.mp h) (by decide)
   have t:KO 10 (n / 10)++KO 10 (n % 10)=KO 10 (10*(n / 10)+n % 10):=Nat.toDigits_append_toDigits (by decide) B hm
   rw[Nat.div_add_mod] at t
   rw[<- t,Ai]
   have:=F (n / 10) (Nat.div_lt_self hn (by decide)) B
   cases e:(KO 10 (n / 10)).map Td with
   |nil=>
    have:=PySem.toDigits_len_ge 10 (n / 10)
    rw[Cy.mp e] at this
    exact absurd this (by decide)
   |cons c r=>rw[e] at this;exact this
theorem LF(Z:0<=i)(h1:i<10 ^ 7):HR (Cp i)=some i:=by
 refine Cq (Int.eq_ofNat_of_zero_le Z) λm F=>?_;subst F
 have e:tl (Cp ((m:Nat):Int))=(KO 10 m).map Td:=PySem.W.KIN.signs_num m
 have hl:(tl (Cp ((m:Nat):Int))).length<=7:=by
  have:=PyProof.Rows.toString_length_le Z (k:=7) (by decide) h1
  rw[show (tl (Cp ((m:Nat):Int))).length=(Cp ((m:Nat):Int)).length from A1];exact this
 have hg:0<(tl (Cp ((m:Nat):Int))).length:=by rw[e,AA];exact PySem.toDigits_len_ge 10 m
 have hd:∀c∈tl (Cp ((m:Nat):Int)),c∈Qu:=λc B=>by
  rw[e] at B
  refine AW (Ab.mp B) λch M z=>?_
  have r:=PyProof.Rows.digit_range (Nat.isDigit_of_mem_toDigits (by decide) (by decide) M)
  rw[z] at r
  exact(by decide +kernel:∀c<58,48<=c->c∈Qu) c (Nat.lt_succ_of_le r.2) r.1
 have ok:H9 (tl (Cp ((m:Nat):Int)))=true:=by
  unfold H9
  rw[decide_eq_true hg,decide_eq_true hl,BF.mpr λc B=>decide_eq_true (hd c B),Hy,Hy,Hy,CB,Bool.and_eq_false_iff]
  by_cases hm:0<m
  .exact .inl (decide_eq_false (by rw[e];exact lX m hm))
  .have:m=0:=Iq hm
   subst this
   exact .inr (by decide +kernel)
 unfold HR
 rw[if_pos ok,show (Cp ((m:Nat):Int)).cps.toList=_ from e,PySem.W.KIN.val_back]
theorem RN(h:c≠45/\(c<48\/57<c)):c∉tl (Cp i):=PyProof.Rows.int_text_free' c h i
theorem o6:ND (Cp i):=Ct.mpr λc F=>by
 by_cases h:c<128
 .exact h
 .exact absurd F (RN ⟨by exact λB=>N6 (.q .v0 (.n 45) (.o .v0 (.n 128) .e)) rfl B h,by exact .inr (Ec .lt (.n 57) .v0 (.o .v0 (.n 128) .e) rfl h)⟩)
theorem TV(h:Bk x=true)(B:c∉signs):c∉tl x:=λm=>by
 unfold Bk at h
 have:=(AJ.mp (AJ.mp h).2).2
 exact B (of_decide_eq_true (BF.mp this c m))
theorem aq(h:Bk x=true):x≠"":=λe=>by subst e;exact absurd h (by decide +kernel)
def Clean(w:Str):Prop:=32∉tl w/\10∉tl w/\ND w/\w.length<=65
theorem FK(h:EO i=true):Clean (Cp i):=⟨RN ⟨by decide,by decide⟩,RN ⟨by decide,by decide⟩,o6,by
 unfold Cp
 rw[ofString_length]
 exact int_text_length_le (k:=64) (by decide) (Jl h)⟩
theorem Q2(h:Bk x=true):Clean x:=⟨TV h (by decide +kernel),TV h (by decide +kernel),Jo h,by
 unfold Bk at h
 exact AF (of_decide_eq_true (AJ.mp (AJ.mp h).2).1) (by decide)⟩
theorem Ks(h:((tl x).all λc=>decide (c≠32)&&(decide (c≠10)&&decide (c<128)))=true)(F:x.length<=65):Clean x:=by
 have h:=BF.mp h
 have k:∀c∈tl x,c≠32/\c≠10/\c<128:=λc B=>by
  have:=h c B
  simp only[BK,decide_eq_true_eq] at this
  exact⟨this.1,this.2⟩
 exact⟨λm=>(k _ m).1 rfl,λm=>(k _ m).2.1 rfl,Ct.mpr λc B=>(k c B).2.2,F⟩
theorem TQ:Clean (Mw t):=by cases t <;> exact Ks (by decide +kernel) (by decide +kernel)
theorem Ss:Clean (My t):=by cases t <;> exact Ks (by decide +kernel) (by decide +kernel)
theorem cP:Clean (UO t):=by cases t <;> exact Ks (by decide +kernel) (by decide +kernel)
structure Dr(ss:List Sh)(es:List En):Prop where
 n:1<=ss.length/\ss.length<=9
 sh:∀s∈ss,CI s.W/\CI s.H
 nodup:(es.map (·.name)).Nodup
 good:∀e∈es,Bk e.name=true
 sz:∀e∈es,CI e.w/\CI e.h
 ins:∀e∈es,∃sh,ss[e.n]?=some sh/\(e.r=true->e.t=true)/\0<=e.u/\0<=e.l/\e.u+e.ot.h<=sh.H/\e.l+e.ot.w<=sh.W
 apart:es.Pairwise λa b=>a.n=b.n->Clear a.ot.h a.ot.w a.ot.u a.ot.l b.ot.low
 ord:es.Pairwise λa b=>D6 (a.key ss) (b.key ss)=true
 len:es.length<=89
section
variable {ss:List Sh} {es:List En} {e:En} {s:Sh}
theorem jj(h:0<=k/\k<b)(B:b<=10000000):EO k=true:=IK (Au (by decide) h.1) (Au (C0 h.2) (Au B (by decide)))
theorem GS(h:CI k):EO k=true:=IK (Au (by decide) h.1) (Au h.2 (by decide))
theorem UR(h:CI k):HR (Cp k)=some k:=LF (Au (by decide) h.1) (DK h.2 (by decide))
theorem UG{k b:Nat}(h:k<b)(B:b<=1000:=by decide):HR (Cp k)=some (k:Int):=LF (AQ _) (Ee (BH.mpr (Ac h B)) (by decide))
theorem Y0(h:CI e.w/\CI e.h):1<=e.ot.h/\1<=e.ot.w:=by
 unfold En.ot
 cases e.r
 .exact⟨h.2.1,h.1.1⟩
 .exact⟨h.1.1,h.2.1⟩
theorem Dr.nums(D:Dr ss es)(F:e∈es):(0<=e.u/\e.u<1000000)/\(0<=e.l/\e.l<1000000)/\e.n<9:=by
 refine Kw (D.ins e F) λsh B _ h3 Z h5 M=>?_
 have hs:=D.sh sh (Ae B)
 have hp:=Y0 (D.sz e F)
 have hn:=(AP.mp B).1
 have h9:=D.n.2
 exact⟨⟨h3,Cn (Ln _ hp.1) (Au h5 hs.2.2)⟩,⟨Z,Cn (Ln _ hp.2) (Au M hs.1.2)⟩,by exact Dy .lt .v0 (.n 9) (.t .v0 .v1 (.l .v1 (.n 9) .e)) rfl hn h9⟩
theorem Dr.clean(D:Dr ss es)(B:e∈es):∀w∈e.words,Clean w:=by
 have h:=D.nums B
 have Z:=D.sz e B
 have F:∀{k:Int},0<=k->k<1000000->EO k=true:=λh0 h1=>jj ⟨h0,h1⟩ (by decide)
 intro w M
 unfold En.words at M
 simp only[Ao,BU,or_false] at M
 rcases M with rfl | rfl | rfl | rfl | rfl | rfl | rfl | rfl | rfl
 .exact Ks (by decide +kernel) (by decide +kernel)
 .exact Q2 (D.good e B)
 .exact FK (GS Z.1)
 .exact FK (GS Z.2)
 .exact TQ
 .exact FK (F (AQ _) (by exact Im .lt .v0 (.n 1000000) (.t .v0 (.n 9) .e) rfl (BH.mpr h.2.2)))
 .exact FK (F h.1.1 h.1.2)
 .exact FK (F h.2.1.1 h.2.1.2)
 .exact Ss
theorem Dr.O6(D:Dr ss es)(hs:s∈ss):∀w∈s.words,Clean w:=by
 have F:=D.sh s hs
 intro w B
 unfold Sh.words at B
 simp only[Ao,BU,or_false] at B
 rcases B with rfl | rfl | rfl | rfl
 .exact Ks (by decide +kernel) (by decide +kernel)
 .exact FK (GS F.1)
 .exact FK (GS F.2)
 .exact cP
noncomputable def DC(s:Sh):Str:=Jb s.words
noncomputable def C9(e:En):Str:=Jb e.words
theorem Dr.Uw(D:Dr ss es)(hs:s∈ss):wordsOf (DC s)=s.words:=Js (Bi _ _) λw B=>(D.O6 hs w B).1
theorem Dr.U0(D:Dr ss es)(B:e∈es):wordsOf (C9 e)=e.words:=Js (Bi _ _) λw F=>(D.clean B w F).1
theorem Dr.Zt(D:Dr ss es)(hs:s∈ss):10∉tl (DC s):=Mj (by decide) λw B=>(D.O6 hs w B).2.1
theorem Dr.yC(D:Dr ss es)(B:e∈es):10∉tl (C9 e):=Mj (by decide) λw F=>(D.clean B w F).2.1
noncomputable def En.nt(e:En):Nt:=⟨e.name,e.w,e.h,e.t,e.n,e.u,e.l,e.r⟩
theorem ak:e.nt.en=e:=by unfold En.nt Nt.en;rw[A6]
theorem kZ:dR (Mw t) "turns" "stays"=some t:=by cases t <;> decide +kernel
theorem ly:dR (My t) "turned" "upright"=some t:=by cases t <;> decide +kernel
theorem Dr.aQ(D:Dr ss es)(hs:s∈ss):Mine.Internal.aQ s.words=some s.x:=by
 have B:=D.sh s hs
 refine(?_:mw (Cp s.W) (Cp s.H) (UO s.b)=_)
 unfold mw
 rw[if_pos (by cases s.b <;> decide +kernel),UR B.1,UR B.2]
 rfl
theorem Dr.Qw(D:Dr ss es)(B:e∈es):Mine.Internal.Qw e.words=some e.nt:=by
 have h:=D.nums B
 have F:=D.sz e B
 refine(?_:bN "box" e.name (Cp e.w) (Cp e.h) (Mw e.t) (Cp e.n) (Cp e.u) (Cp e.l) (My e.r)=_)
 unfold bN
 rw[if_pos ⟨rfl,aq (D.good e B)⟩,kZ,UG h.2.2,LF (i:=e.u) h.1.1 (Ee h.1.2 (by decide)),LF (i:=e.l) h.2.1.1 (Ee h.2.1.2 (by decide)),ly,UR F.1,UR F.2]
 rfl
end
end Mine.Internal
namespace Mine.Internal
open PySem
set_option genSizeOf false
set_option genInjectivity false
theorem N2(h:OV ss es b r)(h':OV ss es b r'):r=r':=by
 cases h with
 |box a=>cases h' with
  |box _=>rfl
  |twice B F M _=>exact absurd ⟨B,F,M⟩ a
  |room B F M _ _=>exact absurd ⟨B,F,M⟩ a
  |ok _ B F M _ _ _=>exact absurd ⟨B,F,M⟩ a
 |twice B F M a4=>cases h' with
  |box a=>exact absurd ⟨B,F,M⟩ a
  |twice _ _ _ _=>rfl
  |room _ _ _ Z _=>exact absurd a4 Z
  |ok _ _ _ _ Z _ _=>exact absurd a4 Z
 |room B F M a4 a5=>cases h' with
  |box a=>exact absurd ⟨B,F,M⟩ a
  |twice _ _ _ Z=>exact absurd Z a4
  |room _ _ _ _ _=>rfl
  |ok k _ _ _ _ b5 b6=>exact absurd b6 (a5 k b5)
 |ok k B F M a4 a5 a6=>cases h' with
  |box a=>exact absurd ⟨B,F,M⟩ a
  |twice _ _ _ Z=>exact absurd Z a4
  |room _ _ _ _ b5=>exact absurd a6 (b5 k a5)
  |ok _ _ _ _ _ _ _=>rfl
theorem Me(h:Hh ss es bs r)(h':Hh ss es bs r'):r=r':=by
 induction h with
 |nil=>cases h';rfl
 |err p=>cases h' with
  |err B=>cases N2 p B;rfl
  |ok B _=>cases N2 p B
 |ok p _ F=>cases h' with
  |err B=>cases N2 p B
  |ok B Z=>have M:=Mu (N2 p B);subst M;exact F Z
theorem Hw(h:I8 x r)(h':I8 x r'):r=r':=by
 cases h with
 |note a=>cases h' with
  |note _=>rfl
  |JS b _=>exact absurd (a.symm.trans b).symm (AY _)
  |err b _ _=>exact absurd (a.symm.trans b).symm (AY _)
  |ok b _ _=>exact absurd (a.symm.trans b).symm (AY _)
 |JS a c=>cases h' with
  |note b=>exact absurd (b.symm.trans a).symm (AY _)
  |JS _ _=>rfl
  |err b d _=>cases a.symm.trans b;exact absurd d c
  |ok b d _=>cases a.symm.trans b;exact absurd d c
 |err a c p=>cases h' with
  |note b=>exact absurd (b.symm.trans a).symm (AY _)
  |JS b d=>cases a.symm.trans b;exact absurd c d
  |err b _ B=>cases a.symm.trans b;cases Me p B;rfl
  |ok b _ B=>cases a.symm.trans b;cases Me p B
 |ok a c p=>cases h' with
  |note b=>exact absurd (b.symm.trans a).symm (AY _)
  |JS b d=>cases a.symm.trans b;exact absurd c d
  |err b _ B=>cases a.symm.trans b;cases Me p B
  |ok b _ B=>cases a.symm.trans b;have F:=Mu (Me p B);subst F;rfl
section
variable {ss:List Sh} {es es' es₀:List En} {e:En} {s:Sh}
structure Any(ss:List Sh)(es:List En):Prop where
 nodup:(es.map (·.name)).Nodup
 good:∀e∈es,Bk e.name=true
 sz:∀e∈es,CI e.w/\CI e.h
 ins:∀e∈es,∃sh,ss[e.n]?=some sh/\(e.r=true->e.t=true)/\0<=e.u/\0<=e.l/\e.u+e.ot.h<=sh.H/\e.l+e.ot.w<=sh.W
 apart:es.Pairwise λa b=>a.n=b.n->Clear a.ot.h a.ot.w a.ot.u a.ot.l b.ot.low
theorem Dr.any(D:Dr ss es)(hp:es'.Perm es):Any ss es':=
 ⟨(hp.map _).nodup_iff.mpr D.nodup,λe he=>D.good e (hp.mem_iff.mp he),λe he=>D.sz e (hp.mem_iff.mp he),λe he=>D.ins e (hp.mem_iff.mp he),(hp.pairwise_iff λ{a b} h=>Ng h).mpr D.apart⟩
theorem fg(h:ss[e.n]?=some sh)(ht:e.r=true->e.t=true)(hu:0<=e.u)(hl:0<=e.l)(h5:e.u+e.ot.h<=sh.H)(h6:e.l+e.ot.w<=sh.W)(hc:∀x∈es0,x.n=e.n->Clear e.ot.h e.ot.w e.ot.u e.ot.l x.ot.low):JD ss es0 none e:=by
 refine⟨sh,h,ht,?_⟩
 refine⟨by rw[o8.1];exact hu,by rw[o8.2];exact hl,by rw[o8.1];exact h5,by rw[o8.2];exact h6,λo Z=>?_⟩
 refine AW (Ab.mp Z) λo' M F=>?_;subst F
 refine AW (Ab.mp M) λx B F=>?_;subst F
 have B:=Dp.mp B
 exact hc x B.1 (of_decide_eq_true (AJ.mp B.2).1)
theorem Any.qR:∀{rest es0:List En},Any ss (es0++rest)->Hh ss es0 (rest.map En.nt) (.ok (es0++rest)):=λ{rest}=>by
 induction rest with
 |nil=>intro es0 _;rw[Bl];exact .nil
 |cons e rest ih=>
  intro es0 A
  have hm:e∈es0++e::rest:=BB _ AL
  have e1:es0++e::rest=(es0++[e])++rest:=by rw[Aq];rfl
  have hz:=A.sz e hm
  refine Kw (A.ins e hm) λsh h1 h2 h3 h4 h5 h6=>?_
  have hn:e.name∉es0.map (·.name):=λm=>by
   have:=A.nodup
   rw[Ai,B6,G5] at this
   exact this.2.2 _ m _ AL rfl
  have hc:JD ss es0 none e:=fg h1 h2 h3 h4 h5 h6 λx hx hxn=>Ng (a:=x) (b:=e) ((BY.mp A.apart).2.2 x hx e AL) hxn.symm
  have p:OV ss es0 e.nt (.ok (es0++[e])):=by
   have:=OV.ok (ss:=ss) (es:=es0) (b:=e.nt) e.n (A.good e hm) hz.1 hz.2 hn rfl (by rw[ak];exact hc)
   rw[ak] at this;exact this
  rw[e1] at A ⊢
  exact .ok p (ih A)
theorem Dr.qR(D:Dr ss es)(hp:es'.Perm es):Hh ss [] (es'.map En.nt) (.ok es'):=Any.qR (es0:=[]) (D.any hp)
theorem OE(D:Dr ss es):∀(l:List Sh),(∀s∈l,s∈ss)->∀(xs:List Nu),Fw ((l.map DC).map wordsOf) (xs,[])=some (xs++l.map Sh.x,[]):=λl=>by
 induction l with
 |nil=>intro _ xs;exact congrArg (λz=>some (z,_)) (Bl xs).symm
 |cons s l B=>
  intro h xs
  have hs:=h s AL
  have M:GC (xs,[]) (wordsOf (DC s))=some (xs++[s.x],[]):=by
   rw[D.Uw hs]
   unfold GC
   rw[if_pos ⟨rfl,rfl⟩,D.aQ hs];rfl
  refine(?_:(GC (xs,[]) (wordsOf (DC s))).bind _=_)
  rw[M]
  refine(B (λt F=>h t (Ad _ F)) _).trans ?_
  rw[Aq];rfl
theorem Q4(h:Qw ws=some b):GC p ws=some (p.1,p.2++[b]):=by
 unfold GC
 rw[if_neg,h];· rfl
 intro Z
 by_cases F:ws.length=9
 .refine Jf (qH F) λk x a c t m u l r B=>?_;subst B
  replace h:bN k x a c t m u l r=some b:=h
  unfold bN at h
  split at h
  .rename_i M
   have:=AG Z.1
   rw[M.1] at this
   exact absurd this (by decide +kernel)
  .exact absurd h.symm (AY _)
 .rw[N9 F] at h;exact absurd h.symm (AY _)
theorem Pz(D:Dr ss es):∀(l:List En),(∀e∈l,e∈es)->∀(p:List Nu×List Nt),Fw ((l.map C9).map wordsOf) p=some (p.1,p.2++l.map En.nt):=λl=>by
 induction l with
 |nil=>intro _ p;exact congrArg (λz=>some (p.1,z)) (Bl p.2).symm
 |cons e l F=>
  intro h p
  have B:=h e AL
  refine(?_:(GC p (wordsOf (C9 e))).bind _=_)
  rw[D.U0 B,Q4 (D.Qw B)]
  refine(F (λt M=>h t (Ad _ M)) _).trans ?_
  refine(?_:some (p.1,p.2++[e.nt]++_)=_)
  rw[Aq];rfl
theorem Dr.rows(D:Dr ss es)(hp:∀e∈es',e∈es):Fw ((ss.map DC++es'.map C9).map wordsOf) ([],[])=some (ss.map Sh.x,es'.map En.nt):=by
 rw[Ai,FJ,OE D ss (λ_ h=>h) []]
 exact Pz D es' hp (ss.map Sh.x,[])
theorem Dr.ne(D:Dr ss es):ss≠[]:=λe=>absurd D.n.1 (by rw[e];decide)
theorem Dr.nl(D:Dr ss es)(hp:∀e∈es',e∈es):∀r∈ss.map DC++es'.map C9,10∉tl r:=λr B=>(An.mp B).elim (λm=>by refine AW (Ab.mp m) λs hs e=>?_;exact e▸D.Zt hs) λm=>by refine AW (Ab.mp m) λs hs e=>?_;exact e▸D.yC (hp s hs)
theorem Dr.note(D:Dr ss es)(hp:∀e∈es',e∈es):Gf (DN (ss.map DC++es'.map C9))=some (ss.map Sh.x,es'.map En.nt):=by
 rw[Ji (λe=>D.ne (Cy.mp (Lr.mp e).1)) (D.nl hp),D.rows hp]
 exact if_neg λe=>D.ne (Cy.mp e)
theorem Dr.fit(D:Dr ss es):fL (ss.map Sh.x):=⟨by rw[AA];exact D.n,λx F=>by
 refine AW (Ab.mp F) λs hs e=>?_;subst e
 have B:=D.sh s hs
 exact⟨B.1,B.2,by unfold Sh.x;cases s.b <;> first | exact .inl rfl | exact .inr rfl⟩⟩
theorem wa:Ro s.x=s:=by
 obtain⟨W,H,b⟩:=s
 cases b
 .refine(?_:(⟨W,H,decide ("left"="low")⟩:Sh)=_)
  rw[decide_eq_false (by decide +kernel)]
 .refine(?_:(⟨W,H,decide ("low"="low")⟩:Sh)=_)
  rw[decide_eq_true rfl]
theorem mH:(ss.map Sh.x).map Ro=ss:=by rw[BW];exact(CZ λs _=>wa).trans (XF ss)
theorem Dr.read(D:Dr ss es)(hp:es'.Perm es):I8 (DN (ss.map DC++es'.map C9)) (.ok (ss,es')):=by
 have:=I8.ok (es:=es') (D.note λe B=>hp.mem_iff.mp B) D.fit (by rw[mH];exact D.qR hp)
 rw[mH] at this;exact this
end
end Mine.Internal
namespace Mine.Internal
open PySem
set_option genSizeOf false
set_option genInjectivity false
theorem cZ{F:Type}{R:F->F->Prop}(hR:∀{a b},R a b->R b a->False){p:List F}:∀{q:List F},p.Perm q->p.Pairwise R->q.Pairwise R->p=q:=by
 induction p with
 |nil=>intro q h _ _;exact h.nil_eq
 |cons a p Z=>
  intro q h hp M
  cases q with
  |nil=>exact absurd h.symm (List.not_perm_nil_cons _ _)
  |cons b q=>
   have hp:=EU.mp hp
   have M:=EU.mp M
   have e:a=b:=QI λB=>hR (hp.1 b ((Ao.mp (h.mem_iff.mpr AL)).resolve_left λz=>B z.symm)) (M.1 a ((Ao.mp (h.mem_iff.mp AL)).resolve_left B))
   subst e
   rw[Z h.cons_inv hp.2 M.2]
theorem Ts{hs:List En}{i:Nat}{e:En}(h:hs[i]?=some e):hs.getD i oj=e:=by rw[Ay,h];rfl
theorem VO{hs:List En}{p:List Nat}(hp:p.Perm (Ar hs.length)):(p.map λi=>hs.getD i oj).Perm hs:=by
 refine(hp.map _).trans (K7 ?_)
 apply Eo
 intro i
 rw[As]
 by_cases hi:i<hs.length
 .rw[fA hi,AO hi,Hr,Ay,AO hi];rfl
 .rw[EP (by rw[BV];exact B1.mp hi),EP (B1.mp hi)];rfl
section
variable {ss:List Sh} {es es':List En} {e:En} {s:Sh}
theorem Dr.total(D:Dr ss es)(Z:a∈es)(M:b∈es)(h:D6 (b.key ss) (a.key ss)=false)(B:a.name≠b.name):D6 (a.key ss) (b.key ss)=true:=by
 obtain⟨i,hi,rfl⟩:=JT.mp Z
 obtain⟨j,F,rfl⟩:=JT.mp M
 have p:=Dh.mp D.ord
 refine bE (Nat.lt_trichotomy i j) (λq=>?_) (λq=>?_) (λq=>?_)
 .exact p i j hi F q
 .subst q;exact absurd rfl B
 .rw[p j i F hi q] at h;cases h
theorem Dr.order(D:Dr ss es)(hp:es'.Perm es){p:List Nat}(B:p.Perm (Ar es'.length))(ho:p.Pairwise (LZ (es'.map (En.key ss)))):(p.map λi=>es'.getD i oj)=es:=by
 refine cZ (R:=λa b=>D6 (a.key ss) (b.key ss)=true) (λh h'=>qg (h'.symm.trans (Of _ _ h))) ((VO B).trans hp) ?_ D.ord
 rw[Ia]
 have hn:p.Nodup:=B.nodup_iff.mpr List.nodup_range
 refine G7 ?_ (List.Pairwise.and ho hn)
 intro i j hi F h
 have hi:=Dl.mp (B.mem_iff.mp hi)
 have F:=Dl.mp (B.mem_iff.mp F)
 have Z:=AO hi
 have ej:=AO F
 have k:∀{i:Nat} {e:En},es'[i]?=some e->(es'.map (En.key ss)).getD i []=e.key ss:=λ{i e} h=>by rw[Ay,As,h];rfl
 have M:=h.1
 unfold LZ at M
 rw[k Z,k ej] at M
 rw[Ts Z,Ts ej]
 refine M.elim id λz=>D.total (hp.mem_iff.mp (Ae Z)) (hp.mem_iff.mp (Ae ej)) z.1 λq=>h.2 ?_
 have nd:=(hp.map (·.name)).nodup_iff.mpr D.nodup
 exact(List.getElem_inj (xs:=es'.map (·.name)) (h₀:=by rw[AA];exact hi) (h₁:=by rw[AA];exact F) nd).mp (by rw[Ld,Ld];exact q)
noncomputable abbrev turn(c:Nat){α:Type}(l:List α):List α:=(l.drop c).reverse++l.take c
theorem Oy{B:Type}{c:Nat}{l:List B}:(turn c l).Perm l:=((Pc _).append_right _).trans (Za.trans (K7 (Gp c l)))
theorem n4{B:Type}{c i:Nat}{l:List B}(h:i<l.length):(turn c l)[i]?=l[if i<l.length-c then l.length-1-i else i-(l.length-c)]?:=by
 unfold turn
 have hd:(l.drop c).reverse.length=l.length-c:=by rw[BZ,CC]
 by_cases hi:i<l.length-c
 .rw[if_pos hi,A3 (by rw[hd];exact hi),ZW (by rw[CC];exact hi),CC,List.getElem?_drop,fB,fB,fB,<- Nat.add_sub_assoc (by have:=Nat.add_lt_of_lt_sub hi;exact HW .le (.a .v0 (.a .n1 .v1)) .v2 (.t (.a .v1 .v0) .v2 .e) rfl this),Nat.add_sub_add_left]
 .rw[if_neg hi,Ak (by rw[hd];exact B1.mp hi),hd,List.getElem?_take_of_lt (by exact Z5 .lt .v0 .v1 (.q (.a .v0 .v2) .v3 (.t .v3 .v4 (.l .v4 (.a .v2 .v1) .e))) rfl (Ag (Dy .le .v0 .v1 (.o .v1 .v0 .e) rfl hi)) h (rJ _ _))]
theorem Dr.two(D:Dr ss es)(c:Nat):HE ((turn c es).map (En.key ss)):=by
 have M:(turn c es).length=es.length:=Oy.length_eq
 have h89:=D.len
 refine .inr ⟨by rw[AA,M];exact Ec .lt .v0 (.n 128) (.l .v0 (.n 89) .e) rfl h89,es.length-c,by rw[AA,M];exact Ga _ _,λi j B Z=>?_⟩
 rw[AA,M] at Z
 have k:∀{i:Nat} (_:i<es.length),∃(m:Nat) (hm:m<es.length),m=(if i<es.length-c then es.length-1-i else i-(es.length-c))/\((turn c es).map (En.key ss)).getD i []=(es[m]).key ss:=λ{i} hi=>by
  have hm:(if i<es.length-c then es.length-1-i else i-(es.length-c))<es.length:=by
   split
   .exact Al (Ga _ _) (MY (Pl hi) HX)
   .exact Al (Ga _ _) hi
  refine⟨_,hm,rfl,?_⟩
  rw[Ay,As,n4 hi,AO hm];rfl
 obtain⟨a,ha,ea,ka⟩:=k (B9 B Z)
 obtain⟨b,hb,eb,kb⟩:=k Z
 have p:=Dh.mp D.ord
 by_cases F:es.length-c<=i
 .rw[if_pos F,if_pos F,ka,kb]
  refine p a b ha hb ?_
  rw[ea,eb,if_neg (by exact Dy .bZ .v0 .v1 (.l .v1 .v0 .e) rfl F),if_neg (by exact HW .bZ .v0 .v1 (.l .v1 .v2 (.t .v2 .v0 .e)) rfl F B)];exact Z5 .lt .v0 .v1 (.q (.a .v0 .v2) .v3 (.t .v3 .v4 (.p (.a .v1 .v2) .v4 .e))) rfl (Ag (Dy .le .v0 .v1 (.l .v0 .v1 .e) rfl F)) B (Ag (HW .le .v0 .v1 (.l .v0 .v2 (.t .v2 .v1 .e)) rfl F B))
 .rw[if_neg F,if_neg F,ka,kb]
  refine p b a hb ha ?_
  have hi:=Dj.mp F
  rw[ea,eb,if_pos hi]
  have M:=Nat.le_sub_one_of_lt Z
  have h1:=Ac B M
  split
  .exact f7 h1 B
  .exact Al (Nat.sub_le_sub_left hi j) (Al (Nat.sub_le_sub_right M (i+1)) (f7 h1 (EZ i)))
theorem Dr.x8(D:Dr ss es):HE (es.map (En.key ss)):=by
 have:=D.two es.length
 unfold turn at this
 rw[EV,Bz] at this
 exact this
end
end Mine.Internal
namespace Mine.Internal
open PySem Builtin Builtin.Str StrLaws
set_option genSizeOf false
set_option genInjectivity false
theorem jx{s sub:Str}{hi k:Nat}{l:List Nat}:∀{st:Array Nat×Nat},k<=st.1.size->(forIn l st (SV s sub hi k)).run=st:=by
 induction l with
 |nil=>intro st _;rfl
 |cons a l B=>
  intro st h
  rw[Eu]
  unfold SV
  rw[if_neg λz=>B1.mpr h z.1.1.1]
  exact B h
theorem pR{s sub:Str}{hi k:Nat}{l:List Nat}:∀{st:Array Nat×Nat},st.1.toList<+:(forIn l st (SV s sub hi k)).run.1.toList:=by
 induction l with
 |nil=>intro st;exact A5 _
 |cons a l B=>
  intro st
  rw[Eu]
  unfold SV
  split
  .refine List.IsPrefix.trans ?_ B
   rw[Fd]
   exact CU _ _
  .exact B
theorem lF{s sub:Str}{hi k K:Nat}(hk:k<=K){l:List Nat}:∀{st:Array Nat×Nat},st.1.size<=k->(forIn l st (SV s sub hi k)).run.1.toList=((forIn l st (SV s sub hi K)).run.1.toList).take k:=by
 induction l with
 |nil=>intro st h;exact(Dd (by rw[A1];exact h)).symm
 |cons a l Z=>
  intro st h
  refine(IQ h).elim (λB=>?_) λM=>?_
  .rw[Eu,Eu]
   unfold SV
   by_cases F:((st.1.size<k/\st.2<=a)/\a+sub.length<=hi)/\subAt s sub a=true
   .rw[if_pos F,if_pos ⟨⟨⟨Ac B hk,F.1.1.2⟩,F.1.2⟩,F.2⟩]
    exact Z (by rw[Array.size_push];exact B)
   .rw[if_neg F,if_neg λz=>F ⟨⟨⟨B,z.1.1.2⟩,z.1.2⟩,z.2⟩]
    exact Z h
  .rw[jx (CK M.symm)]
   refine Cq (pR (s:=s) (sub:=sub) (hi:=hi) (k:=K) (l:=a::l) (st:=st)) λt ht=>?_
   rw[<- ht,List.take_append_of_le_length (by rw[A1];exact CK M.symm),Dd (by rw[A1];exact CK M)]
theorem ir{x y:Str}{k:Nat}(B:k<=x.length+1):Dg x y 0 x.length k=(Dg x y 0 x.length (x.length+1)).take k:=by
 rw[occ_eq,occ_eq]
 exact lF B (BM _)
theorem YT:∀{p:Str} {ps:List Str},(tl (Cr z (p::ps))).count c+ps.length*(tl y).count c=(tl (Cr y (p::ps))).count c+ps.length*(tl z).count c:=λ{p ps}=>by
 induction ps generalizing p with
 |nil=>rw[Gk,Nat.zero_mul,Nat.zero_mul];rfl
 |cons q ps B=>
  have e:∀y:Str,(tl (Cr y (p::q::ps))).count c=(tl p).count c+(tl y).count c+(tl (Cr y (q::ps))).count c:=λy=>by
   refine(?_:(tl (p++y++Cr y (q::ps))).count c=_)
   rw[DJ,DJ,D9,D9]
  have:=B (p:=q)
  rw[e y,e z,Bn,Nat.add_mul,Nat.add_mul]
  exact BC (xj .le (.a (.a (.a .v0 .v1) .v2) (.a .v3 (.m 1 .v4))) (.a (.a (.a .v0 .v4) .v5) (.a .v6 (.m 1 .v1))) (.q (.a .v2 .v3) (.a .v5 .v6) .e) rfl this) (xj .le (.a (.a (.a .v0 .v1) .v2) (.a .v3 (.m 1 .v4))) (.a (.a (.a .v0 .v4) .v5) (.a .v6 (.m 1 .v1))) (.p (.a .v5 .v6) (.a .v2 .v3) .e) rfl this)
theorem Xq(hk:1<=k)(hx:k<=x.length+1)(hm:32∈tl x):∃p0 m rest,1<=m/\m<=k/\tl (Ly 32 x z k)=p0++(tl z++rest)/\32∉p0/\(tl (Ly 32 x z k)).count 32+m=(tl x).count 32+m*(tl z).count 32:=by
 refine AW (occ_tight x (sign 32) (Az 1)) λf F hn=>?_
 have Z:=ir (x:=x) (y:=sign 32) hx
 refine Cq (List.getElem?_of_mem hm) λj hj=>?_
 have hA:=(subAt_one x 32 j).mpr hj
 cases hc:Dg x (sign 32) 0 x.length (x.length+1) with
 |nil=>
  rw[hc] at F
  have e:f=0:=F
  exact absurd hA (hn j (by rw[e];exact BM _))
 |cons c r=>
  rw[hc] at F Z
  obtain⟨B,rfl⟩:∃B,k=B+1:=⟨k-1,by exact BC (Dy .le .v0 (.a .v1 .n1) (.p (.a .v1 .n1) .v0 .e) rfl (Ag (Ec .le .n1 .v0 (.l .n1 .v0 .e) rfl hk))) (Dy .le (.a .v0 .n1) .v1 (.q (.a .v0 .n1) .v1 .e) rfl (Ag (Ec .le .n1 .v0 (.l .n1 .v0 .e) rfl hk)))⟩
  rw[List.take_succ_cons] at Z
  have hp0:32∉tl (mv x 0 c):=part_free x 32 0 c (AF (A0 _ _) F.2.1.1) F.2.2.1
  have e1:Ly 32 x z (B+1)=Cr z (mv x 0 c::U9 x 1 (c+1) (r.take B)):=by
   unfold Ly
   rw[Z]
   refine(?_:glued z (F9 x (c::r.take B) 1)=_)
   rw[fC,partsBetween_eq];rfl
  refine FR (partsFrom_ne x 1 (c+1) (r.take B)) λq qs hq=>?_
  have M:(U9 x 1 (c+1) (r.take B)).length=(r.take B).length+1:=by
   generalize r.take B=l
   generalize c+1=a
   induction l generalizing a with
   |nil=>rfl
   |cons b l ih=>exact congrArg (·+1) (ih _)
  have e2:Cr (sign 32) (mv x 0 c::U9 x 1 (c+1) (r.take B))=x:=by
   have:=glued_between_self x (sign 32) (B+1)
   rw[Z,fC,partsBetween_eq] at this
   exact this
  have cg:=YT (y:=sign 32) (z:=z) (c:=32) (p:=mv x 0 c) (ps:=U9 x 1 (c+1) (r.take B))
  rw[e2,<- e1,M] at cg
  refine⟨tl (mv x 0 c),(r.take B).length+1,tl (Cr z (U9 x 1 (c+1) (r.take B))),DP _ _,C8 (fD ..),?_,hp0,?_⟩
  .rw[e1,hq]
   refine(?_:tl (mv x 0 c++z++Cr z (q::qs))=_)
   rw[DJ,DJ,Aq]
  .have s1:(tl (sign 32)).count 32=1:=by decide
   rw[s1,fE] at cg
   exact cg
theorem mem_join(h:c∈tl (Cr z ps)):c∈tl z\/∃p∈ps,c∈tl p:=by
 induction ps with
 |nil=>cases h
 |cons p ps B=>cases ps with
  |nil=>exact .inr ⟨p,AL,h⟩
  |cons q ps=>
   replace h:c∈tl (p++z++Cr z (q::ps)):=h
   rw[DJ,DJ] at h
   refine A7 (An.mp h) (λh=>?_) (λh=>?_)
   .exact(An.mp h).elim (λh=>.inr ⟨p,AL,h⟩) .inl
   .exact(B h).imp id λF=>AW F λr M m=>⟨r,Ad _ M,m⟩
theorem fq(hp:p∈ps)(h:c∈tl p):c∈tl (Cr y ps):=by
 induction ps with
 |nil=>cases hp
 |cons r ps B=>cases ps with
  |nil=>have F:=AM.mp hp;subst F;exact h
  |cons q ps=>
   refine(?_:c∈tl (r++y++Cr y (q::ps)))
   rw[DJ,DJ]
   rcases Ao.mp hp with rfl | m
   .exact Cg _ (Cg _ h)
   .exact BB _ (B m)
theorem pX:(∀c∈tl (Ly 32 x z k),c∈tl x\/c∈tl z)/\(Ly 32 x z k).length<=x.length+k*z.length:=by
 unfold Ly
 split
 .exact⟨λc h=>.inl h,A0 _ _⟩
 .have B:=occ_length_le x (sign 32) 0 x.length k
  have e:=glued_between_self x (sign 32) k
  have M:(sign 32).length=1:=rfl
  rw[M] at e
  constructor
  .intro c h
   rw[fC] at h e
   refine(mem_join h).symm.imp (λF=>AW F λp hp m=>?_) id
   have:=fq (y:=sign 32) hp m
   rw[e] at this;exact this
  .have hy:(glued (sign 32) (F9 x (Dg x (sign 32) 0 x.length k) 1)).length=x.length:=by rw[e]
   rw[Zf,Kk,DZ] at hy
   rw[Zf,Kk,DZ]
   exact BJ (AF (A0 _ _) (CK hy)) (B4 _ B)
end Mine.Internal
namespace Mine.Internal
open PySem
set_option genSizeOf false
set_option genInjectivity false
structure Wd(w:Str):Prop where
 nl:10∉tl w
 asc:ND w
 len:w.length<=65
structure GU(r:Str):Prop where
 nl:10∉tl r
 asc:ND r
 len:r.length<=1000
theorem Clean.wd(h:Clean w):Wd w:=⟨h.2.1,h.2.2.1,h.2.2.2⟩
theorem Vh(h:∀w∈ws,w.length<=b):(Jb ws).length<=ws.length*(b+1):=by
 refine AF (VA (sign 32) ws) ?_
 have:(sign 32).length=1:=rfl
 rw[this,fE,Nat.mul_add,fE]
 refine DH ?_ _
 induction ws with
 |nil=>exact BM _
 |cons x l B=>
  rw[B6,OR,Bn,Nat.succ_mul,Ci]
  exact BJ (B λy hy=>h y (Ad _ hy)) (h x AL)
theorem Jy(hl:ws.length<=12)(h:∀w∈ws,Wd w):GU (Jb ws):=⟨Mj (by decide) λw B=>(h w B).nl,Ct.mpr λc Z=>by
  by_cases F:c<128
  .exact F
  .exact absurd Z (Mj (by exact λM=>N6 (.q .v0 (.n 32) (.o .v0 (.n 128) .e)) rfl M F) λw B m=>F (Ct.mp (h w B).asc c m)),AF (Vh λw B=>(h w B).len) (AF (B4 _ hl) (by decide))⟩
noncomputable def Je(i:Nat)(w:Str)(ws:List Str):List Str:=ws.take i++[w]++ws.drop (i+1)
theorem Ju(h:v∈Je i w ws):v=w\/v∈ws:=by
 unfold Je at h
 refine A7 (An.mp h) (λh=>?_) (λh=>?_)
 .refine A7 (An.mp h) (λh=>?_) (λh=>?_)
  .exact .inr (D0 h)
  .exact .inl (AM.mp h)
 .exact .inr (JY h)
theorem T5:Je i w ws≠[]:=λe=>by
 have:w∈Je i w ws:=Cg _ (BB _ AL)
 rw[e] at this;cases this
theorem L0(h:i<ws.length):(Je i w ws).length=ws.length:=by
 unfold Je
 rw[AI,AI,B2,CC,CV]
 exact BC (Ll .le (.a (.a .v0 .n1) .v1) .v2 (.q (.a .v1 (.a .v3 .n1)) .v2 (.l .v0 .v3 .e)) rfl (Ag (Dy .le (.a .v0 .n1) .v1 (.t .v0 .v1 .e) rfl h)) (Ce _ _)) (Ll .le .v0 (.a (.a .v1 .n1) .v2) (.p (.a .v2 (.a .v3 .n1)) .v0 (.p .v1 .v3 .e)) rfl (Ag (Dy .le (.a .v0 .n1) .v1 (.t .v0 .v1 .e) rfl h)) (C3 (Dy .le .v0 .v1 (.t .v0 .v1 .e) rfl h)))
theorem cG(h:ws≠[]):(tl (Jb ws)).count 32+1=(ws.map λw=>(tl w).count 32).sum+ws.length:=by
 unfold Jb
 induction ws with
 |nil=>exact absurd rfl h
 |cons p ws B=>cases ws with
  |nil=>show (tl p).count 32+1=(tl p).count 32+0+1;rfl
  |cons q ws=>
   have:=B (Bi _ _)
   show (tl (p++sign 32++Cr (sign 32) (q::ws))).count 32+1=_
   rw[DJ,DJ,D9,D9,show (tl (sign 32)).count 32=1 by decide,B6,OR,Bn]
   exact BC (Ll .le (.a (.a (.a .v0 .n1) .v1) .n1) (.a (.a .v0 .v2) (.a .v3 .n1)) (.q (.a .v1 .n1) (.a .v2 .v3) .e) rfl this) (Ll .le (.a (.a .v0 .v1) (.a .v2 .n1)) (.a (.a (.a .v0 .n1) .v3) .n1) (.p (.a .v3 .n1) (.a .v1 .v2) .e) rfl this)
theorem Su{ws:List Str}(h:∀w∈ws,32∉tl w):(ws.map λw=>(tl w).count 32).sum=0:=by
 induction ws with
 |nil=>rfl
 |cons p ws B=>rw[B6,OR,B λw F=>h w (Ad _ F),H4.mpr (h p AL)]
theorem TN{i:Nat}{w:Str}{ws:List Str}(F:∀v∈ws,32∉tl v)(hi:i<ws.length):(wordsOf (Jb (Je i w ws))).length=ws.length+(tl w).count 32:=by
 rw[Mh,cG T5,L0 hi]
 unfold Je
 rw[Ai,Ai,List.sum_append,List.sum_append,Su λv B=>F v (D0 B),Su λv B=>F v (JY B)]
 show 0+((tl w).count 32+0)+0+ws.length=_
 exact BC (Dy .le (.a (.a (.a .n0 (.a .v0 .n0)) .n0) .v1) (.a .v1 .v0) .e rfl) (Dy .le (.a .v0 .v1) (.a (.a (.a .n0 (.a .v1 .n0)) .n0) .v0) .e rfl)
theorem WB(h:H9 (tl w)=false):HR w=none:=by unfold HR;rw[if_neg (by rw[h];exact BD)]
noncomputable def qZ(w x y:Str):Bool:=decide (w≠x)&&decide (w≠y)
theorem bQ(h:qZ w x y=true):w≠x:=of_decide_eq_true (AJ.mp h).1
theorem Zl(h:qZ w x y=true):w≠y:=of_decide_eq_true (AJ.mp h).2
theorem bC(h:qZ w y z=true):dR w y z=none:=by
 unfold dR
 rw[if_neg (bQ h),if_neg (Zl h)]
noncomputable def w5(l:List Bool)(i:Nat):Bool:=l.getD i false
noncomputable def xr(w:Str):List Bool:=[qZ w "shelf" "box",!H9 (tl w),!H9 (tl w),qZ w "low" "left"]
noncomputable def qr(i:Nat)(w:Str):Bool:=decide (i<4)&&(decide ((tl w).count 32=1)||(decide ((tl w).count 32=0)&&w5 (xr w) i))
noncomputable def xd(w:Str):List Bool:=[qZ w "shelf" "box",decide (w=""),!H9 (tl w),!H9 (tl w),qZ w "turns" "stays",!H9 (tl w),!H9 (tl w),!H9 (tl w),qZ w "turned" "upright"]
noncomputable def uU(i:Nat)(w:Str):Bool:=decide (i<9)&&(decide ((tl w).count 32=1)||(decide ((tl w).count 32=0)&&w5 (xd w) i))
theorem DQ{P:Nat->Prop}{n:Nat}(z:P 0)(s:∀j,j<n->P (j+1))(i:Nat)(h:i<n+1):P i:=by
 cases i with
 |zero=>exact z
 |succ j=>exact s j (Ir h)
theorem T9{P:Nat->Prop}(i:Nat)(h:i<0):P i:=absurd h (Dv i)
def qw(w:Str)(ws:List Str)(ch:List Bool)(i:Nat):Prop:=w5 ch i=true->VC (Je i w ws)
theorem vn{i:Nat}(M:∀v∈[k,a,b,h],32∉tl v)(ok:qr i w=true):VC (wordsOf (Jb (Je i w [k,a,b,h]))):=by
 unfold qr at ok
 have F:=AJ.mp ok
 have hi:i<4:=of_decide_eq_true F.1
 refine A7 (GA.mp F.2) (λB=>?_) (λB=>?_)
 .have:=TN (w:=w) M (i:=i) hi
  rw[of_decide_eq_true B] at this
  exact UM (by rw[this];exact(by decide:(4+1:Nat)≠4)) (by rw[this];exact(by decide:(4+1:Nat)≠9))
 .have B:=AJ.mp B
  have hw:32∉tl w:=H4.mp (of_decide_eq_true B.1)
  rw[Js T5 λv hv=>(Ju hv).elim (λe=>e▸hw) (M v)]
  have Z:(!H9 (tl w))=true->HR w=none:=λo=>WB ((CB _).mp o)
  exact DQ (P:=qw w [k,a,b,h] (xr w)) (λo=>RQ (bQ o) (Zl o)) (DQ (λo=>⟨λ_=>Fx λs e=>(Ku e).2.1 (Z o),rfl⟩) (DQ (λo=>⟨λ_=>Fx λs e=>(Ku e).2.2 (Z o),rfl⟩)
   (DQ (λo=>⟨λ_=>Fx λs e=>(Ku e).1.elim (bQ o) (Zl o),rfl⟩) T9))) i hi B.2
theorem vC{i:Nat}(Z:∀v∈[AH "box", x,a,b,t,n,u,l,r],32∉tl v)(ok:uU i w=true):VC (wordsOf (Jb (Je i w [AH "box", x,a,b,t,n,u,l,r]))):=by
 unfold uU at ok
 have M:=AJ.mp ok
 have hi:i<9:=of_decide_eq_true M.1
 refine A7 (GA.mp M.2) (λB=>?_) (λB=>?_)
 .have:=TN (w:=w) Z (i:=i) hi
  rw[of_decide_eq_true B] at this
  exact UM (by rw[this];exact(by decide:(9+1:Nat)≠4)) (by rw[this];exact(by decide:(9+1:Nat)≠9))
 .have B:=AJ.mp B
  have hw:32∉tl w:=H4.mp (of_decide_eq_true B.1)
  rw[Js T5 λv hv=>(Ju hv).elim (λe=>e▸hw) (Z v)]
  have hs:∀{ws:List Str},(AH "box"::ws).head?=some (AH "shelf")->aQ (AH "box"::ws)=none:=λe=>absurd (AG e) (by decide +kernel)
  have F:(!H9 (tl w))=true->HR w=none:=λo=>WB ((CB _).mp o)
  exact DQ (P:=qw w [AH "box", x,a,b,t,n,u,l,r] (xd w)) (λo=>RQ (bQ o) (Zl o)) (DQ (λo=>⟨hs,Fx λs e=>(EY e).1.2 (of_decide_eq_true o)⟩) (DQ (λo=>⟨hs,Fx λs e=>(EY e).2.2.2.2.2.2.1 (F o)⟩)
   (DQ (λo=>⟨hs,Fx λs e=>(EY e).2.2.2.2.2.2.2 (F o)⟩) (DQ (λo=>⟨hs,Fx λs e=>(EY e).2.1 (bC o)⟩) (DQ (λo=>⟨hs,Fx λs e=>(EY e).2.2.1 (F o)⟩) (DQ (λo=>⟨hs,Fx λs e=>(EY e).2.2.2.1 (F o)⟩)
   (DQ (λo=>⟨hs,Fx λs e=>(EY e).2.2.2.2.1 (F o)⟩) (DQ (λo=>⟨hs,Fx λs e=>(EY e).2.2.2.2.2.1 (bC o)⟩) T9)))))))) i hi B.2
end Mine.Internal
namespace Mine.Internal
open PySem
set_option genSizeOf false
set_option genInjectivity false
structure Fz(R:List Str)(k m:Nat):Prop where
 M1:∀r∈R,GU r
 err:∃xs bs,Fw (R.map wordsOf) ([],[])=some (xs,bs)/\xs≠[]/\bs.length<=m/\((¬fL xs/\k=44)\/(fL xs/\Hh (xs.map Ro) [] bs (.error k)))
section
variable {ss:List Sh} {es:List En} {e:En} {s:Sh} {R:List Str} {k m:Nat} {z:Str} {b:Nt}
theorem Ii(h:∀r∈R,GU r)(g:∀r∈T,GU r):∀r∈R++T,GU r:=λr B=>(An.mp B).elim (h r) (g r)
theorem QN(h:GU z):∀r∈[z],GU r:=λr B=>by rw[AM.mp B];exact h
theorem WW(B:Qw (wordsOf z)=some b):Fw ([z].map wordsOf) p=some (p.1,p.2++[b]):=by
 refine(?_:(GC p (wordsOf z)).bind _=_)
 rw[Q4 B];rfl
theorem Fz.more(h:Fz R k m)(Z:GU z)(M:Qw (wordsOf z)=some b):Fz (R++[z]) k (m+1):=by
 refine EW h.err λxs bs B h2 F h4=>?_
 refine⟨Ii h.M1 (QN Z),xs,bs++[b],?_,h2,by rw[AI];exact C8 F,h4.imp id λq=>⟨q.1,Sk q.2⟩⟩
 rw[Ai,FJ,B]
 exact WW M
theorem Fz.note(h:Fz R k m):∃xs bs,Gf (DN R)=some (xs,bs)/\bs.length<=m/\((¬fL xs/\k=44)\/(fL xs/\Hh (xs.map Ro) [] bs (.error k))):=by
 refine EW h.err λxs bs B F M h4=>?_
 refine⟨xs,bs,?_,M,h4⟩
 rw[Ji (λe=>?_) λr Z=>(h.M1 r Z).nl,B]
 .exact if_neg F
 .rw[e] at B;cases B;exact F rfl
theorem Fz.read(h:Fz R k m):I8 (DN R) (.error k):=by
 refine ES h.note λxs bs B M F=>?_
 refine A7 F (λq=>?_) (λq=>?_)
 .rw[q.2];exact .JS B q.1
 .exact .err B q.1 q.2
theorem Dr.PY(D:Dr ss es):(∀r∈ss.map DC,GU r)/\∀r∈es.map C9,GU r:=
 ⟨λr B=>by refine AW (Ab.mp B) λs hs e=>?_;exact e▸Jy (Ap rfl:(4:Nat)<=12) λw F=>(D.O6 hs w F).wd,
  λr B=>by refine AW (Ab.mp B) λs hs e=>?_;exact e▸Jy (Ap rfl:(9:Nat)<=12) λw F=>(D.clean hs w F).wd⟩
theorem Dr.uJ(D:Dr ss es)(Z:GU z)(M:(wordsOf z).head?=some "shelf")(hx:Mine.Internal.aQ (wordsOf z)=some x)(hg:¬x.Good):Fz (Je i z (ss.map DC)++es.map C9) 44 89:=by
 have B:=D.PY
 refine⟨Ii (λr hr=>(Ju hr).elim (λe=>e▸Z) (B.1 r)) B.2,(ss.take i).map Sh.x++[x]++(ss.drop (i+1)).map Sh.x,es.map En.nt,?_,?_,by rw[AA];exact D.len,.inl ⟨λF=>?_,rfl⟩⟩
 .unfold Je
  rw[<- JR,<- K8,Ai,Ai,Ai,FJ,FJ,FJ,OE D (ss.take i) (λ_ h=>D0 h) []]
  have e1:Fw ([z].map wordsOf) ([]++(ss.take i).map Sh.x,[])=some ((ss.take i).map Sh.x++[x],[]):=by
   refine(?_:(GC _ (wordsOf z)).bind _=_)
   unfold GC
   rw[if_pos ⟨M,rfl⟩,hx];rfl
  refine(?_:((Fw ([z].map wordsOf) ([]++(ss.take i).map Sh.x,[])).bind _ |>.bind _)=_)
  rw[e1]
  refine(?_:((Fw (((ss.drop (i+1)).map DC).map wordsOf) ((ss.take i).map Sh.x++[x],[])).bind _)=_)
  rw[OE D (ss.drop (i+1)) λ_ h=>JY h]
  exact Pz D es (λ_ h=>h) _
 .exact λe=>absurd (congrArg RY e) (by rw[AI,AI,CV];exact λe=>by simp only[Gk] at e;exact W0 (.q (.a (.a .v0 .n1) .v1) .n0 .e) rfl e)
 .exact hg (F.all x (Cg _ (BB _ AL)))
theorem Dr.uD(D:Dr ss es):Fz (KA (ss.map DC) 10++es.map C9) 44 89:=by
 have M:=D.PY
 have B:((KA ss 10).map Sh.x).length=ss.length*10:=by rw[AA,VZ]
 have hn:=D.n
 refine⟨Ii (λr Z=>M.1 r (WX Z)) M.2,(KA ss 10).map Sh.x,es.map En.nt,?_,?_,by rw[AA];exact D.len,.inl ⟨λF=>?_,rfl⟩⟩
 .rw[Vb,Ai,FJ,OE D (KA ss 10) (λ_ h=>WX h) []]
  exact Pz D es (λ_ h=>h) _
 .intro e
  rw[e] at B
  exact absurd (B:0=_) (Bo (Nat.mul_pos hn.1 (by decide)))
 .have:=F.n.2
  rw[B] at this
  exact absurd (AF (B4 10 hn.1) this) (by decide)
theorem Dr.Uv(D:Dr ss es)(M:GU z)(F:Mine.Internal.Qw (wordsOf z)=some b)(Z:OV ss es b (.error k)):Fz (ss.map DC++es.map C9++[z]) k 90:=by
 have B:=D.PY
 refine⟨Ii (Ii B.1 B.2) (QN M),ss.map Sh.x,es.map En.nt++[b],?_,λe=>D.ne (Cy.mp e),by rw[AI,AA];exact C8 D.len,.inr ⟨D.fit,?_⟩⟩
 .rw[Ai,FJ,D.rows λ_ h=>h]
  exact WW F
 .rw[mH]
  exact NQ (D.qR (ET _)) Z
structure uR(e:En):Prop where
 good:Bk e.name=true
 w:0<=e.w/\e.w<10000000
 h:0<=e.h/\e.h<10000000
 n:e.n<10000000
 u:0<=e.u/\e.u<10000000
 l:0<=e.l/\e.l<10000000
theorem uR.clean(h:uR e):∀w∈e.words,Clean w:=by
 have B:∀{k:Int},0<=k/\k<10000000->EO k=true:=λh=>jj h (by decide)
 intro w F
 unfold En.words at F
 simp only[Ao,BU,or_false] at F
 rcases F with rfl | rfl | rfl | rfl | rfl | rfl | rfl | rfl | rfl
 .exact Ks (by decide +kernel) (by decide +kernel)
 .exact Q2 h.good
 .exact FK (B h.w)
 .exact FK (B h.h)
 .exact TQ
 .exact FK (B ⟨AQ _,by have:=h.n;exact Im .lt .v0 (.n 10000000) (.t .v0 (.n 10000000) .e) rfl (BH.mpr this)⟩)
 .exact FK (B h.u)
 .exact FK (B h.l)
 .exact Ss
theorem uR.row(h:uR e):Mine.Internal.Qw (wordsOf (C9 e))=some e.nt/\GU (C9 e):=by
 have F:=h.clean
 refine⟨?_,Jy (Ap rfl:(9:Nat)<=12) λw B=>(F w B).wd⟩
 unfold C9
 rw[Js (ws:=e.words) (Bi _ _) λw B=>(F w B).1]
 refine(?_:bN "box" e.name (Cp e.w) (Cp e.h) (Mw e.t) (Cp e.n) (Cp e.u) (Cp e.l) (My e.r)=_)
 unfold bN
 have:=h.n
 rw[if_pos ⟨rfl,aq h.good⟩,kZ,LF (i:=e.n) (AQ _) (BH.mpr h.n),LF (i:=e.u) h.u.1 h.u.2,LF (i:=e.l) h.l.1 h.l.2,ly,LF (i:=e.w) h.w.1 h.w.2,LF (i:=e.h) h.h.1 h.h.2]
 rfl
theorem Dr.xZ(D:Dr ss es)(F:e∈es)(M:Bk x=true):uR ⟨x,e.w,e.h,e.t,e.n,e.u,e.l,e.r⟩:=by
 have h:=D.nums F
 have B:=D.sz e F
 exact⟨M,⟨Au (by decide) B.1.1,DK B.1.2 (by decide)⟩,⟨Au (by decide) B.2.1,DK B.2.2 (by decide)⟩,by exact Ec .lt .v0 (.n 10000000) (.t .v0 (.n 9) .e) rfl h.2.2,⟨h.1.1,by exact Im .lt .v0 (.n 10000000) (.t .v0 (.n 1000000) .e) rfl h.1.2⟩,⟨h.2.1.1,by exact Im .lt .v0 (.n 10000000) (.t .v0 (.n 1000000) .e) rfl h.2.1.2⟩⟩
theorem Dr.taken(D:Dr ss es)(B:e∈es)(F:Bk x=true)(M:x∉es.map (·.name)):Fz (ss.map DC++es.map C9++[C9 ⟨x,e.w,e.h,e.t,e.n,e.u,e.l,e.r⟩]) 80 90:=by
 have W:=(D.xZ B F).row
 refine D.Uv W.2 W.1 (.room F (D.sz e B).1 (D.sz e B).2 M λk hk C=>?_)
 rw[ak] at C
 refine DX C λsh _ _ G=>?_
 have hm:e.ot.low∈(Gi es none e.n).map Ot.low:=GB (GB (Dp.mpr ⟨B,by rw[decide_eq_true rfl];rfl⟩))
 have c:=G.clear _ hm
 have hp:=Y0 (D.sz e B)
 unfold Clear at c
 have Z:(⟨x,e.w,e.h,e.t,e.n,e.u,e.l,e.r⟩:En).ot=e.ot:=rfl
 rw[Z] at c
 have no:∀{x y:Int},1<=y->¬x+y<=x:=λh k=>absurd (Cn (Ln _ h) k) (JV _)
 exact c.elim (no hp.1) λc=>c.elim (no hp.1) λc=>c.elim (no hp.2) (no hp.2)
theorem Dr.Ux(D:Dr ss es)(M:Bk x=true)(hf:x∉es.map (·.name)){t r:Bool}{n:Nat}{l:Int}(h:(t=false/\r=true\/n=9\/9000000<=l)/\0<=l/\l<10000000/\n<10):Fz (ss.map DC++es.map C9++[C9 ⟨x,1,1,t,n,0,l,r⟩]) 80 90:=by
 have W:=(⟨M,⟨(by decide:(0:Int)<=1),(by decide:(1:Int)<10000000)⟩,⟨(by decide:(0:Int)<=1),(by decide:(1:Int)<10000000)⟩,B9 h.2.2.2 (by decide),⟨DG 0,(by decide:(0:Int)<10000000)⟩,h.2.1,h.2.2.1⟩:uR ⟨x,1,1,t,n,0,l,r⟩).row
 refine D.Uv W.2 W.1 (.room M ⟨DG 1,by refine(?_:(1:Int)<=1000000);decide⟩ ⟨DG 1,by refine(?_:(1:Int)<=1000000);decide⟩ hf λk hk C=>?_)
 rw[ak] at C
 refine DX C λsh F B G=>?_
 have B:r=true->t=true:=B
 have h3:n<ss.length:=(AP.mp F).1
 refine bE (h.1) (λq=>?_) (λq=>?_) (λq=>?_)
 .rw[q.1] at B;exact absurd (B q.2) BD
 .have:=D.n.2;exact W0 (.l .v0 (.n 9) (.p .v1 (.n 9) (.t .v1 .v0 .e))) rfl this q h3
 .have Z:=(D.sh sh (Ae F)).1
  have g:=G.s1
  have e1:(⟨x,1,1,t,n,0,l,r⟩:En).ot=⟨l,0,1,1⟩:=by cases r <;> rfl
  rw[e1] at g
  exact absurd (DK q (Cn (Int.lt_succ l) (Au g Z.2))) (by decide)
theorem Dr.again(D:Dr ss es)(B:e∈es):Fz (ss.map DC++es.map C9++[C9 e]) 68 90:=by
 have W:=(D.xZ B (D.good e B)).row
 exact D.Uv (b:=e.nt) W.2 W.1 (.twice (D.good e B) (D.sz e B).1 (D.sz e B).2 (GB B))
theorem Dr.one(D:Dr ss [])(Z:Bk x=true):Dr ss [⟨x,1,1,false,0,0,0,false⟩]:=by
 have B:∀{p:En->Prop},p ⟨x,1,1,false,0,0,0,false⟩->∀e∈[(⟨x,1,1,false,0,0,0,false⟩:En)],p e:=λh e M=>by rw[AM.mp M];exact h
 refine⟨D.n,D.sh,CX _ _,B Z,B ⟨by refine(?_:CI 1);decide,by refine(?_:CI 1);decide⟩,B ?_,CX _ _,CX _ _,by refine(?_:1<=89);decide⟩
 obtain⟨sh,l,rfl⟩:∃s l,ss=s::l:=HQ D.ne
 have F:=D.sh sh AL
 refine⟨sh,rfl,(λh=>by injection h),DG 0,DG 0,?_,?_⟩
 .exact F.2.1
 .exact F.1.1
end
end Mine.Internal
namespace Mine.Internal
open PySem
set_option genSizeOf false
set_option genInjectivity false
structure Dq(ss:List Sh)(es:List En):Prop where
 sh:∀s∈ss,CI s.W/\CI s.H
 nodup:(es.map (·.name)).Nodup
 good:∀e∈es,Bk e.name=true
 sz:∀e∈es,CI e.w/\CI e.h
 ins:∀e∈es,∃sh,ss[e.n]?=some sh/\(e.r=true->e.t=true)/\0<=e.u/\0<=e.l/\e.u+e.ot.h<=sh.H/\e.l+e.ot.w<=sh.W
 apart:es.Pairwise λa b=>a.n=b.n->Clear a.ot.h a.ot.w a.ot.u a.ot.l b.ot.low
 ord:es.Pairwise λa b=>D6 (a.key ss) (b.key ss)=true
section
variable {ss:List Sh} {es:List En} {e x:En} {s sh:Sh} {ns:List Str}
theorem Dq.dr(D:Dq ss es)(hn:1<=ss.length/\ss.length<=9)(B:es.length<=89):Dr ss es:=⟨hn,D.sh,D.nodup,D.good,D.sz,D.ins,D.apart,D.ord,B⟩
theorem Dq.nil:Dq [] []:=⟨Hn,.nil,Hn,Hn,Hn,.nil,.nil⟩
theorem aT(h:e.n<ss.length):e.key (ss++[s])=e.key ss:=by
 unfold En.key
 rw[Ay,Ay,A3 h]
theorem Dq.lt(D:Dq ss es)(B:e∈es):e.n<ss.length:=by
 refine AW (D.ins e B) λsh h _=>?_
 exact(AP.mp h).1
theorem Dq.JS(D:Dq ss es)(hs:CI s.W/\CI s.H):Dq (ss++[s]) es:=by
 refine⟨λt M=>(An.mp M).elim (D.sh t) λm=>by rw[AM.mp m];exact hs,D.nodup,D.good,D.sz,λe B=>?_,D.apart,?_⟩
 .refine AW (D.ins e B) λsh h r=>?_
  exact⟨sh,by rw[A3 (D.lt B)];exact h,r⟩
 .refine G7 (λ{a b} F Z h=>?_) D.ord
  rw[aT (D.lt F),aT (D.lt Z)]
  exact h
theorem Oi{B:Type}{R:B->B->Prop}{l:List B}{e:B}(h:l.Pairwise R)(g:∀x∈l,R x e):(l++[e]).Pairwise R:=BY.mpr ⟨h,CX _ _,λa M b F=>by rw[AM.mp F];exact g a M⟩
theorem MR{B:Type}{p:B->Prop}{l:List B}{e:B}(h:∀x∈l,p x)(g:p e):∀x∈l++[e],p x:=λx F=>(An.mp F).elim (h x) λm=>by rw[AM.mp m];exact g
theorem Dq.box(D:Dq ss es)(Z:e.name∉es.map (·.name))(hg:Bk e.name=true)(F:CI e.w/\CI e.h)(hs:ss[e.n]?=some sh)(hr:e.r=true->e.t=true)(hp:0<=e.u/\0<=e.l/\e.u+e.ot.h<=sh.H/\e.l+e.ot.w<=sh.W)(M:∀x∈es,x.n=e.n->Clear x.ot.h x.ot.w x.ot.u x.ot.l e.ot.low)(B:∀x∈es,D6 (x.key ss) (e.key ss)=true):Dq ss (es++[e]):=by
 refine⟨D.sh,?_,MR D.good hg,MR D.sz F,MR D.ins ⟨sh,hs,hr,hp⟩,Oi D.apart M,Oi D.ord B⟩
 rw[Ai]
 exact Oi D.nodup λx hx z=>Z ((show x=e.name from z)▸hx)
theorem kg(h:x.n<e.n):D6 (x.key ss) (e.key ss)=true:=by
 have k:∀{a b:Int} {l m:List Int},a<b->D6 (a::l) (b::m)=true:=λ{a b l m} h=>by
  refine(?_:(if a=b then _ else decide (a<b))=true)
  rw[if_neg (E9 h),decide_eq_true h]
 have h:=BH.mpr h
 unfold En.key TX
 split <;> split <;> exact k h
theorem WZ(hn:x.n=e.n)(hs:ss[e.n]?=some sh)(h:V6 sh.b (x.u,x.l) (e.u,e.l)):D6 (x.key ss) (e.key ss)=true:=by
 have B:ss.getD e.n ⟨0,0,false⟩=sh:=by rw[Ay,hs];rfl
 have k:∀{n a b c d:Int} {l m:List Int},a<c\/(a=c/\b<d)->D6 (n::a::b::l) (n::c::d::m)=true:=λ{n a b c d l m} h=>by
  refine(?_:(if n=n then (if a=c then (if b=d then _ else decide (b<d)) else decide (a<c)) else _)=true)
  rw[if_pos rfl]
  refine A7 h (λh=>?_) (λh=>?_)
  .rw[if_neg (E9 h),decide_eq_true h]
  .rw[if_pos h.1,if_neg (E9 h.2),decide_eq_true h.2]
 unfold En.key
 rw[hn,B]
 generalize sh.b=b at h
 cases b with
 |true=>exact k h
 |false=>exact k h
structure Dn(ns:List Str)(ss:List Sh)(es:List En):Prop where
 q:Dq ss es
 nm:∀e∈es,e.n<8/\∃j,(j=e.n\/j=8+e.n)/\ns[j]?=some e.name
 len:es.length<=2*ss.length
theorem Dn.nil:Dn ns [] []:=⟨.nil,Hn,Az _⟩
theorem Dn.JS(D:Dn ns ss es)(hs:CI s.W/\CI s.H):Dn ns (ss++[s]) es:=⟨D.q.JS hs,D.nm,by have:=D.len;rw[AI];show _<=2*(ss.length+1);exact Dy .le .v0 (.m 2 (.a .v1 .n1)) (.l .v0 (.m 2 .v1) .e) rfl this⟩
theorem QK(N:Iw ns){i j:Nat}{x:Str}(h:ns[i]?=some x)(g:ns[j]?=some x):i=j:=by
 refine(AP.mp h).elim λhi F=>?_
 refine(AP.mp g).elim λM B=>?_
 exact(List.getElem_inj N.nodup).mp (F.trans B.symm)
theorem Dn.first(D:Dn ns ss es)(N:Iw ns)(hs:CI s.W/\CI s.H)(M:ss.length<8)(hn:e.n=ss.length)(F:ns[ss.length]?=some e.name)(Z:CI e.w/\CI e.h)(hr:e.r=true->e.t=true)(hp:0<=e.u/\0<=e.l/\e.u+e.ot.h<=s.H/\e.l+e.ot.w<=s.W):Dn ns (ss++[s]) (es++[e]):=by
 have D':=D.JS hs
 have lt:∀x∈es,x.n<e.n:=λx B=>by rw[hn];exact D.q.lt B
 refine⟨D'.q.box (sh:=s) (λm=>?_) (N.good _ (Ae F)).good Z (by rw[hn,Ak (Az _),Fo];rfl) hr hp (λx B z=>absurd z (Bo (lt x B))) λx B=>kg (lt x B),MR D.nm ⟨by exact Dy .lt .v0 (.n 8) (.q .v0 .v1 (.t .v1 (.n 8) .e)) rfl hn M,_,.inl hn.symm,F⟩,?_⟩
 .refine AW (Ab.mp m) λx B z=>?_
  refine FH (D.nm x B) λh1 j h2 h3=>?_
  have k:=QK N F (z▸h3)
  have lx:=hn▸lt x B
  exact h2.elim (λe=>absurd (k.trans e) (Bu lx)) λe=>absurd (Ac M (k.trans e▸A0 8 x.n)) (FA _)
 .have:=D.len
  rw[AI,AI]
  exact Dy .le (.a .v0 .n1) (.m 2 (.a .v1 .n1)) (.l .v0 (.m 2 .v1) .e) rfl this
theorem Dn.second(D:Dn ns ss es)(N:Iw ns)(hs:CI s.W/\CI s.H)(h8:ss.length<8)(hn:e.n=ss.length)(he:ns[ss.length]?=some e.name)(hz:CI e.w/\CI e.h)(hr:e.r=true->e.t=true)(hp:0<=e.u/\0<=e.l/\e.u+e.ot.h<=s.H/\e.l+e.ot.w<=s.W)(hx:x.n=ss.length)(M:ns[8+ss.length]?=some x.name)(Z:x.w=1/\x.h=1)(hr':x.r=true->x.t=true)(B:x.u=s.H-1/\x.l=s.W-1)(hc:e.u+e.ot.h<s.H\/e.l+e.ot.w<s.W):Dn ns (ss++[s]) (es++[e]++[x]):=by
 have D':=D.first N hs h8 hn he hz hr hp
 have op:=Y0 hz
 have hs':(ss++[s])[x.n]?=some s:=by rw[hx,Ak (Az _),Fo];rfl
 have xo:x.ot.h=1/\x.ot.w=1/\x.ot.u=x.u/\x.ot.l=x.l:=by unfold En.ot;split <;> exact⟨by simp only[Z],by simp only[Z],rfl,rfl⟩
 have eo:e.ot.u=e.u/\e.ot.l=e.l:=by unfold En.ot;split <;> exact⟨rfl,rfl⟩
 refine⟨D'.q.box (sh:=s) (λm=>?_) (N.good _ (Ae M)).good ⟨by rw[Z.1];decide,by rw[Z.2];decide⟩ hs' hr' ⟨by exact qj .le .n0 .v0 (.p .v0 (.s .v1 .n1) (.l (.a .v2 .v3) .v1 (.l .n1 .v3 (.l .n0 .v2 .e)))) rfl B.1 hp.2.2.1 op.1 hp.1,by exact qj .le .n0 .v0 (.p .v0 (.s .v1 .n1) (.l (.a .v2 .v3) .v1 (.l .n1 .v3 (.l .n0 .v2 .e)))) rfl B.2 hp.2.2.2 op.2 hp.2.1,by exact VD .le (.a .v0 .v1) .v2 (.q .v1 .n1 (.q .v0 (.s .v2 .n1) .e)) rfl xo.1 B.1,by exact VD .le (.a .v0 .v1) .v2 (.q .v1 .n1 (.q .v0 (.s .v2 .n1) .e)) rfl xo.2.1 B.2⟩ (λy hy z=>?_) λy hy=>?_,MR D'.nm ⟨by exact Dy .lt .v0 (.n 8) (.q .v0 .v1 (.t .v1 (.n 8) .e)) rfl hx h8,_,.inr (by rw[hx]),M⟩,?_⟩
 .refine AW (Ab.mp m) λy hy z=>?_
  refine FH (D'.nm y hy) λh1 j h2 h3=>?_
  have h4:=QK N M (z▸h3)
  refine A7 (An.mp hy) (λq=>?_) (λq=>?_)
  .have:=D.q.lt q;exact A7 h2 (λF=>fJ (.q .v0 .v1 (.t .v1 .v2 (.q (.a (.n 8) .v2) .v0 .e))) rfl F this h4) (λF=>fJ (.q .v0 (.a (.n 8) .v1) (.t .v1 .v2 (.q (.a (.n 8) .v2) .v0 .e))) rfl F this h4)
  .have z:e.name=x.name:=AM.mp q▸z
   have:=QK N M (z▸he)
   exact N6 (.q (.a (.n 8) .v0) .v0 .e) rfl this
 .refine A7 (An.mp hy) (λq=>?_) (λq=>?_)
  .have:=D.q.lt q;exact(fJ (.t .v0 .v1 (.p .v2 .v1 (.p .v0 .v2 .e))) rfl this hx z).elim
  .rw[AM.mp q]
   refine(?_:e.ot.u+e.ot.h<=x.ot.u\/x.ot.u+x.ot.h<=e.ot.u\/e.ot.l+e.ot.w<=x.ot.l\/x.ot.l+x.ot.w<=e.ot.l)
   exact Bc.mpr λF=>Bc.mpr λz1=>Bc.mpr λz2=>A7 hc (λz3=>(xw (.t (.a .v0 .v1) .v2 (.p .v3 (.s .v2 .n1) (.q .v4 .v0 (.m (.a .v4 .v1) .v5 (.p .v5 .v3 .e))))) rfl z3 B.1 eo.1 F xo.2.2.1).elim) (λz3=>(xw (.t (.a .v0 .v1) .v2 (.p .v3 (.s .v2 .n1) (.q .v4 .v0 (.m (.a .v4 .v1) .v5 (.p .v5 .v3 .e))))) rfl z3 B.2 eo.2 z2 xo.2.2.2).elim)
 .refine A7 (An.mp hy) (λq=>?_) (λq=>?_)
  .exact kg (by have:=D.q.lt q;exact HW .lt .v0 .v1 (.t .v0 .v2 (.p .v1 .v2 .e)) rfl this hx)
  .rw[AM.mp q]
   refine WZ (hn.trans hx.symm) hs' ?_
   generalize s.b=b
   cases b with
   |true=>show e.u<x.u\/e.u=x.u/\e.l<x.l;exact Bc.mpr λF=>⟨C5 (qj .le .v0 .v1 (.l (.a .v0 .v2) .v3 (.l .n1 .v2 (.p .v1 (.s .v3 .n1) .e))) rfl hp.2.2.1 op.1 B.1) (O0 .le .v0 .v1 (.o .v1 .v0 .e) rfl F),A7 hc (λz1=>xm .lt .v0 .v1 (.l (.a .v0 .v2) .v3 (.l .n1 .v2 (.p .v1 (.s .v3 .n1) (.t (.a .v4 .v5) .v6 (.l .n1 .v5 (.p .v7 (.s .v6 .n1) (.o .v4 .v7 .e))))))) rfl hp.2.2.2 op.2 B.2 z1 op.1 B.1 F) λz1=>qj .lt .v0 .v1 (.p .v1 (.s .v2 .n1) (.t (.a .v0 .v3) .v2 (.l .n1 .v3 .e))) rfl B.2 z1 op.2⟩
   |false=>show e.l<x.l\/e.l=x.l/\e.u<x.u;exact Bc.mpr λF=>⟨C5 (qj .le .v0 .v1 (.l (.a .v0 .v2) .v3 (.l .n1 .v2 (.p .v1 (.s .v3 .n1) .e))) rfl hp.2.2.2 op.2 B.2) (O0 .le .v0 .v1 (.o .v1 .v0 .e) rfl F),A7 hc (λz1=>qj .lt .v0 .v1 (.p .v1 (.s .v2 .n1) (.t (.a .v0 .v3) .v2 (.l .n1 .v3 .e))) rfl B.1 z1 op.1) λz1=>xm .lt .v0 .v1 (.l (.a .v0 .v2) .v3 (.l .n1 .v2 (.p .v1 (.s .v3 .n1) (.t (.a .v4 .v5) .v6 (.l .n1 .v5 (.p .v7 (.s .v6 .n1) (.o .v4 .v7 .e))))))) rfl hp.2.2.1 op.1 B.1 z1 op.2 B.2 F⟩
 .have:=D.len
  rw[AI,AI,AI]
  exact Dy .le (.a (.a .v0 .n1) .n1) (.m 2 (.a .v1 .n1)) (.l .v0 (.m 2 .v1) .e) rfl this
theorem Dn.new(D:Dn ns ss es)(N:Iw ns){x:Str}(h:ns[16]?=some x):x∉es.map (·.name):=λm=>by
 refine AW (Ab.mp m) λe M z=>?_
 refine FH (D.nm e M) λF j h2 Z=>?_
 have:=QK N h (z▸Z)
 exact A7 h2 (λB=>W0 (.q .v0 .v1 (.t .v1 (.n 8) (.q (.n 16) .v0 .e))) rfl B F this) (λB=>W0 (.q .v0 (.a (.n 8) .v1) (.t .v1 (.n 8) (.q (.n 16) .v0 .e))) rfl B F this)
end
end Mine.Internal
namespace Mine.Internal
open PySem
set_option genSizeOf false
set_option genInjectivity false
noncomputable def qW(k:Nat):Str:="b"++Cp k
noncomputable def mb(b:Bool)(w h:Int)(k:Nat):En:=⟨qW k,1,1,decide ((k:Int) % 3=0),0,if b then (k:Int) / w else (k:Int) % h,if b then (k:Int) % w else (k:Int) / h,false⟩
theorem WD:∀k<90,Bk (qW k)=true/\103∉tl (qW k):=by decide +kernel
theorem sG(hi:i<90)(F:j<90)(h:qW i=qW j):i=j:=by
 have e:=congrArg tl h
 unfold qW at e
 rw[DJ,DJ] at e
 have e:=RC (Lh e)
 have B:=UG hi
 rw[e,UG F] at B
 exact(EN (AG B)).symm
theorem bL{i j:Nat}{m:Int}(hm:0<m)(h:i<j):(i:Int) / m<(j:Int) / m\/((i:Int) / m=(j:Int) / m/\(i:Int) % m<(j:Int) % m):=by
 have B:=Int.ediv_le_ediv hm (A9.mpr (A4 h))
 refine A7 (Ki B) (λq=>?_) (λq=>?_)
 .exact .inl q
 .refine .inr ⟨q,?_⟩
  have a:=br (i:Int) m
  have b:=br (j:Int) m
  have h:=BH.mpr h
  rw[q] at a
  generalize m*((j:Int) / m)=z at a b
  have h:(i:Int)<(j:Int):=h
  exact y0 .lt .v0 .v1 (.q (.a .v0 .v2) .v3 (.p (.a .v1 .v2) .v4 (.t .v3 .v4 .e))) rfl a b h
theorem qq{b:Bool}{w h:Int}{i j:Nat}(F:0<w)(B:0<h)(q:i<j):V6 b ((mb b w h i).u,(mb b w h i).l) ((mb b w h j).u,(mb b w h j).l):=by
 cases b with
 |true=>exact bL F q
 |false=>exact bL B q
theorem wB{b:Bool}{w h W:Int}{k:Nat}(F:0<w)(B:0<h)(hW:w<=W)(hk:(k:Int)<w*h):0<=(mb b w h k).u/\0<=(mb b w h k).l/\(mb b w h k).u+1<=h/\(mb b w h k).l+1<=W:=by
 have k0:(0:Int)<=k:=AQ k
 cases b with
 |true=>
  have M:=Int.ediv_nonneg k0 (C0 F)
  have Z:=C4 (k:Int) (KN F)
  have h3:=Bw (k:Int) F
  have h4:=bt F (show (k:Int)<h*w by rw[Int.mul_comm];exact hk)
  exact⟨Im .le .n0 .v0 (.l .n0 .v0 .e) rfl M,⟨Im .le .n0 .v0 (.l .n0 .v0 .e) rfl Z,⟨O0 .le (.a .v0 .n1) .v1 (.t .v0 .v1 .e) rfl h4,VD .le (.a .v0 .n1) .v1 (.t .v0 .v2 (.l .v2 .v1 .e)) rfl h3 hW⟩⟩⟩
 |false=>
  have M:=Int.ediv_nonneg k0 (C0 B)
  have Z:=C4 (k:Int) (KN B)
  have h3:=Bw (k:Int) B
  have h4:=bt B hk
  exact⟨Im .le .n0 .v0 (.l .n0 .v0 .e) rfl Z,⟨Im .le .n0 .v0 (.l .n0 .v0 .e) rfl M,⟨O0 .le (.a .v0 .n1) .v1 (.t .v0 .v1 .e) rfl h3,VD .le (.a .v0 .n1) .v1 (.t .v0 .v2 (.l .v2 .v1 .e)) rfl h4 hW⟩⟩⟩
theorem ph(hw:0<w)(hh:0<h/\h<=1000000)(hW:w<=W/\W<=1000000):∀k:Nat,(k:Int)<=w*h->k<=90->Dq [⟨W,h,b⟩] ((Ar k).map (mb b w h)):=λk=>by
 induction k with
 |zero=>exact λ_ _=>Dq.JS .nil ⟨⟨by exact O0 .le .n1 .v0 (.l .v1 .v0 (.t .n0 .v1 .e)) rfl hW.1 hw,hW.2⟩,⟨by exact Im .le .n1 .v0 (.t .n0 .v0 .e) rfl hh.1,hh.2⟩⟩
 |succ k ih=>
  intro hk F
  have D:=ih (by exact VD .le .v0 .v1 (.p .v2 (.a .v0 .n1) (.l .v2 .v1 .e)) rfl (C2 _ _) hk) (by exact Ec .le .v0 (.n 90) (.l (.a .v0 .n1) (.n 90) .e) rfl F)
  have gi:=wB (b:=b) hw hh.1 hW.1 (show (k:Int)<w*h by exact VD .lt .v0 .v1 (.p .v2 (.a .v0 .n1) (.l .v2 .v1 .e)) rfl (C2 _ _) hk)
  rw[MX,Ai]
  have Z:∀{x:En},x∈(Ar k).map (mb b w h)->∃i,i<k/\x=mb b w h i:=λhx=>by
   refine AW (Ab.mp hx) λi hi e=>?_
   exact⟨i,Dl.mp hi,e.symm⟩
  refine D.box (sh:=⟨W,h,b⟩) (λm=>?_) (WD k (by exact Ec .lt .v0 (.n 90) (.l (.a .v0 .n1) (.n 90) .e) rfl F)).1 ⟨by refine(?_:CI 1);decide,by refine(?_:CI 1);decide⟩ rfl (λh=>by injection h) gi (λx hx _=>?_) λx hx=>?_
  .refine AW (Ab.mp m) λx hx z=>?_
   refine AW (Z hx) λi hi B=>?_;subst B
   have:=sG (i:=i) (j:=k) (by exact Dy .lt .v0 (.n 90) (.t .v0 .v1 (.l (.a .v1 .n1) (.n 90) .e)) rfl hi F) (by exact Ec .lt .v0 (.n 90) (.l (.a .v0 .n1) (.n 90) .e) rfl F) z
   exact W0 (.p .v0 .v1 (.t .v0 .v1 .e)) rfl this hi
  .refine AW (Z hx) λi hi B=>?_;subst B
   have q:=qq (b:=b) hw hh.1 hi
   refine(?_:(mb b w h i).u+1<=(mb b w h k).u\/(mb b w h k).u+1<=(mb b w h i).u\/(mb b w h i).l+1<=(mb b w h k).l\/(mb b w h k).l+1<=(mb b w h i).l)
   generalize (mb b w h i).u=a1,(mb b w h i).l=a2,(mb b w h k).u=a3,(mb b w h k).l=a4 at q
   cases b with
   |true=>have q:a1<a3\/a1=a3/\a2<a4:=q;exact Bc.mpr λz0=>Bc.mpr λz1=>Bc.mpr λz2=>A7 q (λM=>qj .le (.a .v0 .n1) .v1 (.m (.a .v1 .n1) .v0 (.t .v2 .v3 (.m (.a .v2 .n1) .v3 .e))) rfl z2 M z0) (λM=>O0 .le (.a .v0 .n1) .v1 (.w 2 (.m (.a .v1 .n1) .v0 (.t .v1 .v0 .e))) rfl z2 M.2)
   |false=>have q:a2<a4\/a2=a4/\a1<a3:=q;exact Bc.mpr λz0=>Bc.mpr λz1=>Bc.mpr λz2=>A7 q (λM=>O0 .le (.a .v0 .n1) .v1 (.w 2 (.m (.a .v1 .n1) .v0 (.t .v1 .v0 .e))) rfl z2 M) (λM=>qj .le (.a .v0 .n1) .v1 (.p .v1 .v0 (.t .v2 .v3 (.m (.a .v2 .n1) .v3 .e))) rfl M.1 M.2 z0)
  .refine AW (Z hx) λi hi B=>?_;subst B
   exact WZ (sh:=⟨W,h,b⟩) rfl rfl (qq (b:=b) hw hh.1 hi)
theorem oJ{b:Bool}{w h W:Int}{k:Nat}(hw:0<w)(M:0<h/\h<=1000000)(Z:w<=W/\W<=1000000)(F:(k:Int)<=w*h)(B:k<=89):Dr [⟨W,h,b⟩] ((Ar k).map (mb b w h)):=(ph hw M Z k F (by exact Ec .le .v0 (.n 90) (.l .v0 (.n 89) .e) rfl B)).dr ⟨Az 1,by refine(?_:(1:Nat)<=9);decide⟩ (by rw[AA,BV];exact B)
theorem iH(B:k<=89)(N:Iw ns)(Z:ns[16]?=some x):x∉((Ar k).map (mb b w h)).map (·.name):=λm=>by
 refine AW (Ab.mp m) λe F z=>?_
 refine AW (Ab.mp F) λi hi M=>?_
 have hi:=Dl.mp hi
 refine FR N.g λa c g=>?_
 rw[Z] at g
 have g:=AG g
 refine(WD i (by exact Dy .lt .v0 (.n 90) (.t .v0 .v1 (.l .v1 (.n 89) .e)) rfl hi B)).2 ?_
 have z:qW i=x:=by rw[<- z,<- M];rfl
 rw[z,g,DJ,DJ]
 exact Cg _ (BB _ AL)
end Mine.Internal
namespace Mine.Internal
open PySem
noncomputable def Bx.sw(o:Bx):Bx:=⟨o.s,o.p,o.sl,o.pl⟩
theorem vg{O:List Bx}(g:Gd O P S a b p s):Gd (O.map Bx.sw) S P b a s p:=⟨g.s0,g.p0,g.s1,g.p1,List.forall_mem_map.mpr λo B=>WM.mp (g.clear o B)⟩
theorem sy{O:List Bx}(g:Gd (O.map Bx.sw) S P b a s p):Gd O P S a b p s:=⟨g.s0,g.p0,g.s1,g.p1,λo B=>WM.mp (g.clear _ (Ab.mpr ⟨o,B,rfl⟩))⟩
def ua(O:List Bx)(p:Int):Prop:=p=0\/∃o∈O,p=o.p+o.pl
def uk(O:List Bx)(s:Int):Prop:=s=0\/∃o∈O,s=o.s+o.sl
theorem gb{O:List Bx}(g:Gd O P S a b p s)(h:∀Z s',Gd O P S a b Z s'->p<Z\/(p=Z/\s<=s')):ua O p/\uk O s:=
 ⟨DX (Qg g) λe e1 F B=>(h e s B).elim (λz=>absurd e1 (FI.mpr z)) λz=>z.1▸F.imp id λh=>h.2,
  DX (Qg (vg g)) λe e1 F B=>(h p e (sy B)).elim (λz=>absurd z (JV p)) λz=>C5 z.2 e1▸F.imp id λh=>AW h.2 λo ho he=>AW (Ab.mp ho) λo' M e'=>⟨o',M,he.trans (e'▸rfl)⟩⟩
theorem Wo{O:List Bx}(h:il O P S a b t (some p)):ua O p.1/\uk O p.2.1:=
 gb h.2.1 λB s' g=>(h.2.2 B s' p.2.2 h.1 g).imp id λz=>⟨z.1,z.2.elim C0 λz=>EC z.1⟩
def lexLt(x y:Int×Int):Prop:=x.1<y.1\/(x.1=y.1/\x.2<y.2)
def uB(T:List (Int×Int))(x:Int×Int):Prop:=∃A B,T=A++x::B/\∀y∈A,lexLt y x
theorem Zo{x:Int}(hp:l.Pairwise (·<=·))(F:x∈l):∃A B,l=A++x::B/\∀y∈A,y<x:=by
 refine EX (List.eq_append_cons_of_mem F) λA B e n=>⟨A,B,e,λy hy=>?_⟩
 rw[e] at hp
 exact(Ki ((BY.mp hp).2.2 y hy x AL)).resolve_right λz=>n (z▸hy)
noncomputable def pairsOf(us ls:List Int):List (Int×Int):=us.flatMap λu=>ls.map λl=>(u,l)
theorem RB{u l:Int}(hu:us.Pairwise (·<=·))(hl:F.Pairwise (·<=·))(M:u∈us)(ml:l∈F):uB (pairsOf us F) (u,l):=by
 refine EX (Zo hu M) λA B e h=>EX (Zo hl ml) λA' B' e' h'=>?_
 refine⟨pairsOf A F++A'.map λl=>(u,l),(B'.map λl=>(u,l))++pairsOf B F,?_,λy hy=>?_⟩
 .unfold pairsOf
  rw[e,fF,List.flatMap_cons,<- Aq]
  conv=>lhs;lhs;rhs;rw[e']
  rw[Ai,B6,Aq,Aq,Aq];rfl
 .refine(An.mp hy).elim (λhy=>?_) λhy=>?_
  .exact AW (List.mem_flatMap.mp hy) λa Z hy=>AW (Ab.mp hy) λb _ e=>.inl (e▸h a Z)
  .exact AW (Ab.mp hy) λb hb e=>e▸.inr ⟨rfl,h' b hb⟩
noncomputable def aE(b:Bool)(x:Int×Int):Int×Int:=if b=true then x else (x.2,x.1)
def jO(os:List Ot)(W H w h:Int)(tr:Bool)(u l:Int):Prop:=Gd (os.map Ot.low) H W (mz tr h w) (mz tr w h) u l
section
variable {w h:Int} {t:Bool} {sh:Sh} {os:List Ot}
theorem Nd(o:dZ w h t sh os none)(u l:Int)(tr:Bool)(B:tr=true->t=true):¬jO os sh.W sh.H w h tr u l:=by
 obtain⟨W,H,b⟩:=sh
 cases b with
 |true=>exact O2 o u l tr B
 |false=>exact λg=>O2 o l u tr B (Zw g)
theorem NW(o:dZ w h t sh os (some d)):(d.2.2=true->t=true)/\jO os sh.W sh.H w h d.2.2 d.1 d.2.1/\∀u l tr,(tr=true->t=true)->jO os sh.W sh.H w h tr u l->qb (aE sh.b (d.1,d.2.1)) (aE sh.b (u,l))/\(d.1=u->d.2.1=l->d.2.2=true->tr=true):=by
 have B:∀{p s F s':Int} {A:Prop},p<F\/(p=F/\(s<s'\/(s=s'/\A)))->qb (p,s) (F,s')/\(p=F->s=s'->A):=λh=>
  ⟨h.imp id λh=>⟨h.1,h.2.elim C0 λh=>EC h.1⟩,λe1 M=>h.elim (λz=>absurd e1 (E9 z)) λz=>z.2.elim (λz=>absurd M (E9 z)) λz=>z.2⟩
 obtain⟨W,H,b⟩:=sh
 cases b with
 |true=>
  have o:=O2 o
  exact⟨o.1,o.2.1,λu l tr Z g=>B (o.2.2 u l tr Z g)⟩
 |false=>
  have o:il (os.map Ot.b7) W H w h t (some (d.2.1,d.1,d.2.2)):=O2 o
  exact⟨o.1,i5 o.2.1,λu l tr Z g=>by
   have k:=B (o.2.2 l u tr Z (Zw g))
   exact⟨k.1,λe1 M=>k.2 M e1⟩⟩
theorem Z1:aE b (aE b x)=x:=by cases b <;> rfl
theorem kq(o:dZ w h t sh os (some d))(hs:uB T (aE sh.b (d.1,d.2.1))):∃A B,T.map (aE sh.b)=A++(d.1,d.2.1)::B/\∀y∈A,∀tr,(tr=true->t=true)->¬jO os sh.W sh.H w h tr y.1 y.2:=by
 refine EX hs λA B e F=>⟨A.map (aE sh.b),B.map (aE sh.b),?_,λy hy tr hr g=>?_⟩
 .rw[e,Ai,B6,Z1]
 .refine AW (Ab.mp hy) λx Z M=>?_
  have k:=((NW o).2.2 y.1 y.2 tr hr g).1
  rw[show aE sh.b (y.1,y.2)=x from (congrArg (aE sh.b) M.symm).trans Z1] at k
  exact(XS (x:=x.1) Ee (T:=x.2<x.2) Cn (F x Z) k).elim (JV _) λz=>JV _ z.2
noncomputable def YV(b:Bool)(us ls:List Int):List (Int×Int):=if b=true then pairsOf us ls else pairsOf ls us
theorem iZ(hu:us.Pairwise (·<=·))(hl:M.Pairwise (·<=·))(Z:∀x,x∈us↔x∈0::os.map λo=>o.u+o.h)(ml:∀x,x∈M↔x∈0::os.map λo=>o.l+o.w)(o:dZ w h t sh os (some d)):uB (YV sh.b us M) (aE sh.b (d.1,d.2.1)):=by
 have B:∀{f:Ot->Int} {k:Bx->Int} {q:Ot->Bx} {x:Int},(∀o,k (q o)=f o)->(x=0\/∃o∈os.map q,x=k o)->x∈0::os.map f:=λhk F=>
  F.elim (λe=>e▸AL) λF=>AW F λo' ho e=>AW (Ab.mp ho) λy hy e'=>Ad _ (Ab.mpr ⟨y,hy,(hk y).symm.trans ((congrArg _ e').trans e.symm)⟩)
 obtain⟨W,H,b⟩:=sh
 cases b with
 |true=>
  have e:=Wo (O2 o)
  exact RB hu hl ((Z _).mpr (B (k:=λo=>o.p+o.pl) (λ_=>rfl) e.1)) ((ml _).mpr (B (k:=λo=>o.s+o.sl) (λ_=>rfl) e.2))
 |false=>
  have e:=Wo (p:=(d.2.1,d.1,d.2.2)) (O2 o)
  exact RB hl hu ((ml _).mpr (B (k:=λo=>o.p+o.pl) (λ_=>rfl) e.1)) ((Z _).mpr (B (k:=λo=>o.s+o.sl) (λ_=>rfl) e.2))
end
section
variable {w h:Int} {t:Bool} {ss:List Sh} {hs:List En} {skip:Option Str} {r:Option pn}
theorem oQ(F:FP (dZ w h t) 0 (ss.zip (rowsOf ss.length hs skip)) r){i:Nat}(hi:ss[i]?=some sh)(hr:∀x,r=some x->(i:Int)<=x.1) :
  (dZ w h t sh (Gi hs skip i) none/\∀x,r=some x->((i+1:Nat):Int)<=x.1)\/(∃p,dZ w h t sh (Gi hs skip i) (some p)/\r=some ((i:Int),p.1,p.2.1,p.2.2)):=by
 refine(lg F).elim (λz=>.inl ⟨z.2 _ (Ae (X8 hi)),λx e=>TH (z.1.symm.trans e)⟩) λz=>EJ z λk x p Z h2 M h4=>?_
 rw[Be] at M
 have hk:=hr _ M
 refine(IQ (A9.mp hk)).elim (λB=>?_) λe=>?_
 .exact .inl ⟨h4 i _ B (X8 hi),λx e=>by rw[M] at e;rw[<- AG e];exact A9.mpr B⟩
 .subst e
  have:=AG (Z.symm.trans (X8 hi))
  subst this
  exact .inr ⟨p,h2,M⟩
theorem sr(F:FP (dZ w h t) 0 (ss.zip (rowsOf ss.length hs skip)) r)(Z:∀x,r=some x->(ss.length:Int)<=x.1):r=none:=by
 refine(lg F).elim (λz=>z.1) λz=>EJ z λk x p M h2 B h4=>?_
 rw[Be] at B
 have:=A9.mp (Z _ B)
 exact absurd (AP.mp (ta M).1).1 (B1.mpr this)
end
end Mine.Internal
namespace Mine.Internal
open PySem
noncomputable def Lz:Str:="Rack.names.<locals>.<lambda>"
noncomputable def qm:Fn:=⟨1,2,[
  gq]⟩
noncomputable def lK:Fn:=⟨2,8,[
  BR (.tup [2,3,4,5]) (AD 1),
  BR (.var 6) (AU 0),
  Fy (Hm (AD 5)) [BR (.var 6) (AU 1)] [],
  Fy (Bj (A8 (A8 (AD 0) (AD 2)) (AU 2)) [.Eq] [BE "low"]) [CE (Dw [AD 2,AD 3,AD 4,AD 6])] [],
  CE (Dw [AD 2,AD 4,AD 3,AD 6])]⟩
noncomputable def iY:Fn:=⟨3,4,[
  CE (Jh (Bj (A2 1 [AD 0,AD 1]) [.Lt] [A2 1 [AD 0,AD 2]]))]⟩
noncomputable def jH:Fn:=⟨3,7,[
  BR (.var 3) (AU 0),
  Hz (.tup [4,5]) .plain [OJ false (AD 0)] [Fy (LB [Bj (AD 4) [.Lt] [Ah .Add (AD 3) (AD 1)],Bj (AD 5) [.Gt] [AD 3]]) [BR (.var 3) (AD 5)] []],
  Fy (Bj (Ah .Add (AD 3) (AD 1)) [.Gt] [AD 2]) [CE Hg] [],
  CE (AD 3)]⟩
noncomputable def iN:Fn:=⟨3,4,[
  CE (OJ true (Ah .Add (CD [AU 0]) (Gg (AD 3) 3 .plain [AD 0] [Bj (AU 0) [.Lt,.LtE] [AD 3,Ah .Sub (AD 2) (AD 1)]])))]⟩
noncomputable def au:Fn:=⟨5,9,[
  Hz (.var 5) .plain [A2 4 [Gg (Ah .Add (A8 (AD 8) (AU 1)) (A8 (AD 8) (AU 3))) 8 .plain [AD 0] [],AD 4,AD 2]] [BR (.var 6) (Gg (AD 8) 8 .plain [AD 0] [LB [Bj (A8 (AD 8) (AU 1)) [.Lt] [Ah .Add (AD 5) (AD 4)],Bj (AD 5) [.Lt] [Ah .Add (A8 (AD 8) (AU 1)) (A8 (AD 8) (AU 3))]]]),BR (.var 7) (A2 3 [Gg (Dw [A8 (AD 8) (AU 0),Ah .Add (A8 (AD 8) (AU 0)) (A8 (AD 8) (AU 2))]) 8 .plain [AD 6] [],AD 3,AD 1]),Fy (LB [Bj (AD 7) [.IsNot] [Hg],Bj (Ah .Add (AD 5) (AD 4)) [.LtE] [AD 2]]) [CE (Dw [AD 5,AD 7])] []],
  CE Hg]⟩
noncomputable def bK:Fn:=⟨5,9,[
  Hz (.var 5) .plain [A2 4 [Gg (Ah .Add (A8 (AD 8) (AU 0)) (A8 (AD 8) (AU 2))) 8 .plain [AD 0] [],AD 3,AD 1]] [BR (.var 6) (Gg (AD 8) 8 .plain [AD 0] [LB [Bj (A8 (AD 8) (AU 0)) [.Lt] [Ah .Add (AD 5) (AD 3)],Bj (AD 5) [.Lt] [Ah .Add (A8 (AD 8) (AU 0)) (A8 (AD 8) (AU 2))]]]),BR (.var 7) (A2 3 [Gg (Dw [A8 (AD 8) (AU 1),Ah .Add (A8 (AD 8) (AU 1)) (A8 (AD 8) (AU 3))]) 8 .plain [AD 6] [],AD 4,AD 2]),Fy (LB [Bj (AD 7) [.IsNot] [Hg],Bj (Ah .Add (AD 5) (AD 3)) [.LtE] [AD 1]]) [CE (Dw [AD 7,AD 5])] []],
  CE Hg]⟩
noncomputable def kA:Fn:=⟨4,8,[
  BR (.tup [4,5,6]) (AD 1),
  Fy (Bj (AD 6) [.Eq] [BE "low"]) [CE (A2 5 [AD 0,AD 4,AD 5,AD 2,AD 3])] [],
  CE (A2 6 [AD 0,AD 4,AD 5,AD 2,AD 3])]⟩
noncomputable def kY:Fn:=⟨6,10,[
  BR (.var 6) Hg,
  BR (.var 7) (A2 7 [AD 2,A8 (AD 0) (AD 1),AD 3,AD 4]),
  Fy (Bj (AD 7) [.IsNot] [Hg]) [BR (.var 6) (Dw [AD 1,A8 (AD 7) (AU 0),A8 (AD 7) (AU 1),Fe false])] [],
  Fy (JK (Hm (AD 5))) [CE (AD 6)] [],
  BR (.var 7) (A2 7 [AD 2,A8 (AD 0) (AD 1),AD 4,AD 3]),
  Fy (Bj (AD 7) [.IsNot] [Hg]) [BR (.var 8) (Dw [AD 1,A8 (AD 7) (AU 0),A8 (AD 7) (AU 1),Fe true]),Fy (Uj [Bj (AD 6) [.Is] [Hg],Hm (A2 2 [AD 0,AD 8,AD 6])]) [BR (.var 6) (AD 8)] []] [],
  CE (AD 6)]⟩
noncomputable def iE:Fn:=⟨5,8,[
  Hz (.var 5) .range [DW .len [AD 0]] [BR (.var 6) (A2 8 [AD 0,AD 5,A8 (AD 1) (AD 5),AD 2,AD 3,AD 4]),Fy (Bj (AD 6) [.IsNot] [Hg]) [CE (AD 6)] []],
  CE Hg]⟩
noncomputable def X7:Fn:=⟨2,11,[
  BR (.tup [2,3,4,5]) (AD 0),
  BR (.tup [6,7,8,9]) (AD 1),
  Fy (Uj [Bj (Ah .Add (AD 2) (AD 4)) [.LtE] [AD 6],Bj (Ah .Add (AD 6) (AD 8)) [.LtE] [AD 2]]) [CE (Fe false)] [],
  CE (KC true [Jh (Bj (AD 3) [.Lt] [Ah .Add (AD 7) (AD 9)]),Jh (Bj (AD 7) [.Lt] [Ah .Add (AD 3) (AD 5)])])]⟩
noncomputable def XJ:Fn:=⟨3,8,[
  BR (.tup [3,4,5,6]) (AD 0),
  CE (KC true [Jh (Bj (AD 3) [.GtE] [AU 0]),Jh (Bj (AD 4) [.GtE] [AU 0]),Jh (Bj (Ah .Add (AD 3) (AD 5)) [.LtE] [AD 1]),Jh (Bj (Ah .Add (AD 4) (AD 6)) [.LtE] [AD 2])])]⟩
noncomputable def XK:Fn:=⟨2,5,[
  Hz (.tup [2,3]) .enum [AD 0] [Fy (Hm (A2 10 [AD 3,AD 1])) [CE (AD 2)] []],
  CE Hg]⟩
noncomputable def YF:Fn:=⟨4,5,[
  CE (KC true [A2 11 [AD 1,AD 2,AD 3],Jh (Bj (A2 12 [AD 0,AD 1]) [.Is] [Hg])])]⟩
noncomputable def Xe:Fn:=⟨1,2,[
  CE (Jh (Bj (AU 1) [.LtE,.LtE] [AD 0,AU 1000000]))]⟩
noncomputable def X5:Fn:=⟨1,2,[
  CE (KC true [DW (.J3 .str) [AD 0],Jh (Bj (AU 0) [.Lt,.LtE] [DW .len [AD 0],AU 12]),DW .all [Gg (Jh (Bj (AD 1) [.In] [BE "abcdefghijklmnopqrstuvwxyz0123456789"])) 1 .plain [AD 0] []]])]⟩
noncomputable def Xl:Fn:=⟨2,3,[
  Fy (Hm (A8 (AD 1) (AU 3))) [CE (Dw [A8 (AD 1) (AU 2),A8 (AD 1) (AU 1),A8 (AD 0) (AU 2),A8 (AD 0) (AU 1)])] [],
  CE (Dw [A8 (AD 1) (AU 2),A8 (AD 1) (AU 1),A8 (AD 0) (AU 1),A8 (AD 0) (AU 2)])]⟩
noncomputable def XX:Fn:=⟨2,13,[
  BR (.tup [2,3,4,5]) (FO 323 "box" 59 (AD 0) [AD 1]),
  BR (.tup [6,7,8,9]) (FO 323 "where" 58 (AD 0) [AD 1]),
  BR (.var 10) (BE "stays"),
  Fy (Hm (AD 5)) [BR (.var 10) (BE "turns")] [],
  BR (.var 11) (BE "upright"),
  Fy (Hm (AD 9)) [BR (.var 11) (BE "turned")] [],
  CE (Y2 [BE "box ",AD 2,BE " ",AD 3,BE " ",AD 4,BE " ",AD 10,BE " ",AD 6,BE " ",AD 7,BE " ",AD 8,BE " ",AD 11,BE "\n"] IV)]⟩
noncomputable def YR:Fn:=⟨1,7,[
  BR (.var 1) (CD []),
  Hz (.tup [2,3,4]) .plain [E7 323 "shelves" (AD 0)] [Eh (Mv (AD 1) (Y2 [BE "shelf ",AD 2,BE " ",AD 3,BE " ",AD 4,BE "\n"] IV))],
  Hz (.var 5) .plain [FO 323 "names" 61 (AD 0) []] [Eh (Mv (AD 1) (A2 17 [AD 0,AD 5]))],
  CE (L5 "" (AD 1))]⟩
noncomputable def Xr:Fn:=⟨1,2,[
  Fy (Uj [JK (Bj (AU 0) [.Lt,.LtE] [DW .len [AD 0],AU 7]),JK (Hm (DW .all [Gg (Jh (Bj (AD 1) [.In] [BE "0123456789"])) 1 .plain [AD 0] []]))]) [GY 104 (BE "no number")] [],
  Fy (LB [Bj (A8 (AD 0) (AU 0)) [.Eq] [BE "0"],Bj (DW .len [AD 0]) [.Gt] [AU 1]]) [GY 104 (BE "a nought ahead")] [],
  CE (DW .int [AD 0])]⟩
noncomputable def Xw:Fn:=⟨3,4,[
  Fy (Bj (AD 0) [.NotIn] [Dw [AD 1,AD 2]]) [GY 104 (BE "another word")] [],
  CE (Jh (Bj (AD 0) [.Eq] [AD 1]))]⟩
noncomputable def YU:Fn:=⟨1,2,[
  Fy (Uj [Bj (DW .len [AD 0]) [.NotEq] [AU 4],Bj (A8 (AD 0) (AU 3)) [.NotIn] [Dw [BE "low",BE "left"]]]) [GY 104 (BE "no row of a shelf")] [],
  CE (Dw [A2 19 [A8 (AD 0) (AU 1)],A2 19 [A8 (AD 0) (AU 2)],A8 (AD 0) (AU 3)])]⟩
noncomputable def YO:Fn:=⟨1,4,[
  Fy (Uj [Bj (DW .len [AD 0]) [.NotEq] [AU 9],Bj (A8 (AD 0) (AU 0)) [.NotEq] [BE "box"],Bj (A8 (AD 0) (AU 1)) [.Eq] [BE ""]]) [GY 104 (BE "no row of a box")] [],
  BR (.var 1) (A2 20 [A8 (AD 0) (AU 4),BE "turns",BE "stays"]),
  BR (.var 2) (Dw [A2 19 [A8 (AD 0) (AU 5)],A2 19 [A8 (AD 0) (AU 6)],A2 19 [A8 (AD 0) (AU 7)],A2 20 [A8 (AD 0) (AU 8),BE "turned",BE "upright"]]),
  CE (Dw [A8 (AD 0) (AU 1),A2 19 [A8 (AD 0) (AU 2)],A2 19 [A8 (AD 0) (AU 3)],AD 1,AD 2])]⟩
noncomputable def QR:Fn:=⟨1,12,[
  Fy (Uj [JK (Hm (DW (.J3 .str) [AD 0])),JK (Hm (lE 10 (AD 0)))]) [GY 104 (BE "no rows")] [],
  BR (.var 1) (CD []),
  BR (.var 2) (CD []),
  Hz (.var 3) .plain [DD (Oo 10 (AD 0)) none (some (ko (AU 1)))] [BR (.var 4) (Oo 32 (AD 3)),Fy (LB [Bj (A8 (AD 4) (AU 0)) [.Eq] [BE "shelf"],Bj (DW .len [AD 2]) [.Eq] [AU 0]]) [Eh (Mv (AD 1) (A2 21 [AD 4]))] [Eh (Mv (AD 2) (A2 22 [AD 4]))]],
  Fy (Bj (DW .len [AD 1]) [.Eq] [AU 0]) [GY 104 (BE "no row of a shelf")] [],
  BR (.var 5) (oI 323 50 [AD 1]),
  Hz (.tup [6,7,8,9,10]) .plain [AD 2] [Eh (FO 323 "put_at" 55 (AD 5) [AD 6,AD 7,AD 8,AD 9,AD 10])],
  CE (AD 5)]⟩
noncomputable def Yv:Fn:=⟨2,3,[
  Fy (Bj (AD 1) [.Lt] [DW .len [AD 0]]) [CE (A8 (AD 0) (AD 1))] [],
  CE (AU 0)]⟩
noncomputable def Xa:Fn:=⟨1,6,[
  BR (.var 1) (BE "abcdefghijklmnopqrstuvwxyz0123456789"),
  BR (.var 2) (BE ""),
  BR (.var 3) (Ah .Mod (Ah .FloorDiv (AD 0) (AU 12)) (AU 12)),
  Hz (.var 4) .range [Ah .Mod (AD 0) (AU 12)] [BR (.var 0) (Ah .Mod (Ah .Add (Ah .Mult (AD 0) (AU 48271)) (AU 11)) (AU 2147483647)),BR (.var 2) (Ah .Add (AD 2) (A8 (AD 1) (Ah .Mod (AD 0) (AU 36))))],
  CE (Gg (Ah .Add (Ah .Add (DD (AD 2) none (some (AD 3))) (AD 5)) (DD (AD 2) (some (AD 3)) none)) 5 .plain [BE "abcdxyz0189mnoefg"] [])]⟩
noncomputable def YC:Fn:=⟨1,15,[
  BR (.var 1) (CD []),
  BR (.var 2) (CD []),
  BR (.var 3) (A2 25 [A2 24 [AD 0,AU 1]]),
  Hz (.var 4) .range [Ah .Add (AU 1) (Ah .Mod (A2 24 [AD 0,AU 0]) (AU 9))] [BR (.var 5) (Ah .Add (AU 1) (Ah .Mod (A2 24 [AD 0,Ah .Add (AU 5) (Ah .Mult (AU 5) (AD 4))]) (A8 (CD [AU 9,AU 999999,Ah .Pow (AU 10) (AU 6)]) (Ah .Mod (AD 4) (AU 3))))),BR (.var 6) (Ah .Add (AU 1) (Ah .Mod (A2 24 [AD 0,Ah .Add (AU 6) (Ah .Mult (AU 5) (AD 4))]) (A8 (CD [AU 9,Ah .Pow (AU 10) (AU 6),AU 99999]) (Ah .Mod (AD 4) (AU 3))))),Eh (Mv (AD 1) (Dw [AD 5,AD 6,A8 (CD [BE "low",BE "left"]) (Ah .Mod (A2 24 [AD 0,Ah .Add (AU 7) (Ah .Mult (AU 5) (AD 4))]) (AU 2))])),BR (.var 7) (Ah .FloorDiv (A2 24 [AD 0,Ah .Add (AU 7) (Ah .Mult (AU 5) (AD 4))]) (AU 2)),Fy (LB [Bj (AD 4) [.Lt] [AU 8],Bj (Ah .Mod (AD 7) (AU 4)) [.Gt] [AU 0]]) [BR (.var 8) (Ah .Add (AU 1) (Ah .Mod (A2 24 [AD 0,Ah .Add (AU 8) (Ah .Mult (AU 5) (AD 4))]) (AD 5))),BR (.var 9) (Ah .Add (AU 1) (Ah .Mod (A2 24 [AD 0,Ah .Add (AU 9) (Ah .Mult (AU 5) (AD 4))]) (AD 6))),BR (.var 10) (Ah .Mod (Ah .Mod (Ah .Mult (A2 24 [AD 0,Ah .Add (AU 8) (Ah .Mult (AU 5) (AD 4))]) (AU 48271)) (AU 2147483647)) (Ah .Add (Ah .Sub (AD 6) (AD 9)) (AU 1))),BR (.var 11) (Ah .Mod (Ah .Mod (Ah .Mult (A2 24 [AD 0,Ah .Add (AU 9) (Ah .Mult (AU 5) (AD 4))]) (AU 69621)) (AU 2147483647)) (Ah .Add (Ah .Sub (AD 5) (AD 8)) (AU 1))),BR (.var 12) (Dw [A8 (AD 3) (AD 4),AD 8,AD 9,Jh (Bj (Ah .Mod (AD 7) (AU 4)) [.Eq] [AU 2])]),Fy (Bj (Ah .Mod (AD 7) (AU 4)) [.Eq] [AU 3]) [BR (.var 12) (Dw [A8 (AD 3) (AD 4),AD 9,AD 8,Fe true])] [],Eh (Mv (AD 2) (Ah .Add (AD 12) (Dw [Dw [AD 4,AD 10,AD 11,Jh (Bj (Ah .Mod (AD 7) (AU 4)) [.Eq] [AU 3])]]))),Fy (LB [Bj (Ah .Mod (Ah .FloorDiv (AD 7) (AU 4)) (AU 2)) [.Eq] [AU 0],Uj [Bj (Ah .Add (AD 10) (AD 9)) [.Lt] [AD 6],Bj (Ah .Add (AD 11) (AD 8)) [.Lt] [AD 5]]]) [BR (.var 13) (Dw [A8 (AD 3) (Ah .Add (AU 8) (AD 4)),AU 1,AU 1,Jh (Bj (Ah .Mod (Ah .FloorDiv (AD 7) (AU 8)) (AU 2)) [.Eq] [AU 0])]),Eh (Mv (AD 2) (Ah .Add (AD 13) (Dw [Dw [AD 4,Ah .Sub (AD 6) (AU 1),Ah .Sub (AD 5) (AU 1),KC true [A8 (AD 13) (AU 3),Jh (Bj (Ah .Mod (Ah .FloorDiv (AD 7) (AU 16)) (AU 2)) [.Eq] [AU 0])]]])))] []] []],
  CE (Dw [AD 1,AD 2])]⟩
noncomputable def X2:Fn:=⟨1,2,[
  CE (Ah .Add (Ah .Add (Ah .Add (Ah .Add (Ah .Add (BE "shelf ") (DW .str [A8 (AD 0) (AU 0)])) (BE " ")) (DW .str [A8 (AD 0) (AU 1)])) (BE " ")) (A8 (AD 0) (AU 2)))]⟩
noncomputable def X6:Fn:=⟨1,4,[
  BR (.var 1) (A8 (AD 0) (AU 4)),
  BR (.var 2) (Ah .Add (Ah .Add (Ah .Add (Ah .Add (Ah .Add (Ah .Add (Ah .Add (BE "box ") (A8 (AD 0) (AU 0))) (BE " ")) (DW .str [A8 (AD 0) (AU 1)])) (BE " ")) (DW .str [A8 (AD 0) (AU 2)])) (BE " ")) (A8 (CD [BE "stays",BE "turns"]) (DW .int [A8 (AD 0) (AU 3)]))),
  BR (.var 2) (Ah .Add (Ah .Add (Ah .Add (Ah .Add (Ah .Add (Ah .Add (AD 2) (BE " ")) (DW .str [A8 (AD 1) (AU 0)])) (BE " ")) (DW .str [A8 (AD 1) (AU 1)])) (BE " ")) (DW .str [A8 (AD 1) (AU 2)])),
  CE (Ah .Add (Ah .Add (AD 2) (BE " ")) (A8 (CD [BE "upright",BE "turned"]) (DW .int [A8 (AD 1) (AU 3)])))]⟩
noncomputable def Xz:Fn:=⟨1,2,[
  CE (L5 "" (Gg (Ah .Add (AD 1) (BE "\n")) 1 .plain [AD 0] []))]⟩
noncomputable def X3:Fn:=⟨3,6,[
  Fy (Uj [Bj (E7 323 "shelves" (AD 0)) [.NotEq] [AD 1],Bj (FO 323 "names" 61 (AD 0) []) [.NotEq] [Gg (A8 (AD 5) (AU 0)) 5 .plain [AD 2] []]]) [CE (Fe false)] [],
  Hz (.var 3) .plain [AD 2] [BR (.var 4) (FO 323 "box" 59 (AD 0) [A8 (AD 3) (AU 0)]),Fy (Uj [Bj (AD 4) [.NotEq] [DD (AD 3) none (some (AU 4))],JK (Hm (DW (.J3 .bool) [A8 (AD 4) (AU 3)])),Bj (FO 323 "where" 58 (AD 0) [A8 (AD 3) (AU 0)]) [.NotEq] [A8 (AD 3) (AU 4)]]) [CE (Fe false)] []],
  CE (Fe true)]⟩
noncomputable def UJ:Fn:=⟨3,4,[
  CE (KC false [Jh (Bj (Ah .Add (A8 (AD 0) (AD 2)) (A8 (AD 0) (Ah .Add (AD 2) (AU 2)))) [.LtE] [A8 (AD 1) (AD 2)]),Jh (Bj (Ah .Add (A8 (AD 1) (AD 2)) (A8 (AD 1) (Ah .Add (AD 2) (AU 2)))) [.LtE] [A8 (AD 0) (AD 2)])])]⟩
noncomputable def YS:Fn:=⟨4,6,[
  Fy (Uj [Bj (A8 (AD 1) (AU 0)) [.Lt] [AU 0],Bj (A8 (AD 1) (AU 1)) [.Lt] [AU 0],Bj (Ah .Add (A8 (AD 1) (AU 0)) (A8 (AD 1) (AU 2))) [.Gt] [AD 2],Bj (Ah .Add (A8 (AD 1) (AU 1)) (A8 (AD 1) (AU 3))) [.Gt] [AD 3]]) [CE (Fe false)] [],
  Hz (.var 4) .plain [AD 0] [Fy (LB [JK (Hm (A2 31 [AD 1,AD 4,AU 0])),JK (Hm (A2 31 [AD 1,AD 4,AU 1]))]) [CE (Fe false)] []],
  CE (Fe true)]⟩
noncomputable def Ti:Fn:=⟨1,3,[
  BR (.var 1) (A8 (AD 0) (AU 4)),
  Fy (Hm (A8 (AD 1) (AU 3))) [CE (Dw [A8 (AD 1) (AU 2),A8 (AD 1) (AU 1),A8 (AD 0) (AU 2),A8 (AD 0) (AU 1)])] [],
  CE (Dw [A8 (AD 1) (AU 2),A8 (AD 1) (AU 1),A8 (AD 0) (AU 1),A8 (AD 0) (AU 2)])]⟩
noncomputable def XZ:Fn:=⟨3,4,[
  CE (Gg (A2 33 [AD 3]) 3 .plain [AD 0] [LB [Bj (A8 (A8 (AD 3) (AU 4)) (AU 0)) [.Eq] [AD 1],Bj (A8 (AD 3) (AU 0)) [.NotEq] [AD 2]]])]⟩
noncomputable def UA:Fn:=⟨2,8,[
  BR (.var 2) (OJ false (Ah .Add (CD [AU 0]) (Gg (Ah .Add (A8 (AD 7) (AU 1)) (A8 (AD 7) (AU 3))) 7 .plain [AD 0] []))),
  BR (.var 3) (OJ false (Ah .Add (CD [AU 0]) (Gg (Ah .Add (A8 (AD 7) (AU 0)) (A8 (AD 7) (AU 2))) 7 .plain [AD 0] []))),
  BR (.var 4) (CD []),
  Fy (Bj (A8 (AD 1) (AU 2)) [.Eq] [BE "low"]) [Hz (.var 5) .plain [AD 2] [BR (.var 4) (Ah .Add (AD 4) (Gg (Dw [AD 5,AD 7]) 7 .plain [AD 3] []))]] [Hz (.var 6) .plain [AD 3] [BR (.var 4) (Ah .Add (AD 4) (Gg (Dw [AD 7,AD 6]) 7 .plain [AD 2] []))]],
  CE (AD 4)]⟩
noncomputable def Y1:Fn:=⟨3,11,[
  Hz (.var 3) .range [DW .len [AD 0]] [BR (.var 4) (A2 34 [AD 1,AD 3,A8 (AD 2) (AU 0)]),BR (.var 5) (A8 (AD 0) (AD 3)),Hz (.var 6) .plain [A2 35 [AD 4,AD 5]] [Hz (.var 7) .plain [DD (CD [Fe false,Fe true]) none (some (Ah .Add (AU 1) (DW .int [A8 (AD 2) (AU 3)])))] [BR (.var 8) (Dw [AD 3,A8 (AD 6) (AU 0),A8 (AD 6) (AU 1),AD 7]),BR (.var 9) (A2 33 [Ah .Add (AD 2) (Dw [AD 8])]),Fy (Hm (A2 32 [AD 4,AD 9,A8 (AD 5) (AU 0),A8 (AD 5) (AU 1)])) [CE (AD 8)] []]]],
  CE Hg]⟩
noncomputable def Yg:Fn:=⟨5,11,[
  BR (.var 5) (A8 (AD 1) (Ah .Mod (AD 4) (DW .len [AD 1]))),
  BR (.var 6) (Ah .Add (AU 1) (Ah .Mod (AD 4) (A8 (AD 5) (AU 0)))),
  BR (.var 7) (Ah .Add (AU 1) (Ah .Mod (Ah .Mod (Ah .Mult (AD 4) (AU 48271)) (AU 2147483647)) (A8 (AD 5) (AU 1)))),
  BR (.var 8) (Dw [AD 3,AD 6,AD 7,Jh (Bj (Ah .Mod (Ah .FloorDiv (AD 4) (AU 7)) (AU 2)) [.Eq] [AU 0])]),
  BR (.var 9) Hg,
  jk [BR (.var 9) (FO 323 "put" 54 (AD 0) [A8 (AD 8) (AU 0),A8 (AD 8) (AU 1),A8 (AD 8) (AU 2),A8 (AD 8) (AU 3)])] [80] (wW.e ⟨[80],36,1,2,8⟩),
  CE (KC true [Jh (Bj (AD 9) [.Eq] [A2 36 [AD 1,AD 2,AD 8]]),Jh (Bj (FO 323 "take_out" 57 (AD 0) [AD 3]) [.Eq] [AD 9])])]⟩
noncomputable def ZL:Fn:=⟨3,6,[
  Hz (.var 3) .plain [AD 2] [Fy (Bj (FO 323 "take_out" 57 (AD 0) [A8 (AD 3) (AU 0)]) [.NotEq] [A8 (AD 3) (AU 4)]) [CE (Fe false)] []],
  Hz (.var 4) .range [DW .len [AD 1]] [Fy (Bj (FO 323 "free" 62 (AD 0) [AD 4]) [.NotEq] [Ah .Mult (A8 (A8 (AD 1) (AD 4)) (AU 0)) (A8 (A8 (AD 1) (AD 4)) (AU 1))]) [CE (Fe false)] []],
  CE (KC true [Jh (Bj (FO 323 "names" 61 (AD 0) []) [.Eq] [CD []]),Jh (Bj (FO 323 "put" 54 (AD 0) [BE "new",AU 1,AU 1,Fe false]) [.Eq] [Dw [AU 0,AU 0,AU 0,Fe false]])])]⟩
noncomputable def Te:Fn:=⟨1,2,[
  dW [Eh (A2 23 [AD 0])] [([92],.str "unknown",none),([104],.str "note",none),([44],.str "shelf",none),([56],.str "box",none),([68],.str "twice",none),([80],.str "room",none)],
  CE (BE "")]⟩
noncomputable def Ut:Fn:=⟨1,2,[
  dW [Eh (A2 23 [AD 0])] [([80],.str "room",none),([68],.str "twice",none),([56],.str "box",none),([44],.str "shelf",none),([104],.str "note",none),([92],.str "unknown",none)],
  CE (BE "")]⟩
noncomputable def Y3:Fn:=⟨1,3,[
  dW [Eh (A2 23 [AD 0])] [([31,44,56,68,80,92,104],.bool true,some 1)],
  CE (Fe false)]⟩
noncomputable def Xx:Fn:=⟨1,2,[
  CE (A8 (CD [BE "",BE "00",BE "007",BE "01",BE "+1",BE "-1",BE "1_0",BE "1.",BE "0x1",BE "12345678",BE " 1",BE "0000001"]) (Ah .Mod (AD 0) (AU 12)))]⟩
noncomputable def T7:Fn:=⟨2,6,[
  Fy (Bj (A8 (AD 0) (AU 0)) [.Eq] [BE "shelf"]) [BR (.var 2) (A8 (CD [AU 0,AU 1,AU 2,AU 3,AU 1,AU 2]) (Ah .Mod (AD 1) (AU 6))),BR (.var 3) (A8 (CD [BE "shelves",A2 42 [Ah .FloorDiv (AD 1) (AU 6)],A2 42 [Ah .FloorDiv (AD 1) (AU 6)],BE "high",BE "",BE "1 1"]) (Ah .Mod (AD 1) (AU 6)))] [BR (.var 2) (A8 (CD [AU 0,AU 1,AU 2,AU 3,AU 4,AU 5,AU 6,AU 7,AU 8,AU 1]) (Ah .Mod (AD 1) (AU 10))),BR (.var 3) (CD [CD [BE "Box",BE "boxes",BE "",BE "names"],CD [BE "",BE "a ",BE " a",BE "a b"],CD [BE "",BE "1",BE "turn",BE "TURNS"]]),BR (.var 3) (Ah .Add (AD 3) (CD [CD [BE "up",BE "",BE "turned ",BE "Upright"]])),BR (.var 4) (A8 (CD [AU 0,AU 1,AU 4,AU 4,AU 2,AU 4,AU 4,AU 4,AU 3,AU 1]) (Ah .Mod (AD 1) (AU 10))),Fy (Bj (AD 4) [.Eq] [AU 4]) [BR (.var 3) (A2 42 [Ah .FloorDiv (AD 1) (AU 10)])] [BR (.var 3) (A8 (A8 (AD 3) (AD 4)) (Ah .Mod (Ah .FloorDiv (AD 1) (AU 10)) (AU 4)))]],
  CE (L5 " " (Ah .Add (Ah .Add (DD (AD 0) none (some (AD 2))) (CD [AD 3])) (DD (AD 0) (some (Ah .Add (AD 2) (AU 1))) none)))]⟩
noncomputable def XQ:Fn:=⟨4,8,[
  BR (.var 4) (Ah .Add (AD 0) (AD 1)),
  BR (.var 5) (Ah .Mod (AD 3) (DW .len [AD 4])),
  Fy (Bj (Ah .Mod (AD 2) (AU 6)) [.Eq] [AU 0]) [CE (A2 29 [Ah .Add (Ah .Add (DD (AD 4) none (some (AD 5))) (CD [A2 43 [Oo 32 (A8 (AD 4) (AD 5)),Ah .FloorDiv (AD 3) (AU 20)]])) (DD (AD 4) (some (Ah .Add (AD 5) (AU 1))) none)])] [],
  Fy (Bj (Ah .Mod (AD 2) (AU 6)) [.Eq] [AU 1]) [CE (Ah .Add (DD (A2 29 [AD 4]) none (some (ko (AU 1)))) (A8 (CD [BE "",BE " ",BE "\n\n",BE "x"]) (Ah .Mod (AD 3) (AU 4))))] [],
  Fy (Bj (Ah .Mod (AD 2) (AU 6)) [.Eq] [AU 2]) [CE (A2 29 [Ah .Add (Ah .Add (DD (AD 4) none (some (AD 5))) (CD [A8 (CD [BE "",BE " ",Ah .Add (A8 (AD 4) (AD 5)) (BE " "),Ah .Add (BE " ") (A8 (AD 4) (AD 5))]) (Ah .Mod (Ah .FloorDiv (AD 3) (AU 20)) (AU 4))])) (DD (AD 4) (some (Ah .Add (AD 5) (AU 1))) none)])] [],
  Fy (Bj (Ah .Mod (AD 2) (AU 6)) [.Eq] [AU 3]) [CE (A2 29 [AD 1])] [],
  Fy (Bj (Ah .Mod (AD 2) (AU 6)) [.Eq] [AU 4]) [CE (A2 29 [Ah .Add (Ah .Add (AD 0) (CD [BE "box zq 1 1 stays 0 0 0 upright"])) (DD (AD 0) none (some (AU 1)))])] [],
  BR (.var 6) (i0 ["  ", "\t", "\t ", ""] (Ah .Mod (Ah .FloorDiv (AD 3) (AU 60)) (AU 4))),
  CE (A2 29 [Ah .Add (Ah .Add (DD (AD 4) none (some (AD 5))) (CD [iG 32 (A8 (AD 4) (AD 5)) (AD 6) (Ah .Add (AU 1) (Ah .Mod (Ah .FloorDiv (AD 3) (AU 20)) (AU 3)))])) (DD (AD 4) (some (Ah .Add (AD 5) (AU 1))) none)])]⟩
noncomputable def Xh:Fn:=⟨5,11,[
  BR (.var 5) (A8 (AD 4) (AU 16)),
  BR (.var 6) (A8 (CD [BE "0",BE "1000001",BE "9999999"]) (Ah .Mod (AD 3) (AU 3))),
  Fy (Bj (Ah .Mod (AD 2) (AU 5)) [.Eq] [AU 0]) [BR (.var 7) (Ah .Mod (Ah .FloorDiv (AD 3) (AU 3)) (DW .len [AD 0])),BR (.var 8) (A8 (CD [Ah .Add (Ah .Add (BE "shelf ") (AD 6)) (BE " 1 low"),Ah .Add (Ah .Add (BE "shelf 1 ") (AD 6)) (BE " left")]) (Ah .Mod (Ah .FloorDiv (AD 3) (AU 30)) (AU 2))),CE (Dw [A2 29 [Ah .Add (Ah .Add (Ah .Add (DD (AD 0) none (some (AD 7))) (CD [AD 8])) (DD (AD 0) (some (Ah .Add (AD 7) (AU 1))) none)) (AD 1)],BE "shelf"])] [],
  Fy (Bj (Ah .Mod (AD 2) (AU 5)) [.Eq] [AU 1]) [CE (Dw [A2 29 [Ah .Add (Ah .Mult (AD 0) (AU 10)) (AD 1)],BE "shelf"])] [],
  Fy (Bj (Ah .Mod (AD 2) (AU 5)) [.Eq] [AU 2]) [BR (.var 8) (Ah .Add (A8 (CD [Ah .Add (Ah .Add (BE "box zq ") (AD 6)) (BE " 1"),Ah .Add (BE "box zq 1 ") (AD 6)]) (Ah .Mod (Ah .FloorDiv (AD 3) (AU 3)) (AU 2))) (BE " turns 9 0 0 turned")),Fy (Bj (Ah .Mod (Ah .FloorDiv (AD 3) (AU 6)) (AU 2)) [.Eq] [AU 0]) [BR (.var 8) (Ah .Add (Ah .Add (BE "box ") (A8 (CD [BE "A",BE "abcdefghijklm",BE "a_b",BE "0."]) (Ah .Mod (Ah .FloorDiv (AD 3) (AU 12)) (AU 4)))) (BE " 1 1 turns 0 0 0 upright"))] [],CE (Dw [A2 29 [Ah .Add (Ah .Add (AD 0) (AD 1)) (CD [AD 8])],BE "box"])] [],
  Fy (Bj (Ah .Mod (AD 2) (AU 5)) [.Eq] [AU 3]) [BR (.var 8) (A8 (CD [BE "stays 0 0 0 turned",BE "turns 9 0 0 upright",BE "turns 0 0 9999999 upright"]) (Ah .Mod (AD 3) (AU 3))),BR (.var 8) (Ah .Add (Ah .Add (Ah .Add (BE "box ") (AD 5)) (BE " 1 1 ")) (AD 8)),Fy (Bj (Ah .Mod (Ah .FloorDiv (AD 3) (AU 3)) (AU 2)) [.Eq] [AU 0]) [Fy (Bj (AD 1) [.Eq] [CD []]) [BR (.var 1) (CD [Ah .Add (Ah .Add (BE "box ") (A8 (AD 4) (AU 15))) (BE " 1 1 stays 0 0 0 upright")])] [],BR (.var 9) (Oo 32 (A8 (AD 1) (Ah .Mod (Ah .FloorDiv (AD 3) (AU 6)) (DW .len [AD 1])))),BR (.var 8) (L5 " " (Ah .Add (CD [BE "box",AD 5]) (DD (AD 9) (some (AU 2)) none)))] [],CE (Dw [A2 29 [Ah .Add (Ah .Add (AD 0) (AD 1)) (CD [AD 8])],BE "room"])] [],
  Fy (Bj (AD 1) [.Eq] [CD []]) [BR (.var 1) (CD [BE "box zq 1 1 stays 0 0 0 upright"])] [],
  CE (Dw [A2 29 [Ah .Add (Ah .Add (AD 0) (AD 1)) (CD [A8 (AD 1) (Ah .Mod (AD 3) (DW .len [AD 1]))])],BE "twice"])]⟩
noncomputable def XT:Fn:=⟨3,4,[
  BR (.var 0) (Ah .Add (AD 0) (A8 (CD [BE "",BE "box B 1 1 turns 0 0 0 upright\n",BE "box zzz 1 1 turns 9 0 0 upright\n"]) (Ah .Mod (Ah .FloorDiv (AD 2) (AU 7)) (AU 3)))),
  CE (KC true [Jh (Bj (A2 39 [AD 0]) [.Eq] [AD 1]),Jh (Bj (A2 40 [AD 0]) [.Eq] [AD 1]),A2 41 [AD 0]])]⟩
noncomputable def X4:Fn:=⟨5,7,[
  BR (.var 5) (A8 (A2 45 [AD 0,AD 1,AD 2,AD 3,AD 4]) (AU 0)),
  CE (Ah .Add (AD 5) (A8 (CD [BE "x\n",BE "\n",BE "box\n",BE "box a 1 1 turns 0 0 00 upright\n"]) (Ah .Mod (Ah .FloorDiv (AD 3) (AU 5)) (AU 4))))]⟩
noncomputable def Xc:Fn:=⟨1,11,[
  BR (.var 1) (Ah .Add (AU 20) (Ah .Mod (AD 0) (AU 70))),
  BR (.var 2) (Ah .Add (AU 1) (Ah .Mod (Ah .FloorDiv (AD 0) (AU 70)) (AU 3))),
  BR (.var 3) (A8 (CD [BE "low",BE "left"]) (Ah .Mod (Ah .FloorDiv (AD 0) (AU 210)) (AU 2))),
  BR (.var 4) (CD [Dw [Ah .Add (AD 1) (Ah .Mod (Ah .FloorDiv (AD 0) (AU 420)) (AU 3)),AD 2,AD 3]]),
  BR (.var 5) (Ah .FloorDiv (AD 1) (AD 2)),
  BR (.var 6) (CD []),
  Hz (.var 7) .range [Ah .Mult (AD 5) (AD 2)] [BR (.var 8) (Ah .FloorDiv (AD 7) (AD 5)),BR (.var 9) (Ah .Mod (AD 7) (AD 5)),Fy (Bj (AD 3) [.Eq] [BE "left"]) [BR (.var 8) (Ah .Mod (AD 7) (AD 2)),BR (.var 9) (Ah .FloorDiv (AD 7) (AD 2))] [],Eh (Mv (AD 6) (Dw [Ah .Add (BE "b") (DW .str [AD 7]),AU 1,AU 1,Jh (Bj (Ah .Mod (AD 7) (AU 3)) [.Eq] [AU 0]),Dw [AU 0,AD 8,AD 9,Fe false]]))],
  CE (Dw [AD 4,AD 6])]⟩
noncomputable def IM:Fn:=⟨1,18,[
  BR (.tup [1,2]) (A2 26 [AD 0]),
  Fy (Bj (Ah .Mod (Ah .FloorDiv (A2 24 [AD 0,AU 2]) (AU 6)) (AU 8)) [.Eq] [AU 1]) [BR (.tup [1,2]) (A2 48 [Ah .Mod (A2 24 [AD 0,AU 3]) (Ah .Pow (AU 10) (AU 9))])] [],
  BR (.var 3) (Gg (A2 27 [AD 17]) 17 .plain [AD 1] []),
  BR (.var 5) (Gg (A2 28 [AD 17]) 17 .plain [AD 2] []),
  BR (.var 6) (Ah .Mod (A2 24 [AD 0,AU 2]) (AU 6)),
  BR (.var 7) (A2 24 [AD 0,AU 3]),
  BR (.var 8) (Ah .Mod (Ah .Add (Ah .Mult (A2 24 [AD 0,AU 4]) (AU 48271)) (AU 11)) (AU 2147483647)),
  Fy (Uj [Bj (AD 6) [.Eq] [AU 1],Bj (AD 6) [.Eq] [AU 2],Bj (AD 6) [.Eq] [AU 5]]) [BR (.var 9) (A2 44 [AD 3,AD 5,AD 7,AD 8]),Fy (Bj (AD 6) [.Eq] [AU 5]) [BR (.var 9) (A2 47 [AD 3,AD 5,AD 7,AD 8,A2 25 [A2 24 [AD 0,AU 1]]])] [],CE (KC true [Jh (Bj (A2 39 [AD 9]) [.Eq] [BE "note"]),Jh (Bj (A2 40 [AD 9]) [.Eq] [BE "note"]),A2 41 [AD 9]])] [],
  Fy (Bj (AD 6) [.Eq] [AU 3]) [BR (.tup [9,10]) (A2 45 [AD 3,AD 5,AD 7,AD 8,A2 25 [A2 24 [AD 0,AU 1]]]),CE (A2 46 [AD 9,AD 10,AD 8])] [],
  BR (.var 11) (Ah .Mod (AD 7) (Ah .Add (DW .len [AD 5]) (AU 1))),
  BR (.var 12) (oI 323 50 [DW .list [AD 1]]),
  Hz (.var 4) .plain [Ah .Add (dg (DD (AD 2) (some (AD 11)) none)) (DD (AD 2) none (some (AD 11)))] [Eh (FO 323 "put_at" 55 (AD 12) [A8 (AD 4) (AU 0),A8 (AD 4) (AU 1),A8 (AD 4) (AU 2),A8 (AD 4) (AU 3),A8 (AD 4) (AU 4)])],
  BR (.var 13) (A2 18 [AD 12]),
  Fy (Uj [JK (Hm (DW (.J3 .str) [AD 13])),Bj (AD 13) [.NotEq] [A2 29 [Ah .Add (AD 3) (AD 5)]]]) [CE (Fe false)] [],
  BR (.var 14) (Ah .Add (dg (DD (AD 5) (some (AD 11)) none)) (DD (AD 5) none (some (AD 11)))),
  BR (.var 15) (A2 23 [AD 13]),
  Fy (JK (Hm (A2 30 [AD 15,AD 1,AD 2]))) [CE (Fe false)] [],
  BR (.var 16) (A8 (A2 25 [A2 24 [AD 0,AU 1]]) (AU 16)),
  Fy (LB [Bj (DW .len [AD 2]) [.Lt] [AU 18],JK (Hm (A2 37 [AD 15,AD 1,AD 2,AD 16,AD 8]))]) [CE (Fe false)] [],
  Fy (JK (Hm (A2 38 [AD 15,AD 1,AD 2]))) [CE (Fe false)] [],
  CE (A2 30 [A2 23 [A2 29 [Ah .Add (AD 3) (AD 14)]],AD 1,AD 2])]⟩
noncomputable def YK:Fn:=⟨2,6,[
  Fy (JK (Bj (AU 1) [.LtE,.LtE] [DW .len [AD 1],AU 9])) [GY 44 (BE "no shelves, or too many")] [],
  Hz (.tup [2,3,4]) .plain [AD 1] [Fy (Uj [JK (Hm (A2 14 [AD 2])),JK (Hm (A2 14 [AD 3])),Bj (AD 4) [.NotIn] [Dw [BE "low",BE "left"]]]) [GY 44 (BE "no shelf")] []],
  Vd 323 "shelves" (AD 0) (DW .list [AD 1]),
  Vd 323 "boxes" (AD 0) Zr,
  Vd 323 "places" (AD 0) Zr]⟩
noncomputable def Yt:Fn:=⟨2,6,[
  BR (.var 2) (Gg (CD []) 5 .plain [E7 323 "shelves" (AD 0)] []),
  Hz (.var 3) .plain [E7 323 "places" (AD 0)] [Fy (Bj (AD 3) [.NotEq] [AD 1]) [BR (.var 4) (A8 (E7 323 "places" (AD 0)) (AD 3)),Eh (Mv (A8 (AD 2) (A8 (AD 4) (AU 0))) (A2 16 [A8 (E7 323 "boxes" (AD 0)) (AD 3),AD 4]))] []],
  CE (AD 2)]⟩
noncomputable def Yh:Fn:=⟨4,5,[
  Fy (Uj [JK (Hm (A2 15 [AD 1])),JK (Hm (A2 14 [AD 2])),JK (Hm (A2 14 [AD 3]))]) [GY 56 (BE "no box")] [],
  Fy (Bj (AD 1) [.In] [E7 323 "boxes" (AD 0)]) [GY 68 (BE "the name stands there")] []]⟩
noncomputable def Yw:Fn:=⟨3,4,[
  aI (E7 323 "boxes" (AD 0)) (A8 (AD 1) (AU 0)) (AD 1),
  aI (E7 323 "places" (AD 0)) (A8 (AD 1) (AU 0)) (AD 2)]⟩
noncomputable def XI:Fn:=⟨5,7,[
  Eh (FO 323 "need_new" 52 (AD 0) [AD 1,AD 2,AD 3]),
  BR (.var 5) (A2 9 [E7 323 "shelves" (AD 0),FO 323 "rows_without" 51 (AD 0) [Hg],AD 2,AD 3,AD 4]),
  Fy (Bj (AD 5) [.Is] [Hg]) [GY 80 (BE "no place for it")] [],
  Eh (FO 323 "stand" 53 (AD 0) [Dw [AD 1,AD 2,AD 3,AD 4],AD 5]),
  CE (AD 5)]⟩
noncomputable def UC:Fn:=⟨6,13,[
  Eh (FO 323 "need_new" 52 (AD 0) [AD 1,AD 2,AD 3]),
  BR (.tup [6,7,8,9]) (AD 5),
  Fy (Uj [JK (Bj (AU 0) [.LtE,.Lt] [AD 6,DW .len [E7 323 "shelves" (AD 0)]]),LB [Hm (AD 9),JK (Hm (AD 4))]]) [GY 80 (BE "no such place for it")] [],
  BR (.var 10) (Dw [AD 1,AD 2,AD 3,AD 4]),
  BR (.var 11) (A8 (E7 323 "shelves" (AD 0)) (AD 6)),
  Fy (JK (Hm (A2 13 [A8 (FO 323 "rows_without" 51 (AD 0) [Hg]) (AD 6),A2 16 [AD 10,AD 5],A8 (AD 11) (AU 0),A8 (AD 11) (AU 1)]))) [GY 80 (BE "it does not fit there")] [],
  Eh (FO 323 "stand" 53 (AD 0) [AD 10,AD 5])]⟩
noncomputable def Xo:Fn:=⟨2,3,[
  Fy (Bj (AD 1) [.NotIn] [E7 323 "boxes" (AD 0)]) [GY 92 (BE "no box of that name")] []]⟩
noncomputable def XO:Fn:=⟨2,3,[
  Eh (FO 323 "need" 56 (AD 0) [AD 1]),
  Eh (qF (E7 323 "boxes" (AD 0)) (AD 1)),
  CE (qF (E7 323 "places" (AD 0)) (AD 1))]⟩
noncomputable def UQ:Fn:=⟨2,3,[
  Eh (FO 323 "need" 56 (AD 0) [AD 1]),
  CE (A8 (E7 323 "places" (AD 0)) (AD 1))]⟩
noncomputable def Uo:Fn:=⟨2,3,[
  Eh (FO 323 "need" 56 (AD 0) [AD 1]),
  CE (A8 (E7 323 "boxes" (AD 0)) (AD 1))]⟩
noncomputable def mF:Fn:=⟨2,3,[
  Eh (FO 323 "need" 56 (AD 0) [AD 1]),
  CE (A2 16 [A8 (E7 323 "boxes" (AD 0)) (AD 1),A8 (E7 323 "places" (AD 0)) (AD 1)])]⟩
noncomputable def XR:Fn:=⟨1,2,[
  CE (Tv 294 Lz 181 39 (E7 323 "places" (AD 0)) 1 (A2 1 [E7 323 "shelves" (AD 0),A8 (E7 323 "places" (AD 0)) (AD 1)]))]⟩
noncomputable def Yl:Fn:=⟨2,5,[
  Fy (JK (Bj (AU 0) [.LtE,.Lt] [AD 1,DW .len [E7 323 "shelves" (AD 0)]])) [GY 44 (BE "no shelf of that number")] [],
  BR (.var 2) (Ah .Mult (A8 (A8 (E7 323 "shelves" (AD 0)) (AD 1)) (AU 0)) (A8 (A8 (E7 323 "shelves" (AD 0)) (AD 1)) (AU 1))),
  Hz (.var 3) .plain [E7 323 "places" (AD 0)] [Fy (Bj (A8 (A8 (E7 323 "places" (AD 0)) (AD 3)) (AU 0)) [.Eq] [AD 1]) [BR (.var 2) (Ah .Sub (AD 2) (Ah .Mult (A8 (A8 (E7 323 "boxes" (AD 0)) (AD 3)) (AU 1)) (A8 (A8 (E7 323 "boxes" (AD 0)) (AD 3)) (AU 2))))] []],
  CE (AD 2)]⟩
noncomputable def mE:Fn:=⟨1,2,[
  Eh (A2 0 [AU 0])]⟩
noncomputable def jK:Fn:=⟨1,2,[
  Eh (A2 0 [AU 1])]⟩
noncomputable def ER:List Fn:=[qm,lK,iY,jH,iN,au,bK,kA,kY,iE,X7,XJ,XK,YF,Xe,X5,Xl,XX,YR,Xr,Xw,YU,YO,QR,Yv,Xa,YC,X2,X6,Xz,X3,UJ,YS,Ti,XZ,UA,Y1,Yg,ZL,Te,Ut,Y3,Xx,T7,XQ,Xh,XT,X4,Xc,IM,YK,Yt,Yh,Yw,XI,UC,Xo,XO,UQ,Uo,mF,XR,Yl,mE,jK]
noncomputable def dX:List (Fn×Bool):=[(qm,false),(lK,false),(iY,false),(jH,false),(iN,false),(au,false),(bK,false),(kA,false),(kY,false),(iE,false),(X7,false),(XJ,false),(XK,false),(YF,false),(Xe,false),(X5,false),(Xl,false),(XX,false),(YR,false),(Xr,false),(Xw,false),(YU,false),(YO,false),(QR,false),(Yv,false),(Xa,false),(YC,false),(X2,false),(X6,false),(Xz,false),(X3,false),(UJ,false),(YS,false),(Ti,false),(XZ,false),(UA,false),(Y1,false),(Yg,false),(ZL,false),(Te,false),(Ut,false),(Y3,false),(Xx,false),(T7,false),(XQ,false),(Xh,false),(XT,false),(X4,false),(Xc,false),(IM,false),(YK,false),(Yt,false),(Yh,false),(Yw,false),(XI,false),(UC,false),(Xo,false),(XO,false),(UQ,false),(Uo,false),(mF,false),(XR,true),(Yl,false),(mE,false),(jK,false)]
end Mine.Internal
namespace Mine.Internal
open PySem PySem.Calls PySem.W PyProof.Rows
noncomputable def q6:Mc:=match clsOf? fI "Rack" with
 |some c=>c
 |none=>⟨"", none,[],[],0,[]⟩
set_option maxRecDepth 100000 in
theorem nI:Reads (Jq fI q6 cJ) (IZ fI q6) 1 dX:=by
 intro K F mg mb B S
 kernel_rfl
set_option maxRecDepth 100000 in
theorem i7:Ym (Jq fI q6 cJ) (IZ fI q6) 1 dX:=by
 intro K F mg mb B S
 kernel_rfl
set_option maxRecDepth 100000 in
theorem pG:QT fI [] q6 cJ where
 mem:=by
  have e:(plainsOf fI [])=[q6]:=by kernel_rfl
  rw[e];exact AM.mpr rfl
 name:=by kernel_rfl
 quiet:=by kernel_rfl
 uH:=by kernel_rfl
 init:=by kernel_rfl
 wI:=by kernel_rfl
 kids:=by kernel_rfl
 uL:=by kernel_rfl
 blt:=by kernel_rfl
 lit:=by kernel_rfl
theorem wq:∀(i:Nat) (r:Fn×Bool),dX[i]?=some r->r.2=true->∃d:Jd,(IZ fI q6)[i]?=some d/\d.name=CR++"."++"names":=by
 intro i r h M
 have B:∀i,i<65->i≠61->(dX[i]?.map Prod.snd)=some false:=by decide
 have F:i<65:=(AP.mp h).1
 by_cases e:i=61
 .subst e
  have e:((IZ fI q6).map (·.name))[61]?=some (CR++"."++"names"):=by kernel_rfl
  rw[As] at e
  exact Av.mp e
 .have:=B i F e
  rw[h] at this
  cases (show some r.2=some false from this).symm.trans (congrArg some M)
end Mine.Internal
namespace Mine.Internal
open PySem
set_option maxHeartbeats 2000000
section
variable {d:Nat} {σ:Af} {Q:BS} {X:CP}
theorem qc(e:σ[n]?=some (.list (rows.map L7)))(hz:rows.length<64)(q:∀g B,σ<+:B->bI size room rows g->Q (j7 g) B):callW ER (d+1) 3 [.ref n,.int size,.int room] σ Q X:=by
 refine BG (fn:=jH) rfl rfl ?_
 refine MA.rows (rs:=rows.map λr=>[r.1,r.2]) (by rw[e,BW];rfl) (by rw[AA];exact hz) (λr hr=>?_) λts hp hs=>?_
 .obtain⟨x,_,rfl⟩:=Ab.mp hr;exact Bi _ _
 obtain⟨rs,rfl,hp,hs⟩:=cI hp hs
 rw[BW]
 refine HV (vs:=rs.map L7) (λi F B=>B=σ++[.list (rs.map L7)]/\∃a b,F=[.ref n,.int size,.int room,.int ((rs.take i).foldl (GH size) 0),a,b,.undef]) Aa ⟨rfl,_,_,rfl⟩ (λi v F B R hv hI hR=>?_) λF B hI=>?_
 .obtain⟨rfl,a,b,rfl⟩:=hI
  obtain⟨r,hr,rfl⟩:=List.CA hv
  have hn:(rs.take (i+1)).foldl (GH size) 0=if r.1<(rs.take i).foldl (GH size) 0+size/\r.2>(rs.take i).foldl (GH size) 0 then r.2 else (rs.take i).foldl (GH size) 0:=by
   rw[Pf,hr,List.foldl_append];rfl
  refine Ca (λZ=>?_) λZ=>?_
  .refine Ca (λh2=>?_) λh2=>?_
   .exact hR _ _ Aa ⟨rfl,_,_,by rw[hn,if_pos ⟨Z,h2⟩];rfl⟩
   .exact hR _ _ Aa ⟨rfl,_,_,by rw[hn,if_neg λh=>h2 h.2];rfl⟩
  .exact hR _ _ Aa ⟨rfl,_,_,by rw[hn,if_neg λh=>Z h.1];rfl⟩
 .obtain⟨rfl,a,b,rfl⟩:=hI
  rw[AA,Bz]
  have M:=wA (size:=size) (room:=room) hp hs rfl
  refine Ca (λh=>?_) λh=>?_
  .rw[if_pos h] at M
   exact q _ _ AZ M
  .rw[if_neg h] at M
   exact q _ _ AZ M
theorem Wc{n:Nat}{es:List Int}{size room:Int}(e:σ[n]?=some (.list (es.map .int)))(hz:es.length<63)(q:∀(Z:List Int) k σ',σ<+:σ'->Z.Pairwise (·<·)->(∀x,x∈Z↔x∈0::es.filter λe=>decide (0<e)&&decide (e<=room-size))->σ'[k]?=some (.list (Z.map .int))->Q (.ref k) σ'):callW ER (d+1) 4 [.ref n,.int size,.int room] σ Q X:=by
 refine BG (fn:=iN) rfl rfl ?_
 refine Qh (g:=.int) (λe=>decide (0<e)&&decide (e<=room-size)) (AX e) (AF (A4 hz) (by decide)) (λx hx K hK M=>?_) ?_
 .refine Ca (λB=>?_) λB=>?_
  .refine Ca (λF=>?_) λF=>?_
   .exact hK (by rw[decide_eq_true B,decide_eq_true F];rfl)
   .exact M (by rw[decide_eq_false F,Ie])
  .exact M (by rw[decide_eq_false B];rfl)
 .refine Eb.Pj (AX Aa) Aa ?_ ?_
  .rw[AA]
   exact AF (CO (Cw _ _) _) (AF (CO (A4 hz) _) (by decide))
  .refine MA.set (ns:=0::es.filter λe=>decide (0<e)&&decide (e<=room-size)) Aa ?_ λZ B F=>?_
   .exact Al (C8 (Cw _ _)) (D4 hz)
   .exact q Z _ _ (AZ.trans (AZ.trans (AZ.trans AZ))) B F Aa
theorem ku{n:Nat}{os:List Ot}{W H w h:Int}(e:σ[n]?=some (.list (os.map Ot.v)))(hz:os.length<63)(q:∀r Z,σ<+:Z->N0 (Gd (os.map Ot.low) H W h w) r->NV (os.map Ot.low) r->Q (V7 r) Z):callW ER (d+2) 5 [.ref n,.int W,.int H,.int w,.int h] σ Q X:=by
 refine BG (fn:=au) rfl rfl ?_
 dsimp only[au]
 refine M9 (g:=Ot.v) (λo=>o.u+o.h) .int e (AF (A4 hz) (by decide)) (λx hx K hK=>?_) ?_
 .dsimp only[Ot.v]
  exact hK
 refine Wc Aa (by rw[AA];exact hz) λms k σ₁ M h1 h2 e1=>?_
 have M:=AZ.trans M
 refine HV (λi ρ' Z=>σ₁<+:Z/\(∃a b c,ρ'=[.ref n,.int W,.int H,.int w,.int h,a,b,c,.undef])/\∀r,Kf (os.map Ot.low) H W h w (ms.drop i) r->Kf (os.map Ot.low) H W h w ms r) e1 ⟨A5 _,⟨_,_,_,rfl⟩,λr h=>h⟩ (λi v ρ' Z R hv hI hR=>?_) λρ' Z hI=>?_
 .refine FD hI λB zt1 hS=>EA zt1 λa b c ze2=>?_;subst ze2
  refine AW (List.CA hv) λp hp ze1=>?_;subst ze1
  have hd:ms.drop i=p::ms.drop (i+1):=Tn hp
  rw[hd] at hS
  refine Qh (g:=Ot.v) (λo=>decide (o.u<p+h)&&decide (p<o.u+o.h)) (BP (M.trans B) e) (AF (A4 hz) (by decide)) (λx hx K hK hK'=>?_) ?_
  .dsimp only[Ot.v]
   refine Ca (λh1=>?_) λh1=>?_
   .refine Ca (λh2=>?_) λh2=>?_
    .exact hK (by rw[decide_eq_true h1,decide_eq_true h2];rfl)
    .exact hK' (by rw[decide_eq_false h2,Ie])
   .exact hK' (by rw[decide_eq_false h1];rfl)
  refine M9 (g:=Ot.v) (λo=>(o.l,o.l+o.w)) L7 Aa (AF (Cw _ _) (AF (A4 hz) (by decide))) (λx hx K hK=>?_) ?_
  .dsimp only[Ot.v]
   exact hK
  have hband:(os.filter λo=>decide (o.u<p+h)&&decide (p<o.u+o.h)).map (λo=>(o.l,o.l+o.w))=Ig (Xp h p (os.map Ot.low)):=by
   unfold Ig Xp
   rw[Rj,BW];rfl
  rw[hband]
  refine qc Aa (by rw[<- hband,AA];exact Al (Cw _ _) (ED hz)) λg σ₃ F hg=>?_
  have F:=AZ.trans (AZ.trans F)
  cases g with
  |none=>
   dsimp only[j7]
   exact hR _ _ (BP (B.trans F) e1) ⟨B.trans F,⟨_,_,_,rfl⟩,λr h=>hS r (.miss hg (.inl rfl) h)⟩
  |some s=>
   dsimp only[j7]
   refine Ca (λh3=>?_) λh3=>?_
   .obtain⟨f1,f2⟩:=Ja (hS _ (.hit hg h3)) h1 λx=>by rw[h2,K0,BW];rfl
    exact q _ _ ((M.trans B).trans F) f1 f2
   .exact hR _ _ (BP (B.trans F) e1) ⟨B.trans F,⟨_,_,_,rfl⟩,λr h=>hS r (.miss hg (.inr h3) h)⟩
 .refine FD hI λB zt1 hS=>EA zt1 λa b c ze2=>?_;subst ze2
  rw[AA,EV] at hS
  obtain⟨f1,f2⟩:=Ja (hS _ .nil) h1 λx=>by rw[h2,K0,BW];rfl
  exact q _ _ (M.trans B) f1 f2
theorem YG{n:Nat}{os:List Ot}{W H w h:Int}(e:σ[n]?=some (.list (os.map Ot.v)))(hz:os.length<63)(q:∀r Z,σ<+:Z->N0 (Gd (os.map Ot.b7) W H w h) r->NV (os.map Ot.b7) r->Q (qd r) Z):callW ER (d+2) 6 [.ref n,.int W,.int H,.int w,.int h] σ Q X:=by
 refine BG (fn:=bK) rfl rfl ?_
 dsimp only[bK]
 refine M9 (g:=Ot.v) (λo=>o.l+o.w) .int e (AF (A4 hz) (by decide)) (λx hx K hK=>?_) ?_
 .dsimp only[Ot.v]
  exact hK
 refine Wc Aa (by rw[AA];exact hz) λms k σ₁ M h1 h2 e1=>?_
 have M:=AZ.trans M
 refine HV (λi ρ' Z=>σ₁<+:Z/\(∃a b c,ρ'=[.ref n,.int W,.int H,.int w,.int h,a,b,c,.undef])/\∀r,Kf (os.map Ot.b7) W H w h (ms.drop i) r->Kf (os.map Ot.b7) W H w h ms r) e1 ⟨A5 _,⟨_,_,_,rfl⟩,λr h=>h⟩ (λi v ρ' Z R hv hI hR=>?_) λρ' Z hI=>?_
 .refine FD hI λB zt1 hS=>EA zt1 λa b c ze2=>?_;subst ze2
  refine AW (List.CA hv) λp hp ze1=>?_;subst ze1
  have hd:ms.drop i=p::ms.drop (i+1):=Tn hp
  rw[hd] at hS
  refine Qh (g:=Ot.v) (λo=>decide (o.l<p+w)&&decide (p<o.l+o.w)) (BP (M.trans B) e) (AF (A4 hz) (by decide)) (λx hx K hK hK'=>?_) ?_
  .dsimp only[Ot.v]
   refine Ca (λh1=>?_) λh1=>?_
   .refine Ca (λh2=>?_) λh2=>?_
    .exact hK (by rw[decide_eq_true h1,decide_eq_true h2];rfl)
    .exact hK' (by rw[decide_eq_false h2,Ie])
   .exact hK' (by rw[decide_eq_false h1];rfl)
  refine M9 (g:=Ot.v) (λo=>(o.u,o.u+o.h)) L7 Aa (AF (Cw _ _) (AF (A4 hz) (by decide))) (λx hx K hK=>?_) ?_
  .dsimp only[Ot.v]
   exact hK
  have hband:(os.filter λo=>decide (o.l<p+w)&&decide (p<o.l+o.w)).map (λo=>(o.u,o.u+o.h))=Ig (Xp w p (os.map Ot.b7)):=by
   unfold Ig Xp
   rw[Rj,BW];rfl
  rw[hband]
  refine qc Aa (by rw[<- hband,AA];exact Al (Cw _ _) (ED hz)) λg σ₃ F hg=>?_
  have F:=AZ.trans (AZ.trans F)
  cases g with
  |none=>
   dsimp only[j7]
   exact hR _ _ (BP (B.trans F) e1) ⟨B.trans F,⟨_,_,_,rfl⟩,λr h=>hS r (.miss hg (.inl rfl) h)⟩
  |some s=>
   dsimp only[j7]
   refine Ca (λh3=>?_) λh3=>?_
   .obtain⟨f1,f2⟩:=Ja (hS _ (.hit hg h3)) h1 λx=>by rw[h2,K0,BW];rfl
    exact q _ _ ((M.trans B).trans F) f1 f2
   .exact hR _ _ (BP (B.trans F) e1) ⟨B.trans F,⟨_,_,_,rfl⟩,λr h=>hS r (.miss hg (.inr h3) h)⟩
 .refine FD hI λB zt1 hS=>EA zt1 λa b c ze2=>?_;subst ze2
  rw[AA,EV] at hS
  obtain⟨f1,f2⟩:=Ja (hS _ .nil) h1 λx=>by rw[h2,K0,BW];rfl
  exact q _ _ (M.trans B) f1 f2
theorem Yb{n:Nat}{os:List Ot}{W H w h:Int}(b:Bool)(e:σ[n]?=some (.list (os.map Ot.v)))(Z:os.length<63)(q:∀r B,σ<+:B->OY os W H w h b r->Q (V7 r) B):callW ER (d+3) 7 [.ref n,.tup [.int W,.int H,WG b],.int w,.int h] σ Q X:=by
 refine BG (fn:=kA) rfl rfl ?_
 refine UT ?_
 cases b with
 |true=>
  exact ku e Z λr B p F M=>q r B p ⟨F,M⟩
 |false=>
  refine YG e Z λr B p F M=>?_
  rw[gJ]
  exact q (MC r) B p ⟨by rw[PR];exact F,by rw[PR];exact M⟩
end
section
variable {d:Nat} {σ:Af} {Q:BS} {X:CP}
theorem Yr{n i:Nat}{B:List Sh}{sh:Sh}{x:Int×Int}{t:Bool}(e:σ[n]?=some (.list (B.map Sh.v)))(hi:B[i]?=some sh)(q:Q (.tup ((TX sh.b i x t).map .int)) σ):callW ER (d+1) 1 [.ref n,.tup [.int i,.int x.1,.int x.2,.bool t]] σ Q X:=by
 refine BG (fn:=lK) rfl rfl ?_
 have F:(B.map Sh.v)[(i:Int).toNat]?=some sh.v:=by rw[A6,As,hi];rfl
 obtain⟨W,H,b⟩:=sh
 cases t with
 |true=>
  refine FG e (AQ i) F ?_
  refine UT ?_
  cases b with
  |true=>exact q
  |false=>exact q
 |false=>
  refine FG e (AQ i) F ?_
  refine UT ?_
  cases b with
  |true=>exact q
  |false=>exact q
theorem nK{n i:Nat}{B:List Sh}{sh:Sh}{x y:Int×Int}(e:σ[n]?=some (.list (B.map Sh.v)))(hi:B[i]?=some sh)(q:V6 sh.b y x->Q (.bool true) σ)(F:¬V6 sh.b y x->Q (.bool false) σ) :
  callW ER (d+2) 2 [.ref n,.tup [.int i,.int y.1,.int y.2,.bool true],.tup [.int i,.int x.1,.int x.2,.bool false]] σ Q X:=by
 refine BG (fn:=iY) rfl rfl ?_
 refine Yr e hi ?_
 refine Yr e hi ?_
 refine F6.xx ?_
 by_cases h:V6 sh.b y x
 .rw[Vw.mpr h];exact q h
 .rw[BQ.mpr λz=>h (Vw.mp z)];exact F h
theorem dp{n i k:Nat}{Z:List Sh}{sh:Sh}{os:List Ot}{w h:Int}{turns:Bool}(e:σ[n]?=some (.list (Z.map Sh.v)))(hi:Z[i]?=some sh)(ek:σ[k]?=some (.list (os.map Ot.v)))(hz:os.length<63)(q:∀r σ',σ<+:σ'->fK w h turns sh os r->Q (wo i r) σ'):callW ER (d+4) 8 [.ref n,.int i,.ref k,.int w,.int h,.bool turns] σ Q X:=by
 refine BG (fn:=kY) rfl rfl ?_
 have hv:(Z.map Sh.v)[(i:Int).toNat]?=some sh.v:=by rw[A6,As,hi];rfl
 refine FG e (AQ i) hv ?_
 refine Yb sh.b ek hz λr1 σ₁ B f1=>?_
 have e1:=BP B e
 have ek1:=BP B ek
 cases turns with
 |false=>
  cases r1 with
  |none=>
   exact q none _ B (NZ f1 (λe=>(by injection e)) (λ_=>rfl) .no)
  |some x=>
   exact q (some (x.1,x.2,false)) _ B (NZ f1 (λe=>(by injection e)) (λ_=>rfl) .up)
 |true=>
  cases r1 with
  |none=>
   dsimp only[V7]
   refine FG e1 (AQ i) hv ?_
   refine Yb sh.b ek1 hz λr2 M F f2=>?_
   cases r2 with
   |none=>
    exact q none _ (B.trans F) (NZ f1 (λ_=>f2) (λe=>(nomatch e)) .no)
   |some y=>
    exact q (some (y.1,y.2,true)) _ (B.trans F) (NZ f1 (λ_=>f2) (λe=>(nomatch e)) .turned)
  |some x=>
   dsimp only[V7]
   refine FG e1 (AQ i) hv ?_
   refine Yb sh.b ek1 hz λr2 M F f2=>?_
   cases r2 with
   |none=>
    exact q (some (x.1,x.2,false)) _ (B.trans F) (NZ f1 (λ_=>f2) (λe=>(nomatch e)) .up)
   |some y=>
    refine nK (x:=x) (y:=y) (BP F e1) hi (λhl=>?_) λhl=>?_
    .exact q (some (y.1,y.2,true)) _ (B.trans F) (NZ f1 (λ_=>f2) (λe=>(nomatch e)) (.less hl))
    .exact q (some (x.1,x.2,false)) _ (B.trans F) (NZ f1 (λ_=>f2) (λe=>(nomatch e)) (.more hl))
end
section
variable {d:Nat} {σ:Af} {Q:BS} {X:CP}
theorem UN{n m:Nat}{M:List Sh}{ks:List Nat}{F:List (List Ot)}{w h:Int}{turns:Bool}(e:σ[n]?=some (.list (M.map Sh.v)))(em:σ[m]?=some (.list (ks.map .ref)))(A:Yf σ ks F)(hl:M.length=F.length)(hs:M.length<=1000)(hz:∀os∈F,os.length<63)(q:∀r Z,σ<+:Z->FP (fK w h turns) 0 (M.zip F) r->Q (sL r) Z):callW ER (d+5) 9 [.ref n,.ref m,.int w,.int h,.bool turns] σ Q X:=by
 refine BG (fn:=iE) rfl rfl ?_
 refine Cu.LQ (by assumption) ?_
 rw[AA]
 refine Mm (λi ρ' Z=>σ<+:Z/\(∃a c,ρ'=[.ref n,.ref m,.int w,.int h,.bool turns,a,c,.undef])/\∀r,FP (fK w h turns) i ((M.zip F).drop i) r->FP (fK w h turns) 0 (M.zip F) r) (by exact⟨Im .le (.g (.n 1000000)) .v0 (.l .n0 .v0 .e) rfl (AQ _),Im .le .v0 (.n 1000000) (.l .v0 (.n 1000) .e) rfl (A9.mpr hs)⟩) ⟨A5 _,⟨_,_,rfl⟩,λr h=>h⟩ (λi ρ' Z R hi hI hR=>?_) λρ' Z hI=>?_
 .refine FD hI λB zt1 hF=>FR zt1 λa c ze2=>?_;subst ze2
  have i1:i<M.length:=BH.mp hi
  have i2:i<F.length:=by exact HW .lt .v0 .v1 (.t .v0 .v2 (.q .v2 .v1 .e)) rfl i1 hl
  have i3:i<ks.length:=A.1▸i2
  have hk:=AO i3
  have ho:=AO i2
  have hd:(M.zip F).drop i=(M[i],F[i])::(M.zip F).drop (i+1):=Tn (Hj.mpr ⟨AO i1,ho⟩)
  rw[hd] at hF
  refine FG (v:=.ref ks[i]) (BP B em) (AQ i) (by rw[A6,As,hk];rfl) ?_
  refine dp (BP B e) (AO i1) (BP B (A.2 i _ _ hk ho)) (hz _ (Ae ho)) λr σ₂ p₂ on=>?_
  cases r with
  |none=>
   exact hR _ _ ⟨B.trans p₂,⟨_,_,rfl⟩,λr h=>hF r (.miss on h)⟩
  |some x=>
   exact q (some (_,_,_,_)) _ (B.trans p₂) (hF _ (.hit on))
 .refine FD hI λB zt1 hF=>FR zt1 λa c ze2=>?_;subst ze2
  rw[A6,List.drop_of_length_le (by rw[Mb];exact Ce _ _)] at hF
  exact q none _ B (hF _ .nil)
end
set_option maxHeartbeats 2000000
section
variable {d:Nat} {σ:Af} {Q:BS} {X:CP}
theorem Ug(q:1<=k/\k<=1000000->Q (.bool true) σ)(B:¬(1<=k/\k<=1000000)->Q (.bool false) σ):callW ER (d+1) 14 [.int k] σ Q X:=by
 refine BG (fn:=Xe) rfl rfl ?_
 refine Ca (λh=>?_) λh=>?_
 .by_cases h':k<=1000000
  .refine(?_:Q (.bool _) _);rw[decide_eq_true h'];exact q ⟨h,h'⟩
  .refine(?_:Q (.bool _) _);rw[decide_eq_false h'];exact B λz=>h' z.2
 .exact B λz=>h z.1
theorem rm(hx:x.cps.all (·<128)=true)(hl:x.length<=1000)(q:Bk x=true->∀B,σ<+:B->Q (.bool true) B)(Z:Bk x=false->∀B,σ<+:B->Q (.bool false) B):callW ER (d+1) 15 [.str x] σ Q X:=by
 refine BG (fn:=X5) rfl rfl ?_
 unfold Bk at q Z
 refine Cu.wY ?_
 refine Cu.qS (AF hl (by decide)) ?_
 refine Ca (λF=>?_) λF=>?_
 .refine Ca (λM=>?_) λM=>?_
  .refine jJ (λc=>.bool (decide (c∈signs))) hx hl (λc hc K hK=>?_) ?_
   .refine F6.qA ?_
    exact hK
   .refine Cu.all (bs:=x.cps.toList.map λc=>decide (c∈signs)) (by rw[BW];exact Aa) ?_
    refine(?_:Q (.bool _) _)
    rw[List.all_map]
    cases hb:x.cps.toList.all (id∘λc=>decide (c∈signs)) with
    |true=>exact q (by rw[decide_eq_true (BH.mp F:0<x.length),decide_eq_true (A9.mp M:x.length<=12)];exact hb) _ AZ
    |false=>exact Z (by rw[decide_eq_true (BH.mp F:0<x.length),decide_eq_true (A9.mp M:x.length<=12)];exact hb) _ AZ
  .refine(?_:Q (.bool _) _)
   rw[decide_eq_false M]
   exact Z (by rw[decide_eq_true (BH.mp F:0<x.length),decide_eq_false (λz=>M (A9.mpr z):¬x.length<=12)];rfl) _ (A5 _)
 .exact Z (by rw[decide_eq_false (λz=>F (BH.mpr z):¬0<x.length)];rfl) _ (A5 _)
theorem Sf{e:En}(q:Q e.ot.v σ):callW ER (d+1) 16 [e.box,e.pl] σ Q X:=by
 refine BG (fn:=Xl) rfl rfl ?_
 unfold En.ot at q
 refine jm (λh=>?_) λh=>?_
 .rw[if_pos h] at q
  exact q
 .rw[if_neg (by rw[h];exact BD)] at q
  exact q
theorem l9(e:σ[n]?=some (.list (xs.map Nu.v)))(hs:∀x∈xs,Br x.s=true)(er:σ[r]?=some (.inst 323 m))(em:σ[m]?=some (.ns []))(hm:m≠0)(hz:xs.length<=1000)(q:fL xs->∀F S B P,my m σ F->F[m]?=some (.ns (NY S B P))->F[S]?=some (.list (xs.map Nu.v))->F[B]?=some (.dict 0 [])->F[P]?=some (.dict 0 [])->B≠P->σ.length<=S->σ.length<=B->σ.length<=P->Q .none F)(q':¬fL xs->X 44 σ):callW ER (d+2) 50 [.ref r,.ref n] σ Q X:=by
 refine BG (fn:=YK) rfl rfl ?_
 have no:¬(1<=xs.length/\xs.length<=9)->X 44 σ:=λh=>q' λz=>h z.n
 refine Cu.LQ (by assumption) ?_
 rw[AA]
 refine Ca (λh1=>?_) λh1=>?_
 .refine MK (λh2=>?_) λh2=>?_
  .exact no λz=>by exact vc (.m .v0 (.n 9) (.l .v0 (.n 9) .e)) rfl h2 (A9.mpr z.2)
  refine HV (λi ρ' F=>F=σ/\(∃a b c,ρ'=[.ref r,.ref n,a,b,c,.undef])/\∀x∈xs.take i,x.Good) e ⟨rfl,⟨_,_,_,rfl⟩,λx hx=>by rw[NK] at hx;cases hx⟩ (λi v ρ' F R hv hI hR=>?_) λρ' F hI=>?_
  .refine FD hI λze1 zt2 hg=>EA zt2 λa b c ze3=>?_;subst ze1;subst ze3
   refine AW (List.CA hv) λx hx ze1=>?_;subst ze1
   have M:=Ae hx
   refine Ug (λhw=>?_) λhw=>?_
   .refine Ug (λhh=>?_) λhh=>?_
    .refine ki (hs x M) (λhc=>?_) λhc=>?_
     .refine hR _ _ e ⟨rfl,⟨_,_,_,rfl⟩,λy hy=>?_⟩
      rw[HF hx] at hy
      exact(An.mp hy).elim (hg y) λm=>AM.mp m▸⟨hw,hh,hc⟩
     .exact q' λz=>hc (z.all x M).s
    .exact q' λz=>hh (z.all x M).h
   .exact q' λz=>hw (z.all x M).w
  .refine FD hI λze1 zt2 hg=>EA zt2 λa b c ze3=>?_;subst ze1;subst ze3
   rw[AA,Bz] at hg
   have hlt:∀{x:Nat} {o:O},F[x]?=some o->x<F.length:=λh=>(AP.mp h).1
   have hm':=hlt em
   have hne:m≠r:=λz=>by rw[z,er] at em;cases em
   refine Cu.list (by assumption) ?_
   refine cy.mk (AX er) (AX em) hm (by decide) ?_
   rw[t7]
   refine cy.mk (AX (BO hne (AX er))) (AX (EI (AX em))) hm (Ap rfl) ?_
   rw[rU]
   refine cy.mk (AX (BO hne (AX (BO hne (AX er))))) (AX (EI (AX (EI (AX em))))) hm (Ap rfl) ?_
   rw[sI]
   have l2:∀{τ:Af} {o u:O},((τ++[o]).set m u).length=τ.length+1:=λ{τ o u}=>by rw[Dt,AI];rfl
   refine q ⟨⟨A9.mp h1,A9.mp h2⟩,hg⟩ _ _ _ _ (λx o hx h=>BO (HJ hx) (AX (BO (HJ hx) (AX (BO (HJ hx) (AX h)))))) (EI (AX (EI (AX (EI (AX em)))))) ?_ ?_ ?_ ?_ ?_ ?_ ?_
   .exact BO (by exact λZ=>W0 (.p .v0 .v1 (.t .v0 .v1 .e)) rfl Z hm') (AX (BO (by exact λZ=>W0 (.p .v0 .v1 (.t .v0 .v1 .e)) rfl Z hm') (AX (BO (by exact λZ=>W0 (.p .v0 .v1 (.t .v0 .v1 .e)) rfl Z hm') Aa))))
   .exact BO (by rw[l2];exact λZ=>W0 (.p .v0 (.a .v1 .n1) (.t .v0 .v1 .e)) rfl Z hm') (AX (BO (by rw[l2];exact λZ=>W0 (.p .v0 (.a .v1 .n1) (.t .v0 .v1 .e)) rfl Z hm') Aa))
   .exact BO (by rw[l2,l2];exact λZ=>W0 (.p .v0 (.a (.a .v1 .n1) .n1) (.t .v0 .v1 .e)) rfl Z hm') Aa
   .simp only[Dt,AI,CV];exact λZ=>N6 (.p (.a .v0 .n1) (.a (.a .v0 .n1) .n1) .e) rfl Z
   .exact Az _
   .rw[l2];exact Ec .le .v0 (.a .v0 .n1) .e rfl
   .rw[l2,l2];exact Ec .le .v0 (.a (.a .v0 .n1) .n1) .e rfl
 .exact no λz=>by exact vc (.m .n1 .v0 (.l .n1 .v0 .e)) rfl h1 (A9.mpr z.1)
end
set_option maxHeartbeats 2000000
section
variable {d:Nat} {σ:Af} {Q:BS} {X:CP} {r S B P epB epP:Nat} {shs:List Sh} {es:List En}
theorem aF(R:Rk 323 σ r shs es S B P epB epP)(hs:shs.length<=1000)(E:Oq shs es)(hk:∀s,skip=some s->Br s=true)(h0:0<σ.length)(q:∀kr ks F,σ<+:F->F[kr]?=some (.list (ks.map .ref))->Yf F ks (rowsOf shs.length es skip)->Q (.ref kr) F):callW ER (d+2) 51 [.ref r,kN skip] σ Q X:=by
 refine BG (fn:=Yt) rfl rfl ?_
 refine SA (Rk.at_ (by assumption)) ?_
 refine tG (λi acc F=>F=σ++Dm i (.list [])/\acc=(CL σ.length i).map .ref) R.sh (by rw[AA];exact Ec .le .v0 (.n 1000000) (.l .v0 (.n 1000) .e) rfl hs) ⟨(Bl σ).symm,rfl⟩ (λi v acc F K hv Z hK=>?_) λacc F Z=>?_
 .obtain⟨rfl,rfl⟩:=Z
  refine hK _ _ (AX (AX R.sh)) ⟨?_,?_⟩
  .rw[List.replicate_succ',Aq]
  .rw[List.range'_concat,Ai,AI,List.length_replicate,Rg];rfl
 obtain⟨rfl,rfl⟩:=Z
 rw[AA]
 have e0:Dm shs.length (O.list [])=(rowsOf shs.length (es.take 0) skip).map T8:=by rw[NK,Yj,List.map_replicate];rfl
 rw[e0]
 refine Wf (kU (kU (Rk.at_ (by assumption)))) ?_
 have el:∀j,((rowsOf shs.length (es.take j) skip).map T8).length=shs.length:=λj=>by rw[AA,Fc]
 have eL:(σ++(rowsOf shs.length (es.take 0) skip).map T8).length=σ.length+shs.length:=by rw[AI,el]
 rw[eL]
 refine mI (λj M F=>F=σ++(rowsOf shs.length (es.take j) skip).map T8++[.list ((CL σ.length shs.length).map .ref)]/\∃a b,M=[.ref r,kN skip,.ref (σ.length+shs.length),a,b,.undef]) (AX (AX R.pl)) ⟨rfl,_,_,rfl⟩ (λj p M F R' hp Z hR=>?_) λM F Z=>?_
 .obtain⟨rfl,a,b,rfl⟩:=Z
  refine AW (List.CA hp) λx hx ze1=>?_;subst ze1
  have hm:=Ae hx
  have hn:=E.num x hm
  have Rn:Rk 323 (σ++(rowsOf shs.length (es.take j) skip).map T8++[.list ((CL σ.length shs.length).map .ref)]) r shs es S B P epB epP:=R.keeps (JJ (AZ.trans AZ))
  refine w9 (v:=kN skip) jB ?_
  refine nT (E.str x hm) hk ?_
  refine jm (λh=>?_) λh=>?_
  .refine Wf (Rk.at_ (by assumption)) ?_
   refine KD.dict Rn.pl (LL E.nodup hm) ?_
   refine FG (v:=.ref (σ.length+x.n)) (bX (el j)) (AQ _) (by rw[A6,As,NI hn,Rg];rfl) ?_
   have eg:(σ++(rowsOf shs.length (es.take j) skip).map T8++[.list ((CL σ.length shs.length).map .ref)])[σ.length+x.n]?=some (.list ((Gi (es.take j) skip x.n).map Ot.v)):=aw (by rw[As,Ik hn];rfl)
   refine Kg eg ?_
   refine cU (Rk.at_ (by assumption)) ?_
   refine KD.dict Rn.bx (LL E.nodup hm) ?_
   refine Sf ?_
   refine Gq eg (by exact λz0=>W0 (.q (.a .v0 .v1) .n0 (.t .n0 .v0 .e)) rfl z0 h0) ?_ ?_
   .have:(Gi (es.take j) skip x.n).length<=es.length:=by
     unfold Gi;rw[AA];exact AF (Cw _ _) (by rw[B2];exact C7 _ _)
    rw[AA];exact Al this (B9 E.len (by decide))
   refine hR _ _ ?_ ⟨?_,_,_,rfl⟩
   .rw[bU (by rw[el];exact hn)];exact AX (AX R.pl)
   .rw[bU (by rw[el];exact hn),HF hx,ZG h,List.map_set,show T8 (Gi (es.take j) skip x.n++[x.ot])=.list ((Gi (es.take j) skip x.n).map Ot.v++[x.ot.v]) by rw[T8,Ai];rfl]
  .exact hR _ _ Rn.pl ⟨by rw[HF hx,VU h],_,_,rfl⟩
 .obtain⟨rfl,a,b,rfl⟩:=Z
  have e1:es.take (L3 es).length=es:=by rw[L3,AA,Bz]
  refine q (σ.length+shs.length) (CL σ.length shs.length) _ ?_ ?_ ?_
  .rw[Aq];exact AZ
  .exact bX (el _)
  .rw[e1];exact YD Fc
end
set_option maxHeartbeats 2000000
section
variable {d:Nat} {σ:Af} {Q:BS} {X:CP} {r S B P epB epP:Nat} {shs:List Sh} {es:List En}
theorem Sl(R:Rk 323 σ r shs es S B P epB epP)(hx:x.cps.all (·<128)=true)(hl:x.length<=1000)(q:Bk x=true->CI w->CI h->x∉es.map (·.name)->∀F,σ<+:F->Q .none F)(q1:¬(Bk x=true/\CI w/\CI h)->∀F,σ<+:F->X 56 F)(q2:Bk x=true->CI w->CI h->x∈es.map (·.name)->∀F,σ<+:F->X 68 F):callW ER (d+2) 52 [.ref r,.str x,.int w,.int h] σ Q X:=by
 refine BG (fn:=Yh) rfl rfl ?_
 refine rm hx hl (λM σ1 p=>?_) λM σ1 p=>?_
 .have R1:=R.keeps (JJ p)
  refine Ug (λhw=>?_) λhw=>?_
  .refine Ug (λZ=>?_) λZ=>?_
   .refine cU (Rk.at_ (by assumption)) ?_
    refine F6.inD R1.bx ?_
    rw[LH,Ys]
    refine Ca (λhm=>?_) λhm=>?_
    .exact q2 M hw Z hm _ p
    .exact q M hw Z hm _ p
   .exact q1 (λz=>Z z.2.2) _ p
  .exact q1 (λz=>hw z.2.1) _ p
 .exact q1 (λz=>by rw[z.1] at M;cases M) _ p
theorem aa(R:Rk 323 σ r shs es S B P epB epP)(hn:e.name∉es.map (·.name))(hB:B≠0)(hP:P≠0)(hz:es.length<127)(hBP:B≠P)(q:∀F M,Q .none (stood σ B P F M (es++[e]))):callW ER (d+1) 53 [.ref r,e.box,e.pl] σ Q X:=by
 refine BG (fn:=Yw) rfl rfl ?_
 refine cU (Rk.at_ (by assumption)) ?_
 refine iP.dict R.bx hB (by rw[LH,AA];exact B9 hz (by decide)) λF=>?_
 have eb:=aD (f:=En.box) hn
 have ep:=aD (f:=En.pl) hn
 unfold LH
 rw[eb]
 have R1:JI 323 (σ.set B (.dict F ((es++[e]).map λe=>(e.name,e.box)))) r S B P:=by
  refine AW R.at_.ex λm Z h2=>?_
  exact⟨m,BO (λz=>by rw[<- z,R.bx] at Z;cases Z) Z,BO (λz=>by rw[<- z,R.bx] at h2;cases h2) h2⟩
 refine Wf (by assumption) ?_
 refine iP.dict (BO hBP R.pl) hP (by rw[L3,AA];exact B9 hz (by decide)) λM=>?_
 unfold L3
 rw[ep]
 exact q F M
theorem YH(R:Rk 323 σ r shs es S B P epB epP)(q:x∈es.map (·.name)->Q .none σ)(F:x∉es.map (·.name)->X 92 σ):callW ER (d+1) 56 [.ref r,.str x] σ Q X:=by
 refine BG (fn:=Xo) rfl rfl ?_
 refine cU (Rk.at_ (by assumption)) ?_
 refine F6.wL R.bx ?_
 rw[LH,Ys]
 refine MK (λhm=>?_) λhm=>?_
 .exact F hm
 .exact q hm
theorem bW(R:Rk 323 σ r shs es S B P epB epP)(hn:(es.map (·.name)).Nodup)(hm:e∈es)(q:Q e.pl σ):callW ER (d+2) 58 [.ref r,.str e.name] σ Q X:=by
 refine BG (fn:=UQ) rfl rfl ?_
 dsimp only[UQ]
 refine E6 (Rk.at_ (by assumption)) (by decide +kernel) ?_
 refine YH R (λ_=>?_) λz=>absurd (Ab.mpr ⟨e,hm,rfl⟩) z
 refine Wf (Rk.at_ (by assumption)) ?_
 refine KD.dict R.pl (LL hn hm) ?_
 exact q
theorem qp(R:Rk 323 σ r shs es S B P epB epP)(hn:(es.map (·.name)).Nodup)(hm:e∈es)(q:Q e.box σ):callW ER (d+2) 59 [.ref r,.str e.name] σ Q X:=by
 refine BG (fn:=Uo) rfl rfl ?_
 dsimp only[Uo]
 refine E6 (Rk.at_ (by assumption)) (by decide +kernel) ?_
 refine YH R (λ_=>?_) λz=>absurd (Ab.mpr ⟨e,hm,rfl⟩) z
 refine cU (Rk.at_ (by assumption)) ?_
 refine KD.dict R.bx (LL hn hm) ?_
 exact q
end
set_option maxHeartbeats 2000000
section
variable {d:Nat} {σ:Af} {Q:BS} {X:CP} {r S B P epB epP:Nat} {shs:List Sh} {es:List En}
theorem cz{o x:Ot}(q:Clear x.h x.w x.u x.l o.low->Q (.bool false) σ)(q':¬Clear x.h x.w x.u x.l o.low->Q (.bool true) σ):callW ER (d+1) 10 [o.v,x.v] σ Q X:=by
 refine BG (fn:=X7) rfl rfl ?_
 unfold Clear Ot.low at q q'
 dsimp only at q q'
 refine Ca (λZ=>?_) λZ=>?_
 .exact q (.inr (.inr (.inr Z)))
 .refine Ca (λh2=>?_) λh2=>?_
  .exact q (.inr (.inr (.inl h2)))
  .refine Ca (λF=>?_) λF=>?_
   .by_cases M:x.u<o.u+o.h
    .refine(?_:Q (.bool _) _);rw[decide_eq_true M];exact q' λz=>z.elim (λz=>FI.mpr F z) λz=>z.elim (λz=>FI.mpr M z) λz=>z.elim h2 Z
    .refine(?_:Q (.bool _) _);rw[decide_eq_false M];exact q (by exact .inr (.inl (VD .le (.a .v0 .v1) .v2 (.o .v2 (.a .v0 .v1) .e) rfl M)))
   .refine(?_:Q (.bool _) _);rw[decide_eq_false F];exact q (by exact .inl (VD .le (.a .v0 .v1) .v2 (.o .v2 (.a .v0 .v1) .e) rfl F))
theorem uA{n:Nat}{os:List Ot}{o:Ot}{W H:Int}(e:σ[n]?=some (.list (os.map Ot.v)))(q:Gd (os.map Ot.low) H W o.h o.w o.u o.l->Q (.bool true) σ)(Z:¬Gd (os.map Ot.low) H W o.h o.w o.u o.l->Q (.bool false) σ):callW ER (d+3) 13 [.ref n,o.v,.int W,.int H] σ Q X:=by
 have hin:∀{M:BS},((0<=o.l/\0<=o.u/\o.l+o.w<=W/\o.u+o.h<=H)->M (.bool true) σ)->(¬(0<=o.l/\0<=o.u/\o.l+o.w<=W/\o.u+o.h<=H)->M (.bool false) σ)->callW ER (d+2) 11 [o.v,.int W,.int H] σ M X:=by
  intro M q Z
  refine BG (fn:=XJ) rfl rfl ?_
  refine Ca (λh1=>?_) λh1=>?_
  .refine Ca (λh2=>?_) λh2=>?_
   .refine Ca (λh3=>?_) λh3=>?_
    .by_cases h4:o.u+o.h<=H
     .refine(?_:M (.bool _) _);rw[decide_eq_true h4];exact q ⟨h1,h2,h3,h4⟩
     .refine(?_:M (.bool _) _);rw[decide_eq_false h4];exact Z λz=>h4 z.2.2.2
    .refine(?_:M (.bool _) _);rw[decide_eq_false h3];exact Z λz=>h3 z.2.2.1
   .refine(?_:M (.bool _) _);rw[decide_eq_false h2];exact Z λz=>h2 z.2.1
  .refine(?_:M (.bool _) _);rw[decide_eq_false h1];exact Z λz=>h1 z.1
 have hhit:∀{M:BS},((∀x∈os,Clear o.h o.w o.u o.l x.low)->M .none σ)->(∀i:Nat,¬(∀x∈os,Clear o.h o.w o.u o.l x.low)->M (.int i) σ)->callW ER (d+2) 12 [.ref n,o.v] σ M X:=by
  intro M q Z
  refine BG (fn:=XK) rfl rfl ?_
  refine tR (λi ρ' σ'=>σ'=σ/\(∃a b,ρ'=[.ref n,o.v,a,b,.undef])/\∀x∈os.take i,Clear o.h o.w o.u o.l x.low) e ⟨rfl,⟨_,_,rfl⟩,λx hx=>by rw[NK] at hx;cases hx⟩ (λi v ρ' σ' R hv hI hR=>?_) λρ' σ' hI=>?_
  .refine FD hI λF zt2 hc=>FR zt2 λa b ze3=>?_;subst F;subst ze3
   refine AW (List.CA hv) λx hx F=>?_;subst F
   refine cz (λh=>?_) λh=>?_
   .refine hR _ _ e ⟨rfl,⟨_,_,rfl⟩,λy hy=>?_⟩
    rw[HF hx] at hy
    exact(An.mp hy).elim (hc y) λm=>AM.mp m▸h
   .exact Z i λz=>h (z x (Ae hx))
  .refine FD hI λF zt2 hc=>FR zt2 λa b ze3=>?_;subst F;subst ze3
   rw[AA,Bz] at hc
   exact q hc
 refine BG (fn:=YF) rfl rfl ?_
 refine hin (λh=>?_) λh=>?_
 .refine hhit (λh'=>?_) λi h'=>?_
  .exact q ⟨h.2.1,h.1,h.2.2.2,h.2.2.1,λx hx=>by refine AW (Ab.mp hx) λy hy F=>?_;subst F;exact h' y hy⟩
  .exact Z λg=>h' λx hx=>g.clear x.low (Ab.mpr ⟨x,hx,rfl⟩)
 .exact Z λg=>h ⟨g.s0,g.p0,g.s1,g.p1⟩
theorem q9(R:Rk 323 σ r shs es S B P epB epP)(h63:es.length<63)(hx:x.cps.all (·<128)=true)(hl:x.length<=1000)(hs:shs.length<=1000)(E:Oq shs es)(hB:B≠0)(hP:P≠0)(hBP:B≠P)(q:Bk x=true->CI w->CI h->x∉es.map (·.name)->∀(k:Nat) u l rr M ep1 Z,k<shs.length->σ<+:M->FP (fK w h t) 0 (shs.zip (rowsOf shs.length es none)) (some (k,u,l,rr))->Q (En.pl ⟨x,w,h,t,k,u,l,rr⟩) (stood M B P ep1 Z (es++[⟨x,w,h,t,k,u,l,rr⟩])))(q1:¬(Bk x=true/\CI w/\CI h)->∀M,σ<+:M->X 56 M)(q2:Bk x=true->CI w->CI h->x∈es.map (·.name)->∀M,σ<+:M->X 68 M)(q3:Bk x=true->CI w->CI h->x∉es.map (·.name)->FP (fK w h t) 0 (shs.zip (rowsOf shs.length es none)) none->∀M,σ<+:M->X 80 M):callW ER (d+6) 54 [.ref r,.str x,.int w,.int h,.bool t] σ Q X:=by
 refine BG (fn:=XI) rfl rfl ?_
 refine E6 (Rk.at_ (by assumption)) (by decide +kernel) ?_
 refine Sl R hx hl (λg1 g2 g3 g4 σ1 p1=>?_) q1 q2
 have R1:=R.keeps (JJ p1)
 have h0:0<σ1.length:=by have:=(AP.mp R1.sh).1;exact Dy .lt .n0 .v0 (.t .v1 .v0 .e) rfl this
 (refine SA (Rk.at_ (by assumption)) ?_;refine E6 (Rk.at_ (by assumption)) (by decide +kernel) ?_)
 refine aF (skip:=none) R1 hs E (λ_ h=>by injection h) h0 λkr ks σ2 p2 ek A=>?_
 have R2:=R1.keeps (JJ p2)
 refine UN R2.sh ek A Fc.symm hs (λos ho=>?_) λrr σ3 p3 F=>?_
 .refine AW (Ab.mp ho) λi hi ze1=>?_;subst ze1
  unfold Gi
  rw[AA]
  exact Al (Cw _ _) h63
 have R3:=R2.keeps (JJ p3)
 have pa:=(p1.trans p2).trans p3
 cases rr with
 |none=>
  exact q3 g1 g2 g3 g4 F _ pa
 |some p=>
  obtain⟨n,u,l,tr⟩:=p
  refine DX (gS F) λk ek' hk0 hk=>?_
  dsimp only at ek'
  subst ek'
  refine E6 (Rk.at_ (by assumption)) (by decide +kernel) ?_
  have hkl:k<shs.length:=by rw[Mb,Fc,Nat.min_self] at hk;exact Dy .lt .v0 .v1 (.t .v0 (.a .n0 .v1) .e) rfl hk
  refine aa (e:=⟨x,w,h,t,k,u,l,tr⟩) R3 g4 hB hP E.len hBP λep1 Z=>?_
  exact q g1 g2 g3 g4 k u l tr _ ep1 Z hkl pa F
end
set_option maxHeartbeats 2000000
section
variable {d:Nat} {σ:Af} {Q:BS} {X:CP} {r S B P epB epP:Nat} {shs:List Sh} {es:List En}
theorem Zy{w h n u l:Int}{t tr:Bool}(R:Rk 323 σ r shs es S B P epB epP)(hx:x.cps.all (·<128)=true)(hl:x.length<=1000)(hs:shs.length<=1000)(E:Oq shs es)(hB:B≠0)(hP:P≠0)(hBP:B≠P)(q:Bk x=true->CI w->CI h->x∉es.map (·.name)->∀(k:Nat) M ep1 ep2,n=k->JD shs es none ⟨x,w,h,t,k,u,l,tr⟩->σ<+:M->Q .none (stood M B P ep1 ep2 (es++[⟨x,w,h,t,k,u,l,tr⟩])))(q1:¬(Bk x=true/\CI w/\CI h)->∀M,σ<+:M->X 56 M)(q2:Bk x=true->CI w->CI h->x∈es.map (·.name)->∀M,σ<+:M->X 68 M)(q3:Bk x=true->CI w->CI h->x∉es.map (·.name)->(∀k:Nat,n=k->¬JD shs es none ⟨x,w,h,t,k,u,l,tr⟩)->∀M,σ<+:M->X 80 M) :
  callW ER (d+4) 55 [.ref r,.str x,.int w,.int h,.bool t,.tup [.int n,.int u,.int l,.bool tr]] σ Q X:=by
 refine BG (fn:=UC) rfl rfl ?_
 dsimp only[UC]
 refine kj 3 (λρ' Z=>(Bk x=true/\CI w/\CI h/\x∉es.map (·.name))/\σ<+:Z/\(∃k:Nat,n=k/\k<shs.length)/\(tr=true->t=true)/\ρ'=[.ref r,.str x,.int w,.int h,.bool t,.tup [.int n,.int u,.int l,.bool tr],.int n,.int u,.int l,.bool tr,.undef,.undef,.undef]) (λR' hR'=>?_) λρ' Z hI=>?_
 .dsimp only[QJ]
  refine E6 (Rk.at_ (by assumption)) (by decide +kernel) ?_
  refine Sl R hx hl (λg1 g2 g3 g4 Z F=>?_) q1 q2
  have R₁:=R.keeps (JJ F)
  have q3':=q3 g1 g2 g3 g4
  have hout:(∀k:Nat,n=k->¬k<shs.length)->X 80 Z:=λhh=>q3' (λk ek z=>AW z λsh hsh _=>hh k ek (AP.mp hsh).1) _ F
  refine Ca (λh1=>?_) λh1=>?_
  .refine SA (Rk.at_ (by assumption)) ?_
   refine Cu.LQ R₁.sh ?_
   rw[AA]
   refine MK (λh2=>?_) λh2=>?_
   .exact hout λk ek hk=>h2 (by exact VD .lt .v0 .v1 (.q .v0 .v2 (.t .v2 .v1 .e)) rfl ek (BH.mpr hk))
   .have hk:∃k:Nat,n=k/\k<shs.length:=⟨n.toNat,(EH h1).symm,(Zg h1).mpr h2⟩
    cases tr with
    |true=>
     cases t with
     |true=>exact hR' _ _ ⟨⟨g1,g2,g3,g4⟩,F,hk,λ_=>rfl,rfl⟩
     |false=>exact q3' (λk ek z=>DX z λsh hsh ht _=>BD (ht rfl)) _ F
    |false=>exact hR' _ _ ⟨⟨g1,g2,g3,g4⟩,F,hk,(λh=>by injection h),rfl⟩
  .exact hout λk ek hk=>h1 (by exact O0 .le .n0 .v0 (.p .v0 .v1 (.l .n0 .v1 .e)) rfl ek (AQ _))
 .refine FD hI λzt1 F zh=>FD zh λzt2 ht ze3=>Gx zt1 λg1 g2 g3 g4=>AW zt2 λk ze4 hk=>?_;subst ze3;subst ze4
  have q3':=q3 g1 g2 g3 g4
  have R₁:=R.keeps (JJ F)
  have h0:0<Z.length:=by have:=(AP.mp R₁.sh).1;exact Dy .lt .n0 .v0 (.t .v1 .v0 .e) rfl this
  refine SA (Rk.at_ (by assumption)) ?_
  refine FG (v:=(shs[k]).v) R₁.sh (AQ k) (by rw[A6,As,AO hk];rfl) ?_
  refine E6 (Rk.at_ (by assumption)) (by decide +kernel) ?_
  refine aF (skip:=none) R₁ hs E (λ_ h=>by injection h) h0 λkr ks σ₂ p₂ ek A=>?_
  have R₂:=R₁.keeps (JJ p₂)
  have hkk:ks[k]?=some (ks[k]'(by rw[A.1,Fc];exact hk)):=AO _
  have er:=A.2 k _ _ hkk (Ik hk)
  refine FG (v:=.ref (ks[k]'(by rw[A.1,Fc];exact hk))) ek (AQ k) (by rw[A6,As,hkk];rfl) ?_
  refine Sf (e:=⟨x,w,h,t,k,u,l,tr⟩) ?_
  refine uA er (λg=>?_) λg=>?_
  .refine E6 (Rk.at_ (by assumption)) (by decide +kernel) ?_
   refine aa (e:=⟨x,w,h,t,k,u,l,tr⟩) R₂ g4 hB hP E.len hBP λep1 ep2=>?_
   exact q g1 g2 g3 g4 k _ ep1 ep2 rfl ⟨shs[k],AO hk,ht,g⟩ (F.trans p₂)
  .refine q3' (λk' ek' z=>DX z λsh hsh _ g'=>?_) _ (F.trans p₂)
   have:k'=k:=(EN ek').symm
   subst this
   dsimp only at hsh g'
   rw[AO hk] at hsh
   have zq:=AG hsh;subst zq
   exact g g'
theorem WR (R:Rk 323 σ r shs es S B P epB epP) (E:Oq shs es) (tw:HE (es.map (En.key shs))) (t:TabAt 294 σ 181 39 Lz)
    (q:∀(p:List Nat) m F,my 1 σ F->TabAt 294 F 181 39 Lz->p.Perm (Ar es.length)->p.Pairwise (LZ (es.map (En.key shs)))->F[m]?=some (.list (p.map λi=>.str ((es.map (·.name)).getD i "")))->σ.length<=m->Q (.ref m) F):callW ER (d+2) 61 [.ref r] σ Q X:=by
  refine BG (fn:=XR) rfl rfl ?_
  refine Wf (Rk.at_ (by assumption)) ?_
  have ei:(L3 es).map (λp=>V.str p.1)=es.map λe=>V.str e.name:=by rw[L3,BW];rfl
  refine⟨_,.dict (R.wJ t) R.pl,by rw[AA,L3,AA];exact ED E.len,t.w λm F kp em e1=>?_⟩
  have R':=R.RT t kp
  rw[ei]
  refine cQ (g:=λe:En=>V.str e.name) (λe=>.tup ((e.key shs).map .int)) es [] (λe hm K hK=>⟨em,?_⟩) ?_
  . (refine SA (Rk.at_ (by assumption)) ?_;refine Wf (Rk.at_ (by assumption)) ?_)
    refine KD.dict R'.pl (LL E.nodup hm) ?_
    have hn:=E.num e hm
    refine Yr (x:=(e.u,e.l)) (sh:=shs[e.n]) R'.sh (AO hn) ?_
    unfold En.key at hK
    rw[Ay,AO hn] at hK
    exact hK
  . refine⟨es.map (En.key shs),by rw[BW];rfl,λr hr=>by refine AW (Ab.mp hr) λe _ Z=>?_;subst Z;exact rM,tw,λp hp ho=>?_⟩
    rw[AA] at hp
    have M:σ.length<=F.length:=RU λz=>by
      have h1:=(AP.mp e1).1
      have hx:=AO (l:=σ) (i:=F.length) z
      have:=(AP.mp (kp _ _ (by exact λz0=>N6 (.q .v0 .n1 (.t .n1 .v0 .e)) rfl z0 h1) hx)).1
      exact FA _ this
    refine q p _ _ (λx o hx h=>AX (kp x o hx h)) (.row m (AX e1) (AX em)) hp ho ?_ M
    rw[Aa]
    refine congrArg (λl=>some (O.list l)) (CZ λi hi=>?_)
    have hi':i<es.length:=Dl.mp (hp.mem_iff.mp hi)
    rw[Ay,Ay,As,As,AO hi'];rfl
theorem Zq(R:Rk 323 σ r shs es S B P epB epP)(E:Oq shs es)(tw:HE (es.map (En.key shs)))(t:TabAt 294 σ 181 39 Lz)(q:∀(p:List Nat) m F,my 1 σ F->TabAt 294 F 181 39 Lz->p.Perm (Ar es.length)->p.Pairwise (LZ (es.map (En.key shs)))->F[m]?=some (.list (p.map λi=>.str ((es.map (·.name)).getD i "")))->Q (.ref m) F):callW ER (d+2) 61 [.ref r] σ Q X:=
 WR R E tw t λp m F M Z h3 h4 h5 _=>q p m F M Z h3 h4 h5
end
set_option maxHeartbeats 2000000
section
variable {d:Nat} {σ:Af} {Q:BS} {X:CP} {n:Nat}
theorem Jz(ha:ND w)(hz:w.length<=Cb)(q:∀i,HR w=some i->∀F,σ<+:F->Q (.int i) F)(q':HR w=none->∀F,σ<+:F->X 104 F):callW ER (d+1) 19 [.str w] σ Q X:=by
 refine BG (fn:=Xr) rfl rfl ?_
 have el:w.cps.toList.length=w.length:=A1
 have no:H9 w.cps.toList=false->∀F,σ<+:F->X 104 F:=λh=>q' (by unfold HR;rw[h];rfl)
 have B:H9 w.cps.toList=(decide (0<w.length)&&(decide (w.length<=7)&&(w.cps.toList.all (λc=>decide (c∈Qu))&&!(decide (w.cps.toList.head?=some 48)&&decide (1<w.length))))):=by unfold H9;rw[el]
 refine Cu.qS hz ?_
 refine Ca (λh1=>?_) λh1=>?_
 .refine MK (λh2=>?_) λh2=>?_
  .exact no (by rw[B,decide_eq_false (λz=>h2 (A9.mpr z):¬w.length<=7),Kc,Ie]) _ (A5 _)
  .have h7:w.length<=7:=A9.mp h2
   have h0:0<w.length:=BH.mp h1
   refine jJ (λc=>.bool (decide (c∈Qu))) ha (AF h7 (by decide)) (λc M K hK=>?_) ?_
   .refine F6.qA ?_
    exact hK
   refine Cu.all (bs:=w.cps.toList.map λc=>decide (c∈Qu)) (by rw[BW];exact Aa) ?_
   rw[List.all_map]
   have hall:w.cps.toList.all (id∘λc=>decide (c∈Qu))=w.cps.toList.all λc=>decide (c∈Qu):=rfl
   rw[hall]
   rw[decide_eq_true h0,decide_eq_true h7,Hy,Hy] at B
   cases hb:w.cps.toList.all λc=>decide (c∈Qu) with
   |false=>rw[hb] at B;exact no B _ AZ
   |true=>
    rw[hb,Hy] at B
    obtain⟨c,r,M⟩:∃c r,w.cps.toList=c::r:=by
     cases e:w.cps.toList with
     |nil=>rw[e] at el;exact absurd (el▸h0:0<([]:List Nat).length) (FA 0)
     |cons c r=>exact⟨c,r,rfl⟩
    have Z:w.cps[0]?=some c:=by rw[<- BA,M];rfl
    refine KD.str (j:=0) (by decide) (.inl ⟨rfl,h0⟩) Z ?_
    rw[M] at B
    have hc7:ND (sign c):=by
     have:=Ct.mp ha c (by rw[M];exact AL)
     exact Ct.mpr λx hx=>by cases AM.mp hx;exact this
    have fin:H9 w.cps.toList=true->∀F,σ<+:F->Cu F (λv σ1=>Q v σ1) .int [.str w]:=λh F p=>by
     have:=nf h
     refine Cu.wM this.1 this.2 (q _ ?_ _ p)
     unfold HR;rw[if_pos h]
    refine Ky hc7.ok (by decide +kernel) (λh3=>?_) λh3=>?_
    .have h48:c=48:=by
      have:=congrArg (λs:Str=>s.cps.toList) h3
      have e0:(AH "0").cps.toList=[48]:=by decide +kernel
      rw[e0] at this
      exact Wy this
     refine Cu.qS hz ?_
     rw[show decide ((c::r).head?=some 48)=true from decide_eq_true (congrArg some h48),Hy] at B
     refine Ca (λh4=>?_) λh4=>?_
     .rw[decide_eq_true (BH.mp h4:1<w.length)] at B
      exact no (M▸B) _ AZ
     .rw[decide_eq_false (λz=>h4 (BH.mpr z):¬1<w.length)] at B
      exact fin (M▸B) _ AZ
    .rw[show decide ((c::r).head?=some 48)=false from decide_eq_false λz=>h3 (by rw[show c=48 from AG z];decide +kernel),Kc] at B
     exact fin (M▸B) _ AZ
 .exact no (by rw[B,decide_eq_false (λz=>h1 (BH.mpr z):¬0<w.length),Kc]) _ (A5 _)
theorem nU:(!([PyData.str y,.str z].any λp=>Le p (.str w)))=!((y==w)||(z==w)):=by
 rw[Fu,Fu,List.any_nil,Mq,Mq,OP]
theorem af(M:ND w)(hy:ND y)(B:ND z)(q:w≠y->w≠z->K true)(F:w=y\/w=z->K false):F6 σ K .NotIn (.str w) (.tup [.str y,.str z]):=by
 refine .uM (x:=.str w) (ys:=[.str y,.str z]) rfl rfl M.ok ?_ ?_
 .refine(?_:(Br y&&(Br z&&true))=true)
  rw[hy.ok,B.ok];rfl
 rw[nU]
 by_cases h:w=y\/w=z
 .rw[show ((y==w)||(z==w))=true from GA.mpr (h.imp (λe=>beq_iff_eq.mpr e.symm) λe=>beq_iff_eq.mpr e.symm)]
  exact F h
 .rw[show ((y==w)||(z==w))=false from JX.mpr ⟨beq_eq_false_iff_ne.mpr λe=>h (.inl e.symm),beq_eq_false_iff_ne.mpr λe=>h (.inr e.symm)⟩]
  exact q (λe=>h (.inl e)) λe=>h (.inr e)
theorem Vk(M:ND w)(hy:ND y)(Z:ND z)(q:∀b,dR w y z=some b->Q (.bool b) σ)(F:dR w y z=none->X 104 σ):callW ER (d+1) 20 [.str w,.str y,.str z] σ Q X:=by
 refine BG (fn:=Xw) rfl rfl ?_
 unfold dR at q F
 refine af M hy Z (λB h2=>?_) λh=>?_
 .rw[if_neg B,if_neg h2] at F
  exact F rfl
 .refine Ky M.ok hy.ok (λB=>?_) λB=>?_
  .exact q true (if_pos B)
  .exact q false ((if_neg B).trans (if_pos (h.resolve_left B)))
structure w4(ws:List Str):Prop where
 asc:∀w∈ws,ND w
 len:∀w∈ws,w.length<=Cb
theorem pg(e:σ[n]?=some (.list (ws.map .str)))(hw:w4 ws)(q:∀s,aQ ws=some s->∀B,σ<+:B->Q s.v B)(q':aQ ws=none->∀B,σ<+:B->X 104 B):callW ER (d+2) 21 [.ref n] σ Q X:=by
 refine BG (fn:=YU) rfl rfl ?_
 refine Cu.LQ e ?_
 rw[AA]
 refine MK (λF=>?_) λF=>?_
 .exact q' (Ue λz=>F (congrArg Int.ofNat z)) _ (A5 _)
 obtain⟨a,b,c,h,rfl⟩:=vr (EN F:ws.length=4)
 have Z:=λ(w:Str) (m:w∈[a,b,c,h])=>hw.asc w m
 have hl:=λ(w:Str) (m:w∈[a,b,c,h])=>hw.len w m
 refine Eg (v:=.str h) e rfl rfl ?_
 have no:(∀s,mw b c h≠some s)->∀B,σ<+:B->X 104 B:=λz=>q' (Fx z)
 refine af (Z h (by simp)) (by decide +kernel) (by decide +kernel) (λM h3=>?_) λM=>?_
 .exact no (λs e=>(Ku e).1.elim M h3) _ (A5 _)
 refine Eg (v:=.str b) e rfl rfl ?_
 refine Jz (Z b (by simp)) (hl b (by simp)) (λx hx σ1 p1=>?_) λhx σ1 p1=>no (λs e=>(Ku e).2.1 hx) _ p1
 refine Eg (v:=.str c) (BP p1 e) rfl rfl ?_
 refine Jz (Z c (by simp)) (hl c (by simp)) (λy hy σ2 p2=>?_) λhy σ2 p2=>no (λs e=>(Ku e).2.2 hy) _ (p1.trans p2)
 refine Eg (v:=.str h) (BP (p1.trans p2) e) rfl rfl ?_
 exact q _ (rO M hx hy) _ (p1.trans p2)
theorem nj(e:σ[n]?=some (.list (ws.map .str)))(hw:w4 ws)(q:∀s,Qw ws=some s->∀B,σ<+:B->Q s.v B)(q':Qw ws=none->∀B,σ<+:B->X 104 B):callW ER (d+2) 22 [.ref n] σ Q X:=by
 refine BG (fn:=YO) rfl rfl ?_
 refine Cu.LQ e ?_
 rw[AA]
 refine MK (λh1=>?_) λh1=>?_
 .exact q' (N9 λz=>h1 (congrArg Int.ofNat z)) _ (A5 _)
 obtain⟨k,x,a,b,t,m,u,l,r,rfl⟩:=qH (EN h1:ws.length=9)
 have M:=λ(i:Nat) (w:Str) (m:[k,x,a,b,t,m,u,l,r][i]?=some w)=>hw.asc w (Ae m)
 have hl:=λ(i:Nat) (w:Str) (m:[k,x,a,b,t,m,u,l,r][i]?=some w)=>hw.len w (Ae m)
 have no:(∀s,bN k x a b t m u l r≠some s)->∀B,σ<+:B->X 104 B:=λz=>q' (Fx z)
 refine Eg (v:=.str k) e rfl rfl ?_
 refine QM (M 0 k rfl).ok (by decide +kernel) (λh2=>?_) λh2=>?_
 .exact no (λs e=>h2 (EY e).1.1) _ (A5 _)
 refine Eg (v:=.str x) e rfl rfl ?_
 refine Ky (M 1 x rfl).ok (by decide +kernel) (λh3=>?_) λh3=>?_
 .exact no (λs e=>(EY e).1.2 h3) _ (A5 _)
 refine Eg (v:=.str t) e rfl rfl ?_
 refine Vk (M 4 t rfl) (by decide +kernel) (by decide +kernel) (λt' ht=>?_) λht=>no (λs e=>(EY e).2.1 ht) _ (A5 _)
 refine Eg (v:=.str m) e rfl rfl ?_
 refine Jz (M 5 m rfl) (hl 5 m rfl) (λn' hn σ1 p1=>?_) λhi σ1 p1=>no (λs e=>(EY e).2.2.1 hi) _ p1
 refine Eg (v:=.str u) (BP p1 e) rfl rfl ?_
 refine Jz (M 6 u rfl) (hl 6 u rfl) (λu' hu σ2 p2=>?_) λhi σ2 p2=>no (λs e=>(EY e).2.2.2.1 hi) _ (p1.trans p2)
 have p2:=p1.trans p2
 refine Eg (v:=.str l) (BP p2 e) rfl rfl ?_
 refine Jz (M 7 l rfl) (hl 7 l rfl) (λl' hl' σ3 F=>?_) λhi σ3 F=>no (λs e=>(EY e).2.2.2.2.1 hi) _ (p2.trans F)
 have F:=p2.trans F
 refine Eg (v:=.str r) (BP F e) rfl rfl ?_
 refine Vk (M 8 r rfl) (by decide +kernel) (by decide +kernel) (λr' hr=>?_) λhr=>no (λs e=>(EY e).2.2.2.2.2.1 hr) _ F
 refine Eg (v:=.str x) (BP F e) rfl rfl ?_
 refine Eg (v:=.str a) (BP F e) rfl rfl ?_
 refine Jz (M 2 a rfl) (hl 2 a rfl) (λw' hw' σ4 Z=>?_) λhi σ4 Z=>no (λs e=>(EY e).2.2.2.2.2.2.1 hi) _ (F.trans Z)
 have Z:=F.trans Z
 refine Eg (v:=.str b) (BP Z e) rfl rfl ?_
 refine Jz (M 3 b rfl) (hl 3 b rfl) (λh' hh σ5 p5=>?_) λhi σ5 p5=>no (λs e=>(EY e).2.2.2.2.2.2.2 hi) _ (Z.trans p5)
 exact q _ (sT ⟨h2,h3⟩ ht hn hu hl' hr hw' hh) _ (Z.trans p5)
end
set_option maxHeartbeats 2000000
section
variable {d:Nat} {σ:Af} {Q:BS} {X:CP} {n:Nat}
structure cY(x:Str):Prop where
 asc:ND x
 len:x.length<Cb
 rows:(FT x).length<=1000
 nt:∀xs bs,Gf x=some (xs,bs)->bs.length<127/\∀b∈bs,b.name.length<=1000
theorem cY.row(h:cY x)(m:r∈FT x):ND r/\r.length<Cb:=by
 have:=Mi (List.dropLast_subset _ m)
 exact⟨this.1 h.asc,Al this.2 h.len⟩
theorem cY.yD(h:cY x)(m:r∈FT x):w4 (wordsOf r):=⟨λw B=>(Mi B).1 (h.row m).1,λw B=>AF (Mi B).2 (A4 (h.row m).2)⟩
inductive qz(σ:Af)(x:Str)(n i:Nat):List V->Af->Prop
 |mk (xs:List Nu) (bs:List Nt) (a b:V) (σ':Af):σ<+:σ'->Fw (((FT x).take i).map wordsOf) ([],[])=some (xs,bs)->σ'[σ.length]?=some (.list (xs.map Nu.v))->σ'[σ.length+1]?=some (.list (bs.map Nt.v))->σ'[n]?=some (.list ((FT x).map .str))->xs.length+bs.length=i->qz σ x n i [.str x,.ref σ.length,.ref (σ.length+1),a,b,.undef,.undef,.undef,.undef,.undef,.undef,.undef] σ'
theorem pL(hx:cY x)(h0:0<σ.length)(hr:∀a b xs bs B,σ<+:B->KL x (sign 10)=true->Fw ((FT x).map wordsOf) ([],[])=some (xs,bs)->B[σ.length]?=some (.list (xs.map Nu.v))->B[σ.length+1]?=some (.list (bs.map Nt.v))->R [.str x,.ref σ.length,.ref (σ.length+1),a,b,.undef,.undef,.undef,.undef,.undef,.undef,.undef] B)(q':Gf x=none->∀ρ B,σ<+:B->Pq (.exc 104) ρ B):Ek (QR.body.take 4) (callW ER (d+2)) [.str x,.undef,.undef,.undef,.undef,.undef,.undef,.undef,.undef,.undef,.undef,.undef] σ (L4 R Pq):=by
 dsimp only[QR,QJ]
 refine Cu.wY ?_
 refine ah.mk ?_
 refine(?_:W2 _ _ (!_))
 cases he:KL x (sign 10) with
 |false=>exact q' (by unfold Gf;rw[he];rfl) _ _ (A5 _)
 |true=>
 have hn:Fw ((FT x).map wordsOf) ([],[])=none->Gf x=none:=λh=>by unfold Gf;rw[if_pos he,h];rfl
 refine Na.mk hx.len ?_
 refine J0.list Aa .no (.neg (by decide) (by decide) rfl) ?_
 rw[V8,<- List.map_dropLast]
 have e1:(σ++[O.list []]++[O.list []])[σ.length+1]?=some (.list []):=by have:=Aa (σ:=σ++[O.list []]) (o:=O.list []);rw[AI] at this;exact this
 have en:(σ++[O.list []]++[O.list []]++[O.list ((EG x (sign 10)).map V.str)]).length=σ.length+3:=by rw[AI,AI,AI];rfl
 have eL:(σ++[O.list []]++[O.list []]++[O.list ((EG x (sign 10)).map V.str)]++[O.list ((FT x).map V.str)])[σ.length+3]?=some (.list ((FT x).map V.str)):=en▸Aa
 have e2:(σ++[O.list []]).length=σ.length+1:=by rw[AI];rfl
 refine(?_:∃items same,Ko _ _ _ items same/\Nb _ same items [.str x,.ref σ.length,.ref (σ++[O.list []]).length,.undef,.undef,.undef,.undef,.undef,.undef,.undef,.undef,.undef] _ _)
 rw[en,e2]
 refine HV (qz σ x (σ.length+3)) eL (.mk [] [] _ _ _ (((AZ.trans AZ).trans AZ).trans AZ) rfl (AX (AX (AX Aa))) (AX (AX e1)) eL rfl) (λi v ρ' B R' hv hI hR=>?_) λρ' B hI=>?_
 .cases hI with | mk xs bs a b B p Z ea eb ec F=>
  refine AW (List.CA hv) λr hri ze1=>?_;subst ze1
  have hm:r∈FT x:=Ae hri
  have hi:i<1000:=Ac (AP.mp hri).1 hx.rows
  have step:Fw (((FT x).take (i+1)).map wordsOf) ([],[])=GC (xs,bs) (wordsOf r):=by rw[HF hri,Ai,FJ,Z];show (GC (xs,bs) (wordsOf r)).bind (Fw [])=_;cases GC (xs,bs) (wordsOf r) <;> rfl
  have bad:GC (xs,bs) (wordsOf r)=none->∀ρ σ'',σ<+:σ''->Pq (.exc 104) ρ σ'':=λh=>q' (hn (Y9 (i:=i+1) (by rw[<- JR];exact step.trans h)))
  refine Na.mk (hx.row hm).2 ?_
  obtain⟨w,ws,ew⟩:∃w ws,wordsOf r=w::ws:=by
   cases e:wordsOf r with
   |nil=>exact absurd e (VN r 32)
   |cons w ws=>exact⟨w,ws,rfl⟩
  have ew':(B++[O.list ((EG r (sign 32)).map V.str)])[B.length]?=some (.list ((wordsOf r).map V.str)):=Aa
  have hwd:=hx.yD hm
  refine Eg (v:=.str w) Aa rfl (by refine(?_:(Li V.str (wordsOf r))[0]?=_);rw[ew];rfl) ?_
  have hne:σ.length≠σ.length+1:=Bo (EZ _)
  have box:¬((wordsOf r).head?=some "shelf"/\bs=[])->Mv (AD 2) (A2 22 [AD 4]) (callW ER (d+2)) [.str x,.ref σ.length,.ref (σ.length+1),.str r,.ref B.length,.undef,.undef,.undef,.undef,.undef,.undef,.undef] (B++[O.list ((EG r (sign 32)).map V.str)]) (λ_ M=>R' [.str x,.ref σ.length,.ref (σ.length+1),.str r,.ref B.length,.undef,.undef,.undef,.undef,.undef,.undef,.undef] M) (λc M=>Pq (.exc c) [.str x,.ref σ.length,.ref (σ.length+1),.str r,.ref B.length,.undef,.undef,.undef,.undef,.undef,.undef,.undef] M):=λhc=>by
   have es:GC (xs,bs) (wordsOf r)=(Qw (wordsOf r)).map λb=>(xs,bs++[b]):=if_neg hc
   refine Kg (AX eb) ?_
   refine nj ew' hwd (λs hs M p1=>?_) λhs M p1=>?_
   .refine Gq (BP (AZ.trans p1) eb) (DS _) (by rw[AA];exact Al (AF (DP _ _) (CK F)) (B9 hi (by decide))) ?_
    refine hR _ _ (BO (by exact λz0=>N6 (.q (.a .v0 .n3) (.a .v0 .n1) .e) rfl z0.symm) (BP (AZ.trans p1) ec)) (.mk xs (bs++[s]) _ _ _ (LC (p.trans (AZ.trans p1)) (Cx _)) (by rw[step,es,hs];rfl) (BO hne.symm (BP (AZ.trans p1) ea)) ?_ (BO (by exact λz0=>N6 (.q (.a .v0 .n3) (.a .v0 .n1) .e) rfl z0.symm) (BP (AZ.trans p1) ec)) (by rw[AI,<- Ed,F];rfl))
    rw[EI (BP (AZ.trans p1) eb),Ai];rfl
   .exact bad (by rw[es,hs];rfl) _ _ (p.trans (AZ.trans p1))
  refine Ky (hwd.asc w (by rw[ew];exact AL)).ok (by decide +kernel) (λh1=>?_) λh1=>?_
  .refine Cu.LQ (AX eb) ?_
   rw[AA]
   refine Ca (λh2=>?_) λh2=>?_
   .have hb:bs=[]:=By.mp (EN h2)
    have es:GC (xs,bs) (wordsOf r)=(aQ (wordsOf r)).map λs=>(xs++[s],bs):=if_pos ⟨by rw[ew,h1];rfl,hb⟩
    refine Kg (AX ea) ?_
    refine pg ew' hwd (λs hs M p1=>?_) λhs M p1=>?_
    .refine Gq (BP (AZ.trans p1) ea) (Bu h0) (by rw[AA];exact Al (AF (A0 _ _) (CK F)) (B9 hi (by decide))) ?_
     refine hR _ _ (BO (by exact λz0=>N6 (.q (.a .v0 .n3) .v0 .e) rfl z0.symm) (BP (AZ.trans p1) ec)) (.mk (xs++[s]) bs _ _ _ (LC (p.trans (AZ.trans p1)) (Az _)) (by rw[step,es,hs];rfl) ?_ (BO hne (BP (AZ.trans p1) eb)) (BO (by exact λz0=>N6 (.q (.a .v0 .n3) .v0 .e) rfl z0.symm) (BP (AZ.trans p1) ec)) (by rw[AI,DY,F];rfl))
     rw[EI (BP (AZ.trans p1) ea),Ai];rfl
    .exact bad (by rw[es,hs];rfl) _ _ (p.trans (AZ.trans p1))
   .exact box λz=>h2 (by rw[z.2];rfl)
  .exact box λz=>h1 (by have:=z.1;rw[ew] at this;exact AG this)
 .cases hI with | mk xs bs a b B p Z ea eb ec F=>
  rw[AA,Bz] at Z
  exact hr _ _ xs bs B p he Z ea eb
end
set_option maxHeartbeats 2000000
section
variable {d:Nat} {σ:Af} {Q:BS} {X:CP} {n:Nat}
inductive qk(σ:Af)(ss:List Sh)(bs:List Nt)(n r S B P:Nat)(v0 v1 v2 v3 v4:V)(i:Nat):List V->Af->Prop
 |mk (es:List En) (ep1 ep2:Nat) (a6 a7 a8 a9 a10:V) (σ':Af):σ<+:σ'->Hh ss [] (bs.take i) (.ok es)->Rk 323 σ' r ss es S B P ep1 ep2->σ'[n]?=some (.list (bs.map Nt.v))->qk σ ss bs n r S B P v0 v1 v2 v3 v4 i [v0,v1,v2,v3,v4,.ref r,a6,a7,a8,a9,a10,.undef] σ'
theorem Zp{B:Type}{l:List B}{i k:Nat}(h:l.length<k):(l.take i).length<k:=Al (NL ..) h
theorem qX{b:Nt}{k:Nat}(B:b.n=k):b.en=⟨b.name,b.w,b.h,b.t,k,b.u,b.l,b.r⟩:=by unfold Nt.en;rw[B,A6]
theorem pS{ss:List Sh}{bs:List Nt}{r S B P ep1 ep2:Nat}{v0 v1 v3 v4 a6 a7 a8 a9 a10:V}{Pq:HT}{σ₀:Af}(p₀:σ₀<+:σ)(hn:σ₀.length<=n)(R:Rk 323 σ r ss [] S B P ep1 ep2)(en:σ[n]?=some (.list (bs.map Nt.v)))(hB:σ₀.length<=B)(hP:σ₀.length<=P)(h0:0<σ₀.length)(hBP:B≠P)(hss:ss.length<=9)(hl:bs.length<127)(hb:∀b∈bs,ND b.name/\b.name.length<=1000)(q:∀es ep1 ep2 a6 a7 a8 a9 a10 F,Hh ss [] bs (.ok es)->Oq ss es->σ₀<+:F->Rk 323 F r ss es S B P ep1 ep2->Pq .next [v0,v1,.ref n,v3,v4,.ref r,a6,a7,a8,a9,a10,.undef] F)(q':∀k,Hh ss [] bs (.error k)->∀ρ F,σ₀<+:F->Pq (.exc k) ρ F) :
  Hz (.tup [6,7,8,9,10]) .plain [AD 2] [Eh (FO 323 "put_at" 55 (AD 5) [AD 6,AD 7,AD 8,AD 9,AD 10])] (callW ER (d+4)) [v0,v1,.ref n,v3,v4,.ref r,a6,a7,a8,a9,a10,.undef] σ Pq:=by
 refine HV (qk σ₀ ss bs n r S B P v0 v1 (.ref n) v3 v4) en (.mk [] ep1 ep2 _ _ _ _ _ _ p₀ .nil R en) (λi v ρ' F R' hv hI hR=>?_) λρ' F hI=>?_
 .cases hI with | mk es e1 e2 a6 a7 a8 a9 a10 F p hp R en=>
  refine AW (List.CA hv) λb hbi ze1=>?_;subst ze1
  have hm:=Ae hbi
  have E:=(VP hp ⟨GF,λ_ h=>(nomatch h),λ_ h=>(nomatch h),by decide⟩ (by rw[Gk,Be];exact Zp hl)).1
  have tk:bs=bs.take (i+1)++bs.drop (i+1):=(Gp _ _).symm
  have bad:∀k,OV ss es b (.error k)->∀ρ F,σ₀<+:F->Pq (.exc k) ρ F:=λk h=>q' k (by rw[tk,HF hbi];exact Sk (NQ hp h))
  refine(?_:X1 F 323 "put_at" (.ref r)/\_)
  refine E6 R.at_ (by decide +kernel) ?_
  refine Zy R (hb b hm).1 (hb b hm).2 (AF hss (by decide)) E (Bu (Ac h0 hB)) (Bu (Ac h0 hP)) hBP (λg1 g2 g3 g4 k Z ep1 ep2 hk hc M=>?_) (λg Z M=>?_) (λg1 g2 g3 g4 Z M=>?_) λg1 g2 g3 g4 g5 Z M=>?_
  .rw[<- qX hk] at hc ⊢
   have hnB:B≠n:=λz=>by have:=R.bx;rw[z,en] at this;cases this
   have hnP:P≠n:=λz=>by have:=R.pl;rw[z,en] at this;cases this
   have en':(stood Z B P ep1 ep2 (es++[b.en]))[n]?=some (.list (bs.map Nt.v)):=BO hnP (BO hnB (BP M en))
   refine hR _ _ en' (.mk (es++[b.en]) ep1 ep2 _ _ _ _ _ _ (LC (LC (p.trans M) hB) hP) (by rw[HF hbi];exact NQ hp (.ok k g1 g2 g3 g4 hk hc)) ((R.keeps (JJ M)).stood hBP ep1 ep2) en')
  .exact bad 56 (.box g) _ _ (p.trans M)
  .exact bad 68 (.twice g1 g2 g3 g4) _ _ (p.trans M)
  .exact bad 80 (.room g1 g2 g3 g4 λk hk hc=>g5 k hk (qX hk▸hc)) _ _ (p.trans M)
 .cases hI with | mk es e1 e2 a6 a7 a8 a9 a10 F p hp R en=>
  rw[AA,Bz] at hp
  exact q es e1 e2 _ _ _ _ _ F hp (VP hp ⟨GF,λ_ h=>(nomatch h),λ_ h=>(nomatch h),by decide⟩ (by rw[Gk,Be];exact hl)).1 p R
theorem T3(hx:cY x)(h0:0<σ.length)(q:∀ss es r S B P ep1 ep2 M,I8 x (.ok (ss,es))->Oq ss es->σ<+:M->Rk 323 M r ss es S B P ep1 ep2->B≠0->P≠0->B≠P->Q (.ref r) M)(q':∀k,I8 x (.error k)->∀M,σ<+:M->X k M):callW ER (d+5) 23 [.str x] σ Q X:=by
 refine BG (fn:=QR) rfl rfl ?_
 refine LO 4 (pL hx h0 (λa b xs bs F p he hr ea eb=>?_) λh ρ M p=>q' _ (.note h) _ p)
 have en:Gf x=if xs=[] then none else some (xs,bs):=by unfold Gf;rw[if_pos he,hr];rfl
 have hall:=Se (T:=ND) hr (λws m=>by refine AW (Ab.mp m) λr hm ze1=>?_;subst ze1;exact(hx.yD hm).asc) Hn λ_ h=>nomatch h
 refine Cu.LQ ea ?_
 rw[AA]
 refine Ca (λh1=>?_) λh1=>?_
 .have:xs=[]:=By.mp (EN h1)
  rw[if_pos this] at en
  exact q' _ (.note en) _ p
 have hne:¬xs=[]:=λz=>h1 (by rw[z];rfl)
 rw[if_neg hne] at en
 have hl1:σ.length+1<F.length:=(AP.mp eb).1
 have hm0:F.length≠0:=Bu (Al (BM _) hl1)
 have hxl:xs.length<=1000:=by
  have:=cK hr
  rw[AA] at this
  replace this:xs.length+bs.length=0+0+(FT x).length:=this
  rw[Be] at this
  exact AF (A0 xs.length bs.length) (AF (CK this) hx.rows)
 have e1:(F++[O.ns [],O.inst 323 F.length])[F.length+1]?=some (.inst 323 F.length):=by rw[Ak (A0 _ 1),BI];rfl
 have e2:(F++[O.ns [],O.inst 323 F.length])[F.length]?=some (.ns []):=by rw[Ak (Az _),Fo];rfl
 have pp:σ<+:F++[O.ns [],O.inst 323 F.length]:=p.trans (CU _ _)
 refine l9 (AX ea) (λs hs=>(hall.2 s hs).elim (λz=>by rw[z];decide +kernel) λz=>by rw[z];decide +kernel) e1 e2 hm0 hxl (λhf Z S B P kp em eS eB eP hBP lS lB lP=>?_) λhf=>?_
 rotate_left
 .exact q' _ (.JS en hf) _ pp
 refine⟨rfl,?_⟩
 have hlen:(F++[O.ns [],O.inst 323 F.length]).length=F.length+2:=AI
 have p₂:σ<+:Z:=by
  refine List.prefix_iff_getElem?.mpr λi hi=>?_
  exact kp _ _ (by exact λz0=>fJ (.p .v0 .v1 (.t .v0 .v2 (.t (.a .v2 .n1) .v1 .e))) rfl z0 hi hl1) (BP pp (AO hi))
 have RR:Rk 323 Z (F.length+1) (xs.map Ro) [] S B P 0 0:=⟨⟨F.length,kp _ _ (by exact λz0=>N6 (.q (.a .v0 .n1) .v0 .e) rfl z0) e1,em⟩,by rw[eS,vL hf],eB,eP⟩
 refine(?_:Hz (.tup [6,7,8,9,10]) .plain [AD 2] [Eh (FO 323 "put_at" 55 (AD 5) [AD 6,AD 7,AD 8,AD 9,AD 10])] (callW ER (d+4)) [.str x,.ref σ.length,.ref (σ.length+1),a,b,.ref (F.length+1),.undef,.undef,.undef,.undef,.undef,.undef] Z _)
 refine pS (σ₀:=σ) p₂ (Cx _) RR (kp _ _ (by exact λz0=>W0 (.p (.a .v0 .n1) .v1 (.t (.a .v0 .n1) .v1 .e)) rfl z0 hl1) (AX eb)) (by exact Ll .le .v0 .v1 (.t (.a .v0 .n1) .v2 (.p .v3 (.a .v2 .n2) (.l .v3 .v1 .e))) rfl hl1 hlen lB) (by exact Ll .le .v0 .v1 (.t (.a .v0 .n1) .v2 (.p .v3 (.a .v2 .n2) (.l .v3 .v1 .e))) rfl hl1 hlen lP) h0 hBP (by rw[AA];exact hf.n.2) (hx.nt _ _ en).1 (λb m=>⟨hall.1 b m,(hx.nt _ _ en).2 b m⟩) (λes ep1 ep2 a6 a7 a8 a9 a10 M hp E p' R'=>?_) λk hp ρ M p'=>?_
 .exact q _ es _ S B P ep1 ep2 M (.ok en hf hp) E p' R' (by exact λz0=>fJ (.q .v0 .n0 (.p .v1 (.a .v2 .n2) (.l .v1 .v0 .e))) rfl z0 hlen lB) (by exact λz0=>fJ (.q .v0 .n0 (.p .v1 (.a .v2 .n2) (.l .v1 .v0 .e))) rfl z0 hlen lP) hBP
 .exact q' k (.err en hf hp) _ p'
end
set_option maxHeartbeats 2000000
section
variable {d:Nat} {σ:Af} {Q:BS} {X:CP} {n:Nat}
noncomputable def NA(k:Nat):Str:=cond (Nw k 104) "note" (cond (Nw k 44) "shelf" (cond (Nw k 56) "box" (cond (Nw k 68) "twice" "room")))
theorem cond_of{B:Type}{P:B->Prop}{b:Bool}{x y:B}(F:P x)(hy:P y):P (cond b x y):=by cases b <;> assumption
theorem pY(h:Hh ss es bs (.error k)):k=56\/k=68\/k=80:=by
 generalize e:(Except.error k:Except Nat (List En))=r at h
 induction h with
 |nil=>cases e
 |err p=>cases e;cases p with
  |box _=>exact .inl rfl
  |twice _ _ _ _=>exact .inr (.inl rfl)
  |room _ _ _ _ _=>exact .inr (.inr rfl)
 |ok _ _ B=>exact B e
theorem UD(h:I8 x (.error k)):k=104\/k=44\/k=56\/k=68\/k=80:=by
 cases h with
 |note _=>exact .inl rfl
 |JS _ _=>exact .inr (.inl rfl)
 |err _ _ p=>exact .inr (.inr (pY p))
theorem sY(hx:cY x)(M:0<σ.length)(h:I8 x (.error k))(q:∀F,σ<+:F->Q (.str (NA k)) F):callW ER (d+6) 39 [.str x] σ Q X:=by
 refine BG (fn:=Te) rfl rfl ?_
 dsimp only[Te]
 refine T3 hx M (λss es r S B P ep1 Z F h' _ _ _ _ _ _=>?_) λk' h' F p=>?_
 .cases Hw h h'
 .cases Hw h h'
  rcases UD h with rfl | rfl | rfl | rfl | rfl <;> exact q F p
theorem nV(hx:cY x)(M:0<σ.length)(h:I8 x (.error k))(q:∀F,σ<+:F->Q (.str (NA k)) F):callW ER (d+6) 40 [.str x] σ Q X:=by
 refine BG (fn:=Ut) rfl rfl ?_
 dsimp only[Ut]
 refine T3 hx M (λss es r S B P ep1 Z F h' _ _ _ _ _ _=>?_) λk' h' F p=>?_
 .cases Hw h h'
 .cases Hw h h'
  rcases UD h with rfl | rfl | rfl | rfl | rfl <;> exact q F p
theorem ub(hx:cY x)(M:0<σ.length)(h:I8 x (.error k))(q:∀F,σ<+:F->Q (.bool true) F):callW ER (d+6) 41 [.str x] σ Q X:=by
 refine BG (fn:=Y3) rfl rfl ?_
 refine T3 hx M (λss es r S B P ep1 Z F h' _ _ _ _ _ _=>?_) λk' h' F p=>?_
 .cases Hw h h'
 .cases Hw h h'
  rcases UD h with rfl | rfl | rfl | rfl | rfl <;> exact q F p
theorem Mk:ND (NA k):=cond_of (P:=ND) (by decide +kernel) (cond_of (by decide +kernel) (cond_of (by decide +kernel) (cond_of (by decide +kernel) (by decide +kernel))))
theorem Zu(hc:c=callW ER (d+6))(F:∀σ Q,Q (.str x) σ->a c ρ σ Q X)(eb:∀σ Q,Q (.str y) σ->b c ρ σ Q X)(hy:y=NA k)(Z:cY x)(h0:0<σ.length)(h:I8 x (.error k))(q:∀B,σ<+:B->Q (.bool true) B) :
  KC true [Jh (Bj (A2 39 [a]) [.Eq] [b]),Jh (Bj (A2 40 [a]) [.Eq] [b]),A2 41 [a]] c ρ σ Q X:=by
 subst hc hy
 refine F _ _ ?_
 refine sY Z h0 h λσ1 p1=>?_
 refine eb _ _ ?_
 refine Ky Mk.ok Mk.ok (λ_=>?_) λz=>absurd rfl z
 refine F _ _ ?_
 have h1:=Ac h0 p1.length_le
 refine nV Z h1 h λσ2 p2=>?_
 refine eb _ _ ?_
 refine Ky Mk.ok Mk.ok (λ_=>?_) λz=>absurd rfl z
 refine F _ _ ?_
 exact ub Z (Ac h1 p2.length_le) h λM p3=>q M ((p1.trans p2).trans p3)
end
set_option maxHeartbeats 2000000
noncomputable def sp:Str:=" "
noncomputable def nl:Str:="\n"
noncomputable def MG(ws:List Str):Str:=Cr sp ws++nl
noncomputable def kK(shs:List Sh)(ts:List En):List Str:=(shs.map λs=>MG s.words)++ts.map λe=>MG e.words
theorem HO(x y:Str)(r:List Str):Cr sp (x::y::r)=x++sp++Cr sp (y::r):=rfl
theorem ao(x:Str):Cr sp [x]=x:=rfl
theorem bY(a b c d e f g h:Str):IV++"box "++a++sp++b++sp++c++sp++d++sp++e++sp++f++sp++g++sp++h++nl=MG ["box", a,b,c,d,e,f,g,h]:=by
 have F:"box "="box"++sp:=by decide +kernel
 unfold MG
 rw[F,Str.empty_append,HO,HO,HO,HO,HO,HO,HO,HO,ao]
 simp only[D5]
theorem S1(a b c:Str):IV++"shelf "++a++sp++b++sp++c++nl=MG ["shelf", a,b,c]:=by
 have F:"shelf "="shelf"++sp:=by decide +kernel
 unfold MG
 rw[F,Str.empty_append,HO,HO,HO,ao]
 simp only[D5]
theorem E5(h:EO i=true):(Cp i).length<=65:=by
 unfold Cp
 rw[ofString_length]
 exact int_text_length_le (k:=64) (by decide) (Jl h)
theorem G0{a b:Nat}{T:Str->Prop}(M:acc.length<=a)(hs:s.length<=b)(F:a+b<=900000)(q:(acc++s).length<=a+b->T s):ZK (λs=>acc.length+s.length<=Cb/\T s) (.str s):=by
 have h:=BJ M hs
 exact .str (AF hs (AF (DP b a) (AF F (by decide)))) ⟨AF h (AF F (by decide)),q (by rw[DV];exact h)⟩
theorem NM{i:Int}{a:Nat}{T:Str->Prop}(M:acc.length<=a)(hs:EO i=true)(F:a+65<=900000)(q:(acc++Cp i).length<=a+65->T (Cp i)):ZK (λs=>acc.length+s.length<=Cb/\T s) (.int i):=by
 have h:=BJ M (E5 hs)
 exact .int hs ⟨AF h (AF F (by decide)),q (by rw[DV];exact h)⟩
structure Wr(e:En):Prop where
 name:e.name.length<=12
 w:EO e.w=true
 h:EO e.h=true
 n:EO e.n=true
 u:EO e.u=true
 l:EO e.l=true
theorem Qx:(Mw t).length<=7:=by cases t <;> decide +kernel
theorem Qa:(My t).length<=7:=by cases t <;> decide +kernel
theorem Qv:(UO t).length<=7:=by cases t <;> decide +kernel
theorem lD(h:Wr e):(MG e.words).length<=500:=by
 have F:=bY e.name (Cp e.w) (Cp e.h) (Mw e.t) (Cp e.n) (Cp e.u) (Cp e.l) (My e.r)
 have M:=E5 h.w
 have l2:=E5 h.h
 have l3:=E5 h.n
 have l4:=E5 h.u
 have l5:=E5 h.l
 have l6:=Qx (t:=e.t)
 have l7:=Qa (t:=e.r)
 have l8:=h.name
 have s1:sp.length=1:=by decide +kernel
 have s2:nl.length=1:=by decide +kernel
 have s3:"box ".length=4:=by decide +kernel
 have Z:IV.length=0:=rfl
 unfold En.words
 rw[<- F]
 simp only[DV]
 apply AF
 .repeat' first | assumption | exact CK (by assumption) | apply BJ
 .decide
theorem iV{s:Sh}(h:EO s.W=true/\EO s.H=true):(MG s.words).length<=500:=by
 have F:=S1 (Cp s.W) (Cp s.H) (UO s.b)
 have M:=E5 h.1
 have l2:=E5 h.2
 have l6:=Qv (t:=s.b)
 have s1:sp.length=1:=by decide +kernel
 have s2:nl.length=1:=by decide +kernel
 have s3:"shelf ".length=6:=by decide +kernel
 have Z:IV.length=0:=rfl
 unfold Sh.words
 rw[<- F]
 simp only[DV]
 apply AF
 .repeat' first | assumption | exact CK (by assumption) | apply BJ
 .decide
section
variable {d:Nat} {σ σ':Af} {Q:BS} {X:CP} {m:Int} {es hs:List En} {shs ss:List Sh} {n k r S B P epB epP:Nat} {e:En}
theorem jQ(M:ρ[2]?=some (.str e.name))(h2:ρ[3]?=some (.int e.w))(h3:ρ[4]?=some (.int e.h))(h4:ρ[10]?=some (.str (Mw e.t)))(h5:ρ[6]?=some (.int e.n))(Z:ρ[7]?=some (.int e.u))(h7:ρ[8]?=some (.int e.l))(h8:ρ[11]?=some (.str (My e.r)))(F:Wr e)(q:Q (.str (MG e.words)) σ) :
  Y2 [BE "box ",AD 2,BE " ",AD 3,BE " ",AD 4,BE " ",AD 10,BE " ",AD 6,BE " ",AD 7,BE " ",AD 8,BE " ",AD 11,BE "\n"] IV C ρ σ Q X:=by
 have s1:sp.length<=1:=by decide +kernel
 refine G0 (a:=0) (b:=4) (Az _) (by decide +kernel) (by decide) λz=>?_
 refine PM M rfl (G0 z F.name (by decide) λz=>?_)
 refine G0 z s1 (by decide) λz=>?_
 refine PM h2 rfl (NM z F.w (by decide) λz=>?_)
 refine G0 z s1 (by decide) λz=>?_
 refine PM h3 rfl (NM z F.h (by decide) λz=>?_)
 refine G0 z s1 (by decide) λz=>?_
 refine PM h4 rfl (G0 z Qx (by decide) λz=>?_)
 refine G0 z s1 (by decide) λz=>?_
 refine PM h5 rfl (NM z F.n (by decide) λz=>?_)
 refine G0 z s1 (by decide) λz=>?_
 refine PM Z rfl (NM z F.u (by decide) λz=>?_)
 refine G0 z s1 (by decide) λz=>?_
 refine PM h7 rfl (NM z F.l (by decide) λz=>?_)
 refine G0 z s1 (by decide) λz=>?_
 refine PM h8 rfl (G0 z Qa (by decide) λz=>?_)
 refine G0 (b:=1) z (by decide +kernel) (by decide) λz=>?_
 refine(?_:Q (.str _) σ)
 have e1:=bY e.name (Cp e.w) (Cp e.h) (Mw e.t) (Cp e.n) (Cp e.u) (Cp e.l) (My e.r)
 unfold En.words at q
 rw[<- e1] at q
 exact q
theorem jI(R:Rk 323 σ r shs es S B P epB epP)(hn:(es.map (·.name)).Nodup)(hm:e∈es)(Z:Wr e)(q:Q (.str (MG e.words)) σ):callW ER (d+3) 17 [.ref r,.str e.name] σ Q X:=by
 refine BG (fn:=XX) rfl rfl ?_
 refine E6 (Rk.at_ (by assumption)) (by decide +kernel) ?_
 refine qp R hn hm ?_
 refine E6 (Rk.at_ (by assumption)) (by decide +kernel) ?_
 refine bW R hn hm ?_
 dsimp only[En.pl]
 have k:∀t r',e.t=t->e.r=r'->Y2 [BE "box ",AD 2,BE " ",AD 3,BE " ",AD 4,BE " ",AD 10,BE " ",AD 6,BE " ",AD 7,BE " ",AD 8,BE " ",AD 11,BE "\n"] IV (callW ER (d+2))
   [.ref r,.str e.name,.str e.name,.int e.w,.int e.h,.bool t,.int e.n,.int e.u,.int e.l,.bool r',.str (Mw t),.str (My r'),.undef] σ Q X:=λt r' M F=>by
  subst M;subst F
  exact jQ rfl rfl rfl rfl rfl rfl rfl rfl Z q
 cases M:e.t with
 |true=>cases F:e.r with
  |true=>exact k true true M F
  |false=>exact k true false M F
 |false=>cases F:e.r with
  |true=>exact k false true M F
  |false=>exact k false false M F
end
set_option maxHeartbeats 2000000
section
variable {d:Nat} {σ σ':Af} {Q:BS} {X:CP} {m:Int} {es hs:List En} {shs ss:List Sh} {n k r S B P epB epP:Nat} {e:En}
theorem RM{l:List Str}{b:Nat}(h:∀x∈l,x.length<=b):(l.map (·.length)).sum<=l.length*b:=by
 induction l with
 |nil=>exact BM _
 |cons x l F=>
  rw[B6,OR,Bn,Nat.succ_mul,Ci]
  exact BJ (F λy hy=>h y (Ad _ hy)) (h x AL)
theorem join_rows{l:List Str}(h:∀x∈l,x.length<=500)(M:l.length<=1000):(l.map (·.length)).sum+l.length*"".length<=Cb:=by
 have F:"".length=0:=rfl
 rw[F,Pw,Pk]
 exact AF (RM h) (AF (B4 500 M) (by decide))
theorem Rk.xX(R:Rk C σ r shs es S B P epB epP)(e:σ[k]?=some (.list vs))(hk:k≠S)(F:my k σ σ'):Rk C σ' r shs es S B P epB epP:=by
 refine AW R.at_.ex λm M Z=>?_
 exact⟨⟨m,F _ _ (λz=>by rw[z,e] at M;cases M) M,F _ _ (λz=>by rw[z,e] at Z;cases Z) Z⟩,F _ _ hk.symm R.sh,F _ _ (λz=>by have:=R.bx;rw[z,e] at this;cases this) R.bx,F _ _ (λz=>by have:=R.pl;rw[z,e] at this;cases this) R.pl⟩
theorem TabAt.xX(t:TabAt T σ ln col q)(e:σ[k]?=some (.list vs))(M:my k σ σ'):TabAt T σ' ln col q:=by
 cases t with
 |tab h=>exact .tab (M _ _ (λz=>by rw[z,e] at h;cases h) h)
 |row m F Z=>exact .row m (M _ _ (λz=>by rw[z,e] at F;cases F) F) (M _ _ (λz=>by rw[z,e] at Z;cases Z) Z)
theorem TabAt.keeps(t:TabAt T σ Z col q)(F:Kp σ σ'):TabAt T σ' Z col q:=by
 cases t with
 |tab h=>exact .tab (F _ _ h)
 |row m M h2=>exact .row m (F _ _ M) (F _ _ h2)
noncomputable abbrev u1:Str:=""
theorem d0(R:Rk 323 σ r shs es S B P epB epP)(E:Oq shs es)(tw:HE (es.map (En.key shs)))(t:TabAt 294 σ 181 39 Lz)(hs9:shs.length<=9)(hsm:∀s∈shs,EO s.W=true/\EO s.H=true)(hw:∀e∈es,Wr e)(h1:1<σ.length)(q:∀(p:List Nat) σ',my 1 σ σ'->TabAt 294 σ' 181 39 Lz->p.Perm (Ar es.length)->p.Pairwise (LZ (es.map (En.key shs)))->Q (.str (Cr u1 (kK shs (p.map λi=>es.getD i oj)))) σ'):callW ER (d+4) 18 [.ref r] σ Q X:=by
 refine BG (fn:=YR) rfl rfl ?_
 have hS:S<σ.length:=(AP.mp R.sh).1
 have R₀:=R.keeps (JJ (AZ (τ:=[O.list []])))
 refine SA (Rk.at_ (by assumption)) ?_
 refine HV (λi ρ' σ'=>(∃a2 a3 a4,ρ'=[.ref r,.ref σ.length,a2,a3,a4,.undef,.undef])/\Kp σ σ'/\σ'[σ.length]?=some (.list (((shs.take i).map λs=>MG s.words).map .str))) R₀.sh ⟨⟨_,_,_,rfl⟩,JJ AZ,Aa⟩ (λi v ρ' σ' R' hv hI hR=>?_) λρ' σ' hI=>?_
 .obtain⟨⟨a2,a3,a4,rfl⟩,kp,ea⟩:=hI
  refine AW (List.CA hv) λs hsi ze1=>?_;subst ze1
  have hi:=(AP.mp hsi).1
  have hsm:=hsm s (Ae hsi)
  have s1:sp.length<=1:=by decide +kernel
  refine Kg (by assumption) ?_
  refine G0 (a:=0) (b:=6) (Az _) (by decide +kernel) (by decide) λz=>?_
  refine NM z hsm.1 (by decide) λz=>?_
  refine G0 z s1 (by decide) λz=>?_
  refine NM z hsm.2 (by decide) λz=>?_
  refine G0 z s1 (by decide) λz=>?_
  refine G0 (s:=UO s.b) z Qv (by decide) λz=>?_
  refine G0 (b:=1) z (by decide +kernel) (by decide) λz=>?_
  refine Gq ea (Bu (B9 Nat.zero_lt_one h1)) (by rw[AA,AA];exact Al (fD ..) (Ac hi (AF hs9 (by decide)))) ?_
  have hSk:S≠σ.length:=Bo hS
  refine hR _ _ (BO hSk.symm (kp _ _ R.sh)) ⟨⟨_,_,_,rfl⟩,λx o h=>BO (Bu (AP.mp h).1) (kp x o h),?_⟩
  rw[EI ea,HF hsi,Ai,Ai]
  have e1:=S1 (Cp s.W) (Cp s.H) (UO s.b)
  exact congrArg (λx:Str=>some (O.list ((((shs.take i).map λs=>MG s.words).map .str)++[V.str x]))) e1
 .obtain⟨⟨a2,a3,a4,rfl⟩,kp,ea⟩:=hI
  rw[AA,Bz] at ea
  have R₁:=R.keeps kp
  have t₁:=t.keeps kp
  refine E6 (Rk.at_ (by assumption)) (by decide +kernel) ?_
  refine WR R₁ E tw t₁ λp mN σ₁ Z t₂ hp ho eN hmN=>?_
  have R₂:=R₁.RT t₁ Z
  have hpl:∀i∈p,i<es.length:=λi hi=>Dl.mp (hp.mem_iff.mp hi)
  have M:=Z _ _ (Bu h1) ea
  have hmN':mN≠σ.length:=λz=>by
   have:=(AP.mp ea).1
   exact absurd (z▸hmN:σ'.length<=σ.length) (Dj.mpr this)
  refine HV (λi ρ' F=>(∃a5,ρ'=[.ref r,.ref σ.length,a2,a3,a4,a5,.undef])/\my σ.length σ₁ F/\F[σ.length]?=some (.list (((shs.map λs=>MG s.words)++((p.take i).map λi=>es.getD i oj).map λe=>MG e.words).map .str))) eN ⟨⟨_,rfl⟩,λ_ _ _ h=>h,by rw[M];exact congrArg (λl=>some (O.list (Li V.str l))) (Bl _).symm⟩ (λi v ρ' F R' hv hI hR=>?_) λρ' F hI=>?_
  .obtain⟨⟨a5,rfl⟩,kp₂,ea₂⟩:=hI
   refine AW (List.CA hv) λj hj ze1=>?_;subst ze1
   have hjl:=hpl j (Ae hj)
   have ej:=AO hjl
   generalize es[j]=e at ej
   have enm:(es.map (·.name)).getD j ("":Str)=e.name:=by rw[Ay,As,ej];rfl
   rw[enm]
   have R₃:=R₂.xX M (Bu hS) kp₂
   refine Kg (by assumption) ?_
   refine jI R₃ E.nodup (Ae ej) (hw e (Ae ej)) ?_
   refine Gq ea₂ (Bu (B9 Nat.zero_lt_one h1)) ?_ ?_
   .rw[AA,AI,AA,AA,AA]
    have h2:(p.take i).length<=127:=AF (NL ..) (by rw[hp.length_eq,BV];exact A4 E.len)
    exact Al (BJ hs9 h2) (by decide)
   refine hR _ _ (BO hmN'.symm (kp₂ _ _ hmN' eN)) ⟨⟨_,rfl⟩,λx o hx h=>BO hx.symm (kp₂ x o hx h),?_⟩
   rw[EI ea₂,HF hj,Ai (l₁:=p.take i),Ai (l₁:=(p.take i).map _),<- Aq,Ai (l₂:=Li _ (Li _ [j]))]
   refine(?_:some (O.list (_++[V.str (MG e.words)]))=some (O.list (_++[V.str (MG (es.getD j oj).words)])))
   rw[Ts ej]
  .obtain⟨⟨a5,rfl⟩,kp₂,ea₂⟩:=hI
   rw[AA,Bz] at ea₂
   refine TA.mk ea₂ (join_rows (λx hx=>?_) ?_) ?_
   .refine(An.mp hx).elim (λhx=>AW (Ab.mp hx) λs hs ze=>ze▸iV (hsm s hs)) λhx=>AW (Ab.mp hx) λe he ze=>ze▸lD (hw e ?_)
    exact(VO hp).mem_iff.mp he
   .rw[AI,AA,AA,AA,hp.length_eq,BV]
    exact AF (BJ hs9 (A4 E.len)) (by decide)
   refine q p F (λx o hx h=>kp₂ x o (Bo (AP.mp h).1) (Z x o hx (kp x o h))) (t₂.xX M kp₂) hp ho
end
set_option maxHeartbeats 2000000
section
variable {d:Nat} {σ:Af} {Q:BS} {X:CP} {n:Nat} {s:Sh} {e:En} {ss:List Sh} {es:List En}
structure kL(rs:List Str):Prop where
 n:rs.length<=800
 len:∀r∈rs,r.length<=1000
theorem kL.sum(h:kL rs):((rs.map (·++Zt)).map (·.length)).sum+(rs.map (·++Zt)).length*q7.length<=Cb:=by
 have B:q7.length=0:=rfl
 rw[B,Pw,Pk]
 refine AF (RM (b:=1001) λx F=>?_) (by rw[AA];exact AF (B4 _ h.n) (by decide))
 refine AW (Ab.mp F) λr M e=>?_
 rw[<- e,DV]
 exact BJ (h.len r M) (by decide +kernel:Zt.length<=1)
theorem NN(e:σ[n]?=some (.list (rs.map .str)))(h:kL rs)(q:∀B,σ<+:B->Q (.str (DN rs)) B):callW ER (d+1) 29 [.ref n] σ Q X:=by
 refine BG (fn:=Xz) rfl rfl ?_
 refine M9 (g:=.str) (λr=>r++Zt) .str e (AF h.n (by decide)) (λr M K F=>?_) ?_
 .refine Eb.RS (AF (BJ (h.len r M) (by decide +kernel:Zt.length<=1)) (by decide)) ?_
  exact F
 .refine TA.mk Aa h.sum ?_
  exact q _ AZ
theorem Jv(B:acc.length<=a)(F:x.length<=b)(M:a+b<=900000)(q:(acc++x).length<=a+b->Q (.str (acc++x)) σ):Eb σ Q .Add (.str acc) (.str x):=
 .RS (AF (BJ B F) (AF M (by decide))) (q (by rw[DV];exact BJ B F))
theorem sR(a b c:Str):"shelf "++a++sp++b++sp++c=Jb ["shelf", a,b,c]:=by
 have F:"shelf "="shelf"++sp:=by decide +kernel
 have B:sign 32=sp:=by decide +kernel
 unfold Jb
 rw[F,B,HO,HO,HO,ao]
 simp only[D5]
theorem uC(a b c d e f g h:Str):"box "++a++sp++b++sp++c++sp++d++sp++e++sp++f++sp++g++sp++h=Jb ["box", a,b,c,d,e,f,g,h]:=by
 have F:"box "="box"++sp:=by decide +kernel
 have B:sign 32=sp:=by decide +kernel
 unfold Jb
 rw[F,B,HO,HO,HO,HO,HO,HO,HO,HO,ao]
 simp only[D5]
theorem sE(h:CI s.W/\CI s.H)(q:(DC s).length<=200->Q (.str (DC s)) σ):callW ER (d+1) 27 [s.v] σ Q X:=by
 refine BG (fn:=X2) rfl rfl ?_
 have s1:" ".length<=1:=by decide +kernel
 refine Cu.str (GS h.1) ?_
 refine Jv (acc:="shelf ") (x:=Cp s.W) (a:=6) (by decide +kernel) (E5 (GS h.1)) (by decide) λz=>?_
 refine Jv z s1 (by decide) λz=>?_
 refine Cu.str (GS h.2) ?_
 refine Jv (x:=Cp s.H) z (E5 (GS h.2)) (by decide) λz=>?_
 refine Jv z s1 (by decide) λz=>?_
 refine Jv (x:=UO s.b) z Qv (by decide) λz=>?_
 have B:=sR (Cp s.W) (Cp s.H) (UO s.b)
 unfold DC Sh.words at q
 rw[<- B] at q
 exact q (AF z (by decide))
theorem je(D:Dr ss es)(B:e∈es):Wr e:=by
 have h:=D.nums B
 have M:=D.sz e B
 have F:∀{k:Int},0<=k->k<1000000->EO k=true:=λh0 Z=>jj ⟨h0,Z⟩ (by decide)
 refine⟨?_,GS M.1,GS M.2,F (AQ _) (by exact Im .lt .v0 (.n 1000000) (.t .v0 (.n 9) .e) rfl (BH.mpr h.2.2)),F h.1.1 h.1.2,F h.2.1.1 h.2.1.2⟩
 have:=D.good e B
 unfold Bk at this
 exact of_decide_eq_true (AJ.mp (AJ.mp this).2).1
theorem sD(B:Wr e)(q:∀F,σ<+:F->(C9 e).length<=500->Q (.str (C9 e)) F):callW ER (d+1) 28 [e.one] σ Q X:=by
 refine BG (fn:=X6) rfl rfl ?_
 have s1:" ".length<=1:=by decide +kernel
 refine Jv (acc:="box ") (a:=4) (by decide +kernel) B.name (by decide) λz=>?_
 refine Jv z s1 (by decide) λz=>?_
 refine Cu.str B.w ?_
 refine Jv (x:=Cp e.w) z (E5 B.w) (by decide) λz=>?_
 refine Jv z s1 (by decide) λz=>?_
 refine Cu.str B.h ?_
 refine Jv (x:=Cp e.h) z (E5 B.h) (by decide) λz=>?_
 refine Jv z s1 (by decide) λz=>?_
 refine Cu.mO ?_
 have Z:(Li V.str ["stays", "turns"])[(b2i e.t).toNat]?=some (.str (Mw e.t)):=by cases e.t <;> rfl
 have M:∀t:Bool,0<=b2i t:=λt=>by cases t <;> decide
 refine FG Aa (M e.t) Z ?_
 refine Jv (x:=Mw e.t) z Qx (by decide) λz=>?_
 refine Jv z s1 (by decide) λz=>?_
 refine Cu.str B.n ?_
 refine Jv (x:=Cp e.n) z (E5 B.n) (by decide) λz=>?_
 refine Jv z s1 (by decide) λz=>?_
 refine Cu.str B.u ?_
 refine Jv (x:=Cp e.u) z (E5 B.u) (by decide) λz=>?_
 refine Jv z s1 (by decide) λz=>?_
 refine Cu.str B.l ?_
 refine Jv (x:=Cp e.l) z (E5 B.l) (by decide) λz=>?_
 refine Jv z s1 (by decide) λz=>?_
 refine Cu.mO ?_
 have h2:(Li V.str ["upright", "turned"])[(b2i e.r).toNat]?=some (.str (My e.r)):=by cases e.r <;> rfl
 refine FG Aa (M e.r) h2 ?_
 refine Jv (x:=My e.r) z Qa (by decide) λz=>?_
 have e1:=uC e.name (Cp e.w) (Cp e.h) (Mw e.t) (Cp e.n) (Cp e.u) (Cp e.l) (My e.r)
 unfold C9 En.words at q
 rw[<- e1] at q
 exact q _ (AZ.trans AZ) (AF z (by decide))
theorem Tq:Cr u1 (kK ss F)=DN (ss.map DC++F.map C9):=by
 have B:sp=sign 32:=by decide +kernel
 unfold kK DN MG DC C9 Jb
 rw[Ai,BW,BW,B]
 rfl
end
set_option maxHeartbeats 2000000
section
variable {d:Nat} {σ:Af} {Q:BS} {X:CP} {n:Nat} {s:Sh} {e:En} {ss:List Sh} {es:List En}
noncomputable def Ur:List Str:=["", "00", "007", "01", "+1", "-1", "1_0", "1.", "0x1", "12345678", " 1", "0000001"]
theorem LG(B:0<k):∃j:Nat,j<k/\c % (k:Int)=j:=by
 have F:=C4 c (Int.ofNat_ne_zero.mpr (Bu B))
 have M:=Bw c (BH.mpr B)
 exact⟨(c % (k:Int)).toNat,(Zg F).mpr M,(EH F).symm⟩
theorem H5(e:σ[n]?=some (.list vs))(M:0<k)(Z:vs.length=k)(q:∀(j:Nat) v,j<k->c % (k:Int)=j->vs[j]?=some v->Q v σ):KD σ Q (.ref n) (.int (c % (k:Int))):=by
 refine AW (LG (c:=c) M) λj F B=>?_
 rw[B]
 refine FG (v:=vs[j]'(Z▸F)) e (AQ _) (by rw[A6];exact AO _) (q j _ F B (AO _))
theorem Xv(q:∀w∈Ur,Q (.str w) (σ++[.list (Ur.map .str)])):callW ER (d+1) 42 [.int c] σ Q X:=by
 refine BG (fn:=Xx) rfl rfl ?_
 refine B5 rfl ?_
 refine H5 (k:=12) (vs:=Ur.map .str) Aa (by decide) rfl λj v Z e F=>?_
 refine AW (List.CA F) λw M B=>?_;subst B
 exact q w (Ae M)
theorem Mo(h:w∈Ur):(∀i,i=1\/i=2->qr i w=true)/\(∀i,i∈[2,3,5,6,7]->uU i w=true)/\Wd w:=by
 have k:=(by decide +kernel:∀w∈Ur,(qr 1 w&&(qr 2 w&&([2,3,5,6,7].all (uU · w)&&((tl w).all (λc=>decide (c≠10)&&decide (c<128))&&decide (w.length<=65)))))=true) w h
 simp only[BK,BF,decide_eq_true_eq] at k
 exact⟨λi hi=>hi.elim (λe=>e▸k.1) λe=>e▸k.2.1,k.2.2.1,⟨λm=>(k.2.2.2.1 _ m).1 rfl,Ct.mpr λc B=>(k.2.2.2.1 c B).2,k.2.2.2.2⟩⟩
theorem i4(e:σ[n]?=some (.list (ws.map .str)))(M:ws.length<=12)(hi:i<=12)(hw:∀v∈ws,v.length<=65)(F:w.length<=65)(q:∀B,σ<+:B->Q (.str (Jb (Je i w ws))) B) :
  CE (L5 " " (Ah .Add (Ah .Add (DD (AD 0) none (some (AD 2))) (CD [AD 3])) (DD (AD 0) (some (Ah .Add (AD 2) (AU 1))) none))) (callW ER d) [.ref n,v1,.int i,.str w,v4,.undef] σ (Jt Q X):=by
 have h1:HS (ws.map V.str) 0 (min ((i:Int)).toNat (ws.map V.str).length)=(ws.take i).map V.str:=by
  unfold HS
  rw[A6,KZ,AA,<- JR]
  congr 1
  by_cases h:i<=ws.length
  .rw[C3 h]
  .rw[C6 (by exact Dy .le .v0 .v1 (.m .v1 .v0 .e) rfl h),Bz,Dd (by exact Dy .le .v0 .v1 (.m .v1 .v0 .e) rfl h)]
 have h2:HS (ws.map V.str) (min ((i:Int)+1).toNat (ws.map V.str).length) (ws.map V.str).length=(ws.drop (i+1)).map V.str:=by
  unfold HS
  rw[show ((i:Int)+1).toNat=i+1 from rfl,Bz,AA,<- K8]
  congr 1
  by_cases h:i+1<=ws.length
  .rw[C3 h]
  .rw[C6 (by exact Dy .le .v0 (.a .v1 .n1) (.m (.a .v1 .n1) .v0 .e) rfl h),EV,Ls (by exact Dy .le .v0 (.a .v1 .n1) (.m (.a .v1 .n1) .v0 .e) rfl h)]
 refine Lu e (AQ _) (by exact Im .le .v0 (.n 1000000) (.l .v0 (.n 12) .e) rfl (A9.mpr hi)) ?_
 rw[h1]
 refine Eb.Pj (x:=(ws.take i).map .str) (y:=[.str w]) (AX Aa) Aa (by rw[AA,B2];exact AF (DH (Ce ..) 1) (AF (C8 hi) (by decide))) ?_
 refine OZ (AX (AX (AX e))) (by exact Im .le .n0 (.a .v0 .n1) (.l .n0 .v0 .e) rfl (AQ _)) (by exact Im .le (.a .v0 .n1) (.n 1000000) (.l .v0 (.n 12) .e) rfl (A9.mpr hi)) ?_
 rw[h2]
 have Z:(Je i w ws).length<=25:=by
  unfold Je
  rw[AI,AI,B2,CC,CV];exact HW .le (.a (.a .v0 .n1) .v1) (.n 25) (.l .v1 .v2 (.l .v0 .v2 (.w 2 (.l .v2 (.n 12) .e)))) rfl (Ga _ _) (C7 _ _) M
 refine Eb.Pj (x:=(ws.take i).map .str++[.str w]) (y:=(ws.drop (i+1)).map .str) (AX Aa) Aa (by
  rw[AI,AA,AA,B2,CC]
  exact AF (by exact HW .le (.a (.a .v0 .n1) .v1) (.n 25) (.l .v1 .v2 (.l .v0 .v2 (.w 2 (.l .v2 (.n 12) .e)))) rfl (Ga _ _) (C7 _ _) M:_<=25) (by decide)) ?_
 refine TA.mk (ss:=Je i w ws) (by rw[Aa];unfold Je;rw[Ai,Ai];rfl) ?_ ?_
 .refine AF (BJ (RM (b:=65) λv hv=>(Ju hv).elim (λe=>e▸F) (hw v)) (fb _ (by decide +kernel:" ".length<=1))) ?_
  exact AF (BJ (B4 _ Z) (B4 _ Z)) (by decide)
 .have e2:sign 32=" ":=by decide +kernel
  have:=q
  unfold Jb at this
  rw[e2] at this
  exact this _ (((((AZ.trans AZ).trans AZ).trans AZ).trans AZ))
noncomputable def xV(w:Str):Bool:=(tl w).all (λc=>decide (c≠10)&&decide (c<128))&&decide (w.length<=65)
theorem VY(h:xV w=true):Wd w:=by
 unfold xV at h
 simp only[BK,BF,decide_eq_true_eq] at h
 exact⟨λm=>(h.1 _ m).1 rfl,Ct.mpr λc B=>(h.1 c B).2,h.2⟩
theorem ui(B:w1∈Ur)(F:w2∈Ur)(hj:j<6)(hv:[V.int 0,.int 1,.int 2,.int 3,.int 1,.int 2][j]?=some v)(M:([AH "shelves", w1,w2,AH "high", AH "", AH "1 1"].map V.str)[j]?=some Z):∃(i:Nat) (w:Str),v=.int i/\Z=.str w/\qr i w=true/\Wd w:=by
 have s:∀{x y:V},some x=some y->y=x:=λh=>(AG h).symm
 exact DQ (P:=λj=>[V.int 0,.int 1,.int 2,.int 3,.int 1,.int 2][j]?=some v->([AH "shelves", w1,w2,AH "high", AH "", AH "1 1"].map V.str)[j]?=some Z->∃(i:Nat) (w:Str),v=.int i/\Z=.str w/\qr i w=true/\Wd w) (λa b=>⟨0,_,s a,s b,by decide +kernel,VY (by decide +kernel)⟩)
  (DQ (λa b=>⟨1,_,s a,s b,(Mo B).1 1 (.inl rfl),(Mo B).2.2⟩) (DQ (λa b=>⟨2,_,s a,s b,(Mo F).1 2 (.inr rfl),(Mo F).2.2⟩) (DQ (λa b=>⟨3,_,s a,s b,by decide +kernel,VY (by decide +kernel)⟩) (DQ (λa b=>⟨1,_,s a,s b,by decide +kernel,VY (by decide +kernel)⟩) (DQ (λa b=>⟨2,_,s a,s b,by decide +kernel,VY (by decide +kernel)⟩) T9))))) j hj hv M
theorem pM(hs:CI s.W/\CI s.H)(hc:∀w∈s.words,Clean w)(e:σ[n]?=some (.list (s.words.map .str)))(q:∀w M,VC (wordsOf w)->GU w->σ<+:M->Q (.str w) M):callW ER (d+2) 43 [.ref n,.int c] σ Q X:=by
 refine BG (fn:=T7) rfl rfl ?_
 refine Eg (v:=.str (AH "shelf")) e rfl rfl ?_
 refine bR (by decide +kernel) ?_
 have fin:∀(i:Nat) (w:Str) (F:Af),σ<+:F->qr i w=true->Wd w->CE (L5 (AH " ") (Ah .Add (Ah .Add (DD (AD 0) none (some (AD 2))) (CD [AD 3])) (DD (AD 0) (some (Ah .Add (AD 2) (AU 1))) none))) (callW ER (d+1)) [.ref n,.int c,.int i,.str w,.undef,.undef] F (Jt Q X):=λi w F p ok Z=>by
  have hi:i<4:=of_decide_eq_true (AJ.mp ok).1
  refine i4 (BP p e) (by decide:(4:Nat)<=12) (by exact Ec .le .v0 (.n 12) (.t .v0 (.n 4) .e) rfl hi) (λv B=>(hc v B).2.2.2) Z.len λM p'=>?_
  exact q _ _ (vn (λv B=>(hc v B).1) ok) (Jy (by rw[L0 (ws:=s.words) hi];exact(Ap rfl:(4:Nat)<=12)) λv B=>(Ju B).elim (λz=>z▸Z) λm=>(hc v m).wd) (p.trans p')
 refine B5 rfl ?_
 refine H5 (k:=6) (vs:=[.int 0,.int 1,.int 2,.int 3,.int 1,.int 2]) Aa (by decide) rfl λj v hj ej B=>?_
 refine EK rfl ?_
 refine Xv λw1 hw1=>?_
 refine EK rfl ?_
 refine Xv λw2 hw2=>?_
 refine B5 rfl ?_
 refine H5 (k:=6) (vs:=[AH "shelves", w1,w2,AH "high", AH "", AH "1 1"].map .str) Aa (by decide) rfl λj' v' hj' ej' hv'=>?_
 have zq:=EN (ej.symm.trans ej');subst zq
 have p:σ<+:σ++[O.list [.int 0,.int 1,.int 2,.int 3,.int 1,.int 2]]++[O.list (Ur.map .str)]++[O.list (Ur.map .str)]++[O.list ([AH "shelves", w1,w2,AH "high", AH "", AH "1 1"].map .str)]:=((AZ.trans AZ).trans AZ).trans AZ
 refine EW (ui hw1 hw2 hj B hv') λi w z z' ok Z=>?_;subst z;subst z'
 exact fin i w _ p ok Z
end
set_option maxHeartbeats 2000000
section
variable {d:Nat} {σ:Af} {Q:BS} {X:CP} {n:Nat} {s:Sh} {e:En} {ss:List Sh} {es:List En}
noncomputable def uc:List Str:=["Box", "boxes", "", "names"]
noncomputable def uy:List Str:=["", "a ", " a", "a b"]
noncomputable def vb:List Str:=["", "1", "turn", "TURNS"]
noncomputable def u9:List Str:=["up", "", "turned ", "Upright"]
noncomputable abbrev yV:List Sx:=[BR (.var 4) (A8 (CD [AU 0,AU 1,AU 4,AU 4,AU 2,AU 4,AU 4,AU 4,AU 3,AU 1]) (Ah .Mod (AD 1) (AU 10))),Fy (Bj (AD 4) [.Eq] [AU 4]) [BR (.var 3) (A2 42 [Ah .FloorDiv (AD 1) (AU 10)])] [BR (.var 3) (A8 (A8 (AD 3) (AD 4)) (Ah .Mod (Ah .FloorDiv (AD 1) (AU 10)) (AU 4)))]]
abbrev vA:Sx:=Fy (Bj (AD 4) [.Eq] [AU 4]) [BR (.var 3) (A2 42 [Ah .FloorDiv (AD 1) (AU 10)])] [BR (.var 3) (A8 (A8 (AD 3) (AD 4)) (Ah .Mod (Ah .FloorDiv (AD 1) (AU 10)) (AU 4)))]
abbrev wZ:Sx:=CE (L5 " " (Ah .Add (Ah .Add (DD (AD 0) none (some (AD 2))) (CD [AD 3])) (DD (AD 0) (some (Ah .Add (AD 2) (AU 1))) none)))
theorem vO{G:Prop}{j:Nat}(B:∀i,i∈[2,3,5,6,7]->v=.int (i:Nat)->F=.int 4->G)(t0:v=.int 0->F=.int 0->G)(Z:v=.int 1->F=.int 1->G)(t2:v=.int 4->F=.int 2->G)(t3:v=.int 8->F=.int 3->G)(hj:j<10)(hv:[V.int 0,.int 1,.int 2,.int 3,.int 4,.int 5,.int 6,.int 7,.int 8,.int 1][j]?=some v)(M:[V.int 0,.int 1,.int 4,.int 4,.int 2,.int 4,.int 4,.int 4,.int 3,.int 1][j]?=some F):G:=by
 have s:∀{x y:V},some x=some y->y=x:=λh=>(AG h).symm
 exact DQ (P:=λj=>[V.int 0,.int 1,.int 2,.int 3,.int 4,.int 5,.int 6,.int 7,.int 8,.int 1][j]?=some v->[V.int 0,.int 1,.int 4,.int 4,.int 2,.int 4,.int 4,.int 4,.int 3,.int 1][j]?=some F->G) (λa b=>t0 (s a) (s b)) (DQ (λa b=>Z (s a) (s b))
  (DQ (λa b=>B 2 (by decide) (s a) (s b)) (DQ (λa b=>B 3 (by decide) (s a) (s b)) (DQ (λa b=>t2 (s a) (s b)) (DQ (λa b=>B 5 (by decide) (s a) (s b)) (DQ (λa b=>B 6 (by decide) (s a) (s b)) (DQ (λa b=>B 7 (by decide) (s a) (s b)) (DQ (λa b=>t3 (s a) (s b)) (DQ (λa b=>Z (s a) (s b)) T9))))))))) j hj hv M
theorem pF{c:Int}(hc:∀w∈e.words,Clean w)(en:σ[n]?=some (.list (e.words.map .str)))(q:∀w σ',VC (wordsOf w)->GU w->σ<+:σ'->Q (.str w) σ'):callW ER (d+2) 43 [.ref n,.int c] σ Q X:=by
 refine BG (fn:=T7) rfl rfl ?_
 refine Eg (v:=.str "box") en rfl rfl ?_
 refine Z9 (by decide +kernel) ?_
 have fin:∀(i:Nat) (w:Str) (v:V) (F:Af),σ<+:F->uU i w=true->Wd w->CE (L5 " " (Ah .Add (Ah .Add (DD (AD 0) none (some (AD 2))) (CD [AD 3])) (DD (AD 0) (some (Ah .Add (AD 2) (AU 1))) none))) (callW ER (d+1)) [.ref n,.int c,.int i,.str w,v,.undef] F (Jt Q X):=λi w v F p ok hw=>by
  have hi:i<9:=of_decide_eq_true (AJ.mp ok).1
  refine i4 (BP p en) (by decide:(9:Nat)<=12) (by exact Ec .le .v0 (.n 12) (.t .v0 (.n 9) .e) rfl hi) (λv Z=>(hc v Z).2.2.2) hw.len λσ' p'=>?_
  exact q _ _ (vC (λv Z=>(hc v Z).1) ok) (Jy (by rw[L0 (ws:=e.words) hi];exact(Ap rfl:(9:Nat)<=12)) λv Z=>(Ju Z).elim (λz=>z▸hw) λm=>(hc v m).wd) (p.trans p')
 have rest:∀(j:Nat) (v:V) (m a0 a1 a2 a3:Nat) (B:Af),j<10->c % ((10:Nat):Int)=j->[V.int 0,.int 1,.int 2,.int 3,.int 4,.int 5,.int 6,.int 7,.int 8,.int 1][j]?=some v->σ<+:B->B[m]?=some (.list [.ref a0,.ref a1,.ref a2,.ref a3])->B[a0]?=some (.list (uc.map .str))->B[a1]?=some (.list (uy.map .str))->B[a2]?=some (.list (vb.map .str))->B[a3]?=some (.list (u9.map .str))->
   Ek yV (callW ER (d+1)) [.ref n,.int c,v,.ref m,.undef,.undef] B (L4 (λM F=>Ek [wZ] (callW ER (d+1)) M F (Jt Q X)) (Jt Q X)):=λj v m a0 a1 a2 a3 B hj ej Z p em e0 e1 e2 e3=>by
  refine B5 rfl ?_
  refine H5 (k:=10) (vs:=[.int 0,.int 1,.int 4,.int 4,.int 2,.int 4,.int 4,.int 4,.int 3,.int 1]) Aa (by decide) rfl λj' v' hj' ej' hv'=>?_
  have zq:=EN (ej.symm.trans ej');subst zq
  have num:∀i,i∈[2,3,5,6,7]->v=.int (i:Nat)->v'=.int 4->Ek [vA] (callW ER (d+1)) [.ref n,.int c,v,.ref m,v',.undef] (B++[O.list [.int 0,.int 1,.int 4,.int 4,.int 2,.int 4,.int 4,.int 4,.int 3,.int 1]]) (L4 (λM F=>Ek [wZ] (callW ER (d+1)) M F (Jt Q X)) (Jt Q X)):=λi hi z z'=>by
   subst z;subst z'
   refine EK rfl ?_
   refine Xv λw hw=>?_
   exact fin i w _ _ (p.trans (AZ.trans AZ)) ((Mo hw).2.1 i hi) (Mo hw).2.2
  have tab:∀(i k a:Nat) (T:List Str),v=.int (i:Nat)->v'=.int (k:Nat)->k<4->[V.ref a0,.ref a1,.ref a2,.ref a3][k]?=some (.ref a)->B[a]?=some (.list (T.map .str))->T.length=4->(T.all λw=>uU i w&&xV w)=true->Ek [vA] (callW ER (d+1)) [.ref n,.int c,v,.ref m,v',.undef] (B++[O.list [.int 0,.int 1,.int 4,.int 4,.int 2,.int 4,.int 4,.int 4,.int 3,.int 1]]) (L4 (λM F=>Ek [wZ] (callW ER (d+1)) M F (Jt Q X)) (Jt Q X)):=λi k a T z z' hk hka ea hT hall=>by
   subst z;subst z'
   refine Ca (c:=((k:Nat):Int)=4) (λh=>absurd h (by exact λz0=>vc (.p .v0 (.n 4) (.t .v0 (.n 4) .e)) rfl z0 (BH.mpr hk))) λ_=>?_
   refine FG (v:=.ref a) (AX em) (AQ k) (by rw[A6];exact hka) ?_
   refine EK rfl ?_
   refine B5 rfl ?_
   refine H5 (k:=4) (vs:=T.map .str) (AX ea) (by decide) (by rw[AA,hT]) λj v hj ej Z=>?_
   refine AW (List.CA Z) λw hw ze=>?_;subst ze
   have:=AJ.mp (BF.mp hall w (Ae hw))
   exact fin i w _ _ (p.trans AZ) this.1 (VY this.2)
  exact vO num (λz z'=>tab 0 0 a0 uc z z' (by decide) rfl e0 rfl (by decide +kernel)) (λz z'=>tab 1 1 a1 uy z z' (by decide) rfl e1 rfl (by decide +kernel)) (λz z'=>tab 4 2 a2 vb z z' (by decide) rfl e2 rfl (by decide +kernel)) (λz z'=>tab 8 3 a3 u9 z z' (by decide) rfl e3 rfl (by decide +kernel)) hj Z hv'
 refine B5 rfl ?_
 refine H5 (k:=10) (vs:=[.int 0,.int 1,.int 2,.int 3,.int 4,.int 5,.int 6,.int 7,.int 8,.int 1]) Aa (by decide) rfl λj v hj ej Z=>?_
 refine Eb.Pj (AX (AX Aa)) Aa (Ap rfl) ?_
 exact rest j v _ _ _ _ _ _ hj ej Z (((((((AZ.trans AZ).trans AZ).trans AZ).trans AZ).trans AZ).trans AZ).trans AZ) Aa (AX (AX (AX (AX (AX (AX Aa)))))) (AX (AX (AX (AX (AX Aa))))) (AX (AX (AX (AX Aa)))) (AX (AX Aa))
end
set_option maxHeartbeats 2000000
section
variable {d:Nat} {σ:Af} {Q:BS} {X:CP} {n:Nat} {s:Sh} {e:En} {ss:List Sh} {es:List En}
structure nB(x:Str):Prop where
 rd:cY x
 no:I8 x (.error 104)
theorem js(h:Gf x=none)(B:ND x)(M:x.length<Cb)(F:(FT x).length<=1000):nB x:=⟨⟨B,M,F,λxs bs z=>by rw[h] at z;cases z⟩,.note h⟩
theorem Lv(h:∀r∈rs,GU r):ND (DN rs):=Ct.mpr λc F=>by
 replace F:c∈tl (DN rs):=F
 rw[KS] at F
 unfold K2 at F
 refine AW (List.mem_flatten.mp F) λl hl hm=>?_
 refine AW (Ab.mp hl) λr Z B=>?_;subst B
 refine AW (Ab.mp Z) λx M B=>?_;subst B
 refine A7 (An.mp hm) (λm=>?_) (λm=>?_)
 .exact Ct.mp (h x M).asc c m
 .rw[AM.mp m];decide
theorem JA(hn:rs.length<=800)(h:∀r∈rs,GU r):(DN rs).length<=800800:=by
 refine AF (VA q7 _) ?_
 have B:q7.length=0:=rfl
 rw[B,Pw,Pk]
 refine AF (RM (b:=1001) λx F=>?_) (by rw[AA];exact AF (B4 _ hn) (by decide))
 refine AW (Ab.mp F) λr M e=>?_
 rw[<- e,DV]
 exact BJ (h r M).len (by decide +kernel:Zt.length<=1)
theorem P4(hn:rs.length<=800)(h:∀r∈rs,GU r):kL rs:=⟨hn,λr B=>(h r B).len⟩
theorem QQ(hn:rs.length<=800)(h:∀r∈rs,GU r)(B:Gf (DN rs)=none):nB (DN rs):=
 js B (Lv h) (Al (JA hn h) (by decide)) (by rw[Mf λr F=>(h r F).nl];exact AF hn (by decide))
theorem UP(hn:rs.length<=800)(h:∀r∈rs,GU r)(hm:r∈rs)(B:VC (wordsOf r)):nB (DN rs):=QQ hn h (fv (λr F=>(h r F).nl) hm B)
theorem Y4{ws:List Str}{i:Nat}:HS (ws.map V.str) 0 (min ((i:Int)).toNat (ws.map V.str).length)=(ws.take i).map V.str:=by
 unfold HS
 rw[A6,KZ,AA,<- JR]
 congr 1
 by_cases h:i<=ws.length
 .rw[C3 h]
 .rw[C6 (by exact Dy .le .v0 .v1 (.m .v1 .v0 .e) rfl h),Bz,Dd (by exact Dy .le .v0 .v1 (.m .v1 .v0 .e) rfl h)]
theorem Yd{ws:List Str}{i:Nat}{k:Int}(B:k=i):HS (ws.map V.str) (min k.toNat (ws.map V.str).length) (ws.map V.str).length=(ws.drop i).map V.str:=by
 subst B
 unfold HS
 rw[A6,Bz,AA,<- K8]
 congr 1
 by_cases h:i<=ws.length
 .rw[C3 h]
 .rw[C6 (by exact Dy .le .v0 .v1 (.m .v1 .v0 .e) rfl h),EV,Ls (by exact Dy .le .v0 .v1 (.m .v1 .v0 .e) rfl h)]
theorem FU{a b:Nat}{x y:List Str}(F:σ[a]?=some (.list (x.map .str)))(B:σ[b]?=some (.list (y.map .str)))(M:x.length+y.length<=1000)(q:Q (.ref σ.length) (σ++[.list ((x++y).map .str)])):Eb σ Q .Add (.ref a) (.ref b):=
 .Pj F B (by rw[AA,AA];exact AF M (by decide)) (by rw[<- Ai];exact q)
abbrev vP(W:Ex):Ex:=A2 29 [Ah .Add (Ah .Add (DD (AD 4) none (some (AD 5))) (CD [W])) (DD (AD 4) (some (Ah .Add (AD 5) (AU 1))) none)]
theorem lk{R:List Str}{i:Nat}{W:Ex}{v0 v1 v2 Z v6:V}(er:σ[n]?=some (.list (R.map .str)))(hi:i<R.length)(hn:R.length<=700)(hf:∀r∈R,GU r)(hW:∀(B:Af) (K:BS),σ<+:B->(∀w F,VC (wordsOf w)->GU w->B<+:F->K (.str w) F)->W (callW ER (d+2)) [v0,v1,v2,Z,.ref n,.int i,v6,.undef] B K X)(q:∀x F,nB x->σ<+:F->Q (.str x) F) :
  vP W (callW ER (d+2)) [v0,v1,v2,Z,.ref n,.int i,v6,.undef] σ Q X:=by
 refine Lu er (AQ _) (by exact O0 .le .v0 (.n 1000000) (.t .v0 .v1 (.l .v1 (.n 700) .e)) rfl (BH.mpr hi) (A9.mpr hn)) ?_
 rw[Y4]
 refine hW _ _ AZ λw B hb fw M=>?_
 refine FU (x:=R.take i) (y:=[w]) (AX (BP M Aa)) Aa (by rw[B2];show _+1<=1000;exact Dy .le (.a .v0 .n1) (.n 1000) (.l .v0 .v1 (.l .v1 (.n 700) .e)) rfl (C7 _ _) hn) ?_
 refine OZ (AX (AX (BP (AZ.trans M) er))) (by exact Im .le .n0 (.a .v0 .n1) (.l .n0 .v0 .e) rfl (AQ _)) (by exact O0 .le (.a .v0 .n1) (.n 1000000) (.t .v0 .v1 (.l .v1 (.n 700) .e)) rfl (BH.mpr hi) (A9.mpr hn)) ?_
 rw[Yd (i:=i+1) (by exact C5 (O0 .le (.a .v0 .n1) .v1 (.p .v1 (.a .v0 .n1) .e) rfl (C2 _ _)) (O0 .le .v0 (.a .v1 .n1) (.q .v0 (.a .v1 .n1) .e) rfl (C2 _ _)))]
 have ll:(Je i w R).length=R.length:=L0 hi
 have fr:∀r∈Je i w R,GU r:=λr hr=>(Ju hr).elim (λz=>z▸fw) (hf r)
 refine FU (x:=R.take i++[w]) (y:=R.drop (i+1)) (AX Aa) Aa (by rw[AI,B2,CC,CV];exact Ll .le (.a (.a .v0 .n1) .v1) (.n 1000) (.q (.a .v1 (.a .v2 .n1)) .v3 (.l .v0 .v2 (.l .v3 (.n 700) .e))) rfl (Ag (Dy .le (.a .v0 .n1) .v1 (.t .v0 .v1 .e) rfl hi)) (Ce _ _) hn) ?_
 refine NN (rs:=Je i w R) Aa (P4 (by exact Dy .le .v0 (.n 800) (.q .v0 .v1 (.l .v1 (.n 700) .e)) rfl ll hn) fr) λF p'=>?_
 exact q _ _ (UP (by exact Dy .le .v0 (.n 800) (.q .v0 .v1 (.l .v1 (.n 700) .e)) rfl ll hn) fr (Cg _ (BB _ AL)) hb) (AZ.trans (M.trans (AZ.trans (AZ.trans (AZ.trans (AZ.trans p'))))))
theorem Dr.rF(D:Dr ss es)(hs:s∈ss):GU (DC s):=Jy (Ap rfl:(4:Nat)<=12) λw B=>(D.O6 hs w B).wd
theorem Dr.wK(D:Dr ss es)(B:e∈es):GU (C9 e):=Jy (Ap rfl:(9:Nat)<=12) λw F=>(D.clean B w F).wd
theorem Dr.M1(D:Dr ss es):∀r∈ss.map DC++es.map C9,GU r:=λr B=>(An.mp B).elim (λm=>by refine AW (Ab.mp m) λs hs e=>?_;exact e▸D.rF hs) λm=>by refine AW (Ab.mp m) λs hs e=>?_;exact e▸D.wK hs
theorem Dr.count(D:Dr ss es):∀r∈ss.map DC++es.map C9,(tl r).count 32=3\/(tl r).count 32=8:=λr F=>by
 have h:=Mh (r:=r)
 refine A7 (An.mp F) (λm=>?_) (λm=>?_)
 .refine AW (Ab.mp m) λs hs B=>?_;subst B
  rw[D.Uw hs] at h
  exact .inl (Et h).symm
 .refine AW (Ab.mp m) λs hs B=>?_;subst B
  rw[D.U0 hs] at h
  exact .inr (Et h).symm
theorem GV(h:(tl r).count 32≠3)(h':(tl r).count 32≠8):VC (wordsOf r):=UM (by rw[Mh];exact λF=>A7 (GZ h') (λB=>A7 (GZ h) (λM=>N6 (.t .v0 .n3 (.p (.a .v0 .n1) (.n 4) .e)) rfl M F) λM=>N6 (.t .n3 .v0 (.q (.a .v0 .n1) (.n 4) .e)) rfl M F) λB=>N6 (.t (.n 8) .v0 (.q (.a .v0 .n1) (.n 4) .e)) rfl B F) (by rw[Mh];exact λF=>A7 (GZ h') (λB=>N6 (.t .v0 (.n 8) (.p (.a .v0 .n1) (.n 9) .e)) rfl B F) λB=>N6 (.t (.n 8) .v0 (.q (.a .v0 .n1) (.n 9) .e)) rfl B F)
theorem Vy(hx:10∉tl x)(ax:ND x)(Z:x.length<=900)(hy:10∉tl y)(M:ND y)(F:y.length<=50):GU (x++y):=⟨by rw[DJ];exact λm=>(An.mp m).elim hx hy,Ct.mpr λc B=>by
  replace B:c∈tl (x++y):=B
  rw[DJ] at B
  exact(An.mp B).elim (Ct.mp ax c) (Ct.mp M c),by rw[DV];exact Dy .le (.a .v0 .v1) (.n 1000) (.l .v0 (.n 900) (.l .v1 (.n 50) .e)) rfl Z F⟩
theorem Zz(h:∀w∈ws,Clean w)(F:ws.length<=9):(Jb ws).length<=900:=AF (Vh λw B=>(h w B).2.2.2) (AF (B4 _ F) (by decide))
theorem Dr.Uz(D:Dr ss es):∀r∈ss.map DC++es.map C9,r.length<=900:=λr F=>(An.mp F).elim (λm=>by refine AW (Ab.mp m) λs hs e=>?_;exact e▸Zz (λw B=>D.O6 hs w B) (Ap rfl:(4:Nat)<=9)) λm=>by refine AW (Ab.mp m) λs hs e=>?_;exact e▸Zz (λw B=>D.clean hs w B) (Ap rfl:(9:Nat)<=9)
end
set_option maxHeartbeats 2000000
section
variable {d:Nat} {σ:Af} {Q:BS} {X:CP} {n:Nat} {s:Sh} {e:En} {ss:List Sh} {es:List En}
theorem XW(h:∀r∈rs,10∉tl r):(tl (DN rs)).count 10=rs.length:=by
 have F:=RP (c:=10) (l:=tl (DN rs))
 have B:=KS (rs:=rs)
 rw[B,S9 (by intro r Z;refine AW (Ab.mp Z) λx M e=>?_;exact e▸h x M),AI,AA] at F
 rw[B]
 exact(Et F).symm
theorem gQ(hn:R.length<=700)(h:∀x∈R,GU x)(B:GU r)(h0:tl r≠[]):nB (DN R++r):=by
 refine js ?_ (Ct.mpr λc F=>?_) ?_ ?_
 .unfold Gf
  rw[if_neg λz=>?_]
  have z:=Qm.mp z
  rw[DJ,List.getLast?_append] at z
  cases M:(tl r).getLast? with
  |none=>exact h0 (List.getLast?_eq_none_iff.mp M)
  |some a=>
   rw[M] at z
   have zq:=AG z;subst zq
   exact B.nl (List.mem_of_getLast? M)
 .replace F:c∈tl (DN R++r):=F
  rw[DJ] at F
  exact(An.mp F).elim (Ct.mp (Lv h) c) (Ct.mp B.asc c)
 .rw[DV]
  exact Al (BJ (JA (by exact Ec .le .v0 (.n 800) (.l .v0 (.n 700) .e) rfl hn) h) B.len) (by decide)
 .unfold FT
  rw[List.length_dropLast,OI,AA,RP,DJ,D9,XW λx Z=>(h x Z).nl,H4.mpr B.nl]
  exact Dy .le .v0 (.n 1000) (.q (.a .v0 .n1) (.a (.a .v1 .n0) .n1) (.l .v1 (.n 700) .e)) rfl (Ag (Ec .le .n1 (.a (.a .v0 .n0) .n1) .e rfl)) hn
theorem KX(h:((tl r).all (λc=>decide (c≠10)&&decide (c<128))&&decide (r.length<=1000))=true):GU r:=by
 simp only[BK,BF,decide_eq_true_eq] at h
 exact⟨λm=>(h.1 _ m).1 rfl,Ct.mpr λc B=>(h.1 c B).2,h.2⟩
theorem Dr.behind(D:Dr ss es)(hs:s∈ss)(B:Mine.Internal.Qw (wordsOf z)=some b)(F:GU z):Gf (DN (ss.map DC++[z]++[DC s]))=none:=by
 rw[Ji (λe=>by have:=congrArg RY e;rw[AI] at this;exact absurd this (DS _)) λr M=>?_]
 .rw[Ai,Ai,FJ,FJ,OE D ss (λ_ h=>h) []]
  refine(?_:((GC _ (wordsOf z)).bind _ |>.bind _ |>.bind _)=none)
  rw[Q4 B]
  refine(?_:((GC (_,[b]) (wordsOf (DC s))).bind _ |>.bind _)=none)
  rw[D.Uw hs]
  rfl
 .refine A7 (An.mp M) (λm=>?_) (λm=>?_)
  .refine A7 (An.mp m) (λm=>?_) (λm=>?_)
   .refine AW (Ab.mp m) λs hs e=>?_;exact e▸D.Zt hs
   .rw[AM.mp m];exact F.nl
  .rw[AM.mp m];exact D.Zt hs
theorem Dr.x5(D:Dr ss es):Gf (DN (es.map C9))=none:=by
 by_cases h:es=[]
 .rw[h];exact lL
 rw[Ji (λe=>h (Cy.mp e)) λr B=>?_,Pz D es λ_ h=>h]
 .rfl
 .refine AW (Ab.mp B) λs hs e=>?_;exact e▸D.yC hs
theorem ig(h:r=B++(z++32::rest))(Z:32∉B)(F:9∈z)(hz:32∉z):VC (wordsOf (E4 r)):=by
 rw[Q5,iS,h,<- Aq,QL,Ob (by exact λm=>(An.mp m).elim Z hz)]
 have k:∀x:Str,9∉tl x->E4 (B++z)≠x:=λx M e=>M (e▸(BB _ F:9∈B++z))
 exact RQ (k _ (by decide +kernel)) (k _ (by decide +kernel))
theorem Dr.mQ(D:Dr ss es)(F:r∈ss.map DC++es.map C9):32∈tl r:=by
 refine QI λh=>?_
 have:=D.count r F
 rw[H4.mpr h] at this
 exact A7 this (λB=>YM [] (.p .n0 .n3 .e) rfl B) (λB=>YM [] (.p .n0 (.n 8) .e) rfl B)
theorem Dr.KA(D:Dr ss es)(hr:r∈ss.map DC++es.map C9)(hk:1<=k)(hk3:k<=3)(hz:z∈[AH "  ", AH "\t", AH "\t ", AH ""]):VC (wordsOf (Ly 32 r z k))/\GU (Ly 32 r z k):=by
 have hc:=D.count r hr
 have hl:k<=r.length+1:=by
  have h1:=bu (a:=32) (l:=tl r)
  have h2:(tl r).length=r.length:=rfl
  exact A7 hc (λM=>Ll .le .v0 (.a .v1 .n1) (.l .v0 .n3 (.p .v2 .n3 (.l .v2 .v3 (.q .v3 .v1 .e)))) rfl hk3 M h1 h2) (λM=>Ll .le .v0 (.a .v1 .n1) (.l .v0 .n3 (.p .v2 (.n 8) (.l .v2 .v3 (.q .v3 .v1 .e)))) rfl hk3 M h1 h2)
 refine FZ (Xq (z:=z) hk hl (D.mQ hr)) λp0 m rest m1 mk et hp B=>?_
 have fr:=D.M1 r hr
 have f9:=D.Uz r hr
 have ro:=pX (x:=r) (z:=z) (k:=k)
 have Z:((tl z).all (λc=>decide (c≠10)&&decide (c<128))&&decide (z.length<=2))=true:=(by decide +kernel:∀z∈[AH "  ", AH "\t", AH "\t ", AH ""],((tl z).all (λc=>decide (c≠10)&&decide (c<128))&&decide (z.length<=2))=true) z hz
 simp only[BK,BF,decide_eq_true_eq] at Z
 refine⟨?_,⟨λh=>(ro.1 _ h).elim fr.nl λq=>(Z.1 _ q).1 rfl,Ct.mpr λc h=>(ro.1 c h).elim (Ct.mp fr.asc c) λq=>(Z.1 c q).2,?_⟩⟩
 .by_cases h2:(tl z).count 32=1
  .have hzz:z=AH "\t ":=by
    refine A7 (Ao.mp hz) (λe=>?_) (λm=>?_)
    .rw[e] at h2;exact absurd h2 (by decide +kernel)
    refine A7 (Ao.mp m) (λe=>?_) (λm=>?_)
    .rw[e] at h2;exact absurd h2 (by decide +kernel)
    refine A7 (Ao.mp m) (λe=>?_) (λm=>?_)
    .exact e
    .rw[AM.mp m] at h2;exact absurd h2 (by decide +kernel)
   rw[hzz] at et ⊢
   exact ig (z:=[9]) (rest:=rest) et hp (by decide) (by decide)
  .have h3:(tl z).count 32=0\/(tl z).count 32=2:=by
    have:=bu (a:=32) (l:=tl z)
    have h4:(tl z).length=z.length:=rfl
    exact Bc.mpr λM=>A7 (GZ M) (λz1=>BC (Ec .le .v0 .n2 (.t .v0 .n0 .e) rfl z1) (Ec .le .n2 .v0 (.w 2 (.t .v0 .n0 .e)) rfl z1)) (λz1=>A7 (GZ h2) (λF=>BC (Ec .le .v0 .n2 (.t .v0 .n1 .e) rfl F) (Ec .le .n2 .v0 (.w 2 (.t .n0 .v0 (.t .v0 .n1 .e))) rfl z1 F)) λF=>BC (HW .le .v0 .n2 (.l .v0 .v1 (.q .v1 .v2 (.l .v2 .n2 .e))) rfl this h4 Z.2) (Ec .le .n2 .v0 (.t .n1 .v0 .e) rfl F))
   refine A7 h3 (λh3=>?_) (λh3=>?_)
   .rw[h3,Pw] at B
    exact GV (λM=>A7 hc (λF=>fJ (.q .v0 .n3 (.p .v1 .n3 (.q (.a .v1 .v2) (.a .v0 .n0) (.l .n1 .v2 .e)))) rfl F M B m1) λF=>xb (.p .v0 (.n 8) (.p (.a .v1 .v2) (.a .v0 .n0) (.q .v1 .n3 (.l .v2 .v3 (.l .v3 .n3 .e))))) rfl F B M mk hk3)
     λM=>A7 hc (λF=>fJ (.q .v0 .n3 (.p .v1 (.n 8) (.q (.a .v1 .v2) (.a .v0 .n0) (.l .n1 .v2 .e)))) rfl F M B m1) λF=>fJ (.q .v0 (.n 8) (.p .v1 (.n 8) (.q (.a .v1 .v2) (.a .v0 .n0) (.l .n1 .v2 .e)))) rfl F M B m1
   .rw[h3,Nat.mul_comm] at B
    exact GV (λM=>A7 hc (λF=>fJ (.p .v0 .n3 (.q .v1 .n3 (.p (.a .v1 .v2) (.a .v0 (.m 2 .v2)) (.l .n1 .v2 .e)))) rfl F M B m1) λF=>fJ (.p .v0 (.n 8) (.q .v1 .n3 (.p (.a .v1 .v2) (.a .v0 (.m 2 .v2)) (.l .n1 .v2 .e)))) rfl F M B m1)
     λM=>A7 hc (λF=>xb (.q .v0 .n3 (.p .v1 (.n 8) (.q (.a .v1 .v2) (.a .v0 (.m 2 .v2)) (.l .v2 .v3 (.l .v3 .n3 .e))))) rfl F M B mk hk3) λF=>fJ (.p .v0 (.n 8) (.q .v1 (.n 8) (.p (.a .v1 .v2) (.a .v0 (.m 2 .v2)) (.l .n1 .v2 .e)))) rfl F M B m1
 .have:=VB hk3 Z.2
  exact HW .le .v0 (.n 1000) (.l .v0 (.a .v1 .v2) (.l .v2 (.m 3 .n2) (.l .v1 (.n 900) .e))) rfl ro.2 this f9
end
set_option maxHeartbeats 2000000
section
variable {d:Nat} {σ:Af} {Q:BS} {X:CP} {n:Nat} {s:Sh} {e:En} {ss:List Sh} {es:List En}
noncomputable def Nt.tp(b:Nt):List Str×List Int×List Bool:=([b.name],[b.w,b.h,b.n,b.u,b.l],[b.t,b.r])
theorem gA(h:(Mine.Internal.Qw ws).map Nt.tp=some b.tp):Mine.Internal.Qw ws=some b:=by
 cases e:Mine.Internal.Qw ws with
 |none=>rw[e] at h;exact absurd h.symm (AY _)
 |some c=>
  rw[e] at h
  cases b;cases c
  cases h
  rfl
theorem LA{R:List Str}{i:Nat}(B:σ[n]?=some (.list (R.map .str)))(hi:i<R.length)(q:∀r,r∈R->R[i]?=some r->Q (.str r) σ):KD σ Q (.ref n) (.int i):=
 FG (v:=.str R[i]) B (AQ _) (by rw[A6,As,AO hi];rfl) (q _ (Dc hi) (AO hi))
theorem jY:(⟨(HS (DN (R++[r])).cps.toList 0 (((-1:Int)+((DN (R++[r])).length:Nat)).toNat)).toArray⟩:Str)=DN R++r:=by
 have h:(DN (R++[r])).length=(tl (DN (R++[r]))).length:=rfl
 refine RC ?_
 refine(?_:HS (tl (DN (R++[r]))) 0 _=_)
 rw[h,V8,Nx,DJ,Q7,DJ,<- Aq,DJ]
 exact bq
theorem Dr.split(D:Dr ss es):∃R r,ss.map DC++es.map C9=R++[r]:=by
 have h:ss.map DC++es.map C9≠[]:=λe=>D.ne (Cy.mp (Lr.mp e).1)
 exact⟨_,_,(Jm h).symm⟩
theorem iA{a b:Nat}{c m:Int}(D:Dr ss es)(ea:σ[a]?=some (.list ((ss.map DC).map .str)))(eb:σ[b]?=some (.list ((es.map C9).map .str)))(q:∀x F,nB x->σ<+:F->Q (.str x) F):callW ER (d+3) 44 [.ref a,.ref b,.int c,.int m] σ Q X:=by
 refine BG (fn:=XQ) rfl rfl ?_
 have hn:=D.n
 have hl:=D.len
 have rl:(ss.map DC++es.map C9).length=ss.length+es.length:=by rw[AI,AA,AA]
 refine FU ea eb (by rw[AA,AA];exact Dy .le (.a .v0 .v1) (.n 1000) (.l .v0 (.n 9) (.l .v1 (.n 89) .e)) rfl hn.2 hl) ?_
 have fr:=D.M1
 have er:(σ++[O.list ((ss.map DC++es.map C9).map .str)])[σ.length]?=some (.list ((ss.map DC++es.map C9).map .str)):=Aa
 refine Cu.LQ er ?_
 refine IY (by rw[AA,rl];exact VD .lt .n0 .v0 (.p .v0 (.a .v1 .v2) (.l .n0 .v2 (.l .n1 .v1 .e))) rfl (C2 _ _) (AQ _) (A9.mpr hn.1)) ?_
 have hp:0<((ss.map DC++es.map C9).map V.str).length:=by rw[AA,rl];exact Dy .lt .n0 (.a .v0 .v1) (.l .n1 .v0 .e) rfl hn.1
 refine AW (LG (c:=m) hp) λi hi ei=>?_
 rw[ei]
 rw[AA] at hi
 refine B5 rfl ?_
 refine Ca (λh0=>?_) λh0=>?_
 .refine lk er hi (by exact HW .le .v0 (.n 700) (.q .v0 (.a .v1 .v2) (.l .v1 (.n 9) (.l .v2 (.n 89) .e))) rfl rl hn.2 hl) fr (λB K p hK=>?_) λx F hx p'=>q x F hx (AZ.trans p')
  refine LA (BP p er) hi λr M _=>?_
  refine Na.mk (Al (fr r M).len (by decide)) ?_
  refine EK rfl ?_
  refine A7 (An.mp M) (λm=>?_) (λm=>?_)
  .refine AW (Ab.mp m) λs hs e=>?_
   have ew:EG r (sign 32)=s.words:=by rw[<- e];exact D.Uw hs
   rw[ew]
   exact pM (D.sh s hs) (D.O6 hs) Aa λw F hb fw p'=>hK w F hb fw (AZ.trans p')
  .refine AW (Ab.mp m) λs hs e=>?_
   have ew:EG r (sign 32)=s.words:=by rw[<- e];exact D.U0 hs
   rw[ew]
   exact pF (D.clean hs) Aa λw F hb fw p'=>hK w F hb fw (AZ.trans p')
 refine B5 rfl ?_
 refine Ca (λh1=>?_) λh1=>?_
 .refine NN er (P4 (by exact HW .le .v0 (.n 800) (.q .v0 (.a .v1 .v2) (.l .v1 (.n 9) (.l .v2 (.n 89) .e))) rfl rl hn.2 hl) fr) λB Z=>?_
  refine J0.str (AF (JA (by exact HW .le .v0 (.n 800) (.q .v0 (.a .v1 .v2) (.l .v1 (.n 9) (.l .v2 (.n 89) .e))) rfl rl hn.2 hl) fr) (by decide)) .no (.neg (by decide) (by decide) rfl) ?_
  refine FR D.split λR r eR=>?_
  rw[eR] at fr rl
  rw[eR,jY]
  have M:r∈R++[r]:=BB _ AL
  have hRl:R.length<=700:=by rw[AI,CV] at rl;exact HW .le .v0 (.n 700) (.q (.a .v0 .n1) (.a .v1 .v2) (.l .v1 (.n 9) (.l .v2 (.n 89) .e))) rfl rl hn.2 hl
  have fR:∀x∈R,GU x:=λx hx=>fr x (Cg _ hx)
  have hsp:=D.mQ (eR▸M)
  have h9:=D.Uz r (eR▸M)
  have hlen:=JA (rs:=R) (by exact Ec .le .v0 (.n 800) (.l .v0 (.n 700) .e) rfl hRl) fR
  refine B5 rfl ?_
  refine H5 (k:=4) (vs:=[AH "", AH " ", AH "\n\n", AH "x"].map .str) Aa (by decide) rfl λj v hj ej hv=>?_
  refine AW (List.CA hv) λw hw ze=>?_;subst ze
  have wl:w.length<=2:=(by decide +kernel:∀w∈[AH "", AH " ", AH "\n\n", AH "x"],w.length<=2) w (Ae hw)
  refine Eb.RS (by rw[DV];exact AF (BJ (BJ hlen h9) wl) (by decide)) ?_
  refine q _ _ ?_ (AZ.trans (Z.trans AZ))
  rw[D5]
  by_cases h2:w=AH "\n\n"
  .have e1:r++w=DN [r,AH ""]:=by rw[h2];exact RC (by rw[DJ,KS];show _=tl r++[10]++_;rw[Aq];rfl)
   rw[e1,<- Nx]
   refine UP (r:=AH "") (by rw[AI];show R.length+2<=800;exact Ec .le (.a .v0 .n2) (.n 800) (.l .v0 (.n 700) .e) rfl hRl) (λx hx=>(An.mp hx).elim (fR x) λm=>(Ao.mp m).elim (λe=>e▸fr r M) λm=>by rw[AM.mp m];exact KX (by decide +kernel)) (BB _ (Ad _ AL)) (GV (by decide +kernel) (by decide +kernel))
  .have fw:10∉tl w/\ND w:=by
    refine A7 (Ao.mp (Ae hw)) (λe=>?_) (λm=>?_)
    .rw[e];exact⟨by decide +kernel,by decide +kernel⟩
    refine A7 (Ao.mp m) (λe=>?_) (λm=>?_)
    .rw[e];exact⟨by decide +kernel,by decide +kernel⟩
    refine A7 (Ao.mp m) (λe=>?_) (λm=>?_)
    .exact absurd e h2
    .rw[AM.mp m];exact⟨by decide +kernel,by decide +kernel⟩
   exact gQ hRl fR (Vy (fr r M).nl (fr r M).asc h9 fw.1 fw.2 (by exact Ec .le .v0 (.n 50) (.l .v0 .n2 .e) rfl wl)) λe=>by rw[DJ] at e;rw[(Lr.mp e).1] at hsp;cases hsp
 refine B5 rfl ?_
 refine Ca (λh2=>?_) λh2=>?_
 .refine lk er hi (by exact HW .le .v0 (.n 700) (.q .v0 (.a .v1 .v2) (.l .v1 (.n 9) (.l .v2 (.n 89) .e))) rfl rl hn.2 hl) fr (λB K p hK=>?_) λx F hx p'=>q x F hx (AZ.trans p')
  refine LA (BP p er) hi λr M hri=>?_
  have h9:=D.Uz r M
  refine Eb.RS (AF (BJ h9 (by decide +kernel:(AH " ").length<=1)) (by decide)) ?_
  refine LA (BP p er) hi λr' hr' hri'=>?_
  have zq:=AG (hri.symm.trans hri');subst zq
  refine Eb.RS (AF (BJ (by decide +kernel:(AH " ").length<=1) h9) (by decide)) ?_
  refine EK rfl ?_
  refine B5 rfl ?_
  refine H5 (k:=4) (vs:=[AH "", AH " ", r++AH " ", AH " "++r].map .str) Aa (by decide) rfl λj v hj ej hv=>?_
  refine AW (List.CA hv) λw hw ze=>?_;subst ze
  have hc:=D.count r M
  have c1:(tl (AH " ")).count 32=1:=by decide +kernel
  have fi:=fr r M
  refine(λz:VC (wordsOf w)/\GU w=>hK w _ z.1 z.2 AZ) ?_
  refine A7 (Ao.mp (Ae hw)) (λe=>?_) (λm=>?_)
  .rw[e];exact⟨GV (by decide +kernel) (by decide +kernel),KX (by decide +kernel)⟩
  refine A7 (Ao.mp m) (λe=>?_) (λm=>?_)
  .rw[e];exact⟨GV (by decide +kernel) (by decide +kernel),KX (by decide +kernel)⟩
  refine A7 (Ao.mp m) (λe=>?_) (λm=>?_)
  .rw[e];exact⟨GV (by rw[DJ,D9,c1];exact λz0=>A7 hc (λz1=>N6 (.p .v0 .n3 (.q (.a .v0 .n1) .n3 .e)) rfl z1 z0) λz1=>N6 (.p .v0 (.n 8) (.q (.a .v0 .n1) .n3 .e)) rfl z1 z0) (by rw[DJ,D9,c1];exact λz0=>A7 hc (λz1=>N6 (.q .v0 .n3 (.p (.a .v0 .n1) (.n 8) .e)) rfl z1 z0) λz1=>N6 (.p .v0 (.n 8) (.q (.a .v0 .n1) (.n 8) .e)) rfl z1 z0),Vy fi.nl fi.asc h9 (by decide +kernel) (by decide +kernel) (by decide +kernel)⟩
  .rw[AM.mp m]
   refine⟨GV (by rw[DJ,D9,c1];exact λz0=>A7 hc (λz1=>N6 (.p .v0 .n3 (.q (.a .n1 .v0) .n3 .e)) rfl z1 z0) λz1=>N6 (.p .v0 (.n 8) (.q (.a .n1 .v0) .n3 .e)) rfl z1 z0) (by rw[DJ,D9,c1];exact λz0=>A7 hc (λz1=>N6 (.q .v0 .n3 (.p (.a .n1 .v0) (.n 8) .e)) rfl z1 z0) λz1=>N6 (.p .v0 (.n 8) (.q (.a .n1 .v0) (.n 8) .e)) rfl z1 z0),⟨?_,Ct.mpr λc hc=>?_,?_⟩⟩
   .rw[DJ];exact λm=>(An.mp m).elim (by decide +kernel) fi.nl
   .replace hc:c∈tl (AH " "++r):=hc
    rw[DJ] at hc
    exact(An.mp hc).elim (Ct.mp (by decide +kernel:ND (AH " ")) c) (Ct.mp fi.asc c)
   .rw[DV];exact AF (BJ (by decide +kernel:(AH " ").length<=1) h9) (by decide)
 refine B5 rfl ?_
 refine Ca (λh3=>?_) λh3=>?_
 .have fe:∀r∈es.map C9,GU r:=λr M=>fr r (BB _ M)
  refine NN (AX eb) (P4 (by rw[AA];exact Ec .le .v0 (.n 800) (.l .v0 (.n 89) .e) rfl hl) fe) λB Z=>?_
  exact q _ _ (QQ (by rw[AA];exact Ec .le .v0 (.n 800) (.l .v0 (.n 89) .e) rfl hl) fe D.x5) (AZ.trans Z)
 refine B5 rfl ?_
 refine Ca (λh4=>?_) λh4=>?_
 .refine FU (x:=ss.map DC) (y:=[AH "box zq 1 1 stays 0 0 0 upright"]) (AX (AX ea)) Aa (by rw[AA];show _+1<=1000;exact Ec .le (.a .v0 .n1) (.n 1000) (.l .v0 (.n 9) .e) rfl hn.2) ?_
  refine Lu (AX (AX (AX ea))) (by decide) (by decide) ?_
  have e1:HS ((ss.map DC).map V.str) 0 (min (1:Int).toNat ((ss.map DC).map V.str).length)=((ss.map DC).take 1).map V.str:=Y4 (i:=1)
  refine FR (HQ D.ne) λs t e2=>?_
  have hs:s∈ss:=e2▸AL
  rw[e1,show (ss.map DC).take 1=[DC s] by rw[e2];rfl]
  have fz:GU (AH "box zq 1 1 stays 0 0 0 upright"):=KX (by decide +kernel)
  have f4:∀r∈ss.map DC++[AH "box zq 1 1 stays 0 0 0 upright"]++[DC s],GU r:=λr M=>(An.mp M).elim (λm=>(An.mp m).elim (λm=>fr r (Cg _ m)) λm=>by rw[AM.mp m];exact fz) λm=>by rw[AM.mp m];exact D.rF hs
  refine FU (x:=ss.map DC++[AH "box zq 1 1 stays 0 0 0 upright"]) (y:=[DC s]) (AX Aa) Aa (by rw[AI,AA];show _+1+1<=1000;exact Ec .le (.a (.a .v0 .n1) .n1) (.n 1000) (.l .v0 (.n 9) .e) rfl hn.2) ?_
  refine NN Aa (P4 (by rw[AI,AI,AA];show _+1+1<=800;exact Ec .le (.a (.a .v0 .n1) .n1) (.n 800) (.l .v0 (.n 9) .e) rfl hn.2) f4) λB Z=>?_
  refine q _ _ (QQ (by rw[AI,AI,AA];show _+1+1<=800;exact Ec .le (.a (.a .v0 .n1) .n1) (.n 800) (.l .v0 (.n 9) .e) rfl hn.2) f4 (D.behind hs (b:=⟨AH "zq", 1,1,false,0,0,0,false⟩) (gA (by decide +kernel)) fz)) (AZ.trans (AZ.trans (AZ.trans (AZ.trans (AZ.trans Z)))))
 refine EK rfl ?_
 refine B5 rfl ?_
 refine AW (LG (c:=m / 60) (by decide:0<4)) λj hj ej=>?_
 rw[show (m / 60 % 4:Int)=j from ej]
 obtain⟨z,hz⟩:∃z,[AH "  ", AH "\t", AH "\t ", AH ""][j]?=some z:=⟨_,AO hj⟩
 refine gM.mk hz ?_
 refine lk er hi (by exact HW .le .v0 (.n 700) (.q .v0 (.a .v1 .v2) (.l .v1 (.n 9) (.l .v2 (.n 89) .e))) rfl rl hn.2 hl) fr (λB K p hK=>?_) λx F hx p'=>q x F hx (AZ.trans p')
 refine LA (BP p er) hi λr M _=>?_
 refine⟨trivial,?_⟩
 refine EK rfl ?_
 refine B5 rfl ?_
 refine AW (LG (c:=m / 20) (by decide:0<3)) λk hk ek=>?_
 rw[show (m / 20 % 3:Int)=k from ek]
 refine(?_:ae B K 32 (.str r) (.str z) (.int (1+(k:Int))))
 rw[show (1+(k:Int))=((k+1:Nat):Int) by exact C5 (O0 .le (.a .n1 .v0) .v1 (.p .v1 (.a .v0 .n1) .e) rfl (C2 _ _)) (O0 .le .v0 (.a .n1 .v1) (.q .v0 (.a .v1 .n1) .e) rfl (C2 _ _))]
 have hzm:=Ae hz
 have h9:=D.Uz r M
 have hz2:z.length<=2/\z≠sign 32:=(by decide +kernel:∀z∈[AH "  ", AH "\t", AH "\t ", AH ""],z.length<=2/\z≠sign 32) z hzm
 have D':=D.KA M (k:=k+1) (by exact Ec .le .n1 (.a .v0 .n1) .e rfl) (by exact Ec .le (.a .v0 .n1) .n3 (.t .v0 .n3 .e) rfl hk) hzm
 refine ae.mk hz2.2 (IK (Au (by decide) (AQ _)) (Au (A9.mpr hk) (by decide))) (AF (BJ h9 (VB (by exact Ec .le (.a .v0 .n1) .n3 (.t .v0 .n3 .e) rfl hk:k+1<=3) hz2.1)) (by decide)) ?_
 exact hK _ _ D'.1 D'.2 (A5 _)
end
set_option maxHeartbeats 2000000
section
variable {d:Nat} {σ:Af} {Q:BS} {X:CP} {n:Nat} {s:Sh} {e:En} {ss:List Sh} {es:List En} {K:Bool->Prop} {z:Str}
theorem N5{R:List Str}(e:σ[n]?=some (.list (R.map .str))):Tp σ 6 (.ref n)=some (.list (R.map PyData.str)):=Ub (m:=5) e λ_ _=>rfl
theorem Om{m:Nat}{R:List Str}(e:σ[n]?=some (.list (R.map .str)))(B:σ[m]?=some (.list []))(hs:∀r∈R,ND r)(q:R≠[]->K false)(F:R=[]->K true):F6 σ K .Eq (.ref n) (.ref m):=by
 have M:Tp σ 6 (.ref m)=some (.list []):=N5 (R:=[]) B
 refine .eq (N5 e) M (Tz λx Z=>(hs x Z).ok) rfl ?_
 cases R with
 |nil=>exact F rfl
 |cons x l=>exact q (Bi _ _)
noncomputable def uW:List Str:=["0", "1000001", "9999999"]
noncomputable def aO(r:Str):Bool:=(tl r).all (λc=>decide (c≠10)&&decide (c<128))&&decide (r.length<=1000)
noncomputable def Vr(z:Str):Bool:=aO z&&(decide ((wordsOf z).head?=some "shelf")&&match aQ (wordsOf z) with
 |some x=>!(decide (1<=x.W/\x.W<=1000000)&&decide (1<=x.H/\x.H<=1000000))
 |none=>false)
noncomputable def SY(z:Str):Bool:=aO z&&match Qw (wordsOf z) with
 |some b=>!(Bk b.name&&(decide (CI b.w)&&decide (CI b.h)))
 |none=>false
theorem lT(D:Dr ss es)(h:Vr z=true):Fz (Je i z (ss.map DC)++es.map C9) 44 89:=by
 unfold Vr at h
 have h:=AJ.mp h
 have B:=AJ.mp h.2
 cases e:Mine.Internal.aQ (wordsOf z) with
 |none=>rw[e] at B;exact absurd B.2 BD
 |some x=>
  rw[e] at B
  refine D.uJ (KX h.1) (of_decide_eq_true B.1) e λg=>?_
  have F:=B.2
  simp only[decide_eq_true g.w,decide_eq_true g.h] at F
  exact absurd F (by decide)
theorem WC(D:Dr ss es)(h:SY z=true):Fz (ss.map DC++es.map C9++[z]) 56 90:=by
 unfold SY at h
 have h:=AJ.mp h
 have B:=h.2
 cases e:Mine.Internal.Qw (wordsOf z) with
 |none=>rw[e] at B;exact absurd B BD
 |some b=>
  rw[e] at B
  refine D.Uv (KX h.1) e (.box λg=>?_)
  simp only[decide_eq_true g.2.1,decide_eq_true g.2.2,g.1] at B
  exact absurd B (by decide)
theorem Fz.mono(h:Fz R k m)(hm:m<=m'):Fz R k m':=⟨h.M1,by
 obtain⟨xs,bs,B,M,F,Z⟩:=h.err
 exact⟨xs,bs,B,M,AF F hm,Z⟩⟩
theorem Ny(h:sign 32++Jb [Cp 1,Cp 1,Mw t,Cp n,Cp 0,Cp l,My r]=" 1 1 "++w):"box "++x++" 1 1 "++w=C9 ⟨x,1,1,t,n,0,l,r⟩:=by
 have F:"box "="box"++sign 32:=by decide +kernel
 unfold C9 En.words
 have B:Jb ["box", x,Cp 1,Cp 1,Mw t,Cp n,Cp 0,Cp l,My r]="box"++sign 32++(x++sign 32++Jb [Cp 1,Cp 1,Mw t,Cp n,Cp 0,Cp l,My r]):=rfl
 rw[B,F,D5 x,h]
 simp only[D5]
noncomputable def Sj:List Str:=["stays 0 0 0 turned", "turns 9 0 0 upright", "turns 0 0 9999999 upright"]
theorem Dr.Sj(D:Dr ss es)(B:Bk x=true)(F:x∉es.map (·.name))(M:w∈Sj):Fz (ss.map DC++es.map C9++["box "++x++" 1 1 "++w]) 80 90:=by
 rcases Ao.mp M with e | m
 .rw[e,Ny (t:=false) (r:=true) (n:=0) (l:=0) (by decide +kernel)]
  exact D.Ux B F ⟨.inl ⟨rfl,rfl⟩,by decide,by decide,by decide⟩
 rcases Ao.mp m with e | m
 .rw[e,Ny (t:=true) (r:=false) (n:=9) (l:=0) (by decide +kernel)]
  exact D.Ux B F ⟨.inr (.inl rfl),by decide,by decide,by decide⟩
 .rw[AM.mp m,Ny (t:=true) (r:=false) (n:=0) (l:=9999999) (by decide +kernel)]
  exact D.Ux B F ⟨.inr (.inr (by decide)),by decide,by decide,by decide⟩
end
set_option maxHeartbeats 2000000
section
variable {d:Nat} {σ:Af} {Q:BS} {X:CP} {n:Nat} {s:Sh} {e:En} {ss:List Sh} {es:List En} {z:Str}
theorem ID{R:List Str}{c:Int}{k:Nat}(e:σ[n]?=some (.list (R.map .str)))(hk:0<k)(Z:R.length=k)(q:∀w∈R,Q (.str w) σ):KD σ Q (.ref n) (.int (c % (k:Int))):=
 H5 e hk (by rw[AA];exact Z) λj v hj ej F=>by
  refine AW (List.CA F) λw M B=>?_;subst B
  exact q w (Ae M)
theorem Hk(M:x.length<=a)(B:y.length<=b)(F:a+b<=5000)(q:(x++y).length<=a+b->Q (.str (x++y)) σ):Eb σ Q .Add (.str x) (.str y):=Jv M B (AF F (by decide)) q
structure kF(ns:List Str)(es:List En)(x y:Str):Prop where
 y6:ns[15]?=some y
 xy:ns[16]?=some x
 good:Bk x=true
 rG:Bk y=true
 ne:x≠y
 new:x∉es.map (·.name)
theorem MJ(h:Bk x=true):x.length<=12:=by
 unfold Bk at h
 exact of_decide_eq_true (AJ.mp (AJ.mp h).2).1
noncomputable abbrev yG:List Sx:=[Fy (Bj (AD 1) [.Eq] [CD []]) [BR (.var 1) (CD [BE "box zq 1 1 stays 0 0 0 upright"])] [],
  CE (Dw [A2 29 [Ah .Add (Ah .Add (AD 0) (AD 1)) (CD [A8 (AD 1) (Ah .Mod (AD 3) (DW .len [AD 1]))])],BE "twice"])]
theorem aN{a b nn:Nat}{c m:Int}{ns:List Str}{x y:Str}(D:Dr ss es)(ea:σ[a]?=some (.list ((ss.map DC).map .str)))(eb:σ[b]?=some (.list ((es.map C9).map .str)))(en:σ[nn]?=some (.list (ns.map .str)))(F:kF ns es x y)(q:∀R k B,Fz R k 90->R.length<=300->σ<+:B->Q (.tup [.str (DN R),.str (NA k)]) B):callW ER (d+2) 45 [.ref a,.ref b,.int c,.int m,.ref nn] σ Q X:=by
 refine BG (fn:=Xh) rfl rfl ?_
 have hn:=D.n
 have hl:=D.len
 have la:(ss.map DC).length=ss.length:=AA _
 have lb:(es.map C9).length=es.length:=AA _
 have fin:∀{R:List Str} {k j:Nat} {B:Af} {w:Str},B[j]?=some (.list (R.map .str))->Fz R k 90->R.length<=300->w=NA k->σ<+:B->callW ER (d+1) 29 [.ref j] B (λv σ''=>Q (.tup [v,.str w]) σ'') X:=λ{R k j B w} ej W hR hw p=>by
  subst hw
  exact NN ej ⟨by exact Ec .le .v0 (.n 800) (.l .v0 (.n 300) .e) rfl hR,λr hr=>(W.M1 r hr).len⟩ λσ'' p''=>q R k σ'' W hR (p.trans p'')
 refine Eg (v:=.str x) en rfl (by rw[As];show I0 V.str ns[16]?=_;rw[F.xy];rfl) ?_
 refine B5 rfl ?_
 refine ID (R:=uW) (k:=3) Aa (by decide) rfl λw hw=>?_
 have wl:w.length<=7:=(by decide +kernel:∀w∈uW,w.length<=7) w hw
 have xl:=MJ F.good
 refine B5 rfl ?_
 refine Ca (λh0=>?_) λh0=>?_
 .refine EK rfl ?_
  refine Cu.LQ (AX ea) ?_
  refine IY (by rw[AA,la];exact Im .lt .n0 .v0 (.l .n1 .v0 .e) rfl (A9.mpr hn.1)) ?_
  refine AW (LG (c:=m / 3) (show 0<((ss.map DC).map V.str).length by rw[AA,la];exact Ec .lt .n0 .v0 (.l .n1 .v0 .e) rfl hn.1)) λi hi ei=>?_
  rw[ei]
  rw[AA] at hi
  refine Hk (a:=6) (by decide +kernel) wl (by decide) λz1=>?_
  refine Hk (b:=6) z1 (by decide +kernel) (by decide) λ_=>?_
  refine Hk (a:=8) (by decide +kernel) wl (by decide) λz1=>?_
  refine Hk (b:=6) z1 (by decide +kernel) (by decide) λ_=>?_
  refine EK rfl ?_
  refine B5 rfl ?_
  refine ID (R:=[AH "shelf "++w++AH " 1 low", AH "shelf 1 "++w++AH " left"]) (k:=2) Aa (by decide) rfl λz hz=>?_
  have hb:Vr z=true:=by
   have k:=(by decide +kernel:∀w∈uW,(Vr (AH "shelf "++w++AH " 1 low")&&Vr (AH "shelf 1 "++w++AH " left"))=true) w hw
   have k:=AJ.mp k
   exact(Ao.mp hz).elim (λe=>e▸k.1) λh=>AM.mp h▸k.2
  have i9:i+1<=9:=AF hi (la▸hn.2)
  refine Lu (AX (AX ea)) (AQ _) (A9.mpr (AF (Iu i9) (by decide:9<=1000000))) ?_
  rw[Y4]
  refine FU (x:=(ss.map DC).take i) (y:=[z]) (AX Aa) Aa (by rw[B2];show _+1<=1000;exact HW .le (.a .v0 .n1) (.n 1000) (.l .v0 .v1 (.q .v1 .v2 (.l .v2 (.n 9) .e))) rfl (C7 _ _) la hn.2) ?_
  refine OZ (AX (AX (AX (AX (AX ea))))) (AQ (i+1)) (A9.mpr (AF i9 (by decide:9<=1000000))) ?_
  rw[Yd (i:=i+1) (k:=(i:Int)+1) rfl]
  refine FU (x:=(ss.map DC).take i++[z]) (y:=(ss.map DC).drop (i+1)) (AX Aa) Aa (by rw[AI,B2,CC,CV];exact Z5 .le (.a (.a .v0 .n1) .v1) (.n 1000) (.q (.a .v1 (.a .v2 .n1)) .v3 (.l .v0 .v2 (.q .v3 .v4 (.l .v4 (.n 9) .e)))) rfl (Ag (Dy .le (.a .v0 .n1) .v1 (.t .v0 .v1 .e) rfl hi)) (Ce _ _) la hn.2) ?_
  have ll:(Je i z (ss.map DC)).length=(ss.map DC).length:=L0 hi
  refine FU (x:=Je i z (ss.map DC)) (y:=es.map C9) Aa (AX (AX (AX (AX (AX (AX (AX eb))))))) (by exact Z5 .le (.a .v0 .v1) (.n 1000) (.q .v0 .v2 (.q .v1 .v3 (.q .v2 .v4 (.l .v3 (.n 89) (.l .v4 (.n 9) .e))))) rfl ll lb la hl hn.2) ?_
  refine fin (k:=44) Aa ((lT D hb).mono (by decide)) (by rw[AI];exact Z5 .le (.a .v0 .v1) (.n 300) (.q .v0 .v2 (.q .v1 .v3 (.q .v2 .v4 (.l .v3 (.n 89) (.l .v4 (.n 9) .e))))) rfl ll lb la hl hn.2) rfl ?_
  exact AZ.trans (AZ.trans (AZ.trans (AZ.trans (AZ.trans (AZ.trans (AZ.trans AZ))))))
 refine B5 rfl ?_
 refine Ca (λh1=>?_) λh1=>?_
 .refine Eb.mulL (k:=10) (AX ea) (by decide) (by rw[AA,la];exact AF (B4 _ hn.2) (by decide)) ?_
  rw[Vb]
  have rl:(KA (ss.map DC) 10).length=ss.length*10:=by rw[VZ,la]
  refine FU (x:=KA (ss.map DC) 10) (y:=es.map C9) Aa (AX (AX eb)) (by rw[rl,lb];exact AF (BJ (B4 10 hn.2) hl) (by decide)) ?_
  exact fin (k:=44) Aa (D.uD.mono (by decide)) (by rw[AI,rl,lb];exact AF (BJ (B4 10 hn.2) hl) (by decide)) rfl (AZ.trans (AZ.trans AZ))
 have fin2:∀{z w:Str} {k:Nat} {B:Af} {es':List En} {b':Nat} {v2 v3 v4 v5 v6 v7 v9 v10:V} {E:Ex},(∀M (K:BS),B<+:M->K (.str z) M->E (callW ER (d+1)) [.ref a,.ref b',v2,v3,v4,v5,v6,v7,v9,v10,.undef] M K X)->σ<+:B->B[b']?=some (.list ((es'.map C9).map .str))->es'.length<=89->Fz (ss.map DC++es'.map C9++[z]) k 90->w=NA k->
   CE (Dw [A2 29 [Ah .Add (Ah .Add (AD 0) (AD 1)) (CD [E])],BE w]) (callW ER (d+1)) [.ref a,.ref b',v2,v3,v4,v5,v6,v7,v9,v10,.undef] B (Jt Q X):=λ{z w k B es' b' v2 v3 v4 v5 v6 v7 v9 v10 E} hE p Z hl' W hw=>by
  refine FU (x:=ss.map DC) (y:=es'.map C9) (BP p ea) Z (by rw[la,AA];exact Dy .le (.a .v0 .v1) (.n 1000) (.l .v1 (.n 89) (.l .v0 (.n 9) .e)) rfl hl' hn.2) ?_
  refine hE _ _ AZ ?_
  refine FU (x:=ss.map DC++es'.map C9) (y:=[z]) (AX Aa) Aa (by rw[AI,la,AA];show _+1<=1000;exact Dy .le (.a (.a .v0 .v1) .n1) (.n 1000) (.l .v1 (.n 89) (.l .v0 (.n 9) .e)) rfl hl' hn.2) ?_
  exact fin Aa W (by rw[AI,AI,la,AA];show _+1<=300;exact Dy .le (.a (.a .v0 .v1) .n1) (.n 300) (.l .v1 (.n 89) (.l .v0 (.n 9) .e)) rfl hl' hn.2) hw (p.trans (AZ.trans (AZ.trans AZ)))
 refine B5 rfl ?_
 refine Ca (λh2=>?_) λh2=>?_
 .refine Hk (a:=7) (by decide +kernel) wl (by decide) λz1=>?_
  refine Hk (b:=2) z1 (by decide +kernel) (by decide) λ_=>?_
  refine Hk (a:=9) (by decide +kernel) wl (by decide) λz1=>?_
  refine EK rfl ?_
  refine B5 rfl ?_
  refine ID (R:=[AH "box zq "++w++AH " 1", AH "box zq 1 "++w]) (k:=2) Aa (by decide) rfl λz hz=>?_
  have hb:SY (z++AH " turns 9 0 0 turned")=true/\z.length<=50:=by
   have k:=(by decide +kernel:∀w∈uW,(SY (AH "box zq "++w++AH " 1"++AH " turns 9 0 0 turned")&&SY (AH "box zq 1 "++w++AH " turns 9 0 0 turned"))=true/\(AH "box zq "++w++AH " 1").length<=50/\(AH "box zq 1 "++w).length<=50) w hw
   have k':=AJ.mp k.1
   exact(Ao.mp hz).elim (λe=>e▸⟨k'.1,k.2.1⟩) λh=>AM.mp h▸⟨k'.2,k.2.2⟩
  refine Hk (b:=50) hb.2 (by decide +kernel) (by decide) λ_=>?_
  refine EK rfl ?_
  refine B5 rfl ?_
  refine Ca (λh3=>?_) λh3=>?_
  .refine EK rfl ?_
   refine B5 rfl ?_
   refine ID (R:=[AH "A", AH "abcdefghijklm", AH "a_b", AH "0."]) (k:=4) Aa (by decide) rfl λu hu=>?_
   have hu2:=(by decide +kernel:∀u∈[AH "A", AH "abcdefghijklm", AH "a_b", AH "0."],SY (AH "box "++u++AH " 1 1 turns 0 0 0 upright")=true/\u.length<=13) u hu
   refine Hk (a:=4) (by decide +kernel) hu2.2 (by decide) λz1=>?_
   refine Hk (b:=50) z1 (by decide +kernel) (by decide) λ_=>?_
   exact fin2 (k:=56) (λM K p h=>h) (AZ.trans (AZ.trans AZ)) (AX (AX (AX eb))) hl (WC D hu2.1) rfl
  .exact fin2 (k:=56) (λM K p h=>h) (AZ.trans AZ) (AX (AX eb)) hl (WC D hb.1) rfl
 refine B5 rfl ?_
 refine Ca (λh3=>?_) λh3=>?_
 .refine B5 rfl ?_
  refine ID (R:=Sj) (k:=3) Aa (by decide) rfl λu hu=>?_
  have ul:=(by decide +kernel:∀u∈Sj,u.length<=40) u hu
  refine Hk (a:=4) (by decide +kernel) xl (by decide) λz1=>?_
  refine Hk (b:=5) z1 (by decide +kernel) (by decide) λz1=>?_
  refine Hk z1 ul (by decide) λz1=>?_
  refine EK rfl ?_
  refine B5 rfl ?_
  have p2:σ<+:σ++[O.list (uW.map .str)]++[O.list (Sj.map .str)]:=AZ.trans AZ
  refine Ca (λh4=>?_) λh4=>?_
  .refine kj 1 (λρ' B=>∃b' es',σ<+:B/\Dr ss es'/\x∉es'.map (·.name)/\es'≠[]/\B[b']?=some (.list ((es'.map C9).map .str))/\ρ'=[.ref a,.ref b',.int c,.int m,.ref nn,.str x,.str w,.undef,.str (AH "box "++x++AH " 1 1 "++u),.undef,.undef]) (λR' hR'=>?_) λρ' B hI=>?_
   .refine Om (AX (BP p2 eb)) Aa (λr hr=>(D.PY.2 r hr).asc) (λh=>?_) λh=>?_
    .exact hR' _ _ ⟨b,es,p2.trans AZ,D,F.new,λe=>h (by rw[e];rfl),AX (BP p2 eb),rfl⟩
    .refine Eg (v:=.str y) (AX (BP p2 en)) rfl (by rw[As];show I0 V.str ns[15]?=_;rw[F.y6];rfl) ?_
     refine Hk (a:=4) (by decide +kernel) (MJ F.rG) (by decide) λz1=>?_
     refine Hk (b:=50) z1 (by decide +kernel) (by decide) λ_=>?_
     have e0:es=[]:=Cy.mp h
     have e1:AH "box "++y++AH " 1 1 stays 0 0 0 upright"=C9 ⟨y,1,1,false,0,0,0,false⟩:=by
      rw[<- Ny (w:=AH "stays 0 0 0 upright") (by decide +kernel),D5,D5,D5]
      congr 1
     rw[e0] at D
     refine hR' _ _ ⟨_,[⟨y,1,1,false,0,0,0,false⟩],p2.trans (AZ.trans AZ),D.one F.rG,λh=>F.ne (AM.mp h),Bi _ _,?_,rfl⟩
     rw[e1]
     exact Aa
   .refine Ej hI λb' es' p' D' hf hne Z ze1=>?_;subst ze1
    have hl':=D'.len
    have lp:=fG.mpr hne
    refine EK rfl ?_
    refine Cu.LQ Z ?_
    refine IY (by rw[AA,AA];exact BH.mpr lp) ?_
    refine AW (LG (c:=m / 6) (show 0<((es'.map C9).map V.str).length by rw[AA,AA];exact lp)) λi hi ei=>?_
    rw[ei]
    rw[AA] at hi
    refine LA Z hi λr hr _=>?_
    refine AW (Ab.mp hr) λe he er=>?_
    subst er
    refine Na.mk (Al (D'.PY.2 _ hr).len (by decide)) ?_
    have ew:EG (C9 e) (sign 32)=e.words:=D'.U0 he
    rw[ew]
    refine OZ (AX Aa) (by decide) (by decide) ?_
    rw[Yd (i:=2) (k:=2) rfl]
    refine FU (x:=[AH "box", x]) (y:=e.words.drop 2) (AX Aa) Aa (by decide:(2+7:Nat)<=1000) ?_
    have W:=(D'.xZ he F.good).clean
    refine TA.mk (ss:=(⟨x,e.w,e.h,e.t,e.n,e.u,e.l,e.r⟩:En).words) Aa (AF (BJ (RM (b:=65) λv hv=>(W v hv).2.2.2) (fb _ (by decide +kernel:(AH " ").length<=1))) (Ap rfl:(9*65+9*1:Nat)<=Cb)) ?_
    have e2:Cr (AH " ") (⟨x,e.w,e.h,e.t,e.n,e.u,e.l,e.r⟩:En).words=C9 ⟨x,e.w,e.h,e.t,e.n,e.u,e.l,e.r⟩:=by
     have e3:AH " "=sign 32:=by decide +kernel
     rw[e3];rfl
    rw[e2]
    exact fin2 (k:=80) (λM K p h=>h) (p'.trans (AZ.trans (AZ.trans (AZ.trans AZ)))) (AX (AX (AX (AX Z)))) hl' (D'.taken he F.good hf) rfl
  .exact fin2 (k:=80) (λM K p h=>h) p2 (BP p2 eb) hl (D.Sj F.good F.new hu) rfl
 refine(?_:Ek yG (callW ER (d+1)) _ _ (Jt Q X))
 refine kj 1 (λρ' B=>∃b' es',σ<+:B/\Dr ss es'/\es'≠[]/\B[b']?=some (.list ((es'.map C9).map .str))/\ρ'=[.ref a,.ref b',.int c,.int m,.ref nn,.str x,.str w,.undef,.undef,.undef,.undef]) (λR' hR'=>?_) λρ' B hI=>?_
 .refine Om (AX (AX eb)) Aa (λr hr=>(D.PY.2 r hr).asc) (λh=>?_) λh=>?_
  .exact hR' _ _ ⟨b,es,AZ.trans AZ,D,λe=>h (by rw[e];rfl),AX (AX eb),rfl⟩
  .have e0:es=[]:=Cy.mp h
   rw[e0] at D
   have e1:AH "box zq 1 1 stays 0 0 0 upright"=C9 ⟨AH "zq", 1,1,false,0,0,0,false⟩:=by decide +kernel
   refine hR' _ _ ⟨_,[⟨AH "zq", 1,1,false,0,0,0,false⟩],AZ.trans (AZ.trans AZ),D.one (by decide +kernel),Bi _ _,?_,rfl⟩
   rw[e1]
   exact Aa
 .refine TM hI λb' es' p' D' hne Z ze1=>?_;subst ze1
  have hl':=D'.len
  have lp:=fG.mpr hne
  refine AW (LG (c:=m) (show 0<((es'.map C9).map V.str).length by rw[AA,AA];exact lp)) λi hi ei=>?_
  have hi':i<(es'.map C9).length:=by rw[AA] at hi;exact hi
  have hie:i<es'.length:=by rw[AA] at hi';exact hi'
  refine fin2 (k:=68) (es':=es') (z:=C9 es'[i]) (λM K p h=>?_) p' Z hl' (D'.again (Dc hie)) rfl
  refine Cu.LQ (BP p Z) ?_
  refine IY (by rw[AA,AA];exact Im .lt .n0 .v0 (.t .n0 .v0 .e) rfl (BH.mpr lp)) ?_
  rw[ei]
  refine LA (BP p Z) hi' λr hr e=>?_
  rw[As,AO hie] at e
  rw[<- AG e]
  exact h
end
set_option maxHeartbeats 2000000
section
variable {d:Nat} {σ:Af} {Q:BS} {X:CP} {n:Nat} {s:Sh} {e:En} {ss:List Sh} {es:List En} {z:Str}
theorem Fz.x4(h:Fz R k m)(hm:m<127)(hl:R.length<=800):cY (DN R):=by
 refine⟨Lv h.M1,Al (JA hl h.M1) (by decide),by rw[Mf λr F=>(h.M1 r F).nl];exact Ec .le .v0 (.n 1000) (.l .v0 (.n 800) .e) rfl hl,λxs bs hx=>?_⟩
 refine ES h.note λxs' bs' h1 h3 _=>?_
 rw[h1] at hx
 cases AG hx
 refine⟨by exact Dy .lt .v0 (.n 127) (.l .v0 .v1 (.t .v1 (.n 127) .e)) rfl h3 hm,?_⟩
 refine ES h.err λZ bs2 M B _=>?_
 have g2:Gf (DN R)=some (Z,bs2):=by
  rw[Ji (λe=>?_) λr F=>(h.M1 r F).nl,M]
  .exact if_neg B
  .rw[e] at M;cases M;exact B rfl
 rw[h1] at g2
 cases AG g2
 exact(Se (T:=λw=>w.length<=1000) M (λws hws w hw=>by
  refine AW (Ab.mp hws) λr F er=>?_;subst er
  exact AF (Mi hw).2 (h.M1 r F).len) (λb hb=>absurd hb BU) λb hb=>absurd hb BU).1
theorem oY(h:Fz R k 90)(hl:R.length<=300)(h0:0<σ.length)(q:∀F,σ<+:F->Q (.bool true) F):callW ER (d+7) 46 [.str (DN R),.str (NA k),.int m] σ Q X:=by
 refine BG (fn:=XT) rfl rfl ?_
 refine EK rfl ?_
 refine B5 rfl ?_
 refine ID (R:=[AH "", AH "box B 1 1 turns 0 0 0 upright\n", AH "box zzz 1 1 turns 9 0 0 upright\n"]) (k:=3) Aa (by decide) rfl λw hw=>?_
 have wl:=(by decide +kernel:∀w∈[AH "", AH "box B 1 1 turns 0 0 0 upright\n", AH "box zzz 1 1 turns 9 0 0 upright\n"],w.length<=50) w hw
 have tl9:=JA (rs:=R) (by exact Ec .le .v0 (.n 800) (.l .v0 (.n 300) .e) rfl hl) h.M1
 refine Jv tl9 wl (by decide) λ_=>?_
 obtain⟨B,hR,W,Z⟩:∃B,DN R++w=DN B/\Fz B k 91/\B.length<=301:=by
  have one:∀{z:Str} {b:Nt},w=z++Zt->aO z=true->(Qw (wordsOf z)).map Nt.tp=some b.tp->∃B,DN R++w=DN B/\Fz B k 91/\B.length<=301:=λ{z b} e f hb=>
   ⟨R++[z],by rw[Nx,Q7,e],h.more (KX f) (gA hb),by rw[AI];exact C8 hl⟩
  refine A7 (Ao.mp hw) (λe=>?_) (λm=>?_)
  .refine⟨R,?_,h.mono (by decide),by exact Ec .le .v0 (.n 301) (.l .v0 (.n 300) .e) rfl hl⟩
   rw[e];exact RC (by rw[DJ];exact Bl _)
  refine A7 (Ao.mp m) (λe=>?_) (λm=>?_)
  .exact one (z:=AH "box B 1 1 turns 0 0 0 upright") (b:=⟨AH "B", 1,1,true,0,0,0,false⟩) (e.trans (by decide +kernel)) (by decide +kernel) (by decide +kernel)
  .exact one (z:=AH "box zzz 1 1 turns 9 0 0 upright") (b:=⟨AH "zzz", 1,1,true,9,0,0,false⟩) ((AM.mp m).trans (by decide +kernel)) (by decide +kernel) (by decide +kernel)
 rw[hR]
 have key:∀M,σ<+:M->KC true [Jh (Bj (A2 39 [AD 0]) [.Eq] [AD 1]),Jh (Bj (A2 40 [AD 0]) [.Eq] [AD 1]),A2 41 [AD 0]] (callW ER (d+6)) [.str (DN B),.str (NA k),.int m,.undef] M Q X:=λM p1=>
  Zu (x:=DN B) (y:=NA k) rfl (λσ Q h=>h) (λσ Q h=>h) rfl (W.x4 (by decide) (by exact Ec .le .v0 (.n 800) (.l .v0 (.n 301) .e) rfl Z)) (Ac h0 p1.length_le) W.read λF p'=>q F (p1.trans p')
 exact key _ AZ
theorem Ul(D:Dr ss es)(ea:σ[a]?=some (.list ((ss.map DC).map .str)))(eb:σ[b]?=some (.list ((es.map C9).map .str)))(en:σ[nn]?=some (.list (ns.map .str)))(F:kF ns es x y)(q:∀x B,nB x->σ<+:B->Q (.str x) B):callW ER (d+3) 47 [.ref a,.ref b,.int c,.int m,.ref nn] σ Q X:=by
 refine BG (fn:=X4) rfl rfl ?_
 refine aN D ea eb en F λR k σ1 W hl p=>?_
 refine EK rfl ?_
 refine B5 rfl ?_
 refine ID (R:=[AH "x\n", AH "\n", AH "box\n", AH "box a 1 1 turns 0 0 00 upright\n"]) (k:=4) Aa (by decide) rfl λw Z=>?_
 have wl:=(by decide +kernel:∀w∈[AH "x\n", AH "\n", AH "box\n", AH "box a 1 1 turns 0 0 00 upright\n"],w.length<=50) w Z
 have M:=JA (rs:=R) (by exact Ec .le .v0 (.n 800) (.l .v0 (.n 300) .e) rfl hl) W.M1
 refine Jv M wl (by decide) λ_=>?_
 refine q _ _ ?_ (p.trans AZ)
 have one:∀{z:Str},w=z++Zt->aO z=true->VC (wordsOf z)->nB (DN R++w):=λ{z} e f hb=>by
  rw[e,<- Q7,<- Nx]
  exact UP (r:=z) (by rw[AI];exact AF (C8 hl) (by decide)) (Ii W.M1 (QN (KX f))) (BB _ AL) hb
 refine A7 (Ao.mp Z) (λe=>?_) (λm=>?_)
 .exact one (z:=AH "x") (e.trans (by decide +kernel)) (by decide +kernel) (GV (by decide +kernel) (by decide +kernel))
 refine A7 (Ao.mp m) (λe=>?_) (λm=>?_)
 .exact one (z:=AH "") (e.trans (by decide +kernel)) (by decide +kernel) (GV (by decide +kernel) (by decide +kernel))
 refine A7 (Ao.mp m) (λe=>?_) (λm=>?_)
 .exact one (z:=AH "box") (e.trans (by decide +kernel)) (by decide +kernel) (GV (by decide +kernel) (by decide +kernel))
 .refine one (z:=AH "box a 1 1 turns 0 0 00 upright") ((AM.mp m).trans (by decide +kernel)) (by decide +kernel) ⟨λh=>absurd h (by decide +kernel),?_⟩
  have h:(Mine.Internal.Qw (wordsOf (AH "box a 1 1 turns 0 0 00 upright"))).map Nt.tp=none:=by decide +kernel
  exact Option.map_eq_none_iff.mp h
end
set_option maxHeartbeats 2000000
section
variable {d:Nat} {σ:Af} {Q:BS} {X:CP}
theorem GX(h:σ[0]?=some (.list (xs.map .int)))(B:0<=k)(q:Q (.int (cellAt xs k)) σ):callW ER (d+1) 24 [.ref 0,.int k] σ Q X:=by
 refine BG (fn:=Yv) rfl rfl ?_
 unfold cellAt at q
 refine Cu.LQ (by assumption) ?_
 rw[AA]
 refine Ca (λF=>?_) λF=>?_
 .have M:=(Zg B).mpr F
  rw[Ay,AO M] at q
  refine FG h B (v:=.int xs[k.toNat]) ?_ ?_
  .rw[As,AO M];rfl
  .exact q
 .rw[Ay,EP ((Int.le_toNat B).mpr (CG.mp F))] at q
  exact q
theorem d4{o x:Ot}(q:o.l+o.w<=x.l\/x.l+x.w<=o.l->Q (.bool true) σ)(B:¬(o.l+o.w<=x.l\/x.l+x.w<=o.l)->Q (.bool false) σ):callW ER (d+1) 31 [o.v,x.v,.int 0] σ Q X:=by
 refine BG (fn:=UJ) rfl rfl ?_
 refine lU (λh=>?_) λh=>?_
 .by_cases h':x.l+x.w<=o.l
  .refine(?_:Q (.bool _) _);rw[decide_eq_true h'];exact q (.inr h')
  .refine(?_:Q (.bool _) _);rw[decide_eq_false h'];exact B λz=>z.elim h h'
 .refine(?_:Q (.bool _) _);rw[decide_eq_true h];exact q (.inl h)
theorem cR{o x:Ot}(q:o.u+o.h<=x.u\/x.u+x.h<=o.u->Q (.bool true) σ)(B:¬(o.u+o.h<=x.u\/x.u+x.h<=o.u)->Q (.bool false) σ):callW ER (d+1) 31 [o.v,x.v,.int 1] σ Q X:=by
 refine BG (fn:=UJ) rfl rfl ?_
 refine lU (λh=>?_) λh=>?_
 .by_cases h':x.u+x.h<=o.u
  .refine(?_:Q (.bool _) _);rw[decide_eq_true h'];exact q (.inr h')
  .refine(?_:Q (.bool _) _);rw[decide_eq_false h'];exact B λz=>z.elim h h'
 .refine(?_:Q (.bool _) _);rw[decide_eq_true h];exact q (.inl h)
theorem tN{n:Nat}{os:List Ot}{o:Ot}{W H:Int}(e:σ[n]?=some (.list (os.map Ot.v)))(q:Gd (os.map Ot.low) H W o.h o.w o.u o.l->Q (.bool true) σ)(q':¬Gd (os.map Ot.low) H W o.h o.w o.u o.l->Q (.bool false) σ):callW ER (d+2) 32 [.ref n,o.v,.int W,.int H] σ Q X:=by
 refine BG (fn:=YS) rfl rfl ?_
 refine Ca (λh1=>?_) λh1=>?_
 .exact q' λg=>absurd g.s0 (FI.mpr h1)
 refine Ca (λh2=>?_) λh2=>?_
 .exact q' λg=>absurd g.p0 (FI.mpr h2)
 refine Ca (λh3=>?_) λh3=>?_
 .exact q' λg=>absurd g.s1 (FI.mpr h3)
 refine Ca (λh4=>?_) λh4=>?_
 .exact q' λg=>absurd g.p1 (FI.mpr h4)
 refine HV (λi ρ' Z=>Z=σ/\(∃a,ρ'=[.ref n,o.v,.int W,.int H,a,.undef])/\∀x∈os.take i,Clear o.h o.w o.u o.l x.low) e ⟨rfl,⟨_,rfl⟩,λx F=>by rw[NK] at F;cases F⟩ (λi v ρ' Z R hv hI hR=>?_) λρ' Z hI=>?_
 .refine FD hI λB M hc=>Cq M λa ze3=>?_;subst B;subst ze3
  refine AW (List.CA hv) λx F B=>?_;subst B
  have hn:Clear o.h o.w o.u o.l x.low->∀y∈os.take (i+1),Clear o.h o.w o.u o.l y.low:=λh y hy=>by
   rw[HF F] at hy
   exact(An.mp hy).elim (hc y) λm=>AM.mp m▸h
  refine d4 (λh5=>?_) λh5=>?_
  .exact hR _ _ e ⟨rfl,⟨_,rfl⟩,hn (h5.elim (λh=>.inr (.inr (.inl h))) λh=>.inr (.inr (.inr h)))⟩
  refine cR (λh6=>?_) λh6=>?_
  .exact hR _ _ e ⟨rfl,⟨_,rfl⟩,hn (h6.elim .inl λh=>.inr (.inl h))⟩
  refine q' λg=>?_
  refine PO (g.clear x.low (Ab.mpr ⟨x,Ae F,rfl⟩)) (λh=>?_) (λh=>?_) (λh=>?_) (λh=>?_)
  .exact h6 (.inl h)
  .exact h6 (.inr h)
  .exact h5 (.inl h)
  .exact h5 (.inr h)
 .refine FD hI λB M hc=>Cq M λa ze3=>?_;subst B;subst ze3
  rw[AA,Bz] at hc
  exact q ⟨CG.mp h2,CG.mp h1,CG.mp h4,CG.mp h3,λy hy=>by refine AW (Ab.mp hy) λx F B=>?_;subst B;exact hc x F⟩
end
section
variable {d:Nat} {σ:Af} {Q:BS} {X:CP} {m:Int} {hs:List En} {ss:List Sh}
theorem Qy{e:En}(q:Q e.ot.v σ):callW ER (d+1) 33 [e.one] σ Q X:=by
 refine BG (fn:=Ti) rfl rfl ?_
 dsimp only[Ti,En.one,En.pl]
 unfold En.ot at q
 cases B:e.r with
 |true=>rw[B] at q;exact q
 |false=>rw[B] at q;exact q
theorem UW:Jr (some x) y=true↔y≠x:=by
 unfold Jr
 rw[CB,beq_eq_false_iff_ne]
 exact⟨λh e=>h (congrArg some e.symm),λh e=>h (AG e).symm⟩
theorem jW{n k:Nat}{x:Str}(e:σ[n]?=some (.list (hs.map En.one)))(Z:hs.length<=1000)(F:∀y∈hs,Br y.name=true)(hx:Br x=true)(q:Q (.ref σ.length) (σ++[.list ((Gi hs (some x) k).map Ot.v)])):callW ER (d+2) 34 [.ref n,.int k,.str x] σ Q X:=by
 refine BG (fn:=XZ) rfl rfl ?_
 refine Xs (λy:En=>if (decide (y.n=k)&&Jr (some x) y.name)=true then some y.ot.v else none) e (by exact Ec .le .v0 (.n 1000000) (.l .v0 (.n 1000) .e) rfl Z) (λy hy K B=>?_) ?_
 .dsimp only[En.one,En.pl]
  refine Ca (λh=>?_) λh=>?_
  .have h':y.n=k:=EN h
   refine QM (F y hy) hx (λM=>?_) λM=>?_
   .rw[decide_eq_true h',UW.mpr M] at B
    refine Qy (e:=y) ?_
    exact B
   .rw[show Jr (some x) y.name=false from BQ.mpr λz=>UW.mp z M,Ie] at B
    exact B
  .rw[decide_eq_false λz=>h (congrArg Int.ofNat z),Kc] at B
   exact B
 .rw[N4 (f:=λy:En=>decide (y.n=k)&&Jr (some x) y.name) (g:=λy:En=>y.ot.v)]
  unfold Gi at q
  rw[BW] at q
  exact q
noncomputable def jG(p:List Nat×Int):List Nat×Int:=(p.1++[signs.getD ((p.2*48271+11) % 2147483647 % 36).toNat 0],(p.2*48271+11) % 2147483647)
noncomputable def Vo(c:Int):Nat->List Nat×Int
 | 0=>([],c)
 |n+1=>jG (Vo c n)
noncomputable def MO(c:Int):List Str:=
 LN.map λs=>E4 (HS (Vo c (c % 12).toNat).1 0 (min (c / 12 % 12).toNat (Vo c (c % 12).toNat).1.length))++sign s++E4 (HS (Vo c (c % 12).toNat).1 (min (c / 12 % 12).toNat (Vo c (c % 12).toNat).1.length) (Vo c (c % 12).toNat).1.length)
theorem signs_getD(h:(AH "abcdefghijklmnopqrstuvwxyz0123456789").cps[j]?=some b):b=signs.getD j 0:=by
 have e:(AH "abcdefghijklmnopqrstuvwxyz0123456789").cps[j]?=signs[j]?:=BA.symm
 rw[e] at h
 rw[Ay,h];rfl
theorem OH(q:Iw (MO c)->Q (.ref σ.length) (σ++[.list ((MO c).map .str)])):callW ER (d+1) 25 [.int c] σ Q X:=by
 refine BG (fn:=Xa) rfl rfl ?_
 (refine EK (by with_unfolding_all rfl) ?_;refine B5 (by with_unfolding_all rfl) ?_;refine B5 (by with_unfolding_all rfl) ?_)
 refine Mm (λi ρ' σ'=>σ'=σ/\∃(w:List Nat) (c':Int) (a:V),(∀c∈w,c∈signs)/\w.length=i/\(w,c')=Vo c i/\ρ'=[.int c',.str "abcdefghijklmnopqrstuvwxyz0123456789",.str (E4 w),.int (c / 12 % 12),a,.undef]) (by exact⟨Im .le (.g (.n 1000000)) .v0 (.l .n0 .v0 .e) rfl (C4 _ (by decide)),Im .le .v0 (.n 1000000) (.t .v0 (.n 12) .e) rfl (Bw _ (by decide))⟩) ⟨rfl,[],_,_,Hn,rfl,rfl,rfl⟩ (λi ρ' σ' R hi hI hR=>?_) λρ' σ' hI=>?_
 .refine L8 hI λze1 w zh=>EW zh λc' a hw hl hit ze2=>?_;subst ze1;subst ze2
  (refine Ql (by with_unfolding_all rfl) ?_;refine B5 (by with_unfolding_all rfl) ?_;refine B5 (by with_unfolding_all rfl) ?_)
  refine AW (signs_at (j:=(((c'*48271+11) % 2147483647) % 36).toNat) ((Int.toNat_lt' (by decide)).mpr (Bw _ (by decide)))) λb eb hb=>?_
  refine uu (c:=b) (by exact Im .le .n0 .v0 (.l .n0 .v0 .e) rfl (C4 _ (by decide))) (by exact Im .lt .v0 (.n 1000000) (.t .v0 (.n 36) .e) rfl (Bw _ (by decide))) eb ?_
  refine Eb.RS ?_ ?_
  .rw[Mr,hl]
   exact AF (BH.mp (Ee hi (Bw c (by decide))):i<12) (by decide)
  have epc:E4 w++sign b=E4 (w++[b]):=congrArg Str.mk (by refine(?_:w.toArray++#[b]=(w++[b]).toArray);simp)
  rw[epc]
  refine hR _ _ ⟨rfl,w++[b],_,_,λx hx=>(An.mp hx).elim (hw x) λz=>AM.mp z▸hb,by rw[AI,hl];rfl,?_,rfl⟩
  refine(?_:_=jG (Vo c i))
  rw[<- hit]
  exact congrArg (λz=>(w++[z],_)) (signs_getD eb)
 .refine L8 hI λze1 w zh=>EW zh λc' a hw hl hit ze2=>?_;subst ze1;subst ze2
  have hl11:w.length<=11:=by rw[hl];exact Int.toNat_le.mpr (Int.lt_add_one_iff.mp (Bw _ (by decide):_<(11:Int)+1))
  have ew:(E4 w).cps.toList=w:=rfl
  have elen:(E4 w).length=w.length:=Mr
  refine jJ (λs=>.str (E4 (HS w 0 (min (c / 12 % 12).toNat w.length))++sign s++E4 (HS w (min (c / 12 % 12).toNat w.length) w.length))) (by decide +kernel) (by decide +kernel) (λs hs K hK=>?_) ?_
  .have l1:∀a b,(E4 (HS w a b)).length<=11:=λa b=>by rw[Mr];exact AF pe hl11
   refine vo (by rw[elen];exact Ec .le .v0 (.n 1000) (.l .v0 (.n 11) .e) rfl hl11) (by exact Im .le .n0 .v0 (.l .n0 .v0 .e) rfl (C4 _ (by decide))) (by exact Im .le .v0 (.n 1000000) (.t .v0 (.n 12) .e) rfl (Bw _ (by decide))) ?_
   refine Eb.RS (AF (DH (l1 _ _) 1) (by decide)) ?_
   refine u5 (by rw[elen];exact Ec .le .v0 (.n 1000) (.l .v0 (.n 11) .e) rfl hl11) (by exact Im .le .n0 .v0 (.l .n0 .v0 .e) rfl (C4 _ (by decide))) (by exact Im .le .v0 (.n 1000000) (.t .v0 (.n 12) .e) rfl (Bw _ (by decide))) ?_
   rw[elen]
   have l2:∀a b,(E4 (HS w a b)++sign s).length<=12:=λa b=>by
    rw[len_list,Kn,AI]
    have:=l1 a b
    rw[len_list] at this
    exact DH this 1
   refine Eb.RS (AF (BJ (l2 _ _) (l1 _ _)) (by decide)) ?_
   exact hK
  .have e0:MO c=LN.map λs=>E4 (HS w 0 (min (c / 12 % 12).toNat w.length))++sign s++E4 (HS w (min (c / 12 % 12).toNat w.length) w.length):=by
    unfold MO
    rw[<- hit]
   have nx:=dP hw hl11 (C7 (c / 12 % 12).toNat w.length)
   rw[<- e0] at nx
   have:=q nx
   rw[e0,BW] at this
   exact this
end
set_option maxHeartbeats 2000000
section
variable {d:Nat} {σ:Af} {Q:BS} {X:CP} {m:Int} {hs:List En} {ss:List Sh} {n k r S B P epB epP:Nat} {e:En}
theorem QP:pairsOf (us++[u]) F=pairsOf us F++F.map λl=>(u,l):=by
 unfold pairsOf;rw[fF,List.flatMap_singleton]
theorem pairs_len(Z:us.length<64)(M:F.length<64):(pairsOf us F).length<=4096:=by
 unfold pairsOf
 rw[List.length_flatMap]
 have:(us.map λu=>(F.map λl=>(u,l)).length)=us.map λ_=>F.length:=CZ λu _=>AA ..
 rw[this,List.map_const',List.sum_replicate_nat]
 exact AF (VB (A4 Z) (A4 M)) (by decide)
theorem gK(eu:σ[a]?=some (.list (us.map .int)))(el:σ[a']?=some (.list (ls.map .int)))(hu:us.length<64)(hl:ls.length<64)(q:∀x F,σ<+:F->F[x]?=some (.list (((YV b us ls).map (aE b)).map L7))->Q (.ref x) F) :
  Ek (UA.body.drop 2) (callW ER d) [.ref c,.tup [.int W,.int H,WG b],.ref a,.ref a',.undef,.undef,.undef,.undef] σ (Jt Q X):=by
 have le:∀{us ls:List Int} {i:Nat},us.length<64->ls.length<64->(pairsOf (us.take i) ls).length<=4096:=λhu hl=>pairs_len (Al (NL ..) hu) hl
 refine UT ?_
 cases b with
 |true=>
  refine HV (λi M F=>σ<+:F/\(∃x a5,M=[.ref c,.tup [.int W,.int H,WG true],.ref a,.ref a',.ref x,a5,.undef,.undef]/\F[x]?=some (.list ((pairsOf (us.take i) ls).map L7)))) (AX eu) ⟨AZ,_,_,rfl,Aa⟩ (λi v M F R hv hI hR=>?_) λM F hI=>?_
  .refine Ml hI λp x a5 ze Z=>?_;subst ze
   refine AW (List.CA hv) λu hi ze1=>?_;subst ze1
   refine M9 (g:=.int) (λl=>(u,l)) L7 (BP p el) (AF (A4 hl) (by decide)) (λx hx K hK=>?_) ?_
   .exact hK
   refine Eb.Pj (AX Z) Aa (by rw[AA,AA,AA];exact AF (BJ (le hu hl) (A4 hl)) (by decide)) ?_
   refine hR _ _ (AX (AX (BP p eu))) ⟨p.trans (AZ.trans AZ),_,_,rfl,?_⟩
   rw[Aa,HF hi,QP,Ai]
  .refine Ml hI λp x a5 ze Z=>?_;subst ze
   rw[AA,Bz] at Z
   refine q x F p ?_
   rw[Z]
   exact congrArg (λl=>some (O.list (Li L7 l))) (XF (pairsOf us ls)).symm
 |false=>
  refine HV (λi M F=>σ<+:F/\(∃x a5,M=[.ref c,.tup [.int W,.int H,WG false],.ref a,.ref a',.ref x,.undef,a5,.undef]/\F[x]?=some (.list (((pairsOf (ls.take i) us).map (aE false)).map L7)))) (AX el) ⟨AZ,_,_,rfl,Aa⟩ (λi v M F R hv hI hR=>?_) λM F hI=>?_
  .refine Ml hI λp x a5 ze Z=>?_;subst ze
   refine AW (List.CA hv) λl hi ze1=>?_;subst ze1
   refine M9 (g:=.int) (λu=>(u,l)) L7 (BP p eu) (AF (A4 hu) (by decide)) (λx hx K hK=>?_) ?_
   .exact hK
   refine Eb.Pj (AX Z) Aa (by rw[AA,AA,AA,AA];exact AF (BJ (le hl hu) (A4 hu)) (by decide)) ?_
   refine hR _ _ (AX (AX (BP p el))) ⟨p.trans (AZ.trans AZ),_,_,rfl,?_⟩
   rw[Aa,HF hi,QP,Ai,Ai,BW (f:=λu=>(l,u))];rfl
  .refine Ml hI λp x a5 ze Z=>?_;subst ze
   rw[AA,Bz] at Z
   exact q x F p Z
theorem nu{c:Nat}{os:List Ot}{W H:Int}{b:Bool}(er:σ[c]?=some (.list (os.map Ot.v)))(M:os.length<63)(q:∀us Z a F,σ<+:F->us.Pairwise (·<=·)->Z.Pairwise (·<=·)->(∀x,x∈us↔x∈0::os.map λo=>o.u+o.h)->(∀x,x∈Z↔x∈0::os.map λo=>o.l+o.w)->F[a]?=some (.list (((YV b us Z).map (aE b)).map L7))->Q (.ref a) F) :
  callW ER (d+1) 35 [.ref c,.tup [.int W,.int H,WG b]] σ Q X:=by
 refine BG (fn:=UA) rfl rfl ?_
 refine M9 (g:=Ot.v) (λo=>o.u+o.h) .int (AX er) (AF (A4 M) (by decide)) (λx hx K hK=>?_) ?_
 .dsimp only[Ot.v]
  exact hK
 refine Eb.Pj (AX Aa) Aa (by rw[AA,AA];exact AF (CO (A4 M) 1) (by decide)) ?_
 refine MA.ints (ns:=0::os.map λo=>o.u+o.h) Aa (by rw[Bn,AA];exact D4 M) λus hpu hsu=>?_
 refine M9 (g:=Ot.v) (λo=>o.l+o.w) .int (AX (AX (AX (AX (AX er))))) (AF (A4 M) (by decide)) (λx hx K hK=>?_) ?_
 .dsimp only[Ot.v]
  exact hK
 refine Eb.Pj (AX Aa) Aa (by rw[AA,AA];exact AF (CO (A4 M) 1) (by decide)) ?_
 refine MA.ints (ns:=0::os.map λo=>o.l+o.w) Aa (by rw[Bn,AA];exact D4 M) λZ hpl hsl=>?_
 refine gK (AX (AX (AX (AX Aa)))) Aa (by rw[hpu.length_eq,Bn,AA];exact D4 M) (by rw[hpl.length_eq,Bn,AA];exact D4 M) λx F p ex=>?_
 exact q us Z x F ((((((((AZ.trans AZ).trans AZ).trans AZ).trans AZ).trans AZ).trans AZ).trans AZ).trans p) hsu hsl (λx=>hpu.mem_iff) (λx=>hpl.mem_iff) ex
end
set_option maxHeartbeats 2000000
section
variable {d:Nat} {σ:Af} {Q:BS} {X:CP} {m:Int} {hs:List En} {ss:List Sh}
noncomputable abbrev kX:List Sx:=[BR (.var 8) (Dw [AD 3,A8 (AD 6) (AU 0),A8 (AD 6) (AU 1),AD 7]),BR (.var 9) (A2 33 [Ah .Add (AD 2) (Dw [AD 8])]),Fy (Hm (A2 32 [AD 4,AD 9,A8 (AD 5) (AU 0),A8 (AD 5) (AU 1)])) [CE (AD 8)] []]
noncomputable abbrev sQ:List Sx:=[Hz (.var 7) .plain [DD (CD [Fe false,Fe true]) none (some (Ah .Add (AU 1) (DW .int [A8 (AD 2) (AU 3)])))] kX]
theorem dj{n k i c:Nat}{e:En}{os:List Ot}{W H:Int}{b tr:Bool}{y:Int×Int}{a8 a9 M:V}{Pr:HT}(er:σ[c]?=some (.list (os.map Ot.v)))(hc:(jO os W H e.w e.h tr y.1 y.2/\∀F,Pr (.ret (.tup [.int i,.int y.1,.int y.2,.bool tr])) F σ)\/(¬jO os W H e.w e.h tr y.1 y.2/\∀b9 Z,Pr .next [.ref n,.ref k,e.box,.int i,.ref c,Sh.v ⟨W,H,b⟩,L7 y,.bool tr,b9,Z,.undef] σ)) :
  MF (callW ER (d+2)) (.var 7) kX (.bool tr) [.ref n,.ref k,e.box,.int i,.ref c,Sh.v ⟨W,H,b⟩,L7 y,a8,a9,M,.undef] σ Pr:=by
 dsimp only[L7,En.box,Sh.v] at hc ⊢
 refine Eb.mK (Bi _ _) (Bi _ _) (Ap rfl) ?_
 refine Qy (e:=e.to i y.1 y.2 tr) ?_
 have B:(e.to i y.1 y.2 tr).ot.u=y.1/\(e.to i y.1 y.2 tr).ot.l=y.2/\(e.to i y.1 y.2 tr).ot.h=mz tr e.h e.w/\(e.to i y.1 y.2 tr).ot.w=mz tr e.w e.h:=by cases tr <;> exact⟨rfl,rfl,rfl,rfl⟩
 refine tN (o:=(e.to i y.1 y.2 tr).ot) er (λg=>?_) λg=>?_
 .rw[B.1,B.2.1,B.2.2.1,B.2.2.2] at g
  exact hc.elim (λz=>z.2 _) λz=>absurd g z.1
 .rw[B.1,B.2.1,B.2.2.1,B.2.2.2] at g
  exact hc.elim (λz=>absurd z.1 g) λz=>z.2 _ _
theorem tv{n k i c:Nat}{e:En}{os:List Ot}{W H:Int}{b:Bool}{y:Int×Int}{a7 a8 a9 a10:V}{Pq:HT}(Z:σ[c]?=some (.list (os.map Ot.v)))(hc:(∃tr0,(tr0=true->e.t=true)/\jO os W H e.w e.h tr0 y.1 y.2/\(tr0=true->¬jO os W H e.w e.h false y.1 y.2)/\∀B F,σ<+:F->Pq (.ret (.tup [.int i,.int y.1,.int y.2,.bool tr0])) B F) \/
   ((∀tr,(tr=true->e.t=true)->¬jO os W H e.w e.h tr y.1 y.2)/\∀F,σ<+:F->∀b8 b9 M,Pq .next [.ref n,.ref k,e.box,.int i,.ref c,Sh.v ⟨W,H,b⟩,L7 y,b8,b9,M,.undef] F)) :
  MF (callW ER (d+2)) (.var 6) sQ (L7 y) [.ref n,.ref k,e.box,.int i,.ref c,Sh.v ⟨W,H,b⟩,a7,a8,a9,a10,.undef] σ Pq:=by
 have eb:e.box=.tup [.str e.name,.int e.w,.int e.h,.bool e.t]:=rfl
 cases ht:e.t with
 |false=>
  rw[ht] at eb
  rw[eb]
  refine Cu.mO ?_
  refine Lu Aa (by decide) (by decide) ?_
  rw[<- eb]
  refine⟨_,_,.list Aa,?_⟩
  refine dj (tr:=false) (AX (AX Z)) (hc.imp (λz=>Ge z λtr0 h2 h3 h4 h5=>?_) λz=>⟨z.1 false nofun,λb9 M=>⟨Aa,z.2 _ (AZ.trans AZ) _ _ _⟩⟩)
  have:tr0=false:=BQ.mpr λz=>qg ((h2 z).symm.trans ht)
  subst this
  exact⟨h3,λB=>h5 B _ (AZ.trans AZ)⟩
 |true=>
  rw[ht] at eb
  rw[eb]
  refine Cu.mO ?_
  refine Lu Aa (by decide) (by decide) ?_
  rw[<- eb]
  refine⟨_,_,.list Aa,?_⟩
  refine hc.elim (λz=>Ge z λtr0 h2 h3 h4 h5=>?_) λz=>?_
  .cases tr0 with
   |false=>exact dj (tr:=false) (AX (AX Z)) (.inl ⟨h3,λB=>h5 B _ (AZ.trans AZ)⟩)
   |true=>
    refine dj (tr:=false) (AX (AX Z)) (.inr ⟨h4 rfl,λb9 M=>⟨Aa,?_⟩⟩)
    exact dj (tr:=true) (AX (AX Z)) (.inl ⟨h3,λB=>h5 B _ (AZ.trans AZ)⟩)
  .refine dj (tr:=false) (AX (AX Z)) (.inr ⟨z.1 false nofun,λb9 M=>⟨Aa,?_⟩⟩)
   exact dj (tr:=true) (AX (AX Z)) (.inr ⟨z.1 true λ_=>ht,λb9 M=>⟨Aa,z.2 _ (AZ.trans AZ) _ _ _⟩⟩)
theorem aZ{n k:Nat}{e:En}{r:Option pn}(F:FP (dZ e.w e.h e.t) 0 (ss.zip (rowsOf ss.length hs (some e.name))) r)(es:σ[n]?=some (.list (ss.map Sh.v)))(eh:σ[k]?=some (.list (hs.map En.one)))(hl:ss.length<=9)(hh:hs.length<63)(hstr:∀y∈hs,Br y.name=true)(hx:Br e.name=true)(q:∀σ',σ<+:σ'->Q (sL r) σ'):callW ER (d+3) 36 [.ref n,.ref k,e.box] σ Q X:=by
 refine BG (fn:=Y1) rfl rfl ?_
 refine Cu.LQ (by assumption) ?_
 rw[AA]
 refine Mm (λi ρ' σ'=>σ<+:σ'/\(∃a5 a6 a7 a8 a9 a10 a11,ρ'=[.ref n,.ref k,e.box,a5,a6,a7,a8,a9,a10,a11,.undef])/\∀x,r=some x->(i:Int)<=x.1) ⟨Au (by decide) (AQ _),Au (A9.mpr hl) (by decide)⟩ ⟨A5 _,⟨_,_,_,_,_,_,_,rfl⟩,λx hx=>?_⟩ (λi ρ' σ' R hi hI hR=>?_) λρ' σ' hI=>?_
 .subst hx
  exact DX (gS F) λk hk _ _=>hk▸AQ k
 .refine FD hI λp₁ zt1 hr=>Cq zt1 λa5 zh=>EA zh λa6 a7 a8 zh=>EA zh λa9 a10 a11 ze2=>?_;subst ze2
  have i1:i<ss.length:=BH.mp hi
  have hsh:=AO i1
  have hv:(ss.map Sh.v)[(i:Int).toNat]?=some ss[i].v:=by rw[A6,As,hsh];rfl
  have st:=oQ F hsh hr
  have hz:(Gi hs (some e.name) i).length<63:=by
   unfold Gi;rw[AA];exact Al (Cw ..) hh
  refine jW (BP p₁ eh) (AF (A4 hh) (by decide)) hstr hx ?_
  generalize ss[i]=sh at *
  generalize Gi hs (some e.name) i=os at *
  refine FG (AX (BP p₁ es)) (AQ i) hv ?_
  refine nu (b:=sh.b) (W:=sh.W) (H:=sh.H) Aa hz λus ls a σ₁ p₂ h1 h2 h3 h4 ea=>?_
  have er₁:=BP p₂ (Aa (σ:=σ') (o:=.list (os.map Ot.v)))
  have p₃:σ<+:σ₁:=p₁.trans (AZ.trans p₂)
  refine st.elim (λz=>?_) λz=>?_
  .refine HV (λj ρ' M=>σ₁<+:M/\(∃a7 a8 a9 a10,ρ'=[.ref n,.ref k,e.box,.int i,.ref σ'.length,Sh.v ⟨sh.W,sh.H,sh.b⟩,a7,a8,a9,a10,.undef])) ea ⟨A5 _,_,_,_,_,rfl⟩ (λj v ρ' M R' hv' hI hR'=>?_) λρ' M hI=>?_
   .refine L8 hI λp a7 zh=>EA zh λa8 a9 a10 ze1=>?_;subst ze1
    refine AW (List.CA hv') λy hy ze1=>?_;subst ze1
    refine tv (BP p er₁) (.inr ⟨λtr hr=>Nd z.1 y.1 y.2 tr hr,λσ₃ Z b8 b9 b10=>?_⟩)
    exact hR' _ _ (BP (p.trans Z) ea) ⟨p.trans Z,_,_,_,_,rfl⟩
   .refine L8 hI λp a7 zh=>EA zh λa8 a9 a10 ze1=>?_;subst ze1
    exact hR _ _ ⟨p₃.trans p,⟨_,_,_,_,_,_,_,rfl⟩,z.2⟩
  .refine AW z λpp o hrr=>?_
   have so:=NW o
   refine EX (kq o (iZ h1 h2 h3 h4 o)) λA B eT hA=>?_
   rw[eT] at ea
   refine HV (λj ρ' M=>σ₁<+:M/\(∃a7 a8 a9 a10,ρ'=[.ref n,.ref k,e.box,.int i,.ref σ'.length,Sh.v ⟨sh.W,sh.H,sh.b⟩,a7,a8,a9,a10,.undef])/\j<=A.length) ea ⟨A5 _,⟨_,_,_,_,rfl⟩,BM _⟩ (λj v ρ' M R' hv' hI hR'=>?_) λρ' M hI=>?_
   .refine FD hI λp zt1 hj=>Cq zt1 λa7 zh=>EA zh λa8 a9 a10 ze2=>?_;subst ze2
    refine AW (List.CA hv') λy hy ze1=>?_;subst ze1
    refine(IQ hj).elim (λhlt=>?_) λe0=>?_
    .rw[A3 hlt] at hy
     have hA:=hA y (Ae hy)
     refine tv (BP p er₁) (.inr ⟨hA,λσ₃ Z b8 b9 b10=>?_⟩)
     exact hR' _ _ (BP (p.trans Z) ea) ⟨p.trans Z,⟨_,_,_,_,rfl⟩,hlt⟩
    .rw[e0,Ak (Az _),Fo] at hy
     have hy:=AG hy
     subst hy
     subst hrr
     exact tv (BP p er₁) (.inl ⟨pp.2.2,so.1,so.2.1,λh g=>ve ((so.2.2 _ _ false (λh=>by injection h) g).2 rfl rfl h),λρ₃ σ₃ Z=>q _ (p₃.trans (p.trans Z))⟩)
   .refine absurd hI.2.2 (Dj.mpr ?_)
    rw[AA,AI];exact CJ (CS _)
 .refine FD hI λp₁ zt1 hr=>Cq zt1 λa5 zh=>EA zh λa6 a7 a8 zh=>EA zh λa9 a10 a11 ze2=>?_;subst ze2
  rw[A6] at hr
  have:=sr F hr
  subst this
  exact q _ p₁
end
set_option maxHeartbeats 2000000
section
variable {d:Nat} {σ:Af} {Q:BS} {X:CP} {n k r S B P epB epP:Nat} {ss:List Sh} {es es':List En} {e:En}
theorem fK.uF{w h:Int}{t:Bool}{sh:Sh}{os:List Ot}{r:Option WH}(x:fK w h t sh os r):dZ w h t sh os r:=by
 have k:∀{O:List Bx} {P S a b:Int} {d:Option WH},tO O P S a b t d->wU O P S a b t d:=λx=>by
  refine TM x.ex λd1 d2 F _ M h3 Z=>?_
  exact⟨d1,d2,F,λh=>(M h).1,h3,Z⟩
 obtain⟨W,H,b⟩:=sh
 cases b with
 |true=>exact k x
 |false=>exact k x
theorem FP.uF{w h:Int}{t:Bool}{n:Nat}{l:List (Sh×List Ot)}{r:Option pn}(x:FP (fK w h t) n l r):FP (dZ w h t) n l r:=by
 induction x with
 |nil=>exact .nil
 |hit o=>exact .hit o.uF
 |miss o _ F=>exact .miss o.uF F
theorem V9(h:x∉es.map (·.name)):rowsOf n es (some x)=rowsOf n es none:=by
 refine CZ λi _=>congrArg (Li En.ot) (List.filter_congr λe F=>?_)
 have M:Jr (some x) e.name=true:=UW.mpr λz=>h (z▸GB F)
 rw[M];rfl
theorem gL(e:σ[n]?=some (.dict ep kvs))(q:A):(∃m ep kvs,V.ref n=.ref m/\σ[m]?=some (.dict ep kvs))/\A:=⟨⟨n,ep,kvs,rfl,e⟩,q⟩
theorem S6(R:Rk 323 σ r ss es S B P epB epP)(hn:(es.map (·.name)).Nodup)(hm:e∈es)(hB:B≠0)(hP:P≠0)(hBP:B≠P)(q:∀F M,Q e.pl (stood σ B P F M (es.filter λx=>decide (x.name≠e.name)))):callW ER (d+2) 57 [.ref r,.str e.name] σ Q X:=by
 have kd:∀{f:En->V},oG e.name (es.map λe=>(e.name,f e))=(es.filter λx=>decide (x.name≠e.name)).map λe=>(e.name,f e):=λ{f}=>by
  unfold oG
  rw[Rj];rfl
 refine BG (fn:=XO) rfl rfl ?_
 refine E6 (Rk.at_ (by assumption)) (by decide +kernel) ?_
 refine YH R (λ_=>?_) λz=>absurd (Ab.mpr ⟨e,hm,rfl⟩) z
 refine cU (Rk.at_ (by assumption)) ?_
 refine gL R.bx ?_
 refine pj.mk R.bx hB (LL hn hm) λF=>?_
 have R1:JI 323 (σ.set B (.dict F (oG e.name (LH es)))) r S B P:=by
  refine AW R.at_.ex λm h1 h2=>?_
  exact⟨m,BO (λz=>by rw[<- z,R.bx] at h1;cases h1) h1,BO (λz=>by rw[<- z,R.bx] at h2;cases h2) h2⟩
 have Z:(σ.set B (.dict F (oG e.name (LH es))))[P]?=some (.dict epP (L3 es)):=BO hBP R.pl
 refine Wf (by assumption) ?_
 refine gL Z ?_
 refine pj.mk Z hP (LL hn hm) λM=>?_
 have:=q F M
 unfold stood at this
 unfold LH L3 at this ⊢
 rw[kd,kd]
 exact this
theorem r4(R:Rk 323 σ r ss [] S B P epB epP)(hk:ss[k]?=some sh)(hw:CI sh.W)(q:Q (.int (sh.W*sh.H)) σ):callW ER (d+1) 62 [.ref r,.int k] σ Q X:=by
 refine BG (fn:=Yl) rfl rfl ?_
 have hl:=(AP.mp hk).1
 have hv:(ss.map Sh.v)[(k:Int).toNat]?=some sh.v:=by rw[A6,As,hk];rfl
 refine SA (Rk.at_ (by assumption)) ?_
 refine Cu.LQ R.sh ?_
 rw[AA]
 refine MK (λh=>absurd (BH.mpr hl) h) λ_=>?_
 refine SA (Rk.at_ (by assumption)) ?_
 refine FG R.sh (AQ k) hv ?_
 refine SA (Rk.at_ (by assumption)) ?_
 refine FG R.sh (AQ k) hv ?_
 refine Sp (.inl ⟨Au (by decide) hw.1,Au hw.2 (by decide)⟩) ?_
 refine Wf (Rk.at_ (by assumption)) ?_
 refine mI (λj M F=>F=σ/\∃a,M=[.ref r,.int k,.int (sh.W*sh.H),a,.undef]) R.pl ⟨rfl,_,rfl⟩ (λj p M F R' hp hI hR=>?_) λM F hI=>?_
 .exact absurd hp.symm (AY _)
 .refine L8 hI λZ a ze2=>?_;subst Z;subst ze2
  exact q
theorem wC{n:Nat}{u l:Int}{r:Bool}(hs:∀s∈ss,CI s.W/\CI s.H)(h0:ss≠[])(F:FP (fK 1 1 false) 0 (ss.zip (rowsOf ss.length [] none)) (some ((n:Int),u,l,r))):n=0/\u=0/\l=0/\r=false:=by
 obtain⟨s,l',rfl⟩:∃s l,ss=s::l:=HQ h0
 have hz:=hs s AL
 have e1:(s::l').zip (rowsOf (s::l').length [] none)=(s,[])::l'.zip ((rowsOf (l'.length+1) [] none).tail):=by
  unfold rowsOf
  rw[Bn,XG]
  rfl
 have F:=F.uF
 rw[e1] at F
 have g0:jO [] s.W s.H 1 1 false 0 0:=⟨DG 0,DG 0,hz.2.1,hz.1.1,λo ho=>absurd ho BU⟩
 rcases F.cons_inv with ⟨p,o,e⟩ | ⟨o,_⟩
 .have so:=NW o
  have Z:=(so.2.2 0 0 false nofun g0).1
  have g:=so.2.1
  have e:=AG e
  have e2:u=p.1:=congrArg (·.2.1) e
  have e3:l=p.2.1:=congrArg (·.2.2.1) e
  have e4:r=p.2.2:=congrArg (·.2.2.2) e
  have e5:(n:Int)=(0:Nat):=congrArg (·.1) e
  have g1:=g.p0
  have g2:=g.s0
  have r0:p.2.2=false:=BQ.mpr λz=>BD (so.1 z)
  have hb:p.1=0/\p.2.1=0:=by
   generalize s.b=b at Z
   cases b with
   |true=>have Z:p.1<0\/p.1=0/\p.2.1<=0:=Z;exact⟨A7 Z (λM=>C5 (Im .le .v0 .n0 (.t .v0 .n0 .e) rfl M) (Im .le .n0 .v0 (.l .n0 .v0 .e) rfl g1)) λM=>C5 (Im .le .v0 .n0 (.q .v0 .n0 .e) rfl M.1) (Im .le .n0 .v0 (.p .v0 .n0 .e) rfl M.1),A7 Z (λM=>(vc (.t .v0 .n0 (.l .n0 .v0 .e)) rfl M g1).elim) λM=>C5 (Im .le .v0 .n0 (.l .v0 .n0 .e) rfl M.2) (Im .le .n0 .v0 (.l .n0 .v0 .e) rfl g2)⟩
   |false=>have Z:p.2.1<0\/p.2.1=0/\p.1<=0:=Z;exact⟨A7 Z (λM=>(vc (.t .v0 .n0 (.l .n0 .v0 .e)) rfl M g2).elim) λM=>C5 (Im .le .v0 .n0 (.l .v0 .n0 .e) rfl M.2) (Im .le .n0 .v0 (.l .n0 .v0 .e) rfl g1),A7 Z (λM=>C5 (Im .le .v0 .n0 (.t .v0 .n0 .e) rfl M) (Im .le .n0 .v0 (.l .n0 .v0 .e) rfl g2)) λM=>C5 (Im .le .v0 .n0 (.q .v0 .n0 .e) rfl M.1) (Im .le .n0 .v0 (.p .v0 .n0 .e) rfl M.1)⟩
  exact⟨EN e5,e2.trans hb.1,e3.trans hb.2,e4.trans r0⟩
 .exact absurd g0 (Nd o 0 0 false nofun)
end
set_option maxHeartbeats 2000000
section
variable {d:Nat} {σ:Af} {Q:BS} {X:CP} {n k r S B P epB epP:Nat} {ss:List Sh} {es es':List En} {e:En}
theorem sA{s:Sh}:s.dat.canLay0=true:=by
 unfold Sh.dat
 rw[Ri,FY,FY,FY,nX]
 rfl
theorem Dr.qT(D:Dr ss es)(hp:es'.Perm es):Oq ss es':=by
 have A:=D.any hp
 refine⟨A.nodup,λe F=>?_,λe F=>(Jo (A.good e F)).ok,by rw[hp.length_eq];exact Al D.len (by decide)⟩
 obtain⟨sh,h,_⟩:=A.ins e F
 exact(AP.mp h).1
theorem TabAt.ex(t:TabAt T σ F col q):∃o,σ[1]?=some o/\∀vs,o≠.list vs:=by
 cases t with
 |tab h=>exact⟨_,h,(λ_ h=>by injection h)⟩
 |row m h _=>exact⟨_,h,(λ_ h=>by injection h)⟩
theorem TabAt.ne1(t:TabAt T σ Z col q)(e:σ[n]?=some (.list vs)):n≠1:=λz=>by
 subst z
 refine AW t.ex λo F M=>?_
 rw[e] at F
 exact M _ (AG F).symm
theorem bB(R:Rk 323 σ r ss es' S B P epB epP)(D:Dr ss es)(hp:es'.Perm es)(tw:HE (es'.map (En.key ss)))(t:TabAt 294 σ 181 39 Lz)(en:σ[n]?=some (.list (ss.map Sh.v)))(ek:σ[k]?=some (.list (es.map En.one)))(q:∀F,my 1 σ F->TabAt 294 F 181 39 Lz->Q (.bool true) F):callW ER (d+3) 30 [.ref r,.ref n,.ref k] σ Q X:=by
 refine BG (fn:=X3) rfl rfl ?_
 have E:=D.qT hp
 have hl:=D.len
 have hs:∀y∈es.map (·.name),ND y:=λy hy=>by
  refine AW (Ab.mp hy) λe he ze=>?_;subst ze
  exact Jo (D.good e he)
 refine SA R.at_ ?_
 refine UL (Ub (m:=5) R.sh λ_ _=>rfl) (Ub (m:=5) en λ_ _=>rfl) (Tz (dat:=Sh.dat) λs _=>sA) ?_
 refine E6 R.at_ (by decide +kernel) ?_
 refine Zq R E tw t λp m σ1 kp t1 hpm hpw em=>?_
 have e1:(p.map λi=>V.str ((es'.map (·.name)).getD i ""))=(es.map (·.name)).map V.str:=by
  have ho:=D.order hp hpm hpw
  rw[<- ho,BW,BW]
  refine CZ λi hi=>?_
  have hi:i<es'.length:=Dl.mp (hpm.mem_iff.mp hi)
  refine(?_:V.str _=V.str (es'.getD i oj).name)
  rw[Ay,Ay,As,AO hi];rfl
 rw[e1] at em
 have M:=kp _ _ (t.ne1 ek) ek
 refine M9 (g:=En.one) (λe=>e.name) .str M (AF hl (by decide)) (λx hx K hK=>?_) ?_
 .exact hK
 refine UL (N5 (AX em)) (N5 Aa) (Tz λx hx=>(hs x hx).ok) ?_
 refine HV (λi Z F=>F=σ1++[.list ((es.map (·.name)).map .str)]/\∃a b,Z=[.ref r,.ref n,.ref k,a,b,.undef]) (AX M) ⟨rfl,_,_,rfl⟩ (λi v Z F R' hv hI hR=>?_) λZ F hI=>?_
 .obtain⟨rfl,a,b,rfl⟩:=hI
  refine AW (List.CA hv) λe he ze=>?_;subst ze
  have hm:=Ae he
  have hm':=hp.mem_iff.mpr hm
  have R1:Rk 323 (σ1++[.list ((es.map (·.name)).map .str)]) r ss es' S B P epB epP:=(R.RT t kp).keeps λ_ _ h=>AX h
  refine E6 R1.at_ (by decide +kernel) ?_
  refine qp R1 E.nodup hm' ?_
  refine qI ?_
  refine kP (E.str e hm') ?_
  refine Cu.yA ?_
  refine E6 R1.at_ (by decide +kernel) ?_
  refine bW R1 E.nodup hm' ?_
  refine aL ?_
  exact hR _ _ (AX M) ⟨rfl,_,_,rfl⟩
 .obtain⟨rfl,a,b,rfl⟩:=hI
  exact q _ (λx o h1 h2=>AX (kp x o h1 h2)) (t1.keeps λ_ _ h=>AX h)
end
set_option maxHeartbeats 2000000
section
variable {d:Nat} {σ:Af} {Q:BS} {X:CP} {n k r S B P epB epP:Nat} {ss:List Sh} {es es':List En} {e:En}
structure Kl(σ σ':Af):Prop where
 list:∀(x:Nat) (vs:List V),σ[x]?=some (.list vs)->σ'[x]?=some (.list vs)
 tab:TabAt 294 σ 181 39 Lz->TabAt 294 σ' 181 39 Lz
theorem Kl.refl:Kl σ σ:=⟨λ_ _ h=>h,id⟩
theorem Kl.trans(h:Kl σ M)(g:Kl M F):Kl σ F:=⟨λx vs e=>g.list x vs (h.list x vs e),λt=>g.tab (h.tab t)⟩
theorem Kl.pre(h:σ<+:F):Kl σ F:=⟨λ_ _ e=>BP h e,λt=>t.keeps λ_ _ e=>BP h e⟩
theorem Kl.stood(R:Rk 323 σ r ss es S B P epB epP)(M F:Nat):Kl σ (stood σ B P M F es'):=by
 have Z:∀(x:Nat) (o:O),σ[x]?=some o->(∀ep kvs,o≠.dict ep kvs)->(Mine.Internal.stood σ B P M F es')[x]?=some o:=λx o e hd=>
  BO (λz=>by rw[<- z,R.pl] at e;have zq:=AG e;subst zq;exact hd _ _ rfl) (BO (λz=>by rw[<- z,R.bx] at e;have zq:=AG e;subst zq;exact hd _ _ rfl) e)
 refine⟨λx vs e=>Z x _ e λ_ _ h=>by injection h,λt=>?_⟩
 cases t with
 |tab h=>exact .tab (Z _ _ h λ_ _ h=>by injection h)
 |row m h h'=>exact .row m (Z _ _ h λ_ _ h=>by injection h) (Z _ _ h' λ_ _ h=>by injection h)
theorem Qd(h:x∉es.map (·.name)):(es.filter λy=>decide (y.name≠x))=es:=eV.mpr λy hy=>decide_eq_true λz=>h (z▸GB hy)
theorem tK(q:K true):F6 σ K .Eq e.pl (sL (some ((e.n:Int),e.u,e.l,e.r))):=aA q
theorem jS{ks:List Nat}{e:Ex}{C:Hl}{Q:HT}{c:Nat}{ρ:List V}(h:ks.contains c=true)(q:e C ρ σ (λv F=>Q (.ret v) ρ F) W3):rZ ks e C Q (.exc c) ρ σ:=by
 refine(?_:W2 _ _ (ks.contains c))
 rw[h];exact q
theorem nP{A:List V->Af->Prop}{B:HT}{c:Nat}{ρ:List V}(q:B (.exc c) ρ σ):L4 A B (.exc c) ρ σ:=q
theorem iB{x:Str}{m:Int}(R:Rk 323 σ r ss es S B P epB epP)(D:Dr ss es)(h18:es.length<18)(hx:Bk x=true)(hf:x∉es.map (·.name))(hB:B≠0)(hP:P≠0)(hBP:B≠P)(en:σ[n]?=some (.list (ss.map Sh.v)))(ek:σ[k]?=some (.list (es.map En.one)))(q:∀ep1 ep2 σ',Kl σ σ'->Rk 323 σ' r ss es S B P ep1 ep2->Q (.bool true) σ'):callW ER (d+7) 37 [.ref r,.ref n,.ref k,.str x,.int m] σ Q X:=by
 refine BG (fn:=Yg) rfl rfl ?_
 have hn:=D.n
 have E:=D.qT (ET _)
 refine Cu.LQ en ?_
 refine IY (by rw[AA];exact Im .lt .n0 .v0 (.l .n1 .v0 .e) rfl (A9.mpr hn.1)) ?_
 refine AW (LG (c:=m) (show 0<(ss.map Sh.v).length by rw[AA];exact Ec .lt .n0 .v0 (.l .n1 .v0 .e) rfl hn.1)) λi hi ei=>?_
 rw[ei]
 rw[AA] at hi
 refine FG (v:=(ss[i]).v) en (AQ _) (by rw[A6,As,AO hi];rfl) ?_
 have hz:=D.sh ss[i] (Dc hi)
 generalize ss[i]=s at hz
 refine IY hz.1.1 ?_
 refine Ql rfl ?_
 refine B5 rfl ?_
 refine IY hz.2.1 ?_
 refine EK rfl ?_
 refine B5 rfl ?_
 have hw:CI (1+m % s.W):=Ow hz.1
 have hh:CI (1+m*48271 % 2147483647 % s.H):=Ow hz.2
 generalize 1+m % s.W=w at hw
 generalize 1+m*48271 % 2147483647 % s.H=h at hh
 have xa:=Jo hx
 have xl:=AF (MJ hx) (by decide:12<=1000)
 refine E6 R.at_ (by decide +kernel) ?_
 refine q9 R (by exact Ec .lt .v0 (.n 63) (.t .v0 (.n 18) .e) rfl h18) xa xl (by exact Ec .le .v0 (.n 1000) (.l .v0 (.n 9) .e) rfl hn.2) E hB hP hBP (λ_ _ _ _ n' u' l' r' σ₁ ep1 ep2 he M F=>?_) (λh=>absurd ⟨hx,hw,hh⟩ h) (λ_ _ _ h=>absurd h hf) λ_ _ _ _ F σ₁ M=>?_
 .have R₁:Rk 323 σ₁ r ss es S B P epB epP:=R.keeps λ_ _ h=>BP M h
  have Z:=Kl.pre M
  have k₂:=Z.trans (Kl.stood (es':=es++[⟨x,w,h,decide (m / 7 % 2=0),n',u',l',r'⟩]) R₁ ep1 ep2)
  have R₂:=R₁.stood (es':=es++[⟨x,w,h,decide (m / 7 % 2=0),n',u',l',r'⟩]) hBP ep1 ep2
  have F':FP (dZ w h (decide (m / 7 % 2=0))) 0 (ss.zip (rowsOf ss.length es (some x))) (some ((n':Int),u',l',r')):=by
   rw[V9 hf];exact F.uF
  refine aZ (e:=⟨x,w,h,decide (m / 7 % 2=0),n',u',l',r'⟩) F' (k₂.list _ _ en) (k₂.list _ _ ek) hn.2 (by exact Ec .lt .v0 (.n 63) (.t .v0 (.n 18) .e) rfl h18) E.str xa.ok λσ₃ p₃=>?_
  refine tK ?_
  have R₃:Rk 323 σ₃ r ss (es++[⟨x,w,h,decide (m / 7 % 2=0),n',u',l',r'⟩]) S B P ep1 ep2:=R₂.keeps λ_ _ h=>BP p₃ h
  refine E6 R₃.at_ (by decide +kernel) ?_
  refine S6 R₃ (by rw[Ai];exact G5.mpr ⟨E.nodup,CX _ _,λa ha b hb z=>hf (by rw[<- (AM.mp hb:b=x),<- z];exact ha)⟩) (BB _ AL) hB hP hBP λep3 ep4=>?_
  refine aA ?_
  have ef:∀z:En,z.name=x->((es++[z]).filter λy=>decide (y.name≠x))=es:=λz hz=>by
   rw[f6,Qd hf,D3 (by rw[decide_eq_true_iff];exact λz'=>z' hz)]
   exact Bl _
  rw[ef _ rfl]
  exact q ep3 ep4 _ (k₂.trans ((Kl.pre p₃).trans (Kl.stood R₃ ep3 ep4))) (R₃.stood hBP ep3 ep4)
 .have R₁:Rk 323 σ₁ r ss es S B P epB epP:=R.keeps λ_ _ h=>BP M h
  have Z:=Kl.pre M
  have F':FP (dZ w h (decide (m / 7 % 2=0))) 0 (ss.zip (rowsOf ss.length es (some x))) none:=by
   rw[V9 hf];exact F.uF
  refine nP (jS rfl ?_)
  refine aZ (e:=⟨x,w,h,decide (m / 7 % 2=0),0,0,0,false⟩) F' (Z.list _ _ en) (Z.list _ _ ek) hn.2 (by exact Ec .lt .v0 (.n 63) (.t .v0 (.n 18) .e) rfl h18) E.str xa.ok λσ₃ p₃=>?_
  exact q epB epP _ (Z.trans (Kl.pre p₃)) (R₁.keeps λ_ _ h=>BP p₃ h)
end
set_option maxHeartbeats 2000000
section
variable {d:Nat} {σ:Af} {Q:BS} {X:CP} {n k r S B P epB epP:Nat} {ss:List Sh} {es es':List En} {e:En}
theorem n7(hs:∀s∈ss,CI s.W/\CI s.H)(h0:ss≠[])(F:FP (fK 1 1 false) 0 (ss.zip (rowsOf ss.length [] none)) none):False:=by
 obtain⟨s,l',rfl⟩:∃s l,ss=s::l:=HQ h0
 have M:=hs s AL
 have e1:(s::l').zip (rowsOf (s::l').length [] none)=(s,[])::l'.zip ((rowsOf (l'.length+1) [] none).tail):=by
  unfold rowsOf
  rw[Bn,XG]
  rfl
 have F:=F.uF
 rw[e1] at F
 have g0:jO [] s.W s.H 1 1 false 0 0:=⟨DG 0,DG 0,M.2.1,M.1.1,λo Z=>absurd Z BU⟩
 rcases F.cons_inv with ⟨p,o,e⟩ | ⟨o,_⟩
 .exact absurd e.symm (AY _)
 .exact Nd o 0 0 false (λh=>by injection h) g0
theorem vG(h:es[i]?=some e):es.drop i=e::es.drop (i+1):=by
 have h:=AP.mp h
 rw[FX h.1,h.2]
theorem dH(R:Rk 323 σ r ss es S B P epB epP)(D:Dr ss es)(hB:B≠0)(hP:P≠0)(hBP:B≠P)(t:TabAt 294 σ 181 39 Lz)(en:σ[n]?=some (.list (ss.map Sh.v)))(ek:σ[k]?=some (.list (es.map En.one)))(q:∀M,Kl σ M->Q (.bool true) M):callW ER (d+7) 38 [.ref r,.ref n,.ref k] σ Q X:=by
 refine BG (fn:=ZL) rfl rfl ?_
 have hn:=D.n
 have hl:=D.len
 refine HV (λi ρ' M=>∃ep1 ep2 a,Kl σ M/\Rk 323 M r ss (es.drop i) S B P ep1 ep2/\ρ'=[.ref r,.ref n,.ref k,a,.undef,.undef]) ek ⟨_,_,_,.refl,R,rfl⟩ (λi v ρ' M R'' hv hI hR=>?_) λρ' M hI=>?_
 .refine CW hI λep1 ep2 a kl R1 Z=>?_;subst Z
  refine AW (List.CA hv) λe he ze=>?_;subst ze
  have ed:=vG he
  have nd:((es.drop i).map (·.name)).Nodup:=by rw[K8];exact List.Nodup.sublist (Pb i _) D.nodup
  refine E6 R1.at_ (by decide +kernel) ?_
  refine S6 R1 nd (by rw[ed];exact AL) hB hP hBP λep3 ep4=>?_
  refine aL ?_
  have kl':=kl.trans (Kl.stood (es':=(es.drop i).filter λx=>decide (x.name≠e.name)) R1 ep3 ep4)
  refine hR _ _ (kl'.list _ _ ek) ⟨ep3,ep4,_,kl',?_,rfl⟩
  have ef:((es.drop i).filter λx=>decide (x.name≠e.name))=es.drop (i+1):=by
   rw[ed] at nd ⊢
   rw[D3 (by rw[decide_eq_true_iff];exact λz=>z rfl)]
   exact Qd (Ds.mp (by rw[B6] at nd;exact nd)).1
  rw[ef]
  exact R1.stood hBP ep3 ep4
 .refine CW hI λep1 ep2 a kl R1 Z=>?_;subst Z
  rw[AA,EV] at R1
  have en':=kl.list _ _ en
  refine Cu.LQ en' ?_
  rw[AA]
  refine Mm (λi ρ' σ''=>σ''=M/\∃b,ρ'=[.ref r,.ref n,.ref k,a,b,.undef]) ⟨Au (by decide) (AQ _),Au (A9.mpr hn.2) (by decide)⟩ ⟨rfl,_,rfl⟩ (λi ρ' σ'' R'' hi hI hR=>?_) λρ' σ'' hI=>?_
  .refine L8 hI λZ b ze2=>?_;subst Z;subst ze2
   have i1:i<ss.length:=BH.mp hi
   have hz:=D.sh ss[i] (Dc i1)
   have hv:(ss.map Sh.v)[(i:Int).toNat]?=some ss[i].v:=by rw[A6,As,AO i1];rfl
   refine E6 R1.at_ (by decide +kernel) ?_
   refine r4 R1 (AO i1) hz.1 ?_
   refine FG en' (AQ i) hv ?_
   refine FG en' (AQ i) hv ?_
   refine Sp (.inl ⟨Au (by decide) hz.1.1,Au hz.1.2 (by decide)⟩) ?_
   refine MK (λh=>absurd rfl h) λ_=>?_
   exact hR _ _ ⟨rfl,_,rfl⟩
  .refine L8 hI λZ b ze2=>?_;subst Z;subst ze2
   have E:Oq ss []:=⟨TY,Hn,Hn,by decide⟩
   refine E6 R1.at_ (by decide +kernel) ?_
   refine Zq R1 E (.inl (by decide:(0:Nat)<64)) (kl.tab t) λp m σ2 kp t2 hpm hpw em=>?_
   have e0:p=[]:=List.Perm.eq_nil hpm
   subst e0
   refine Om (R:=[]) (AX em) Aa Hn (λh=>absurd rfl h) λ_=>?_
   have R2:Rk 323 (σ2++[.list []]) r ss [] S B P ep1 ep2:=(R1.RT (kl.tab t) kp).keeps λ_ _ h=>AX h
   have kl2:Kl σ (σ2++[.list []]):=kl.trans ⟨λx vs h=>AX (kp x _ ((kl.tab t).ne1 h) h),λ_=>t2.keeps λ_ _ h=>AX h⟩
   refine E6 R2.at_ (by decide +kernel) ?_
   have gn:Bk "new"=true:=by decide +kernel
   have s1:CI 1:=by decide
   refine q9 R2 (by decide) (Jo gn) (by decide +kernel) (by exact Ec .le .v0 (.n 1000) (.l .v0 (.n 9) .e) rfl hn.2) E hB hP hBP (λ_ _ _ _ k u l r' σ3 ep3 ep4 he p3 F=>?_) (λh=>absurd ⟨gn,s1,s1⟩ h) (λ_ _ _ h=>absurd h BU) λ_ _ _ _ F σ3 p3=>?_
   .have z:=wC D.sh D.ne F
    rw[z.1,z.2.1,z.2.2.1,z.2.2.2]
    refine j9 (x:=.tuple [.int 0,.int 0,.int 0,.bool false]) rfl rfl rfl ?_
    exact q _ (kl2.trans ((Kl.pre p3).trans (Kl.stood (R2.keeps λ_ _ h=>BP p3 h) ep3 ep4)))
   .exact(n7 D.sh D.ne F).elim
end
set_option maxHeartbeats 2000000
section
variable {d:Nat} {σ σ':Af} {Q:BS} {X:CP} {n k r:Nat} {ss:List Sh} {es:List En} {e:En} {s:Sh} {ns:List Str} {xs:List Int} {o:O}
structure St(σ:Af)(ns:List Str)(ss:List Sh)(es:List En)(σ':Af):Prop where
 p:σ<+:σ'
 a:σ'[σ.length]?=some (.list (ss.map Sh.v))
 b:σ'[σ.length+1]?=some (.list (es.map En.one))
 n:σ'[σ.length+2]?=some (.list (ns.map .str))
theorem St.app(h:St σ ns ss es σ'):St σ ns ss es (σ'++[o]):=⟨h.p.trans AZ,AX h.a,AX h.b,AX h.n⟩
theorem MB(h:σ[n]?=some o):(σ.set n B)[n]?=some B:=by
 rw[Ib (AP.mp h).1]
theorem St.JS(h:St σ ns ss es σ'):St σ ns (ss++[s]) es (σ'.set σ.length (.list (ss.map Sh.v++[s.v]))):=
 ⟨LC h.p (Az _),by rw[MB h.a,Ai];rfl,BO (by exact λB=>N6 (.p .v0 (.a .v0 .n1) .e) rfl B) h.b,BO (by exact λB=>N6 (.p .v0 (.a .v0 .n2) .e) rfl B) h.n⟩
theorem St.box(h:St σ ns ss es σ'):St σ ns ss (es++[e]) (σ'.set (σ.length+1) (.list (es.map En.one++[e.one]))):=
 ⟨LC h.p (Cx _),BO (by exact λB=>N6 (.q (.a .v0 .n1) .v0 .e) rfl B) h.a,by rw[MB h.b,Ai];rfl,BO (by exact λB=>N6 (.p (.a .v0 .n1) (.a .v0 .n2) .e) rfl B) h.n⟩
theorem q8{a b c:Int}{j:Nat}(h:[V.int a,.int b,.int c][j]?=some v)(Z:CI a)(F:CI b)(B:CI c):∃M,v=.int M/\CI M:=by
 match j,h with
 | 0,h=>exact⟨a,(AG h).symm,Z⟩
 | 1,h=>exact⟨b,(AG h).symm,F⟩
 | 2,h=>exact⟨c,(AG h).symm,B⟩
noncomputable abbrev yT:List Sx:=[BR (.var 5) (Ah .Add (AU 1) (Ah .Mod (A2 24 [AD 0,Ah .Add (AU 5) (Ah .Mult (AU 5) (AD 4))]) (A8 (CD [AU 9,AU 999999,Ah .Pow (AU 10) (AU 6)]) (Ah .Mod (AD 4) (AU 3))))),BR (.var 6) (Ah .Add (AU 1) (Ah .Mod (A2 24 [AD 0,Ah .Add (AU 6) (Ah .Mult (AU 5) (AD 4))]) (A8 (CD [AU 9,Ah .Pow (AU 10) (AU 6),AU 99999]) (Ah .Mod (AD 4) (AU 3))))),Eh (Mv (AD 1) (Dw [AD 5,AD 6,A8 (CD [BE "low",BE "left"]) (Ah .Mod (A2 24 [AD 0,Ah .Add (AU 7) (Ah .Mult (AU 5) (AD 4))]) (AU 2))]))]
theorem ud{i:Nat}(hx:σ[0]?=some (.list (xs.map .int)))(S:St σ ns ss es σ')(hl:ss.length<=9)(q:∀s B,CI s.W/\CI s.H->St σ ns (ss++[s]) es B->K .next [.ref 0,.ref σ.length,.ref (σ.length+1),.ref (σ.length+2),.int i,.int s.W,.int s.H,a7,a8,a9,a10,a11,a12,a13,.undef] B) :
  Ek yT (callW ER (d+1)) [.ref 0,.ref σ.length,.ref (σ.length+1),.ref (σ.length+2),.int i,a5,a6,a7,a8,a9,a10,a11,a12,a13,.undef] σ' K:=by
 have h0:σ.length≠0:=λz=>by rw[By.mp z] at hx;exact absurd hx.symm (AY _)
 have md:∀{k:Int} {B:Af} {K:BS},K (.int (5*k)) B->Eb B K .Mult (.int 5) (.int k):=λh=>Sp (.inl (by decide)) h
 refine md ?_
 refine GX (BP S.p hx) (by exact Im .le .n0 (.a (.n 5) (.m 5 .v0)) (.w 5 (.l .n0 .v0 .e)) rfl (AQ _)) ?_
 refine Eb.pow (n:=6) (by decide) (by decide) ?_
 refine B5 rfl ?_
 refine H5 (k:=3) (vs:=[.int 9,.int 999999,.int 1000000]) Aa (by decide) rfl λj v hj ej hv=>?_
 refine AW (q8 hv (by decide) (by decide) (by decide)) λM F hM=>?_;subst F
 refine IY hM.1 ?_
 have hW:CI (1+cellAt xs (5+5*i) % M):=Ow hM
 refine md ?_
 refine GX (BP S.app.p hx) (by exact Im .le .n0 (.a (.n 6) (.m 5 .v0)) (.w 5 (.l .n0 .v0 .e)) rfl (AQ _)) ?_
 refine Eb.pow (n:=6) (by decide) (by decide) ?_
 refine B5 rfl ?_
 refine H5 (k:=3) (vs:=[.int 9,.int 1000000,.int 99999]) Aa (by decide) rfl λj v hj ej hv=>?_
 refine AW (q8 hv (by decide) (by decide) (by decide)) λM' F Z=>?_;subst F
 refine IY Z.1 ?_
 have hH:CI (1+cellAt xs (6+5*i) % M'):=Ow Z
 refine Kg S.app.app.a ?_
 refine md ?_
 refine GX (BP S.app.app.app.p hx) (by exact Im .le .n0 (.a (.n 7) (.m 5 .v0)) (.w 5 (.l .n0 .v0 .e)) rfl (AQ _)) ?_
 refine B5 rfl ?_
 refine ID (R:=["low", "left"]) (k:=2) Aa (by decide) rfl λw hw=>?_
 obtain⟨b,eb⟩:∃b,V.str w=WG b:=by
  refine A7 (Ao.mp hw) (λe=>?_) (λm=>?_)
  .exact⟨true,by rw[e];rfl⟩
  .exact⟨false,by rw[AM.mp m];rfl⟩
 rw[eb]
 refine Gq S.app.app.app.a h0 (by rw[AA];exact Ec .lt .v0 (.n 1000000) (.l .v0 (.n 9) .e) rfl hl) ?_
 exact q ⟨1+cellAt xs (5+5*i) % M,1+cellAt xs (6+5*i) % M',b⟩ _ ⟨hW,hH⟩ S.app.app.app.JS
end
set_option maxHeartbeats 2000000
section
variable {d:Nat} {σ σ':Af} {Q:BS} {X:CP} {n k r:Nat} {ss:List Sh} {es:List En} {e:En} {s:Sh} {ns:List Str} {xs:List Int} {o:O}
structure Fb(ns:List Str)(s:Sh)(i:Nat)(w h u l:Int)(r:Bool)(e:En):Prop where
 n:e.n=i
 nm:ns[i]?=some e.name
 z:CI e.w/\CI e.h
 rt:e.r=true->e.t=true
 u:e.u=u
 l:e.l=l
 r:e.r=r
 o:e.ot.w=w/\e.ot.h=h
noncomputable abbrev yQ:List Sx:=[BR (.var 8) (Ah .Add (AU 1) (Ah .Mod (A2 24 [AD 0,Ah .Add (AU 8) (Ah .Mult (AU 5) (AD 4))]) (AD 5))),BR (.var 9) (Ah .Add (AU 1) (Ah .Mod (A2 24 [AD 0,Ah .Add (AU 9) (Ah .Mult (AU 5) (AD 4))]) (AD 6))),BR (.var 10) (Ah .Mod (Ah .Mod (Ah .Mult (A2 24 [AD 0,Ah .Add (AU 8) (Ah .Mult (AU 5) (AD 4))]) (AU 48271)) (AU 2147483647)) (Ah .Add (Ah .Sub (AD 6) (AD 9)) (AU 1))),BR (.var 11) (Ah .Mod (Ah .Mod (Ah .Mult (A2 24 [AD 0,Ah .Add (AU 9) (Ah .Mult (AU 5) (AD 4))]) (AU 69621)) (AU 2147483647)) (Ah .Add (Ah .Sub (AD 5) (AD 8)) (AU 1)))]
noncomputable abbrev yU:List Sx:=[BR (.var 12) (Dw [A8 (AD 3) (AD 4),AD 8,AD 9,Jh (Bj (Ah .Mod (AD 7) (AU 4)) [.Eq] [AU 2])]),Fy (Bj (Ah .Mod (AD 7) (AU 4)) [.Eq] [AU 3]) [BR (.var 12) (Dw [A8 (AD 3) (AD 4),AD 9,AD 8,Fe true])] []]
noncomputable abbrev y2:List Sx:=[Eh (Mv (AD 2) (Ah .Add (AD 12) (Dw [Dw [AD 4,AD 10,AD 11,Jh (Bj (Ah .Mod (AD 7) (AU 4)) [.Eq] [AU 3])]]))),Fy (LB [Bj (Ah .Mod (Ah .FloorDiv (AD 7) (AU 4)) (AU 2)) [.Eq] [AU 0],Uj [Bj (Ah .Add (AD 10) (AD 9)) [.Lt] [AD 6],Bj (Ah .Add (AD 11) (AD 8)) [.Lt] [AD 5]]]) [BR (.var 13) (Dw [A8 (AD 3) (Ah .Add (AU 8) (AD 4)),AU 1,AU 1,Jh (Bj (Ah .Mod (Ah .FloorDiv (AD 7) (AU 8)) (AU 2)) [.Eq] [AU 0])]),Eh (Mv (AD 2) (Ah .Add (AD 13) (Dw [Dw [AD 4,Ah .Sub (AD 6) (AU 1),Ah .Sub (AD 5) (AU 1),KC true [A8 (AD 13) (AU 3),Jh (Bj (Ah .Mod (Ah .FloorDiv (AD 7) (AU 16)) (AU 2)) [.Eq] [AU 0])]]])))] []]
theorem ux{i:Nat}{W H v7:Int}(hx:σ'[0]?=some (.list (xs.map .int)))(hW:CI W)(hH:CI H)(q:∀w h u l,CI w->CI h->0<=u->u+h<=H->0<=l->l+w<=W->K .next [.ref 0,v1,v2,v3,.int i,.int W,.int H,.int v7,.int w,.int h,.int u,.int l,a12,a13,.undef] σ') :
  Ek yQ (callW ER (d+1)) [.ref 0,v1,v2,v3,.int i,.int W,.int H,.int v7,a8,a9,a10,a11,a12,a13,.undef] σ' K:=by
 have Z:∀{k:Int} {B:Af} {K:BS},K (.int (5*k)) B->Eb B K .Mult (.int 5) (.int k):=λh=>Sp (.inl (by decide)) h
 refine Z ?_
 refine GX hx (by exact Im .le .n0 (.a (.n 8) (.m 5 .v0)) (.w 5 (.l .n0 .v0 .e)) rfl (AQ _)) ?_
 refine IY hW.1 ?_
 refine Z ?_
 refine GX hx (by exact Im .le .n0 (.a (.n 9) (.m 5 .v0)) (.w 5 (.l .n0 .v0 .e)) rfl (AQ _)) ?_
 refine IY hH.1 ?_
 have M:CI (1+cellAt xs (8+5*i) % W)/\1+cellAt xs (8+5*i) % W<=W:=⟨Ow hW,Yp hW.1⟩
 have F:CI (1+cellAt xs (9+5*i) % H)/\1+cellAt xs (9+5*i) % H<=H:=⟨Ow hH,Yp hH.1⟩
 refine Z ?_
 refine GX hx (by exact Im .le .n0 (.a (.n 8) (.m 5 .v0)) (.w 5 (.l .n0 .v0 .e)) rfl (AQ _)) ?_
 refine Ql rfl ?_
 refine B5 rfl ?_
 refine IY (by exact O0 .lt .n0 (.a (.s .v0 (.a .n1 .v1)) .n1) (.l (.a .n1 .v1) .v0 .e) rfl F.2) ?_
 refine Z ?_
 refine GX hx (by exact Im .le .n0 (.a (.n 9) (.m 5 .v0)) (.w 5 (.l .n0 .v0 .e)) rfl (AQ _)) ?_
 refine Ql rfl ?_
 refine B5 rfl ?_
 refine IY (by exact O0 .lt .n0 (.a (.s .v0 (.a .n1 .v1)) .n1) (.l (.a .n1 .v1) .v0 .e) rfl M.2) ?_
 have hu:=λc:Int=>C4 c (by exact λz0=>xh (.q (.a (.s .v0 (.a .n1 .v1)) .n1) .n0 (.l (.a .n1 .v1) .v0 .e)) rfl z0 F.2:H-(1+cellAt xs (9+5*i) % H)+1≠0)
 have hu':=λc:Int=>Bw c (by exact O0 .lt .n0 (.a (.s .v0 (.a .n1 .v1)) .n1) (.l (.a .n1 .v1) .v0 .e) rfl F.2:0<H-(1+cellAt xs (9+5*i) % H)+1)
 have hl:=λc:Int=>C4 c (by exact λz0=>xh (.q (.a (.s .v0 (.a .n1 .v1)) .n1) .n0 (.l (.a .n1 .v1) .v0 .e)) rfl z0 M.2:W-(1+cellAt xs (8+5*i) % W)+1≠0)
 have hl':=λc:Int=>Bw c (by exact O0 .lt .n0 (.a (.s .v0 (.a .n1 .v1)) .n1) (.l (.a .n1 .v1) .v0 .e) rfl M.2:0<W-(1+cellAt xs (8+5*i) % W)+1)
 refine q (1+cellAt xs (8+5*i) % W) (1+cellAt xs (9+5*i) % H) _ _ M.1 F.1 (hu _) ?_ (hl _) ?_
 .have:=hu' (cellAt xs (8+5*i)*48271 % 2147483647);exact VD .le (.a .v0 (.a .n1 .v1)) .v2 (.t .v0 (.a (.s .v2 (.a .n1 .v1)) .n1) .e) rfl this
 .have:=hl' (cellAt xs (9+5*i)*69621 % 2147483647);exact VD .le (.a .v0 (.a .n1 .v1)) .v2 (.t .v0 (.a (.s .v2 (.a .n1 .v1)) .n1) .e) rfl this
theorem uj(M:σ'[N]?=some (.list (ns.map .str)))(hi:i<ns.length)(hw:CI w)(Z:CI h)(q:∀e,Fb ns s i w h u l (decide (v7 % 4=3)) e->K .next [.ref 0,v1,v2,.ref N,.int i,.int W,.int H,.int v7,.int w,.int h,.int u,.int l,e.box,B,.undef] σ') :
  Ek yU (callW ER (d+1)) [.ref 0,v1,v2,.ref N,.int i,.int W,.int H,.int v7,.int w,.int h,.int u,.int l,a12,B,.undef] σ' K:=by
 refine LA M hi λx _ hx=>?_
 refine B5 rfl ?_
 refine B5 rfl ?_
 refine Ca (λF=>?_) λF=>?_
 .refine LA M hi λy _ hy=>?_
  exact q ⟨y,h,w,true,i,u,l,true⟩ ⟨rfl,hy,⟨Z,hw⟩,λ_=>rfl,rfl,rfl,(decide_eq_true F).symm,rfl,rfl⟩
 .exact q ⟨x,w,h,_,i,u,l,false⟩ ⟨rfl,hx,⟨hw,Z⟩,(λh=>by injection h),rfl,rfl,(decide_eq_false F).symm,rfl,rfl⟩
theorem u2(hx:σ[0]?=some (.list (xs.map .int)))(S:St σ ns (ss++[s]) es σ')(D:Dn ns ss es)(N:Iw ns)(hs:CI s.W/\CI s.H)(h8:ss.length<8)(F:Fb ns s ss.length w h u l (decide (B % 4=3)) e)(hu:0<=u)(hu':u+h<=s.H)(hl:0<=l)(hl':l+w<=s.W)(q:∀es' b13 M,Dn ns (ss++[s]) es'->St σ ns (ss++[s]) es' M->K .next [.ref 0,.ref σ.length,.ref (σ.length+1),.ref (σ.length+2),.int ss.length,.int s.W,.int s.H,.int B,.int w,.int h,.int u,.int l,e.box,b13,.undef] M) :
  Ek y2 (callW ER (d+1)) [.ref 0,.ref σ.length,.ref (σ.length+1),.ref (σ.length+2),.int ss.length,.int s.W,.int s.H,.int B,.int w,.int h,.int u,.int l,e.box,a13,.undef] σ' K:=by
 have hp:0<=e.u/\0<=e.l/\e.u+e.ot.h<=s.H/\e.l+e.ot.w<=s.W:=by rw[F.u,F.l,F.o.1,F.o.2];exact⟨hu,hl,hu',hl'⟩
 have bl:=D.len
 have eo:V.tup ([V.str e.name,.int e.w,.int e.h,.bool e.t]++[V.tup [.int ss.length,.int u,.int l,.bool (decide (B % 4=3))]])=e.one:=by
  unfold En.one En.pl
  rw[F.n,F.u,F.l,F.r];rfl
 refine Kg S.b ?_
 refine B5 rfl ?_
 refine Eb.mK (Bi _ _) (Bi _ _) (Ap rfl) ?_
 refine Gq S.b (DS _) (by rw[AA];exact Dy .lt .v0 (.n 1000000) (.l .v0 (.m 2 .v1) (.w 2 (.t .v1 (.n 8) .e))) rfl bl h8) ?_
 have D1:=D.first N hs h8 F.n F.nm F.z F.rt hp
 have Z:St σ ns (ss++[s]) (es++[e]) (σ'.set (σ.length+1) (.list (es.map En.one++[V.tup ([V.str e.name,.int e.w,.int e.h,.bool e.t]++[V.tup [.int ss.length,.int u,.int l,.bool (decide (B % 4=3))]])]))):=by rw[eo];exact S.box
 have two:u+h<s.H\/l+w<s.W->Ek [BR (.var 13) (Dw [A8 (AD 3) (Ah .Add (AU 8) (AD 4)),AU 1,AU 1,Jh (Bj (Ah .Mod (Ah .FloorDiv (AD 7) (AU 8)) (AU 2)) [.Eq] [AU 0])]),Eh (Mv (AD 2) (Ah .Add (AD 13) (Dw [Dw [AD 4,Ah .Sub (AD 6) (AU 1),Ah .Sub (AD 5) (AU 1),KC true [A8 (AD 13) (AU 3),Jh (Bj (Ah .Mod (Ah .FloorDiv (AD 7) (AU 16)) (AU 2)) [.Eq] [AU 0])]]])))] (callW ER (d+1)) [.ref 0,.ref σ.length,.ref (σ.length+1),.ref (σ.length+2),.int ss.length,.int s.W,.int s.H,.int B,.int w,.int h,.int u,.int l,e.box,a13,.undef] (σ'.set (σ.length+1) (.list (es.map En.one++[V.tup ([V.str e.name,.int e.w,.int e.h,.bool e.t]++[V.tup [.int ss.length,.int u,.int l,.bool (decide (B % 4=3))]])]))) K:=λhc=>by
  generalize σ'.set (σ.length+1) (.list (es.map En.one++[V.tup ([V.str e.name,.int e.w,.int e.h,.bool e.t]++[V.tup [.int ss.length,.int u,.int l,.bool (decide (B % 4=3))]])]))=σ1 at Z
  have e8:(8:Int)+(ss.length:Int)=((8+ss.length:Nat):Int):=by exact C5 (O0 .le (.a (.n 8) .v0) .v1 (.p .v1 (.a (.n 8) .v0) .e) rfl (C2 _ _)) (O0 .le .v0 (.a (.n 8) .v1) (.q .v0 (.a (.n 8) .v1) .e) rfl (C2 _ _))
  refine(?_:KD σ1 _ (.ref (σ.length+2)) (.int ((8:Int)+(ss.length:Int))))
  rw[e8]
  refine LA Z.n (by rw[N.len];exact Ec .lt (.a (.n 8) .v0) (.n 17) (.t .v0 (.n 8) .e) rfl h8) λy _ hy=>?_
  refine EK rfl ?_
  refine B5 rfl ?_
  refine Kg Z.b ?_
  have fin:∀r':Bool,(r'=true->decide (B / 8 % 2=0)=true)->K .next [.ref 0,.ref σ.length,.ref (σ.length+1),.ref (σ.length+2),.int ss.length,.int s.W,.int s.H,.int B,.int w,.int h,.int u,.int l,e.box,.tup [.str y,.int 1,.int 1,.bool (decide (B / 8 % 2=0))],.undef] (σ1.set (σ.length+1) (.list ((es++[e]).map En.one++[V.tup ([V.str y,.int 1,.int 1,.bool (decide (B / 8 % 2=0))]++[V.tup [.int ss.length,.int (s.H-1),.int (s.W-1),.bool r']])]))):=λr' hr'=>by
   have D2:=D.second (x:=⟨y,1,1,decide (B / 8 % 2=0),ss.length,s.H-1,s.W-1,r'⟩) N hs h8 F.n F.nm F.z F.rt hp rfl hy ⟨rfl,rfl⟩ hr' ⟨rfl,rfl⟩ (by rw[F.u,F.l,F.o.1,F.o.2];exact hc)
   exact q _ _ _ D2 Z.box
  have ap:(es++[e]).length<1000000:=by rw[AI];show _+1<_;exact Dy .lt (.a .v0 .n1) (.n 1000000) (.l .v0 (.m 2 .v1) (.w 2 (.t .v1 (.n 8) .e))) rfl bl h8
  generalize decide (B / 8 % 2=0)=t at fin
  cases t with
  |true=>
   refine EK rfl ?_
   refine B5 rfl ?_
   refine Eb.mK (Bi _ _) (Bi _ _) (Ap rfl) ?_
   refine Gq Z.b (DS _) (by rw[AA];exact ap) ?_
   exact fin _ λ_=>rfl
  |false=>
   refine Eb.mK (Bi _ _) (Bi _ _) (Ap rfl) ?_
   refine Gq Z.b (DS _) (by rw[AA];exact ap) ?_
   exact fin false (λh=>by injection h)
 refine EK rfl ?_
 refine B5 rfl ?_
 refine Ca (λh1=>?_) λh1=>?_
 .refine Ca (λh2=>?_) λh2=>?_
  .exact two (.inl h2)
  .refine Ca (λh3=>?_) λh3=>?_
   .exact two (.inr h3)
   .exact q _ _ _ D1 Z
 .exact q _ _ _ D1 Z
end
set_option maxHeartbeats 2000000
section
variable {d:Nat} {σ σ':Af} {Q:BS} {X:CP} {n k r:Nat} {ss:List Sh} {es:List En} {e:En} {s:Sh} {ns:List Str} {xs:List Int} {o:O}
theorem WJ{C:Hl}{i:Nat}{body:List Sx}{v:V}{ρ:List V}{Q:HT}(q:Ek body C (ρ.set i v) σ Q):MF C (.var i) body v ρ σ Q:=q
theorem xB(q:A):W2 A B true:=q
inductive xO(σ:Af)(ns:List Str)(i:Nat):List V->Af->Prop
 |mk (ss:List Sh) (es:List En) (a4 a5 a6 a7 a8 a9 a10 a11 a12 a13:V) (σ':Af):Dn ns ss es->St σ ns ss es σ'->ss.length=i->xO σ ns i [.ref 0,.ref σ.length,.ref (σ.length+1),.ref (σ.length+2),a4,a5,a6,a7,a8,a9,a10,a11,a12,a13,.undef] σ'
theorem oy(M:σ[0]?=some (.list (xs.map .int)))(q:∀ss es a b σ',Dn (MO (cellAt xs 1)) ss es->Iw (MO (cellAt xs 1))->1<=ss.length/\ss.length<=9->σ<+:σ'->σ'[a]?=some (.list (ss.map Sh.v))->σ'[b]?=some (.list (es.map En.one))->Q (.tup [.ref a,.ref b]) σ'):callW ER (d+2) 26 [.ref 0] σ Q X:=by
 refine BG (fn:=YC) rfl rfl ?_
 refine GX (k:=1) (AX (AX M)) (by decide) ?_
 refine OH λN=>?_
 generalize MO (cellAt xs 1)=ns at N q
 have S0:St σ ns [] [] (σ++[.list []]++[.list []]++[.list (ns.map .str)]):=⟨(AZ.trans AZ).trans AZ,AX (AX Aa),by
  refine AX ?_
  have:=Aa (σ:=σ++[.list []]) (o:=.list [])
  rw[AI] at this
  exact this,by
  have:=Aa (σ:=σ++[.list []]++[.list []]) (o:=.list (ns.map .str))
  rw[AI,AI] at this
  exact this⟩
 have la:(σ++[O.list []]).length=σ.length+1:=by rw[AI];rfl
 have lb:(σ++[O.list []]++[O.list []]).length=σ.length+2:=by rw[AI,AI];rfl
 refine GX (k:=0) (BP S0.p M) (by decide) ?_
 refine B5 rfl ?_
 have h0:=C4 (cellAt xs 0) (by decide:(9:Int)≠0)
 have h9:=Bw (cellAt xs 0) (by decide:(0:Int)<9)
 have b9:1+cellAt xs 0 % 9<=9:=by rw[MU];exact h9
 refine Mm (xO σ ns) ⟨Au (by decide) (J8 h0 1),Au b9 (by decide)⟩ (by have:=xO.mk [] [] .undef .undef .undef .undef .undef .undef .undef .undef .undef .undef _ .nil S0 rfl;rw[<- la,<- lb] at this;exact this) (λi ρ' σ' R hi hI hR=>?_) λρ' σ' hI=>?_
 .cases hI with
  |mk ss es a4 a5 a6 a7 a8 a9 a10 a11 a12 a13 σ' D S B=>
  subst B
  refine WJ ?_
  have hi9:ss.length<9:=BH.mp (Cn hi b9)
  refine LO 3 (ud M S (A4 hi9) λs Z hs S'=>?_)
  have ll:(ss++[s]).length=ss.length+1:=by rw[AI];rfl
  have no:∀v7:Int,R [.ref 0,.ref σ.length,.ref (σ.length+1),.ref (σ.length+2),.int ss.length,.int s.W,.int s.H,.int v7,a8,a9,a10,a11,a12,a13,.undef] Z:=λv7=>hR _ _ (.mk _ es _ _ _ _ _ _ _ _ _ _ _ (D.JS hs) S' ll)
  refine Sp (.inl (by decide)) ?_
  refine GX (BP S'.p M) (Int.add_nonneg (by decide) (Int.mul_nonneg (by decide) (AQ _))) ?_
  refine EK rfl ?_
  refine Ca (λh8=>?_) λh8=>?_
  .refine B5 rfl ?_
   refine Ca (λh4=>?_) λh4=>?_
   .refine xB ?_
    refine LO 4 (ux (BP S'.p M) hs.1 hs.2 λw h u l hw hh hu hu' B hl'=>?_)
    refine kE 2 (uj (s:=s) S'.n (by rw[N.len];exact Ac hi9 (by decide)) hw hh λe F=>?_)
    exact u2 M S' D N hs (BH.mp h8) F hu hu' B hl' λes' b13 σ3 D' S3=>hR _ _ (.mk _ es' _ _ _ _ _ _ _ _ _ _ _ D' S3 ll)
   .exact no _
  .exact no _
 .cases hI with
  |mk ss es a4 a5 a6 a7 a8 a9 a10 a11 a12 a13 σ' D S B=>
  have e:=EH (Au (by decide) (J8 h0 1):0<=1+cellAt xs 0 % 9)
  exact q ss es _ _ _ D N ⟨A9.mp (by rw[B,e];exact U8 h0),A9.mp (by rw[B,e];exact b9)⟩ S.p S.a S.b
end
set_option maxHeartbeats 2000000
section
variable {d:Nat} {σ σ':Af} {Q:BS} {X:CP}
theorem t8(q:∀s w h m a b σ',Dr [s] ((Ar m).map (mb s.b w h))->m<=89->σ<+:σ'->σ'[a]?=some (.list ([s].map Sh.v))->σ'[b]?=some (.list (((Ar m).map (mb s.b w h)).map En.one))->Q (.tup [.ref a,.ref b]) σ')(h0:0<σ.length):callW ER (d+1) 48 [.int c] σ Q X:=by
 refine BG (fn:=Xc) rfl rfl ?_
 refine B5 rfl ?_
 refine EK rfl ?_
 refine B5 rfl ?_
 refine EK rfl ?_
 refine B5 rfl ?_
 refine ID (R:=[AH "low", AH "left"]) (k:=2) Aa (by decide) rfl λx hx=>?_
 obtain⟨b,rfl⟩:∃b:Bool,x=if b then AH "low" else AH "left":=by
  refine A7 (Ao.mp hx) (λe=>?_) (λm=>?_)
  .exact⟨true,e⟩
  .exact⟨false,AM.mp m⟩
 refine EK rfl ?_
 refine B5 rfl ?_
 have m0:=C4 c (by decide:(70:Int)≠0)
 have m1:=Bw c (by decide:(0:Int)<70)
 have g0:=C4 (c / 70) (by decide:(3:Int)≠0)
 have g1:=Bw (c / 70) (by decide:(0:Int)<3)
 have w0:=C4 (c / 420) (by decide:(3:Int)≠0)
 have w1:=Bw (c / 420) (by decide:(0:Int)<3)
 refine Zx ⟨by exact Im .lt .n0 (.a .n1 .v0) (.l .n0 .v0 .e) rfl g0,Au (J8 (C0 g1) 1) (by decide)⟩ ?_
 generalize em:20+c % 70=m
 generalize eh:1+c / 70 % 3=h
 generalize c / 420 % 3=y at w0 w1 ⊢
 have em:=em.symm
 have eh:=eh.symm
 have B:0<h/\h<=3:=by exact⟨O0 .lt .n0 .v0 (.p .v0 (.a .n1 .v1) (.l .n0 .v1 .e)) rfl eh g0,O0 .le .v0 .n3 (.q .v0 (.a .n1 .v1) (.t .v1 .n3 .e)) rfl eh g1⟩
 have hw:0<m / h:=Cn (by decide) (Int.le_ediv_of_mul_le B.1 (by exact VD .le (.m 1 .v0) .v1 (.p .v1 (.a (.n 20) .v2) (.l .v0 .n3 (.l .n0 .v2 .e))) rfl em B.2 m0:1*h<=m))
 have hwm:m / h<=m:=Int.ediv_le_self h (by exact O0 .le .n0 .v0 (.p .v0 (.a (.n 20) .v1) (.l .n0 .v1 .e)) rfl em m0)
 have hwh:m / h*h<=m:=Int.ediv_mul_le m (KN B.1)
 generalize m / h=w at hw hwm hwh ⊢
 have hp:0<w*h:=Int.mul_pos hw B.1
 obtain⟨K,eK⟩:∃K:Nat,w*h=K:=⟨(w*h).toNat,(EH (C0 hp)).symm⟩
 have m89:m<=89:=by exact O0 .le .v0 (.n 89) (.q .v0 (.a (.n 20) .v1) (.t .v1 (.n 70) .e)) rfl em m1
 have F:K<=89:=A9.mp (eK▸Au hwh m89)
 have D:∀k:Nat,k<=K->Dr [⟨m+y,h,b⟩] ((Ar k).map (mb b w h)):=λk hk=>oJ hw ⟨B.1,by exact Im .le .v0 (.n 1000000) (.l .v0 .n3 .e) rfl B.2⟩ ⟨by exact VD .le .v0 (.a .v1 .v2) (.l .v0 .v1 (.l .n0 .v2 .e)) rfl hwm w0,by exact VD .le (.a .v0 .v1) (.n 1000000) (.q .v0 (.a (.n 20) .v2) (.t .v1 .n3 (.t .v2 (.n 70) .e))) rfl em w1 m1⟩ (by exact VD .le .v0 .v1 (.l .v0 .v2 (.p .v1 .v2 .e)) rfl (A9.mpr hk) eK) (AF hk F)
 refine Sp (.inr ⟨Au (by decide) (C0 B.1),Au B.2 (by decide)⟩) ?_
 rw[eK]
 have lA:(σ++[O.list [V.str (AH "low"),.str (AH "left")]]).length=σ.length+1:=by rw[AI];rfl
 have lB:(σ++[O.list [V.str (AH "low"),.str (AH "left")]]++[O.list [Sh.v ⟨m+y,h,b⟩]]).length=σ.length+2:=by rw[AI,lA];rfl
 refine Mm (λk ρ' σ'=>∃a7 Z a9,σ<+:σ'/\σ'[σ.length+1]?=some (.list [Sh.v ⟨m+y,h,b⟩])/\σ'[σ.length+2]?=some (.list (((Ar k).map (mb b w h)).map En.one))/\ρ'=[.int c,.int m,.int h,WG b,.ref (σ.length+1),.int w,.ref (σ.length+2),a7,Z,a9,.undef]) ⟨by exact Im .le (.g (.n 1000000)) .v0 (.l .n0 .v0 .e) rfl (AQ _),by exact Im .le .v0 (.n 1000000) (.l .v0 (.n 89) .e) rfl (A9.mpr F)⟩ ⟨.undef,.undef,.undef,(AZ.trans AZ).trans AZ,?_,?_,?_⟩ (λk ρ' σ' R hk hI hR=>?_) λρ' σ' hI=>?_
 .rw[<- lA];exact AX Aa
 .rw[<- lB];exact Aa
 .rw[<- lA,<- lB];rfl
 .refine EJ hI λa7 Z a9 p eA M ze1=>?_;subst ze1
  have k9:k<90:=Ac (BH.mp hk) (Fm F)
  have sk:EO (k:Int)=true:=IK (Au (by decide) (AQ k)) (Au (A9.mpr (A4 k9)) (by decide))
  have nl:(Cp k).length<=30:=(by decide +kernel:∀k<90,(Cp (k:Nat)).length<=30) k k9
  have bl:(((Ar k).map (mb b w h)).map En.one).length<1000000:=by rw[AA,AA,BV];exact Ec .lt .v0 (.n 1000000) (.t .v0 (.n 90) .e) rfl k9
  have fin:∀u l:Int,(u=(mb b w h k).u)->(l=(mb b w h k).l)->∀Z a9,R [.int c,.int m,.int h,WG b,.ref (σ.length+1),.int w,.ref (σ.length+2),.int k,Z,a9,.undef] (σ'.set (σ.length+2) (.list (((Ar k).map (mb b w h)).map En.one++[V.tup [.str (qW k),.int 1,.int 1,.bool (decide ((k:Int) % 3=0)),.tup [.int 0,.int u,.int l,.bool false]]]))):=λu l hu hl Z a9=>by
   refine hR _ _ ⟨_,Z,a9,LC p (by exact Ec .le .v0 (.a .v0 .n2) .e rfl),BO (by exact λz0=>N6 (.q (.a .v0 .n2) (.a .v0 .n1) .e) rfl z0) eA,?_,rfl⟩
   rw[MB M,MX,Ai,Ai,hu,hl]
   rfl
  refine Zx ⟨hw,Au hwm (Au m89 (by decide))⟩ ?_
  refine IY hw ?_
  cases b with
  |true=>
   refine Z9 (by decide +kernel) ?_
   refine Kg M ?_
   refine Cu.str sk ?_
   refine Eb.RS (AF (BJ (by decide +kernel:(AH "b").length<=1) nl) (by decide)) ?_
   refine B5 rfl ?_
   refine Gq M (DS _) bl ?_
   exact fin _ _ rfl rfl _ _
  |false=>
   refine bR (by decide +kernel) ?_
   refine IY B.1 ?_
   refine Zx ⟨B.1,Au B.2 (by decide)⟩ ?_
   refine Kg M ?_
   refine Cu.str sk ?_
   refine Eb.RS (AF (BJ (by decide +kernel:(AH "b").length<=1) nl) (by decide)) ?_
   refine B5 rfl ?_
   refine Gq M (DS _) bl ?_
   exact fin _ _ rfl rfl _ _
 .refine EJ hI λa7 Z a9 p eA M ze1=>?_;subst ze1
  rw[A6] at M
  exact q ⟨m+y,h,b⟩ _ _ K _ _ _ (D K (Az _)) F p eA M
end
set_option maxHeartbeats 2000000
section
variable {d:Nat} {σ σ':Af} {Q:BS} {X:CP} {n k r S B P epB epP:Nat} {ss:List Sh} {es es':List En} {e:En} {xs:List Int}
theorem Yz{α:Type}{g f:α->V}{turn:V->Af->(Option V->Af->Prop)->Prop}{M:Af->Prop}{Q:List V->Af->Prop}(hs:∀σ',σ<+:σ'->M σ'):∀(l:List α) (acc:List V) (F:Af),σ<+:F->(∀x∈l,∀σ' (K:Option V->Af->Prop),σ<+:σ'->(∀Z,σ'<+:Z->K (some (f x)) Z)->turn (g x) σ' K)->(∀σ',σ<+:σ'->Q (acc++l.map f) σ')->Hf turn M (l.map g) acc F Q:=λl=>by
 induction l with
 |nil=>intro acc F p _ q;have:=q F p;rw[XE,Bl] at this;exact this
 |cons v l ih=>
  intro acc F p h q
  refine h v AL F _ p λσ2 p2=>⟨hs _ (p.trans p2),ih _ σ2 (p.trans p2) (λu hu=>h u (Ad _ hu)) λσ' p'=>?_⟩
  rw[Aq]
  exact q σ' p'
theorem gT{Z:Type}{l:List Z}{g:Z->V}(f:Z->V){turn:V->Af->(Option V->Af->Prop)->Prop}{Q:List V->Af->Prop}(e:σ[n]?=some (.list (l.map g)))(hz:l.length<=1000000)(h:∀x∈l,∀σ' (K:Option V->Af->Prop),σ<+:σ'->(∀M,σ'<+:M->K (some (f x)) M)->turn (g x) σ' K)(q:∀σ',σ<+:σ'->Q (l.map f) σ') :
  ∃items F,Ko σ .plain [.ref n] items F/\items.length<=Cb/\Hf turn F items [] σ Q:=
 ⟨_,_,.list e,by rw[AA];exact hz,Yz (λσ' p=>BP p e) l [] σ (A5 _) h q⟩
theorem dM(e:σ[n]?=some (.list (ss.map Sh.v)))(hl:1<=ss.length/\ss.length<=9)(hs:∀s∈ss,CI s.W/\CI s.H)(q:∀σ' S B P,Kp σ σ'->Rk 323 σ' (σ.length+1) ss [] S B P 0 0->B≠P->σ.length<=S->σ.length<=B->σ.length<=P->Q .none σ') :
  callW ER (d+2) 50 [.ref (σ.length+1),.ref n] (σ++[.ns [],.inst 323 σ.length]) Q X:=by
 have ex:ss.map Sh.v=(ss.map Sh.x).map Nu.v:=by rw[BW];rfl
 have h0:0<σ.length:=by have:=(AP.mp e).1;exact Dy .lt .n0 .v0 (.t .v1 .v0 .e) rfl this
 have em:(σ++[O.ns [],O.inst 323 σ.length])[σ.length]?=some (.ns []):=by rw[Ak (Az _),Fo];rfl
 have er:(σ++[O.ns [],O.inst 323 σ.length])[σ.length+1]?=some (.inst 323 σ.length):=by rw[Ak (A0 _ _),BI];rfl
 have WG:∀{s:Sh},s.x.s="low"\/s.x.s="left":=λ{s}=>by unfold Sh.x;cases s.b;exact .inr rfl;exact .inl rfl
 have fit:fL (ss.map Sh.x):=⟨by rw[AA];exact hl,λx Z=>by
  refine AW (Ab.mp Z) λs M F=>?_;subst F
  exact⟨(hs s M).1,(hs s M).2,WG⟩⟩
 rw[ex] at e
 refine l9 (AX e) (λx Z=>by
  refine AW (Ab.mp Z) λs _ F=>?_;subst F
  exact WG.elim (λz=>by rw[z];decide +kernel) λz=>by rw[z];decide +kernel) er em (Bu h0) (by rw[AA];exact Ec .le .v0 (.n 1000) (.l .v0 (.n 9) .e) rfl hl.2) (λ_ σ' S B P kp eN eS eB eP hBP hS hB hP=>?_) λz=>absurd fit z
 rw[<- ex] at eS
 rw[AI] at hS hB hP
 exact q σ' S B P (λx o h=>kp x o (Bo (AP.mp h).1) (AX h)) ⟨⟨σ.length,kp _ _ (by exact λz0=>N6 (.q (.a .v0 .n1) .v0 .e) rfl z0) er,eN⟩,eS,eB,eP⟩ hBP (by exact HW .le .v0 .v1 (.l (.a .v0 .v2) .v1 .e) rfl hS) (by exact HW .le .v0 .v1 (.l (.a .v0 .v2) .v1 .e) rfl hB) (by exact HW .le .v0 .v1 (.l (.a .v0 .v2) .v1 .e) rfl hP)
theorem Any.y4(A:Any ss (es0++e::rest)):JD ss es0 none e:=by
 refine Kw (A.ins e (BB _ AL)) λsh M h2 h3 h4 h5 Z=>?_
 exact fg M h2 h3 h4 h5 Z λx hx F=>Ng (a:=x) (b:=e) ((BY.mp A.apart).2.2 x hx e AL) F.symm
theorem Dr.rH(D:Dr ss es)(hp:es'.Perm es):∀r∈ss.map DC++es'.map C9,GU r:=Ii D.PY.1 λr Z=>by
 refine AW (Ab.mp Z) λe F M=>?_;subst M
 exact D.PY.2 _ (GB (hp.mem_iff.mp F))
theorem Dr.x4(D:Dr ss es)(hp:es'.Perm es):cY (DN (ss.map DC++es'.map C9)):=by
 have M:=D.rH hp
 have hn:=D.n
 have Z:=D.len
 have ll:(ss.map DC++es'.map C9).length<=100:=by rw[AI,AA,AA,hp.length_eq];exact Dy .le (.a .v0 .v1) (.n 100) (.l .v0 (.n 9) (.l .v1 (.n 89) .e)) rfl hn.2 Z
 refine⟨Lv M,Al (JA (by exact Ec .le .v0 (.n 800) (.l .v0 (.n 100) .e) rfl ll) M) (by decide),by rw[Mf λr hr=>(M r hr).nl];exact Ec .le .v0 (.n 1000) (.l .v0 (.n 100) .e) rfl ll,λys bs h=>?_⟩
 rw[D.note λe F=>hp.mem_iff.mp F] at h
 cases AG h
 refine⟨by rw[AA,hp.length_eq];exact Ec .lt .v0 (.n 127) (.l .v0 (.n 89) .e) rfl Z,λb hb=>?_⟩
 refine AW (Ab.mp hb) λe F ze=>?_;subst ze
 exact AF (MJ (D.good e (hp.mem_iff.mp F))) (by decide)
theorem bS(D:Dr ss es)(hp:es'.Perm es)(h0:0<σ.length)(q:∀r S B P M F σ',σ<+:σ'->Rk 323 σ' r ss es' S B P M F->B≠0->P≠0->B≠P->Q (.ref r) σ'):callW ER (d+5) 23 [.str (DN (ss.map DC++es'.map C9))] σ Q X:=by
 refine T3 (D.x4 hp) h0 (λss2 es2 r S B P M F σ' hr _ p R hB hP Z=>?_) λk hr=>?_
 .have:=Hw hr (D.read hp)
  cases this
  exact q r S B P M F σ' p R hB hP Z
 .have:=Hw hr (D.read hp)
  cases this
end
set_option maxHeartbeats 2000000
section
variable {d:Nat} {σ σ':Af} {Q:BS} {X:CP} {n k r S B P epB epP:Nat} {ss:List Sh} {es es':List En} {e:En} {xs:List Int}
structure bw(xs:List Int)(ss:List Sh)(es:List En)(a b:Nat)(σ:Af):Prop where
 d:Dr ss es
 n:Iw (MO (cellAt xs 1))
 f:∀x,(MO (cellAt xs 1))[16]?=some x->x∉es.map (·.name)
 x:σ[0]?=some (.list (xs.map .int))
 t:TabAt 294 σ 181 39 Lz
 a:σ[a]?=some (.list (ss.map Sh.v))
 b:σ[b]?=some (.list (es.map En.one))
theorem bw.kl{a b:Nat}(h:bw xs ss es a b σ)(k:Kl σ σ'):bw xs ss es a b σ':=⟨h.d,h.n,h.f,k.list _ _ h.x,k.tab h.t,k.list _ _ h.a,k.list _ _ h.b⟩
theorem bw.pos{a b:Nat}(h:bw xs ss es a b σ):0<σ.length:=Al (BM _) (AP.mp h.x).1
theorem bw.fresh{a b:Nat}(h:bw xs ss es a b σ):∃x y,kF (MO (cellAt xs 1)) es x y:=by
 have Z:=h.n.len
 have F:=AO (l:=MO (cellAt xs 1)) (i:=16) (by exact Ec .lt (.n 16) .v0 (.p .v0 (.n 17) .e) rfl Z)
 have M:=AO (l:=MO (cellAt xs 1)) (i:=15) (by exact Ec .lt (.n 15) .v0 (.p .v0 (.n 17) .e) rfl Z)
 refine⟨_,_,M,F,(h.n.good _ (Ae F)).good,(h.n.good _ (Ae M)).good,λz=>?_,h.f _ F⟩
 have:=QK h.n F (by rw[z];exact M)
 exact YM [] (.q (.n 16) (.n 15) .e) rfl this
abbrev NF(v:V)(σ:Af):Prop:=v=.bool true/\∃o,σ[1]?=some o/\(o=.tab 294\/∃ln col m,o=.row 294 ln col m)
theorem fy(t:TabAt 294 σ 181 39 Lz):NF (.bool true) σ:=by
 cases t with
 |tab h=>exact⟨rfl,_,h,.inl rfl⟩
 |row m h _=>exact⟨rfl,_,h,.inr ⟨_,_,_,rfl⟩⟩
theorem ti(M:σ[0]?=some (.list (xs.map .int)))(ht:TabAt 294 σ 181 39 Lz)(hR:∀ss es a b σ',bw xs ss es a b σ'->R [.ref 0,.ref a,.ref b,.undef,.undef,.undef,.undef,.undef,.undef,.undef,.undef,.undef,.undef,.undef,.undef,.undef,.undef,.undef] σ') :
  Ek (IM.body.take 2) (callW ER (d+2)) [.ref 0,.undef,.undef,.undef,.undef,.undef,.undef,.undef,.undef,.undef,.undef,.undef,.undef,.undef,.undef,.undef,.undef,.undef] σ (L4 R Pq):=by
 dsimp only[IM,QJ]
 refine oy M λss es a b σ1 D N hl p ea eb=>?_
 have F:=BP p M
 have t1:=(Kl.pre p).tab ht
 have bl:=D.len
 refine GX (k:=2) F (by decide) ?_
 refine EK rfl ?_
 refine B5 rfl ?_
 refine Ca (λh=>?_) λh=>?_
 .refine GX (k:=3) F (by decide) ?_
  refine Eb.pow (n:=9) (by decide) (by decide) ?_
  refine IY (by decide) ?_
  refine t8 (λs w h m a b σ2 D2 h89 p2 Z eb2=>?_) (Al (BM _) (AP.mp F).1)
  exact hR _ _ _ _ _ ⟨D2,N,λx M=>iH h89 N M,BP p2 F,(Kl.pre p2).tab t1,Z,eb2⟩
 .exact hR _ _ _ _ _ ⟨D.q.dr hl (by exact Dy .le .v0 (.n 89) (.l .v0 (.m 2 .v1) (.w 2 (.l .v1 (.n 9) .e))) rfl bl hl.2),N,λx M=>D.new N M,F,t1,ea,eb⟩
theorem rj(G:bw xs ss es a b σ)(hR:∀o1 o2 w c m σ',Kl σ σ'->σ'[o1]?=some (.list ((ss.map DC).map .str))->σ'[o2]?=some (.list ((es.map C9).map .str))->R [.ref 0,.ref a,.ref b,.ref o1,.undef,.ref o2,.int w,.int c,.int m,.undef,.undef,.undef,.undef,.undef,.undef,.undef,.undef,.undef] σ') :
  Ek ((IM.body.drop 2).take 5) (callW ER (d+2)) [.ref 0,.ref a,.ref b,.undef,.undef,.undef,.undef,.undef,.undef,.undef,.undef,.undef,.undef,.undef,.undef,.undef,.undef,.undef] σ (L4 R Pq):=by
 dsimp only[IM,QJ,QF]
 have D:=G.d
 have hn:=D.n
 have hl:=D.len
 refine gT (g:=Sh.v) (λs=>.str (DC s)) G.a (by exact Ec .le .v0 (.n 1000000) (.l .v0 (.n 9) .e) rfl hn.2) (λs hs M K p hK=>?_) λM p1=>?_
 .exact sE (D.sh s hs) λ_=>hK _ (A5 _)
 have g1:=G.kl (Kl.pre (p1.trans (AZ (τ:=[O.list (ss.map λs=>V.str (DC s))]))))
 refine gT (g:=En.one) (λe=>.str (C9 e)) g1.b (by exact Ec .le .v0 (.n 1000000) (.l .v0 (.n 89) .e) rfl hl) (λe he F K p hK=>?_) λF p2=>?_
 .exact sD (je D he) λσ3 p3 _=>hK _ p3
 have k2:Kl σ (F++[O.list (es.map λe=>V.str (C9 e))]):=Kl.pre ((p1.trans AZ).trans (p2.trans AZ))
 have Z:=G.kl k2
 refine GX (k:=2) Z.x (by decide) ?_
 refine B5 rfl ?_
 refine GX (k:=3) Z.x (by decide) ?_
 refine GX (k:=4) Z.x (by decide) ?_
 refine Ql rfl ?_
 refine B5 rfl ?_
 refine hR _ _ _ _ _ _ k2 ?_ ?_
 .rw[BW];exact BP (p2.trans AZ) Aa
 .rw[BW];exact Aa
noncomputable abbrev yY:List Sx:=[BR (.var 9) (A2 44 [AD 3,AD 5,AD 7,AD 8]),Fy (Bj (AD 6) [.Eq] [AU 5]) [BR (.var 9) (A2 47 [AD 3,AD 5,AD 7,AD 8,A2 25 [A2 24 [AD 0,AU 1]]])] [],CE (KC true [Jh (Bj (A2 39 [AD 9]) [.Eq] [BE "note"]),Jh (Bj (A2 40 [AD 9]) [.Eq] [BE "note"]),A2 41 [AD 9]])]
theorem tc(h:nB x)(Z:0<σ.length)(q:∀σ',σ<+:σ'->Q (.bool true) σ') :
  KC true [Jh (Bj (A2 39 [AD 9]) [.Eq] [BE "note"]),Jh (Bj (A2 40 [AD 9]) [.Eq] [BE "note"]),A2 41 [AD 9]] (callW ER (d+6)) [v0,v1,v2,v3,v4,v5,v6,v7,v8,.str x,v10,M,F,v13,v14,v15,v16,v17] σ Q X:=
 Zu (x:=x) (k:=104) (y:="note") rfl (λσ Q h=>h) (λσ Q h=>h) rfl h.rd Z h.no q
theorem sF(G:bw xs ss es a b σ)(e1:σ[o1]?=some (.list ((ss.map DC).map .str)))(e2:σ[o2]?=some (.list ((es.map C9).map .str)))(hK:∀ρ σ',TabAt 294 σ' 181 39 Lz->K (.ret (.bool true)) ρ σ') :
  Ek yY (callW ER (d+6)) [.ref 0,.ref a,.ref b,.ref o1,.undef,.ref o2,.int w,.int c,.int m,.undef,.undef,.undef,.undef,.undef,.undef,.undef,.undef,.undef] σ K:=by
 have fin:∀{x:Str} {M:Af},nB x->Kl σ M->Ek [CE (KC true [Jh (Bj (A2 39 [AD 9]) [.Eq] [BE "note"]),Jh (Bj (A2 40 [AD 9]) [.Eq] [BE "note"]),A2 41 [AD 9]])] (callW ER (d+6)) [.ref 0,.ref a,.ref b,.ref o1,.undef,.ref o2,.int w,.int c,.int m,.str x,.undef,.undef,.undef,.undef,.undef,.undef,.undef,.undef] M K:=λ{x M} h Z=>by
  exact tc h (G.kl Z).pos λσ' p'=>hK _ _ ((Z.trans (Kl.pre p')).tab G.t)
 refine iA (d:=d+3) G.d e1 e2 λx M hn p=>?_
 refine Ca (λh=>?_) λh=>?_
 .have g1:=G.kl (Kl.pre p)
  refine GX (k:=1) g1.x (by decide) ?_
  refine OH λN=>?_
  refine FR G.fresh λu v F=>?_
  refine Ul (d:=d+3) G.d (AX (BP p e1)) (AX (BP p e2)) Aa F λy σ2 hy p2=>?_
  exact fin hy (Kl.pre ((p.trans AZ).trans p2))
 .exact fin hn (Kl.pre p)
end
set_option maxHeartbeats 2000000
section
variable {d:Nat} {σ σ':Af} {Q:BS} {X:CP} {n k r S B P epB epP:Nat} {ss:List Sh} {es es':List En} {e:En} {xs:List Int}
noncomputable abbrev xu:List Sx:=[BR (.tup [9,10]) (A2 45 [AD 3,AD 5,AD 7,AD 8,A2 25 [A2 24 [AD 0,AU 1]]]),CE (A2 46 [AD 9,AD 10,AD 8])]
theorem sM(G:bw xs ss es a b σ)(Z:σ[o1]?=some (.list ((ss.map DC).map .str)))(e2:σ[o2]?=some (.list ((es.map C9).map .str)))(hK:∀ρ σ',TabAt 294 σ' 181 39 Lz->K (.ret (.bool true)) ρ σ') :
  Ek xu (callW ER (d+7)) [.ref 0,.ref a,.ref b,.ref o1,.undef,.ref o2,.int w,.int c,.int m,.undef,.undef,.undef,.undef,.undef,.undef,.undef,.undef,.undef] σ K:=by
 dsimp only[xu]
 refine GX (k:=1) G.x (by decide) ?_
 refine OH λN=>?_
 refine FR G.fresh λu v F=>?_
 refine aN (d:=d+5) G.d (AX Z) (AX e2) Aa F λR k M W hl p=>?_
 have k1:Kl σ M:=Kl.pre (AZ.trans p)
 refine oY W hl (G.kl k1).pos λσ2 p2=>?_
 exact hK _ _ ((k1.trans (Kl.pre p2)).tab G.t)
theorem RH{F M:Type}{f:F->M}{c:Nat}{l:List F}:(turn c l).map f=turn c (l.map f):=by
 unfold turn
 rw[Ai,List.map_reverse,K8,JR]
theorem gr{c:Nat}:HS vs (min (c:Int).toNat vs.length) vs.length=vs.drop c:=by
 unfold HS
 rw[A6,Bz]
 by_cases h:c<=vs.length
 .rw[C3 h]
 .rw[C6 (by exact Dy .le .v0 .v1 (.m .v1 .v0 .e) rfl h),EV,Ls (by exact Dy .le .v0 .v1 (.m .v1 .v0 .e) rfl h)]
theorem gD{c:Nat}:HS vs 0 (min (c:Int).toNat vs.length)=vs.take c:=by
 unfold HS
 rw[A6,KZ]
 by_cases h:c<=vs.length
 .rw[C3 h]
 .rw[C6 (by exact Dy .le .v0 .v1 (.m .v1 .v0 .e) rfl h),Bz,Dd (by exact Dy .le .v0 .v1 (.m .v1 .v0 .e) rfl h)]
theorem qC{c:Nat}(e:σ[n]?=some (.list vs))(F:c<=1000)(hl:vs.length<=1000)(q:∀m σ',σ<+:σ'->σ'[m]?=some (.list (turn c vs))->Q (.ref m) σ'):Ah .Add (dg (DD (AD 2) (some (AD 11)) none)) (DD (AD 2) none (some (AD 11))) C [v0,v1,.ref n,v3,v4,v5,v6,v7,v8,v9,v10,.int c,M,v13,Z,v15,v16,v17] σ Q X:=by
 refine OZ e (AQ _) (by exact Im .le .v0 (.n 1000000) (.l .v0 (.n 1000) .e) rfl (A9.mpr F)) ?_
 rw[gr]
 refine hY.mk Aa ?_
 refine Lu (AX (AX e)) (AQ _) (by exact Im .le .v0 (.n 1000000) (.l .v0 (.n 1000) .e) rfl (A9.mpr F)) ?_
 rw[gD]
 refine Eb.Pj (AX Aa) Aa (by rw[BZ,CC,B2,Nat.min_comm,Zh];exact AF hl (by decide)) ?_
 exact q _ _ (AZ.trans (AZ.trans (AZ.trans AZ))) Aa
theorem nk{c:Nat}(e:σ[n]?=some (.list vs))(F:c<=1000)(hl:vs.length<=1000)(q:∀m σ',σ<+:σ'->σ'[m]?=some (.list (turn c vs))->Q (.ref m) σ'):Ah .Add (dg (DD (AD 5) (some (AD 11)) none)) (DD (AD 5) none (some (AD 11))) C [v0,v1,v2,v3,v4,.ref n,v6,v7,v8,v9,v10,.int c,M,v13,Z,v15,v16,v17] σ Q X:=by
 refine OZ e (AQ _) (by exact Im .le .v0 (.n 1000000) (.l .v0 (.n 1000) .e) rfl (A9.mpr F)) ?_
 rw[gr]
 refine hY.mk Aa ?_
 refine Lu (AX (AX e)) (AQ _) (by exact Im .le .v0 (.n 1000000) (.l .v0 (.n 1000) .e) rfl (A9.mpr F)) ?_
 rw[gD]
 refine Eb.Pj (AX Aa) Aa (by rw[BZ,CC,B2,Nat.min_comm,Zh];exact AF hl (by decide)) ?_
 exact q _ _ (AZ.trans (AZ.trans (AZ.trans AZ))) Aa
theorem tM(D:Dr ss es)(hp:es'.Perm es)(R0:Rk 323 σ r ss [] S B P epB epP)(hB:B≠0)(hP:P≠0)(hBP:B≠P)(k0:Kl σ0 σ)(em:σ[m]?=some (.list (es'.map En.one)))(hR:∀a4 M F σ',Kl σ0 σ'->Rk 323 σ' r ss es' S B P M F->R [.ref 0,.ref a,.ref b,.ref o1,a4,.ref o2,.int w,.int c,.int mo,.undef,.undef,.int cu,.ref r,.undef,.undef,.undef,.undef,.undef] σ') :
  ∃items same,Ko σ .plain [.ref m] items same/\Nb (MF (callW ER (d+4)) (.var 4) [Eh (FO 323 "put_at" 55 (AD 12) [A8 (AD 4) (AU 0),A8 (AD 4) (AU 1),A8 (AD 4) (AU 2),A8 (AD 4) (AU 3),A8 (AD 4) (AU 4)])]) same items [.ref 0,.ref a,.ref b,.ref o1,a4,.ref o2,.int w,.int c,.int mo,.undef,.undef,.int cu,.ref r,.undef,.undef,.undef,.undef,.undef] σ (L4 R Pq):=by
 have A:=D.any hp
 have E:=D.qT hp
 refine HV (λi ρ' σ'=>∃a4 M F,Kl σ σ'/\Rk 323 σ' r ss (es'.take i) S B P M F/\ρ'=[.ref 0,.ref a,.ref b,.ref o1,a4,.ref o2,.int w,.int c,.int mo,.undef,.undef,.int cu,.ref r,.undef,.undef,.undef,.undef,.undef]) em ⟨_,_,_,.refl,R0,rfl⟩ (λi v ρ' σ' R' hv hI hR'=>?_) λρ' σ' hI=>?_
 .refine CW hI λa4 M F kl R1 ze1=>?_;subst ze1
  refine AW (List.CA hv) λe he ze=>?_;subst ze
  have hm:=Ae he
  have hi:=AP.mp he
  have e1:es'=es'.take i++e::es'.drop (i+1):=by rw[<- hi.2,List.getElem_cons_drop,Gp]
  have cs:JD ss (es'.take i) none e:=Any.y4 (rest:=es'.drop (i+1)) (by rw[<- e1];exact A)
  have hf:e.name∉(es'.take i).map (·.name):=λm=>by
   have:=A.nodup
   rw[e1,Ai,B6,G5] at this
   exact this.2.2 _ m _ AL rfl
  have E1:Oq ss (es'.take i):=⟨by rw[JR];exact E.nodup.sublist (Pa ..),λx hx=>E.num x (D0 hx),λx hx=>E.str x (D0 hx),Zp E.len⟩
  have hg:=A.good e hm
  have hz:=A.sz e hm
  refine WJ ?_
  refine E6 R1.at_ (by decide +kernel) ?_
  dsimp only[En.one,En.pl]
  refine Zy R1 (Jo hg) (AF (MJ hg) (by decide)) (AF D.n.2 (by decide)) E1 hB hP hBP (λ_ _ _ _ k σ2 Z ep4 hk _ p2=>?_) (λh=>absurd ⟨hg,hz⟩ h) (λ_ _ _ h=>absurd h hf) λ_ _ _ _ h=>absurd cs (h e.n rfl)
  cases EN hk
  have R2:Rk 323 σ2 r ss (es'.take i) S B P M F:=R1.keeps λ_ _ h=>BP p2 h
  have kl2:Kl σ (stood σ2 B P Z ep4 (es'.take i++[e])):=kl.trans ((Kl.pre p2).trans (Kl.stood R2 Z ep4))
  refine hR' _ _ (kl2.list _ _ em) ⟨_,Z,ep4,kl2,?_,rfl⟩
  rw[HF he]
  exact R2.stood hBP Z ep4
 .refine CW hI λa4 M F kl R1 ze1=>?_;subst ze1
  rw[AA,Bz] at R1
  exact hR _ _ _ _ (k0.trans kl) R1
end
set_option maxHeartbeats 2000000
section
variable {d:Nat} {σ σ':Af} {Q:BS} {X:CP} {n k r S B P epB epP:Nat} {ss:List Sh} {es es':List En} {e:En} {xs:List Int}
theorem rf(G:bw xs ss es a b σ)(e2:σ[o2]?=some (.list ((es.map C9).map .str)))(hR:∀cu a4 r S B P M F σ',cu<=1000->Kl σ σ'->Rk 323 σ' r ss (turn cu es) S B P M F->R [.ref 0,.ref a,.ref b,.ref o1,a4,.ref o2,.int w,.int c,.int m,.undef,.undef,.int (cu:Nat),.ref r,.undef,.undef,.undef,.undef,.undef] σ') :
  Ek ((IM.body.drop 9).take 3) (callW ER (d+4)) [.ref 0,.ref a,.ref b,.ref o1,.undef,.ref o2,.int w,.int c,.int m,.undef,.undef,.undef,.undef,.undef,.undef,.undef,.undef,.undef] σ (L4 R Pq):=by
 dsimp only[IM,QJ,QF]
 have D:=G.d
 have hn:=D.n
 have hl:=D.len
 refine Cu.LQ e2 ?_
 rw[AA,AA]
 refine IY (by exact Im .lt .n0 (.a .v0 .n1) (.l .n0 .v0 .e) rfl (AQ _)) ?_
 refine AW (LG (c:=c) (It es.length)) λcu Z ecu=>?_
 rw[show (((es.length:Nat):Int)+1)=((es.length+1:Nat):Int) by exact C5 (O0 .le (.a .v0 .n1) .v1 (.p .v1 (.a .v0 .n1) .e) rfl (C2 _ _)) (O0 .le .v0 (.a .v1 .n1) (.q .v0 (.a .v1 .n1) .e) rfl (C2 _ _)),ecu]
 refine Cu.list G.a ?_
 have k1:Kl σ (σ++[O.list (ss.map Sh.v)]):=Kl.pre AZ
 have g1:=G.kl k1
 refine dM Aa hn D.sh λσ2 S B P kp2 R2 hBP hS hB hP=>⟨rfl,?_⟩
 have k2:Kl σ σ2:=k1.trans ⟨λx vs h=>kp2 x _ h,λt=>t.keeps kp2⟩
 have g2:=G.kl k2
 have p0:=g1.pos
 refine qC g2.b (by exact Dy .le .v0 (.n 1000) (.t .v0 (.a .v1 .n1) (.l .v1 (.n 89) .e)) rfl Z hl) (by rw[AA];exact Ec .le .v0 (.n 1000) (.l .v0 (.n 89) .e) rfl hl) λmm σ3 p3 em=>?_
 rw[<- RH] at em
 refine tM D Oy (R2.keeps λ_ _ h=>BP p3 h) (by exact λz0=>W0 (.q .v0 .n0 (.t .n0 .v1 (.l .v1 .v0 .e))) rfl z0 p0 hB) (by exact λz0=>W0 (.q .v0 .n0 (.t .n0 .v1 (.l .v1 .v0 .e))) rfl z0 p0 hP) hBP (k2.trans (Kl.pre p3)) em λa4 M F σ' kl R'=>?_
 exact hR cu a4 _ S B P M F σ' (by exact Dy .le .v0 (.n 1000) (.t .v0 (.a .v1 .n1) (.l .v1 (.n 89) .e)) rfl Z hl) kl R'
theorem sP(G:bw xs ss es a b σ)(e1:σ[o1]?=some (.list ((ss.map DC).map .str)))(e2:σ[o2]?=some (.list ((es.map C9).map .str)))(hc:cu<=1000)(R:Rk 323 σ r ss (turn cu es) S B P epB epP) :
  Ek (IM.body.drop 12) (callW ER (d+7)) [.ref 0,.ref a,.ref b,.ref o1,a4,.ref o2,.int w,.int c,.int m,.undef,.undef,.int cu,.ref r,.undef,.undef,.undef,.undef,.undef] σ (Jt NF λ_ _=>False):=by
 have D:=G.d
 have hn:=D.n
 have hl:=D.len
 have tp:=Oy (c:=cu) (l:=es)
 have ll:∀{es':List En},es'.Perm es->(ss.map DC++es'.map C9).length<=800:=λh=>by rw[AI,AA,AA,h.length_eq];exact Dy .le (.a .v0 .v1) (.n 800) (.l .v0 (.n 9) (.l .v1 (.n 89) .e)) rfl hn.2 hl
 have ts:∀{es':List En},es'.Perm es->kL (ss.map DC++es'.map C9):=λh=>⟨ll h,λr hr=>(D.rH h r hr).len⟩
 refine d0 (d:=d+3) R (D.qT tp) (D.two cu) G.t hn.2 (λs hs=>⟨GS (D.sh s hs).1,GS (D.sh s hs).2⟩) (λe he=>je D (tp.mem_iff.mp he)) (Ac (by decide:1<2) (by
  have t:=G.t.ex
  refine AW t λo ho _=>?_
  exact(AP.mp ho).1)) λp σ1 kp1 t1 hpm hpw=>?_
 rw[D.order tp hpm hpw,Tq]
 have k1:Kl σ σ1:=⟨λx vs h=>kp1 x _ (G.t.ne1 h) h,λ_=>t1⟩
 have g1:=G.kl k1
 refine Cu.wY ?_
 have ex:=Lv D.M1
 refine FU (k1.list _ _ e1) (k1.list _ _ e2) (by rw[AA,AA];exact Dy .le (.a .v0 .v1) (.n 1000) (.l .v0 (.n 9) (.l .v1 (.n 89) .e)) rfl hn.2 hl) ?_
 refine NN Aa (ts (ET _)) λσ2 p2=>?_
 refine QM ex.ok ex.ok (λz=>absurd rfl z) λ_=>?_
 have k2:Kl σ σ2:=k1.trans (Kl.pre (AZ.trans p2))
 refine nk (k2.list _ _ e2) hc (by rw[AA,AA];exact Ec .le .v0 (.n 1000) (.l .v0 (.n 89) .e) rfl hl) λmt σ3 p3 em=>?_
 rw[<- RH,<- RH] at em
 have k3:Kl σ σ3:=k2.trans (Kl.pre p3)
 refine bS (d:=d+2) D (ET _) (G.kl k3).pos λr' S' B' P' ep1 ep2 σ4 p4 R4 hB hP hBP=>?_
 have k4:Kl σ σ4:=k3.trans (Kl.pre p4)
 have g4:=G.kl k4
 refine bB (d:=d+4) R4 D (ET _) D.x8 g4.t g4.a g4.b λM kp5 t5=>?_
 have k5:Kl σ4 M:=⟨λx vs h=>kp5 x _ (g4.t.ne1 h) h,λ_=>t5⟩
 have g5:=g4.kl k5
 have R5:Rk 323 M r' ss es S' B' P' ep1 ep2:=R4.RT g4.t kp5
 refine GX (k:=1) g5.x (by decide) ?_
 refine OH λN=>?_
 refine FR G.fresh λu v F=>?_
 refine Eg (v:=.str u) Aa rfl (by rw[As];show I0 V.str (MO (cellAt xs 1))[16]?=_;rw[F.xy];rfl) ?_
 have k6:Kl σ (M++[O.list ((MO (cellAt xs 1)).map .str)]):=(k4.trans k5).trans (Kl.pre AZ)
 have g6:=G.kl k6
 have em6:(M++[O.list ((MO (cellAt xs 1)).map .str)])[mt]?=some (.list (((turn cu es).map C9).map .str)):=(((Kl.pre p4).trans k5).trans (Kl.pre AZ)).list _ _ em
 have R6:Rk 323 (M++[O.list ((MO (cellAt xs 1)).map .str)]) r' ss es S' B' P' ep1 ep2:=R5.keeps λ_ _ h=>AX h
 generalize M++[O.list ((MO (cellAt xs 1)).map .str)]=σ6 at *
 have fin:∀{Z:Af} {ep3 ep4:Nat},Kl σ6 Z->Rk 323 Z r' ss es S' B' P' ep3 ep4->Ek [Fy (JK (Hm (A2 38 [AD 15,AD 1,AD 2]))) [CE (Fe false)] [],
  CE (A2 30 [A2 23 [A2 29 [Ah .Add (AD 3) (AD 14)]],AD 1,AD 2])] (callW ER (d+7)) [.ref 0,.ref a,.ref b,.ref o1,a4,.ref o2,.int w,.int c,.int m,.undef,.undef,.int cu,.ref r,.str (DN (ss.map DC++es.map C9)),.ref mt,.ref r',.str u,.undef] Z (Jt NF λ_ _=>False):=λ{Z ep3 ep4} k7 R7=>by
  have g7:=g6.kl k7
  refine dH R7 D hB hP hBP g7.t g7.a g7.b λσ8 k8=>?_
  have g8:=g7.kl k8
  have kk:Kl σ σ8:=k6.trans (k7.trans k8)
  refine FU (kk.list _ _ e1) ((k7.trans k8).list _ _ em6) (by rw[AA,AA,tp.length_eq];exact Dy .le (.a .v0 .v1) (.n 1000) (.l .v0 (.n 9) (.l .v1 (.n 89) .e)) rfl hn.2 hl) ?_
  refine NN Aa (ts tp) λσ9 p9=>?_
  have k9:Kl σ8 σ9:=Kl.pre (AZ.trans p9)
  refine bS (d:=d+2) D tp (g8.kl k9).pos λr'' S'' B'' P'' ep5 ep6 σ10 p10 R10 _ _ _=>?_
  have g10:=g8.kl (k9.trans (Kl.pre p10))
  exact bB (d:=d+4) R10 D tp (D.two cu) g10.t g10.a g10.b λσ11 _ t11=>fy t11
 refine Cu.LQ g6.b ?_
 rw[AA]
 refine Ca (λh18=>?_) λh18=>?_
 .refine iB R6 D (BH.mp h18) F.good F.new hB hP hBP g6.a g6.b λep3 ep4 Z k7 R7=>?_
  exact fin k7 R7
 .exact fin .refl R6
theorem tV(xs:List Int):callW ER 60 49 [.ref 0] [.list (xs.map .int),.tab 294] NF (λ_ _=>False):=by
 refine BG (fn:=IM) rfl rfl ?_
 refine LO 2 (ti (d:=57) rfl (.tab rfl) λss es a b σ G=>?_)
 refine kE 5 (rj (d:=57) G λo1 o2 w c m Z k1 e1 e2=>?_)
 have G:=G.kl k1
 have F:=sF (d:=53) (w:=w) (c:=c) (m:=m) (K:=L4 (λρ1 Z=>Ek (IM.body.drop 8) (callW ER 59) ρ1 Z (Jt NF λ_ _=>False)) (Jt NF λ_ _=>False)) G e1 e2 λρ σ' t=>fy t
 have M:=sM (d:=52) (w:=w) (c:=c) (m:=m) (K:=L4 (λρ1 Z=>Ek (IM.body.drop 9) (callW ER 59) ρ1 Z (Jt NF λ_ _=>False)) (Jt NF λ_ _=>False)) G e1 e2 λρ σ' t=>fy t
 dsimp only[IM,QF] at F M
 refine Ca (λ_=>?_) λ_=>?_
 .exact F
 refine Ca (λ_=>?_) λ_=>?_
 .exact F
 refine Ca (λ_=>?_) λ_=>?_
 .exact F
 refine Ca (λ_=>?_) λ_=>?_
 .exact M
 refine(?_:Ek (IM.body.drop 9) (callW ER 59) [.ref 0,.ref a,.ref b,.ref o1,.undef,.ref o2,.int w,.int c,.int m,.undef,.undef,.undef,.undef,.undef,.undef,.undef,.undef,.undef] Z (Jt NF λ_ _=>False))
 refine LO 3 (rf (d:=55) G e2 λcu a4 r S B P ep1 ep2 σ2 hc k2 R=>?_)
 exact sP (d:=52) (G.kl k2) (k2.list _ _ e1) (k2.list _ _ e2) hc R
theorem u4(xs:List Int):callW (dX.map (·.1)) 60 49 [.ref 0] [.list (xs.map .int),.tab 294] NF (λ_ _=>False):=tV xs
end
end Mine.Internal

namespace Mine.Internal
open PySem PySem.Calls PySem.W PyProof.Rows
set_option maxRecDepth 100000 in
theorem sq : LeftO PySem.Challenge.pw_uf030015_14 fI [] (US cJ) (fun _ => ()) (fun _ => ()) 11000 := rX rfl rfl (fun _ => rfl) u6
end Mine.Internal
open PySem PySem.W PyProof.Rows
set_option maxRecDepth 100000 in
set_option maxHeartbeats 8000000 in
theorem PySem.Challenge.cw_uf030015_14_holds : PySem.Challenge.rw_uf030015_14.Holds := by
  w_on
  refine holds_law Mine.Internal.uG fun said => ?_
  refine PySem.W.holds_open (XP := Mine.Internal.N3 Mine.Internal.cJ) (YP := fun _ _ => True) Mine.Internal.sq (fun _ _ _ => trivial) (fun _ _ _ _ _ => trivial) (fun _ h => Mine.Internal.n6 h) (fun _ _ _ x k => x.keeps k) (by rfl) (by rfl) (by rfl) (fun s _ => recFacts_nil rfl) (by rfl) (by assumption) (by decide +kernel) ⟨rfl, rfl, rfl, rfl, rfl, by decide +kernel⟩ ?hw ?hc
  case hw => w_witness2
  intro w s₀ s₁ mg mb G Y fa o pm cd doc dV kV ho hd hcd hD hmg hg args vals as hpre hlay hrd hwl hlo
  have T := Ground.T G
  have TE := Ground.TE G
  have X := Ground.X G
  wrow_args hpre hlay hrd hwl hlo
  refine enter_call ?_
  obtain ⟨vs, e, hv⟩ := Mine.Internal.dE ‹Well _ _ _ _›
  refine Mine.Internal.tY (P := Mine.Internal.dX) (extra := 1) (i := 49) (d := 60) T TE X Mine.Internal.pG Mine.Internal.nI Mine.Internal.i7 Mine.Internal.wq (by kernel_rfl) (by decide) (by decide) hmg hg e hv (by omega) (fun _ => rfl) ?_ (Mine.Internal.u4 _)
  wrow_post